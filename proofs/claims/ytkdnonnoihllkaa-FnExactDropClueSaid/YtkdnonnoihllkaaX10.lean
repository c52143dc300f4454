-- Written by a program of this session (wip/tools/mp.py) over the kit's print of the translation.
import Derived.Test.YtkdnonnoihllkaaX0
namespace Go.Proofs.Ytkdnonnoihllkaa.X
open Go.Proofs.Ytkdnonnoihllkaa.Sq Go.RowKit Go.Proofs.YtkdnonnoihllkaaW.PrintWords Go.Proofs.YtkdnonnoihllkaaW.PrintLast Go.Proofs.YtkdnonnoihllkaaW.PrintMore
attribute [local go_sem] max2_int min2_int max_two min_two max_three min_three max_four min_four   -- for this text's walks alone
set_option linter.unusedVariables false
set_option linter.unusedSimpArgs false

/-! ### slices_Clone_Clue: function 31 -/
def slices_Clone_Clue.f (l0 : List (S25)) : Option ((List (S25))) := (some (([] : List (S25)) : List (S25))).bind fun y210 => (if y210.length + l0.length < 5864062014805 then (some (y210 ++ l0)) else (none))
set_option maxHeartbeats 8000000 in
set_option maxRecDepth 100000 in
theorem slices_Clone_Clue.calls (A0 : Option Addr) (c0 : Nat) (l0 : List (S25)) (r : List (S25)) (w : World) (hr0 : Kd.C k25 w A0 l0.length l0) (hc0 : l0.length ≤ c0) (h : slices_Clone_Clue.f l0 = some r) :
  Calls Try.prog 31 #[.slice A0 l0.length c0] w fun e w' => ∃ v0_ : Value, e = .returned (v0_) ∧ Kd.R k25 25 w' w.heap.size (fun _ => True) v0_ r ∧ Below w.heap.size w w' := by
 have HR0 := am hr0
 have HC0 := am hc0
 clear hr0 hc0
 have HB := am (Below.refl w.heap.size w)
 have H : ((some (([] : List (S25)) : List (S25))).bind fun y210 => (if y210.length + l0.length < 5864062014805 then (some (y210 ++ l0)) else (none))) = some r := h
 clear h
 by_cases c2 : Option.isNone A0 = true
 ·have c2q : ∀ W, (binOp .eql 33 (.slice A0 l0.length c0) (.slice none 0 0)).run Try.prog W = .ok (.bool true) W := fun W => by first | (rw [Lib.run_eql_slice_nil W _ _ _ _ _ _ _ Try.underlying33, c2]; done) | (rw [Lib.run_eql_slice_nil W _ _ _ _ _ _ _ Try.underlying33, c2]; rfl)
  have c2e : l0 = [] := Open.nil_of_C HR0.out c2
  have H1 : (some ([] : List (S25))) = some r := by rw [← H, c2e] <;> first | rfl | simp
  clear H
  have H := H1
  clear H1 c2e
  clear c2
  obtain rfl := Option.some.inj H
  go_enter Try.func31, Try.ntmps31
  go_wp2
  go_ret
  exact ⟨_, by first | rfl | (simp [errW_none, errW_some] <;> rfl) | (simp [*, errW_none, errW_some] <;> rfl), by first | exact Kd.R_nil _ _ _ _ _ | exact Kd.N_nil _ _ _ _ _ | exact Kd.V_nil _ _ _ _ _ | exact Kd.Q_nil _ _ _ _ _ | exact Kd.S_nil _ _ _ _ _, hbS HB.out⟩
 ·have c2q : ∀ W, (binOp .eql 33 (.slice A0 l0.length c0) (.slice none 0 0)).run Try.prog W = .ok (.bool false) W := fun W => by first | (rw [Lib.run_eql_slice_nil W _ _ _ _ _ _ _ Try.underlying33, (Bool.eq_false_iff.mpr c2)]; done) | (rw [Lib.run_eql_slice_nil W _ _ _ _ _ _ _ Try.underlying33, (Bool.eq_false_iff.mpr c2)]; rfl)
  clear c2
  obtain ⟨y210, hy210⟩ : ∃ y_ : List (S25), y_ = (([] : List (S25))) := ⟨_, rfl⟩
  replace H : (if y210.length + l0.length < 5864062014805 then (some (y210 ++ l0)) else (none)) = some r := by first | (rw [hy210]; with_reducible exact H) | (have H2_ := (Option.bind_some _ _).symm.trans H; rw [hy210]; with_reducible exact H2_) | (have H2_ := (Option.bind_some _ _).symm.trans H; with_reducible exact H2_) | with_reducible exact H | (rw [hy210]; exact H) | exact H
  have Ny210 := am hy210
  clear hy210
  by_cases c3 : y210.length + l0.length < 5864062014805
  ·rw [if_pos c3] at H
   have LMc3 := am c3
   clear c3
   obtain ⟨y213, hy213⟩ : ∃ y_ : List (S25), y_ = (y210 ++ l0) := ⟨_, rfl⟩
   replace H : (some y213) = some r := by first | (rw [hy213]; with_reducible exact H) | (have H2_ := (Option.bind_some _ _).symm.trans H; rw [hy213]; with_reducible exact H2_) | (have H2_ := (Option.bind_some _ _).symm.trans H; with_reducible exact H2_) | with_reducible exact H | (rw [hy213]; exact H) | exact H
   have Ny213 := am hy213
   clear hy213
   obtain rfl := Option.some.inj H
   go_enter Try.func31, Try.ntmps31
   go_wp2_with (first | ((with_reducible refine gate_dst (N := 5) rfl ?_); refine Kd.R_lit k25 _ 25 ?hg (N := 5) ?hd (xs := ([] : List (S25))) (inner := []) (ok := fun _ => True) (okp := fun _ => True) ?hr ?hp (fun _ hk => hk) trivial (Below.refl _ _) (Nat.le_refl _) (by simp) ?_; (case hd => rfl); (case hg => rfl); (case hr => first | (go_simp; done) | (go_simp; rfl)); (case hp => exact (Reps.none _ _)); intro v211 w4 ho5 hb hg_ hnew_; clear hg_ hnew_; (first | rw [← Ny210.out] at ho5 | (simp only [Int.reduceToNat] at ho5; rw [← Ny210.out] at ho5)); have n0_ := am (Kd.R_lower ho5 (below_size (hbS HB.out))); have n1_ := am (below_step (hbS HB.out) hb); clear HB; have HO212 := n0_; have HB := n1_; clear n0_ n1_; clear hb ho5) | ((with_reducible refine gate_builtin (b := .append) (xs := #[.tmp 5, .tmp 6]) rfl ?_); at_builtin; refine Kd.R_append_rows k25 (w0 := w) w.heap.size rfl (.tmp 5) (.tmp 6) 33 25 (.agg #[(.int .i64 0), (.int .i64 0), (.int .i64 0)]) 24 rfl Try.underlying33 info25 rfl (by decide) (by omega) v211 y210 l0 _ _ _ (fun _ => True) (fun _ => False) rfl rfl ?aO ?aR (fun _ _ h => h) (fun _ h => h.elim) ?aF ?aB ?aS ?aL ?_; (case aR => repeat (first | exact (Kd.C_below HR0.out HB.out) | (with_reducible refine Kd.C_alloc ?_ _) | (with_reducible refine Kd.C_drewN ?_ _) | (with_reducible refine Kd.C_drew ?_))); (case aB => exact (hbS HB.out)); (case aF => exact (fun _ _ => trivial)); (case aO => exact (roS HO212.out)); (case aS => exact (below_size (hbS HB.out))); (case aL => have := LMc3.out; omega); intro v214 w6 ho hb hg hat; rw [← Ny213.out] at ho; have n0_ := am (hb); have n1_ := am (ho); clear HB; clear HO212; have HB := n0_; have HO215 := n1_; clear n0_ n1_; clear ho hb hg hat))
   go_ret
   exact ⟨_, by first | rfl | (simp [errW_none, errW_some] <;> rfl) | (simp [*, errW_none, errW_some] <;> rfl), roS HO215.out, hbS HB.out⟩
  ·rw [if_neg c3] at H
   exact absurd H (by simp)

end Go.Proofs.Ytkdnonnoihllkaa.X
