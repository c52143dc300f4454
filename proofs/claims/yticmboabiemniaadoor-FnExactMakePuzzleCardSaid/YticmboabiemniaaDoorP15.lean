import Derived.Test.YticmboabiemniaaDoorP5
import Derived.Test.YticmboabiemniaaDoorP7
import Derived.Test.YticmboabiemniaaDoorP9
import Derived.Test.YticmboabiemniaaDoorP14
section
-- Written by a program of this session (wip/tools/mp.py) over the kit's print of the translation.
namespace Go.Proofs.YticmboabiemniaaDoor.X
open Go.Proofs.YticmboabiemniaaDoor.Sq Go.RowKit Go.Proofs.YticmboabiemniaaDoorW.PrintWords Go.Proofs.YticmboabiemniaaDoorW.PrintLast Go.Proofs.YticmboabiemniaaDoorW.PrintMore
attribute [local go_sem] max2_int min2_int max_two min_two max_three min_three max_four min_four   -- for this text's walks alone
set_option linter.unusedVariables false
set_option linter.unusedSimpArgs false
/-! ### impl_MakePuzzle: function 10 -/
mutual
def impl_MakePuzzle.j0 : Nat → ByteArray → Int → Bool → Int → Option (Int × (List (S26)) × Bool)
 | 0, _, _, _, _ => none
 | k + 1, x0, x1, x25, x230000 => if x25 = true then (some (0, ([] : List (S26)), false)) else (impl_MakePuzzle.l0 k x0 x1 0 x230000 (x0.size : Int) ([] : List (S26)))
def impl_MakePuzzle.l0 : Nat → ByteArray → Int → Int → Int → Int → List (S26) → Option (Int × (List (S26)) × Bool)
 | 0, _, _, _, _, _, _ => none
 | k + 1, x0, x31, x32, x230000, x235000, x235001 => if x32 < x31 then ((impl_MakePuzzle_1.f x230000).bind fun bt235 => ((impl_MakePuzzle_1.f bt235.2).bind fun bt237 => (if (Int.tmod bt235.1 6) = 1 then (if (x0.size : Int) = 0 then (none) else ((impl_told.f k (Int.tmod bt235.1 6) (wrap64 ((Int.tmod bt237.1 (x0.size : Int)) + 1)) x0).bind fun t239 => (if x235001.length < 5864062014805 then (impl_MakePuzzle.l0 k x0 x31 (wrap64 (x32 + 1)) bt237.2 x235000 (x235001 ++ [(⟨Int.tmod bt235.1 6, wrap64 ((Int.tmod bt237.1 (x0.size : Int)) + 1), t239⟩ : S26)])) else (none)))) else (if (Int.tmod bt235.1 6) = 2 then ((impl_told.f k (Int.tmod bt235.1 6) (wrap64 ((Int.tmod bt237.1 9) + 1)) x0).bind fun t243 => (if x235001.length < 5864062014805 then (impl_MakePuzzle.l0 k x0 x31 (wrap64 (x32 + 1)) bt237.2 x235000 (x235001 ++ [(⟨Int.tmod bt235.1 6, wrap64 ((Int.tmod bt237.1 9) + 1), t243⟩ : S26)])) else (none))) else (if (Int.tmod bt235.1 6) = 4 then ((impl_told.f k (Int.tmod bt235.1 6) (wrap64 ((Int.tmod bt237.1 9) + 1)) x0).bind fun t247 => (if x235001.length < 5864062014805 then (impl_MakePuzzle.l0 k x0 x31 (wrap64 (x32 + 1)) bt237.2 x235000 (x235001 ++ [(⟨Int.tmod bt235.1 6, wrap64 ((Int.tmod bt237.1 9) + 1), t247⟩ : S26)])) else (none))) else ((impl_told.f k (Int.tmod bt235.1 6) 0 x0).bind fun t251 => (if x235001.length < 5864062014805 then (impl_MakePuzzle.l0 k x0 x31 (wrap64 (x32 + 1)) bt237.2 x235000 (x235001 ++ [(⟨Int.tmod bt235.1 6, 0, t251⟩ : S26)])) else (none)))))))) else (some (x235000, x235001, true))
end
def impl_MakePuzzle.f (k : Nat) (a0 : ByteArray) (a1 : Int) (a2 : Int) : Option (Int × (List (S26)) × Bool) := (impl_isHidden.f a0).bind fun t231 => (if t231 = true then ((impl_within.f a1 0 6).bind fun t232 => (if t232 = true then ((impl_within.f a2 0 9999).bind fun t233 => (impl_MakePuzzle.j0 k a0 a1 (!t233) a2)) else (impl_MakePuzzle.j0 k a0 a1 true a2))) else (impl_MakePuzzle.j0 k a0 a1 true a2))
def impl_MakePuzzle.T15 : Bool × List (List Nat × List Nat) := (true, [([], []), ([0], [0]), ([], []), ([], []), ([], []), ([], []), ([], []), ([4, 5, 6], [4, 5, 6]), ([2, 3, 7], [2, 3, 7]), ([8], [8]), ([1, 9, 7], [1, 9]), ([0, 1, 2, 3, 4, 5, 6, 7, 8, 9, 10], []), ([11, 10, 10, 0, 1, 2, 3, 4, 5, 6, 7, 8, 9, 10], [10, 11])])
def impl_MakePuzzle.B15 : List Nat := [0, 1, 0, 0, 0, 0, 0, 112, 252, 508, 1023, 2047, 4095]
theorem impl_MakePuzzle.tab15 : rtab .any (opsOf Tryd.f10 15) = impl_MakePuzzle.T15 := by kernel_rfl
theorem impl_MakePuzzle.bits15 : waitsOk impl_MakePuzzle.T15.2 impl_MakePuzzle.B15 = true := by kernel_rfl
set_option maxHeartbeats 8000000 in
set_option maxRecDepth 100000 in
theorem impl_MakePuzzle.calls (k : Nat) (a0 : ByteArray) (a1 : Int) (a2 : Int) (r1 : Int) (r2 : List (S26)) (r3 : Bool) (w : World) (h : impl_MakePuzzle.f k a0 a1 a2 = some (r1, r2, r3)) :
  Calls Tryd.prog 10 #[.string a0, .int .i64 a1, .int .i64 a2] w fun e w' => ∃ v1_ : Value, e = .returned (.tuple #[.agg #[.int .i64 r1, v1_], .bool r3]) ∧ Kd.R k26 26 w' w.heap.size (fun _ => True) v1_ r2 ∧ Below w.heap.size w w' := by
 have hu31 := Tryd.underlying31
 have hu26 := Tryd.underlying26
 have HB := am (Below.refl w.heap.size w)
 have H : ((impl_isHidden.f a0).bind fun t231 => (if t231 = true then ((impl_within.f a1 0 6).bind fun t232 => (if t232 = true then ((impl_within.f a2 0 9999).bind fun t233 => (impl_MakePuzzle.j0 k a0 a1 (!t233) a2)) else (impl_MakePuzzle.j0 k a0 a1 true a2))) else (impl_MakePuzzle.j0 k a0 a1 true a2))) = some (r1, r2, r3) := h
 clear h
 have HC4 := am H
 clear H
 go_enter Tryd.func10, Tryd.ntmps10
 go_upto_region 1 with (first | ((with_reducible refine gate_dst (N := 5) rfl ?_); refine box_event ?hg (N := 5) ?hd (cs := #[.int .i64 a2]) (t := 3) ?hr ?_; (case hd => rfl); (case hg => rfl); (case hr => first | (go_simp; done) | (go_simp; rfl)); intro g229 hg w5 hbox hb; have n0_ := am (below_step (hbS HB.out) hb); have n1_ := am ((⟨hbox, (by rw [hg]; exact (below_size (hbS HB.out)))⟩ : IsS3 w w5 g229 a2)); clear HB; have HB := n0_; have HI229 := n1_; clear n0_ n1_; clear hb hbox hg) | ((with_reducible refine gate_dst (N := 6) rfl ?_); refine box_event ?hg (N := 6) ?hd (cs := #[.int .i64 0, .slice none 0 0]) (t := 31) ?hr ?_; (case hd => rfl); (case hg => rfl); (case hr => first | (go_simp; done) | (go_simp; rfl)); intro gb230 hg w6 hbox hb; have n0_ := am (IsS3.below (by repeat (first | (with_reducible first | exact HI229.out | apply IsS3.alloc | apply IsS3.drewN | apply IsS3.drew | apply IsS3.set_0) | exact HI229.out)) hb); have n1_ := am (below_step (by repeat (first | (with_reducible first | exact HB.out | apply below_alloc | apply pw_below_drewN | apply below_drew1 | refine below_set ?_ (IsS3.ge HI229.out)) | exact HB.out)) hb); have n2_ := am (hbox); have n3_ := am (gwL (by repeat (first | (with_reducible first | exact HB.out | apply below_alloc | apply pw_below_drewN | apply below_drew1 | refine below_set ?_ (IsS3.ge HI229.out)) | exact HB.out)) hg); have n4_ := n3_; have n5_ := am ((by rw [hg]; exact Nat.ne_of_lt (IsS3.lt (show IsS3 w _ g229 a2 from by repeat (first | (with_reducible first | exact HI229.out | apply IsS3.alloc | apply IsS3.drewN | apply IsS3.drew | apply IsS3.set_0) | exact HI229.out))) : g229 ≠ gb230)); have n6_ := am ((by rw [hg]; exact Nat.ne_of_gt (IsS3.lt (show IsS3 w _ g229 a2 from by repeat (first | (with_reducible first | exact HI229.out | apply IsS3.alloc | apply IsS3.drewN | apply IsS3.drew | apply IsS3.set_0) | exact HI229.out))) : gb230 ≠ g229)); clear HI229; clear HB; have HI229 := n0_; have HB := n1_; have BK230 := n2_; have GW230 := n3_; have GE230 := n4_; have NB229_230 := n5_; have NB230_229 := n6_; clear n0_ n1_ n2_ n3_ n4_ n5_ n6_; clear hb hbox hg))
 (try simp only [Act.put, List.setIfInBounds_toArray, List.set_cons_zero, List.set_cons_succ])
 go_cut [25] (fun v25 wc => ∃ (kq : Nat) (x25_3 : Bool), v25 = .bool x25_3 ∧ Aside0 (impl_MakePuzzle.j0 kq a0 a1 x25_3 a2 = some (r1, r2, r3)) ∧ Aside0 (kq ≤ k) ∧ Aside0 (wc.heap[gb230]? = some (.cells #[.int .i64 0, (.slice none 0 0)] 31 (0, 0))) ∧ Aside0 (IsS3 w wc g229 a2) ∧ Aside0 (Below w.heap.size w wc))
 case first =>
  have H := HC4.out
  clear HC4
  replace H := Option.bind_eq_some_iff.mp H
  obtain ⟨t231, A70, H⟩ := H
  replace H : (if t231 = true then ((impl_within.f a1 0 6).bind fun t232 => (if t232 = true then ((impl_within.f a2 0 9999).bind fun t233 => (impl_MakePuzzle.j0 k a0 a1 (!t233) a2)) else (impl_MakePuzzle.j0 k a0 a1 true a2))) else (impl_MakePuzzle.j0 k a0 a1 true a2)) = some (r1, r2, r3) := H
  have A7 := am A70
  clear A70
  by_cases c8 : t231 = true
  ·subst c8
   have H1 : ((impl_within.f a1 0 6).bind fun t232 => (if t232 = true then ((impl_within.f a2 0 9999).bind fun t233 => (impl_MakePuzzle.j0 k a0 a1 (!t233) a2)) else (impl_MakePuzzle.j0 k a0 a1 true a2))) = some (r1, r2, r3) := by rw [if_pos rfl] at H; exact H
   clear H
   have H := H1
   clear H1
   replace H := Option.bind_eq_some_iff.mp H
   obtain ⟨t232, A90, H⟩ := H
   replace H : (if t232 = true then ((impl_within.f a2 0 9999).bind fun t233 => (impl_MakePuzzle.j0 k a0 a1 (!t233) a2)) else (impl_MakePuzzle.j0 k a0 a1 true a2)) = some (r1, r2, r3) := H
   have A9 := am A90
   clear A90
   by_cases c10 : t232 = true
   ·subst c10
    have H1 : ((impl_within.f a2 0 9999).bind fun t233 => (impl_MakePuzzle.j0 k a0 a1 (!t233) a2)) = some (r1, r2, r3) := by rw [if_pos rfl] at H; exact H
    clear H
    have H := H1
    clear H1
    replace H := Option.bind_eq_some_iff.mp H
    obtain ⟨t233, A110, H⟩ := H
    replace H : (impl_MakePuzzle.j0 k a0 a1 (!t233) a2) = some (r1, r2, r3) := H
    have A11 := am A110
    clear A110
    have H' := am H
    clear H
    go_wp2_with (first | ((with_reducible refine gate_callee (f := 19) rfl ?_); refine goesL_ (some 14) rfl rfl Tryd.func19 (by kernel_rfl) rfl #[.string a0] rfl (by (try simp only [List.map_toArray, List.map_cons, List.map_nil]); first | done | rfl | (simp only [List.length_drop, List.length_take]; rfl)) ?_; (with_reducible refine (impl_isHidden.calls a0 true _ A7.out).mono ?_); rintro e w12 ⟨rfl, hb⟩; refine ⟨_, rfl, ?_⟩; have n0_ := am (IsS3.below (by repeat (first | (with_reducible first | exact HI229.out | apply IsS3.alloc | apply IsS3.drewN | apply IsS3.drew | apply IsS3.set_0 | refine IsS3.far ?_ NB229_230.out _) | exact HI229.out)) hb); have n1_ := am (blk_below (bkS BK230.out) hb); have n2_ := am (below_step (by repeat (first | (with_reducible first | exact HB.out | apply below_alloc | apply pw_below_drewN | apply below_drew1 | refine below_set ?_ (IsS3.ge HI229.out) | refine below_set ?_ GE230.out) | exact HB.out)) hb); clear HI229; clear BK230; clear HB; have HI229 := n0_; have BK230 := n1_; have HB := n2_; clear n0_ n1_ n2_; (try clear hb); (try clear hb2); (try clear hk); (try clear hi)) | (go_at_call 25; (with_reducible refine (impl_within.calls a1 0 6 true _ A9.out).mono ?_); rintro e w' ⟨rfl, ⟨nd, rfl⟩⟩; obtain ⟨HGz13, hgz13⟩ := HI229.out; have hcz13_0 := cellS3_0 HGz13; have hfz13_0 := blk_frozen HGz13 0; clear HGz13 hgz13) | (go_at_call 25; (with_reducible refine (impl_within.calls a2 0 9999 t233 _ A11.out).mono ?_); rintro e w' ⟨rfl, ⟨nd, rfl⟩⟩))
    go_meet
    case rel => exact ⟨_, (!t233), (by first | rfl | (simp; done) | (simp [*]; done)), H', ⟨by first | omega | exact Nat.le_refl _⟩, ⟨bkS BK230.out⟩, ⟨by repeat (first | (with_reducible first | exact HI229.out | apply IsS3.alloc | apply IsS3.drewN | apply IsS3.drew | apply IsS3.set_0 | refine IsS3.far ?_ NB229_230.out _) | exact HI229.out)⟩, ⟨by repeat (first | (with_reducible first | exact HB.out | apply below_alloc | apply pw_below_drewN | apply below_drew1 | refine below_set ?_ (IsS3.ge HI229.out) | refine below_set ?_ GE230.out) | exact HB.out)⟩⟩
   ·replace c10 := Bool.eq_false_iff.mpr c10
    subst c10
    have H1 : (impl_MakePuzzle.j0 k a0 a1 true a2) = some (r1, r2, r3) := by rw [if_neg (show ¬ (false = true) by decide)] at H; exact H
    clear H
    have H := H1
    clear H1
    have H' := am H
    clear H
    go_wp2_with (first | ((with_reducible refine gate_callee (f := 19) rfl ?_); refine goesL_ (some 14) rfl rfl Tryd.func19 (by kernel_rfl) rfl #[.string a0] rfl (by (try simp only [List.map_toArray, List.map_cons, List.map_nil]); first | done | rfl | (simp only [List.length_drop, List.length_take]; rfl)) ?_; (with_reducible refine (impl_isHidden.calls a0 true _ A7.out).mono ?_); rintro e w14 ⟨rfl, hb⟩; refine ⟨_, rfl, ?_⟩; have n0_ := am (IsS3.below (by repeat (first | (with_reducible first | exact HI229.out | apply IsS3.alloc | apply IsS3.drewN | apply IsS3.drew | apply IsS3.set_0 | refine IsS3.far ?_ NB229_230.out _) | exact HI229.out)) hb); have n1_ := am (blk_below (bkS BK230.out) hb); have n2_ := am (below_step (by repeat (first | (with_reducible first | exact HB.out | apply below_alloc | apply pw_below_drewN | apply below_drew1 | refine below_set ?_ (IsS3.ge HI229.out) | refine below_set ?_ GE230.out) | exact HB.out)) hb); clear HI229; clear BK230; clear HB; have HI229 := n0_; have BK230 := n1_; have HB := n2_; clear n0_ n1_ n2_; (try clear hb); (try clear hb2); (try clear hk); (try clear hi)) | (go_at_call 25; (with_reducible refine (impl_within.calls a1 0 6 false _ A9.out).mono ?_); rintro e w' ⟨rfl, ⟨nd, rfl⟩⟩))
    go_meet
    case rel => exact ⟨_, (true), (by first | rfl | (simp; done) | (simp [*]; done)), H', ⟨by first | omega | exact Nat.le_refl _⟩, ⟨bkS BK230.out⟩, ⟨by repeat (first | (with_reducible first | exact HI229.out | apply IsS3.alloc | apply IsS3.drewN | apply IsS3.drew | apply IsS3.set_0 | refine IsS3.far ?_ NB229_230.out _) | exact HI229.out)⟩, ⟨by repeat (first | (with_reducible first | exact HB.out | apply below_alloc | apply pw_below_drewN | apply below_drew1 | refine below_set ?_ (IsS3.ge HI229.out) | refine below_set ?_ GE230.out) | exact HB.out)⟩⟩
  ·replace c8 := Bool.eq_false_iff.mpr c8
   subst c8
   have H1 : (impl_MakePuzzle.j0 k a0 a1 true a2) = some (r1, r2, r3) := by rw [if_neg (show ¬ (false = true) by decide)] at H; exact H
   clear H
   have H := H1
   clear H1
   have H' := am H
   clear H
   go_wp2_with (first | ((with_reducible refine gate_callee (f := 19) rfl ?_); refine goesL_ (some 14) rfl rfl Tryd.func19 (by kernel_rfl) rfl #[.string a0] rfl (by (try simp only [List.map_toArray, List.map_cons, List.map_nil]); first | done | rfl | (simp only [List.length_drop, List.length_take]; rfl)) ?_; (with_reducible refine (impl_isHidden.calls a0 false _ A7.out).mono ?_); rintro e w15 ⟨rfl, hb⟩; refine ⟨_, rfl, ?_⟩; have n0_ := am (IsS3.below (by repeat (first | (with_reducible first | exact HI229.out | apply IsS3.alloc | apply IsS3.drewN | apply IsS3.drew | apply IsS3.set_0 | refine IsS3.far ?_ NB229_230.out _) | exact HI229.out)) hb); have n1_ := am (blk_below (bkS BK230.out) hb); have n2_ := am (below_step (by repeat (first | (with_reducible first | exact HB.out | apply below_alloc | apply pw_below_drewN | apply below_drew1 | refine below_set ?_ (IsS3.ge HI229.out) | refine below_set ?_ GE230.out) | exact HB.out)) hb); clear HI229; clear BK230; clear HB; have HI229 := n0_; have BK230 := n1_; have HB := n2_; clear n0_ n1_ n2_; (try clear hb); (try clear hb2); (try clear hk); (try clear hi)))
   go_meet
   case rel => exact ⟨_, (true), (by first | rfl | (simp; done) | (simp [*]; done)), H', ⟨by first | omega | exact Nat.le_refl _⟩, ⟨bkS BK230.out⟩, ⟨by repeat (first | (with_reducible first | exact HI229.out | apply IsS3.alloc | apply IsS3.drewN | apply IsS3.drew | apply IsS3.set_0 | refine IsS3.far ?_ NB229_230.out _) | exact HI229.out)⟩, ⟨by repeat (first | (with_reducible first | exact HB.out | apply below_alloc | apply pw_below_drewN | apply below_drew1 | refine below_set ?_ (IsS3.ge HI229.out) | refine below_set ?_ GE230.out) | exact HB.out)⟩⟩
 case rest =>
  clear HC4
  try clear c1
  try clear p2
  try clear c8
  try clear c10
  try clear hcz13_0
  try clear hfz13_0
  obtain ⟨kq, x25_3, rfl, HA, HJ3, BK230, HI229, HB⟩ := hcut
  cases kq with
  | zero => exact absurd HA.out (by simp [impl_MakePuzzle.j0])
  | succ kj3 =>
   have H := HA.out
   clear HA
   simp only [impl_MakePuzzle.j0] at H
   by_cases c16 : x25_3 = true
   ·subst c16
    have H1 : (some (0, ([] : List (S26)), false)) = some (r1, r2, r3) := by rw [if_pos rfl] at H; exact H
    clear H
    have H := H1
    clear H1
    simp only [Option.some.injEq, Prod.mk.injEq] at H
    obtain ⟨rfl, rfl, rfl⟩ := H
    have hnb17 := NB230_229.out
    have hnc17 := NB229_230.out
    have hcz18_0 : wc.cell? ⟨gb230, 0, none⟩ = some (.int .i64 0) := (blk_cell BK230.out 0).trans rfl
    have hcz18_1 : wc.cell? ⟨gb230, 1, none⟩ = some (.slice none 0 0) := (blk_cell BK230.out 1).trans rfl
    have hfz18_0 := blk_frozen BK230.out 0
    have hfz18_1 := blk_frozen BK230.out 1
    go_wp2
    refine bodyPost_ret (results_ct rfl _ _ gb230 31 #[.int .i64 0, .slice none 0 0] (0, 0) _ rfl (by (with_reducible repeat (first | refine blk_drewN ?_ _ | refine blk_drew ?_ | refine blk_alloc ?_ _)); refine blk_put (cs := #[.int .i64 0, .slice none 0 0]) ?_ 1 _ rfl; (with_reducible repeat (first | refine blk_drewN ?_ _ | refine blk_drew ?_ | refine blk_alloc ?_ _)); refine blk_put (cs := #[.int .i64 0, .slice none 0 0]) ?_ 0 _ rfl; (with_reducible repeat (first | refine blk_drewN ?_ _ | refine blk_drew ?_ | refine blk_alloc ?_ _)); exact BK230.out) Tryd.underlying31 rfl (by kernel_rfl)) rfl ?_
    exact ⟨_, by first | rfl | (simp [errW_none, errW_some] <;> rfl) | (simp [*, errW_none, errW_some] <;> rfl), by first | exact Kd.R_nil _ _ _ _ _ | exact Kd.N_nil _ _ _ _ _ | exact Kd.V_nil _ _ _ _ _ | exact Kd.Q_nil _ _ _ _ _ | exact Kd.S_nil _ _ _ _ _, by repeat (first | (with_reducible first | exact HB.out | apply below_alloc | apply pw_below_drewN | apply below_drew1 | refine below_set ?_ (IsS3.ge HI229.out) | refine below_set ?_ GE230.out) | exact HB.out)⟩
   ·replace c16 := Bool.eq_false_iff.mpr c16
    subst c16
    have H1 : (impl_MakePuzzle.l0 kj3 a0 a1 0 a2 (a0.size : Int) ([] : List (S26))) = some (r1, r2, r3) := by rw [if_neg (show ¬ (false = true) by decide)] at H; exact H
    clear H
    have H := H1
    clear H1
    have H' := am H
    clear H
    go_wp2_with (first | ((with_reducible refine gate_dst (N := 9) rfl ?_); refine box_event ?hg (N := 9) ?hd (cs := #[.int .i64 0, .slice none 0 0]) (t := 31) ?hr ?_; (case hd => rfl); (case hg => rfl); (case hr => first | (go_simp; done) | (go_simp; rfl)); intro gb234 hg w19 hbox hb; have n0_ := am (blk_below (bkS BK230.out) hb); have n1_ := am (IsS3.below (by repeat (first | (with_reducible first | exact HI229.out | apply IsS3.alloc | apply IsS3.drewN | apply IsS3.drew | apply IsS3.set_0 | refine IsS3.far ?_ NB229_230.out _) | exact HI229.out)) hb); have n2_ := am (below_step (by repeat (first | (with_reducible first | exact HB.out | apply below_alloc | apply pw_below_drewN | apply below_drew1 | refine below_set ?_ (IsS3.ge HI229.out) | refine below_set ?_ GE230.out) | exact HB.out)) hb); have n3_ := am (hbox); have n4_ := am (gwL (by repeat (first | (with_reducible first | exact HB.out | apply below_alloc | apply pw_below_drewN | apply below_drew1 | refine below_set ?_ (IsS3.ge HI229.out) | refine below_set ?_ GE230.out) | exact HB.out)) hg); have n5_ := n4_; have n6_ := am (nbL (bkS BK230.out) hg); have n7_ := am (nbG (bkS BK230.out) hg); have n8_ := am ((by rw [hg]; exact Nat.ne_of_lt (IsS3.lt (show IsS3 w _ g229 a2 from by repeat (first | (with_reducible first | exact HI229.out | apply IsS3.alloc | apply IsS3.drewN | apply IsS3.drew | apply IsS3.set_0 | refine IsS3.far ?_ NB229_230.out _) | exact HI229.out))) : g229 ≠ gb234)); have n9_ := am ((by rw [hg]; exact Nat.ne_of_gt (IsS3.lt (show IsS3 w _ g229 a2 from by repeat (first | (with_reducible first | exact HI229.out | apply IsS3.alloc | apply IsS3.drewN | apply IsS3.drew | apply IsS3.set_0 | refine IsS3.far ?_ NB229_230.out _) | exact HI229.out))) : gb234 ≠ g229)); clear BK230; clear HI229; clear HB; have BK230 := n0_; have HI229 := n1_; have HB := n2_; have BK234 := n3_; have GW234 := n4_; have GE234 := n5_; have NB230_234 := n6_; have NB234_230 := n7_; have NB229_234 := n8_; have NB234_229 := n9_; clear n0_ n1_ n2_ n3_ n4_ n5_ n6_ n7_ n8_ n9_; clear hb hbox hg; have hnb20 := NB234_230.out; have hnc20 := NB230_234.out; have hnb21 := NB234_229.out; have hnc21 := NB229_234.out; have hcz22_0 : w19.cell? ⟨gb234, 0, none⟩ = some (.int .i64 0) := (blk_cell BK234.out 0).trans rfl; have hcz22_1 : w19.cell? ⟨gb234, 1, none⟩ = some (.slice none 0 0) := (blk_cell BK234.out 1).trans rfl; have hfz22_0 := blk_frozen BK234.out 0; have hfz22_1 := blk_frozen BK234.out 1))
    go_loopg [32] kj3 (fun kq v32 w' => ∃ (x32_2 : Int) (x230000_2 : Int) (x235001_2 : List (S26)) (u235001 : Value), v32 = .int .i64 x32_2 ∧ Aside0 (impl_MakePuzzle.l0 kq a0 a1 x32_2 x230000_2 (a0.size : Int) x235001_2 = some (r1, r2, r3)) ∧ Aside0 (kq ≤ kj3) ∧ Aside0 (Kd.R k26 26 w' w.heap.size (fun _ => True) u235001 x235001_2) ∧ Aside0 (w'.heap[gb230]? = some (.cells #[.int .i64 0, (.slice none 0 0)] 31 (0, 0))) ∧ Aside0 (w'.heap[gb234]? = some (.cells #[.int .i64 (a0.size : Int), u235001] 31 (0, 0))) ∧ Aside0 (IsS3 w w' g229 x230000_2) ∧ Aside0 (Below w.heap.size w w'))
    case atStart => exact ⟨(0), (a2), (([] : List (S26))), (.slice none 0 0), (by first | rfl | (simp; done) | (simp [*]; done)), H', ⟨Nat.le_refl _⟩, ⟨by first | exact Kd.R_nil _ _ _ _ _ | exact Kd.N_nil _ _ _ _ _ | exact Kd.V_nil _ _ _ _ _ | exact Kd.Q_nil _ _ _ _ _ | exact Kd.S_nil _ _ _ _ _⟩, ⟨by (with_reducible repeat (first | refine blk_drewN ?_ _ | refine blk_drew ?_ | refine blk_alloc ?_ _)); refine blk_far ?_ NB230_234.out _; (with_reducible repeat (first | refine blk_drewN ?_ _ | refine blk_drew ?_ | refine blk_alloc ?_ _)); refine blk_far ?_ NB230_234.out _; (with_reducible repeat (first | refine blk_drewN ?_ _ | refine blk_drew ?_ | refine blk_alloc ?_ _)); exact BK230.out⟩, ⟨by (with_reducible repeat (first | refine blk_drewN ?_ _ | refine blk_drew ?_ | refine blk_alloc ?_ _)); refine blk_put (cs := #[.int .i64 (a0.size : Int), .slice none 0 0]) ?_ 1 _ rfl; (with_reducible repeat (first | refine blk_drewN ?_ _ | refine blk_drew ?_ | refine blk_alloc ?_ _)); refine blk_put (cs := #[.int .i64 0, .slice none 0 0]) ?_ 0 _ rfl; (with_reducible repeat (first | refine blk_drewN ?_ _ | refine blk_drew ?_ | refine blk_alloc ?_ _)); exact BK234.out⟩, ⟨by repeat (first | (with_reducible first | exact HI229.out | apply IsS3.alloc | apply IsS3.drewN | apply IsS3.drew | apply IsS3.set_0 | refine IsS3.far ?_ NB229_230.out _ | refine IsS3.far ?_ NB229_234.out _) | exact HI229.out)⟩, ⟨by repeat (first | (with_reducible first | exact HB.out | apply below_alloc | apply pw_below_drewN | apply below_drew1 | refine below_set ?_ (IsS3.ge HI229.out) | refine below_set ?_ GE230.out | refine below_set ?_ GE234.out) | exact HB.out)⟩⟩
    case round =>
     clear H'
     try clear c1
     try clear c2
     try clear p2
     try clear c8
     try clear c10
     try clear c16
     try clear c17
     try clear c19
     try clear c20
     try clear c21
     try clear hcz13_0
     try clear hcz18_0
     try clear hcz18_1
     try clear hcz22_0
     try clear hcz22_1
     try clear hfz13_0
     try clear hfz18_0
     try clear hfz18_1
     try clear hfz22_0
     try clear hfz22_1
     try clear p2
     obtain ⟨x32_2, x230000_2, x235001_2, u235001, rfl, HA, HK2, HO_235001, BK230, BK234, HI229, HB⟩ := hrel
     cases gk with
     | zero => exact absurd HA.out (by simp [impl_MakePuzzle.l0])
     | succ k2 =>
      have H := HA.out
      clear HA
      simp only [impl_MakePuzzle.l0] at H
      by_cases c23 : x32_2 < a1
      ·rw [if_pos c23] at H
       have c23b0 : decide (x32_2 < a1) = true := decide_eq_true c23
       clear c23
       replace H := Option.bind_eq_some_iff.mp H
       obtain ⟨⟨t235, t236⟩, A240, H⟩ := H
       replace H : ((impl_MakePuzzle_1.f t236).bind fun bt237 => (if (Int.tmod t235 6) = 1 then (if (a0.size : Int) = 0 then (none) else ((impl_told.f k2 (Int.tmod t235 6) (wrap64 ((Int.tmod bt237.1 (a0.size : Int)) + 1)) a0).bind fun t239 => (if x235001_2.length < 5864062014805 then (impl_MakePuzzle.l0 k2 a0 a1 (wrap64 (x32_2 + 1)) bt237.2 (a0.size : Int) (x235001_2 ++ [(⟨Int.tmod t235 6, wrap64 ((Int.tmod bt237.1 (a0.size : Int)) + 1), t239⟩ : S26)])) else (none)))) else (if (Int.tmod t235 6) = 2 then ((impl_told.f k2 (Int.tmod t235 6) (wrap64 ((Int.tmod bt237.1 9) + 1)) a0).bind fun t243 => (if x235001_2.length < 5864062014805 then (impl_MakePuzzle.l0 k2 a0 a1 (wrap64 (x32_2 + 1)) bt237.2 (a0.size : Int) (x235001_2 ++ [(⟨Int.tmod t235 6, wrap64 ((Int.tmod bt237.1 9) + 1), t243⟩ : S26)])) else (none))) else (if (Int.tmod t235 6) = 4 then ((impl_told.f k2 (Int.tmod t235 6) (wrap64 ((Int.tmod bt237.1 9) + 1)) a0).bind fun t247 => (if x235001_2.length < 5864062014805 then (impl_MakePuzzle.l0 k2 a0 a1 (wrap64 (x32_2 + 1)) bt237.2 (a0.size : Int) (x235001_2 ++ [(⟨Int.tmod t235 6, wrap64 ((Int.tmod bt237.1 9) + 1), t247⟩ : S26)])) else (none))) else ((impl_told.f k2 (Int.tmod t235 6) 0 a0).bind fun t251 => (if x235001_2.length < 5864062014805 then (impl_MakePuzzle.l0 k2 a0 a1 (wrap64 (x32_2 + 1)) bt237.2 (a0.size : Int) (x235001_2 ++ [(⟨Int.tmod t235 6, 0, t251⟩ : S26)])) else (none))))))) = some (r1, r2, r3) := H
       have A24 := am A240
       clear A240
       replace H := Option.bind_eq_some_iff.mp H
       obtain ⟨⟨t237, t238⟩, A250, H⟩ := H
       replace H : (if (Int.tmod t235 6) = 1 then (if (a0.size : Int) = 0 then (none) else ((impl_told.f k2 (Int.tmod t235 6) (wrap64 ((Int.tmod t237 (a0.size : Int)) + 1)) a0).bind fun t239 => (if x235001_2.length < 5864062014805 then (impl_MakePuzzle.l0 k2 a0 a1 (wrap64 (x32_2 + 1)) t238 (a0.size : Int) (x235001_2 ++ [(⟨Int.tmod t235 6, wrap64 ((Int.tmod t237 (a0.size : Int)) + 1), t239⟩ : S26)])) else (none)))) else (if (Int.tmod t235 6) = 2 then ((impl_told.f k2 (Int.tmod t235 6) (wrap64 ((Int.tmod t237 9) + 1)) a0).bind fun t243 => (if x235001_2.length < 5864062014805 then (impl_MakePuzzle.l0 k2 a0 a1 (wrap64 (x32_2 + 1)) t238 (a0.size : Int) (x235001_2 ++ [(⟨Int.tmod t235 6, wrap64 ((Int.tmod t237 9) + 1), t243⟩ : S26)])) else (none))) else (if (Int.tmod t235 6) = 4 then ((impl_told.f k2 (Int.tmod t235 6) (wrap64 ((Int.tmod t237 9) + 1)) a0).bind fun t247 => (if x235001_2.length < 5864062014805 then (impl_MakePuzzle.l0 k2 a0 a1 (wrap64 (x32_2 + 1)) t238 (a0.size : Int) (x235001_2 ++ [(⟨Int.tmod t235 6, wrap64 ((Int.tmod t237 9) + 1), t247⟩ : S26)])) else (none))) else ((impl_told.f k2 (Int.tmod t235 6) 0 a0).bind fun t251 => (if x235001_2.length < 5864062014805 then (impl_MakePuzzle.l0 k2 a0 a1 (wrap64 (x32_2 + 1)) t238 (a0.size : Int) (x235001_2 ++ [(⟨Int.tmod t235 6, 0, t251⟩ : S26)])) else (none)))))) = some (r1, r2, r3) := H
       have A25 := am A250
       clear A250
       by_cases c26 : (Int.tmod t235 6) = 1
       ·rw [if_pos c26] at H
        have c26b0 : ((Int.tmod t235 6) == 1) = true := beq_iff_eq.mpr c26
        have c26b1 : ((Int.tmod t235 6) != 1) = false := bne_eq_false_iff_eq.mpr c26
        clear c26
        by_cases c27 : (a0.size : Int) = 0
        ·rw [if_pos c27] at H
         exact absurd H (by simp)
        ·rw [if_neg c27] at H
         have c27b0 : ((a0.size : Int) == 0) = false := beq_eq_false_iff_ne.mpr c27
         have c27b1 : ((a0.size : Int) != 0) = true := bne_iff_ne.mpr c27
         replace H := Option.bind_eq_some_iff.mp H
         obtain ⟨t239, A280, H⟩ := H
         replace H : (if x235001_2.length < 5864062014805 then (impl_MakePuzzle.l0 k2 a0 a1 (wrap64 (x32_2 + 1)) t238 (a0.size : Int) (x235001_2 ++ [(⟨Int.tmod t235 6, wrap64 ((Int.tmod t237 (a0.size : Int)) + 1), t239⟩ : S26)])) else (none)) = some (r1, r2, r3) := H
         have A28 := am A280
         clear A280
         by_cases c29 : x235001_2.length < 5864062014805
         ·rw [if_pos c29] at H
          have LMc29 := am c29
          clear c29
          obtain ⟨y240, hy240⟩ : ∃ y_ : List (S26), y_ = (x235001_2 ++ [(⟨Int.tmod t235 6, wrap64 ((Int.tmod t237 (a0.size : Int)) + 1), t239⟩ : S26)]) := ⟨_, rfl⟩
          replace H : (impl_MakePuzzle.l0 k2 a0 a1 (wrap64 (x32_2 + 1)) t238 (a0.size : Int) y240) = some (r1, r2, r3) := by first | (rw [hy240]; with_reducible exact H) | (have H2_ := (Option.bind_some _ _).symm.trans H; rw [hy240]; with_reducible exact H2_) | (have H2_ := (Option.bind_some _ _).symm.trans H; with_reducible exact H2_) | with_reducible exact H | (rw [hy240]; exact H) | exact H
          have Ny240 := am hy240
          clear hy240
          have H' := am H
          clear H
          try go_wp2_with (first | (go_at_call 26; (with_reducible refine (impl_MakePuzzle_1.calls g229 x230000_2 t235 t236 w _ ?side1 ?side2 A24.out).mono ?_); (case side1 => repeat (first | (with_reducible first | exact HI229.out | apply IsS3.alloc | apply IsS3.drewN | apply IsS3.drew | apply IsS3.set_0 | refine IsS3.far ?_ NB229_230.out _ | refine IsS3.far ?_ NB229_234.out _) | exact HI229.out)); (case side2 => repeat (first | (with_reducible first | exact HB.out | apply below_alloc | apply pw_below_drewN | apply below_drew1 | refine below_set ?_ (IsS3.ge HI229.out) | refine below_set ?_ GE230.out | refine below_set ?_ GE234.out) | exact HB.out)); rintro e w30 ⟨rfl, hi, hb, hk⟩; have n0_ := am (Kd.R_mono (Kd.R_keep (IsS3.apart (show IsS3 w _ g229 x230000_2 from by repeat (first | (with_reducible first | exact HI229.out | apply IsS3.alloc | apply IsS3.drewN | apply IsS3.drew | apply IsS3.set_0 | refine IsS3.far ?_ NB229_230.out _ | refine IsS3.far ?_ NB229_234.out _) | exact HI229.out)) (roS HO_235001.out) (by decide)) hk (fun _ h => h.2)) (fun _ h => h.1)); have n1_ := am (KeepBut.blk hk (g' := gb230) (o := .cells #[.int .i64 0, .slice none 0 0] 31 (0, 0)) (bkS BK230.out) NB230_229.out (by simp)); have n2_ := am (KeepBut.blk hk (g' := gb234) (o := .cells #[.int .i64 (a0.size : Int), u235001] 31 (0, 0)) (bkS BK234.out) NB234_229.out (by simp)); have n3_ := am (hb); have n4_ := am (hi); clear HO_235001; clear BK230; clear BK234; clear HB; clear HI229; have HO_235001 := n0_; have BK230 := n1_; have BK234 := n2_; have HB := n3_; have HI229 := n4_; clear n0_ n1_ n2_ n3_ n4_; (try clear hb); (try clear hb2); (try clear hk); (try clear hi)) | (go_at_call 26; (with_reducible refine (impl_MakePuzzle_1.calls g229 t236 t237 t238 w _ ?side1 ?side2 A25.out).mono ?_); (case side1 => repeat (first | (with_reducible first | exact HI229.out | apply IsS3.alloc | apply IsS3.drewN | apply IsS3.drew | apply IsS3.set_0 | refine IsS3.far ?_ NB229_230.out _ | refine IsS3.far ?_ NB229_234.out _) | exact HI229.out)); (case side2 => repeat (first | (with_reducible first | exact HB.out | apply below_alloc | apply pw_below_drewN | apply below_drew1 | refine below_set ?_ (IsS3.ge HI229.out) | refine below_set ?_ GE230.out | refine below_set ?_ GE234.out) | exact HB.out)); rintro e w31 ⟨rfl, hi, hb, hk⟩; have n0_ := am (Kd.R_mono (Kd.R_keep (IsS3.apart (show IsS3 w _ g229 t236 from by repeat (first | (with_reducible first | exact HI229.out | apply IsS3.alloc | apply IsS3.drewN | apply IsS3.drew | apply IsS3.set_0 | refine IsS3.far ?_ NB229_230.out _ | refine IsS3.far ?_ NB229_234.out _) | exact HI229.out)) (roS HO_235001.out) (by decide)) hk (fun _ h => h.2)) (fun _ h => h.1)); have n1_ := am (KeepBut.blk hk (g' := gb230) (o := .cells #[.int .i64 0, .slice none 0 0] 31 (0, 0)) (bkS BK230.out) NB230_229.out (by simp)); have n2_ := am (KeepBut.blk hk (g' := gb234) (o := .cells #[.int .i64 (a0.size : Int), u235001] 31 (0, 0)) (bkS BK234.out) NB234_229.out (by simp)); have n3_ := am (hb); have n4_ := am (hi); clear HO_235001; clear BK230; clear BK234; clear HB; clear HI229; have HO_235001 := n0_; have BK230 := n1_; have BK234 := n2_; have HB := n3_; have HI229 := n4_; clear n0_ n1_ n2_ n3_ n4_; (try clear hb); (try clear hb2); (try clear hk); (try clear hi)))
          have n0_ := am (Kd.R_drew HO_235001.out)
          have n1_ := am (blk_drew BK230.out)
          have n2_ := am (blk_drew BK234.out)
          have n3_ := am (IsS3.drew HI229.out)
          have n4_ := am (below_drew1 HB.out)
          clear HO_235001
          clear BK230
          clear BK234
          clear HI229
          clear HB
          have HO_235001 := n0_
          have BK230 := n1_
          have BK234 := n2_
          have HI229 := n3_
          have HB := n4_
          clear n0_ n1_ n2_ n3_ n4_
          refine start_ (n := 13) (S := fun w' => w'.cell? ⟨gb234, 0, none⟩ = some (.int .i64 (a0.size : Int)) ∧ w'.cell? ⟨gb234, 1, none⟩ = some (u235001)) (ds := [12]) #[false, false, false, false, false, false, false, false, false, false, false, false, false] (by kernel_rfl) rfl rfl ⟨(blk_cell BK234.out 0).trans rfl, (blk_cell BK234.out 1).trans rfl⟩ (fun hHeld => ?_); refine with_tabW impl_MakePuzzle.tab15 impl_MakePuzzle.bits15 (fun HT_ HW_ => ?_)
          generalize w31.drew = w32 at HO_235001 BK230 BK234 HI229 HB hHeld ⊢
          refine pure_ (i := 0) (N := some 53) (v := ?_) (a' := ?_) #[true, false, false, false, false, false, false, false, false, false, false, false, false] rfl rfl (any_of HT_.out (by kernel_rfl)) (fun _ _ _ h => h) (Or.inl ⟨by rfl, ?_⟩) ?_ ?_
          rotate_left
          ·intro w'
           go_simp
           with_reducible rfl
          rotate_left
          ·simp only [Act.put, List.setIfInBounds_toArray, List.set_cons_zero, List.set_cons_succ, i64_w, i32_w]
           rfl
          refine pure_ (i := 2) (N := some 55) (v := ?_) (a' := ?_) #[true, false, true, false, false, false, false, false, false, false, false, false, false] rfl rfl (any_of HT_.out (by kernel_rfl)) (fun _ _ _ h => h) (Or.inl ⟨by rfl, ?_⟩) ?_ ?_
          rotate_left
          ·intro w'
           go_simp
           with_reducible rfl
          rotate_left
          ·simp only [Act.put, List.setIfInBounds_toArray, List.set_cons_zero, List.set_cons_succ, i64_w, i32_w]
           rfl
          refine pure_ (i := 3) (N := some 56) (v := ?_) (a' := ?_) #[true, false, true, true, false, false, false, false, false, false, false, false, false] rfl rfl (any_of HT_.out (by kernel_rfl)) (fun _ _ _ h => h) (Or.inl ⟨by rfl, ?_⟩) ?_ ?_
          rotate_left
          ·intro w'
           go_simp
           with_reducible rfl
          rotate_left
          ·simp only [Act.put, List.setIfInBounds_toArray, List.set_cons_zero, List.set_cons_succ, i64_w, i32_w]
           rfl
          refine pure_ (i := 4) (N := some 57) (v := ?_) (a' := ?_) #[true, false, true, true, true, false, false, false, false, false, false, false, false] rfl rfl (any_of HT_.out (by kernel_rfl)) (fun _ _ _ h => h) (Or.inl ⟨by rfl, ?_⟩) ?_ ?_
          rotate_left
          ·intro w'
           go_simp
           with_reducible rfl
          rotate_left
          ·simp only [Act.put, List.setIfInBounds_toArray, List.set_cons_zero, List.set_cons_succ, i64_w, i32_w]
           rfl
          refine pure_ (i := 5) (N := some 58) (v := ?_) (a' := ?_) #[true, false, true, true, true, true, false, false, false, false, false, false, false] rfl rfl (any_of HT_.out (by kernel_rfl)) (fun _ _ _ h => h) (Or.inl ⟨by rfl, ?_⟩) ?_ ?_
          rotate_left
          ·intro w'
           go_simp
           with_reducible rfl
          rotate_left
          ·simp only [Act.put, List.setIfInBounds_toArray, List.set_cons_zero, List.set_cons_succ, i64_w, i32_w]
           rfl
          refine pure_ (i := 6) (N := some 59) (v := ?_) (a' := ?_) #[true, false, true, true, true, true, true, false, false, false, false, false, false] rfl rfl (any_of HT_.out (by kernel_rfl)) (fun _ _ _ h => h) (Or.inl ⟨by rfl, ?_⟩) ?_ ?_
          rotate_left
          ·intro w'
           go_simp
           with_reducible rfl
          rotate_left
          ·simp only [Act.put, List.setIfInBounds_toArray, List.set_cons_zero, List.set_cons_succ, i64_w, i32_w]
           rfl
          refine take_ (i := 1) (N := some 54) (v := ?_) (a' := ?_) #[true, true, true, true, true, true, true, false, false, false, false, false, false] rfl rfl (take_ofW HT_.out HW_.out (by kernel_rfl)) (fun _ _ _ h => h) (Or.inl ⟨by rfl, ?_⟩) hHeld ?_ ?_
          rotate_left
          ·rintro w' ⟨s0, s1⟩
           go_simp
           with_reducible rfl
          rotate_left
          ·simp only [Act.put, List.setIfInBounds_toArray, List.set_cons_zero, List.set_cons_succ, i64_w, i32_w]
           rfl
          refine one_ (i := 7) (N := some 60) #[true, true, true, true, true, true, true, true, false, false, false, false, false] rfl rfl (one_of HT_.out (by kernel_rfl)) (by decide) (fun K hK => ?_)
          refine goes_ Tryd.func27 (by kernel_rfl) rfl #[.int .i64 (Int.tmod t235 6), .int .i64 (wrap64 ((Int.tmod t237 (a0.size : Int)) + 1)), .string a0] (by rfl) rfl rfl (by (try simp only [List.map_toArray, List.map_cons, List.map_nil]); first | done | rfl | (simp only [List.length_drop, List.length_take]; rfl)) ?_
          with_reducible refine (impl_told.calls k2 (Int.tmod t235 6) (wrap64 ((Int.tmod t237 (a0.size : Int)) + 1)) a0 t239 _ A28.out).mono ?_
          rintro e w33 ⟨rfl, hb⟩
          refine ⟨_, rfl, ?_⟩
          have n0_ := am (Kd.R_below (roS HO_235001.out) hb)
          have n1_ := am (blk_below (bkS BK230.out) hb)
          have n2_ := am (blk_below (bkS BK234.out) hb)
          have n3_ := am (IsS3.below (by repeat (first | (with_reducible first | exact HI229.out | apply IsS3.alloc | apply IsS3.drewN | apply IsS3.drew | apply IsS3.set_0 | refine IsS3.far ?_ NB229_230.out _ | refine IsS3.far ?_ NB229_234.out _) | exact HI229.out)) hb)
          have n4_ := am (below_step (by repeat (first | (with_reducible first | exact HB.out | apply below_alloc | apply pw_below_drewN | apply below_drew1 | refine below_set ?_ (IsS3.ge HI229.out) | refine below_set ?_ GE230.out | refine below_set ?_ GE234.out) | exact HB.out)) hb)
          clear HO_235001
          clear BK230
          clear BK234
          clear HI229
          clear HB
          have HO_235001 := n0_
          have BK230 := n1_
          have BK234 := n2_
          have HI229 := n3_
          have HB := n4_
          clear n0_ n1_ n2_ n3_ n4_
          (try clear hb)
          (try clear hb2)
          (try clear hk)
          (try clear hi)
          refine hK.out _ _ ⟨(blk_cell BK234.out 0).trans rfl, (blk_cell BK234.out 1).trans rfl⟩ (fun hHeld => ?_)
          clear hK K
          refine norm_ (a' := ?_) ?_ ?_
          rotate_left
          ·show Act.put _ (some 60) _ = _
           simp only [Act.put, List.setIfInBounds_toArray, List.set_cons_zero, List.set_cons_succ, i64_w, i32_w]
           rfl
          refine pure_ (i := 8) (N := some 61) (v := ?_) (a' := ?_) #[true, true, true, true, true, true, true, true, true, false, false, false, false] rfl rfl (any_of HT_.out (by kernel_rfl)) (fun _ _ _ h => h) (Or.inl ⟨by rfl, ?_⟩) ?_ ?_
          rotate_left
          ·intro w'
           go_simp
           with_reducible rfl
          rotate_left
          ·simp only [Act.put, List.setIfInBounds_toArray, List.set_cons_zero, List.set_cons_succ, i64_w, i32_w]
           rfl
          refine one_ (i := 9) (N := some 62) #[true, true, true, true, true, true, true, true, true, true, false, false, false] rfl rfl (one_of HT_.out (by kernel_rfl)) (by decide) (fun K hK => ?_)
          refine value_ (w1 := ?_) (v := ?_) (by rfl) rfl ?_ ?_
          rotate_left 2
          ·go_simp
           constructor
           ·rfl
           ·rfl
          refine hK.out _ _ ⟨(blk_cell (blk_alloc BK234.out _) 0).trans rfl, (blk_cell (blk_alloc BK234.out _) 1).trans rfl⟩ (fun hHeld => ?_)
          clear hK K
          refine norm_ (a' := ?_) ?_ ?_
          rotate_left
          ·show Act.put _ (some 62) _ = _
           simp only [Act.put, List.setIfInBounds_toArray, List.set_cons_zero, List.set_cons_succ, i64_w, i32_w]
           rfl
          refine one_ (i := 10) (N := some 63) #[true, true, true, true, true, true, true, true, true, true, true, false, false] rfl rfl (one_of HT_.out (by kernel_rfl)) (by decide) (fun K hK => ?_)
          refine Kd.R_append_step k26 (w0 := w) w.heap.size (by rfl) (.tmp 54) (.tmp 62) 29 26 (.agg #[(.int .i64 0), (.int .i64 0), (.int .i64 0)]) 24 rfl Tryd.underlying29 info26 rfl (by decide) (by omega) u235001 x235001_2 (⟨Int.tmod t235 6, wrap64 ((Int.tmod t237 (a0.size : Int)) + 1), t239⟩ : S26) [.int .i64 (Int.tmod t235 6), .int .i64 (wrap64 ((Int.tmod t237 (a0.size : Int)) + 1)), .int .i64 t239] (fun _ => True) (fun _ => False) rfl rfl ?aP (fun _ hk => hk.elim) ?aF ?aO ?aB ?aS ?aL ?_
          (case aP => exact k26_mkM _ _ _ (⟨Int.tmod t235 6, wrap64 ((Int.tmod t237 (a0.size : Int)) + 1), t239⟩ : S26))
          (case aB => exact (by repeat (first | (with_reducible first | exact HB.out | apply below_alloc | apply pw_below_drewN | apply below_drew1 | refine below_set ?_ (IsS3.ge HI229.out) | refine below_set ?_ GE230.out | refine below_set ?_ GE234.out) | exact HB.out)))
          (case aF => exact (fun _ _ => trivial))
          (case aO => exact (roS HO_235001.out))
          (case aS => exact (below_size (by repeat (first | (with_reducible first | exact HB.out | apply below_alloc | apply pw_below_drewN | apply below_drew1 | refine below_set ?_ (IsS3.ge HI229.out) | refine below_set ?_ GE230.out | refine below_set ?_ GE234.out) | exact HB.out))))
          (case aL => have := LMc29.out; omega)
          intro v241 w34 ho hb hg hat
          rw [← Ny240.out] at ho
          have n0_ := am (blk_grown (g := gb230) (o := .cells #[.int .i64 0, .slice none 0 0] 31 (0, 0)) (bkS BK230.out) hg (Kd.R_ne HO_235001.out BK230.out (by decide)))
          have n1_ := am (blk_grown (g := gb234) (o := .cells #[.int .i64 (a0.size : Int), u235001] 31 (0, 0)) (bkS BK234.out) hg (Kd.R_ne HO_235001.out BK234.out (by decide)))
          have n2_ := am (IsS3.grown (by repeat (first | (with_reducible first | exact HI229.out | apply IsS3.alloc | apply IsS3.drewN | apply IsS3.drew | apply IsS3.set_0 | refine IsS3.far ?_ NB229_230.out _ | refine IsS3.far ?_ NB229_234.out _) | exact HI229.out)) hg (IsS3.own_ne HI229.out HO_235001.out (by decide)))
          have n3_ := am (hb)
          have n4_ := am (ho)
          clear BK230
          clear BK234
          clear HI229
          clear HB
          clear HO_235001
          have BK230 := n0_
          have BK234 := n1_
          have HI229 := n2_
          have HB := n3_
          have HO242 := n4_
          clear n0_ n1_ n2_ n3_ n4_
          clear ho hb hg hat
          obtain ⟨Ao35, co35, eo35⟩ := Kd.R_slice HO242.out
          (first | subst eo35 | (injection eo35 with f1_ f2_ f3_; have f4_ := f1_.symm; have f5_ := f3_.symm; clear f1_ f2_ f3_; subst f4_; subst f5_))
          refine hK.out _ _ ⟨(blk_cell BK234.out 0).trans rfl, (blk_cell BK234.out 1).trans rfl⟩ (fun hHeld => ?_)
          clear hK K
          refine norm_ (a' := ?_) ?_ ?_
          rotate_left
          ·show Act.put _ (some 63) _ = _
           simp only [Act.put, List.setIfInBounds_toArray, List.set_cons_zero, List.set_cons_succ, i64_w, i32_w]
           rfl
          refine pure_ (i := 11) (N := some 64) (v := ?_) (a' := ?_) #[true, true, true, true, true, true, true, true, true, true, true, true, false] rfl rfl (any_of HT_.out (by kernel_rfl)) (fun _ _ _ h => h) (Or.inl ⟨by rfl, ?_⟩) ?_ ?_
          rotate_left
          ·intro w'
           go_simp
           with_reducible rfl
          rotate_left
          ·simp only [Act.put, List.setIfInBounds_toArray, List.set_cons_zero, List.set_cons_succ, i64_w, i32_w]
           rfl
          refine last_ (i := 12) (N := none) #[true, true, true, true, true, true, true, true, true, true, true, true, true] rfl rfl (one_of HT_.out (by kernel_rfl)) (by decide) (fun K hK => ?_)
          have hs36 : w34.cell? ⟨gb234, 1, none⟩ = some (u235001) := (blk_cell BK234.out 1).trans rfl
          have hfs36 := blk_frozen BK234.out 1
          have hns36_0 := NB230_234.out
          have hms36_0 := NB234_230.out
          refine skip_ (w1 := ?_) (by rfl) rfl ?_ ?_
          rotate_left
          ·go_simp
           rfl
          refine hK.out _ _ ?_
          clear hK K
          refine done_ (done_of HT_.out (by kernel_rfl)) ?_
          try go_wp2
          go_roundg k2
          case measure => have := HJ3.out; have := HK2.out; omega
          case rel => exact ⟨(wrap64 (x32_2 + 1)), (t238), (y240), (.slice Ao35 y240.length co35), (by first | rfl | (simp; done) | (simp [*]; done)), H', ⟨by have := HJ3.out; have := HK2.out; omega⟩, ⟨by (with_reducible repeat (first | apply Kd.R_alloc | apply Kd.R_drewN | apply Kd.R_drew)); exact Kd.R_mono (Kd.R_far (p := ⟨gb234, 1, none⟩) (Kd.R_types HO242.out BK234.out (by decide)) (fun _ hk => hk.2) (.slice Ao35 y240.length co35)) (fun _ hk => trivial)⟩, ⟨by (with_reducible repeat (first | refine blk_drewN ?_ _ | refine blk_drew ?_ | refine blk_alloc ?_ _)); refine blk_far ?_ NB230_234.out _; (with_reducible repeat (first | refine blk_drewN ?_ _ | refine blk_drew ?_ | refine blk_alloc ?_ _)); exact BK230.out⟩, ⟨by (with_reducible repeat (first | refine blk_drewN ?_ _ | refine blk_drew ?_ | refine blk_alloc ?_ _)); refine blk_put (cs := #[.int .i64 (a0.size : Int), u235001]) ?_ 1 _ rfl; (with_reducible repeat (first | refine blk_drewN ?_ _ | refine blk_drew ?_ | refine blk_alloc ?_ _)); exact BK234.out⟩, ⟨by repeat (first | (with_reducible first | exact HI229.out | apply IsS3.alloc | apply IsS3.drewN | apply IsS3.drew | apply IsS3.set_0 | refine IsS3.far ?_ NB229_230.out _ | refine IsS3.far ?_ NB229_234.out _) | exact HI229.out)⟩, ⟨by repeat (first | (with_reducible first | exact HB.out | apply below_alloc | apply pw_below_drewN | apply below_drew1 | refine below_set ?_ (IsS3.ge HI229.out) | refine below_set ?_ GE230.out | refine below_set ?_ GE234.out) | exact HB.out)⟩⟩
         ·rw [if_neg c29] at H
          exact absurd H (by simp)
       ·rw [if_neg c26] at H
        have c26b0 : ((Int.tmod t235 6) == 1) = false := beq_eq_false_iff_ne.mpr c26
        have c26b1 : ((Int.tmod t235 6) != 1) = true := bne_iff_ne.mpr c26
        by_cases c37 : (Int.tmod t235 6) = 2
        ·rw [if_pos c37] at H
         have c37b0 : ((Int.tmod t235 6) == 2) = true := beq_iff_eq.mpr c37
         have c37b1 : ((Int.tmod t235 6) != 2) = false := bne_eq_false_iff_eq.mpr c37
         clear c37
         replace H := Option.bind_eq_some_iff.mp H
         obtain ⟨t243, A380, H⟩ := H
         replace H : (if x235001_2.length < 5864062014805 then (impl_MakePuzzle.l0 k2 a0 a1 (wrap64 (x32_2 + 1)) t238 (a0.size : Int) (x235001_2 ++ [(⟨Int.tmod t235 6, wrap64 ((Int.tmod t237 9) + 1), t243⟩ : S26)])) else (none)) = some (r1, r2, r3) := H
         have A38 := am A380
         clear A380
         by_cases c39 : x235001_2.length < 5864062014805
         ·rw [if_pos c39] at H
          have LMc39 := am c39
          clear c39
          obtain ⟨y244, hy244⟩ : ∃ y_ : List (S26), y_ = (x235001_2 ++ [(⟨Int.tmod t235 6, wrap64 ((Int.tmod t237 9) + 1), t243⟩ : S26)]) := ⟨_, rfl⟩
          replace H : (impl_MakePuzzle.l0 k2 a0 a1 (wrap64 (x32_2 + 1)) t238 (a0.size : Int) y244) = some (r1, r2, r3) := by first | (rw [hy244]; with_reducible exact H) | (have H2_ := (Option.bind_some _ _).symm.trans H; rw [hy244]; with_reducible exact H2_) | (have H2_ := (Option.bind_some _ _).symm.trans H; with_reducible exact H2_) | with_reducible exact H | (rw [hy244]; exact H) | exact H
          have Ny244 := am hy244
          clear hy244
          have H' := am H
          clear H
          try go_wp2_with (first | (go_at_call 26; (with_reducible refine (impl_MakePuzzle_1.calls g229 x230000_2 t235 t236 w _ ?side1 ?side2 A24.out).mono ?_); (case side1 => repeat (first | (with_reducible first | exact HI229.out | apply IsS3.alloc | apply IsS3.drewN | apply IsS3.drew | apply IsS3.set_0 | refine IsS3.far ?_ NB229_230.out _ | refine IsS3.far ?_ NB229_234.out _) | exact HI229.out)); (case side2 => repeat (first | (with_reducible first | exact HB.out | apply below_alloc | apply pw_below_drewN | apply below_drew1 | refine below_set ?_ (IsS3.ge HI229.out) | refine below_set ?_ GE230.out | refine below_set ?_ GE234.out) | exact HB.out)); rintro e w40 ⟨rfl, hi, hb, hk⟩; have n0_ := am (Kd.R_mono (Kd.R_keep (IsS3.apart (show IsS3 w _ g229 x230000_2 from by repeat (first | (with_reducible first | exact HI229.out | apply IsS3.alloc | apply IsS3.drewN | apply IsS3.drew | apply IsS3.set_0 | refine IsS3.far ?_ NB229_230.out _ | refine IsS3.far ?_ NB229_234.out _) | exact HI229.out)) (roS HO_235001.out) (by decide)) hk (fun _ h => h.2)) (fun _ h => h.1)); have n1_ := am (KeepBut.blk hk (g' := gb230) (o := .cells #[.int .i64 0, .slice none 0 0] 31 (0, 0)) (bkS BK230.out) NB230_229.out (by simp)); have n2_ := am (KeepBut.blk hk (g' := gb234) (o := .cells #[.int .i64 (a0.size : Int), u235001] 31 (0, 0)) (bkS BK234.out) NB234_229.out (by simp)); have n3_ := am (hb); have n4_ := am (hi); clear HO_235001; clear BK230; clear BK234; clear HB; clear HI229; have HO_235001 := n0_; have BK230 := n1_; have BK234 := n2_; have HB := n3_; have HI229 := n4_; clear n0_ n1_ n2_ n3_ n4_; (try clear hb); (try clear hb2); (try clear hk); (try clear hi)) | (go_at_call 26; (with_reducible refine (impl_MakePuzzle_1.calls g229 t236 t237 t238 w _ ?side1 ?side2 A25.out).mono ?_); (case side1 => repeat (first | (with_reducible first | exact HI229.out | apply IsS3.alloc | apply IsS3.drewN | apply IsS3.drew | apply IsS3.set_0 | refine IsS3.far ?_ NB229_230.out _ | refine IsS3.far ?_ NB229_234.out _) | exact HI229.out)); (case side2 => repeat (first | (with_reducible first | exact HB.out | apply below_alloc | apply pw_below_drewN | apply below_drew1 | refine below_set ?_ (IsS3.ge HI229.out) | refine below_set ?_ GE230.out | refine below_set ?_ GE234.out) | exact HB.out)); rintro e w41 ⟨rfl, hi, hb, hk⟩; have n0_ := am (Kd.R_mono (Kd.R_keep (IsS3.apart (show IsS3 w _ g229 t236 from by repeat (first | (with_reducible first | exact HI229.out | apply IsS3.alloc | apply IsS3.drewN | apply IsS3.drew | apply IsS3.set_0 | refine IsS3.far ?_ NB229_230.out _ | refine IsS3.far ?_ NB229_234.out _) | exact HI229.out)) (roS HO_235001.out) (by decide)) hk (fun _ h => h.2)) (fun _ h => h.1)); have n1_ := am (KeepBut.blk hk (g' := gb230) (o := .cells #[.int .i64 0, .slice none 0 0] 31 (0, 0)) (bkS BK230.out) NB230_229.out (by simp)); have n2_ := am (KeepBut.blk hk (g' := gb234) (o := .cells #[.int .i64 (a0.size : Int), u235001] 31 (0, 0)) (bkS BK234.out) NB234_229.out (by simp)); have n3_ := am (hb); have n4_ := am (hi); clear HO_235001; clear BK230; clear BK234; clear HB; clear HI229; have HO_235001 := n0_; have BK230 := n1_; have BK234 := n2_; have HB := n3_; have HI229 := n4_; clear n0_ n1_ n2_ n3_ n4_; (try clear hb); (try clear hb2); (try clear hk); (try clear hi)))
          have n0_ := am (Kd.R_drew HO_235001.out)
          have n1_ := am (blk_drew BK230.out)
          have n2_ := am (blk_drew BK234.out)
          have n3_ := am (IsS3.drew HI229.out)
          have n4_ := am (below_drew1 HB.out)
          clear HO_235001
          clear BK230
          clear BK234
          clear HI229
          clear HB
          have HO_235001 := n0_
          have BK230 := n1_
          have BK234 := n2_
          have HI229 := n3_
          have HB := n4_
          clear n0_ n1_ n2_ n3_ n4_
          refine start_ (n := 13) (S := fun w' => w'.cell? ⟨gb234, 0, none⟩ = some (.int .i64 (a0.size : Int)) ∧ w'.cell? ⟨gb234, 1, none⟩ = some (u235001)) (ds := [12]) #[false, false, false, false, false, false, false, false, false, false, false, false, false] (by kernel_rfl) rfl rfl ⟨(blk_cell BK234.out 0).trans rfl, (blk_cell BK234.out 1).trans rfl⟩ (fun hHeld => ?_); refine with_tabW impl_MakePuzzle.tab15 impl_MakePuzzle.bits15 (fun HT_ HW_ => ?_)
          generalize w41.drew = w42 at HO_235001 BK230 BK234 HI229 HB hHeld ⊢
          refine pure_ (i := 0) (N := some 53) (v := ?_) (a' := ?_) #[true, false, false, false, false, false, false, false, false, false, false, false, false] rfl rfl (any_of HT_.out (by kernel_rfl)) (fun _ _ _ h => h) (Or.inl ⟨by rfl, ?_⟩) ?_ ?_
          rotate_left
          ·intro w'
           go_simp
           with_reducible rfl
          rotate_left
          ·simp only [Act.put, List.setIfInBounds_toArray, List.set_cons_zero, List.set_cons_succ, i64_w, i32_w]
           rfl
          refine pure_ (i := 2) (N := some 55) (v := ?_) (a' := ?_) #[true, false, true, false, false, false, false, false, false, false, false, false, false] rfl rfl (any_of HT_.out (by kernel_rfl)) (fun _ _ _ h => h) (Or.inl ⟨by rfl, ?_⟩) ?_ ?_
          rotate_left
          ·intro w'
           go_simp
           with_reducible rfl
          rotate_left
          ·simp only [Act.put, List.setIfInBounds_toArray, List.set_cons_zero, List.set_cons_succ, i64_w, i32_w]
           rfl
          refine pure_ (i := 3) (N := some 56) (v := ?_) (a' := ?_) #[true, false, true, true, false, false, false, false, false, false, false, false, false] rfl rfl (any_of HT_.out (by kernel_rfl)) (fun _ _ _ h => h) (Or.inl ⟨by rfl, ?_⟩) ?_ ?_
          rotate_left
          ·intro w'
           go_simp
           with_reducible rfl
          rotate_left
          ·simp only [Act.put, List.setIfInBounds_toArray, List.set_cons_zero, List.set_cons_succ, i64_w, i32_w]
           rfl
          refine pure_ (i := 4) (N := some 57) (v := ?_) (a' := ?_) #[true, false, true, true, true, false, false, false, false, false, false, false, false] rfl rfl (any_of HT_.out (by kernel_rfl)) (fun _ _ _ h => h) (Or.inl ⟨by rfl, ?_⟩) ?_ ?_
          rotate_left
          ·intro w'
           go_simp
           with_reducible rfl
          rotate_left
          ·simp only [Act.put, List.setIfInBounds_toArray, List.set_cons_zero, List.set_cons_succ, i64_w, i32_w]
           rfl
          refine pure_ (i := 5) (N := some 58) (v := ?_) (a' := ?_) #[true, false, true, true, true, true, false, false, false, false, false, false, false] rfl rfl (any_of HT_.out (by kernel_rfl)) (fun _ _ _ h => h) (Or.inl ⟨by rfl, ?_⟩) ?_ ?_
          rotate_left
          ·intro w'
           go_simp
           with_reducible rfl
          rotate_left
          ·simp only [Act.put, List.setIfInBounds_toArray, List.set_cons_zero, List.set_cons_succ, i64_w, i32_w]
           rfl
          refine pure_ (i := 6) (N := some 59) (v := ?_) (a' := ?_) #[true, false, true, true, true, true, true, false, false, false, false, false, false] rfl rfl (any_of HT_.out (by kernel_rfl)) (fun _ _ _ h => h) (Or.inl ⟨by rfl, ?_⟩) ?_ ?_
          rotate_left
          ·intro w'
           go_simp
           with_reducible rfl
          rotate_left
          ·simp only [Act.put, List.setIfInBounds_toArray, List.set_cons_zero, List.set_cons_succ, i64_w, i32_w]
           rfl
          refine take_ (i := 1) (N := some 54) (v := ?_) (a' := ?_) #[true, true, true, true, true, true, true, false, false, false, false, false, false] rfl rfl (take_ofW HT_.out HW_.out (by kernel_rfl)) (fun _ _ _ h => h) (Or.inl ⟨by rfl, ?_⟩) hHeld ?_ ?_
          rotate_left
          ·rintro w' ⟨s0, s1⟩
           go_simp
           with_reducible rfl
          rotate_left
          ·simp only [Act.put, List.setIfInBounds_toArray, List.set_cons_zero, List.set_cons_succ, i64_w, i32_w]
           rfl
          refine one_ (i := 7) (N := some 60) #[true, true, true, true, true, true, true, true, false, false, false, false, false] rfl rfl (one_of HT_.out (by kernel_rfl)) (by decide) (fun K hK => ?_)
          refine goes_ Tryd.func27 (by kernel_rfl) rfl #[.int .i64 (Int.tmod t235 6), .int .i64 (wrap64 ((Int.tmod t237 9) + 1)), .string a0] (by rfl) rfl rfl (by (try simp only [List.map_toArray, List.map_cons, List.map_nil]); first | done | rfl | (simp only [List.length_drop, List.length_take]; rfl)) ?_
          with_reducible refine (impl_told.calls k2 (Int.tmod t235 6) (wrap64 ((Int.tmod t237 9) + 1)) a0 t243 _ A38.out).mono ?_
          rintro e w43 ⟨rfl, hb⟩
          refine ⟨_, rfl, ?_⟩
          have n0_ := am (Kd.R_below (roS HO_235001.out) hb)
          have n1_ := am (blk_below (bkS BK230.out) hb)
          have n2_ := am (blk_below (bkS BK234.out) hb)
          have n3_ := am (IsS3.below (by repeat (first | (with_reducible first | exact HI229.out | apply IsS3.alloc | apply IsS3.drewN | apply IsS3.drew | apply IsS3.set_0 | refine IsS3.far ?_ NB229_230.out _ | refine IsS3.far ?_ NB229_234.out _) | exact HI229.out)) hb)
          have n4_ := am (below_step (by repeat (first | (with_reducible first | exact HB.out | apply below_alloc | apply pw_below_drewN | apply below_drew1 | refine below_set ?_ (IsS3.ge HI229.out) | refine below_set ?_ GE230.out | refine below_set ?_ GE234.out) | exact HB.out)) hb)
          clear HO_235001
          clear BK230
          clear BK234
          clear HI229
          clear HB
          have HO_235001 := n0_
          have BK230 := n1_
          have BK234 := n2_
          have HI229 := n3_
          have HB := n4_
          clear n0_ n1_ n2_ n3_ n4_
          (try clear hb)
          (try clear hb2)
          (try clear hk)
          (try clear hi)
          refine hK.out _ _ ⟨(blk_cell BK234.out 0).trans rfl, (blk_cell BK234.out 1).trans rfl⟩ (fun hHeld => ?_)
          clear hK K
          refine norm_ (a' := ?_) ?_ ?_
          rotate_left
          ·show Act.put _ (some 60) _ = _
           simp only [Act.put, List.setIfInBounds_toArray, List.set_cons_zero, List.set_cons_succ, i64_w, i32_w]
           rfl
          refine pure_ (i := 8) (N := some 61) (v := ?_) (a' := ?_) #[true, true, true, true, true, true, true, true, true, false, false, false, false] rfl rfl (any_of HT_.out (by kernel_rfl)) (fun _ _ _ h => h) (Or.inl ⟨by rfl, ?_⟩) ?_ ?_
          rotate_left
          ·intro w'
           go_simp
           with_reducible rfl
          rotate_left
          ·simp only [Act.put, List.setIfInBounds_toArray, List.set_cons_zero, List.set_cons_succ, i64_w, i32_w]
           rfl
          refine one_ (i := 9) (N := some 62) #[true, true, true, true, true, true, true, true, true, true, false, false, false] rfl rfl (one_of HT_.out (by kernel_rfl)) (by decide) (fun K hK => ?_)
          refine value_ (w1 := ?_) (v := ?_) (by rfl) rfl ?_ ?_
          rotate_left 2
          ·go_simp
           constructor
           ·rfl
           ·rfl
          refine hK.out _ _ ⟨(blk_cell (blk_alloc BK234.out _) 0).trans rfl, (blk_cell (blk_alloc BK234.out _) 1).trans rfl⟩ (fun hHeld => ?_)
          clear hK K
          refine norm_ (a' := ?_) ?_ ?_
          rotate_left
          ·show Act.put _ (some 62) _ = _
           simp only [Act.put, List.setIfInBounds_toArray, List.set_cons_zero, List.set_cons_succ, i64_w, i32_w]
           rfl
          refine one_ (i := 10) (N := some 63) #[true, true, true, true, true, true, true, true, true, true, true, false, false] rfl rfl (one_of HT_.out (by kernel_rfl)) (by decide) (fun K hK => ?_)
          refine Kd.R_append_step k26 (w0 := w) w.heap.size (by rfl) (.tmp 54) (.tmp 62) 29 26 (.agg #[(.int .i64 0), (.int .i64 0), (.int .i64 0)]) 24 rfl Tryd.underlying29 info26 rfl (by decide) (by omega) u235001 x235001_2 (⟨Int.tmod t235 6, wrap64 ((Int.tmod t237 9) + 1), t243⟩ : S26) [.int .i64 (Int.tmod t235 6), .int .i64 (wrap64 ((Int.tmod t237 9) + 1)), .int .i64 t243] (fun _ => True) (fun _ => False) rfl rfl ?aP (fun _ hk => hk.elim) ?aF ?aO ?aB ?aS ?aL ?_
          (case aP => exact k26_mkM _ _ _ (⟨Int.tmod t235 6, wrap64 ((Int.tmod t237 9) + 1), t243⟩ : S26))
          (case aB => exact (by repeat (first | (with_reducible first | exact HB.out | apply below_alloc | apply pw_below_drewN | apply below_drew1 | refine below_set ?_ (IsS3.ge HI229.out) | refine below_set ?_ GE230.out | refine below_set ?_ GE234.out) | exact HB.out)))
          (case aF => exact (fun _ _ => trivial))
          (case aO => exact (roS HO_235001.out))
          (case aS => exact (below_size (by repeat (first | (with_reducible first | exact HB.out | apply below_alloc | apply pw_below_drewN | apply below_drew1 | refine below_set ?_ (IsS3.ge HI229.out) | refine below_set ?_ GE230.out | refine below_set ?_ GE234.out) | exact HB.out))))
          (case aL => have := LMc39.out; omega)
          intro v245 w44 ho hb hg hat
          rw [← Ny244.out] at ho
          have n0_ := am (blk_grown (g := gb230) (o := .cells #[.int .i64 0, .slice none 0 0] 31 (0, 0)) (bkS BK230.out) hg (Kd.R_ne HO_235001.out BK230.out (by decide)))
          have n1_ := am (blk_grown (g := gb234) (o := .cells #[.int .i64 (a0.size : Int), u235001] 31 (0, 0)) (bkS BK234.out) hg (Kd.R_ne HO_235001.out BK234.out (by decide)))
          have n2_ := am (IsS3.grown (by repeat (first | (with_reducible first | exact HI229.out | apply IsS3.alloc | apply IsS3.drewN | apply IsS3.drew | apply IsS3.set_0 | refine IsS3.far ?_ NB229_230.out _ | refine IsS3.far ?_ NB229_234.out _) | exact HI229.out)) hg (IsS3.own_ne HI229.out HO_235001.out (by decide)))
          have n3_ := am (hb)
          have n4_ := am (ho)
          clear BK230
          clear BK234
          clear HI229
          clear HB
          clear HO_235001
          have BK230 := n0_
          have BK234 := n1_
          have HI229 := n2_
          have HB := n3_
          have HO246 := n4_
          clear n0_ n1_ n2_ n3_ n4_
          clear ho hb hg hat
          obtain ⟨Ao45, co45, eo45⟩ := Kd.R_slice HO246.out
          (first | subst eo45 | (injection eo45 with f1_ f2_ f3_; have f4_ := f1_.symm; have f5_ := f3_.symm; clear f1_ f2_ f3_; subst f4_; subst f5_))
          refine hK.out _ _ ⟨(blk_cell BK234.out 0).trans rfl, (blk_cell BK234.out 1).trans rfl⟩ (fun hHeld => ?_)
          clear hK K
          refine norm_ (a' := ?_) ?_ ?_
          rotate_left
          ·show Act.put _ (some 63) _ = _
           simp only [Act.put, List.setIfInBounds_toArray, List.set_cons_zero, List.set_cons_succ, i64_w, i32_w]
           rfl
          refine pure_ (i := 11) (N := some 64) (v := ?_) (a' := ?_) #[true, true, true, true, true, true, true, true, true, true, true, true, false] rfl rfl (any_of HT_.out (by kernel_rfl)) (fun _ _ _ h => h) (Or.inl ⟨by rfl, ?_⟩) ?_ ?_
          rotate_left
          ·intro w'
           go_simp
           with_reducible rfl
          rotate_left
          ·simp only [Act.put, List.setIfInBounds_toArray, List.set_cons_zero, List.set_cons_succ, i64_w, i32_w]
           rfl
          refine last_ (i := 12) (N := none) #[true, true, true, true, true, true, true, true, true, true, true, true, true] rfl rfl (one_of HT_.out (by kernel_rfl)) (by decide) (fun K hK => ?_)
          have hs46 : w44.cell? ⟨gb234, 1, none⟩ = some (u235001) := (blk_cell BK234.out 1).trans rfl
          have hfs46 := blk_frozen BK234.out 1
          have hns46_0 := NB230_234.out
          have hms46_0 := NB234_230.out
          refine skip_ (w1 := ?_) (by rfl) rfl ?_ ?_
          rotate_left
          ·go_simp
           rfl
          refine hK.out _ _ ?_
          clear hK K
          refine done_ (done_of HT_.out (by kernel_rfl)) ?_
          try go_wp2
          go_roundg k2
          case measure => have := HJ3.out; have := HK2.out; omega
          case rel => exact ⟨(wrap64 (x32_2 + 1)), (t238), (y244), (.slice Ao45 y244.length co45), (by first | rfl | (simp; done) | (simp [*]; done)), H', ⟨by have := HJ3.out; have := HK2.out; omega⟩, ⟨by (with_reducible repeat (first | apply Kd.R_alloc | apply Kd.R_drewN | apply Kd.R_drew)); exact Kd.R_mono (Kd.R_far (p := ⟨gb234, 1, none⟩) (Kd.R_types HO246.out BK234.out (by decide)) (fun _ hk => hk.2) (.slice Ao45 y244.length co45)) (fun _ hk => trivial)⟩, ⟨by (with_reducible repeat (first | refine blk_drewN ?_ _ | refine blk_drew ?_ | refine blk_alloc ?_ _)); refine blk_far ?_ NB230_234.out _; (with_reducible repeat (first | refine blk_drewN ?_ _ | refine blk_drew ?_ | refine blk_alloc ?_ _)); exact BK230.out⟩, ⟨by (with_reducible repeat (first | refine blk_drewN ?_ _ | refine blk_drew ?_ | refine blk_alloc ?_ _)); refine blk_put (cs := #[.int .i64 (a0.size : Int), u235001]) ?_ 1 _ rfl; (with_reducible repeat (first | refine blk_drewN ?_ _ | refine blk_drew ?_ | refine blk_alloc ?_ _)); exact BK234.out⟩, ⟨by repeat (first | (with_reducible first | exact HI229.out | apply IsS3.alloc | apply IsS3.drewN | apply IsS3.drew | apply IsS3.set_0 | refine IsS3.far ?_ NB229_230.out _ | refine IsS3.far ?_ NB229_234.out _) | exact HI229.out)⟩, ⟨by repeat (first | (with_reducible first | exact HB.out | apply below_alloc | apply pw_below_drewN | apply below_drew1 | refine below_set ?_ (IsS3.ge HI229.out) | refine below_set ?_ GE230.out | refine below_set ?_ GE234.out) | exact HB.out)⟩⟩
         ·rw [if_neg c39] at H
          exact absurd H (by simp)
        ·rw [if_neg c37] at H
         have c37b0 : ((Int.tmod t235 6) == 2) = false := beq_eq_false_iff_ne.mpr c37
         have c37b1 : ((Int.tmod t235 6) != 2) = true := bne_iff_ne.mpr c37
         by_cases c47 : (Int.tmod t235 6) = 4
         ·rw [if_pos c47] at H
          have c47b0 : ((Int.tmod t235 6) == 4) = true := beq_iff_eq.mpr c47
          have c47b1 : ((Int.tmod t235 6) != 4) = false := bne_eq_false_iff_eq.mpr c47
          clear c47
          replace H := Option.bind_eq_some_iff.mp H
          obtain ⟨t247, A480, H⟩ := H
          replace H : (if x235001_2.length < 5864062014805 then (impl_MakePuzzle.l0 k2 a0 a1 (wrap64 (x32_2 + 1)) t238 (a0.size : Int) (x235001_2 ++ [(⟨Int.tmod t235 6, wrap64 ((Int.tmod t237 9) + 1), t247⟩ : S26)])) else (none)) = some (r1, r2, r3) := H
          have A48 := am A480
          clear A480
          by_cases c49 : x235001_2.length < 5864062014805
          ·rw [if_pos c49] at H
           have LMc49 := am c49
           clear c49
           obtain ⟨y248, hy248⟩ : ∃ y_ : List (S26), y_ = (x235001_2 ++ [(⟨Int.tmod t235 6, wrap64 ((Int.tmod t237 9) + 1), t247⟩ : S26)]) := ⟨_, rfl⟩
           replace H : (impl_MakePuzzle.l0 k2 a0 a1 (wrap64 (x32_2 + 1)) t238 (a0.size : Int) y248) = some (r1, r2, r3) := by first | (rw [hy248]; with_reducible exact H) | (have H2_ := (Option.bind_some _ _).symm.trans H; rw [hy248]; with_reducible exact H2_) | (have H2_ := (Option.bind_some _ _).symm.trans H; with_reducible exact H2_) | with_reducible exact H | (rw [hy248]; exact H) | exact H
           have Ny248 := am hy248
           clear hy248
           have H' := am H
           clear H
           try go_wp2_with (first | (go_at_call 26; (with_reducible refine (impl_MakePuzzle_1.calls g229 x230000_2 t235 t236 w _ ?side1 ?side2 A24.out).mono ?_); (case side1 => repeat (first | (with_reducible first | exact HI229.out | apply IsS3.alloc | apply IsS3.drewN | apply IsS3.drew | apply IsS3.set_0 | refine IsS3.far ?_ NB229_230.out _ | refine IsS3.far ?_ NB229_234.out _) | exact HI229.out)); (case side2 => repeat (first | (with_reducible first | exact HB.out | apply below_alloc | apply pw_below_drewN | apply below_drew1 | refine below_set ?_ (IsS3.ge HI229.out) | refine below_set ?_ GE230.out | refine below_set ?_ GE234.out) | exact HB.out)); rintro e w50 ⟨rfl, hi, hb, hk⟩; have n0_ := am (Kd.R_mono (Kd.R_keep (IsS3.apart (show IsS3 w _ g229 x230000_2 from by repeat (first | (with_reducible first | exact HI229.out | apply IsS3.alloc | apply IsS3.drewN | apply IsS3.drew | apply IsS3.set_0 | refine IsS3.far ?_ NB229_230.out _ | refine IsS3.far ?_ NB229_234.out _) | exact HI229.out)) (roS HO_235001.out) (by decide)) hk (fun _ h => h.2)) (fun _ h => h.1)); have n1_ := am (KeepBut.blk hk (g' := gb230) (o := .cells #[.int .i64 0, .slice none 0 0] 31 (0, 0)) (bkS BK230.out) NB230_229.out (by simp)); have n2_ := am (KeepBut.blk hk (g' := gb234) (o := .cells #[.int .i64 (a0.size : Int), u235001] 31 (0, 0)) (bkS BK234.out) NB234_229.out (by simp)); have n3_ := am (hb); have n4_ := am (hi); clear HO_235001; clear BK230; clear BK234; clear HB; clear HI229; have HO_235001 := n0_; have BK230 := n1_; have BK234 := n2_; have HB := n3_; have HI229 := n4_; clear n0_ n1_ n2_ n3_ n4_; (try clear hb); (try clear hb2); (try clear hk); (try clear hi)) | (go_at_call 26; (with_reducible refine (impl_MakePuzzle_1.calls g229 t236 t237 t238 w _ ?side1 ?side2 A25.out).mono ?_); (case side1 => repeat (first | (with_reducible first | exact HI229.out | apply IsS3.alloc | apply IsS3.drewN | apply IsS3.drew | apply IsS3.set_0 | refine IsS3.far ?_ NB229_230.out _ | refine IsS3.far ?_ NB229_234.out _) | exact HI229.out)); (case side2 => repeat (first | (with_reducible first | exact HB.out | apply below_alloc | apply pw_below_drewN | apply below_drew1 | refine below_set ?_ (IsS3.ge HI229.out) | refine below_set ?_ GE230.out | refine below_set ?_ GE234.out) | exact HB.out)); rintro e w51 ⟨rfl, hi, hb, hk⟩; have n0_ := am (Kd.R_mono (Kd.R_keep (IsS3.apart (show IsS3 w _ g229 t236 from by repeat (first | (with_reducible first | exact HI229.out | apply IsS3.alloc | apply IsS3.drewN | apply IsS3.drew | apply IsS3.set_0 | refine IsS3.far ?_ NB229_230.out _ | refine IsS3.far ?_ NB229_234.out _) | exact HI229.out)) (roS HO_235001.out) (by decide)) hk (fun _ h => h.2)) (fun _ h => h.1)); have n1_ := am (KeepBut.blk hk (g' := gb230) (o := .cells #[.int .i64 0, .slice none 0 0] 31 (0, 0)) (bkS BK230.out) NB230_229.out (by simp)); have n2_ := am (KeepBut.blk hk (g' := gb234) (o := .cells #[.int .i64 (a0.size : Int), u235001] 31 (0, 0)) (bkS BK234.out) NB234_229.out (by simp)); have n3_ := am (hb); have n4_ := am (hi); clear HO_235001; clear BK230; clear BK234; clear HB; clear HI229; have HO_235001 := n0_; have BK230 := n1_; have BK234 := n2_; have HB := n3_; have HI229 := n4_; clear n0_ n1_ n2_ n3_ n4_; (try clear hb); (try clear hb2); (try clear hk); (try clear hi)))
           have n0_ := am (Kd.R_drew HO_235001.out)
           have n1_ := am (blk_drew BK230.out)
           have n2_ := am (blk_drew BK234.out)
           have n3_ := am (IsS3.drew HI229.out)
           have n4_ := am (below_drew1 HB.out)
           clear HO_235001
           clear BK230
           clear BK234
           clear HI229
           clear HB
           have HO_235001 := n0_
           have BK230 := n1_
           have BK234 := n2_
           have HI229 := n3_
           have HB := n4_
           clear n0_ n1_ n2_ n3_ n4_
           refine start_ (n := 13) (S := fun w' => w'.cell? ⟨gb234, 0, none⟩ = some (.int .i64 (a0.size : Int)) ∧ w'.cell? ⟨gb234, 1, none⟩ = some (u235001)) (ds := [12]) #[false, false, false, false, false, false, false, false, false, false, false, false, false] (by kernel_rfl) rfl rfl ⟨(blk_cell BK234.out 0).trans rfl, (blk_cell BK234.out 1).trans rfl⟩ (fun hHeld => ?_); refine with_tabW impl_MakePuzzle.tab15 impl_MakePuzzle.bits15 (fun HT_ HW_ => ?_)
           generalize w51.drew = w52 at HO_235001 BK230 BK234 HI229 HB hHeld ⊢
           refine pure_ (i := 0) (N := some 53) (v := ?_) (a' := ?_) #[true, false, false, false, false, false, false, false, false, false, false, false, false] rfl rfl (any_of HT_.out (by kernel_rfl)) (fun _ _ _ h => h) (Or.inl ⟨by rfl, ?_⟩) ?_ ?_
           rotate_left
           ·intro w'
            go_simp
            with_reducible rfl
           rotate_left
           ·simp only [Act.put, List.setIfInBounds_toArray, List.set_cons_zero, List.set_cons_succ, i64_w, i32_w]
            rfl
           refine pure_ (i := 2) (N := some 55) (v := ?_) (a' := ?_) #[true, false, true, false, false, false, false, false, false, false, false, false, false] rfl rfl (any_of HT_.out (by kernel_rfl)) (fun _ _ _ h => h) (Or.inl ⟨by rfl, ?_⟩) ?_ ?_
           rotate_left
           ·intro w'
            go_simp
            with_reducible rfl
           rotate_left
           ·simp only [Act.put, List.setIfInBounds_toArray, List.set_cons_zero, List.set_cons_succ, i64_w, i32_w]
            rfl
           refine pure_ (i := 3) (N := some 56) (v := ?_) (a' := ?_) #[true, false, true, true, false, false, false, false, false, false, false, false, false] rfl rfl (any_of HT_.out (by kernel_rfl)) (fun _ _ _ h => h) (Or.inl ⟨by rfl, ?_⟩) ?_ ?_
           rotate_left
           ·intro w'
            go_simp
            with_reducible rfl
           rotate_left
           ·simp only [Act.put, List.setIfInBounds_toArray, List.set_cons_zero, List.set_cons_succ, i64_w, i32_w]
            rfl
           refine pure_ (i := 4) (N := some 57) (v := ?_) (a' := ?_) #[true, false, true, true, true, false, false, false, false, false, false, false, false] rfl rfl (any_of HT_.out (by kernel_rfl)) (fun _ _ _ h => h) (Or.inl ⟨by rfl, ?_⟩) ?_ ?_
           rotate_left
           ·intro w'
            go_simp
            with_reducible rfl
           rotate_left
           ·simp only [Act.put, List.setIfInBounds_toArray, List.set_cons_zero, List.set_cons_succ, i64_w, i32_w]
            rfl
           refine pure_ (i := 5) (N := some 58) (v := ?_) (a' := ?_) #[true, false, true, true, true, true, false, false, false, false, false, false, false] rfl rfl (any_of HT_.out (by kernel_rfl)) (fun _ _ _ h => h) (Or.inl ⟨by rfl, ?_⟩) ?_ ?_
           rotate_left
           ·intro w'
            go_simp
            with_reducible rfl
           rotate_left
           ·simp only [Act.put, List.setIfInBounds_toArray, List.set_cons_zero, List.set_cons_succ, i64_w, i32_w]
            rfl
           refine pure_ (i := 6) (N := some 59) (v := ?_) (a' := ?_) #[true, false, true, true, true, true, true, false, false, false, false, false, false] rfl rfl (any_of HT_.out (by kernel_rfl)) (fun _ _ _ h => h) (Or.inl ⟨by rfl, ?_⟩) ?_ ?_
           rotate_left
           ·intro w'
            go_simp
            with_reducible rfl
           rotate_left
           ·simp only [Act.put, List.setIfInBounds_toArray, List.set_cons_zero, List.set_cons_succ, i64_w, i32_w]
            rfl
           refine take_ (i := 1) (N := some 54) (v := ?_) (a' := ?_) #[true, true, true, true, true, true, true, false, false, false, false, false, false] rfl rfl (take_ofW HT_.out HW_.out (by kernel_rfl)) (fun _ _ _ h => h) (Or.inl ⟨by rfl, ?_⟩) hHeld ?_ ?_
           rotate_left
           ·rintro w' ⟨s0, s1⟩
            go_simp
            with_reducible rfl
           rotate_left
           ·simp only [Act.put, List.setIfInBounds_toArray, List.set_cons_zero, List.set_cons_succ, i64_w, i32_w]
            rfl
           refine one_ (i := 7) (N := some 60) #[true, true, true, true, true, true, true, true, false, false, false, false, false] rfl rfl (one_of HT_.out (by kernel_rfl)) (by decide) (fun K hK => ?_)
           refine goes_ Tryd.func27 (by kernel_rfl) rfl #[.int .i64 (Int.tmod t235 6), .int .i64 (wrap64 ((Int.tmod t237 9) + 1)), .string a0] (by rfl) rfl rfl (by (try simp only [List.map_toArray, List.map_cons, List.map_nil]); first | done | rfl | (simp only [List.length_drop, List.length_take]; rfl)) ?_
           with_reducible refine (impl_told.calls k2 (Int.tmod t235 6) (wrap64 ((Int.tmod t237 9) + 1)) a0 t247 _ A48.out).mono ?_
           rintro e w53 ⟨rfl, hb⟩
           refine ⟨_, rfl, ?_⟩
           have n0_ := am (Kd.R_below (roS HO_235001.out) hb)
           have n1_ := am (blk_below (bkS BK230.out) hb)
           have n2_ := am (blk_below (bkS BK234.out) hb)
           have n3_ := am (IsS3.below (by repeat (first | (with_reducible first | exact HI229.out | apply IsS3.alloc | apply IsS3.drewN | apply IsS3.drew | apply IsS3.set_0 | refine IsS3.far ?_ NB229_230.out _ | refine IsS3.far ?_ NB229_234.out _) | exact HI229.out)) hb)
           have n4_ := am (below_step (by repeat (first | (with_reducible first | exact HB.out | apply below_alloc | apply pw_below_drewN | apply below_drew1 | refine below_set ?_ (IsS3.ge HI229.out) | refine below_set ?_ GE230.out | refine below_set ?_ GE234.out) | exact HB.out)) hb)
           clear HO_235001
           clear BK230
           clear BK234
           clear HI229
           clear HB
           have HO_235001 := n0_
           have BK230 := n1_
           have BK234 := n2_
           have HI229 := n3_
           have HB := n4_
           clear n0_ n1_ n2_ n3_ n4_
           (try clear hb)
           (try clear hb2)
           (try clear hk)
           (try clear hi)
           refine hK.out _ _ ⟨(blk_cell BK234.out 0).trans rfl, (blk_cell BK234.out 1).trans rfl⟩ (fun hHeld => ?_)
           clear hK K
           refine norm_ (a' := ?_) ?_ ?_
           rotate_left
           ·show Act.put _ (some 60) _ = _
            simp only [Act.put, List.setIfInBounds_toArray, List.set_cons_zero, List.set_cons_succ, i64_w, i32_w]
            rfl
           refine pure_ (i := 8) (N := some 61) (v := ?_) (a' := ?_) #[true, true, true, true, true, true, true, true, true, false, false, false, false] rfl rfl (any_of HT_.out (by kernel_rfl)) (fun _ _ _ h => h) (Or.inl ⟨by rfl, ?_⟩) ?_ ?_
           rotate_left
           ·intro w'
            go_simp
            with_reducible rfl
           rotate_left
           ·simp only [Act.put, List.setIfInBounds_toArray, List.set_cons_zero, List.set_cons_succ, i64_w, i32_w]
            rfl
           refine one_ (i := 9) (N := some 62) #[true, true, true, true, true, true, true, true, true, true, false, false, false] rfl rfl (one_of HT_.out (by kernel_rfl)) (by decide) (fun K hK => ?_)
           refine value_ (w1 := ?_) (v := ?_) (by rfl) rfl ?_ ?_
           rotate_left 2
           ·go_simp
            constructor
            ·rfl
            ·rfl
           refine hK.out _ _ ⟨(blk_cell (blk_alloc BK234.out _) 0).trans rfl, (blk_cell (blk_alloc BK234.out _) 1).trans rfl⟩ (fun hHeld => ?_)
           clear hK K
           refine norm_ (a' := ?_) ?_ ?_
           rotate_left
           ·show Act.put _ (some 62) _ = _
            simp only [Act.put, List.setIfInBounds_toArray, List.set_cons_zero, List.set_cons_succ, i64_w, i32_w]
            rfl
           refine one_ (i := 10) (N := some 63) #[true, true, true, true, true, true, true, true, true, true, true, false, false] rfl rfl (one_of HT_.out (by kernel_rfl)) (by decide) (fun K hK => ?_)
           refine Kd.R_append_step k26 (w0 := w) w.heap.size (by rfl) (.tmp 54) (.tmp 62) 29 26 (.agg #[(.int .i64 0), (.int .i64 0), (.int .i64 0)]) 24 rfl Tryd.underlying29 info26 rfl (by decide) (by omega) u235001 x235001_2 (⟨Int.tmod t235 6, wrap64 ((Int.tmod t237 9) + 1), t247⟩ : S26) [.int .i64 (Int.tmod t235 6), .int .i64 (wrap64 ((Int.tmod t237 9) + 1)), .int .i64 t247] (fun _ => True) (fun _ => False) rfl rfl ?aP (fun _ hk => hk.elim) ?aF ?aO ?aB ?aS ?aL ?_
           (case aP => exact k26_mkM _ _ _ (⟨Int.tmod t235 6, wrap64 ((Int.tmod t237 9) + 1), t247⟩ : S26))
           (case aB => exact (by repeat (first | (with_reducible first | exact HB.out | apply below_alloc | apply pw_below_drewN | apply below_drew1 | refine below_set ?_ (IsS3.ge HI229.out) | refine below_set ?_ GE230.out | refine below_set ?_ GE234.out) | exact HB.out)))
           (case aF => exact (fun _ _ => trivial))
           (case aO => exact (roS HO_235001.out))
           (case aS => exact (below_size (by repeat (first | (with_reducible first | exact HB.out | apply below_alloc | apply pw_below_drewN | apply below_drew1 | refine below_set ?_ (IsS3.ge HI229.out) | refine below_set ?_ GE230.out | refine below_set ?_ GE234.out) | exact HB.out))))
           (case aL => have := LMc49.out; omega)
           intro v249 w54 ho hb hg hat
           rw [← Ny248.out] at ho
           have n0_ := am (blk_grown (g := gb230) (o := .cells #[.int .i64 0, .slice none 0 0] 31 (0, 0)) (bkS BK230.out) hg (Kd.R_ne HO_235001.out BK230.out (by decide)))
           have n1_ := am (blk_grown (g := gb234) (o := .cells #[.int .i64 (a0.size : Int), u235001] 31 (0, 0)) (bkS BK234.out) hg (Kd.R_ne HO_235001.out BK234.out (by decide)))
           have n2_ := am (IsS3.grown (by repeat (first | (with_reducible first | exact HI229.out | apply IsS3.alloc | apply IsS3.drewN | apply IsS3.drew | apply IsS3.set_0 | refine IsS3.far ?_ NB229_230.out _ | refine IsS3.far ?_ NB229_234.out _) | exact HI229.out)) hg (IsS3.own_ne HI229.out HO_235001.out (by decide)))
           have n3_ := am (hb)
           have n4_ := am (ho)
           clear BK230
           clear BK234
           clear HI229
           clear HB
           clear HO_235001
           have BK230 := n0_
           have BK234 := n1_
           have HI229 := n2_
           have HB := n3_
           have HO250 := n4_
           clear n0_ n1_ n2_ n3_ n4_
           clear ho hb hg hat
           obtain ⟨Ao55, co55, eo55⟩ := Kd.R_slice HO250.out
           (first | subst eo55 | (injection eo55 with f1_ f2_ f3_; have f4_ := f1_.symm; have f5_ := f3_.symm; clear f1_ f2_ f3_; subst f4_; subst f5_))
           refine hK.out _ _ ⟨(blk_cell BK234.out 0).trans rfl, (blk_cell BK234.out 1).trans rfl⟩ (fun hHeld => ?_)
           clear hK K
           refine norm_ (a' := ?_) ?_ ?_
           rotate_left
           ·show Act.put _ (some 63) _ = _
            simp only [Act.put, List.setIfInBounds_toArray, List.set_cons_zero, List.set_cons_succ, i64_w, i32_w]
            rfl
           refine pure_ (i := 11) (N := some 64) (v := ?_) (a' := ?_) #[true, true, true, true, true, true, true, true, true, true, true, true, false] rfl rfl (any_of HT_.out (by kernel_rfl)) (fun _ _ _ h => h) (Or.inl ⟨by rfl, ?_⟩) ?_ ?_
           rotate_left
           ·intro w'
            go_simp
            with_reducible rfl
           rotate_left
           ·simp only [Act.put, List.setIfInBounds_toArray, List.set_cons_zero, List.set_cons_succ, i64_w, i32_w]
            rfl
           refine last_ (i := 12) (N := none) #[true, true, true, true, true, true, true, true, true, true, true, true, true] rfl rfl (one_of HT_.out (by kernel_rfl)) (by decide) (fun K hK => ?_)
           have hs56 : w54.cell? ⟨gb234, 1, none⟩ = some (u235001) := (blk_cell BK234.out 1).trans rfl
           have hfs56 := blk_frozen BK234.out 1
           have hns56_0 := NB230_234.out
           have hms56_0 := NB234_230.out
           refine skip_ (w1 := ?_) (by rfl) rfl ?_ ?_
           rotate_left
           ·go_simp
            rfl
           refine hK.out _ _ ?_
           clear hK K
           refine done_ (done_of HT_.out (by kernel_rfl)) ?_
           try go_wp2
           go_roundg k2
           case measure => have := HJ3.out; have := HK2.out; omega
           case rel => exact ⟨(wrap64 (x32_2 + 1)), (t238), (y248), (.slice Ao55 y248.length co55), (by first | rfl | (simp; done) | (simp [*]; done)), H', ⟨by have := HJ3.out; have := HK2.out; omega⟩, ⟨by (with_reducible repeat (first | apply Kd.R_alloc | apply Kd.R_drewN | apply Kd.R_drew)); exact Kd.R_mono (Kd.R_far (p := ⟨gb234, 1, none⟩) (Kd.R_types HO250.out BK234.out (by decide)) (fun _ hk => hk.2) (.slice Ao55 y248.length co55)) (fun _ hk => trivial)⟩, ⟨by (with_reducible repeat (first | refine blk_drewN ?_ _ | refine blk_drew ?_ | refine blk_alloc ?_ _)); refine blk_far ?_ NB230_234.out _; (with_reducible repeat (first | refine blk_drewN ?_ _ | refine blk_drew ?_ | refine blk_alloc ?_ _)); exact BK230.out⟩, ⟨by (with_reducible repeat (first | refine blk_drewN ?_ _ | refine blk_drew ?_ | refine blk_alloc ?_ _)); refine blk_put (cs := #[.int .i64 (a0.size : Int), u235001]) ?_ 1 _ rfl; (with_reducible repeat (first | refine blk_drewN ?_ _ | refine blk_drew ?_ | refine blk_alloc ?_ _)); exact BK234.out⟩, ⟨by repeat (first | (with_reducible first | exact HI229.out | apply IsS3.alloc | apply IsS3.drewN | apply IsS3.drew | apply IsS3.set_0 | refine IsS3.far ?_ NB229_230.out _ | refine IsS3.far ?_ NB229_234.out _) | exact HI229.out)⟩, ⟨by repeat (first | (with_reducible first | exact HB.out | apply below_alloc | apply pw_below_drewN | apply below_drew1 | refine below_set ?_ (IsS3.ge HI229.out) | refine below_set ?_ GE230.out | refine below_set ?_ GE234.out) | exact HB.out)⟩⟩
          ·rw [if_neg c49] at H
           exact absurd H (by simp)
         ·rw [if_neg c47] at H
          have c47b0 : ((Int.tmod t235 6) == 4) = false := beq_eq_false_iff_ne.mpr c47
          have c47b1 : ((Int.tmod t235 6) != 4) = true := bne_iff_ne.mpr c47
          replace H := Option.bind_eq_some_iff.mp H
          obtain ⟨t251, A570, H⟩ := H
          replace H : (if x235001_2.length < 5864062014805 then (impl_MakePuzzle.l0 k2 a0 a1 (wrap64 (x32_2 + 1)) t238 (a0.size : Int) (x235001_2 ++ [(⟨Int.tmod t235 6, 0, t251⟩ : S26)])) else (none)) = some (r1, r2, r3) := H
          have A57 := am A570
          clear A570
          by_cases c58 : x235001_2.length < 5864062014805
          ·rw [if_pos c58] at H
           have LMc58 := am c58
           clear c58
           obtain ⟨y252, hy252⟩ : ∃ y_ : List (S26), y_ = (x235001_2 ++ [(⟨Int.tmod t235 6, 0, t251⟩ : S26)]) := ⟨_, rfl⟩
           replace H : (impl_MakePuzzle.l0 k2 a0 a1 (wrap64 (x32_2 + 1)) t238 (a0.size : Int) y252) = some (r1, r2, r3) := by first | (rw [hy252]; with_reducible exact H) | (have H2_ := (Option.bind_some _ _).symm.trans H; rw [hy252]; with_reducible exact H2_) | (have H2_ := (Option.bind_some _ _).symm.trans H; with_reducible exact H2_) | with_reducible exact H | (rw [hy252]; exact H) | exact H
           have Ny252 := am hy252
           clear hy252
           have H' := am H
           clear H
           try go_wp2_with (first | (go_at_call 26; (with_reducible refine (impl_MakePuzzle_1.calls g229 x230000_2 t235 t236 w _ ?side1 ?side2 A24.out).mono ?_); (case side1 => repeat (first | (with_reducible first | exact HI229.out | apply IsS3.alloc | apply IsS3.drewN | apply IsS3.drew | apply IsS3.set_0 | refine IsS3.far ?_ NB229_230.out _ | refine IsS3.far ?_ NB229_234.out _) | exact HI229.out)); (case side2 => repeat (first | (with_reducible first | exact HB.out | apply below_alloc | apply pw_below_drewN | apply below_drew1 | refine below_set ?_ (IsS3.ge HI229.out) | refine below_set ?_ GE230.out | refine below_set ?_ GE234.out) | exact HB.out)); rintro e w59 ⟨rfl, hi, hb, hk⟩; have n0_ := am (Kd.R_mono (Kd.R_keep (IsS3.apart (show IsS3 w _ g229 x230000_2 from by repeat (first | (with_reducible first | exact HI229.out | apply IsS3.alloc | apply IsS3.drewN | apply IsS3.drew | apply IsS3.set_0 | refine IsS3.far ?_ NB229_230.out _ | refine IsS3.far ?_ NB229_234.out _) | exact HI229.out)) (roS HO_235001.out) (by decide)) hk (fun _ h => h.2)) (fun _ h => h.1)); have n1_ := am (KeepBut.blk hk (g' := gb230) (o := .cells #[.int .i64 0, .slice none 0 0] 31 (0, 0)) (bkS BK230.out) NB230_229.out (by simp)); have n2_ := am (KeepBut.blk hk (g' := gb234) (o := .cells #[.int .i64 (a0.size : Int), u235001] 31 (0, 0)) (bkS BK234.out) NB234_229.out (by simp)); have n3_ := am (hb); have n4_ := am (hi); clear HO_235001; clear BK230; clear BK234; clear HB; clear HI229; have HO_235001 := n0_; have BK230 := n1_; have BK234 := n2_; have HB := n3_; have HI229 := n4_; clear n0_ n1_ n2_ n3_ n4_; (try clear hb); (try clear hb2); (try clear hk); (try clear hi)) | (go_at_call 26; (with_reducible refine (impl_MakePuzzle_1.calls g229 t236 t237 t238 w _ ?side1 ?side2 A25.out).mono ?_); (case side1 => repeat (first | (with_reducible first | exact HI229.out | apply IsS3.alloc | apply IsS3.drewN | apply IsS3.drew | apply IsS3.set_0 | refine IsS3.far ?_ NB229_230.out _ | refine IsS3.far ?_ NB229_234.out _) | exact HI229.out)); (case side2 => repeat (first | (with_reducible first | exact HB.out | apply below_alloc | apply pw_below_drewN | apply below_drew1 | refine below_set ?_ (IsS3.ge HI229.out) | refine below_set ?_ GE230.out | refine below_set ?_ GE234.out) | exact HB.out)); rintro e w60 ⟨rfl, hi, hb, hk⟩; have n0_ := am (Kd.R_mono (Kd.R_keep (IsS3.apart (show IsS3 w _ g229 t236 from by repeat (first | (with_reducible first | exact HI229.out | apply IsS3.alloc | apply IsS3.drewN | apply IsS3.drew | apply IsS3.set_0 | refine IsS3.far ?_ NB229_230.out _ | refine IsS3.far ?_ NB229_234.out _) | exact HI229.out)) (roS HO_235001.out) (by decide)) hk (fun _ h => h.2)) (fun _ h => h.1)); have n1_ := am (KeepBut.blk hk (g' := gb230) (o := .cells #[.int .i64 0, .slice none 0 0] 31 (0, 0)) (bkS BK230.out) NB230_229.out (by simp)); have n2_ := am (KeepBut.blk hk (g' := gb234) (o := .cells #[.int .i64 (a0.size : Int), u235001] 31 (0, 0)) (bkS BK234.out) NB234_229.out (by simp)); have n3_ := am (hb); have n4_ := am (hi); clear HO_235001; clear BK230; clear BK234; clear HB; clear HI229; have HO_235001 := n0_; have BK230 := n1_; have BK234 := n2_; have HB := n3_; have HI229 := n4_; clear n0_ n1_ n2_ n3_ n4_; (try clear hb); (try clear hb2); (try clear hk); (try clear hi)))
           have n0_ := am (Kd.R_drew HO_235001.out)
           have n1_ := am (blk_drew BK230.out)
           have n2_ := am (blk_drew BK234.out)
           have n3_ := am (IsS3.drew HI229.out)
           have n4_ := am (below_drew1 HB.out)
           clear HO_235001
           clear BK230
           clear BK234
           clear HI229
           clear HB
           have HO_235001 := n0_
           have BK230 := n1_
           have BK234 := n2_
           have HI229 := n3_
           have HB := n4_
           clear n0_ n1_ n2_ n3_ n4_
           refine start_ (n := 13) (S := fun w' => w'.cell? ⟨gb234, 0, none⟩ = some (.int .i64 (a0.size : Int)) ∧ w'.cell? ⟨gb234, 1, none⟩ = some (u235001)) (ds := [12]) #[false, false, false, false, false, false, false, false, false, false, false, false, false] (by kernel_rfl) rfl rfl ⟨(blk_cell BK234.out 0).trans rfl, (blk_cell BK234.out 1).trans rfl⟩ (fun hHeld => ?_); refine with_tabW impl_MakePuzzle.tab15 impl_MakePuzzle.bits15 (fun HT_ HW_ => ?_)
           generalize w60.drew = w61 at HO_235001 BK230 BK234 HI229 HB hHeld ⊢
           refine pure_ (i := 0) (N := some 53) (v := ?_) (a' := ?_) #[true, false, false, false, false, false, false, false, false, false, false, false, false] rfl rfl (any_of HT_.out (by kernel_rfl)) (fun _ _ _ h => h) (Or.inl ⟨by rfl, ?_⟩) ?_ ?_
           rotate_left
           ·intro w'
            go_simp
            with_reducible rfl
           rotate_left
           ·simp only [Act.put, List.setIfInBounds_toArray, List.set_cons_zero, List.set_cons_succ, i64_w, i32_w]
            rfl
           refine pure_ (i := 2) (N := some 55) (v := ?_) (a' := ?_) #[true, false, true, false, false, false, false, false, false, false, false, false, false] rfl rfl (any_of HT_.out (by kernel_rfl)) (fun _ _ _ h => h) (Or.inl ⟨by rfl, ?_⟩) ?_ ?_
           rotate_left
           ·intro w'
            go_simp
            with_reducible rfl
           rotate_left
           ·simp only [Act.put, List.setIfInBounds_toArray, List.set_cons_zero, List.set_cons_succ, i64_w, i32_w]
            rfl
           refine pure_ (i := 3) (N := some 56) (v := ?_) (a' := ?_) #[true, false, true, true, false, false, false, false, false, false, false, false, false] rfl rfl (any_of HT_.out (by kernel_rfl)) (fun _ _ _ h => h) (Or.inl ⟨by rfl, ?_⟩) ?_ ?_
           rotate_left
           ·intro w'
            go_simp
            with_reducible rfl
           rotate_left
           ·simp only [Act.put, List.setIfInBounds_toArray, List.set_cons_zero, List.set_cons_succ, i64_w, i32_w]
            rfl
           refine pure_ (i := 4) (N := some 57) (v := ?_) (a' := ?_) #[true, false, true, true, true, false, false, false, false, false, false, false, false] rfl rfl (any_of HT_.out (by kernel_rfl)) (fun _ _ _ h => h) (Or.inl ⟨by rfl, ?_⟩) ?_ ?_
           rotate_left
           ·intro w'
            go_simp
            with_reducible rfl
           rotate_left
           ·simp only [Act.put, List.setIfInBounds_toArray, List.set_cons_zero, List.set_cons_succ, i64_w, i32_w]
            rfl
           refine pure_ (i := 5) (N := some 58) (v := ?_) (a' := ?_) #[true, false, true, true, true, true, false, false, false, false, false, false, false] rfl rfl (any_of HT_.out (by kernel_rfl)) (fun _ _ _ h => h) (Or.inl ⟨by rfl, ?_⟩) ?_ ?_
           rotate_left
           ·intro w'
            go_simp
            with_reducible rfl
           rotate_left
           ·simp only [Act.put, List.setIfInBounds_toArray, List.set_cons_zero, List.set_cons_succ, i64_w, i32_w]
            rfl
           refine pure_ (i := 6) (N := some 59) (v := ?_) (a' := ?_) #[true, false, true, true, true, true, true, false, false, false, false, false, false] rfl rfl (any_of HT_.out (by kernel_rfl)) (fun _ _ _ h => h) (Or.inl ⟨by rfl, ?_⟩) ?_ ?_
           rotate_left
           ·intro w'
            go_simp
            with_reducible rfl
           rotate_left
           ·simp only [Act.put, List.setIfInBounds_toArray, List.set_cons_zero, List.set_cons_succ, i64_w, i32_w]
            rfl
           refine take_ (i := 1) (N := some 54) (v := ?_) (a' := ?_) #[true, true, true, true, true, true, true, false, false, false, false, false, false] rfl rfl (take_ofW HT_.out HW_.out (by kernel_rfl)) (fun _ _ _ h => h) (Or.inl ⟨by rfl, ?_⟩) hHeld ?_ ?_
           rotate_left
           ·rintro w' ⟨s0, s1⟩
            go_simp
            with_reducible rfl
           rotate_left
           ·simp only [Act.put, List.setIfInBounds_toArray, List.set_cons_zero, List.set_cons_succ, i64_w, i32_w]
            rfl
           refine one_ (i := 7) (N := some 60) #[true, true, true, true, true, true, true, true, false, false, false, false, false] rfl rfl (one_of HT_.out (by kernel_rfl)) (by decide) (fun K hK => ?_)
           refine goes_ Tryd.func27 (by kernel_rfl) rfl #[.int .i64 (Int.tmod t235 6), .int .i64 0, .string a0] (by rfl) rfl rfl (by (try simp only [List.map_toArray, List.map_cons, List.map_nil]); first | done | rfl | (simp only [List.length_drop, List.length_take]; rfl)) ?_
           with_reducible refine (impl_told.calls k2 (Int.tmod t235 6) 0 a0 t251 _ A57.out).mono ?_
           rintro e w62 ⟨rfl, hb⟩
           refine ⟨_, rfl, ?_⟩
           have n0_ := am (Kd.R_below (roS HO_235001.out) hb)
           have n1_ := am (blk_below (bkS BK230.out) hb)
           have n2_ := am (blk_below (bkS BK234.out) hb)
           have n3_ := am (IsS3.below (by repeat (first | (with_reducible first | exact HI229.out | apply IsS3.alloc | apply IsS3.drewN | apply IsS3.drew | apply IsS3.set_0 | refine IsS3.far ?_ NB229_230.out _ | refine IsS3.far ?_ NB229_234.out _) | exact HI229.out)) hb)
           have n4_ := am (below_step (by repeat (first | (with_reducible first | exact HB.out | apply below_alloc | apply pw_below_drewN | apply below_drew1 | refine below_set ?_ (IsS3.ge HI229.out) | refine below_set ?_ GE230.out | refine below_set ?_ GE234.out) | exact HB.out)) hb)
           clear HO_235001
           clear BK230
           clear BK234
           clear HI229
           clear HB
           have HO_235001 := n0_
           have BK230 := n1_
           have BK234 := n2_
           have HI229 := n3_
           have HB := n4_
           clear n0_ n1_ n2_ n3_ n4_
           (try clear hb)
           (try clear hb2)
           (try clear hk)
           (try clear hi)
           refine hK.out _ _ ⟨(blk_cell BK234.out 0).trans rfl, (blk_cell BK234.out 1).trans rfl⟩ (fun hHeld => ?_)
           clear hK K
           refine norm_ (a' := ?_) ?_ ?_
           rotate_left
           ·show Act.put _ (some 60) _ = _
            simp only [Act.put, List.setIfInBounds_toArray, List.set_cons_zero, List.set_cons_succ, i64_w, i32_w]
            rfl
           refine pure_ (i := 8) (N := some 61) (v := ?_) (a' := ?_) #[true, true, true, true, true, true, true, true, true, false, false, false, false] rfl rfl (any_of HT_.out (by kernel_rfl)) (fun _ _ _ h => h) (Or.inl ⟨by rfl, ?_⟩) ?_ ?_
           rotate_left
           ·intro w'
            go_simp
            with_reducible rfl
           rotate_left
           ·simp only [Act.put, List.setIfInBounds_toArray, List.set_cons_zero, List.set_cons_succ, i64_w, i32_w]
            rfl
           refine one_ (i := 9) (N := some 62) #[true, true, true, true, true, true, true, true, true, true, false, false, false] rfl rfl (one_of HT_.out (by kernel_rfl)) (by decide) (fun K hK => ?_)
           refine value_ (w1 := ?_) (v := ?_) (by rfl) rfl ?_ ?_
           rotate_left 2
           ·go_simp
            constructor
            ·rfl
            ·rfl
           refine hK.out _ _ ⟨(blk_cell (blk_alloc BK234.out _) 0).trans rfl, (blk_cell (blk_alloc BK234.out _) 1).trans rfl⟩ (fun hHeld => ?_)
           clear hK K
           refine norm_ (a' := ?_) ?_ ?_
           rotate_left
           ·show Act.put _ (some 62) _ = _
            simp only [Act.put, List.setIfInBounds_toArray, List.set_cons_zero, List.set_cons_succ, i64_w, i32_w]
            rfl
           refine one_ (i := 10) (N := some 63) #[true, true, true, true, true, true, true, true, true, true, true, false, false] rfl rfl (one_of HT_.out (by kernel_rfl)) (by decide) (fun K hK => ?_)
           refine Kd.R_append_step k26 (w0 := w) w.heap.size (by rfl) (.tmp 54) (.tmp 62) 29 26 (.agg #[(.int .i64 0), (.int .i64 0), (.int .i64 0)]) 24 rfl Tryd.underlying29 info26 rfl (by decide) (by omega) u235001 x235001_2 (⟨Int.tmod t235 6, 0, t251⟩ : S26) [.int .i64 (Int.tmod t235 6), .int .i64 0, .int .i64 t251] (fun _ => True) (fun _ => False) rfl rfl ?aP (fun _ hk => hk.elim) ?aF ?aO ?aB ?aS ?aL ?_
           (case aP => exact k26_mkM _ _ _ (⟨Int.tmod t235 6, 0, t251⟩ : S26))
           (case aB => exact (by repeat (first | (with_reducible first | exact HB.out | apply below_alloc | apply pw_below_drewN | apply below_drew1 | refine below_set ?_ (IsS3.ge HI229.out) | refine below_set ?_ GE230.out | refine below_set ?_ GE234.out) | exact HB.out)))
           (case aF => exact (fun _ _ => trivial))
           (case aO => exact (roS HO_235001.out))
           (case aS => exact (below_size (by repeat (first | (with_reducible first | exact HB.out | apply below_alloc | apply pw_below_drewN | apply below_drew1 | refine below_set ?_ (IsS3.ge HI229.out) | refine below_set ?_ GE230.out | refine below_set ?_ GE234.out) | exact HB.out))))
           (case aL => have := LMc58.out; omega)
           intro v253 w63 ho hb hg hat
           rw [← Ny252.out] at ho
           have n0_ := am (blk_grown (g := gb230) (o := .cells #[.int .i64 0, .slice none 0 0] 31 (0, 0)) (bkS BK230.out) hg (Kd.R_ne HO_235001.out BK230.out (by decide)))
           have n1_ := am (blk_grown (g := gb234) (o := .cells #[.int .i64 (a0.size : Int), u235001] 31 (0, 0)) (bkS BK234.out) hg (Kd.R_ne HO_235001.out BK234.out (by decide)))
           have n2_ := am (IsS3.grown (by repeat (first | (with_reducible first | exact HI229.out | apply IsS3.alloc | apply IsS3.drewN | apply IsS3.drew | apply IsS3.set_0 | refine IsS3.far ?_ NB229_230.out _ | refine IsS3.far ?_ NB229_234.out _) | exact HI229.out)) hg (IsS3.own_ne HI229.out HO_235001.out (by decide)))
           have n3_ := am (hb)
           have n4_ := am (ho)
           clear BK230
           clear BK234
           clear HI229
           clear HB
           clear HO_235001
           have BK230 := n0_
           have BK234 := n1_
           have HI229 := n2_
           have HB := n3_
           have HO254 := n4_
           clear n0_ n1_ n2_ n3_ n4_
           clear ho hb hg hat
           obtain ⟨Ao64, co64, eo64⟩ := Kd.R_slice HO254.out
           (first | subst eo64 | (injection eo64 with f1_ f2_ f3_; have f4_ := f1_.symm; have f5_ := f3_.symm; clear f1_ f2_ f3_; subst f4_; subst f5_))
           refine hK.out _ _ ⟨(blk_cell BK234.out 0).trans rfl, (blk_cell BK234.out 1).trans rfl⟩ (fun hHeld => ?_)
           clear hK K
           refine norm_ (a' := ?_) ?_ ?_
           rotate_left
           ·show Act.put _ (some 63) _ = _
            simp only [Act.put, List.setIfInBounds_toArray, List.set_cons_zero, List.set_cons_succ, i64_w, i32_w]
            rfl
           refine pure_ (i := 11) (N := some 64) (v := ?_) (a' := ?_) #[true, true, true, true, true, true, true, true, true, true, true, true, false] rfl rfl (any_of HT_.out (by kernel_rfl)) (fun _ _ _ h => h) (Or.inl ⟨by rfl, ?_⟩) ?_ ?_
           rotate_left
           ·intro w'
            go_simp
            with_reducible rfl
           rotate_left
           ·simp only [Act.put, List.setIfInBounds_toArray, List.set_cons_zero, List.set_cons_succ, i64_w, i32_w]
            rfl
           refine last_ (i := 12) (N := none) #[true, true, true, true, true, true, true, true, true, true, true, true, true] rfl rfl (one_of HT_.out (by kernel_rfl)) (by decide) (fun K hK => ?_)
           have hs65 : w63.cell? ⟨gb234, 1, none⟩ = some (u235001) := (blk_cell BK234.out 1).trans rfl
           have hfs65 := blk_frozen BK234.out 1
           have hns65_0 := NB230_234.out
           have hms65_0 := NB234_230.out
           refine skip_ (w1 := ?_) (by rfl) rfl ?_ ?_
           rotate_left
           ·go_simp
            rfl
           refine hK.out _ _ ?_
           clear hK K
           refine done_ (done_of HT_.out (by kernel_rfl)) ?_
           try go_wp2
           go_roundg k2
           case measure => have := HJ3.out; have := HK2.out; omega
           case rel => exact ⟨(wrap64 (x32_2 + 1)), (t238), (y252), (.slice Ao64 y252.length co64), (by first | rfl | (simp; done) | (simp [*]; done)), H', ⟨by have := HJ3.out; have := HK2.out; omega⟩, ⟨by (with_reducible repeat (first | apply Kd.R_alloc | apply Kd.R_drewN | apply Kd.R_drew)); exact Kd.R_mono (Kd.R_far (p := ⟨gb234, 1, none⟩) (Kd.R_types HO254.out BK234.out (by decide)) (fun _ hk => hk.2) (.slice Ao64 y252.length co64)) (fun _ hk => trivial)⟩, ⟨by (with_reducible repeat (first | refine blk_drewN ?_ _ | refine blk_drew ?_ | refine blk_alloc ?_ _)); refine blk_far ?_ NB230_234.out _; (with_reducible repeat (first | refine blk_drewN ?_ _ | refine blk_drew ?_ | refine blk_alloc ?_ _)); exact BK230.out⟩, ⟨by (with_reducible repeat (first | refine blk_drewN ?_ _ | refine blk_drew ?_ | refine blk_alloc ?_ _)); refine blk_put (cs := #[.int .i64 (a0.size : Int), u235001]) ?_ 1 _ rfl; (with_reducible repeat (first | refine blk_drewN ?_ _ | refine blk_drew ?_ | refine blk_alloc ?_ _)); exact BK234.out⟩, ⟨by repeat (first | (with_reducible first | exact HI229.out | apply IsS3.alloc | apply IsS3.drewN | apply IsS3.drew | apply IsS3.set_0 | refine IsS3.far ?_ NB229_230.out _ | refine IsS3.far ?_ NB229_234.out _) | exact HI229.out)⟩, ⟨by repeat (first | (with_reducible first | exact HB.out | apply below_alloc | apply pw_below_drewN | apply below_drew1 | refine below_set ?_ (IsS3.ge HI229.out) | refine below_set ?_ GE230.out | refine below_set ?_ GE234.out) | exact HB.out)⟩⟩
          ·rw [if_neg c58] at H
           exact absurd H (by simp)
      ·rw [if_neg c23] at H
       have c23b0 : decide (x32_2 < a1) = false := decide_eq_false c23
       clear c23
       simp only [Option.some.injEq, Prod.mk.injEq] at H
       obtain ⟨rfl, rfl, rfl⟩ := H
       have hnb66 := NB234_230.out
       have hnc66 := NB230_234.out
       have hnb67 := NB234_229.out
       have hnc67 := NB229_234.out
       have hcz68_0 : wr.cell? ⟨gb234, 0, none⟩ = some (.int .i64 (a0.size : Int)) := (blk_cell BK234.out 0).trans rfl
       have hcz68_1 : wr.cell? ⟨gb234, 1, none⟩ = some (u235001) := (blk_cell BK234.out 1).trans rfl
       have hfz68_0 := blk_frozen BK234.out 0
       have hfz68_1 := blk_frozen BK234.out 1
       have hnb69 := NB230_229.out
       have hnc69 := NB229_230.out
       have hcz70_0 : wr.cell? ⟨gb230, 0, none⟩ = some (.int .i64 0) := (blk_cell BK230.out 0).trans rfl
       have hcz70_1 : wr.cell? ⟨gb230, 1, none⟩ = some (.slice none 0 0) := (blk_cell BK230.out 1).trans rfl
       have hfz70_0 := blk_frozen BK230.out 0
       have hfz70_1 := blk_frozen BK230.out 1
       obtain ⟨Ao71, co71, eo71⟩ := Kd.R_slice HO_235001.out
       subst eo71
       go_wp2
       refine bodyPost_ret (results_ct rfl _ _ gb230 31 #[.int .i64 (a0.size : Int), .slice Ao71 x235001_2.length co71] (0, 0) _ rfl (by (with_reducible repeat (first | refine blk_drewN ?_ _ | refine blk_drew ?_ | refine blk_alloc ?_ _)); refine blk_put (cs := #[.int .i64 (a0.size : Int), .slice none 0 0]) ?_ 1 _ rfl; (with_reducible repeat (first | refine blk_drewN ?_ _ | refine blk_drew ?_ | refine blk_alloc ?_ _)); refine blk_put (cs := #[.int .i64 0, .slice none 0 0]) ?_ 0 _ rfl; (with_reducible repeat (first | refine blk_drewN ?_ _ | refine blk_drew ?_ | refine blk_alloc ?_ _)); exact BK230.out) Tryd.underlying31 rfl (by kernel_rfl)) rfl ?_
       exact ⟨_, by first | rfl | (simp [errW_none, errW_some] <;> rfl) | (simp [*, errW_none, errW_some] <;> rfl), by (with_reducible repeat (first | apply Kd.R_alloc | apply Kd.R_drewN | apply Kd.R_drew)); exact Kd.R_mono (Kd.R_far (p := ⟨gb230, 1, none⟩) (Kd.R_far (p := ⟨gb230, 0, none⟩) (Kd.R_types HO_235001.out BK230.out (by decide)) (fun _ hk => hk.2) (.int .i64 (a0.size : Int))) (fun _ hk => hk.2) (.slice Ao71 x235001_2.length co71)) (fun _ hk => trivial), by repeat (first | (with_reducible first | exact HB.out | apply below_alloc | apply pw_below_drewN | apply below_drew1 | refine below_set ?_ (IsS3.ge HI229.out) | refine below_set ?_ GE230.out | refine below_set ?_ GE234.out) | exact HB.out)⟩
end Go.Proofs.YticmboabiemniaaDoor.X
end
