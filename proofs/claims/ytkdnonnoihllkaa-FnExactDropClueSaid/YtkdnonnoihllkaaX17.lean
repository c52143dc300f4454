-- Written by a program of this session (wip/tools/mp.py) over the kit's print of the translation.
import Derived.Test.YtkdnonnoihllkaaX0
import Derived.Test.YtkdnonnoihllkaaX4
import Derived.Test.YtkdnonnoihllkaaX8
import Derived.Test.YtkdnonnoihllkaaX12
import Derived.Test.YtkdnonnoihllkaaX15
import Derived.Test.YtkdnonnoihllkaaX16
namespace Go.Proofs.Ytkdnonnoihllkaa.X
open Go.Proofs.Ytkdnonnoihllkaa.Sq Go.RowKit Go.Proofs.YtkdnonnoihllkaaW.PrintWords Go.Proofs.YtkdnonnoihllkaaW.PrintLast Go.Proofs.YtkdnonnoihllkaaW.PrintMore
attribute [local go_sem] max2_int min2_int max_two min_two max_three min_three max_four min_four   -- for this text's walks alone
set_option linter.unusedVariables false
set_option linter.unusedSimpArgs false

/-! ### laws_FnExactDropClue: function 6 -/
mutual
def laws_FnExactDropClue.j0 : Nat → Int → Bool → Bool → Bool → Int → List (S23) → Int → List (S25) → Int → List (S25) → Int → List (S25) → Option (Bool)
 | 0, _, _, _, _, _, _, _, _, _, _, _, _ => none
 | k + 1, x1, x7, x10, x44, x336000, x336001, x347000, x347001, x352000, x352001, x358000, x358001 => if x44 = true then (none) else ((laws_toPuzzle.f k x336000 x336001).bind fun bt359 => ((laws_eqPuzzle.f k x352000 x352001 bt359.1 bt359.2).bind fun t363 => (if t363 = true then ((laws_markPuzzle.f k x352000 x352001 1).bind fun bt364 => (if bt364.1 < 0 then (laws_FnExactDropClue.j1 k x1 x7 true x336000 x336001 x347000 x347001 x358000 x358001) else ((laws_eqPuzzle.f k x358000 x358001 x347000 x347001).bind fun t366 => (if t366 = true then (laws_FnExactDropClue.j1 k x1 x7 (x10 != x7) x336000 x336001 x347000 x347001 x358000 x358001) else (laws_FnExactDropClue.j1 k x1 x7 true x336000 x336001 x347000 x347001 x358000 x358001))))) else (none))))
def laws_FnExactDropClue.j1 : Nat → Int → Bool → Bool → Int → List (S23) → Int → List (S25) → Int → List (S25) → Option (Bool)
 | 0, _, _, _, _, _, _, _, _, _ => none
 | k + 1, x1, x7, x65, x336000, x336001, x347000, x347001, x358000, x358001 => if x65 = true then (none) else ((laws_markPuzzle.f k x358000 x358001 1).bind fun bt367 => ((laws_heldPuzzle.f k x358000 bt367.2 1).bind fun t369 => (if t369 < 0 then (none) else (if t369 = bt367.1 then ((laws_toPuzzle.f k x336000 x336001).bind fun bt370 => ((impl_DropClue.f k bt370.1 bt370.2 x1).bind fun bt374 => ((laws_eqPuzzle.f k bt374.1 bt374.2.1 x347000 x347001).bind fun t380 => (if t380 = true then (laws_FnExactDropClue.j2 k bt367.1 (bt374.2.2 != x7) x358000 bt367.2) else (laws_FnExactDropClue.j2 k bt367.1 true x358000 bt367.2))))) else (none)))))
def laws_FnExactDropClue.j2 : Nat → Int → Bool → Int → List (S25) → Option (Bool)
 | 0, _, _, _, _ => none
 | k + 1, x12, x92, x358000, x358001 => if x92 = true then (none) else ((laws_heldPuzzle.f k x358000 x358001 1).bind fun t381 => (if t381 < 0 then (none) else (if t381 = x12 then (some true) else (none))))
end
def laws_FnExactDropClue.f (k : Nat) (a0_0 : Int) (l0_1 : List (S23)) (a1 : Int) : Option (Bool) := (laws_szPuzzle.f a0_0 l0_1 1048576).bind fun t336 => (if t336 < 0 then (some true) else ((laws_toPuzzle.f k a0_0 l0_1).bind fun bt337 => ((spec_DropClue.f k bt337.1 bt337.2 a1).bind fun bt341 => ((laws_toPuzzle.f k a0_0 l0_1).bind fun bt347 => ((impl_DropClue.f k bt347.1 bt347.2 a1).bind fun bt352 => ((laws_eqPuzzle.f k bt352.1 bt352.2.1 bt341.1 bt341.2.1).bind fun t358 => (if t358 = true then (laws_FnExactDropClue.j0 k a1 bt341.2.2 bt352.2.2 (bt352.2.2 != bt341.2.2) a0_0 l0_1 bt341.1 bt341.2.1 bt347.1 bt347.2 bt352.1 bt352.2.1) else (laws_FnExactDropClue.j0 k a1 bt341.2.2 bt352.2.2 true a0_0 l0_1 bt341.1 bt341.2.1 bt347.1 bt347.2 bt352.1 bt352.2.1))))))))
theorem laws_FnExactDropClue.mono_l : ∀ k, (∀ y0 y1 y2 y3 y4 y5 y6 y7 y8 y9 y10 y11, LeO (laws_FnExactDropClue.j0 k y0 y1 y2 y3 y4 y5 y6 y7 y8 y9 y10 y11) (laws_FnExactDropClue.j0 (k + 1) y0 y1 y2 y3 y4 y5 y6 y7 y8 y9 y10 y11)) ∧ (∀ y0 y1 y2 y3 y4 y5 y6 y7 y8, LeO (laws_FnExactDropClue.j1 k y0 y1 y2 y3 y4 y5 y6 y7 y8) (laws_FnExactDropClue.j1 (k + 1) y0 y1 y2 y3 y4 y5 y6 y7 y8)) ∧ (∀ y0 y1 y2 y3, LeO (laws_FnExactDropClue.j2 k y0 y1 y2 y3) (laws_FnExactDropClue.j2 (k + 1) y0 y1 y2 y3))
 | 0 => ⟨fun _ _ _ _ _ _ _ _ _ _ _ _ r h => by simp [laws_FnExactDropClue.j0] at h, fun _ _ _ _ _ _ _ _ _ r h => by simp [laws_FnExactDropClue.j1] at h, fun _ _ _ _ r h => by simp [laws_FnExactDropClue.j2] at h⟩
 | k + 1 => by
  obtain ⟨ih0, ih1, ih2⟩ := laws_FnExactDropClue.mono_l k
  refine ⟨?_, ?_, ?_⟩
  ·intro y0 y1 y2 y3 y4 y5 y6 y7 y8 y9 y10 y11
   unfold laws_FnExactDropClue.j0
   repeat' first
   | (with_reducible exact ih0 _ _ _ _ _ _ _ _ _ _ _ _)
   | (with_reducible exact ih1 _ _ _ _ _ _ _ _ _)
   | (with_reducible exact ih2 _ _ _ _)
   | (with_reducible exact impl_DropClue.mono _ _ _ _)
   | (with_reducible exact laws_eqPuzzle.mono _ _ _ _ _)
   | (with_reducible exact laws_heldPuzzle.mono _ _ _ _)
   | (with_reducible exact laws_markPuzzle.mono _ _ _ _)
   | (with_reducible exact laws_toPuzzle.mono _ _ _)
   | (with_reducible exact spec_DropClue.mono _ _ _ _)
   | (with_reducible exact LeO.refl _)
   | (with_reducible exact LeO.none _)
   | (with_reducible refine LeO.ite ?_ ?_)
   | (with_reducible refine LeO.bind ?_ (fun _ => ?_))
   | exact ih0 _ _ _ _ _ _ _ _ _ _ _ _
   | exact ih1 _ _ _ _ _ _ _ _ _
   | exact ih2 _ _ _ _
   | exact impl_DropClue.mono _ _ _ _
   | exact laws_eqPuzzle.mono _ _ _ _ _
   | exact laws_heldPuzzle.mono _ _ _ _
   | exact laws_markPuzzle.mono _ _ _ _
   | exact laws_toPuzzle.mono _ _ _
   | exact spec_DropClue.mono _ _ _ _
   | exact LeO.none _
   | refine LeO.ite ?_ ?_
   | refine LeO.bind ?_ (fun _ => ?_)
  ·intro y0 y1 y2 y3 y4 y5 y6 y7 y8
   unfold laws_FnExactDropClue.j1
   repeat' first
   | (with_reducible exact ih0 _ _ _ _ _ _ _ _ _ _ _ _)
   | (with_reducible exact ih1 _ _ _ _ _ _ _ _ _)
   | (with_reducible exact ih2 _ _ _ _)
   | (with_reducible exact impl_DropClue.mono _ _ _ _)
   | (with_reducible exact laws_eqPuzzle.mono _ _ _ _ _)
   | (with_reducible exact laws_heldPuzzle.mono _ _ _ _)
   | (with_reducible exact laws_markPuzzle.mono _ _ _ _)
   | (with_reducible exact laws_toPuzzle.mono _ _ _)
   | (with_reducible exact spec_DropClue.mono _ _ _ _)
   | (with_reducible exact LeO.refl _)
   | (with_reducible exact LeO.none _)
   | (with_reducible refine LeO.ite ?_ ?_)
   | (with_reducible refine LeO.bind ?_ (fun _ => ?_))
   | exact ih0 _ _ _ _ _ _ _ _ _ _ _ _
   | exact ih1 _ _ _ _ _ _ _ _ _
   | exact ih2 _ _ _ _
   | exact impl_DropClue.mono _ _ _ _
   | exact laws_eqPuzzle.mono _ _ _ _ _
   | exact laws_heldPuzzle.mono _ _ _ _
   | exact laws_markPuzzle.mono _ _ _ _
   | exact laws_toPuzzle.mono _ _ _
   | exact spec_DropClue.mono _ _ _ _
   | exact LeO.none _
   | refine LeO.ite ?_ ?_
   | refine LeO.bind ?_ (fun _ => ?_)
  ·intro y0 y1 y2 y3
   unfold laws_FnExactDropClue.j2
   repeat' first
   | (with_reducible exact ih0 _ _ _ _ _ _ _ _ _ _ _ _)
   | (with_reducible exact ih1 _ _ _ _ _ _ _ _ _)
   | (with_reducible exact ih2 _ _ _ _)
   | (with_reducible exact impl_DropClue.mono _ _ _ _)
   | (with_reducible exact laws_eqPuzzle.mono _ _ _ _ _)
   | (with_reducible exact laws_heldPuzzle.mono _ _ _ _)
   | (with_reducible exact laws_markPuzzle.mono _ _ _ _)
   | (with_reducible exact laws_toPuzzle.mono _ _ _)
   | (with_reducible exact spec_DropClue.mono _ _ _ _)
   | (with_reducible exact LeO.refl _)
   | (with_reducible exact LeO.none _)
   | (with_reducible refine LeO.ite ?_ ?_)
   | (with_reducible refine LeO.bind ?_ (fun _ => ?_))
   | exact ih0 _ _ _ _ _ _ _ _ _ _ _ _
   | exact ih1 _ _ _ _ _ _ _ _ _
   | exact ih2 _ _ _ _
   | exact impl_DropClue.mono _ _ _ _
   | exact laws_eqPuzzle.mono _ _ _ _ _
   | exact laws_heldPuzzle.mono _ _ _ _
   | exact laws_markPuzzle.mono _ _ _ _
   | exact laws_toPuzzle.mono _ _ _
   | exact spec_DropClue.mono _ _ _ _
   | exact LeO.none _
   | refine LeO.ite ?_ ?_
   | refine LeO.bind ?_ (fun _ => ?_)
theorem laws_FnExactDropClue.mono : ∀ a0 a1 a2 k, LeO (laws_FnExactDropClue.f k a0 a1 a2) (laws_FnExactDropClue.f (k + 1) a0 a1 a2) := by
 intro a0 a1 a2 k
 obtain ⟨ih0, ih1, ih2⟩ := laws_FnExactDropClue.mono_l k
 unfold laws_FnExactDropClue.f
 repeat' first
   | (with_reducible exact ih0 _ _ _ _ _ _ _ _ _ _ _ _)
   | (with_reducible exact ih1 _ _ _ _ _ _ _ _ _)
   | (with_reducible exact ih2 _ _ _ _)
   | (with_reducible exact impl_DropClue.mono _ _ _ _)
   | (with_reducible exact laws_eqPuzzle.mono _ _ _ _ _)
   | (with_reducible exact laws_heldPuzzle.mono _ _ _ _)
   | (with_reducible exact laws_markPuzzle.mono _ _ _ _)
   | (with_reducible exact laws_toPuzzle.mono _ _ _)
   | (with_reducible exact spec_DropClue.mono _ _ _ _)
   | (with_reducible exact LeO.refl _)
   | (with_reducible exact LeO.none _)
   | (with_reducible refine LeO.ite ?_ ?_)
   | (with_reducible refine LeO.bind ?_ (fun _ => ?_))
   | exact ih0 _ _ _ _ _ _ _ _ _ _ _ _
   | exact ih1 _ _ _ _ _ _ _ _ _
   | exact ih2 _ _ _ _
   | exact impl_DropClue.mono _ _ _ _
   | exact laws_eqPuzzle.mono _ _ _ _ _
   | exact laws_heldPuzzle.mono _ _ _ _
   | exact laws_markPuzzle.mono _ _ _ _
   | exact laws_toPuzzle.mono _ _ _
   | exact spec_DropClue.mono _ _ _ _
   | exact LeO.none _
   | refine LeO.ite ?_ ?_
   | refine LeO.bind ?_ (fun _ => ?_)
set_option maxHeartbeats 8000000 in
set_option maxRecDepth 100000 in
theorem laws_FnExactDropClue.calls (k : Nat) (a0_0 : Int) (A0_1 : Option Addr) (c0_1 : Nat) (l0_1 : List (S23)) (a1 : Int) (r : Bool) (w : World) (hr0_1 : Kd.C k23 w A0_1 l0_1.length l0_1) (hc0_1 : l0_1.length ≤ c0_1) (h : laws_FnExactDropClue.f k a0_0 l0_1 a1 = some r) :
  Calls Try.prog 6 #[.agg #[.int .i64 a0_0, .slice A0_1 l0_1.length c0_1], .int .i64 a1] w fun e w' => e = .returned (.bool r) ∧ Below w.heap.size w w' := by
 have hu30 := Try.underlying30
 have hu35 := Try.underlying35
 have HR0_1 := am hr0_1
 have HC0_1 := am hc0_1
 clear hr0_1 hc0_1
 have HB := am (Below.refl w.heap.size w)
 have H : ((laws_szPuzzle.f a0_0 l0_1 1048576).bind fun t336 => (if t336 < 0 then (some true) else ((laws_toPuzzle.f k a0_0 l0_1).bind fun bt337 => ((spec_DropClue.f k bt337.1 bt337.2 a1).bind fun bt341 => ((laws_toPuzzle.f k a0_0 l0_1).bind fun bt347 => ((impl_DropClue.f k bt347.1 bt347.2 a1).bind fun bt352 => ((laws_eqPuzzle.f k bt352.1 bt352.2.1 bt341.1 bt341.2.1).bind fun t358 => (if t358 = true then (laws_FnExactDropClue.j0 k a1 bt341.2.2 bt352.2.2 (bt352.2.2 != bt341.2.2) a0_0 l0_1 bt341.1 bt341.2.1 bt347.1 bt347.2 bt352.1 bt352.2.1) else (laws_FnExactDropClue.j0 k a1 bt341.2.2 bt352.2.2 true a0_0 l0_1 bt341.1 bt341.2.1 bt347.1 bt347.2 bt352.1 bt352.2.1))))))))) = some r := h
 clear h
 replace H := Option.bind_eq_some_iff.mp H
 obtain ⟨t336, A30, H⟩ := H
 replace H : (if t336 < 0 then (some true) else ((laws_toPuzzle.f k a0_0 l0_1).bind fun bt337 => ((spec_DropClue.f k bt337.1 bt337.2 a1).bind fun bt341 => ((laws_toPuzzle.f k a0_0 l0_1).bind fun bt347 => ((impl_DropClue.f k bt347.1 bt347.2 a1).bind fun bt352 => ((laws_eqPuzzle.f k bt352.1 bt352.2.1 bt341.1 bt341.2.1).bind fun t358 => (if t358 = true then (laws_FnExactDropClue.j0 k a1 bt341.2.2 bt352.2.2 (bt352.2.2 != bt341.2.2) a0_0 l0_1 bt341.1 bt341.2.1 bt347.1 bt347.2 bt352.1 bt352.2.1) else (laws_FnExactDropClue.j0 k a1 bt341.2.2 bt352.2.2 true a0_0 l0_1 bt341.1 bt341.2.1 bt347.1 bt347.2 bt352.1 bt352.2.1)))))))) = some r := H
 have A3 := am A30
 clear A30
 by_cases c4 : t336 < 0
 ·rw [if_pos c4] at H
  have c4b0 : decide (t336 < 0) = true := decide_eq_true c4
  clear c4
  obtain rfl := Option.some.inj H
  go_enter Try.func6, Try.ntmps6
  go_wp2_with (first | ((with_reducible refine gate_dst (N := 2) rfl ?_); refine box_event ?hg (N := 2) ?hd (cs := #[.int .i64 a0_0, .slice A0_1 l0_1.length c0_1]) (t := 30) ?hr ?_; (case hd => rfl); (case hg => rfl); (case hr => first | (go_simp; done) | (go_simp; rfl)); intro gb335 hg w5 hbox hb; have n0_ := am (below_step (hbS HB.out) hb); have n1_ := am (hbox); have n2_ := am (gwL (hbS HB.out) hg); have n3_ := n2_; clear HB; have HB := n0_; have BK335 := n1_; have GW335 := n2_; have GE335 := n3_; clear n0_ n1_ n2_ n3_; clear hb hbox hg; have hcz6_0 : w5.cell? ⟨gb335, 0, none⟩ = some (.int .i64 a0_0) := (blk_cell BK335.out 0).trans rfl; have hcz6_1 : w5.cell? ⟨gb335, 1, none⟩ = some (.slice A0_1 l0_1.length c0_1) := (blk_cell BK335.out 1).trans rfl; have hfz6_0 := blk_frozen BK335.out 0; have hfz6_1 := blk_frozen BK335.out 1) | ((with_reducible refine gate_callee (f := 10) rfl ?_); refine goesL_ (some 18) rfl rfl Try.func10 (by kernel_rfl) rfl #[.agg #[.int .i64 a0_0, .slice A0_1 l0_1.length c0_1], .int .i64 1048576] rfl (by (try simp only [List.map_toArray, List.map_cons, List.map_nil]); first | done | rfl | (simp only [List.length_drop, List.length_take]; rfl)) ?_; (with_reducible refine (laws_szPuzzle.calls a0_0 _ _ l0_1 1048576 t336 _ ?side1 ?side2 A3.out).mono ?_); (case side1 => repeat (first | exact (Kd.C_below HR0_1.out HB.out) | (with_reducible refine Kd.C_alloc ?_ _) | (with_reducible refine Kd.C_drewN ?_ _) | (with_reducible refine Kd.C_drew ?_))); (case side2 => exact HC0_1.out); rintro e w7 ⟨rfl, hb⟩; refine ⟨_, rfl, ?_⟩; have n0_ := am (blk_below (bkS BK335.out) hb); have n1_ := am (below_step (by repeat (first | (with_reducible first | exact HB.out | apply below_alloc | apply pw_below_drewN | apply below_drew1 | refine below_set ?_ GE335.out) | exact HB.out)) hb); clear BK335; clear HB; have BK335 := n0_; have HB := n1_; clear n0_ n1_; (try clear hb); (try clear hb2); (try clear hk); (try clear hi)))
  go_ret
  exact ⟨by first | rfl | (simp [errW_none, errW_some] <;> rfl) | (simp [*, errW_none, errW_some] <;> rfl), by repeat (first | (with_reducible first | exact HB.out | apply below_alloc | apply pw_below_drewN | apply below_drew1 | refine below_set ?_ GE335.out) | exact HB.out)⟩
 ·rw [if_neg c4] at H
  have c4b0 : decide (t336 < 0) = false := decide_eq_false c4
  clear c4
  replace H := Option.bind_eq_some_iff.mp H
  obtain ⟨⟨t337, t338⟩, A80, H⟩ := H
  replace H : ((spec_DropClue.f k t337 t338 a1).bind fun bt341 => ((laws_toPuzzle.f k a0_0 l0_1).bind fun bt347 => ((impl_DropClue.f k bt347.1 bt347.2 a1).bind fun bt352 => ((laws_eqPuzzle.f k bt352.1 bt352.2.1 bt341.1 bt341.2.1).bind fun t358 => (if t358 = true then (laws_FnExactDropClue.j0 k a1 bt341.2.2 bt352.2.2 (bt352.2.2 != bt341.2.2) a0_0 l0_1 bt341.1 bt341.2.1 bt347.1 bt347.2 bt352.1 bt352.2.1) else (laws_FnExactDropClue.j0 k a1 bt341.2.2 bt352.2.2 true a0_0 l0_1 bt341.1 bt341.2.1 bt347.1 bt347.2 bt352.1 bt352.2.1)))))) = some r := H
  have A8 := am A80
  clear A80
  replace H := Option.bind_eq_some_iff.mp H
  obtain ⟨⟨t341, t342, t345⟩, A90, H⟩ := H
  replace H : ((laws_toPuzzle.f k a0_0 l0_1).bind fun bt347 => ((impl_DropClue.f k bt347.1 bt347.2 a1).bind fun bt352 => ((laws_eqPuzzle.f k bt352.1 bt352.2.1 t341 t342).bind fun t358 => (if t358 = true then (laws_FnExactDropClue.j0 k a1 t345 bt352.2.2 (bt352.2.2 != t345) a0_0 l0_1 t341 t342 bt347.1 bt347.2 bt352.1 bt352.2.1) else (laws_FnExactDropClue.j0 k a1 t345 bt352.2.2 true a0_0 l0_1 t341 t342 bt347.1 bt347.2 bt352.1 bt352.2.1))))) = some r := H
  have A9 := am A90
  clear A90
  replace H := Option.bind_eq_some_iff.mp H
  obtain ⟨⟨t347, t348⟩, A100, H⟩ := H
  replace H : ((impl_DropClue.f k t347 t348 a1).bind fun bt352 => ((laws_eqPuzzle.f k bt352.1 bt352.2.1 t341 t342).bind fun t358 => (if t358 = true then (laws_FnExactDropClue.j0 k a1 t345 bt352.2.2 (bt352.2.2 != t345) a0_0 l0_1 t341 t342 t347 t348 bt352.1 bt352.2.1) else (laws_FnExactDropClue.j0 k a1 t345 bt352.2.2 true a0_0 l0_1 t341 t342 t347 t348 bt352.1 bt352.2.1)))) = some r := H
  have A10 := am A100
  clear A100
  replace H := Option.bind_eq_some_iff.mp H
  obtain ⟨⟨t352, t353, t356⟩, A110, H⟩ := H
  replace H : ((laws_eqPuzzle.f k t352 t353 t341 t342).bind fun t358 => (if t358 = true then (laws_FnExactDropClue.j0 k a1 t345 t356 (t356 != t345) a0_0 l0_1 t341 t342 t347 t348 t352 t353) else (laws_FnExactDropClue.j0 k a1 t345 t356 true a0_0 l0_1 t341 t342 t347 t348 t352 t353))) = some r := H
  have A11 := am A110
  clear A110
  have HC12 := am H
  clear H
  go_enter Try.func6, Try.ntmps6
  go_upto_region 8 with (first | ((with_reducible refine gate_dst (N := 2) rfl ?_); refine box_event ?hg (N := 2) ?hd (cs := #[.int .i64 a0_0, .slice A0_1 l0_1.length c0_1]) (t := 30) ?hr ?_; (case hd => rfl); (case hg => rfl); (case hr => first | (go_simp; done) | (go_simp; rfl)); intro gb335 hg w13 hbox hb; have n0_ := am (below_step (hbS HB.out) hb); have n1_ := am (hbox); have n2_ := am (gwL (hbS HB.out) hg); have n3_ := n2_; clear HB; have HB := n0_; have BK335 := n1_; have GW335 := n2_; have GE335 := n3_; clear n0_ n1_ n2_ n3_; clear hb hbox hg; have hcz14_0 : w13.cell? ⟨gb335, 0, none⟩ = some (.int .i64 a0_0) := (blk_cell BK335.out 0).trans rfl; have hcz14_1 : w13.cell? ⟨gb335, 1, none⟩ = some (.slice A0_1 l0_1.length c0_1) := (blk_cell BK335.out 1).trans rfl; have hfz14_0 := blk_frozen BK335.out 0; have hfz14_1 := blk_frozen BK335.out 1) | ((with_reducible refine gate_callee (f := 10) rfl ?_); refine goesL_ (some 18) rfl rfl Try.func10 (by kernel_rfl) rfl #[.agg #[.int .i64 a0_0, .slice A0_1 l0_1.length c0_1], .int .i64 1048576] rfl (by (try simp only [List.map_toArray, List.map_cons, List.map_nil]); first | done | rfl | (simp only [List.length_drop, List.length_take]; rfl)) ?_; (with_reducible refine (laws_szPuzzle.calls a0_0 _ _ l0_1 1048576 t336 _ ?side1 ?side2 A3.out).mono ?_); (case side1 => repeat (first | exact (Kd.C_below HR0_1.out HB.out) | (with_reducible refine Kd.C_alloc ?_ _) | (with_reducible refine Kd.C_drewN ?_ _) | (with_reducible refine Kd.C_drew ?_))); (case side2 => exact HC0_1.out); rintro e w15 ⟨rfl, hb⟩; refine ⟨_, rfl, ?_⟩; have n0_ := am (blk_below (bkS BK335.out) hb); have n1_ := am (below_step (by repeat (first | (with_reducible first | exact HB.out | apply below_alloc | apply pw_below_drewN | apply below_drew1 | refine below_set ?_ GE335.out) | exact HB.out)) hb); clear BK335; clear HB; have BK335 := n0_; have HB := n1_; clear n0_ n1_; (try clear hb); (try clear hb2); (try clear hk); (try clear hi); have hcz16_0 : w15.cell? ⟨gb335, 0, none⟩ = some (.int .i64 a0_0) := (blk_cell BK335.out 0).trans rfl; have hcz16_1 : w15.cell? ⟨gb335, 1, none⟩ = some (.slice A0_1 l0_1.length c0_1) := (blk_cell BK335.out 1).trans rfl; have hfz16_0 := blk_frozen BK335.out 0; have hfz16_1 := blk_frozen BK335.out 1) | ((with_reducible refine gate_callee (f := 12) rfl ?_); refine goesL_ (some 23) rfl rfl Try.func12 (by kernel_rfl) rfl #[.agg #[.int .i64 a0_0, .slice A0_1 l0_1.length c0_1]] rfl (by (try simp only [List.map_toArray, List.map_cons, List.map_nil]); first | done | rfl | (simp only [List.length_drop, List.length_take]; rfl)) ?_; (with_reducible refine (laws_toPuzzle.calls k a0_0 _ _ l0_1 t337 t338 _ ?side1 ?side2 A8.out).mono ?_); (case side1 => repeat (first | exact (Kd.C_below HR0_1.out HB.out) | (with_reducible refine Kd.C_alloc ?_ _) | (with_reducible refine Kd.C_drewN ?_ _) | (with_reducible refine Kd.C_drew ?_))); (case side2 => exact HC0_1.out); rintro e w17 ⟨v339, rfl, ho0, hb⟩; refine ⟨_, rfl, ?_⟩; have n0_ := am (Kd.R_lower ho0 (below_size (by repeat (first | (with_reducible first | exact HB.out | apply below_alloc | apply pw_below_drewN | apply below_drew1 | refine below_set ?_ GE335.out) | exact HB.out)))); have n1_ := am (blk_below (bkS BK335.out) hb); have n2_ := am (below_step (by repeat (first | (with_reducible first | exact HB.out | apply below_alloc | apply pw_below_drewN | apply below_drew1 | refine below_set ?_ GE335.out) | exact HB.out)) hb); clear BK335; clear HB; have HO340 := n0_; have BK335 := n1_; have HB := n2_; clear n0_ n1_ n2_; (try clear hb); (try clear hb2); (try clear hk); (try clear hi); (try clear ho0); obtain ⟨Ao18, co18, eo18⟩ := Kd.R_slice HO340.out; subst eo18) | ((with_reducible refine gate_callee (f := 19) rfl ?_); refine goesL_ (some 25) rfl rfl Try.func19 (by kernel_rfl) rfl #[.agg #[.int .i64 t337, .slice Ao18 t338.length co18], .int .i64 a1] rfl (by (try simp only [List.map_toArray, List.map_cons, List.map_nil]); first | done | rfl | (simp only [List.length_drop, List.length_take]; rfl)) ?_; (with_reducible refine (spec_DropClue.calls k t337 _ _ t338 a1 t341 t342 t345 _ ?side1 ?side2 A9.out).mono ?_); (case side1 => repeat (first | exact (Kd.R_reads' HO340.out).2.2 | (with_reducible refine Kd.C_alloc ?_ _) | (with_reducible refine Kd.C_drewN ?_ _) | (with_reducible refine Kd.C_drew ?_))); (case side2 => exact (Kd.R_reads' HO340.out).2.1); rintro e w19 ⟨v343, rfl, ho0, hb⟩; refine ⟨_, rfl, ?_⟩; have n0_ := am (Kd.R_elder' (roS HO340.out) (Kd.R_base ho0) hb); have n1_ := am (Kd.R_lower (Kd.R_new' ho0 (Kd.R_lt (roS HO340.out))) (below_size (by repeat (first | (with_reducible first | exact HB.out | apply below_alloc | apply pw_below_drewN | apply below_drew1 | refine below_set ?_ GE335.out) | exact HB.out)))); have n2_ := am (blk_below (bkS BK335.out) hb); have n3_ := am (below_step (by repeat (first | (with_reducible first | exact HB.out | apply below_alloc | apply pw_below_drewN | apply below_drew1 | refine below_set ?_ GE335.out) | exact HB.out)) hb); clear HO340; clear BK335; clear HB; have HO340 := n0_; have HO344 := n1_; have BK335 := n2_; have HB := n3_; clear n0_ n1_ n2_ n3_; (try clear hb); (try clear hb2); (try clear hk); (try clear hi); (try clear ho0)) | ((with_reducible refine gate_dst (N := 6) rfl ?_); refine box_event ?hg (N := 6) ?hd (cs := #[.int .i64 0, .slice none 0 0]) (t := 35) ?hr ?_; (case hd => rfl); (case hg => rfl); (case hr => first | (go_simp; done) | (go_simp; rfl)); intro gb346 hg w20 hbox hb; have n0_ := am (Kd.R_below (roS HO340.out) hb); have n1_ := am (Kd.R_below (roS HO344.out) hb); have n2_ := am (blk_below (bkS BK335.out) hb); have n3_ := am (below_step (by repeat (first | (with_reducible first | exact HB.out | apply below_alloc | apply pw_below_drewN | apply below_drew1 | refine below_set ?_ GE335.out) | exact HB.out)) hb); have n4_ := am (hbox); have n5_ := am (gwL (by repeat (first | (with_reducible first | exact HB.out | apply below_alloc | apply pw_below_drewN | apply below_drew1 | refine below_set ?_ GE335.out) | exact HB.out)) hg); have n6_ := n5_; have n7_ := am (nbL (bkS BK335.out) hg); have n8_ := am (nbG (bkS BK335.out) hg); clear HO340; clear HO344; clear BK335; clear HB; have HO340 := n0_; have HO344 := n1_; have BK335 := n2_; have HB := n3_; have BK346 := n4_; have GW346 := n5_; have GE346 := n6_; have NB335_346 := n7_; have NB346_335 := n8_; clear n0_ n1_ n2_ n3_ n4_ n5_ n6_ n7_ n8_; clear hb hbox hg; have hnb21 := NB346_335.out; have hnc21 := NB335_346.out; have hcz22_0 : w20.cell? ⟨gb346, 0, none⟩ = some (.int .i64 0) := (blk_cell BK346.out 0).trans rfl; have hcz22_1 : w20.cell? ⟨gb346, 1, none⟩ = some (.slice none 0 0) := (blk_cell BK346.out 1).trans rfl; have hfz22_0 := blk_frozen BK346.out 0; have hfz22_1 := blk_frozen BK346.out 1; obtain ⟨Ao23, co23, eo23⟩ := Kd.R_slice HO344.out; subst eo23; have hcz24_0 : w20.cell? ⟨gb335, 0, none⟩ = some (.int .i64 a0_0) := (blk_cell BK335.out 0).trans rfl; have hcz24_1 : w20.cell? ⟨gb335, 1, none⟩ = some (.slice A0_1 l0_1.length c0_1) := (blk_cell BK335.out 1).trans rfl; have hfz24_0 := blk_frozen BK335.out 0; have hfz24_1 := blk_frozen BK335.out 1) | ((with_reducible refine gate_callee (f := 12) rfl ?_); refine goesL_ (some 29) rfl rfl Try.func12 (by kernel_rfl) rfl #[.agg #[.int .i64 a0_0, .slice A0_1 l0_1.length c0_1]] rfl (by (try simp only [List.map_toArray, List.map_cons, List.map_nil]); first | done | rfl | (simp only [List.length_drop, List.length_take]; rfl)) ?_; (with_reducible refine (laws_toPuzzle.calls k a0_0 _ _ l0_1 t347 t348 _ ?side1 ?side2 A10.out).mono ?_); (case side1 => exact Kd.C_below HR0_1.out (by repeat (first | (with_reducible first | exact HB.out | apply below_alloc | apply pw_below_drewN | apply below_drew1 | refine below_set ?_ (Aside0.out (by assumption))) | exact HB.out))); (case side2 => exact HC0_1.out); rintro e w25 ⟨v349, rfl, ho0, hb⟩; refine ⟨_, rfl, ?_⟩; have n0_ := am (Kd.R_elder' (by (with_reducible repeat (first | apply Kd.R_alloc | apply Kd.R_drewN | apply Kd.R_drew)); exact (Kd.R_mono (Kd.R_far (p := ⟨gb346, 1, none⟩) (Kd.R_far (p := ⟨gb346, 0, none⟩) (Kd.R_types HO340.out BK346.out (by decide)) (fun _ hk => hk.2) (.int .i64 t341)) (fun _ hk => hk.2) (.slice Ao23 t342.length co23)) (fun _ h_ => h_.1))) (Kd.R_base ho0) hb); have n1_ := am (Kd.R_elder' (by (with_reducible repeat (first | apply Kd.R_alloc | apply Kd.R_drewN | apply Kd.R_drew)); exact (Kd.R_mono (Kd.R_far (p := ⟨gb346, 1, none⟩) (Kd.R_far (p := ⟨gb346, 0, none⟩) (Kd.R_types HO344.out BK346.out (by decide)) (fun _ hk => hk.2) (.int .i64 t341)) (fun _ hk => hk.2) (.slice Ao23 t342.length co23)) (fun _ h_ => h_.1))) (Kd.R_base ho0) hb); have n2_ := am (Kd.R_lower (Kd.R_new' (Kd.R_new' ho0 (Kd.R_lt (by (with_reducible repeat (first | apply Kd.R_alloc | apply Kd.R_drewN | apply Kd.R_drew)); exact (Kd.R_mono (Kd.R_far (p := ⟨gb346, 1, none⟩) (Kd.R_far (p := ⟨gb346, 0, none⟩) (Kd.R_types HO340.out BK346.out (by decide)) (fun _ hk => hk.2) (.int .i64 t341)) (fun _ hk => hk.2) (.slice Ao23 t342.length co23)) (fun _ h_ => h_.1))))) (Kd.R_lt (by (with_reducible repeat (first | apply Kd.R_alloc | apply Kd.R_drewN | apply Kd.R_drew)); exact (Kd.R_mono (Kd.R_far (p := ⟨gb346, 1, none⟩) (Kd.R_far (p := ⟨gb346, 0, none⟩) (Kd.R_types HO344.out BK346.out (by decide)) (fun _ hk => hk.2) (.int .i64 t341)) (fun _ hk => hk.2) (.slice Ao23 t342.length co23)) (fun _ h_ => h_.1))))) (below_size (by repeat (first | (with_reducible first | exact HB.out | apply below_alloc | apply pw_below_drewN | apply below_drew1 | refine below_set ?_ (Aside0.out (by assumption))) | exact HB.out)))); have n3_ := am (blk_below (g := gb335) (o := .cells #[.int .i64 a0_0, .slice A0_1 l0_1.length c0_1] 30 (0, 0)) (by (with_reducible repeat (first | refine blk_drewN ?_ _ | refine blk_drew ?_ | refine blk_alloc ?_ _)); refine blk_far ?_ NB335_346.out _; (with_reducible repeat (first | refine blk_drewN ?_ _ | refine blk_drew ?_ | refine blk_alloc ?_ _)); refine blk_far ?_ NB335_346.out _; (with_reducible repeat (first | refine blk_drewN ?_ _ | refine blk_drew ?_ | refine blk_alloc ?_ _)); exact BK335.out) hb); have n4_ := am (blk_below (g := gb346) (o := .cells #[.int .i64 t341, .slice Ao23 t342.length co23] 35 (0, 0)) (by (with_reducible repeat (first | refine blk_drewN ?_ _ | refine blk_drew ?_ | refine blk_alloc ?_ _)); refine blk_put (cs := #[.int .i64 t341, .slice none 0 0]) ?_ 1 _ rfl; (with_reducible repeat (first | refine blk_drewN ?_ _ | refine blk_drew ?_ | refine blk_alloc ?_ _)); refine blk_put (cs := #[.int .i64 0, .slice none 0 0]) ?_ 0 _ rfl; (with_reducible repeat (first | refine blk_drewN ?_ _ | refine blk_drew ?_ | refine blk_alloc ?_ _)); exact BK346.out) hb); have n5_ := am (below_step (by repeat (first | (with_reducible first | exact HB.out | apply below_alloc | apply pw_below_drewN | apply below_drew1 | refine below_set ?_ (Aside0.out (by assumption))) | exact HB.out)) hb); clear HO340; clear HO344; clear BK335; clear BK346; clear HB; have HO340 := n0_; have HO344 := n1_; have HO350 := n2_; have BK335 := n3_; have BK346 := n4_; have HB := n5_; clear n0_ n1_ n2_ n3_ n4_ n5_; (try clear hb); (try clear hb2); (try clear hk); (try clear hi); (try clear ho0)) | ((with_reducible refine gate_dst (N := 8) rfl ?_); refine box_event ?hg (N := 8) ?hd (cs := #[.int .i64 0, .slice none 0 0]) (t := 35) ?hr ?_; (case hd => rfl); (case hg => rfl); (case hr => first | (go_simp; done) | (go_simp; rfl)); intro gb351 hg w26 hbox hb; have n0_ := am (Kd.R_below (roS HO340.out) hb); have n1_ := am (Kd.R_below (roS HO344.out) hb); have n2_ := am (Kd.R_below (roS HO350.out) hb); have n3_ := am (blk_below (bkS BK335.out) hb); have n4_ := am (blk_below (bkS BK346.out) hb); have n5_ := am (below_step (by repeat (first | (with_reducible first | exact HB.out | apply below_alloc | apply pw_below_drewN | apply below_drew1 | refine below_set ?_ (Aside0.out (by assumption))) | exact HB.out)) hb); have n6_ := am (hbox); have n7_ := am ((by rw [hg]; exact (below_size (by repeat (first | (with_reducible first | exact HB.out | apply below_alloc | apply pw_below_drewN | apply below_drew1 | refine below_set ?_ (Aside0.out (by assumption))) | exact HB.out))) : w.heap.size ≤ gb351)); have n8_ := am ((by rw [hg]; exact (below_size (by repeat (first | (with_reducible first | exact HB.out | apply below_alloc | apply pw_below_drewN | apply below_drew1 | refine below_set ?_ (Aside0.out (by assumption))) | exact HB.out))) : w.heap.size ≤ gb351)); have n9_ := am (nbL (bkS BK335.out) hg); have n10_ := am (nbG (bkS BK335.out) hg); have n11_ := am (nbL (bkS BK346.out) hg); have n12_ := am (nbG (bkS BK346.out) hg); clear HO340; clear HO344; clear HO350; clear BK335; clear BK346; clear HB; have HO340 := n0_; have HO344 := n1_; have HO350 := n2_; have BK335 := n3_; have BK346 := n4_; have HB := n5_; have BK351 := n6_; have GW351 := n7_; have GE351 := n8_; have NB335_351 := n9_; have NB351_335 := n10_; have NB346_351 := n11_; have NB351_346 := n12_; clear n0_ n1_ n2_ n3_ n4_ n5_ n6_ n7_ n8_ n9_ n10_ n11_ n12_; clear hb hbox hg; have hnb27 := NB351_335.out; have hnc27 := NB335_351.out; have hnb28 := NB351_346.out; have hnc28 := NB346_351.out; have hcz29_0 : w26.cell? ⟨gb351, 0, none⟩ = some (.int .i64 0) := (blk_cell BK351.out 0).trans rfl; have hcz29_1 : w26.cell? ⟨gb351, 1, none⟩ = some (.slice none 0 0) := (blk_cell BK351.out 1).trans rfl; have hfz29_0 := blk_frozen BK351.out 0; have hfz29_1 := blk_frozen BK351.out 1; obtain ⟨Ao30, co30, eo30⟩ := Kd.R_slice HO350.out; subst eo30) | ((with_reducible refine gate_callee (f := 20) rfl ?_); refine goesL_ (some 33) rfl rfl Try.func20 (by kernel_rfl) rfl #[.agg #[.int .i64 t347, .slice Ao30 t348.length co30], .int .i64 a1] rfl (by (try simp only [List.map_toArray, List.map_cons, List.map_nil]); first | done | rfl | (simp only [List.length_drop, List.length_take]; rfl)) ?_; (with_reducible refine (impl_DropClue.calls k t347 _ _ t348 a1 t352 t353 t356 _ ?side1 ?side2 A11.out).mono ?_); (case side1 => refine (Kd.R_reads' (e := 25) (base := w.heap.size) (ok := fun k_ => ((True ∧ some k_ ≠ (.slice Ao18 t338.length co18 : Value).ownBlock) ∧ some k_ ≠ (.slice Ao23 t342.length co23 : Value).ownBlock)) (n := t348.length) (c := co30) ?_).2.2; exact (by (with_reducible repeat (first | apply Kd.R_alloc | apply Kd.R_drewN | apply Kd.R_drew)); exact (Kd.R_mono (Kd.R_far (p := ⟨gb351, 1, none⟩) (Kd.R_far (p := ⟨gb351, 0, none⟩) (Kd.R_types HO350.out BK351.out (by decide)) (fun _ hk => hk.2) (.int .i64 t347)) (fun _ hk => hk.2) (.slice Ao30 t348.length co30)) (fun _ h_ => h_.1)))); (case side2 => exact (Kd.R_reads' HO350.out).2.1); rintro e w31 ⟨v354, rfl, ho0, hb⟩; refine ⟨_, rfl, ?_⟩; have n0_ := am (Kd.R_elder' (by (with_reducible repeat (first | apply Kd.R_alloc | apply Kd.R_drewN | apply Kd.R_drew)); exact (Kd.R_mono (Kd.R_far (p := ⟨gb351, 1, none⟩) (Kd.R_far (p := ⟨gb351, 0, none⟩) (Kd.R_types HO340.out BK351.out (by decide)) (fun _ hk => hk.2) (.int .i64 t347)) (fun _ hk => hk.2) (.slice Ao30 t348.length co30)) (fun _ h_ => h_.1))) (Kd.R_base ho0) hb); have n1_ := am (Kd.R_elder' (by (with_reducible repeat (first | apply Kd.R_alloc | apply Kd.R_drewN | apply Kd.R_drew)); exact (Kd.R_mono (Kd.R_far (p := ⟨gb351, 1, none⟩) (Kd.R_far (p := ⟨gb351, 0, none⟩) (Kd.R_types HO344.out BK351.out (by decide)) (fun _ hk => hk.2) (.int .i64 t347)) (fun _ hk => hk.2) (.slice Ao30 t348.length co30)) (fun _ h_ => h_.1))) (Kd.R_base ho0) hb); have n2_ := am (Kd.R_elder' (by (with_reducible repeat (first | apply Kd.R_alloc | apply Kd.R_drewN | apply Kd.R_drew)); exact (Kd.R_mono (Kd.R_far (p := ⟨gb351, 1, none⟩) (Kd.R_far (p := ⟨gb351, 0, none⟩) (Kd.R_types HO350.out BK351.out (by decide)) (fun _ hk => hk.2) (.int .i64 t347)) (fun _ hk => hk.2) (.slice Ao30 t348.length co30)) (fun _ h_ => h_.1))) (Kd.R_base ho0) hb); have n3_ := am (Kd.R_lower (Kd.R_new' (Kd.R_new' (Kd.R_new' ho0 (Kd.R_lt (by (with_reducible repeat (first | apply Kd.R_alloc | apply Kd.R_drewN | apply Kd.R_drew)); exact (Kd.R_mono (Kd.R_far (p := ⟨gb351, 1, none⟩) (Kd.R_far (p := ⟨gb351, 0, none⟩) (Kd.R_types HO340.out BK351.out (by decide)) (fun _ hk => hk.2) (.int .i64 t347)) (fun _ hk => hk.2) (.slice Ao30 t348.length co30)) (fun _ h_ => h_.1))))) (Kd.R_lt (by (with_reducible repeat (first | apply Kd.R_alloc | apply Kd.R_drewN | apply Kd.R_drew)); exact (Kd.R_mono (Kd.R_far (p := ⟨gb351, 1, none⟩) (Kd.R_far (p := ⟨gb351, 0, none⟩) (Kd.R_types HO344.out BK351.out (by decide)) (fun _ hk => hk.2) (.int .i64 t347)) (fun _ hk => hk.2) (.slice Ao30 t348.length co30)) (fun _ h_ => h_.1))))) (Kd.R_lt (by (with_reducible repeat (first | apply Kd.R_alloc | apply Kd.R_drewN | apply Kd.R_drew)); exact (Kd.R_mono (Kd.R_far (p := ⟨gb351, 1, none⟩) (Kd.R_far (p := ⟨gb351, 0, none⟩) (Kd.R_types HO350.out BK351.out (by decide)) (fun _ hk => hk.2) (.int .i64 t347)) (fun _ hk => hk.2) (.slice Ao30 t348.length co30)) (fun _ h_ => h_.1))))) (below_size (by repeat (first | (with_reducible first | exact HB.out | apply below_alloc | apply pw_below_drewN | apply below_drew1 | refine below_set ?_ (Aside0.out (by assumption))) | exact HB.out)))); have n4_ := am (blk_below (g := gb335) (o := .cells #[.int .i64 a0_0, .slice A0_1 l0_1.length c0_1] 30 (0, 0)) (by (with_reducible repeat (first | refine blk_drewN ?_ _ | refine blk_drew ?_ | refine blk_alloc ?_ _)); refine blk_far ?_ NB335_351.out _; (with_reducible repeat (first | refine blk_drewN ?_ _ | refine blk_drew ?_ | refine blk_alloc ?_ _)); refine blk_far ?_ NB335_351.out _; (with_reducible repeat (first | refine blk_drewN ?_ _ | refine blk_drew ?_ | refine blk_alloc ?_ _)); exact BK335.out) hb); have n5_ := am (blk_below (g := gb346) (o := .cells #[.int .i64 t341, .slice Ao23 t342.length co23] 35 (0, 0)) (by (with_reducible repeat (first | refine blk_drewN ?_ _ | refine blk_drew ?_ | refine blk_alloc ?_ _)); refine blk_far ?_ NB346_351.out _; (with_reducible repeat (first | refine blk_drewN ?_ _ | refine blk_drew ?_ | refine blk_alloc ?_ _)); refine blk_far ?_ NB346_351.out _; (with_reducible repeat (first | refine blk_drewN ?_ _ | refine blk_drew ?_ | refine blk_alloc ?_ _)); exact BK346.out) hb); have n6_ := am (blk_below (g := gb351) (o := .cells #[.int .i64 t347, .slice Ao30 t348.length co30] 35 (0, 0)) (by (with_reducible repeat (first | refine blk_drewN ?_ _ | refine blk_drew ?_ | refine blk_alloc ?_ _)); refine blk_put (cs := #[.int .i64 t347, .slice none 0 0]) ?_ 1 _ rfl; (with_reducible repeat (first | refine blk_drewN ?_ _ | refine blk_drew ?_ | refine blk_alloc ?_ _)); refine blk_put (cs := #[.int .i64 0, .slice none 0 0]) ?_ 0 _ rfl; (with_reducible repeat (first | refine blk_drewN ?_ _ | refine blk_drew ?_ | refine blk_alloc ?_ _)); exact BK351.out) hb); have n7_ := am (below_step (by repeat (first | (with_reducible first | exact HB.out | apply below_alloc | apply pw_below_drewN | apply below_drew1 | refine below_set ?_ (Aside0.out (by assumption))) | exact HB.out)) hb); clear HO340; clear HO344; clear HO350; clear BK335; clear BK346; clear BK351; clear HB; have HO340 := n0_; have HO344 := n1_; have HO350 := n2_; have HO355 := n3_; have BK335 := n4_; have BK346 := n5_; have BK351 := n6_; have HB := n7_; clear n0_ n1_ n2_ n3_ n4_ n5_ n6_ n7_; (try clear hb); (try clear hb2); (try clear hk); (try clear hi); (try clear ho0)) | ((with_reducible refine gate_dst (N := 9) rfl ?_); refine box_event ?hg (N := 9) ?hd (cs := #[.int .i64 0, .slice none 0 0]) (t := 35) ?hr ?_; (case hd => rfl); (case hg => rfl); (case hr => first | (go_simp; done) | (go_simp; rfl)); intro gb357 hg w32 hbox hb; have n0_ := am (Kd.R_below (roS HO340.out) hb); have n1_ := am (Kd.R_below (roS HO344.out) hb); have n2_ := am (Kd.R_below (roS HO350.out) hb); have n3_ := am (Kd.R_below (roS HO355.out) hb); have n4_ := am (blk_below (bkS BK335.out) hb); have n5_ := am (blk_below (bkS BK346.out) hb); have n6_ := am (blk_below (bkS BK351.out) hb); have n7_ := am (below_step (by repeat (first | (with_reducible first | exact HB.out | apply below_alloc | apply pw_below_drewN | apply below_drew1 | refine below_set ?_ (Aside0.out (by assumption))) | exact HB.out)) hb); have n8_ := am (hbox); have n9_ := am ((by rw [hg]; exact (below_size (by repeat (first | (with_reducible first | exact HB.out | apply below_alloc | apply pw_below_drewN | apply below_drew1 | refine below_set ?_ (Aside0.out (by assumption))) | exact HB.out))) : w.heap.size ≤ gb357)); have n10_ := am ((by rw [hg]; exact (below_size (by repeat (first | (with_reducible first | exact HB.out | apply below_alloc | apply pw_below_drewN | apply below_drew1 | refine below_set ?_ (Aside0.out (by assumption))) | exact HB.out))) : w.heap.size ≤ gb357)); have n11_ := am (nbL (bkS BK335.out) hg); have n12_ := am (nbG (bkS BK335.out) hg); have n13_ := am (nbL (bkS BK346.out) hg); have n14_ := am (nbG (bkS BK346.out) hg); have n15_ := am (nbL (bkS BK351.out) hg); have n16_ := am (nbG (bkS BK351.out) hg); clear HO340; clear HO344; clear HO350; clear HO355; clear BK335; clear BK346; clear BK351; clear HB; have HO340 := n0_; have HO344 := n1_; have HO350 := n2_; have HO355 := n3_; have BK335 := n4_; have BK346 := n5_; have BK351 := n6_; have HB := n7_; have BK357 := n8_; have GW357 := n9_; have GE357 := n10_; have NB335_357 := n11_; have NB357_335 := n12_; have NB346_357 := n13_; have NB357_346 := n14_; have NB351_357 := n15_; have NB357_351 := n16_; clear n0_ n1_ n2_ n3_ n4_ n5_ n6_ n7_ n8_ n9_ n10_ n11_ n12_ n13_ n14_ n15_ n16_; clear hb hbox hg; have hnb33 := NB357_335.out; have hnc33 := NB335_357.out; have hnb34 := NB357_346.out; have hnc34 := NB346_357.out; have hnb35 := NB357_351.out; have hnc35 := NB351_357.out; have hcz36_0 : w32.cell? ⟨gb357, 0, none⟩ = some (.int .i64 0) := (blk_cell BK357.out 0).trans rfl; have hcz36_1 : w32.cell? ⟨gb357, 1, none⟩ = some (.slice none 0 0) := (blk_cell BK357.out 1).trans rfl; have hfz36_0 := blk_frozen BK357.out 0; have hfz36_1 := blk_frozen BK357.out 1; obtain ⟨Ao37, co37, eo37⟩ := Kd.R_slice HO355.out; subst eo37))
  (try simp only [Act.put, List.setIfInBounds_toArray, List.set_cons_zero, List.set_cons_succ])
  go_cut [44] (fun v44 wc => ∃ (kq : Nat) (x44_11 : Bool), v44 = .bool x44_11 ∧ Aside0 (laws_FnExactDropClue.j0 kq a1 t345 t356 x44_11 a0_0 l0_1 t341 t342 t347 t348 t352 t353 = some r) ∧ Aside0 (kq ≤ k) ∧ Aside0 (Kd.R k25 25 wc w.heap.size (fun k_ => some k_ ≠ ((.slice Ao30 t348.length co30) : Value).ownBlock ∧ some k_ ≠ ((.slice Ao37 t353.length co37) : Value).ownBlock) (.slice Ao23 t342.length co23) t342) ∧ Aside0 (Kd.R k25 25 wc w.heap.size (fun k_ => some k_ ≠ ((.slice Ao23 t342.length co23) : Value).ownBlock ∧ some k_ ≠ ((.slice Ao37 t353.length co37) : Value).ownBlock) (.slice Ao30 t348.length co30) t348) ∧ Aside0 (Kd.R k25 25 wc w.heap.size (fun k_ => some k_ ≠ ((.slice Ao23 t342.length co23) : Value).ownBlock ∧ some k_ ≠ ((.slice Ao30 t348.length co30) : Value).ownBlock) (.slice Ao37 t353.length co37) t353) ∧ Aside0 (wc.heap[gb335]? = some (.cells #[.int .i64 a0_0, (.slice A0_1 l0_1.length c0_1)] 30 (0, 0))) ∧ Aside0 (wc.heap[gb346]? = some (.cells #[.int .i64 t341, (.slice Ao23 t342.length co23)] 35 (0, 0))) ∧ Aside0 (wc.heap[gb351]? = some (.cells #[.int .i64 t347, (.slice Ao30 t348.length co30)] 35 (0, 0))) ∧ Aside0 (wc.heap[gb357]? = some (.cells #[.int .i64 t352, (.slice Ao37 t353.length co37)] 35 (0, 0))) ∧ Aside0 (Below w.heap.size w wc))
  case first =>
   have H := HC12.out
   clear HC12
   replace H := Option.bind_eq_some_iff.mp H
   obtain ⟨t358, A380, H⟩ := H
   replace H : (if t358 = true then (laws_FnExactDropClue.j0 k a1 t345 t356 (t356 != t345) a0_0 l0_1 t341 t342 t347 t348 t352 t353) else (laws_FnExactDropClue.j0 k a1 t345 t356 true a0_0 l0_1 t341 t342 t347 t348 t352 t353)) = some r := H
   have A38 := am A380
   clear A380
   by_cases c39 : t358 = true
   ·subst c39
    have H1 : (laws_FnExactDropClue.j0 k a1 t345 t356 (t356 != t345) a0_0 l0_1 t341 t342 t347 t348 t352 t353) = some r := by rw [if_pos rfl] at H; exact H
    clear H
    have H := H1
    clear H1
    have H' := am H
    clear H
    have hnb40 := NB357_335.out
    have hnc40 := NB335_357.out
    have hnb41 := NB357_346.out
    have hnc41 := NB346_357.out
    have hnb42 := NB357_351.out
    have hnc42 := NB351_357.out
    have hcz43_0 : w32.cell? ⟨gb357, 0, none⟩ = some (.int .i64 0) := (blk_cell BK357.out 0).trans rfl
    have hcz43_1 : w32.cell? ⟨gb357, 1, none⟩ = some (.slice none 0 0) := (blk_cell BK357.out 1).trans rfl
    have hfz43_0 := blk_frozen BK357.out 0
    have hfz43_1 := blk_frozen BK357.out 1
    have hnb44 := NB346_335.out
    have hnc44 := NB335_346.out
    have hnb45 := NB346_351.out
    have hnc45 := NB351_346.out
    have hcz46_0 : w32.cell? ⟨gb346, 0, none⟩ = some (.int .i64 t341) := (blk_cell BK346.out 0).trans rfl
    have hcz46_1 : w32.cell? ⟨gb346, 1, none⟩ = some (.slice Ao23 t342.length co23) := (blk_cell BK346.out 1).trans rfl
    have hfz46_0 := blk_frozen BK346.out 0
    have hfz46_1 := blk_frozen BK346.out 1
    go_wp2_with (first | ((with_reducible refine gate_callee (f := 14) rfl ?_); refine goesL_ (some 38) rfl rfl Try.func14 (by kernel_rfl) rfl #[.agg #[.int .i64 t352, .slice Ao37 t353.length co37], .agg #[.int .i64 t341, .slice Ao23 t342.length co23]] rfl (by (try simp only [List.map_toArray, List.map_cons, List.map_nil]); first | done | rfl | (simp only [List.length_drop, List.length_take]; rfl)) ?_; (with_reducible refine (laws_eqPuzzle.calls k t352 _ _ t353 t341 _ _ t342 true _ ?side1 ?side2 ?side3 ?side4 A38.out).mono ?_); (case side1 => refine (Kd.R_reads' (e := 25) (base := w.heap.size) (ok := fun k_ => (((True ∧ some k_ ≠ (.slice Ao18 t338.length co18 : Value).ownBlock) ∧ some k_ ≠ (.slice Ao23 t342.length co23 : Value).ownBlock) ∧ some k_ ≠ (.slice Ao30 t348.length co30 : Value).ownBlock)) (n := t353.length) (c := co37) ?_).2.2; exact (by (with_reducible repeat (first | apply Kd.R_alloc | apply Kd.R_drewN | apply Kd.R_drew)); exact (Kd.R_mono (Kd.R_far (p := ⟨gb357, 1, none⟩) (Kd.R_far (p := ⟨gb357, 0, none⟩) (Kd.R_types HO355.out BK357.out (by decide)) (fun _ hk => hk.2) (.int .i64 t352)) (fun _ hk => hk.2) (.slice Ao37 t353.length co37)) (fun _ h_ => h_.1)))); (case side2 => exact (Kd.R_reads' HO355.out).2.1); (case side3 => refine (Kd.R_reads' (e := 25) (base := w.heap.size) (ok := fun k_ => (((True ∧ some k_ ≠ (.slice Ao18 t338.length co18 : Value).ownBlock) ∧ some k_ ≠ (.slice Ao30 t348.length co30 : Value).ownBlock) ∧ some k_ ≠ (.slice Ao37 t353.length co37 : Value).ownBlock)) (n := t342.length) (c := co23) ?_).2.2; exact (by (with_reducible repeat (first | apply Kd.R_alloc | apply Kd.R_drewN | apply Kd.R_drew)); exact (Kd.R_mono (Kd.R_far (p := ⟨gb357, 1, none⟩) (Kd.R_far (p := ⟨gb357, 0, none⟩) (Kd.R_types HO344.out BK357.out (by decide)) (fun _ hk => hk.2) (.int .i64 t352)) (fun _ hk => hk.2) (.slice Ao37 t353.length co37)) (fun _ h_ => h_.1)))); (case side4 => exact (Kd.R_reads' HO344.out).2.1); rintro e w47 ⟨rfl, hb⟩; refine ⟨_, rfl, ?_⟩; have n0_ := am (Kd.R_below (by (with_reducible repeat (first | apply Kd.R_alloc | apply Kd.R_drewN | apply Kd.R_drew)); exact (Kd.R_mono (Kd.R_far (p := ⟨gb357, 1, none⟩) (Kd.R_far (p := ⟨gb357, 0, none⟩) (Kd.R_types HO340.out BK357.out (by decide)) (fun _ hk => hk.2) (.int .i64 t352)) (fun _ hk => hk.2) (.slice Ao37 t353.length co37)) (fun _ h_ => h_.1))) hb); have n1_ := am (Kd.R_below (by (with_reducible repeat (first | apply Kd.R_alloc | apply Kd.R_drewN | apply Kd.R_drew)); exact (Kd.R_mono (Kd.R_far (p := ⟨gb357, 1, none⟩) (Kd.R_far (p := ⟨gb357, 0, none⟩) (Kd.R_types HO344.out BK357.out (by decide)) (fun _ hk => hk.2) (.int .i64 t352)) (fun _ hk => hk.2) (.slice Ao37 t353.length co37)) (fun _ h_ => h_.1))) hb); have n2_ := am (Kd.R_below (by (with_reducible repeat (first | apply Kd.R_alloc | apply Kd.R_drewN | apply Kd.R_drew)); exact (Kd.R_mono (Kd.R_far (p := ⟨gb357, 1, none⟩) (Kd.R_far (p := ⟨gb357, 0, none⟩) (Kd.R_types HO350.out BK357.out (by decide)) (fun _ hk => hk.2) (.int .i64 t352)) (fun _ hk => hk.2) (.slice Ao37 t353.length co37)) (fun _ h_ => h_.1))) hb); have n3_ := am (Kd.R_below (by (with_reducible repeat (first | apply Kd.R_alloc | apply Kd.R_drewN | apply Kd.R_drew)); exact (Kd.R_mono (Kd.R_far (p := ⟨gb357, 1, none⟩) (Kd.R_far (p := ⟨gb357, 0, none⟩) (Kd.R_types HO355.out BK357.out (by decide)) (fun _ hk => hk.2) (.int .i64 t352)) (fun _ hk => hk.2) (.slice Ao37 t353.length co37)) (fun _ h_ => h_.1))) hb); have n4_ := am (blk_below (g := gb335) (o := .cells #[.int .i64 a0_0, .slice A0_1 l0_1.length c0_1] 30 (0, 0)) (by (with_reducible repeat (first | refine blk_drewN ?_ _ | refine blk_drew ?_ | refine blk_alloc ?_ _)); refine blk_far ?_ NB335_357.out _; (with_reducible repeat (first | refine blk_drewN ?_ _ | refine blk_drew ?_ | refine blk_alloc ?_ _)); refine blk_far ?_ NB335_357.out _; (with_reducible repeat (first | refine blk_drewN ?_ _ | refine blk_drew ?_ | refine blk_alloc ?_ _)); exact BK335.out) hb); have n5_ := am (blk_below (g := gb346) (o := .cells #[.int .i64 t341, .slice Ao23 t342.length co23] 35 (0, 0)) (by (with_reducible repeat (first | refine blk_drewN ?_ _ | refine blk_drew ?_ | refine blk_alloc ?_ _)); refine blk_far ?_ NB346_357.out _; (with_reducible repeat (first | refine blk_drewN ?_ _ | refine blk_drew ?_ | refine blk_alloc ?_ _)); refine blk_far ?_ NB346_357.out _; (with_reducible repeat (first | refine blk_drewN ?_ _ | refine blk_drew ?_ | refine blk_alloc ?_ _)); exact BK346.out) hb); have n6_ := am (blk_below (g := gb351) (o := .cells #[.int .i64 t347, .slice Ao30 t348.length co30] 35 (0, 0)) (by (with_reducible repeat (first | refine blk_drewN ?_ _ | refine blk_drew ?_ | refine blk_alloc ?_ _)); refine blk_far ?_ NB351_357.out _; (with_reducible repeat (first | refine blk_drewN ?_ _ | refine blk_drew ?_ | refine blk_alloc ?_ _)); refine blk_far ?_ NB351_357.out _; (with_reducible repeat (first | refine blk_drewN ?_ _ | refine blk_drew ?_ | refine blk_alloc ?_ _)); exact BK351.out) hb); have n7_ := am (blk_below (g := gb357) (o := .cells #[.int .i64 t352, .slice Ao37 t353.length co37] 35 (0, 0)) (by (with_reducible repeat (first | refine blk_drewN ?_ _ | refine blk_drew ?_ | refine blk_alloc ?_ _)); refine blk_put (cs := #[.int .i64 t352, .slice none 0 0]) ?_ 1 _ rfl; (with_reducible repeat (first | refine blk_drewN ?_ _ | refine blk_drew ?_ | refine blk_alloc ?_ _)); refine blk_put (cs := #[.int .i64 0, .slice none 0 0]) ?_ 0 _ rfl; (with_reducible repeat (first | refine blk_drewN ?_ _ | refine blk_drew ?_ | refine blk_alloc ?_ _)); exact BK357.out) hb); have n8_ := am (below_step (by repeat (first | (with_reducible first | exact HB.out | apply below_alloc | apply pw_below_drewN | apply below_drew1 | refine below_set ?_ (Aside0.out (by assumption))) | exact HB.out)) hb); clear HO340; clear HO344; clear HO350; clear HO355; clear BK335; clear BK346; clear BK351; clear BK357; clear HB; have HO340 := n0_; have HO344 := n1_; have HO350 := n2_; have HO355 := n3_; have BK335 := n4_; have BK346 := n5_; have BK351 := n6_; have BK357 := n7_; have HB := n8_; clear n0_ n1_ n2_ n3_ n4_ n5_ n6_ n7_ n8_; (try clear hb); (try clear hb2); (try clear hk); (try clear hi)))
    go_meet
    case rel => exact ⟨_, ((t356 != t345)), (by first | rfl | (simp; done) | (simp [*]; done)), H', ⟨by first | omega | exact Nat.le_refl _⟩, ⟨by (with_reducible repeat (first | apply Kd.R_alloc | apply Kd.R_drewN | apply Kd.R_drew)); exact Kd.R_mono HO344.out (fun _ hk => ⟨hk.1.2, hk.2⟩)⟩, ⟨by (with_reducible repeat (first | apply Kd.R_alloc | apply Kd.R_drewN | apply Kd.R_drew)); exact Kd.R_mono HO350.out (fun _ hk => ⟨hk.1.2, hk.2⟩)⟩, ⟨by (with_reducible repeat (first | apply Kd.R_alloc | apply Kd.R_drewN | apply Kd.R_drew)); exact Kd.R_mono HO355.out (fun _ hk => ⟨hk.1.2, hk.2⟩)⟩, ⟨bkS BK335.out⟩, ⟨bkS BK346.out⟩, ⟨bkS BK351.out⟩, ⟨bkS BK357.out⟩, ⟨by repeat (first | (with_reducible first | exact HB.out | apply below_alloc | apply pw_below_drewN | apply below_drew1 | refine below_set ?_ (Aside0.out (by assumption))) | exact HB.out)⟩⟩
   ·replace c39 := Bool.eq_false_iff.mpr c39
    subst c39
    have H1 : (laws_FnExactDropClue.j0 k a1 t345 t356 true a0_0 l0_1 t341 t342 t347 t348 t352 t353) = some r := by rw [if_neg (show ¬ (false = true) by decide)] at H; exact H
    clear H
    have H := H1
    clear H1
    have H' := am H
    clear H
    have hnb48 := NB357_335.out
    have hnc48 := NB335_357.out
    have hnb49 := NB357_346.out
    have hnc49 := NB346_357.out
    have hnb50 := NB357_351.out
    have hnc50 := NB351_357.out
    have hcz51_0 : w32.cell? ⟨gb357, 0, none⟩ = some (.int .i64 0) := (blk_cell BK357.out 0).trans rfl
    have hcz51_1 : w32.cell? ⟨gb357, 1, none⟩ = some (.slice none 0 0) := (blk_cell BK357.out 1).trans rfl
    have hfz51_0 := blk_frozen BK357.out 0
    have hfz51_1 := blk_frozen BK357.out 1
    have hnb52 := NB346_335.out
    have hnc52 := NB335_346.out
    have hnb53 := NB346_351.out
    have hnc53 := NB351_346.out
    have hcz54_0 : w32.cell? ⟨gb346, 0, none⟩ = some (.int .i64 t341) := (blk_cell BK346.out 0).trans rfl
    have hcz54_1 : w32.cell? ⟨gb346, 1, none⟩ = some (.slice Ao23 t342.length co23) := (blk_cell BK346.out 1).trans rfl
    have hfz54_0 := blk_frozen BK346.out 0
    have hfz54_1 := blk_frozen BK346.out 1
    go_wp2_with (first | ((with_reducible refine gate_callee (f := 14) rfl ?_); refine goesL_ (some 38) rfl rfl Try.func14 (by kernel_rfl) rfl #[.agg #[.int .i64 t352, .slice Ao37 t353.length co37], .agg #[.int .i64 t341, .slice Ao23 t342.length co23]] rfl (by (try simp only [List.map_toArray, List.map_cons, List.map_nil]); first | done | rfl | (simp only [List.length_drop, List.length_take]; rfl)) ?_; (with_reducible refine (laws_eqPuzzle.calls k t352 _ _ t353 t341 _ _ t342 false _ ?side1 ?side2 ?side3 ?side4 A38.out).mono ?_); (case side1 => refine (Kd.R_reads' (e := 25) (base := w.heap.size) (ok := fun k_ => (((True ∧ some k_ ≠ (.slice Ao18 t338.length co18 : Value).ownBlock) ∧ some k_ ≠ (.slice Ao23 t342.length co23 : Value).ownBlock) ∧ some k_ ≠ (.slice Ao30 t348.length co30 : Value).ownBlock)) (n := t353.length) (c := co37) ?_).2.2; exact (by (with_reducible repeat (first | apply Kd.R_alloc | apply Kd.R_drewN | apply Kd.R_drew)); exact (Kd.R_mono (Kd.R_far (p := ⟨gb357, 1, none⟩) (Kd.R_far (p := ⟨gb357, 0, none⟩) (Kd.R_types HO355.out BK357.out (by decide)) (fun _ hk => hk.2) (.int .i64 t352)) (fun _ hk => hk.2) (.slice Ao37 t353.length co37)) (fun _ h_ => h_.1)))); (case side2 => exact (Kd.R_reads' HO355.out).2.1); (case side3 => refine (Kd.R_reads' (e := 25) (base := w.heap.size) (ok := fun k_ => (((True ∧ some k_ ≠ (.slice Ao18 t338.length co18 : Value).ownBlock) ∧ some k_ ≠ (.slice Ao30 t348.length co30 : Value).ownBlock) ∧ some k_ ≠ (.slice Ao37 t353.length co37 : Value).ownBlock)) (n := t342.length) (c := co23) ?_).2.2; exact (by (with_reducible repeat (first | apply Kd.R_alloc | apply Kd.R_drewN | apply Kd.R_drew)); exact (Kd.R_mono (Kd.R_far (p := ⟨gb357, 1, none⟩) (Kd.R_far (p := ⟨gb357, 0, none⟩) (Kd.R_types HO344.out BK357.out (by decide)) (fun _ hk => hk.2) (.int .i64 t352)) (fun _ hk => hk.2) (.slice Ao37 t353.length co37)) (fun _ h_ => h_.1)))); (case side4 => exact (Kd.R_reads' HO344.out).2.1); rintro e w55 ⟨rfl, hb⟩; refine ⟨_, rfl, ?_⟩; have n0_ := am (Kd.R_below (by (with_reducible repeat (first | apply Kd.R_alloc | apply Kd.R_drewN | apply Kd.R_drew)); exact (Kd.R_mono (Kd.R_far (p := ⟨gb357, 1, none⟩) (Kd.R_far (p := ⟨gb357, 0, none⟩) (Kd.R_types HO340.out BK357.out (by decide)) (fun _ hk => hk.2) (.int .i64 t352)) (fun _ hk => hk.2) (.slice Ao37 t353.length co37)) (fun _ h_ => h_.1))) hb); have n1_ := am (Kd.R_below (by (with_reducible repeat (first | apply Kd.R_alloc | apply Kd.R_drewN | apply Kd.R_drew)); exact (Kd.R_mono (Kd.R_far (p := ⟨gb357, 1, none⟩) (Kd.R_far (p := ⟨gb357, 0, none⟩) (Kd.R_types HO344.out BK357.out (by decide)) (fun _ hk => hk.2) (.int .i64 t352)) (fun _ hk => hk.2) (.slice Ao37 t353.length co37)) (fun _ h_ => h_.1))) hb); have n2_ := am (Kd.R_below (by (with_reducible repeat (first | apply Kd.R_alloc | apply Kd.R_drewN | apply Kd.R_drew)); exact (Kd.R_mono (Kd.R_far (p := ⟨gb357, 1, none⟩) (Kd.R_far (p := ⟨gb357, 0, none⟩) (Kd.R_types HO350.out BK357.out (by decide)) (fun _ hk => hk.2) (.int .i64 t352)) (fun _ hk => hk.2) (.slice Ao37 t353.length co37)) (fun _ h_ => h_.1))) hb); have n3_ := am (Kd.R_below (by (with_reducible repeat (first | apply Kd.R_alloc | apply Kd.R_drewN | apply Kd.R_drew)); exact (Kd.R_mono (Kd.R_far (p := ⟨gb357, 1, none⟩) (Kd.R_far (p := ⟨gb357, 0, none⟩) (Kd.R_types HO355.out BK357.out (by decide)) (fun _ hk => hk.2) (.int .i64 t352)) (fun _ hk => hk.2) (.slice Ao37 t353.length co37)) (fun _ h_ => h_.1))) hb); have n4_ := am (blk_below (g := gb335) (o := .cells #[.int .i64 a0_0, .slice A0_1 l0_1.length c0_1] 30 (0, 0)) (by (with_reducible repeat (first | refine blk_drewN ?_ _ | refine blk_drew ?_ | refine blk_alloc ?_ _)); refine blk_far ?_ NB335_357.out _; (with_reducible repeat (first | refine blk_drewN ?_ _ | refine blk_drew ?_ | refine blk_alloc ?_ _)); refine blk_far ?_ NB335_357.out _; (with_reducible repeat (first | refine blk_drewN ?_ _ | refine blk_drew ?_ | refine blk_alloc ?_ _)); exact BK335.out) hb); have n5_ := am (blk_below (g := gb346) (o := .cells #[.int .i64 t341, .slice Ao23 t342.length co23] 35 (0, 0)) (by (with_reducible repeat (first | refine blk_drewN ?_ _ | refine blk_drew ?_ | refine blk_alloc ?_ _)); refine blk_far ?_ NB346_357.out _; (with_reducible repeat (first | refine blk_drewN ?_ _ | refine blk_drew ?_ | refine blk_alloc ?_ _)); refine blk_far ?_ NB346_357.out _; (with_reducible repeat (first | refine blk_drewN ?_ _ | refine blk_drew ?_ | refine blk_alloc ?_ _)); exact BK346.out) hb); have n6_ := am (blk_below (g := gb351) (o := .cells #[.int .i64 t347, .slice Ao30 t348.length co30] 35 (0, 0)) (by (with_reducible repeat (first | refine blk_drewN ?_ _ | refine blk_drew ?_ | refine blk_alloc ?_ _)); refine blk_far ?_ NB351_357.out _; (with_reducible repeat (first | refine blk_drewN ?_ _ | refine blk_drew ?_ | refine blk_alloc ?_ _)); refine blk_far ?_ NB351_357.out _; (with_reducible repeat (first | refine blk_drewN ?_ _ | refine blk_drew ?_ | refine blk_alloc ?_ _)); exact BK351.out) hb); have n7_ := am (blk_below (g := gb357) (o := .cells #[.int .i64 t352, .slice Ao37 t353.length co37] 35 (0, 0)) (by (with_reducible repeat (first | refine blk_drewN ?_ _ | refine blk_drew ?_ | refine blk_alloc ?_ _)); refine blk_put (cs := #[.int .i64 t352, .slice none 0 0]) ?_ 1 _ rfl; (with_reducible repeat (first | refine blk_drewN ?_ _ | refine blk_drew ?_ | refine blk_alloc ?_ _)); refine blk_put (cs := #[.int .i64 0, .slice none 0 0]) ?_ 0 _ rfl; (with_reducible repeat (first | refine blk_drewN ?_ _ | refine blk_drew ?_ | refine blk_alloc ?_ _)); exact BK357.out) hb); have n8_ := am (below_step (by repeat (first | (with_reducible first | exact HB.out | apply below_alloc | apply pw_below_drewN | apply below_drew1 | refine below_set ?_ (Aside0.out (by assumption))) | exact HB.out)) hb); clear HO340; clear HO344; clear HO350; clear HO355; clear BK335; clear BK346; clear BK351; clear BK357; clear HB; have HO340 := n0_; have HO344 := n1_; have HO350 := n2_; have HO355 := n3_; have BK335 := n4_; have BK346 := n5_; have BK351 := n6_; have BK357 := n7_; have HB := n8_; clear n0_ n1_ n2_ n3_ n4_ n5_ n6_ n7_ n8_; (try clear hb); (try clear hb2); (try clear hk); (try clear hi)))
    go_meet
    case rel => exact ⟨_, (true), (by first | rfl | (simp; done) | (simp [*]; done)), H', ⟨by first | omega | exact Nat.le_refl _⟩, ⟨by (with_reducible repeat (first | apply Kd.R_alloc | apply Kd.R_drewN | apply Kd.R_drew)); exact Kd.R_mono HO344.out (fun _ hk => ⟨hk.1.2, hk.2⟩)⟩, ⟨by (with_reducible repeat (first | apply Kd.R_alloc | apply Kd.R_drewN | apply Kd.R_drew)); exact Kd.R_mono HO350.out (fun _ hk => ⟨hk.1.2, hk.2⟩)⟩, ⟨by (with_reducible repeat (first | apply Kd.R_alloc | apply Kd.R_drewN | apply Kd.R_drew)); exact Kd.R_mono HO355.out (fun _ hk => ⟨hk.1.2, hk.2⟩)⟩, ⟨bkS BK335.out⟩, ⟨bkS BK346.out⟩, ⟨bkS BK351.out⟩, ⟨bkS BK357.out⟩, ⟨by repeat (first | (with_reducible first | exact HB.out | apply below_alloc | apply pw_below_drewN | apply below_drew1 | refine below_set ?_ (Aside0.out (by assumption))) | exact HB.out)⟩⟩
  case rest =>
   clear HC12
   try clear c1
   try clear c2
   try clear p2
   try clear c3
   try clear c4
   try clear c4b0
   try clear c5
   try clear c6
   try clear c10
   try clear c12
   try clear c14
   try clear c19
   try clear c20
   try clear c21
   try clear c27
   try clear c28
   try clear c33
   try clear c34
   try clear c35
   try clear c39
   try clear c40
   try clear c41
   try clear c42
   try clear c44
   try clear c45
   try clear c48
   try clear c49
   try clear c50
   try clear c52
   try clear c53
   try clear hcz14_0
   try clear hcz14_1
   try clear hcz16_0
   try clear hcz16_1
   try clear hcz22_0
   try clear hcz22_1
   try clear hcz24_0
   try clear hcz24_1
   try clear hcz29_0
   try clear hcz29_1
   try clear hcz36_0
   try clear hcz36_1
   try clear hcz43_0
   try clear hcz43_1
   try clear hcz46_0
   try clear hcz46_1
   try clear hcz51_0
   try clear hcz51_1
   try clear hcz54_0
   try clear hcz54_1
   try clear hcz6_0
   try clear hcz6_1
   try clear hfz14_0
   try clear hfz14_1
   try clear hfz16_0
   try clear hfz16_1
   try clear hfz22_0
   try clear hfz22_1
   try clear hfz24_0
   try clear hfz24_1
   try clear hfz29_0
   try clear hfz29_1
   try clear hfz36_0
   try clear hfz36_1
   try clear hfz43_0
   try clear hfz43_1
   try clear hfz46_0
   try clear hfz46_1
   try clear hfz51_0
   try clear hfz51_1
   try clear hfz54_0
   try clear hfz54_1
   try clear hfz6_0
   try clear hfz6_1
   obtain ⟨kq, x44_11, rfl, HA, HJ11, HO_347001, HO_352001, HO_358001, BK335, BK346, BK351, BK357, HB⟩ := hcut
   cases kq with
   | zero => exact absurd HA.out (by simp [laws_FnExactDropClue.j0])
   | succ kj11 =>
    have H := HA.out
    clear HA
    simp only [laws_FnExactDropClue.j0] at H
    by_cases c56 : x44_11 = true
    ·subst c56
     have H1 : (none) = some r := by rw [if_pos rfl] at H; exact H
     clear H
     have H := H1
     clear H1
     exact absurd H (by simp)
    ·replace c56 := Bool.eq_false_iff.mpr c56
     subst c56
     have H1 : ((laws_toPuzzle.f kj11 a0_0 l0_1).bind fun bt359 => ((laws_eqPuzzle.f kj11 t347 t348 bt359.1 bt359.2).bind fun t363 => (if t363 = true then ((laws_markPuzzle.f kj11 t347 t348 1).bind fun bt364 => (if bt364.1 < 0 then (laws_FnExactDropClue.j1 kj11 a1 t345 true a0_0 l0_1 t341 t342 t352 t353) else ((laws_eqPuzzle.f kj11 t352 t353 t341 t342).bind fun t366 => (if t366 = true then (laws_FnExactDropClue.j1 kj11 a1 t345 (t356 != t345) a0_0 l0_1 t341 t342 t352 t353) else (laws_FnExactDropClue.j1 kj11 a1 t345 true a0_0 l0_1 t341 t342 t352 t353))))) else (none)))) = some r := by rw [if_neg (show ¬ (false = true) by decide)] at H; exact H
     clear H
     have H := H1
     clear H1
     replace H := Option.bind_eq_some_iff.mp H
     obtain ⟨⟨t359, t360⟩, A570, H⟩ := H
     replace H : ((laws_eqPuzzle.f kj11 t347 t348 t359 t360).bind fun t363 => (if t363 = true then ((laws_markPuzzle.f kj11 t347 t348 1).bind fun bt364 => (if bt364.1 < 0 then (laws_FnExactDropClue.j1 kj11 a1 t345 true a0_0 l0_1 t341 t342 t352 t353) else ((laws_eqPuzzle.f kj11 t352 t353 t341 t342).bind fun t366 => (if t366 = true then (laws_FnExactDropClue.j1 kj11 a1 t345 (t356 != t345) a0_0 l0_1 t341 t342 t352 t353) else (laws_FnExactDropClue.j1 kj11 a1 t345 true a0_0 l0_1 t341 t342 t352 t353))))) else (none))) = some r := H
     have A57 := am A570
     clear A570
     replace H := Option.bind_eq_some_iff.mp H
     obtain ⟨t363, A580, H⟩ := H
     replace H : (if t363 = true then ((laws_markPuzzle.f kj11 t347 t348 1).bind fun bt364 => (if bt364.1 < 0 then (laws_FnExactDropClue.j1 kj11 a1 t345 true a0_0 l0_1 t341 t342 t352 t353) else ((laws_eqPuzzle.f kj11 t352 t353 t341 t342).bind fun t366 => (if t366 = true then (laws_FnExactDropClue.j1 kj11 a1 t345 (t356 != t345) a0_0 l0_1 t341 t342 t352 t353) else (laws_FnExactDropClue.j1 kj11 a1 t345 true a0_0 l0_1 t341 t342 t352 t353))))) else (none)) = some r := H
     have A58 := am A580
     clear A580
     by_cases c59 : t363 = true
     ·subst c59
      have H1 : ((laws_markPuzzle.f kj11 t347 t348 1).bind fun bt364 => (if bt364.1 < 0 then (laws_FnExactDropClue.j1 kj11 a1 t345 true a0_0 l0_1 t341 t342 t352 t353) else ((laws_eqPuzzle.f kj11 t352 t353 t341 t342).bind fun t366 => (if t366 = true then (laws_FnExactDropClue.j1 kj11 a1 t345 (t356 != t345) a0_0 l0_1 t341 t342 t352 t353) else (laws_FnExactDropClue.j1 kj11 a1 t345 true a0_0 l0_1 t341 t342 t352 t353))))) = some r := by rw [if_pos rfl] at H; exact H
      clear H
      have H := H1
      clear H1
      replace H := Option.bind_eq_some_iff.mp H
      obtain ⟨⟨t364, t365⟩, A600, H⟩ := H
      replace H : (if t364 < 0 then (laws_FnExactDropClue.j1 kj11 a1 t345 true a0_0 l0_1 t341 t342 t352 t353) else ((laws_eqPuzzle.f kj11 t352 t353 t341 t342).bind fun t366 => (if t366 = true then (laws_FnExactDropClue.j1 kj11 a1 t345 (t356 != t345) a0_0 l0_1 t341 t342 t352 t353) else (laws_FnExactDropClue.j1 kj11 a1 t345 true a0_0 l0_1 t341 t342 t352 t353)))) = some r := H
      have A60 := am A600
      clear A600
      have HC61 := am H
      clear H
      try go_wp2
      have n0_ := am (Kd.R_drew HO_347001.out)
      have n1_ := am (Kd.R_drew HO_352001.out)
      have n2_ := am (Kd.R_drew HO_358001.out)
      have n3_ := am (blk_drew BK335.out)
      have n4_ := am (blk_drew BK346.out)
      have n5_ := am (blk_drew BK351.out)
      have n6_ := am (blk_drew BK357.out)
      have n7_ := am (below_drew1 HB.out)
      clear HO_347001
      clear HO_352001
      clear HO_358001
      clear BK335
      clear BK346
      clear BK351
      clear BK357
      clear HB
      have HO_347001 := n0_
      have HO_352001 := n1_
      have HO_358001 := n2_
      have BK335 := n3_
      have BK346 := n4_
      have BK351 := n5_
      have BK357 := n6_
      have HB := n7_
      clear n0_ n1_ n2_ n3_ n4_ n5_ n6_ n7_
      refine start_ (n := 5) (S := fun w' => w'.cell? ⟨gb351, 0, none⟩ = some (.int .i64 t347) ∧ w'.cell? ⟨gb351, 1, none⟩ = some (.slice Ao30 t348.length co30) ∧ w'.cell? ⟨gb335, 0, none⟩ = some (.int .i64 a0_0) ∧ w'.cell? ⟨gb335, 1, none⟩ = some (.slice A0_1 l0_1.length c0_1)) (ds := []) #[false, false, false, false, false] (by kernel_rfl) rfl rfl ⟨(blk_cell BK351.out 0).trans rfl, (blk_cell BK351.out 1).trans rfl, (blk_cell BK335.out 0).trans rfl, (blk_cell BK335.out 1).trans rfl⟩ (fun hHeld => ?_)
      generalize wc.drew = w62 at HO_347001 HO_352001 HO_358001 BK335 BK346 BK351 BK357 HB hHeld ⊢
      refine take_ (i := 0) (N := some 45) (v := ?_) (a' := ?_) #[true, false, false, false, false] rfl rfl (by kernel_rfl) (fun _ _ _ h => h) (Or.inl ⟨by rfl, ?_⟩) hHeld ?_ ?_
      rotate_left
      ·rintro w' ⟨s0, s1, s2, s3⟩
       go_simp
       with_reducible rfl
      rotate_left
      ·simp only [Act.put, List.setIfInBounds_toArray, List.set_cons_zero, List.set_cons_succ, i64_w, i32_w]
       rfl
      refine take_ (i := 1) (N := some 46) (v := ?_) (a' := ?_) #[true, true, false, false, false] rfl rfl (by kernel_rfl) (fun _ _ _ h => h) (Or.inl ⟨by rfl, ?_⟩) hHeld ?_ ?_
      rotate_left
      ·rintro w' ⟨s0, s1, s2, s3⟩
       go_simp
       with_reducible rfl
      rotate_left
      ·simp only [Act.put, List.setIfInBounds_toArray, List.set_cons_zero, List.set_cons_succ, i64_w, i32_w]
       rfl
      refine one_ (i := 2) (N := some 47) #[true, true, true, false, false] rfl rfl (by kernel_rfl) (by decide) (fun K hK => ?_)
      refine goes_ Try.func12 (by kernel_rfl) rfl #[.agg #[.int .i64 a0_0, .slice A0_1 l0_1.length c0_1]] (by rfl) rfl rfl (by (try simp only [List.map_toArray, List.map_cons, List.map_nil]); first | done | rfl | (simp only [List.length_drop, List.length_take]; rfl)) ?_
      with_reducible refine (laws_toPuzzle.calls kj11 a0_0 _ _ l0_1 t359 t360 _ ?side1 ?side2 A57.out).mono ?_
      (case side1 => repeat (first | exact (Kd.C_below HR0_1.out HB.out) | (with_reducible refine Kd.C_alloc ?_ _) | (with_reducible refine Kd.C_drewN ?_ _) | (with_reducible refine Kd.C_drew ?_)))
      (case side2 => exact HC0_1.out)
      rintro e w63 ⟨v361, rfl, ho0, hb⟩
      refine ⟨_, rfl, ?_⟩
      have n0_ := am (Kd.R_elder' (roS HO_347001.out) (Kd.R_base ho0) hb)
      have n1_ := am (Kd.R_elder' (roS HO_352001.out) (Kd.R_base ho0) hb)
      have n2_ := am (Kd.R_elder' (roS HO_358001.out) (Kd.R_base ho0) hb)
      have n3_ := am (Kd.R_lower (Kd.R_new' (Kd.R_new' (Kd.R_new' ho0 (Kd.R_lt (roS HO_347001.out))) (Kd.R_lt (roS HO_352001.out))) (Kd.R_lt (roS HO_358001.out))) (below_size (by repeat (first | (with_reducible first | exact HB.out | apply below_alloc | apply pw_below_drewN | apply below_drew1 | refine below_set ?_ (Aside0.out (by assumption))) | exact HB.out))))
      have n4_ := am (blk_below (bkS BK335.out) hb)
      have n5_ := am (blk_below (bkS BK346.out) hb)
      have n6_ := am (blk_below (bkS BK351.out) hb)
      have n7_ := am (blk_below (bkS BK357.out) hb)
      have n8_ := am (below_step (by repeat (first | (with_reducible first | exact HB.out | apply below_alloc | apply pw_below_drewN | apply below_drew1 | refine below_set ?_ (Aside0.out (by assumption))) | exact HB.out)) hb)
      clear HO_347001
      clear HO_352001
      clear HO_358001
      clear BK335
      clear BK346
      clear BK351
      clear BK357
      clear HB
      have HO_347001 := n0_
      have HO_352001 := n1_
      have HO_358001 := n2_
      have HO362 := n3_
      have BK335 := n4_
      have BK346 := n5_
      have BK351 := n6_
      have BK357 := n7_
      have HB := n8_
      clear n0_ n1_ n2_ n3_ n4_ n5_ n6_ n7_ n8_
      (try clear hb)
      (try clear hb2)
      (try clear hk)
      (try clear hi)
      (try clear ho0)
      obtain ⟨Ao64, co64, eo64⟩ := Kd.R_slice HO362.out
      (first | subst eo64 | (injection eo64 with f1_ f2_ f3_; have f4_ := f1_.symm; have f5_ := f3_.symm; clear f1_ f2_ f3_; subst f4_; subst f5_))
      refine hK.out _ _ ⟨(blk_cell BK351.out 0).trans rfl, (blk_cell BK351.out 1).trans rfl, (blk_cell BK335.out 0).trans rfl, (blk_cell BK335.out 1).trans rfl⟩ (fun hHeld => ?_)
      clear hK K
      refine norm_ (a' := ?_) ?_ ?_
      rotate_left
      ·show Act.put _ (some 47) _ = _
       simp only [Act.put, List.setIfInBounds_toArray, List.set_cons_zero, List.set_cons_succ, i64_w, i32_w]
       rfl
      refine one_ (i := 3) (N := some 48) #[true, true, true, true, false] rfl rfl (by kernel_rfl) (by decide) (fun K hK => ?_)
      refine goes_ Try.func14 (by kernel_rfl) rfl #[.agg #[.int .i64 t347, .slice Ao30 t348.length co30], .agg #[.int .i64 t359, .slice Ao64 t360.length co64]] (by rfl) rfl rfl (by (try simp only [List.map_toArray, List.map_cons, List.map_nil]); first | done | rfl | (simp only [List.length_drop, List.length_take]; rfl)) ?_
      with_reducible refine (laws_eqPuzzle.calls kj11 t347 _ _ t348 t359 _ _ t360 true _ ?side1 ?side2 ?side3 ?side4 A58.out).mono ?_
      (case side1 => repeat (first | exact (Kd.R_reads' HO_352001.out).2.2 | (with_reducible refine Kd.C_alloc ?_ _) | (with_reducible refine Kd.C_drewN ?_ _) | (with_reducible refine Kd.C_drew ?_)))
      (case side2 => exact (Kd.R_reads' HO_352001.out).2.1)
      (case side3 => repeat (first | exact (Kd.R_reads' HO362.out).2.2 | (with_reducible refine Kd.C_alloc ?_ _) | (with_reducible refine Kd.C_drewN ?_ _) | (with_reducible refine Kd.C_drew ?_)))
      (case side4 => exact (Kd.R_reads' HO362.out).2.1)
      rintro e w65 ⟨rfl, hb⟩
      refine ⟨_, rfl, ?_⟩
      have n0_ := am (Kd.R_below (roS HO_347001.out) hb)
      have n1_ := am (Kd.R_below (roS HO_352001.out) hb)
      have n2_ := am (Kd.R_below (roS HO_358001.out) hb)
      have n3_ := am (Kd.R_below (roS HO362.out) hb)
      have n4_ := am (blk_below (bkS BK335.out) hb)
      have n5_ := am (blk_below (bkS BK346.out) hb)
      have n6_ := am (blk_below (bkS BK351.out) hb)
      have n7_ := am (blk_below (bkS BK357.out) hb)
      have n8_ := am (below_step (by repeat (first | (with_reducible first | exact HB.out | apply below_alloc | apply pw_below_drewN | apply below_drew1 | refine below_set ?_ (Aside0.out (by assumption))) | exact HB.out)) hb)
      clear HO_347001
      clear HO_352001
      clear HO_358001
      clear HO362
      clear BK335
      clear BK346
      clear BK351
      clear BK357
      clear HB
      have HO_347001 := n0_
      have HO_352001 := n1_
      have HO_358001 := n2_
      have HO362 := n3_
      have BK335 := n4_
      have BK346 := n5_
      have BK351 := n6_
      have BK357 := n7_
      have HB := n8_
      clear n0_ n1_ n2_ n3_ n4_ n5_ n6_ n7_ n8_
      (try clear hb)
      (try clear hb2)
      (try clear hk)
      (try clear hi)
      refine hK.out _ _ ⟨(blk_cell BK351.out 0).trans rfl, (blk_cell BK351.out 1).trans rfl, (blk_cell BK335.out 0).trans rfl, (blk_cell BK335.out 1).trans rfl⟩ (fun hHeld => ?_)
      clear hK K
      refine norm_ (a' := ?_) ?_ ?_
      rotate_left
      ·show Act.put _ (some 48) _ = _
       simp only [Act.put, List.setIfInBounds_toArray, List.set_cons_zero, List.set_cons_succ, i64_w, i32_w]
       rfl
      refine pure_ (i := 4) (N := some 49) (v := ?_) (a' := ?_) #[true, true, true, true, true] rfl rfl (by kernel_rfl) (fun _ _ _ h => h) (Or.inl ⟨by rfl, ?_⟩) ?_ ?_
      rotate_left
      ·intro w'
       go_simp
       with_reducible rfl
      rotate_left
      ·simp only [Act.put, List.setIfInBounds_toArray, List.set_cons_zero, List.set_cons_succ, i64_w, i32_w]
       rfl
      refine done_ (by kernel_rfl) ?_
      have hnb66 := NB351_335.out
      have hnc66 := NB335_351.out
      have hnb67 := NB351_346.out
      have hnc67 := NB346_351.out
      have hnb68 := NB351_357.out
      have hnc68 := NB357_351.out
      have hcz69_0 : w65.cell? ⟨gb351, 0, none⟩ = some (.int .i64 t347) := (blk_cell BK351.out 0).trans rfl
      have hcz69_1 : w65.cell? ⟨gb351, 1, none⟩ = some (.slice Ao30 t348.length co30) := (blk_cell BK351.out 1).trans rfl
      have hfz69_0 := blk_frozen BK351.out 0
      have hfz69_1 := blk_frozen BK351.out 1
      go_upto_region 14 with (first | ((with_reducible refine gate_callee (f := 17) rfl ?_); refine goesL_ (some 52) rfl rfl Try.func17 (by kernel_rfl) rfl #[.agg #[.int .i64 t347, .slice Ao30 t348.length co30], .int .i64 1] rfl (by (try simp only [List.map_toArray, List.map_cons, List.map_nil]); first | done | rfl | (simp only [List.length_drop, List.length_take]; rfl)) ?_; (with_reducible refine (laws_markPuzzle.calls kj11 t347 (fun k_ => some k_ = (.slice Ao30 t348.length co30 : Value).ownBlock) (.slice Ao30 t348.length co30) t348 1 t364 t365 w _ ?side1 ?side2 A60.out).mono ?_); (case side1 => repeat (first | (with_reducible first | exact HB.out | apply below_alloc | apply pw_below_drewN | apply below_drew1 | refine below_set ?_ (Aside0.out (by assumption))) | exact HB.out)); (case side2 => exact Kd.R_tight rfl HO_352001.out); rintro e w70 ⟨rfl, hy0, hb, hkp⟩; refine ⟨_, rfl, ?_⟩; have n0_ := am (Kd.R_mono (ok' := fun k_ => some k_ ≠ (.slice Ao30 t348.length co30 : Value).ownBlock ∧ some k_ ≠ (.slice Ao37 t353.length co37 : Value).ownBlock ∧ some k_ ≠ (.slice Ao64 t360.length co64 : Value).ownBlock) (Kd.R_keptB (HO_347001.out) hkp (fun k_ hk_ hs_ => (hk_.1.1) hs_)) (fun k_ hk_ => ⟨hk_.1.1.1, hk_.1.1.2, hk_.1.2⟩)); have n1_ := am (Kd.R_reok rfl hy0 (fun k_ e_ => HO_352001.out.1 k_ e_)); have n2_ := am (Kd.R_mono (ok' := fun k_ => some k_ ≠ (.slice Ao23 t342.length co23 : Value).ownBlock ∧ some k_ ≠ (.slice Ao30 t348.length co30 : Value).ownBlock ∧ some k_ ≠ (.slice Ao64 t360.length co64 : Value).ownBlock) (Kd.R_keptB (HO_358001.out) hkp (fun k_ hk_ hs_ => (hk_.1.2) hs_)) (fun k_ hk_ => ⟨hk_.1.1.1, hk_.1.1.2, hk_.1.2⟩)); have n3_ := am (blk_kept (bkS BK335.out) hkp (fun hs_ => (fun e_ => (Kd.R_ne HO_352001.out BK335.out (by decide)) e_) hs_)); have n4_ := am (blk_kept (bkS BK346.out) hkp (fun hs_ => (fun e_ => (Kd.R_ne HO_352001.out BK346.out (by decide)) e_) hs_)); have n5_ := am (blk_kept (bkS BK351.out) hkp (fun hs_ => (fun e_ => (Kd.R_ne HO_352001.out BK351.out (by decide)) e_) hs_)); have n6_ := am (blk_kept (bkS BK357.out) hkp (fun hs_ => (fun e_ => (Kd.R_ne HO_352001.out BK357.out (by decide)) e_) hs_)); have n7_ := am (Kd.R_mono (ok' := fun k_ => some k_ ≠ (.slice Ao23 t342.length co23 : Value).ownBlock ∧ some k_ ≠ (.slice Ao30 t348.length co30 : Value).ownBlock ∧ some k_ ≠ (.slice Ao37 t353.length co37 : Value).ownBlock) (Kd.R_keptB (HO362.out) hkp (fun k_ hk_ hs_ => (hk_.1.2) hs_)) (fun k_ hk_ => ⟨hk_.1.1.1.2, hk_.1.1.2, hk_.1.2⟩)); have n8_ := am (hb); clear HO_347001; clear HO_352001; clear HO_358001; clear BK335; clear BK346; clear BK351; clear BK357; clear HO362; clear HB; have HO_347001 := n0_; have HO_352001 := n1_; have HO_358001 := n2_; have BK335 := n3_; have BK346 := n4_; have BK351 := n5_; have BK357 := n6_; have HO362 := n7_; have HB := n8_; clear n0_ n1_ n2_ n3_ n4_ n5_ n6_ n7_ n8_; (try clear hb); (try clear hkp); (try clear hy0)))
      (try simp only [Act.put, List.setIfInBounds_toArray, List.set_cons_zero, List.set_cons_succ])
      go_cut [65] (fun v65 wc => ∃ (kq : Nat) (x65_60 : Bool), v65 = .bool x65_60 ∧ Aside0 (laws_FnExactDropClue.j1 kq a1 t345 x65_60 a0_0 l0_1 t341 t342 t352 t353 = some r) ∧ Aside0 (kq ≤ kj11) ∧ Aside0 (Kd.R k25 25 wc w.heap.size (fun k_ => some k_ ≠ ((.slice Ao30 t348.length co30) : Value).ownBlock ∧ some k_ ≠ ((.slice Ao37 t353.length co37) : Value).ownBlock) (.slice Ao23 t342.length co23) t342) ∧ Aside0 (Kd.R k25 25 wc w.heap.size (fun k_ => some k_ ≠ ((.slice Ao23 t342.length co23) : Value).ownBlock ∧ some k_ ≠ ((.slice Ao37 t353.length co37) : Value).ownBlock) (.slice Ao30 t348.length co30) t365) ∧ Aside0 (Kd.R k25 25 wc w.heap.size (fun k_ => some k_ ≠ ((.slice Ao23 t342.length co23) : Value).ownBlock ∧ some k_ ≠ ((.slice Ao30 t348.length co30) : Value).ownBlock) (.slice Ao37 t353.length co37) t353) ∧ Aside0 (wc.heap[gb335]? = some (.cells #[.int .i64 a0_0, (.slice A0_1 l0_1.length c0_1)] 30 (0, 0))) ∧ Aside0 (wc.heap[gb346]? = some (.cells #[.int .i64 t341, (.slice Ao23 t342.length co23)] 35 (0, 0))) ∧ Aside0 (wc.heap[gb351]? = some (.cells #[.int .i64 t347, (.slice Ao30 t348.length co30)] 35 (0, 0))) ∧ Aside0 (wc.heap[gb357]? = some (.cells #[.int .i64 t352, (.slice Ao37 t353.length co37)] 35 (0, 0))) ∧ Aside0 (Below w.heap.size w wc))
      case first =>
       have H := HC61.out
       clear HC61
       by_cases c71 : t364 < 0
       ·rw [if_pos c71] at H
        have c71b0 : decide (t364 < 0) = true := decide_eq_true c71
        clear c71
        (first | rw [c71b0] | (simp only [i64_w, i32_w]; rw [c71b0]) | skip)
        have H' := am H
        clear H
        go_wp2
        go_meet
        case rel => exact ⟨_, (true), (by first | rfl | (simp; done) | (simp [*]; done)), H', ⟨by have := HJ11.out; first | omega | exact Nat.le_refl _⟩, ⟨by (with_reducible repeat (first | apply Kd.R_alloc | apply Kd.R_drewN | apply Kd.R_drew)); exact Kd.R_mono HO_347001.out (fun _ hk => ⟨hk.1, hk.2.1⟩)⟩, ⟨by (with_reducible repeat (first | apply Kd.R_alloc | apply Kd.R_drewN | apply Kd.R_drew)); exact Kd.R_mono HO_352001.out (fun _ hk => ⟨hk.1.1, hk.1.2⟩)⟩, ⟨by (with_reducible repeat (first | apply Kd.R_alloc | apply Kd.R_drewN | apply Kd.R_drew)); exact Kd.R_mono HO_358001.out (fun _ hk => ⟨hk.1, hk.2.1⟩)⟩, ⟨bkS BK335.out⟩, ⟨bkS BK346.out⟩, ⟨bkS BK351.out⟩, ⟨bkS BK357.out⟩, ⟨by repeat (first | (with_reducible first | exact HB.out | apply below_alloc | apply pw_below_drewN | apply below_drew1 | refine below_set ?_ (Aside0.out (by assumption))) | exact HB.out)⟩⟩
       ·rw [if_neg c71] at H
        have c71b0 : decide (t364 < 0) = false := decide_eq_false c71
        clear c71
        (first | rw [c71b0] | (simp only [i64_w, i32_w]; rw [c71b0]) | skip)
        replace H := Option.bind_eq_some_iff.mp H
        obtain ⟨t366, A720, H⟩ := H
        replace H : (if t366 = true then (laws_FnExactDropClue.j1 kj11 a1 t345 (t356 != t345) a0_0 l0_1 t341 t342 t352 t353) else (laws_FnExactDropClue.j1 kj11 a1 t345 true a0_0 l0_1 t341 t342 t352 t353)) = some r := H
        have A72 := am A720
        clear A720
        by_cases c73 : t366 = true
        ·subst c73
         have H1 : (laws_FnExactDropClue.j1 kj11 a1 t345 (t356 != t345) a0_0 l0_1 t341 t342 t352 t353) = some r := by rw [if_pos rfl] at H; exact H
         clear H
         have H := H1
         clear H1
         have H' := am H
         clear H
         have hnb74 := NB357_335.out
         have hnc74 := NB335_357.out
         have hnb75 := NB357_346.out
         have hnc75 := NB346_357.out
         have hnb76 := NB357_351.out
         have hnc76 := NB351_357.out
         have hcz77_0 : w70.cell? ⟨gb357, 0, none⟩ = some (.int .i64 t352) := (blk_cell BK357.out 0).trans rfl
         have hcz77_1 : w70.cell? ⟨gb357, 1, none⟩ = some (.slice Ao37 t353.length co37) := (blk_cell BK357.out 1).trans rfl
         have hfz77_0 := blk_frozen BK357.out 0
         have hfz77_1 := blk_frozen BK357.out 1
         have hnb78 := NB346_335.out
         have hnc78 := NB335_346.out
         have hnb79 := NB346_351.out
         have hnc79 := NB351_346.out
         have hcz80_0 : w70.cell? ⟨gb346, 0, none⟩ = some (.int .i64 t341) := (blk_cell BK346.out 0).trans rfl
         have hcz80_1 : w70.cell? ⟨gb346, 1, none⟩ = some (.slice Ao23 t342.length co23) := (blk_cell BK346.out 1).trans rfl
         have hfz80_0 := blk_frozen BK346.out 0
         have hfz80_1 := blk_frozen BK346.out 1
         go_wp2_with (first | (go_at_call 14; (with_reducible refine (laws_eqPuzzle.calls kj11 t352 _ _ t353 t341 _ _ t342 true _ ?side1 ?side2 ?side3 ?side4 A72.out).mono ?_); (case side1 => repeat (first | exact (Kd.R_reads' HO_358001.out).2.2 | (with_reducible refine Kd.C_alloc ?_ _) | (with_reducible refine Kd.C_drewN ?_ _) | (with_reducible refine Kd.C_drew ?_))); (case side2 => exact (Kd.R_reads' HO_358001.out).2.1); (case side3 => repeat (first | exact (Kd.R_reads' HO_347001.out).2.2 | (with_reducible refine Kd.C_alloc ?_ _) | (with_reducible refine Kd.C_drewN ?_ _) | (with_reducible refine Kd.C_drew ?_))); (case side4 => exact (Kd.R_reads' HO_347001.out).2.1); rintro e w81 ⟨rfl, hb⟩; have n0_ := am (Kd.R_below (roS HO_347001.out) hb); have n1_ := am (Kd.R_below (roS HO_352001.out) hb); have n2_ := am (Kd.R_below (roS HO_358001.out) hb); have n3_ := am (Kd.R_below (roS HO362.out) hb); have n4_ := am (blk_below (bkS BK335.out) hb); have n5_ := am (blk_below (bkS BK346.out) hb); have n6_ := am (blk_below (bkS BK351.out) hb); have n7_ := am (blk_below (bkS BK357.out) hb); have n8_ := am (below_step (by repeat (first | (with_reducible first | exact HB.out | apply below_alloc | apply pw_below_drewN | apply below_drew1 | refine below_set ?_ (Aside0.out (by assumption))) | exact HB.out)) hb); clear HO_347001; clear HO_352001; clear HO_358001; clear HO362; clear BK335; clear BK346; clear BK351; clear BK357; clear HB; have HO_347001 := n0_; have HO_352001 := n1_; have HO_358001 := n2_; have HO362 := n3_; have BK335 := n4_; have BK346 := n5_; have BK351 := n6_; have BK357 := n7_; have HB := n8_; clear n0_ n1_ n2_ n3_ n4_ n5_ n6_ n7_ n8_; (try clear hb); (try clear hb2); (try clear hk); (try clear hi)))
         go_meet
         case rel => exact ⟨_, ((t356 != t345)), (by first | rfl | (simp; done) | (simp [*]; done)), H', ⟨by have := HJ11.out; first | omega | exact Nat.le_refl _⟩, ⟨by (with_reducible repeat (first | apply Kd.R_alloc | apply Kd.R_drewN | apply Kd.R_drew)); exact Kd.R_mono HO_347001.out (fun _ hk => ⟨hk.1, hk.2.1⟩)⟩, ⟨by (with_reducible repeat (first | apply Kd.R_alloc | apply Kd.R_drewN | apply Kd.R_drew)); exact Kd.R_mono HO_352001.out (fun _ hk => ⟨hk.1.1, hk.1.2⟩)⟩, ⟨by (with_reducible repeat (first | apply Kd.R_alloc | apply Kd.R_drewN | apply Kd.R_drew)); exact Kd.R_mono HO_358001.out (fun _ hk => ⟨hk.1, hk.2.1⟩)⟩, ⟨bkS BK335.out⟩, ⟨bkS BK346.out⟩, ⟨bkS BK351.out⟩, ⟨bkS BK357.out⟩, ⟨by repeat (first | (with_reducible first | exact HB.out | apply below_alloc | apply pw_below_drewN | apply below_drew1 | refine below_set ?_ (Aside0.out (by assumption))) | exact HB.out)⟩⟩
        ·replace c73 := Bool.eq_false_iff.mpr c73
         subst c73
         have H1 : (laws_FnExactDropClue.j1 kj11 a1 t345 true a0_0 l0_1 t341 t342 t352 t353) = some r := by rw [if_neg (show ¬ (false = true) by decide)] at H; exact H
         clear H
         have H := H1
         clear H1
         have H' := am H
         clear H
         have hnb82 := NB357_335.out
         have hnc82 := NB335_357.out
         have hnb83 := NB357_346.out
         have hnc83 := NB346_357.out
         have hnb84 := NB357_351.out
         have hnc84 := NB351_357.out
         have hcz85_0 : w70.cell? ⟨gb357, 0, none⟩ = some (.int .i64 t352) := (blk_cell BK357.out 0).trans rfl
         have hcz85_1 : w70.cell? ⟨gb357, 1, none⟩ = some (.slice Ao37 t353.length co37) := (blk_cell BK357.out 1).trans rfl
         have hfz85_0 := blk_frozen BK357.out 0
         have hfz85_1 := blk_frozen BK357.out 1
         have hnb86 := NB346_335.out
         have hnc86 := NB335_346.out
         have hnb87 := NB346_351.out
         have hnc87 := NB351_346.out
         have hcz88_0 : w70.cell? ⟨gb346, 0, none⟩ = some (.int .i64 t341) := (blk_cell BK346.out 0).trans rfl
         have hcz88_1 : w70.cell? ⟨gb346, 1, none⟩ = some (.slice Ao23 t342.length co23) := (blk_cell BK346.out 1).trans rfl
         have hfz88_0 := blk_frozen BK346.out 0
         have hfz88_1 := blk_frozen BK346.out 1
         go_wp2_with (first | (go_at_call 14; (with_reducible refine (laws_eqPuzzle.calls kj11 t352 _ _ t353 t341 _ _ t342 false _ ?side1 ?side2 ?side3 ?side4 A72.out).mono ?_); (case side1 => repeat (first | exact (Kd.R_reads' HO_358001.out).2.2 | (with_reducible refine Kd.C_alloc ?_ _) | (with_reducible refine Kd.C_drewN ?_ _) | (with_reducible refine Kd.C_drew ?_))); (case side2 => exact (Kd.R_reads' HO_358001.out).2.1); (case side3 => repeat (first | exact (Kd.R_reads' HO_347001.out).2.2 | (with_reducible refine Kd.C_alloc ?_ _) | (with_reducible refine Kd.C_drewN ?_ _) | (with_reducible refine Kd.C_drew ?_))); (case side4 => exact (Kd.R_reads' HO_347001.out).2.1); rintro e w89 ⟨rfl, hb⟩; have n0_ := am (Kd.R_below (roS HO_347001.out) hb); have n1_ := am (Kd.R_below (roS HO_352001.out) hb); have n2_ := am (Kd.R_below (roS HO_358001.out) hb); have n3_ := am (Kd.R_below (roS HO362.out) hb); have n4_ := am (blk_below (bkS BK335.out) hb); have n5_ := am (blk_below (bkS BK346.out) hb); have n6_ := am (blk_below (bkS BK351.out) hb); have n7_ := am (blk_below (bkS BK357.out) hb); have n8_ := am (below_step (by repeat (first | (with_reducible first | exact HB.out | apply below_alloc | apply pw_below_drewN | apply below_drew1 | refine below_set ?_ (Aside0.out (by assumption))) | exact HB.out)) hb); clear HO_347001; clear HO_352001; clear HO_358001; clear HO362; clear BK335; clear BK346; clear BK351; clear BK357; clear HB; have HO_347001 := n0_; have HO_352001 := n1_; have HO_358001 := n2_; have HO362 := n3_; have BK335 := n4_; have BK346 := n5_; have BK351 := n6_; have BK357 := n7_; have HB := n8_; clear n0_ n1_ n2_ n3_ n4_ n5_ n6_ n7_ n8_; (try clear hb); (try clear hb2); (try clear hk); (try clear hi)))
         go_meet
         case rel => exact ⟨_, (true), (by first | rfl | (simp; done) | (simp [*]; done)), H', ⟨by have := HJ11.out; first | omega | exact Nat.le_refl _⟩, ⟨by (with_reducible repeat (first | apply Kd.R_alloc | apply Kd.R_drewN | apply Kd.R_drew)); exact Kd.R_mono HO_347001.out (fun _ hk => ⟨hk.1, hk.2.1⟩)⟩, ⟨by (with_reducible repeat (first | apply Kd.R_alloc | apply Kd.R_drewN | apply Kd.R_drew)); exact Kd.R_mono HO_352001.out (fun _ hk => ⟨hk.1.1, hk.1.2⟩)⟩, ⟨by (with_reducible repeat (first | apply Kd.R_alloc | apply Kd.R_drewN | apply Kd.R_drew)); exact Kd.R_mono HO_358001.out (fun _ hk => ⟨hk.1, hk.2.1⟩)⟩, ⟨bkS BK335.out⟩, ⟨bkS BK346.out⟩, ⟨bkS BK351.out⟩, ⟨bkS BK357.out⟩, ⟨by repeat (first | (with_reducible first | exact HB.out | apply below_alloc | apply pw_below_drewN | apply below_drew1 | refine below_set ?_ (Aside0.out (by assumption))) | exact HB.out)⟩⟩
      case rest =>
       clear HC61
       try clear c1
       try clear c2
       try clear p2
       try clear c3
       try clear c4
       try clear c4b0
       try clear c5
       try clear c6
       try clear c7
       try clear c8
       try clear c10
       try clear c12
       try clear c14
       try clear c17
       try clear c19
       try clear c20
       try clear c21
       try clear c27
       try clear c28
       try clear c33
       try clear c34
       try clear c35
       try clear c39
       try clear c40
       try clear c41
       try clear c42
       try clear c44
       try clear c45
       try clear c48
       try clear c49
       try clear c50
       try clear c52
       try clear c53
       try clear c56
       try clear c59
       try clear c66
       try clear c67
       try clear c68
       try clear c71
       try clear c71b0
       try clear c73
       try clear c74
       try clear c75
       try clear c76
       try clear c78
       try clear c79
       try clear c82
       try clear c83
       try clear c84
       try clear c86
       try clear c87
       try clear hcz14_0
       try clear hcz14_1
       try clear hcz16_0
       try clear hcz16_1
       try clear hcz22_0
       try clear hcz22_1
       try clear hcz24_0
       try clear hcz24_1
       try clear hcz29_0
       try clear hcz29_1
       try clear hcz36_0
       try clear hcz36_1
       try clear hcz43_0
       try clear hcz43_1
       try clear hcz46_0
       try clear hcz46_1
       try clear hcz51_0
       try clear hcz51_1
       try clear hcz54_0
       try clear hcz54_1
       try clear hcz69_0
       try clear hcz69_1
       try clear hcz6_0
       try clear hcz6_1
       try clear hcz77_0
       try clear hcz77_1
       try clear hcz80_0
       try clear hcz80_1
       try clear hcz85_0
       try clear hcz85_1
       try clear hcz88_0
       try clear hcz88_1
       try clear hfz14_0
       try clear hfz14_1
       try clear hfz16_0
       try clear hfz16_1
       try clear hfz22_0
       try clear hfz22_1
       try clear hfz24_0
       try clear hfz24_1
       try clear hfz29_0
       try clear hfz29_1
       try clear hfz36_0
       try clear hfz36_1
       try clear hfz43_0
       try clear hfz43_1
       try clear hfz46_0
       try clear hfz46_1
       try clear hfz51_0
       try clear hfz51_1
       try clear hfz54_0
       try clear hfz54_1
       try clear hfz69_0
       try clear hfz69_1
       try clear hfz6_0
       try clear hfz6_1
       try clear hfz77_0
       try clear hfz77_1
       try clear hfz80_0
       try clear hfz80_1
       try clear hfz85_0
       try clear hfz85_1
       try clear hfz88_0
       try clear hfz88_1
       try clear p2
       obtain ⟨kq, x65_60, rfl, HA, HJ60, HO_347001, HO_352001, HO_358001, BK335, BK346, BK351, BK357, HB⟩ := hcut
       have hl352001_60 := (Kd.R_reads' HO_352001.out).1
       rw [hl352001_60] at HO_352001
       (try simp only [hl352001_60])
       (try simp only [hl352001_60] at BK335)
       (try simp only [hl352001_60] at BK346)
       (try simp only [hl352001_60] at BK351)
       (try simp only [hl352001_60] at BK357)
       (try simp only [hl352001_60] at HO_347001)
       (try simp only [hl352001_60] at HO_358001)
       cases kq with
       | zero => exact absurd HA.out (by simp [laws_FnExactDropClue.j1])
       | succ kj60 =>
        have H := HA.out
        clear HA
        simp only [laws_FnExactDropClue.j1] at H
        by_cases c90 : x65_60 = true
        ·subst c90
         have H1 : (none) = some r := by rw [if_pos rfl] at H; exact H
         clear H
         have H := H1
         clear H1
         exact absurd H (by simp)
        ·replace c90 := Bool.eq_false_iff.mpr c90
         subst c90
         have H1 : ((laws_markPuzzle.f kj60 t352 t353 1).bind fun bt367 => ((laws_heldPuzzle.f kj60 t352 bt367.2 1).bind fun t369 => (if t369 < 0 then (none) else (if t369 = bt367.1 then ((laws_toPuzzle.f kj60 a0_0 l0_1).bind fun bt370 => ((impl_DropClue.f kj60 bt370.1 bt370.2 a1).bind fun bt374 => ((laws_eqPuzzle.f kj60 bt374.1 bt374.2.1 t341 t342).bind fun t380 => (if t380 = true then (laws_FnExactDropClue.j2 kj60 bt367.1 (bt374.2.2 != t345) t352 bt367.2) else (laws_FnExactDropClue.j2 kj60 bt367.1 true t352 bt367.2))))) else (none))))) = some r := by rw [if_neg (show ¬ (false = true) by decide)] at H; exact H
         clear H
         have H := H1
         clear H1
         replace H := Option.bind_eq_some_iff.mp H
         obtain ⟨⟨t367, t368⟩, A910, H⟩ := H
         replace H : ((laws_heldPuzzle.f kj60 t352 t368 1).bind fun t369 => (if t369 < 0 then (none) else (if t369 = t367 then ((laws_toPuzzle.f kj60 a0_0 l0_1).bind fun bt370 => ((impl_DropClue.f kj60 bt370.1 bt370.2 a1).bind fun bt374 => ((laws_eqPuzzle.f kj60 bt374.1 bt374.2.1 t341 t342).bind fun t380 => (if t380 = true then (laws_FnExactDropClue.j2 kj60 t367 (bt374.2.2 != t345) t352 t368) else (laws_FnExactDropClue.j2 kj60 t367 true t352 t368))))) else (none)))) = some r := H
         have A91 := am A910
         clear A910
         replace H := Option.bind_eq_some_iff.mp H
         obtain ⟨t369, A920, H⟩ := H
         replace H : (if t369 < 0 then (none) else (if t369 = t367 then ((laws_toPuzzle.f kj60 a0_0 l0_1).bind fun bt370 => ((impl_DropClue.f kj60 bt370.1 bt370.2 a1).bind fun bt374 => ((laws_eqPuzzle.f kj60 bt374.1 bt374.2.1 t341 t342).bind fun t380 => (if t380 = true then (laws_FnExactDropClue.j2 kj60 t367 (bt374.2.2 != t345) t352 t368) else (laws_FnExactDropClue.j2 kj60 t367 true t352 t368))))) else (none))) = some r := H
         have A92 := am A920
         clear A920
         by_cases c93 : t369 < 0
         ·rw [if_pos c93] at H
          exact absurd H (by simp)
         ·rw [if_neg c93] at H
          have c93b0 : decide (t369 < 0) = false := decide_eq_false c93
          clear c93
          by_cases c94 : t369 = t367
          ·rw [if_pos c94] at H
           have c94b0 : (t369 == t367) = true := beq_iff_eq.mpr c94
           have c94b1 : (t369 != t367) = false := bne_eq_false_iff_eq.mpr c94
           clear c94
           replace H := Option.bind_eq_some_iff.mp H
           obtain ⟨⟨t370, t371⟩, A950, H⟩ := H
           replace H : ((impl_DropClue.f kj60 t370 t371 a1).bind fun bt374 => ((laws_eqPuzzle.f kj60 bt374.1 bt374.2.1 t341 t342).bind fun t380 => (if t380 = true then (laws_FnExactDropClue.j2 kj60 t367 (bt374.2.2 != t345) t352 t368) else (laws_FnExactDropClue.j2 kj60 t367 true t352 t368)))) = some r := H
           have A95 := am A950
           clear A950
           replace H := Option.bind_eq_some_iff.mp H
           obtain ⟨⟨t374, t375, t378⟩, A960, H⟩ := H
           replace H : ((laws_eqPuzzle.f kj60 t374 t375 t341 t342).bind fun t380 => (if t380 = true then (laws_FnExactDropClue.j2 kj60 t367 (t378 != t345) t352 t368) else (laws_FnExactDropClue.j2 kj60 t367 true t352 t368))) = some r := H
           have A96 := am A960
           clear A960
           have HC97 := am H
           clear H
           have hnb98 := NB357_335.out
           have hnc98 := NB335_357.out
           have hnb99 := NB357_346.out
           have hnc99 := NB346_357.out
           have hnb100 := NB357_351.out
           have hnc100 := NB351_357.out
           have hcz101_0 : wc.cell? ⟨gb357, 0, none⟩ = some (.int .i64 t352) := (blk_cell BK357.out 0).trans rfl
           have hcz101_1 : wc.cell? ⟨gb357, 1, none⟩ = some (.slice Ao37 t353.length co37) := (blk_cell BK357.out 1).trans rfl
           have hfz101_0 := blk_frozen BK357.out 0
           have hfz101_1 := blk_frozen BK357.out 1
           go_upto_region 25 with (first | ((with_reducible refine gate_callee (f := 17) rfl ?_); refine goesL_ (some 68) rfl rfl Try.func17 (by kernel_rfl) rfl #[.agg #[.int .i64 t352, .slice Ao37 t353.length co37], .int .i64 1] rfl (by (try simp only [List.map_toArray, List.map_cons, List.map_nil]); first | done | rfl | (simp only [List.length_drop, List.length_take]; rfl)) ?_; (with_reducible refine (laws_markPuzzle.calls kj60 t352 (fun k_ => some k_ = (.slice Ao37 t353.length co37 : Value).ownBlock) (.slice Ao37 t353.length co37) t353 1 t367 t368 w _ ?side1 ?side2 A91.out).mono ?_); (case side1 => repeat (first | (with_reducible first | exact HB.out | apply below_alloc | apply pw_below_drewN | apply below_drew1 | refine below_set ?_ (Aside0.out (by assumption))) | exact HB.out)); (case side2 => exact Kd.R_tight rfl HO_358001.out); rintro e w102 ⟨rfl, hy0, hb, hkp⟩; refine ⟨_, rfl, ?_⟩; have n0_ := am (Kd.R_mono (ok' := fun k_ => some k_ ≠ (.slice Ao30 t365.length co30 : Value).ownBlock ∧ some k_ ≠ (.slice Ao37 t353.length co37 : Value).ownBlock) (Kd.R_keptB (HO_347001.out) hkp (fun k_ hk_ hs_ => (hk_.2) hs_)) (fun k_ hk_ => ⟨hk_.1.1, hk_.1.2⟩)); have n1_ := am (Kd.R_mono (ok' := fun k_ => some k_ ≠ (.slice Ao23 t342.length co23 : Value).ownBlock ∧ some k_ ≠ (.slice Ao37 t353.length co37 : Value).ownBlock) (Kd.R_keptB (HO_352001.out) hkp (fun k_ hk_ hs_ => (hk_.2) hs_)) (fun k_ hk_ => ⟨hk_.1.1, hk_.1.2⟩)); have n2_ := am (Kd.R_reok rfl hy0 (fun k_ e_ => HO_358001.out.1 k_ e_)); have n3_ := am (blk_kept (bkS BK335.out) hkp (fun hs_ => (fun e_ => (Kd.R_ne HO_358001.out BK335.out (by decide)) e_) hs_)); have n4_ := am (blk_kept (bkS BK346.out) hkp (fun hs_ => (fun e_ => (Kd.R_ne HO_358001.out BK346.out (by decide)) e_) hs_)); have n5_ := am (blk_kept (bkS BK351.out) hkp (fun hs_ => (fun e_ => (Kd.R_ne HO_358001.out BK351.out (by decide)) e_) hs_)); have n6_ := am (blk_kept (bkS BK357.out) hkp (fun hs_ => (fun e_ => (Kd.R_ne HO_358001.out BK357.out (by decide)) e_) hs_)); have n7_ := am (hb); clear HO_347001; clear HO_352001; clear HO_358001; clear BK335; clear BK346; clear BK351; clear BK357; clear HB; have HO_347001 := n0_; have HO_352001 := n1_; have HO_358001 := n2_; have BK335 := n3_; have BK346 := n4_; have BK351 := n5_; have BK357 := n6_; have HB := n7_; clear n0_ n1_ n2_ n3_ n4_ n5_ n6_ n7_; (try clear hb); (try clear hkp); (try clear hy0); have hcz103_0 : w102.cell? ⟨gb357, 0, none⟩ = some (.int .i64 t352) := (blk_cell BK357.out 0).trans rfl; have hcz103_1 : w102.cell? ⟨gb357, 1, none⟩ = some (.slice Ao37 t353.length co37) := (blk_cell BK357.out 1).trans rfl; have hfz103_0 := blk_frozen BK357.out 0; have hfz103_1 := blk_frozen BK357.out 1) | ((with_reducible refine gate_callee (f := 18) rfl ?_); refine goesL_ (some 71) rfl rfl Try.func18 (by kernel_rfl) rfl #[.agg #[.int .i64 t352, .slice Ao37 t368.length co37], .int .i64 1] rfl (by (try simp only [List.map_toArray, List.map_cons, List.map_nil]); first | done | (rw [show t368.length = t353.length from (Kd.R_reads' HO_358001.out).1.symm] <;> rfl) | rfl | (simp only [List.length_drop, List.length_take]; rfl)) ?_; (with_reducible refine (laws_heldPuzzle.calls kj60 t352 _ _ t368 1 t369 _ ?side1 ?side2 A92.out).mono ?_); (case side1 => repeat (first | exact (Kd.R_reads' HO_358001.out).2.2 | (with_reducible refine Kd.C_alloc ?_ _) | (with_reducible refine Kd.C_drewN ?_ _) | (with_reducible refine Kd.C_drew ?_))); (case side2 => rw [show t368.length = t353.length from (Kd.R_reads' HO_358001.out).1.symm]; exact (Kd.R_reads' HO_358001.out).2.1); rintro e w104 ⟨rfl, hb⟩; refine ⟨_, rfl, ?_⟩; have n0_ := am (Kd.R_below (roS HO_347001.out) hb); have n1_ := am (Kd.R_below (roS HO_352001.out) hb); have n2_ := am (Kd.R_below (roS HO_358001.out) hb); have n3_ := am (blk_below (bkS BK335.out) hb); have n4_ := am (blk_below (bkS BK346.out) hb); have n5_ := am (blk_below (bkS BK351.out) hb); have n6_ := am (blk_below (bkS BK357.out) hb); have n7_ := am (below_step (by repeat (first | (with_reducible first | exact HB.out | apply below_alloc | apply pw_below_drewN | apply below_drew1 | refine below_set ?_ (Aside0.out (by assumption))) | exact HB.out)) hb); clear HO_347001; clear HO_352001; clear HO_358001; clear BK335; clear BK346; clear BK351; clear BK357; clear HB; have HO_347001 := n0_; have HO_352001 := n1_; have HO_358001 := n2_; have BK335 := n3_; have BK346 := n4_; have BK351 := n5_; have BK357 := n6_; have HB := n7_; clear n0_ n1_ n2_ n3_ n4_ n5_ n6_ n7_; (try clear hb); (try clear hb2); (try clear hk); (try clear hi); have hnb105 := NB335_346.out; have hnc105 := NB346_335.out; have hnb106 := NB335_351.out; have hnc106 := NB351_335.out; have hcz107_0 : w104.cell? ⟨gb335, 0, none⟩ = some (.int .i64 a0_0) := (blk_cell BK335.out 0).trans rfl; have hcz107_1 : w104.cell? ⟨gb335, 1, none⟩ = some (.slice A0_1 l0_1.length c0_1) := (blk_cell BK335.out 1).trans rfl; have hfz107_0 := blk_frozen BK335.out 0; have hfz107_1 := blk_frozen BK335.out 1) | ((with_reducible refine gate_callee (f := 12) rfl ?_); refine goesL_ (some 79) rfl rfl Try.func12 (by kernel_rfl) rfl #[.agg #[.int .i64 a0_0, .slice A0_1 l0_1.length c0_1]] rfl (by (try simp only [List.map_toArray, List.map_cons, List.map_nil]); first | done | rfl | (simp only [List.length_drop, List.length_take]; rfl)) ?_; (with_reducible refine (laws_toPuzzle.calls kj60 a0_0 _ _ l0_1 t370 t371 _ ?side1 ?side2 A95.out).mono ?_); (case side1 => repeat (first | exact (Kd.C_below HR0_1.out HB.out) | (with_reducible refine Kd.C_alloc ?_ _) | (with_reducible refine Kd.C_drewN ?_ _) | (with_reducible refine Kd.C_drew ?_))); (case side2 => exact HC0_1.out); rintro e w108 ⟨v372, rfl, ho0, hb⟩; refine ⟨_, rfl, ?_⟩; have n0_ := am (Kd.R_elder' (roS HO_347001.out) (Kd.R_base ho0) hb); have n1_ := am (Kd.R_elder' (roS HO_352001.out) (Kd.R_base ho0) hb); have n2_ := am (Kd.R_elder' (roS HO_358001.out) (Kd.R_base ho0) hb); have n3_ := am (Kd.R_lower (Kd.R_new' (Kd.R_new' (Kd.R_new' ho0 (Kd.R_lt (roS HO_347001.out))) (Kd.R_lt (roS HO_352001.out))) (Kd.R_lt (roS HO_358001.out))) (below_size (by repeat (first | (with_reducible first | exact HB.out | apply below_alloc | apply pw_below_drewN | apply below_drew1 | refine below_set ?_ (Aside0.out (by assumption))) | exact HB.out)))); have n4_ := am (blk_below (bkS BK335.out) hb); have n5_ := am (blk_below (bkS BK346.out) hb); have n6_ := am (blk_below (bkS BK351.out) hb); have n7_ := am (blk_below (bkS BK357.out) hb); have n8_ := am (below_step (by repeat (first | (with_reducible first | exact HB.out | apply below_alloc | apply pw_below_drewN | apply below_drew1 | refine below_set ?_ (Aside0.out (by assumption))) | exact HB.out)) hb); clear HO_347001; clear HO_352001; clear HO_358001; clear BK335; clear BK346; clear BK351; clear BK357; clear HB; have HO_347001 := n0_; have HO_352001 := n1_; have HO_358001 := n2_; have HO373 := n3_; have BK335 := n4_; have BK346 := n5_; have BK351 := n6_; have BK357 := n7_; have HB := n8_; clear n0_ n1_ n2_ n3_ n4_ n5_ n6_ n7_ n8_; (try clear hb); (try clear hb2); (try clear hk); (try clear hi); (try clear ho0); obtain ⟨Ao109, co109, eo109⟩ := Kd.R_slice HO373.out; subst eo109) | ((with_reducible refine gate_callee (f := 20) rfl ?_); refine goesL_ (some 81) rfl rfl Try.func20 (by kernel_rfl) rfl #[.agg #[.int .i64 t370, .slice Ao109 t371.length co109], .int .i64 a1] rfl (by (try simp only [List.map_toArray, List.map_cons, List.map_nil]); first | done | rfl | (simp only [List.length_drop, List.length_take]; rfl)) ?_; (with_reducible refine (impl_DropClue.calls kj60 t370 _ _ t371 a1 t374 t375 t378 _ ?side1 ?side2 A96.out).mono ?_); (case side1 => repeat (first | exact (Kd.R_reads' HO373.out).2.2 | (with_reducible refine Kd.C_alloc ?_ _) | (with_reducible refine Kd.C_drewN ?_ _) | (with_reducible refine Kd.C_drew ?_))); (case side2 => exact (Kd.R_reads' HO373.out).2.1); rintro e w110 ⟨v376, rfl, ho0, hb⟩; refine ⟨_, rfl, ?_⟩; have n0_ := am (Kd.R_elder' (roS HO_347001.out) (Kd.R_base ho0) hb); have n1_ := am (Kd.R_elder' (roS HO_352001.out) (Kd.R_base ho0) hb); have n2_ := am (Kd.R_elder' (roS HO_358001.out) (Kd.R_base ho0) hb); have n3_ := am (Kd.R_elder' (roS HO373.out) (Kd.R_base ho0) hb); have n4_ := am (Kd.R_lower (Kd.R_new' (Kd.R_new' (Kd.R_new' (Kd.R_new' ho0 (Kd.R_lt (roS HO_347001.out))) (Kd.R_lt (roS HO_352001.out))) (Kd.R_lt (roS HO_358001.out))) (Kd.R_lt (roS HO373.out))) (below_size (by repeat (first | (with_reducible first | exact HB.out | apply below_alloc | apply pw_below_drewN | apply below_drew1 | refine below_set ?_ (Aside0.out (by assumption))) | exact HB.out)))); have n5_ := am (blk_below (bkS BK335.out) hb); have n6_ := am (blk_below (bkS BK346.out) hb); have n7_ := am (blk_below (bkS BK351.out) hb); have n8_ := am (blk_below (bkS BK357.out) hb); have n9_ := am (below_step (by repeat (first | (with_reducible first | exact HB.out | apply below_alloc | apply pw_below_drewN | apply below_drew1 | refine below_set ?_ (Aside0.out (by assumption))) | exact HB.out)) hb); clear HO_347001; clear HO_352001; clear HO_358001; clear HO373; clear BK335; clear BK346; clear BK351; clear BK357; clear HB; have HO_347001 := n0_; have HO_352001 := n1_; have HO_358001 := n2_; have HO373 := n3_; have HO377 := n4_; have BK335 := n5_; have BK346 := n6_; have BK351 := n7_; have BK357 := n8_; have HB := n9_; clear n0_ n1_ n2_ n3_ n4_ n5_ n6_ n7_ n8_ n9_; (try clear hb); (try clear hb2); (try clear hk); (try clear hi); (try clear ho0)) | ((with_reducible refine gate_dst (N := 14) rfl ?_); refine box_event ?hg (N := 14) ?hd (cs := #[.int .i64 0, .slice none 0 0]) (t := 35) ?hr ?_; (case hd => rfl); (case hg => rfl); (case hr => first | (go_simp; done) | (go_simp; rfl)); intro gb379 hg w111 hbox hb; have n0_ := am (Kd.R_below (roS HO_347001.out) hb); have n1_ := am (Kd.R_below (roS HO_352001.out) hb); have n2_ := am (Kd.R_below (roS HO_358001.out) hb); have n3_ := am (Kd.R_below (roS HO373.out) hb); have n4_ := am (Kd.R_below (roS HO377.out) hb); have n5_ := am (blk_below (bkS BK335.out) hb); have n6_ := am (blk_below (bkS BK346.out) hb); have n7_ := am (blk_below (bkS BK351.out) hb); have n8_ := am (blk_below (bkS BK357.out) hb); have n9_ := am (below_step (by repeat (first | (with_reducible first | exact HB.out | apply below_alloc | apply pw_below_drewN | apply below_drew1 | refine below_set ?_ (Aside0.out (by assumption))) | exact HB.out)) hb); have n10_ := am (hbox); have n11_ := am ((by rw [hg]; exact (below_size (by repeat (first | (with_reducible first | exact HB.out | apply below_alloc | apply pw_below_drewN | apply below_drew1 | refine below_set ?_ (Aside0.out (by assumption))) | exact HB.out))) : w.heap.size ≤ gb379)); have n12_ := am ((by rw [hg]; exact (below_size (by repeat (first | (with_reducible first | exact HB.out | apply below_alloc | apply pw_below_drewN | apply below_drew1 | refine below_set ?_ (Aside0.out (by assumption))) | exact HB.out))) : w.heap.size ≤ gb379)); have n13_ := am (nbL (bkS BK335.out) hg); have n14_ := am (nbG (bkS BK335.out) hg); have n15_ := am (nbL (bkS BK346.out) hg); have n16_ := am (nbG (bkS BK346.out) hg); have n17_ := am (nbL (bkS BK351.out) hg); have n18_ := am (nbG (bkS BK351.out) hg); have n19_ := am (nbL (bkS BK357.out) hg); have n20_ := am (nbG (bkS BK357.out) hg); clear HO_347001; clear HO_352001; clear HO_358001; clear HO373; clear HO377; clear BK335; clear BK346; clear BK351; clear BK357; clear HB; have HO_347001 := n0_; have HO_352001 := n1_; have HO_358001 := n2_; have HO373 := n3_; have HO377 := n4_; have BK335 := n5_; have BK346 := n6_; have BK351 := n7_; have BK357 := n8_; have HB := n9_; have BK379 := n10_; have GW379 := n11_; have GE379 := n12_; have NB335_379 := n13_; have NB379_335 := n14_; have NB346_379 := n15_; have NB379_346 := n16_; have NB351_379 := n17_; have NB379_351 := n18_; have NB357_379 := n19_; have NB379_357 := n20_; clear n0_ n1_ n2_ n3_ n4_ n5_ n6_ n7_ n8_ n9_ n10_ n11_ n12_ n13_ n14_ n15_ n16_ n17_ n18_ n19_ n20_; clear hb hbox hg; have hnb112 := NB379_335.out; have hnc112 := NB335_379.out; have hnb113 := NB379_346.out; have hnc113 := NB346_379.out; have hnb114 := NB379_351.out; have hnc114 := NB351_379.out; have hnb115 := NB379_357.out; have hnc115 := NB357_379.out; have hcz116_0 : w111.cell? ⟨gb379, 0, none⟩ = some (.int .i64 0) := (blk_cell BK379.out 0).trans rfl; have hcz116_1 : w111.cell? ⟨gb379, 1, none⟩ = some (.slice none 0 0) := (blk_cell BK379.out 1).trans rfl; have hfz116_0 := blk_frozen BK379.out 0; have hfz116_1 := blk_frozen BK379.out 1; obtain ⟨Ao117, co117, eo117⟩ := Kd.R_slice HO377.out; subst eo117))
           (try simp only [Act.put, List.setIfInBounds_toArray, List.set_cons_zero, List.set_cons_succ])
           go_cut [92] (fun v92 wc => ∃ (kq : Nat) (x92_96 : Bool), v92 = .bool x92_96 ∧ Aside0 (laws_FnExactDropClue.j2 kq t367 x92_96 t352 t368 = some r) ∧ Aside0 (kq ≤ kj60) ∧ Aside0 (Kd.R k25 25 wc w.heap.size (fun k_ => some k_ ≠ ((.slice Ao30 t365.length co30) : Value).ownBlock ∧ some k_ ≠ ((.slice Ao37 t353.length co37) : Value).ownBlock ∧ some k_ ≠ ((.slice Ao117 t375.length co117) : Value).ownBlock) (.slice Ao23 t342.length co23) t342) ∧ Aside0 (Kd.R k25 25 wc w.heap.size (fun k_ => some k_ ≠ ((.slice Ao23 t342.length co23) : Value).ownBlock ∧ some k_ ≠ ((.slice Ao37 t353.length co37) : Value).ownBlock ∧ some k_ ≠ ((.slice Ao117 t375.length co117) : Value).ownBlock) (.slice Ao30 t365.length co30) t365) ∧ Aside0 (Kd.R k25 25 wc w.heap.size (fun k_ => some k_ ≠ ((.slice Ao23 t342.length co23) : Value).ownBlock ∧ some k_ ≠ ((.slice Ao30 t365.length co30) : Value).ownBlock ∧ some k_ ≠ ((.slice Ao117 t375.length co117) : Value).ownBlock) (.slice Ao37 t353.length co37) t368) ∧ Aside0 (Kd.R k25 25 wc w.heap.size (fun k_ => some k_ ≠ ((.slice Ao23 t342.length co23) : Value).ownBlock ∧ some k_ ≠ ((.slice Ao30 t365.length co30) : Value).ownBlock ∧ some k_ ≠ ((.slice Ao37 t353.length co37) : Value).ownBlock) (.slice Ao117 t375.length co117) t375) ∧ Aside0 (wc.heap[gb335]? = some (.cells #[.int .i64 a0_0, (.slice A0_1 l0_1.length c0_1)] 30 (0, 0))) ∧ Aside0 (wc.heap[gb346]? = some (.cells #[.int .i64 t341, (.slice Ao23 t342.length co23)] 35 (0, 0))) ∧ Aside0 (wc.heap[gb351]? = some (.cells #[.int .i64 t347, (.slice Ao30 t365.length co30)] 35 (0, 0))) ∧ Aside0 (wc.heap[gb357]? = some (.cells #[.int .i64 t352, (.slice Ao37 t353.length co37)] 35 (0, 0))) ∧ Aside0 (wc.heap[gb379]? = some (.cells #[.int .i64 t374, (.slice Ao117 t375.length co117)] 35 (0, 0))) ∧ Aside0 (Below w.heap.size w wc))
           case first =>
            have H := HC97.out
            clear HC97
            replace H := Option.bind_eq_some_iff.mp H
            obtain ⟨t380, A1180, H⟩ := H
            replace H : (if t380 = true then (laws_FnExactDropClue.j2 kj60 t367 (t378 != t345) t352 t368) else (laws_FnExactDropClue.j2 kj60 t367 true t352 t368)) = some r := H
            have A118 := am A1180
            clear A1180
            by_cases c119 : t380 = true
            ·subst c119
             have H1 : (laws_FnExactDropClue.j2 kj60 t367 (t378 != t345) t352 t368) = some r := by rw [if_pos rfl] at H; exact H
             clear H
             have H := H1
             clear H1
             have H' := am H
             clear H
             have hnb120 := NB379_335.out
             have hnc120 := NB335_379.out
             have hnb121 := NB379_346.out
             have hnc121 := NB346_379.out
             have hnb122 := NB379_351.out
             have hnc122 := NB351_379.out
             have hnb123 := NB379_357.out
             have hnc123 := NB357_379.out
             have hcz124_0 : w111.cell? ⟨gb379, 0, none⟩ = some (.int .i64 0) := (blk_cell BK379.out 0).trans rfl
             have hcz124_1 : w111.cell? ⟨gb379, 1, none⟩ = some (.slice none 0 0) := (blk_cell BK379.out 1).trans rfl
             have hfz124_0 := blk_frozen BK379.out 0
             have hfz124_1 := blk_frozen BK379.out 1
             have hnb125 := NB346_335.out
             have hnc125 := NB335_346.out
             have hnb126 := NB346_351.out
             have hnc126 := NB351_346.out
             have hnb127 := NB346_357.out
             have hnc127 := NB357_346.out
             have hcz128_0 : w111.cell? ⟨gb346, 0, none⟩ = some (.int .i64 t341) := (blk_cell BK346.out 0).trans rfl
             have hcz128_1 : w111.cell? ⟨gb346, 1, none⟩ = some (.slice Ao23 t342.length co23) := (blk_cell BK346.out 1).trans rfl
             have hfz128_0 := blk_frozen BK346.out 0
             have hfz128_1 := blk_frozen BK346.out 1
             go_wp2_with (first | ((with_reducible refine gate_callee (f := 14) rfl ?_); refine goesL_ (some 86) rfl rfl Try.func14 (by kernel_rfl) rfl #[.agg #[.int .i64 t374, .slice Ao117 t375.length co117], .agg #[.int .i64 t341, .slice Ao23 t342.length co23]] rfl (by (try simp only [List.map_toArray, List.map_cons, List.map_nil]); first | done | rfl | (simp only [List.length_drop, List.length_take]; rfl)) ?_; (with_reducible refine (laws_eqPuzzle.calls kj60 t374 _ _ t375 t341 _ _ t342 true _ ?side1 ?side2 ?side3 ?side4 A118.out).mono ?_); (case side1 => refine (Kd.R_reads' (e := 25) (base := w.heap.size) (ok := fun k_ => ((((True ∧ some k_ ≠ (.slice Ao23 t342.length co23 : Value).ownBlock) ∧ some k_ ≠ (.slice Ao30 t365.length co30 : Value).ownBlock) ∧ some k_ ≠ (.slice Ao37 t353.length co37 : Value).ownBlock) ∧ some k_ ≠ (.slice Ao109 t371.length co109 : Value).ownBlock)) (n := t375.length) (c := co117) ?_).2.2; exact (by (with_reducible repeat (first | apply Kd.R_alloc | apply Kd.R_drewN | apply Kd.R_drew)); exact (Kd.R_mono (Kd.R_far (p := ⟨gb379, 1, none⟩) (Kd.R_far (p := ⟨gb379, 0, none⟩) (Kd.R_types HO377.out BK379.out (by decide)) (fun _ hk => hk.2) (.int .i64 t374)) (fun _ hk => hk.2) (.slice Ao117 t375.length co117)) (fun _ h_ => h_.1)))); (case side2 => exact (Kd.R_reads' HO377.out).2.1); (case side3 => refine (Kd.R_reads' (e := 25) (base := w.heap.size) (ok := fun k_ => (((some k_ ≠ (.slice Ao30 t365.length co30 : Value).ownBlock ∧ some k_ ≠ (.slice Ao37 t353.length co37 : Value).ownBlock) ∧ some k_ ≠ (.slice Ao109 t371.length co109 : Value).ownBlock) ∧ some k_ ≠ (.slice Ao117 t375.length co117 : Value).ownBlock)) (n := t342.length) (c := co23) ?_).2.2; exact (by (with_reducible repeat (first | apply Kd.R_alloc | apply Kd.R_drewN | apply Kd.R_drew)); exact (Kd.R_mono (Kd.R_far (p := ⟨gb379, 1, none⟩) (Kd.R_far (p := ⟨gb379, 0, none⟩) (Kd.R_types HO_347001.out BK379.out (by decide)) (fun _ hk => hk.2) (.int .i64 t374)) (fun _ hk => hk.2) (.slice Ao117 t375.length co117)) (fun _ h_ => h_.1)))); (case side4 => exact (Kd.R_reads' HO_347001.out).2.1); rintro e w129 ⟨rfl, hb⟩; refine ⟨_, rfl, ?_⟩; have n0_ := am (Kd.R_below (by (with_reducible repeat (first | apply Kd.R_alloc | apply Kd.R_drewN | apply Kd.R_drew)); exact (Kd.R_mono (Kd.R_far (p := ⟨gb379, 1, none⟩) (Kd.R_far (p := ⟨gb379, 0, none⟩) (Kd.R_types HO_347001.out BK379.out (by decide)) (fun _ hk => hk.2) (.int .i64 t374)) (fun _ hk => hk.2) (.slice Ao117 t375.length co117)) (fun _ h_ => h_.1))) hb); have n1_ := am (Kd.R_below (by (with_reducible repeat (first | apply Kd.R_alloc | apply Kd.R_drewN | apply Kd.R_drew)); exact (Kd.R_mono (Kd.R_far (p := ⟨gb379, 1, none⟩) (Kd.R_far (p := ⟨gb379, 0, none⟩) (Kd.R_types HO_352001.out BK379.out (by decide)) (fun _ hk => hk.2) (.int .i64 t374)) (fun _ hk => hk.2) (.slice Ao117 t375.length co117)) (fun _ h_ => h_.1))) hb); have n2_ := am (Kd.R_below (by (with_reducible repeat (first | apply Kd.R_alloc | apply Kd.R_drewN | apply Kd.R_drew)); exact (Kd.R_mono (Kd.R_far (p := ⟨gb379, 1, none⟩) (Kd.R_far (p := ⟨gb379, 0, none⟩) (Kd.R_types HO_358001.out BK379.out (by decide)) (fun _ hk => hk.2) (.int .i64 t374)) (fun _ hk => hk.2) (.slice Ao117 t375.length co117)) (fun _ h_ => h_.1))) hb); have n3_ := am (Kd.R_below (by (with_reducible repeat (first | apply Kd.R_alloc | apply Kd.R_drewN | apply Kd.R_drew)); exact (Kd.R_mono (Kd.R_far (p := ⟨gb379, 1, none⟩) (Kd.R_far (p := ⟨gb379, 0, none⟩) (Kd.R_types HO373.out BK379.out (by decide)) (fun _ hk => hk.2) (.int .i64 t374)) (fun _ hk => hk.2) (.slice Ao117 t375.length co117)) (fun _ h_ => h_.1))) hb); have n4_ := am (Kd.R_below (by (with_reducible repeat (first | apply Kd.R_alloc | apply Kd.R_drewN | apply Kd.R_drew)); exact (Kd.R_mono (Kd.R_far (p := ⟨gb379, 1, none⟩) (Kd.R_far (p := ⟨gb379, 0, none⟩) (Kd.R_types HO377.out BK379.out (by decide)) (fun _ hk => hk.2) (.int .i64 t374)) (fun _ hk => hk.2) (.slice Ao117 t375.length co117)) (fun _ h_ => h_.1))) hb); have n5_ := am (blk_below (g := gb335) (o := .cells #[.int .i64 a0_0, .slice A0_1 l0_1.length c0_1] 30 (0, 0)) (by (with_reducible repeat (first | refine blk_drewN ?_ _ | refine blk_drew ?_ | refine blk_alloc ?_ _)); refine blk_far ?_ NB335_379.out _; (with_reducible repeat (first | refine blk_drewN ?_ _ | refine blk_drew ?_ | refine blk_alloc ?_ _)); refine blk_far ?_ NB335_379.out _; (with_reducible repeat (first | refine blk_drewN ?_ _ | refine blk_drew ?_ | refine blk_alloc ?_ _)); exact BK335.out) hb); have n6_ := am (blk_below (g := gb346) (o := .cells #[.int .i64 t341, .slice Ao23 t342.length co23] 35 (0, 0)) (by (with_reducible repeat (first | refine blk_drewN ?_ _ | refine blk_drew ?_ | refine blk_alloc ?_ _)); refine blk_far ?_ NB346_379.out _; (with_reducible repeat (first | refine blk_drewN ?_ _ | refine blk_drew ?_ | refine blk_alloc ?_ _)); refine blk_far ?_ NB346_379.out _; (with_reducible repeat (first | refine blk_drewN ?_ _ | refine blk_drew ?_ | refine blk_alloc ?_ _)); exact BK346.out) hb); have n7_ := am (blk_below (g := gb351) (o := .cells #[.int .i64 t347, .slice Ao30 t365.length co30] 35 (0, 0)) (by (with_reducible repeat (first | refine blk_drewN ?_ _ | refine blk_drew ?_ | refine blk_alloc ?_ _)); refine blk_far ?_ NB351_379.out _; (with_reducible repeat (first | refine blk_drewN ?_ _ | refine blk_drew ?_ | refine blk_alloc ?_ _)); refine blk_far ?_ NB351_379.out _; (with_reducible repeat (first | refine blk_drewN ?_ _ | refine blk_drew ?_ | refine blk_alloc ?_ _)); exact BK351.out) hb); have n8_ := am (blk_below (g := gb357) (o := .cells #[.int .i64 t352, .slice Ao37 t353.length co37] 35 (0, 0)) (by (with_reducible repeat (first | refine blk_drewN ?_ _ | refine blk_drew ?_ | refine blk_alloc ?_ _)); refine blk_far ?_ NB357_379.out _; (with_reducible repeat (first | refine blk_drewN ?_ _ | refine blk_drew ?_ | refine blk_alloc ?_ _)); refine blk_far ?_ NB357_379.out _; (with_reducible repeat (first | refine blk_drewN ?_ _ | refine blk_drew ?_ | refine blk_alloc ?_ _)); exact BK357.out) hb); have n9_ := am (blk_below (g := gb379) (o := .cells #[.int .i64 t374, .slice Ao117 t375.length co117] 35 (0, 0)) (by (with_reducible repeat (first | refine blk_drewN ?_ _ | refine blk_drew ?_ | refine blk_alloc ?_ _)); refine blk_put (cs := #[.int .i64 t374, .slice none 0 0]) ?_ 1 _ rfl; (with_reducible repeat (first | refine blk_drewN ?_ _ | refine blk_drew ?_ | refine blk_alloc ?_ _)); refine blk_put (cs := #[.int .i64 0, .slice none 0 0]) ?_ 0 _ rfl; (with_reducible repeat (first | refine blk_drewN ?_ _ | refine blk_drew ?_ | refine blk_alloc ?_ _)); exact BK379.out) hb); have n10_ := am (below_step (by repeat (first | (with_reducible first | exact HB.out | apply below_alloc | apply pw_below_drewN | apply below_drew1 | refine below_set ?_ (Aside0.out (by assumption))) | exact HB.out)) hb); clear HO_347001; clear HO_352001; clear HO_358001; clear HO373; clear HO377; clear BK335; clear BK346; clear BK351; clear BK357; clear BK379; clear HB; have HO_347001 := n0_; have HO_352001 := n1_; have HO_358001 := n2_; have HO373 := n3_; have HO377 := n4_; have BK335 := n5_; have BK346 := n6_; have BK351 := n7_; have BK357 := n8_; have BK379 := n9_; have HB := n10_; clear n0_ n1_ n2_ n3_ n4_ n5_ n6_ n7_ n8_ n9_ n10_; (try clear hb); (try clear hb2); (try clear hk); (try clear hi)))
             go_meet
             case rel => exact ⟨_, ((t378 != t345)), (by first | rfl | (simp; done) | (simp [*]; done)), H', ⟨by have := HJ11.out; have := HJ60.out; first | omega | exact Nat.le_refl _⟩, ⟨by (try simp only [hl352001_60]); (with_reducible repeat (first | apply Kd.R_alloc | apply Kd.R_drewN | apply Kd.R_drew)); exact Kd.R_mono HO_347001.out (fun _ hk => ⟨hk.1.1.1, ⟨hk.1.1.2, hk.2⟩⟩)⟩, ⟨by (try simp only [hl352001_60]); (with_reducible repeat (first | apply Kd.R_alloc | apply Kd.R_drewN | apply Kd.R_drew)); exact Kd.R_mono HO_352001.out (fun _ hk => ⟨hk.1.1.1, ⟨hk.1.1.2, hk.2⟩⟩)⟩, ⟨by (try simp only [hl352001_60]); (with_reducible repeat (first | apply Kd.R_alloc | apply Kd.R_drewN | apply Kd.R_drew)); exact Kd.R_mono HO_358001.out (fun _ hk => ⟨hk.1.1.1, ⟨hk.1.1.2, hk.2⟩⟩)⟩, ⟨by (try simp only [hl352001_60]); (with_reducible repeat (first | apply Kd.R_alloc | apply Kd.R_drewN | apply Kd.R_drew)); exact Kd.R_mono HO377.out (fun _ hk => ⟨hk.1.1.1.2, ⟨hk.1.1.2, hk.1.2⟩⟩)⟩, ⟨by (try simp only [hl352001_60]); (with_reducible repeat (first | refine blk_drewN ?_ _ | refine blk_drew ?_ | refine blk_alloc ?_ _)); exact BK335.out⟩, ⟨by (try simp only [hl352001_60]); (with_reducible repeat (first | refine blk_drewN ?_ _ | refine blk_drew ?_ | refine blk_alloc ?_ _)); exact BK346.out⟩, ⟨by (try simp only [hl352001_60]); (with_reducible repeat (first | refine blk_drewN ?_ _ | refine blk_drew ?_ | refine blk_alloc ?_ _)); exact BK351.out⟩, ⟨by (try simp only [hl352001_60]); (with_reducible repeat (first | refine blk_drewN ?_ _ | refine blk_drew ?_ | refine blk_alloc ?_ _)); exact BK357.out⟩, ⟨by (try simp only [hl352001_60]); (with_reducible repeat (first | refine blk_drewN ?_ _ | refine blk_drew ?_ | refine blk_alloc ?_ _)); exact BK379.out⟩, ⟨by repeat (first | (with_reducible first | exact HB.out | apply below_alloc | apply pw_below_drewN | apply below_drew1 | refine below_set ?_ (Aside0.out (by assumption))) | exact HB.out)⟩⟩
            ·replace c119 := Bool.eq_false_iff.mpr c119
             subst c119
             have H1 : (laws_FnExactDropClue.j2 kj60 t367 true t352 t368) = some r := by rw [if_neg (show ¬ (false = true) by decide)] at H; exact H
             clear H
             have H := H1
             clear H1
             have H' := am H
             clear H
             have hnb130 := NB379_335.out
             have hnc130 := NB335_379.out
             have hnb131 := NB379_346.out
             have hnc131 := NB346_379.out
             have hnb132 := NB379_351.out
             have hnc132 := NB351_379.out
             have hnb133 := NB379_357.out
             have hnc133 := NB357_379.out
             have hcz134_0 : w111.cell? ⟨gb379, 0, none⟩ = some (.int .i64 0) := (blk_cell BK379.out 0).trans rfl
             have hcz134_1 : w111.cell? ⟨gb379, 1, none⟩ = some (.slice none 0 0) := (blk_cell BK379.out 1).trans rfl
             have hfz134_0 := blk_frozen BK379.out 0
             have hfz134_1 := blk_frozen BK379.out 1
             have hnb135 := NB346_335.out
             have hnc135 := NB335_346.out
             have hnb136 := NB346_351.out
             have hnc136 := NB351_346.out
             have hnb137 := NB346_357.out
             have hnc137 := NB357_346.out
             have hcz138_0 : w111.cell? ⟨gb346, 0, none⟩ = some (.int .i64 t341) := (blk_cell BK346.out 0).trans rfl
             have hcz138_1 : w111.cell? ⟨gb346, 1, none⟩ = some (.slice Ao23 t342.length co23) := (blk_cell BK346.out 1).trans rfl
             have hfz138_0 := blk_frozen BK346.out 0
             have hfz138_1 := blk_frozen BK346.out 1
             go_wp2_with (first | ((with_reducible refine gate_callee (f := 14) rfl ?_); refine goesL_ (some 86) rfl rfl Try.func14 (by kernel_rfl) rfl #[.agg #[.int .i64 t374, .slice Ao117 t375.length co117], .agg #[.int .i64 t341, .slice Ao23 t342.length co23]] rfl (by (try simp only [List.map_toArray, List.map_cons, List.map_nil]); first | done | rfl | (simp only [List.length_drop, List.length_take]; rfl)) ?_; (with_reducible refine (laws_eqPuzzle.calls kj60 t374 _ _ t375 t341 _ _ t342 false _ ?side1 ?side2 ?side3 ?side4 A118.out).mono ?_); (case side1 => refine (Kd.R_reads' (e := 25) (base := w.heap.size) (ok := fun k_ => ((((True ∧ some k_ ≠ (.slice Ao23 t342.length co23 : Value).ownBlock) ∧ some k_ ≠ (.slice Ao30 t365.length co30 : Value).ownBlock) ∧ some k_ ≠ (.slice Ao37 t353.length co37 : Value).ownBlock) ∧ some k_ ≠ (.slice Ao109 t371.length co109 : Value).ownBlock)) (n := t375.length) (c := co117) ?_).2.2; exact (by (with_reducible repeat (first | apply Kd.R_alloc | apply Kd.R_drewN | apply Kd.R_drew)); exact (Kd.R_mono (Kd.R_far (p := ⟨gb379, 1, none⟩) (Kd.R_far (p := ⟨gb379, 0, none⟩) (Kd.R_types HO377.out BK379.out (by decide)) (fun _ hk => hk.2) (.int .i64 t374)) (fun _ hk => hk.2) (.slice Ao117 t375.length co117)) (fun _ h_ => h_.1)))); (case side2 => exact (Kd.R_reads' HO377.out).2.1); (case side3 => refine (Kd.R_reads' (e := 25) (base := w.heap.size) (ok := fun k_ => (((some k_ ≠ (.slice Ao30 t365.length co30 : Value).ownBlock ∧ some k_ ≠ (.slice Ao37 t353.length co37 : Value).ownBlock) ∧ some k_ ≠ (.slice Ao109 t371.length co109 : Value).ownBlock) ∧ some k_ ≠ (.slice Ao117 t375.length co117 : Value).ownBlock)) (n := t342.length) (c := co23) ?_).2.2; exact (by (with_reducible repeat (first | apply Kd.R_alloc | apply Kd.R_drewN | apply Kd.R_drew)); exact (Kd.R_mono (Kd.R_far (p := ⟨gb379, 1, none⟩) (Kd.R_far (p := ⟨gb379, 0, none⟩) (Kd.R_types HO_347001.out BK379.out (by decide)) (fun _ hk => hk.2) (.int .i64 t374)) (fun _ hk => hk.2) (.slice Ao117 t375.length co117)) (fun _ h_ => h_.1)))); (case side4 => exact (Kd.R_reads' HO_347001.out).2.1); rintro e w139 ⟨rfl, hb⟩; refine ⟨_, rfl, ?_⟩; have n0_ := am (Kd.R_below (by (with_reducible repeat (first | apply Kd.R_alloc | apply Kd.R_drewN | apply Kd.R_drew)); exact (Kd.R_mono (Kd.R_far (p := ⟨gb379, 1, none⟩) (Kd.R_far (p := ⟨gb379, 0, none⟩) (Kd.R_types HO_347001.out BK379.out (by decide)) (fun _ hk => hk.2) (.int .i64 t374)) (fun _ hk => hk.2) (.slice Ao117 t375.length co117)) (fun _ h_ => h_.1))) hb); have n1_ := am (Kd.R_below (by (with_reducible repeat (first | apply Kd.R_alloc | apply Kd.R_drewN | apply Kd.R_drew)); exact (Kd.R_mono (Kd.R_far (p := ⟨gb379, 1, none⟩) (Kd.R_far (p := ⟨gb379, 0, none⟩) (Kd.R_types HO_352001.out BK379.out (by decide)) (fun _ hk => hk.2) (.int .i64 t374)) (fun _ hk => hk.2) (.slice Ao117 t375.length co117)) (fun _ h_ => h_.1))) hb); have n2_ := am (Kd.R_below (by (with_reducible repeat (first | apply Kd.R_alloc | apply Kd.R_drewN | apply Kd.R_drew)); exact (Kd.R_mono (Kd.R_far (p := ⟨gb379, 1, none⟩) (Kd.R_far (p := ⟨gb379, 0, none⟩) (Kd.R_types HO_358001.out BK379.out (by decide)) (fun _ hk => hk.2) (.int .i64 t374)) (fun _ hk => hk.2) (.slice Ao117 t375.length co117)) (fun _ h_ => h_.1))) hb); have n3_ := am (Kd.R_below (by (with_reducible repeat (first | apply Kd.R_alloc | apply Kd.R_drewN | apply Kd.R_drew)); exact (Kd.R_mono (Kd.R_far (p := ⟨gb379, 1, none⟩) (Kd.R_far (p := ⟨gb379, 0, none⟩) (Kd.R_types HO373.out BK379.out (by decide)) (fun _ hk => hk.2) (.int .i64 t374)) (fun _ hk => hk.2) (.slice Ao117 t375.length co117)) (fun _ h_ => h_.1))) hb); have n4_ := am (Kd.R_below (by (with_reducible repeat (first | apply Kd.R_alloc | apply Kd.R_drewN | apply Kd.R_drew)); exact (Kd.R_mono (Kd.R_far (p := ⟨gb379, 1, none⟩) (Kd.R_far (p := ⟨gb379, 0, none⟩) (Kd.R_types HO377.out BK379.out (by decide)) (fun _ hk => hk.2) (.int .i64 t374)) (fun _ hk => hk.2) (.slice Ao117 t375.length co117)) (fun _ h_ => h_.1))) hb); have n5_ := am (blk_below (g := gb335) (o := .cells #[.int .i64 a0_0, .slice A0_1 l0_1.length c0_1] 30 (0, 0)) (by (with_reducible repeat (first | refine blk_drewN ?_ _ | refine blk_drew ?_ | refine blk_alloc ?_ _)); refine blk_far ?_ NB335_379.out _; (with_reducible repeat (first | refine blk_drewN ?_ _ | refine blk_drew ?_ | refine blk_alloc ?_ _)); refine blk_far ?_ NB335_379.out _; (with_reducible repeat (first | refine blk_drewN ?_ _ | refine blk_drew ?_ | refine blk_alloc ?_ _)); exact BK335.out) hb); have n6_ := am (blk_below (g := gb346) (o := .cells #[.int .i64 t341, .slice Ao23 t342.length co23] 35 (0, 0)) (by (with_reducible repeat (first | refine blk_drewN ?_ _ | refine blk_drew ?_ | refine blk_alloc ?_ _)); refine blk_far ?_ NB346_379.out _; (with_reducible repeat (first | refine blk_drewN ?_ _ | refine blk_drew ?_ | refine blk_alloc ?_ _)); refine blk_far ?_ NB346_379.out _; (with_reducible repeat (first | refine blk_drewN ?_ _ | refine blk_drew ?_ | refine blk_alloc ?_ _)); exact BK346.out) hb); have n7_ := am (blk_below (g := gb351) (o := .cells #[.int .i64 t347, .slice Ao30 t365.length co30] 35 (0, 0)) (by (with_reducible repeat (first | refine blk_drewN ?_ _ | refine blk_drew ?_ | refine blk_alloc ?_ _)); refine blk_far ?_ NB351_379.out _; (with_reducible repeat (first | refine blk_drewN ?_ _ | refine blk_drew ?_ | refine blk_alloc ?_ _)); refine blk_far ?_ NB351_379.out _; (with_reducible repeat (first | refine blk_drewN ?_ _ | refine blk_drew ?_ | refine blk_alloc ?_ _)); exact BK351.out) hb); have n8_ := am (blk_below (g := gb357) (o := .cells #[.int .i64 t352, .slice Ao37 t353.length co37] 35 (0, 0)) (by (with_reducible repeat (first | refine blk_drewN ?_ _ | refine blk_drew ?_ | refine blk_alloc ?_ _)); refine blk_far ?_ NB357_379.out _; (with_reducible repeat (first | refine blk_drewN ?_ _ | refine blk_drew ?_ | refine blk_alloc ?_ _)); refine blk_far ?_ NB357_379.out _; (with_reducible repeat (first | refine blk_drewN ?_ _ | refine blk_drew ?_ | refine blk_alloc ?_ _)); exact BK357.out) hb); have n9_ := am (blk_below (g := gb379) (o := .cells #[.int .i64 t374, .slice Ao117 t375.length co117] 35 (0, 0)) (by (with_reducible repeat (first | refine blk_drewN ?_ _ | refine blk_drew ?_ | refine blk_alloc ?_ _)); refine blk_put (cs := #[.int .i64 t374, .slice none 0 0]) ?_ 1 _ rfl; (with_reducible repeat (first | refine blk_drewN ?_ _ | refine blk_drew ?_ | refine blk_alloc ?_ _)); refine blk_put (cs := #[.int .i64 0, .slice none 0 0]) ?_ 0 _ rfl; (with_reducible repeat (first | refine blk_drewN ?_ _ | refine blk_drew ?_ | refine blk_alloc ?_ _)); exact BK379.out) hb); have n10_ := am (below_step (by repeat (first | (with_reducible first | exact HB.out | apply below_alloc | apply pw_below_drewN | apply below_drew1 | refine below_set ?_ (Aside0.out (by assumption))) | exact HB.out)) hb); clear HO_347001; clear HO_352001; clear HO_358001; clear HO373; clear HO377; clear BK335; clear BK346; clear BK351; clear BK357; clear BK379; clear HB; have HO_347001 := n0_; have HO_352001 := n1_; have HO_358001 := n2_; have HO373 := n3_; have HO377 := n4_; have BK335 := n5_; have BK346 := n6_; have BK351 := n7_; have BK357 := n8_; have BK379 := n9_; have HB := n10_; clear n0_ n1_ n2_ n3_ n4_ n5_ n6_ n7_ n8_ n9_ n10_; (try clear hb); (try clear hb2); (try clear hk); (try clear hi)))
             go_meet
             case rel => exact ⟨_, (true), (by first | rfl | (simp; done) | (simp [*]; done)), H', ⟨by have := HJ11.out; have := HJ60.out; first | omega | exact Nat.le_refl _⟩, ⟨by (try simp only [hl352001_60]); (with_reducible repeat (first | apply Kd.R_alloc | apply Kd.R_drewN | apply Kd.R_drew)); exact Kd.R_mono HO_347001.out (fun _ hk => ⟨hk.1.1.1, ⟨hk.1.1.2, hk.2⟩⟩)⟩, ⟨by (try simp only [hl352001_60]); (with_reducible repeat (first | apply Kd.R_alloc | apply Kd.R_drewN | apply Kd.R_drew)); exact Kd.R_mono HO_352001.out (fun _ hk => ⟨hk.1.1.1, ⟨hk.1.1.2, hk.2⟩⟩)⟩, ⟨by (try simp only [hl352001_60]); (with_reducible repeat (first | apply Kd.R_alloc | apply Kd.R_drewN | apply Kd.R_drew)); exact Kd.R_mono HO_358001.out (fun _ hk => ⟨hk.1.1.1, ⟨hk.1.1.2, hk.2⟩⟩)⟩, ⟨by (try simp only [hl352001_60]); (with_reducible repeat (first | apply Kd.R_alloc | apply Kd.R_drewN | apply Kd.R_drew)); exact Kd.R_mono HO377.out (fun _ hk => ⟨hk.1.1.1.2, ⟨hk.1.1.2, hk.1.2⟩⟩)⟩, ⟨by (try simp only [hl352001_60]); (with_reducible repeat (first | refine blk_drewN ?_ _ | refine blk_drew ?_ | refine blk_alloc ?_ _)); exact BK335.out⟩, ⟨by (try simp only [hl352001_60]); (with_reducible repeat (first | refine blk_drewN ?_ _ | refine blk_drew ?_ | refine blk_alloc ?_ _)); exact BK346.out⟩, ⟨by (try simp only [hl352001_60]); (with_reducible repeat (first | refine blk_drewN ?_ _ | refine blk_drew ?_ | refine blk_alloc ?_ _)); exact BK351.out⟩, ⟨by (try simp only [hl352001_60]); (with_reducible repeat (first | refine blk_drewN ?_ _ | refine blk_drew ?_ | refine blk_alloc ?_ _)); exact BK357.out⟩, ⟨by (try simp only [hl352001_60]); (with_reducible repeat (first | refine blk_drewN ?_ _ | refine blk_drew ?_ | refine blk_alloc ?_ _)); exact BK379.out⟩, ⟨by repeat (first | (with_reducible first | exact HB.out | apply below_alloc | apply pw_below_drewN | apply below_drew1 | refine below_set ?_ (Aside0.out (by assumption))) | exact HB.out)⟩⟩
           case rest =>
            clear HC97
            try clear c1
            try clear c2
            try clear p2
            try clear c3
            try clear c4
            try clear c4b0
            try clear c5
            try clear c6
            try clear c7
            try clear c8
            try clear c9
            try clear c10
            try clear c11
            try clear c12
            try clear c13
            try clear c14
            try clear c17
            try clear c18
            try clear c19
            try clear c20
            try clear c21
            try clear c27
            try clear c28
            try clear c33
            try clear c34
            try clear c35
            try clear c39
            try clear c40
            try clear c41
            try clear c42
            try clear c44
            try clear c45
            try clear c48
            try clear c49
            try clear c50
            try clear c52
            try clear c53
            try clear c56
            try clear c59
            try clear c66
            try clear c67
            try clear c68
            try clear c71
            try clear c71b0
            try clear c73
            try clear c74
            try clear c75
            try clear c76
            try clear c78
            try clear c79
            try clear c82
            try clear c83
            try clear c84
            try clear c86
            try clear c87
            try clear c90
            try clear c93
            try clear c93b0
            try clear c94
            try clear c94b0
            try clear c94b1
            try clear c98
            try clear c99
            try clear c100
            try clear c105
            try clear c106
            try clear c112
            try clear c113
            try clear c114
            try clear c115
            try clear c119
            try clear c120
            try clear c121
            try clear c122
            try clear c123
            try clear c125
            try clear c126
            try clear c127
            try clear c130
            try clear c131
            try clear c132
            try clear c133
            try clear c135
            try clear c136
            try clear c137
            try clear hcz101_0
            try clear hcz101_1
            try clear hcz103_0
            try clear hcz103_1
            try clear hcz107_0
            try clear hcz107_1
            try clear hcz116_0
            try clear hcz116_1
            try clear hcz124_0
            try clear hcz124_1
            try clear hcz128_0
            try clear hcz128_1
            try clear hcz134_0
            try clear hcz134_1
            try clear hcz138_0
            try clear hcz138_1
            try clear hcz14_0
            try clear hcz14_1
            try clear hcz16_0
            try clear hcz16_1
            try clear hcz22_0
            try clear hcz22_1
            try clear hcz24_0
            try clear hcz24_1
            try clear hcz29_0
            try clear hcz29_1
            try clear hcz36_0
            try clear hcz36_1
            try clear hcz43_0
            try clear hcz43_1
            try clear hcz46_0
            try clear hcz46_1
            try clear hcz51_0
            try clear hcz51_1
            try clear hcz54_0
            try clear hcz54_1
            try clear hcz69_0
            try clear hcz69_1
            try clear hcz6_0
            try clear hcz6_1
            try clear hcz77_0
            try clear hcz77_1
            try clear hcz80_0
            try clear hcz80_1
            try clear hcz85_0
            try clear hcz85_1
            try clear hcz88_0
            try clear hcz88_1
            try clear hfz101_0
            try clear hfz101_1
            try clear hfz103_0
            try clear hfz103_1
            try clear hfz107_0
            try clear hfz107_1
            try clear hfz116_0
            try clear hfz116_1
            try clear hfz124_0
            try clear hfz124_1
            try clear hfz128_0
            try clear hfz128_1
            try clear hfz134_0
            try clear hfz134_1
            try clear hfz138_0
            try clear hfz138_1
            try clear hfz14_0
            try clear hfz14_1
            try clear hfz16_0
            try clear hfz16_1
            try clear hfz22_0
            try clear hfz22_1
            try clear hfz24_0
            try clear hfz24_1
            try clear hfz29_0
            try clear hfz29_1
            try clear hfz36_0
            try clear hfz36_1
            try clear hfz43_0
            try clear hfz43_1
            try clear hfz46_0
            try clear hfz46_1
            try clear hfz51_0
            try clear hfz51_1
            try clear hfz54_0
            try clear hfz54_1
            try clear hfz69_0
            try clear hfz69_1
            try clear hfz6_0
            try clear hfz6_1
            try clear hfz77_0
            try clear hfz77_1
            try clear hfz80_0
            try clear hfz80_1
            try clear hfz85_0
            try clear hfz85_1
            try clear hfz88_0
            try clear hfz88_1
            try clear p2
            obtain ⟨kq, x92_96, rfl, HA, HJ96, HO_347001, HO_352001, HO_358001, HO_380001, BK335, BK346, BK351, BK357, BK379, HB⟩ := hcut
            have hl358001_96 := (Kd.R_reads' HO_358001.out).1
            rw [hl358001_96] at HO_358001
            (try simp only [hl358001_96])
            (try simp only [hl358001_96] at BK335)
            (try simp only [hl358001_96] at BK346)
            (try simp only [hl358001_96] at BK351)
            (try simp only [hl358001_96] at BK357)
            (try simp only [hl358001_96] at BK379)
            (try simp only [hl358001_96] at HO_347001)
            (try simp only [hl358001_96] at HO_352001)
            (try simp only [hl358001_96] at HO_380001)
            cases kq with
            | zero => exact absurd HA.out (by simp [laws_FnExactDropClue.j2])
            | succ kj96 =>
             have H := HA.out
             clear HA
             simp only [laws_FnExactDropClue.j2] at H
             by_cases c140 : x92_96 = true
             ·subst c140
              have H1 : (none) = some r := by rw [if_pos rfl] at H; exact H
              clear H
              have H := H1
              clear H1
              exact absurd H (by simp)
             ·replace c140 := Bool.eq_false_iff.mpr c140
              subst c140
              have H1 : ((laws_heldPuzzle.f kj96 t352 t368 1).bind fun t381 => (if t381 < 0 then (none) else (if t381 = t367 then (some true) else (none)))) = some r := by rw [if_neg (show ¬ (false = true) by decide)] at H; exact H
              clear H
              have H := H1
              clear H1
              replace H := Option.bind_eq_some_iff.mp H
              obtain ⟨t381, A1410, H⟩ := H
              replace H : (if t381 < 0 then (none) else (if t381 = t367 then (some true) else (none))) = some r := H
              have A141 := am A1410
              clear A1410
              by_cases c142 : t381 < 0
              ·rw [if_pos c142] at H
               exact absurd H (by simp)
              ·rw [if_neg c142] at H
               have c142b0 : decide (t381 < 0) = false := decide_eq_false c142
               clear c142
               by_cases c143 : t381 = t367
               ·rw [if_pos c143] at H
                have c143b0 : (t381 == t367) = true := beq_iff_eq.mpr c143
                have c143b1 : (t381 != t367) = false := bne_eq_false_iff_eq.mpr c143
                clear c143
                obtain rfl := Option.some.inj H
                have hnb144 := NB357_335.out
                have hnc144 := NB335_357.out
                have hnb145 := NB357_346.out
                have hnc145 := NB346_357.out
                have hnb146 := NB357_351.out
                have hnc146 := NB351_357.out
                have hnb147 := NB357_379.out
                have hnc147 := NB379_357.out
                have hcz148_0 : wc.cell? ⟨gb357, 0, none⟩ = some (.int .i64 t352) := (blk_cell BK357.out 0).trans rfl
                have hcz148_1 : wc.cell? ⟨gb357, 1, none⟩ = some (.slice Ao37 t368.length co37) := (blk_cell BK357.out 1).trans rfl
                have hfz148_0 := blk_frozen BK357.out 0
                have hfz148_1 := blk_frozen BK357.out 1
                go_wp2_with (first | ((with_reducible refine gate_callee (f := 18) rfl ?_); refine goesL_ (some 95) rfl rfl Try.func18 (by kernel_rfl) rfl #[.agg #[.int .i64 t352, .slice Ao37 t368.length co37], .int .i64 1] rfl (by (try simp only [List.map_toArray, List.map_cons, List.map_nil]); first | done | rfl | (simp only [List.length_drop, List.length_take]; rfl)) ?_; (with_reducible refine (laws_heldPuzzle.calls kj96 t352 _ _ t368 1 t381 _ ?side1 ?side2 A141.out).mono ?_); (case side1 => repeat (first | exact (Kd.R_reads' HO_358001.out).2.2 | (with_reducible refine Kd.C_alloc ?_ _) | (with_reducible refine Kd.C_drewN ?_ _) | (with_reducible refine Kd.C_drew ?_))); (case side2 => exact (Kd.R_reads' HO_358001.out).2.1); rintro e w149 ⟨rfl, hb⟩; refine ⟨_, rfl, ?_⟩; have n0_ := am (Kd.R_below (roS HO_347001.out) hb); have n1_ := am (Kd.R_below (roS HO_352001.out) hb); have n2_ := am (Kd.R_below (roS HO_358001.out) hb); have n3_ := am (Kd.R_below (roS HO_380001.out) hb); have n4_ := am (blk_below (bkS BK335.out) hb); have n5_ := am (blk_below (bkS BK346.out) hb); have n6_ := am (blk_below (bkS BK351.out) hb); have n7_ := am (blk_below (bkS BK357.out) hb); have n8_ := am (blk_below (bkS BK379.out) hb); have n9_ := am (below_step (by repeat (first | (with_reducible first | exact HB.out | apply below_alloc | apply pw_below_drewN | apply below_drew1 | refine below_set ?_ (Aside0.out (by assumption))) | exact HB.out)) hb); clear HO_347001; clear HO_352001; clear HO_358001; clear HO_380001; clear BK335; clear BK346; clear BK351; clear BK357; clear BK379; clear HB; have HO_347001 := n0_; have HO_352001 := n1_; have HO_358001 := n2_; have HO_380001 := n3_; have BK335 := n4_; have BK346 := n5_; have BK351 := n6_; have BK357 := n7_; have BK379 := n8_; have HB := n9_; clear n0_ n1_ n2_ n3_ n4_ n5_ n6_ n7_ n8_ n9_; (try clear hb); (try clear hb2); (try clear hk); (try clear hi)))
                go_ret
                exact ⟨by first | rfl | (simp [errW_none, errW_some] <;> rfl) | (simp [*, errW_none, errW_some] <;> rfl), by repeat (first | (with_reducible first | exact HB.out | apply below_alloc | apply pw_below_drewN | apply below_drew1 | refine below_set ?_ (Aside0.out (by assumption))) | exact HB.out)⟩
               ·rw [if_neg c143] at H
                exact absurd H (by simp)
          ·rw [if_neg c94] at H
           exact absurd H (by simp)
     ·replace c59 := Bool.eq_false_iff.mpr c59
      subst c59
      have H1 : (none) = some r := by rw [if_neg (show ¬ (false = true) by decide)] at H; exact H
      clear H
      have H := H1
      clear H1
      exact absurd H (by simp)

end Go.Proofs.Ytkdnonnoihllkaa.X
