-- Written by a program of this session (wip/tools/mp.py) over the kit's print of the translation.
import Derived.Test.YtkdnonnoihllkaaX0
import Derived.Test.YtkdnonnoihllkaaX1
import Derived.Test.YtkdnonnoihllkaaX4
import Derived.Test.YtkdnonnoihllkaaX8
import Derived.Test.YtkdnonnoihllkaaX9
import Derived.Test.YtkdnonnoihllkaaX11
import Derived.Test.YtkdnonnoihllkaaX12
namespace Go.Proofs.Ytkdnonnoihllkaa.X
open Go.Proofs.Ytkdnonnoihllkaa.Sq Go.RowKit Go.Proofs.YtkdnonnoihllkaaW.PrintWords Go.Proofs.YtkdnonnoihllkaaW.PrintLast Go.Proofs.YtkdnonnoihllkaaW.PrintMore
attribute [local go_sem] max2_int min2_int max_two min_two max_three min_three max_four min_four   -- for this text's walks alone
set_option linter.unusedVariables false
set_option linter.unusedSimpArgs false

/-! ### laws_FnExactAddClue: function 5 -/
mutual
def laws_FnExactAddClue.j0 : Nat → Bool → Bool → Bool → Int → List (S23) → Int → Int → Int → Int → List (S25) → Int → List (S25) → Int → List (S25) → Option (Bool)
 | 0, _, _, _, _, _, _, _, _, _, _, _, _, _, _ => none
 | k + 1, x7, x10, x46, x242000, x242001, x243000, x243001, x243002, x257000, x257001, x262000, x262001, x271000, x271001 => if x46 = true then (none) else ((laws_toPuzzle.f k x242000 x242001).bind fun bt272 => ((laws_eqPuzzle.f k x262000 x262001 bt272.1 bt272.2).bind fun t276 => (if t276 = true then ((laws_markPuzzle.f k x262000 x262001 1).bind fun bt277 => (if bt277.1 < 0 then (laws_FnExactAddClue.j1 k x7 true x242000 x242001 x243000 x243001 x243002 x257000 x257001 x271000 x271001) else ((laws_eqPuzzle.f k x271000 x271001 x257000 x257001).bind fun t279 => (if t279 = true then (laws_FnExactAddClue.j1 k x7 (x10 != x7) x242000 x242001 x243000 x243001 x243002 x257000 x257001 x271000 x271001) else (laws_FnExactAddClue.j1 k x7 true x242000 x242001 x243000 x243001 x243002 x257000 x257001 x271000 x271001))))) else (none))))
def laws_FnExactAddClue.j1 : Nat → Bool → Bool → Int → List (S23) → Int → Int → Int → Int → List (S25) → Int → List (S25) → Option (Bool)
 | 0, _, _, _, _, _, _, _, _, _, _, _ => none
 | k + 1, x7, x67, x242000, x242001, x243000, x243001, x243002, x257000, x257001, x271000, x271001 => if x67 = true then (none) else ((laws_markPuzzle.f k x271000 x271001 1).bind fun bt280 => ((laws_heldPuzzle.f k x271000 bt280.2 1).bind fun t282 => (if t282 < 0 then (none) else (if t282 = bt280.1 then ((laws_toPuzzle.f k x242000 x242001).bind fun bt283 => ((laws_toClue.f x243000 x243001 x243002).bind fun bt287 => ((impl_AddClue.f k bt283.1 bt283.2 bt287.1 bt287.2.1 bt287.2.2).bind fun bt290 => ((laws_eqPuzzle.f k bt290.1 bt290.2.1 x257000 x257001).bind fun t296 => (if t296 = true then (laws_FnExactAddClue.j2 k bt280.1 (bt290.2.2 != x7) x271000 bt280.2) else (laws_FnExactAddClue.j2 k bt280.1 true x271000 bt280.2)))))) else (none)))))
def laws_FnExactAddClue.j2 : Nat → Int → Bool → Int → List (S25) → Option (Bool)
 | 0, _, _, _, _ => none
 | k + 1, x12, x95, x271000, x271001 => if x95 = true then (none) else ((laws_heldPuzzle.f k x271000 x271001 1).bind fun t297 => (if t297 < 0 then (none) else (if t297 = x12 then (some true) else (none))))
end
def laws_FnExactAddClue.f (k : Nat) (a0_0 : Int) (l0_1 : List (S23)) (a1_0 : Int) (a1_1 : Int) (a1_2 : Int) : Option (Bool) := (laws_szPuzzle.f a0_0 l0_1 1048576).bind fun t243 => (if t243 < 0 then (some true) else ((laws_toPuzzle.f k a0_0 l0_1).bind fun bt244 => ((laws_toClue.f a1_0 a1_1 a1_2).bind fun bt248 => ((spec_AddClue.f k bt244.1 bt244.2 bt248.1 bt248.2.1 bt248.2.2).bind fun bt251 => ((laws_toPuzzle.f k a0_0 l0_1).bind fun bt257 => ((laws_toClue.f a1_0 a1_1 a1_2).bind fun bt262 => ((impl_AddClue.f k bt257.1 bt257.2 bt262.1 bt262.2.1 bt262.2.2).bind fun bt265 => ((laws_eqPuzzle.f k bt265.1 bt265.2.1 bt251.1 bt251.2.1).bind fun t271 => (if t271 = true then (laws_FnExactAddClue.j0 k bt251.2.2 bt265.2.2 (bt265.2.2 != bt251.2.2) a0_0 l0_1 a1_0 a1_1 a1_2 bt251.1 bt251.2.1 bt257.1 bt257.2 bt265.1 bt265.2.1) else (laws_FnExactAddClue.j0 k bt251.2.2 bt265.2.2 true a0_0 l0_1 a1_0 a1_1 a1_2 bt251.1 bt251.2.1 bt257.1 bt257.2 bt265.1 bt265.2.1))))))))))
theorem laws_FnExactAddClue.mono_l : ∀ k, (∀ y0 y1 y2 y3 y4 y5 y6 y7 y8 y9 y10 y11 y12 y13, LeO (laws_FnExactAddClue.j0 k y0 y1 y2 y3 y4 y5 y6 y7 y8 y9 y10 y11 y12 y13) (laws_FnExactAddClue.j0 (k + 1) y0 y1 y2 y3 y4 y5 y6 y7 y8 y9 y10 y11 y12 y13)) ∧ (∀ y0 y1 y2 y3 y4 y5 y6 y7 y8 y9 y10, LeO (laws_FnExactAddClue.j1 k y0 y1 y2 y3 y4 y5 y6 y7 y8 y9 y10) (laws_FnExactAddClue.j1 (k + 1) y0 y1 y2 y3 y4 y5 y6 y7 y8 y9 y10)) ∧ (∀ y0 y1 y2 y3, LeO (laws_FnExactAddClue.j2 k y0 y1 y2 y3) (laws_FnExactAddClue.j2 (k + 1) y0 y1 y2 y3))
 | 0 => ⟨fun _ _ _ _ _ _ _ _ _ _ _ _ _ _ r h => by simp [laws_FnExactAddClue.j0] at h, fun _ _ _ _ _ _ _ _ _ _ _ r h => by simp [laws_FnExactAddClue.j1] at h, fun _ _ _ _ r h => by simp [laws_FnExactAddClue.j2] at h⟩
 | k + 1 => by
  obtain ⟨ih0, ih1, ih2⟩ := laws_FnExactAddClue.mono_l k
  refine ⟨?_, ?_, ?_⟩
  ·intro y0 y1 y2 y3 y4 y5 y6 y7 y8 y9 y10 y11 y12 y13
   unfold laws_FnExactAddClue.j0
   repeat' first
   | (with_reducible exact ih0 _ _ _ _ _ _ _ _ _ _ _ _ _ _)
   | (with_reducible exact ih1 _ _ _ _ _ _ _ _ _ _ _)
   | (with_reducible exact ih2 _ _ _ _)
   | (with_reducible exact impl_AddClue.mono _ _ _ _ _ _)
   | (with_reducible exact laws_eqPuzzle.mono _ _ _ _ _)
   | (with_reducible exact laws_heldPuzzle.mono _ _ _ _)
   | (with_reducible exact laws_markPuzzle.mono _ _ _ _)
   | (with_reducible exact laws_toPuzzle.mono _ _ _)
   | (with_reducible exact spec_AddClue.mono _ _ _ _ _ _)
   | (with_reducible exact LeO.refl _)
   | (with_reducible exact LeO.none _)
   | (with_reducible refine LeO.ite ?_ ?_)
   | (with_reducible refine LeO.bind ?_ (fun _ => ?_))
   | exact ih0 _ _ _ _ _ _ _ _ _ _ _ _ _ _
   | exact ih1 _ _ _ _ _ _ _ _ _ _ _
   | exact ih2 _ _ _ _
   | exact impl_AddClue.mono _ _ _ _ _ _
   | exact laws_eqPuzzle.mono _ _ _ _ _
   | exact laws_heldPuzzle.mono _ _ _ _
   | exact laws_markPuzzle.mono _ _ _ _
   | exact laws_toPuzzle.mono _ _ _
   | exact spec_AddClue.mono _ _ _ _ _ _
   | exact LeO.none _
   | refine LeO.ite ?_ ?_
   | refine LeO.bind ?_ (fun _ => ?_)
  ·intro y0 y1 y2 y3 y4 y5 y6 y7 y8 y9 y10
   unfold laws_FnExactAddClue.j1
   repeat' first
   | (with_reducible exact ih0 _ _ _ _ _ _ _ _ _ _ _ _ _ _)
   | (with_reducible exact ih1 _ _ _ _ _ _ _ _ _ _ _)
   | (with_reducible exact ih2 _ _ _ _)
   | (with_reducible exact impl_AddClue.mono _ _ _ _ _ _)
   | (with_reducible exact laws_eqPuzzle.mono _ _ _ _ _)
   | (with_reducible exact laws_heldPuzzle.mono _ _ _ _)
   | (with_reducible exact laws_markPuzzle.mono _ _ _ _)
   | (with_reducible exact laws_toPuzzle.mono _ _ _)
   | (with_reducible exact spec_AddClue.mono _ _ _ _ _ _)
   | (with_reducible exact LeO.refl _)
   | (with_reducible exact LeO.none _)
   | (with_reducible refine LeO.ite ?_ ?_)
   | (with_reducible refine LeO.bind ?_ (fun _ => ?_))
   | exact ih0 _ _ _ _ _ _ _ _ _ _ _ _ _ _
   | exact ih1 _ _ _ _ _ _ _ _ _ _ _
   | exact ih2 _ _ _ _
   | exact impl_AddClue.mono _ _ _ _ _ _
   | exact laws_eqPuzzle.mono _ _ _ _ _
   | exact laws_heldPuzzle.mono _ _ _ _
   | exact laws_markPuzzle.mono _ _ _ _
   | exact laws_toPuzzle.mono _ _ _
   | exact spec_AddClue.mono _ _ _ _ _ _
   | exact LeO.none _
   | refine LeO.ite ?_ ?_
   | refine LeO.bind ?_ (fun _ => ?_)
  ·intro y0 y1 y2 y3
   unfold laws_FnExactAddClue.j2
   repeat' first
   | (with_reducible exact ih0 _ _ _ _ _ _ _ _ _ _ _ _ _ _)
   | (with_reducible exact ih1 _ _ _ _ _ _ _ _ _ _ _)
   | (with_reducible exact ih2 _ _ _ _)
   | (with_reducible exact impl_AddClue.mono _ _ _ _ _ _)
   | (with_reducible exact laws_eqPuzzle.mono _ _ _ _ _)
   | (with_reducible exact laws_heldPuzzle.mono _ _ _ _)
   | (with_reducible exact laws_markPuzzle.mono _ _ _ _)
   | (with_reducible exact laws_toPuzzle.mono _ _ _)
   | (with_reducible exact spec_AddClue.mono _ _ _ _ _ _)
   | (with_reducible exact LeO.refl _)
   | (with_reducible exact LeO.none _)
   | (with_reducible refine LeO.ite ?_ ?_)
   | (with_reducible refine LeO.bind ?_ (fun _ => ?_))
   | exact ih0 _ _ _ _ _ _ _ _ _ _ _ _ _ _
   | exact ih1 _ _ _ _ _ _ _ _ _ _ _
   | exact ih2 _ _ _ _
   | exact impl_AddClue.mono _ _ _ _ _ _
   | exact laws_eqPuzzle.mono _ _ _ _ _
   | exact laws_heldPuzzle.mono _ _ _ _
   | exact laws_markPuzzle.mono _ _ _ _
   | exact laws_toPuzzle.mono _ _ _
   | exact spec_AddClue.mono _ _ _ _ _ _
   | exact LeO.none _
   | refine LeO.ite ?_ ?_
   | refine LeO.bind ?_ (fun _ => ?_)
theorem laws_FnExactAddClue.mono : ∀ a0 a1 a2 a3 a4 k, LeO (laws_FnExactAddClue.f k a0 a1 a2 a3 a4) (laws_FnExactAddClue.f (k + 1) a0 a1 a2 a3 a4) := by
 intro a0 a1 a2 a3 a4 k
 obtain ⟨ih0, ih1, ih2⟩ := laws_FnExactAddClue.mono_l k
 unfold laws_FnExactAddClue.f
 repeat' first
   | (with_reducible exact ih0 _ _ _ _ _ _ _ _ _ _ _ _ _ _)
   | (with_reducible exact ih1 _ _ _ _ _ _ _ _ _ _ _)
   | (with_reducible exact ih2 _ _ _ _)
   | (with_reducible exact impl_AddClue.mono _ _ _ _ _ _)
   | (with_reducible exact laws_eqPuzzle.mono _ _ _ _ _)
   | (with_reducible exact laws_heldPuzzle.mono _ _ _ _)
   | (with_reducible exact laws_markPuzzle.mono _ _ _ _)
   | (with_reducible exact laws_toPuzzle.mono _ _ _)
   | (with_reducible exact spec_AddClue.mono _ _ _ _ _ _)
   | (with_reducible exact LeO.refl _)
   | (with_reducible exact LeO.none _)
   | (with_reducible refine LeO.ite ?_ ?_)
   | (with_reducible refine LeO.bind ?_ (fun _ => ?_))
   | exact ih0 _ _ _ _ _ _ _ _ _ _ _ _ _ _
   | exact ih1 _ _ _ _ _ _ _ _ _ _ _
   | exact ih2 _ _ _ _
   | exact impl_AddClue.mono _ _ _ _ _ _
   | exact laws_eqPuzzle.mono _ _ _ _ _
   | exact laws_heldPuzzle.mono _ _ _ _
   | exact laws_markPuzzle.mono _ _ _ _
   | exact laws_toPuzzle.mono _ _ _
   | exact spec_AddClue.mono _ _ _ _ _ _
   | exact LeO.none _
   | refine LeO.ite ?_ ?_
   | refine LeO.bind ?_ (fun _ => ?_)
def laws_FnExactAddClue.T5 : Bool × List (List Nat × List Nat) := (true, [([], []), ([0], [0]), ([], []), ([2, 1], [2]), ([1, 3, 3], [1, 3]), ([4], [4]), ([5], [5]), ([5], [5]), ([], []), ([8, 6, 4, 0, 1, 2, 3, 4, 5, 6, 8], [6, 8]), ([7, 9, 0, 1, 2, 3, 4, 5, 6, 7, 8, 9], [7])])
def laws_FnExactAddClue.B5 : List Nat := [0, 1, 0, 7, 15, 31, 63, 63, 0, 383, 1023]
theorem laws_FnExactAddClue.tab5 : rtab .any (opsOf Try.f5 5) = laws_FnExactAddClue.T5 := by kernel_rfl
theorem laws_FnExactAddClue.bits5 : waitsOk laws_FnExactAddClue.T5.2 laws_FnExactAddClue.B5 = true := by kernel_rfl
def laws_FnExactAddClue.T7 : Bool × List (List Nat × List Nat) := (true, [([], []), ([], []), ([1], [1]), ([0, 2, 2], [0, 2]), ([3], [3]), ([4], [4]), ([4], [4]), ([], []), ([7, 5, 3, 0, 1, 2, 3, 4, 5, 7], [5, 7]), ([6, 8, 0, 1, 2, 3, 4, 5, 6, 7, 8], [6])])
def laws_FnExactAddClue.B7 : List Nat := [0, 0, 2, 7, 15, 31, 31, 0, 191, 511]
theorem laws_FnExactAddClue.tab7 : rtab .any (opsOf Try.f5 7) = laws_FnExactAddClue.T7 := by kernel_rfl
theorem laws_FnExactAddClue.bits7 : waitsOk laws_FnExactAddClue.T7.2 laws_FnExactAddClue.B7 = true := by kernel_rfl
def laws_FnExactAddClue.T24 : Bool × List (List Nat × List Nat) := (true, [([], []), ([0], [0]), ([], []), ([2, 1], [2]), ([1, 3, 3], [1, 3]), ([4], [4]), ([5], [5]), ([5], [5]), ([], []), ([8, 6, 4, 0, 1, 2, 3, 4, 5, 6, 8], [6, 8]), ([7, 9, 0, 1, 2, 3, 4, 5, 6, 7, 8, 9], [7])])
def laws_FnExactAddClue.B24 : List Nat := [0, 1, 0, 7, 15, 31, 63, 63, 0, 383, 1023]
theorem laws_FnExactAddClue.tab24 : rtab .any (opsOf Try.f5 24) = laws_FnExactAddClue.T24 := by kernel_rfl
theorem laws_FnExactAddClue.bits24 : waitsOk laws_FnExactAddClue.T24.2 laws_FnExactAddClue.B24 = true := by kernel_rfl
set_option maxHeartbeats 8000000 in
set_option maxRecDepth 100000 in
theorem laws_FnExactAddClue.calls (k : Nat) (a0_0 : Int) (A0_1 : Option Addr) (c0_1 : Nat) (l0_1 : List (S23)) (a1_0 : Int) (a1_1 : Int) (a1_2 : Int) (r : Bool) (w : World) (hr0_1 : Kd.C k23 w A0_1 l0_1.length l0_1) (hc0_1 : l0_1.length ≤ c0_1) (h : laws_FnExactAddClue.f k a0_0 l0_1 a1_0 a1_1 a1_2 = some r) :
  Calls Try.prog 5 #[.agg #[.int .i64 a0_0, .slice A0_1 l0_1.length c0_1], .agg #[.int .i64 a1_0, .int .i64 a1_1, .int .i64 a1_2]] w fun e w' => e = .returned (.bool r) ∧ Below w.heap.size w w' := by
 have hu30 := Try.underlying30
 have hu23 := Try.underlying23
 have hu35 := Try.underlying35
 have HR0_1 := am hr0_1
 have HC0_1 := am hc0_1
 clear hr0_1 hc0_1
 have HB := am (Below.refl w.heap.size w)
 have H : ((laws_szPuzzle.f a0_0 l0_1 1048576).bind fun t243 => (if t243 < 0 then (some true) else ((laws_toPuzzle.f k a0_0 l0_1).bind fun bt244 => ((laws_toClue.f a1_0 a1_1 a1_2).bind fun bt248 => ((spec_AddClue.f k bt244.1 bt244.2 bt248.1 bt248.2.1 bt248.2.2).bind fun bt251 => ((laws_toPuzzle.f k a0_0 l0_1).bind fun bt257 => ((laws_toClue.f a1_0 a1_1 a1_2).bind fun bt262 => ((impl_AddClue.f k bt257.1 bt257.2 bt262.1 bt262.2.1 bt262.2.2).bind fun bt265 => ((laws_eqPuzzle.f k bt265.1 bt265.2.1 bt251.1 bt251.2.1).bind fun t271 => (if t271 = true then (laws_FnExactAddClue.j0 k bt251.2.2 bt265.2.2 (bt265.2.2 != bt251.2.2) a0_0 l0_1 a1_0 a1_1 a1_2 bt251.1 bt251.2.1 bt257.1 bt257.2 bt265.1 bt265.2.1) else (laws_FnExactAddClue.j0 k bt251.2.2 bt265.2.2 true a0_0 l0_1 a1_0 a1_1 a1_2 bt251.1 bt251.2.1 bt257.1 bt257.2 bt265.1 bt265.2.1))))))))))) = some r := h
 clear h
 replace H := Option.bind_eq_some_iff.mp H
 obtain ⟨t243, A30, H⟩ := H
 replace H : (if t243 < 0 then (some true) else ((laws_toPuzzle.f k a0_0 l0_1).bind fun bt244 => ((laws_toClue.f a1_0 a1_1 a1_2).bind fun bt248 => ((spec_AddClue.f k bt244.1 bt244.2 bt248.1 bt248.2.1 bt248.2.2).bind fun bt251 => ((laws_toPuzzle.f k a0_0 l0_1).bind fun bt257 => ((laws_toClue.f a1_0 a1_1 a1_2).bind fun bt262 => ((impl_AddClue.f k bt257.1 bt257.2 bt262.1 bt262.2.1 bt262.2.2).bind fun bt265 => ((laws_eqPuzzle.f k bt265.1 bt265.2.1 bt251.1 bt251.2.1).bind fun t271 => (if t271 = true then (laws_FnExactAddClue.j0 k bt251.2.2 bt265.2.2 (bt265.2.2 != bt251.2.2) a0_0 l0_1 a1_0 a1_1 a1_2 bt251.1 bt251.2.1 bt257.1 bt257.2 bt265.1 bt265.2.1) else (laws_FnExactAddClue.j0 k bt251.2.2 bt265.2.2 true a0_0 l0_1 a1_0 a1_1 a1_2 bt251.1 bt251.2.1 bt257.1 bt257.2 bt265.1 bt265.2.1)))))))))) = some r := H
 have A3 := am A30
 clear A30
 by_cases c4 : t243 < 0
 ·rw [if_pos c4] at H
  have c4b0 : decide (t243 < 0) = true := decide_eq_true c4
  clear c4
  obtain rfl := Option.some.inj H
  go_enter Try.func5, Try.ntmps5
  go_wp2_with (first | ((with_reducible refine gate_dst (N := 2) rfl ?_); refine box_event ?hg (N := 2) ?hd (cs := #[.int .i64 a0_0, .slice A0_1 l0_1.length c0_1]) (t := 30) ?hr ?_; (case hd => rfl); (case hg => rfl); (case hr => first | (go_simp; done) | (go_simp; rfl)); intro gb241 hg w5 hbox hb; have n0_ := am (below_step (hbS HB.out) hb); have n1_ := am (hbox); have n2_ := am (gwL (hbS HB.out) hg); have n3_ := n2_; clear HB; have HB := n0_; have BK241 := n1_; have GW241 := n2_; have GE241 := n3_; clear n0_ n1_ n2_ n3_; clear hb hbox hg) | ((with_reducible refine gate_dst (N := 3) rfl ?_); refine box_event ?hg (N := 3) ?hd (cs := #[.int .i64 a1_0, .int .i64 a1_1, .int .i64 a1_2]) (t := 23) ?hr ?_; (case hd => rfl); (case hg => rfl); (case hr => first | (go_simp; done) | (go_simp; rfl)); intro gb242 hg w6 hbox hb; have n0_ := am (blk_below (bkS BK241.out) hb); have n1_ := am (below_step (by repeat (first | (with_reducible first | exact HB.out | apply below_alloc | apply pw_below_drewN | apply below_drew1 | refine below_set ?_ GE241.out) | exact HB.out)) hb); have n2_ := am (hbox); have n3_ := am (gwL (by repeat (first | (with_reducible first | exact HB.out | apply below_alloc | apply pw_below_drewN | apply below_drew1 | refine below_set ?_ GE241.out) | exact HB.out)) hg); have n4_ := n3_; have n5_ := am (nbL (bkS BK241.out) hg); have n6_ := am (nbG (bkS BK241.out) hg); clear BK241; clear HB; have BK241 := n0_; have HB := n1_; have BK242 := n2_; have GW242 := n3_; have GE242 := n4_; have NB241_242 := n5_; have NB242_241 := n6_; clear n0_ n1_ n2_ n3_ n4_ n5_ n6_; clear hb hbox hg; have hnb7 := NB241_242.out; have hnc7 := NB242_241.out; have hcz8_0 : w6.cell? ⟨gb241, 0, none⟩ = some (.int .i64 a0_0) := (blk_cell BK241.out 0).trans rfl; have hcz8_1 : w6.cell? ⟨gb241, 1, none⟩ = some (.slice A0_1 l0_1.length c0_1) := (blk_cell BK241.out 1).trans rfl; have hfz8_0 := blk_frozen BK241.out 0; have hfz8_1 := blk_frozen BK241.out 1) | ((with_reducible refine gate_callee (f := 10) rfl ?_); refine goesL_ (some 18) rfl rfl Try.func10 (by kernel_rfl) rfl #[.agg #[.int .i64 a0_0, .slice A0_1 l0_1.length c0_1], .int .i64 1048576] rfl (by (try simp only [List.map_toArray, List.map_cons, List.map_nil]); first | done | rfl | (simp only [List.length_drop, List.length_take]; rfl)) ?_; (with_reducible refine (laws_szPuzzle.calls a0_0 _ _ l0_1 1048576 t243 _ ?side1 ?side2 A3.out).mono ?_); (case side1 => repeat (first | exact (Kd.C_below HR0_1.out HB.out) | (with_reducible refine Kd.C_alloc ?_ _) | (with_reducible refine Kd.C_drewN ?_ _) | (with_reducible refine Kd.C_drew ?_))); (case side2 => exact HC0_1.out); rintro e w9 ⟨rfl, hb⟩; refine ⟨_, rfl, ?_⟩; have n0_ := am (blk_below (bkS BK241.out) hb); have n1_ := am (blk_below (bkS BK242.out) hb); have n2_ := am (below_step (by repeat (first | (with_reducible first | exact HB.out | apply below_alloc | apply pw_below_drewN | apply below_drew1 | refine below_set ?_ (Aside0.out (by assumption))) | exact HB.out)) hb); clear BK241; clear BK242; clear HB; have BK241 := n0_; have BK242 := n1_; have HB := n2_; clear n0_ n1_ n2_; (try clear hb); (try clear hb2); (try clear hk); (try clear hi)))
  go_ret
  exact ⟨by first | rfl | (simp [errW_none, errW_some] <;> rfl) | (simp [*, errW_none, errW_some] <;> rfl), by repeat (first | (with_reducible first | exact HB.out | apply below_alloc | apply pw_below_drewN | apply below_drew1 | refine below_set ?_ (Aside0.out (by assumption))) | exact HB.out)⟩
 ·rw [if_neg c4] at H
  have c4b0 : decide (t243 < 0) = false := decide_eq_false c4
  clear c4
  replace H := Option.bind_eq_some_iff.mp H
  obtain ⟨⟨t244, t245⟩, A100, H⟩ := H
  replace H : ((laws_toClue.f a1_0 a1_1 a1_2).bind fun bt248 => ((spec_AddClue.f k t244 t245 bt248.1 bt248.2.1 bt248.2.2).bind fun bt251 => ((laws_toPuzzle.f k a0_0 l0_1).bind fun bt257 => ((laws_toClue.f a1_0 a1_1 a1_2).bind fun bt262 => ((impl_AddClue.f k bt257.1 bt257.2 bt262.1 bt262.2.1 bt262.2.2).bind fun bt265 => ((laws_eqPuzzle.f k bt265.1 bt265.2.1 bt251.1 bt251.2.1).bind fun t271 => (if t271 = true then (laws_FnExactAddClue.j0 k bt251.2.2 bt265.2.2 (bt265.2.2 != bt251.2.2) a0_0 l0_1 a1_0 a1_1 a1_2 bt251.1 bt251.2.1 bt257.1 bt257.2 bt265.1 bt265.2.1) else (laws_FnExactAddClue.j0 k bt251.2.2 bt265.2.2 true a0_0 l0_1 a1_0 a1_1 a1_2 bt251.1 bt251.2.1 bt257.1 bt257.2 bt265.1 bt265.2.1)))))))) = some r := H
  have A10 := am A100
  clear A100
  replace H := Option.bind_eq_some_iff.mp H
  obtain ⟨⟨t248, t249, t250⟩, A110, H⟩ := H
  replace H : ((spec_AddClue.f k t244 t245 t248 t249 t250).bind fun bt251 => ((laws_toPuzzle.f k a0_0 l0_1).bind fun bt257 => ((laws_toClue.f a1_0 a1_1 a1_2).bind fun bt262 => ((impl_AddClue.f k bt257.1 bt257.2 bt262.1 bt262.2.1 bt262.2.2).bind fun bt265 => ((laws_eqPuzzle.f k bt265.1 bt265.2.1 bt251.1 bt251.2.1).bind fun t271 => (if t271 = true then (laws_FnExactAddClue.j0 k bt251.2.2 bt265.2.2 (bt265.2.2 != bt251.2.2) a0_0 l0_1 a1_0 a1_1 a1_2 bt251.1 bt251.2.1 bt257.1 bt257.2 bt265.1 bt265.2.1) else (laws_FnExactAddClue.j0 k bt251.2.2 bt265.2.2 true a0_0 l0_1 a1_0 a1_1 a1_2 bt251.1 bt251.2.1 bt257.1 bt257.2 bt265.1 bt265.2.1))))))) = some r := H
  have A11 := am A110
  clear A110
  replace H := Option.bind_eq_some_iff.mp H
  obtain ⟨⟨t251, t252, t255⟩, A120, H⟩ := H
  replace H : ((laws_toPuzzle.f k a0_0 l0_1).bind fun bt257 => ((laws_toClue.f a1_0 a1_1 a1_2).bind fun bt262 => ((impl_AddClue.f k bt257.1 bt257.2 bt262.1 bt262.2.1 bt262.2.2).bind fun bt265 => ((laws_eqPuzzle.f k bt265.1 bt265.2.1 t251 t252).bind fun t271 => (if t271 = true then (laws_FnExactAddClue.j0 k t255 bt265.2.2 (bt265.2.2 != t255) a0_0 l0_1 a1_0 a1_1 a1_2 t251 t252 bt257.1 bt257.2 bt265.1 bt265.2.1) else (laws_FnExactAddClue.j0 k t255 bt265.2.2 true a0_0 l0_1 a1_0 a1_1 a1_2 t251 t252 bt257.1 bt257.2 bt265.1 bt265.2.1)))))) = some r := H
  have A12 := am A120
  clear A120
  replace H := Option.bind_eq_some_iff.mp H
  obtain ⟨⟨t257, t258⟩, A130, H⟩ := H
  replace H : ((laws_toClue.f a1_0 a1_1 a1_2).bind fun bt262 => ((impl_AddClue.f k t257 t258 bt262.1 bt262.2.1 bt262.2.2).bind fun bt265 => ((laws_eqPuzzle.f k bt265.1 bt265.2.1 t251 t252).bind fun t271 => (if t271 = true then (laws_FnExactAddClue.j0 k t255 bt265.2.2 (bt265.2.2 != t255) a0_0 l0_1 a1_0 a1_1 a1_2 t251 t252 t257 t258 bt265.1 bt265.2.1) else (laws_FnExactAddClue.j0 k t255 bt265.2.2 true a0_0 l0_1 a1_0 a1_1 a1_2 t251 t252 t257 t258 bt265.1 bt265.2.1))))) = some r := H
  have A13 := am A130
  clear A130
  replace H := Option.bind_eq_some_iff.mp H
  obtain ⟨⟨t262, t263, t264⟩, A140, H⟩ := H
  replace H : ((impl_AddClue.f k t257 t258 t262 t263 t264).bind fun bt265 => ((laws_eqPuzzle.f k bt265.1 bt265.2.1 t251 t252).bind fun t271 => (if t271 = true then (laws_FnExactAddClue.j0 k t255 bt265.2.2 (bt265.2.2 != t255) a0_0 l0_1 a1_0 a1_1 a1_2 t251 t252 t257 t258 bt265.1 bt265.2.1) else (laws_FnExactAddClue.j0 k t255 bt265.2.2 true a0_0 l0_1 a1_0 a1_1 a1_2 t251 t252 t257 t258 bt265.1 bt265.2.1)))) = some r := H
  have A14 := am A140
  clear A140
  replace H := Option.bind_eq_some_iff.mp H
  obtain ⟨⟨t265, t266, t269⟩, A150, H⟩ := H
  replace H : ((laws_eqPuzzle.f k t265 t266 t251 t252).bind fun t271 => (if t271 = true then (laws_FnExactAddClue.j0 k t255 t269 (t269 != t255) a0_0 l0_1 a1_0 a1_1 a1_2 t251 t252 t257 t258 t265 t266) else (laws_FnExactAddClue.j0 k t255 t269 true a0_0 l0_1 a1_0 a1_1 a1_2 t251 t252 t257 t258 t265 t266))) = some r := H
  have A15 := am A150
  clear A150
  have HC16 := am H
  clear H
  go_enter Try.func5, Try.ntmps5
  try go_wp2_with (first | ((with_reducible refine gate_dst (N := 2) rfl ?_); refine box_event ?hg (N := 2) ?hd (cs := #[.int .i64 a0_0, .slice A0_1 l0_1.length c0_1]) (t := 30) ?hr ?_; (case hd => rfl); (case hg => rfl); (case hr => first | (go_simp; done) | (go_simp; rfl)); intro gb241 hg w17 hbox hb; have n0_ := am (below_step (hbS HB.out) hb); have n1_ := am (hbox); have n2_ := am (gwL (hbS HB.out) hg); have n3_ := n2_; clear HB; have HB := n0_; have BK241 := n1_; have GW241 := n2_; have GE241 := n3_; clear n0_ n1_ n2_ n3_; clear hb hbox hg) | ((with_reducible refine gate_dst (N := 3) rfl ?_); refine box_event ?hg (N := 3) ?hd (cs := #[.int .i64 a1_0, .int .i64 a1_1, .int .i64 a1_2]) (t := 23) ?hr ?_; (case hd => rfl); (case hg => rfl); (case hr => first | (go_simp; done) | (go_simp; rfl)); intro gb242 hg w18 hbox hb; have n0_ := am (blk_below (bkS BK241.out) hb); have n1_ := am (below_step (by repeat (first | (with_reducible first | exact HB.out | apply below_alloc | apply pw_below_drewN | apply below_drew1 | refine below_set ?_ GE241.out) | exact HB.out)) hb); have n2_ := am (hbox); have n3_ := am (gwL (by repeat (first | (with_reducible first | exact HB.out | apply below_alloc | apply pw_below_drewN | apply below_drew1 | refine below_set ?_ GE241.out) | exact HB.out)) hg); have n4_ := n3_; have n5_ := am (nbL (bkS BK241.out) hg); have n6_ := am (nbG (bkS BK241.out) hg); clear BK241; clear HB; have BK241 := n0_; have HB := n1_; have BK242 := n2_; have GW242 := n3_; have GE242 := n4_; have NB241_242 := n5_; have NB242_241 := n6_; clear n0_ n1_ n2_ n3_ n4_ n5_ n6_; clear hb hbox hg; have hnb19 := NB241_242.out; have hnc19 := NB242_241.out; have hcz20_0 : w18.cell? ⟨gb241, 0, none⟩ = some (.int .i64 a0_0) := (blk_cell BK241.out 0).trans rfl; have hcz20_1 : w18.cell? ⟨gb241, 1, none⟩ = some (.slice A0_1 l0_1.length c0_1) := (blk_cell BK241.out 1).trans rfl; have hfz20_0 := blk_frozen BK241.out 0; have hfz20_1 := blk_frozen BK241.out 1) | ((with_reducible refine gate_callee (f := 10) rfl ?_); refine goesL_ (some 18) rfl rfl Try.func10 (by kernel_rfl) rfl #[.agg #[.int .i64 a0_0, .slice A0_1 l0_1.length c0_1], .int .i64 1048576] rfl (by (try simp only [List.map_toArray, List.map_cons, List.map_nil]); first | done | rfl | (simp only [List.length_drop, List.length_take]; rfl)) ?_; (with_reducible refine (laws_szPuzzle.calls a0_0 _ _ l0_1 1048576 t243 _ ?side1 ?side2 A3.out).mono ?_); (case side1 => repeat (first | exact (Kd.C_below HR0_1.out HB.out) | (with_reducible refine Kd.C_alloc ?_ _) | (with_reducible refine Kd.C_drewN ?_ _) | (with_reducible refine Kd.C_drew ?_))); (case side2 => exact HC0_1.out); rintro e w21 ⟨rfl, hb⟩; refine ⟨_, rfl, ?_⟩; have n0_ := am (blk_below (bkS BK241.out) hb); have n1_ := am (blk_below (bkS BK242.out) hb); have n2_ := am (below_step (by repeat (first | (with_reducible first | exact HB.out | apply below_alloc | apply pw_below_drewN | apply below_drew1 | refine below_set ?_ (Aside0.out (by assumption))) | exact HB.out)) hb); clear BK241; clear BK242; clear HB; have BK241 := n0_; have BK242 := n1_; have HB := n2_; clear n0_ n1_ n2_; (try clear hb); (try clear hb2); (try clear hk); (try clear hi)))
  have n0_ := am (blk_drew BK241.out)
  have n1_ := am (blk_drew BK242.out)
  have n2_ := am (below_drew1 HB.out)
  clear BK241
  clear BK242
  clear HB
  have BK241 := n0_
  have BK242 := n1_
  have HB := n2_
  clear n0_ n1_ n2_
  refine start_ (n := 11) (S := fun w' => w'.cell? ⟨gb241, 0, none⟩ = some (.int .i64 a0_0) ∧ w'.cell? ⟨gb241, 1, none⟩ = some (.slice A0_1 l0_1.length c0_1) ∧ w'.cell? ⟨gb242, 0, none⟩ = some (.int .i64 a1_0) ∧ w'.cell? ⟨gb242, 1, none⟩ = some (.int .i64 a1_1) ∧ w'.cell? ⟨gb242, 2, none⟩ = some (.int .i64 a1_2)) (ds := []) #[false, false, false, false, false, false, false, false, false, false, false] (by kernel_rfl) rfl rfl ⟨(blk_cell BK241.out 0).trans rfl, (blk_cell BK241.out 1).trans rfl, (blk_cell BK242.out 0).trans rfl, (blk_cell BK242.out 1).trans rfl, (blk_cell BK242.out 2).trans rfl⟩ (fun hHeld => ?_); refine with_tabW laws_FnExactAddClue.tab5 laws_FnExactAddClue.bits5 (fun HT_ HW_ => ?_)
  generalize w21.drew = w22 at BK241 BK242 HB hHeld ⊢
  refine take_ (i := 0) (N := some 22) (v := ?_) (a' := ?_) #[true, false, false, false, false, false, false, false, false, false, false] rfl rfl (take_ofW HT_.out HW_.out (by kernel_rfl)) (fun _ _ _ h => h) (Or.inl ⟨by rfl, ?_⟩) hHeld ?_ ?_
  rotate_left
  ·rintro w' ⟨s0, s1, s2, s3, s4⟩
   go_simp
   with_reducible rfl
  rotate_left
  ·simp only [Act.put, List.setIfInBounds_toArray, List.set_cons_zero, List.set_cons_succ, i64_w, i32_w]
   rfl
  refine take_ (i := 2) (N := some 24) (v := ?_) (a' := ?_) #[true, false, true, false, false, false, false, false, false, false, false] rfl rfl (take_ofW HT_.out HW_.out (by kernel_rfl)) (fun _ _ _ h => h) (Or.inl ⟨by rfl, ?_⟩) hHeld ?_ ?_
  rotate_left
  ·rintro w' ⟨s0, s1, s2, s3, s4⟩
   go_simp
   with_reducible rfl
  rotate_left
  ·simp only [Act.put, List.setIfInBounds_toArray, List.set_cons_zero, List.set_cons_succ, i64_w, i32_w]
   rfl
  refine join_ (σ := Value × Value × Nat) 2 #[true, true, true, true, true, true, true, true, true, false, false] (fun s_ => [(23, .agg #[.int .i64 t244, s_.1]), (25, .agg #[.int .i64 t248, .int .i64 t249, .int .i64 t250]), (26, .tuple #[.agg #[.int .i64 t251, s_.2.1], .bool t255]), (6, .pointer (some ⟨s_.2.2, 0, none⟩)), (21, .tuple #[.agg #[.int .i64 t251, s_.2.1], .bool t255]), (27, .agg #[.int .i64 t251, s_.2.1]), (28, .bool t255)]) (fun s_ w' => (w'.cell? ⟨gb241, 0, none⟩ = some (.int .i64 a0_0) ∧ w'.cell? ⟨gb241, 1, none⟩ = some (.slice A0_1 l0_1.length c0_1) ∧ w'.cell? ⟨gb242, 0, none⟩ = some (.int .i64 a1_0) ∧ w'.cell? ⟨gb242, 1, none⟩ = some (.int .i64 a1_1) ∧ w'.cell? ⟨gb242, 2, none⟩ = some (.int .i64 a1_2)) ∧ (Kd.R k25 25 w' w.heap.size (fun k_ => some k_ ≠ (s_.2.1 : Value).ownBlock) s_.1 t245) ∧ (Kd.R k25 25 w' w.heap.size (fun k_ => some k_ ≠ (s_.1 : Value).ownBlock) s_.2.1 t252) ∧ (w'.heap[gb241]? = some (.cells #[.int .i64 a0_0, .slice A0_1 l0_1.length c0_1] 30 (0, 0))) ∧ (w'.heap[gb242]? = some (.cells #[.int .i64 a1_0, .int .i64 a1_1, .int .i64 a1_2] 23 (0, 0))) ∧ (w'.heap[s_.2.2]? = some (.cells #[.int .i64 0, .slice none 0 0] 35 (0, 0))) ∧ (w.heap.size ≤ s_.2.2) ∧ (w.heap.size ≤ s_.2.2) ∧ (gb241 ≠ s_.2.2) ∧ (s_.2.2 ≠ gb241) ∧ (gb242 ≠ s_.2.2) ∧ (s_.2.2 ≠ gb242) ∧ (Below w.heap.size w w')) ?_ ?_
  rotate_left
  ·intro hCont
   refine two_ (i := 1) (j := 8) (Ni := some 23) (Nj := some 6) #[true, true, true, false, false, false, false, false, false, false, false] #[true, false, true, false, false, false, false, false, true, false, false] rfl rfl rfl rfl (two_of HT_.out (by kernel_rfl)) (by decide) (by decide) (fun K hK => ?_) (fun K hK => ?_)
   ·skip
    refine goes_ Try.func12 (by kernel_rfl) rfl #[.agg #[.int .i64 a0_0, .slice A0_1 l0_1.length c0_1]] (by rfl) rfl rfl (by (try simp only [List.map_toArray, List.map_cons, List.map_nil]); first | done | rfl | (simp only [List.length_drop, List.length_take]; rfl)) ?_
    with_reducible refine (laws_toPuzzle.calls k a0_0 _ _ l0_1 t244 t245 _ ?side1 ?side2 A10.out).mono ?_
    (case side1 => repeat (first | exact (Kd.C_below HR0_1.out HB.out) | (with_reducible refine Kd.C_alloc ?_ _) | (with_reducible refine Kd.C_drewN ?_ _) | (with_reducible refine Kd.C_drew ?_)))
    (case side2 => exact HC0_1.out)
    rintro e w23 ⟨v246, rfl, ho0, hb⟩
    refine ⟨_, rfl, ?_⟩
    have n0_ := am (Kd.R_lower ho0 (below_size (by repeat (first | (with_reducible first | exact HB.out | apply below_alloc | apply pw_below_drewN | apply below_drew1 | refine below_set ?_ (Aside0.out (by assumption))) | exact HB.out))))
    have n1_ := am (blk_below (bkS BK241.out) hb)
    have n2_ := am (blk_below (bkS BK242.out) hb)
    have n3_ := am (below_step (by repeat (first | (with_reducible first | exact HB.out | apply below_alloc | apply pw_below_drewN | apply below_drew1 | refine below_set ?_ (Aside0.out (by assumption))) | exact HB.out)) hb)
    clear BK241
    clear BK242
    clear HB
    have HO247 := n0_
    have BK241 := n1_
    have BK242 := n2_
    have HB := n3_
    clear n0_ n1_ n2_ n3_
    (try clear hb)
    (try clear hb2)
    (try clear hk)
    (try clear hi)
    (try clear ho0)
    refine hK.out _ _ ⟨(blk_cell BK241.out 0).trans rfl, (blk_cell BK241.out 1).trans rfl, (blk_cell BK242.out 0).trans rfl, (blk_cell BK242.out 1).trans rfl, (blk_cell BK242.out 2).trans rfl⟩ (fun hHeld => ?_)
    clear hK K
    refine norm_ (a' := ?_) ?_ ?_
    rotate_left
    ·show Act.put _ (some 23) _ = _
     simp only [Act.put, List.setIfInBounds_toArray, List.set_cons_zero, List.set_cons_succ, i64_w, i32_w]
     rfl
    refine two_ (i := 3) (j := 8) (Ni := some 25) (Nj := some 6) #[true, true, true, true, false, false, false, false, false, false, false] #[true, true, true, false, false, false, false, false, true, false, false] rfl rfl rfl rfl (two_of HT_.out (by kernel_rfl)) (by decide) (by decide) (fun K hK => ?_) (fun K hK => ?_)
    ·skip
     refine goes_ Try.func8 (by kernel_rfl) rfl #[.agg #[.int .i64 a1_0, .int .i64 a1_1, .int .i64 a1_2]] (by rfl) rfl rfl (by (try simp only [List.map_toArray, List.map_cons, List.map_nil]); first | done | rfl | (simp only [List.length_drop, List.length_take]; rfl)) ?_
     with_reducible refine (laws_toClue.calls a1_0 a1_1 a1_2 t248 t249 t250 _ A11.out).mono ?_
     rintro e w24 ⟨rfl, hb⟩
     refine ⟨_, rfl, ?_⟩
     have n0_ := am (Kd.R_below (roS HO247.out) hb)
     have n1_ := am (blk_below (bkS BK241.out) hb)
     have n2_ := am (blk_below (bkS BK242.out) hb)
     have n3_ := am (below_step (by repeat (first | (with_reducible first | exact HB.out | apply below_alloc | apply pw_below_drewN | apply below_drew1 | refine below_set ?_ (Aside0.out (by assumption))) | exact HB.out)) hb)
     clear HO247
     clear BK241
     clear BK242
     clear HB
     have HO247 := n0_
     have BK241 := n1_
     have BK242 := n2_
     have HB := n3_
     clear n0_ n1_ n2_ n3_
     (try clear hb)
     (try clear hb2)
     (try clear hk)
     (try clear hi)
     obtain ⟨Ao25, co25, eo25⟩ := Kd.R_slice HO247.out
     (first | subst eo25 | (injection eo25 with f1_ f2_ f3_; have f4_ := f1_.symm; have f5_ := f3_.symm; clear f1_ f2_ f3_; subst f4_; subst f5_))
     refine hK.out _ _ ⟨(blk_cell BK241.out 0).trans rfl, (blk_cell BK241.out 1).trans rfl, (blk_cell BK242.out 0).trans rfl, (blk_cell BK242.out 1).trans rfl, (blk_cell BK242.out 2).trans rfl⟩ (fun hHeld => ?_)
     clear hK K
     refine norm_ (a' := ?_) ?_ ?_
     rotate_left
     ·show Act.put _ (some 25) _ = _
      simp only [Act.put, List.setIfInBounds_toArray, List.set_cons_zero, List.set_cons_succ, i64_w, i32_w]
      rfl
     refine two_ (i := 4) (j := 8) (Ni := some 26) (Nj := some 6) #[true, true, true, true, true, false, false, false, false, false, false] #[true, true, true, true, false, false, false, false, true, false, false] rfl rfl rfl rfl (two_of HT_.out (by kernel_rfl)) (by decide) (by decide) (fun K hK => ?_) (fun K hK => ?_)
     ·skip
      refine goes_ Try.func15 (by kernel_rfl) rfl #[.agg #[.int .i64 t244, .slice Ao25 t245.length co25], .agg #[.int .i64 t248, .int .i64 t249, .int .i64 t250]] (by rfl) rfl rfl (by (try simp only [List.map_toArray, List.map_cons, List.map_nil]); first | done | rfl | (simp only [List.length_drop, List.length_take]; rfl)) ?_
      with_reducible refine (spec_AddClue.calls k t244 _ _ t245 t248 t249 t250 t251 t252 t255 _ ?side1 ?side2 A12.out).mono ?_
      (case side1 => repeat (first | exact (Kd.R_reads' HO247.out).2.2 | (with_reducible refine Kd.C_alloc ?_ _) | (with_reducible refine Kd.C_drewN ?_ _) | (with_reducible refine Kd.C_drew ?_)))
      (case side2 => exact (Kd.R_reads' HO247.out).2.1)
      rintro e w26 ⟨v253, rfl, ho0, hb⟩
      refine ⟨_, rfl, ?_⟩
      have n0_ := am (Kd.R_elder' (roS HO247.out) (Kd.R_base ho0) hb)
      have n1_ := am (Kd.R_lower (Kd.R_new' ho0 (Kd.R_lt (roS HO247.out))) (below_size (by repeat (first | (with_reducible first | exact HB.out | apply below_alloc | apply pw_below_drewN | apply below_drew1 | refine below_set ?_ (Aside0.out (by assumption))) | exact HB.out))))
      have n2_ := am (blk_below (bkS BK241.out) hb)
      have n3_ := am (blk_below (bkS BK242.out) hb)
      have n4_ := am (below_step (by repeat (first | (with_reducible first | exact HB.out | apply below_alloc | apply pw_below_drewN | apply below_drew1 | refine below_set ?_ (Aside0.out (by assumption))) | exact HB.out)) hb)
      clear HO247
      clear BK241
      clear BK242
      clear HB
      have HO247 := n0_
      have HO254 := n1_
      have BK241 := n2_
      have BK242 := n3_
      have HB := n4_
      clear n0_ n1_ n2_ n3_ n4_
      (try clear hb)
      (try clear hb2)
      (try clear hk)
      (try clear hi)
      (try clear ho0)
      refine hK.out _ _ ⟨(blk_cell BK241.out 0).trans rfl, (blk_cell BK241.out 1).trans rfl, (blk_cell BK242.out 0).trans rfl, (blk_cell BK242.out 1).trans rfl, (blk_cell BK242.out 2).trans rfl⟩ (fun hHeld => ?_)
      clear hK K
      refine norm_ (a' := ?_) ?_ ?_
      rotate_left
      ·show Act.put _ (some 26) _ = _
       simp only [Act.put, List.setIfInBounds_toArray, List.set_cons_zero, List.set_cons_succ, i64_w, i32_w]
       rfl
      refine pure_ (i := 5) (N := some 21) (v := ?_) (a' := ?_) #[true, true, true, true, true, true, false, false, false, false, false] rfl rfl (any_of HT_.out (by kernel_rfl)) (fun _ _ _ h => h) (Or.inl ⟨by rfl, ?_⟩) ?_ ?_
      rotate_left
      ·intro w'
       go_simp
       with_reducible rfl
      rotate_left
      ·simp only [Act.put, List.setIfInBounds_toArray, List.set_cons_zero, List.set_cons_succ, i64_w, i32_w]
       rfl
      refine pure_ (i := 6) (N := some 27) (v := ?_) (a' := ?_) #[true, true, true, true, true, true, true, false, false, false, false] rfl rfl (any_of HT_.out (by kernel_rfl)) (fun _ _ _ h => h) (Or.inl ⟨by rfl, ?_⟩) ?_ ?_
      rotate_left
      ·intro w'
       go_simp
       with_reducible rfl
      rotate_left
      ·simp only [Act.put, List.setIfInBounds_toArray, List.set_cons_zero, List.set_cons_succ, i64_w, i32_w]
       rfl
      refine pure_ (i := 7) (N := some 28) (v := ?_) (a' := ?_) #[true, true, true, true, true, true, true, true, false, false, false] rfl rfl (any_of HT_.out (by kernel_rfl)) (fun _ _ _ h => h) (Or.inl ⟨by rfl, ?_⟩) ?_ ?_
      rotate_left
      ·intro w'
       go_simp
       with_reducible rfl
      rotate_left
      ·simp only [Act.put, List.setIfInBounds_toArray, List.set_cons_zero, List.set_cons_succ, i64_w, i32_w]
       rfl
      refine one_ (i := 8) (N := some 6) #[true, true, true, true, true, true, true, true, true, false, false] rfl rfl (one_of HT_.out (by kernel_rfl)) (by decide) (fun K hK => ?_)
      refine box_step ?hg (N := 6) ?hd (cs := #[.int .i64 0, .slice none 0 0]) (t := 35) ?hr ?_; (case hd => rfl); (case hg => rfl); (case hr => first | (go_simp; done) | (go_simp; rfl))
      intro gb256 hg w27 hbox hb
      have n0_ := am (Kd.R_below (roS HO247.out) hb)
      have n1_ := am (Kd.R_below (roS HO254.out) hb)
      have n2_ := am (blk_below (bkS BK241.out) hb)
      have n3_ := am (blk_below (bkS BK242.out) hb)
      have n4_ := am (below_step (by repeat (first | (with_reducible first | exact HB.out | apply below_alloc | apply pw_below_drewN | apply below_drew1 | refine below_set ?_ (Aside0.out (by assumption))) | exact HB.out)) hb)
      have n5_ := am (hbox)
      have n6_ := am ((by rw [hg]; exact (below_size (by repeat (first | (with_reducible first | exact HB.out | apply below_alloc | apply pw_below_drewN | apply below_drew1 | refine below_set ?_ (Aside0.out (by assumption))) | exact HB.out))) : w.heap.size ≤ gb256))
      have n7_ := am ((by rw [hg]; exact (below_size (by repeat (first | (with_reducible first | exact HB.out | apply below_alloc | apply pw_below_drewN | apply below_drew1 | refine below_set ?_ (Aside0.out (by assumption))) | exact HB.out))) : w.heap.size ≤ gb256))
      have n8_ := am (nbL (bkS BK241.out) hg)
      have n9_ := am (nbG (bkS BK241.out) hg)
      have n10_ := am (nbL (bkS BK242.out) hg)
      have n11_ := am (nbG (bkS BK242.out) hg)
      clear HO247
      clear HO254
      clear BK241
      clear BK242
      clear HB
      have HO247 := n0_
      have HO254 := n1_
      have BK241 := n2_
      have BK242 := n3_
      have HB := n4_
      have BK256 := n5_
      have GW256 := n6_
      have GE256 := n7_
      have NB241_256 := n8_
      have NB256_241 := n9_
      have NB242_256 := n10_
      have NB256_242 := n11_
      clear n0_ n1_ n2_ n3_ n4_ n5_ n6_ n7_ n8_ n9_ n10_ n11_
      clear hb hbox hg
      refine hK.out _ _ ⟨(blk_cell BK241.out 0).trans rfl, (blk_cell BK241.out 1).trans rfl, (blk_cell BK242.out 0).trans rfl, (blk_cell BK242.out 1).trans rfl, (blk_cell BK242.out 2).trans rfl⟩ (fun hHeld => ?_)
      clear hK K
      refine norm_ (a' := ?_) ?_ ?_
      rotate_left
      ·show Act.put _ (some 6) _ = _
       simp only [Act.put, List.setIfInBounds_toArray, List.set_cons_zero, List.set_cons_succ, i64_w, i32_w]
       rfl
      exact norm_ (by simp only [putAll, Act.put, List.setIfInBounds_toArray, List.set_cons_zero, List.set_cons_succ]) (hCont (.slice Ao25 t245.length co25, v253, gb256) _ ⟨hHeld, (by (with_reducible repeat (first | apply Kd.R_alloc | apply Kd.R_drewN | apply Kd.R_drew)); exact Kd.R_mono HO247.out (fun _ hk => hk.2)), (by (with_reducible repeat (first | apply Kd.R_alloc | apply Kd.R_drewN | apply Kd.R_drew)); exact Kd.R_mono HO254.out (fun _ hk => hk.2)), (bkS BK241.out), (bkS BK242.out), (bkS BK256.out), GW256.out, GE256.out, NB241_256.out, NB256_241.out, NB242_256.out, NB256_242.out, (by repeat (first | (with_reducible first | exact HB.out | apply below_alloc | apply pw_below_drewN | apply below_drew1 | refine below_set ?_ (Aside0.out (by assumption))) | exact HB.out))⟩)
     ·skip
      refine box_step ?hg (N := 6) ?hd (cs := #[.int .i64 0, .slice none 0 0]) (t := 35) ?hr ?_; (case hd => rfl); (case hg => rfl); (case hr => first | (go_simp; done) | (go_simp; rfl))
      intro gb256 hg w25 hbox hb
      have n0_ := am (Kd.R_below (roS HO247.out) hb)
      have n1_ := am (blk_below (bkS BK241.out) hb)
      have n2_ := am (blk_below (bkS BK242.out) hb)
      have n3_ := am (below_step (by repeat (first | (with_reducible first | exact HB.out | apply below_alloc | apply pw_below_drewN | apply below_drew1 | refine below_set ?_ (Aside0.out (by assumption))) | exact HB.out)) hb)
      have n4_ := am (hbox)
      have n5_ := am ((by rw [hg]; exact (below_size (by repeat (first | (with_reducible first | exact HB.out | apply below_alloc | apply pw_below_drewN | apply below_drew1 | refine below_set ?_ (Aside0.out (by assumption))) | exact HB.out))) : w.heap.size ≤ gb256))
      have n6_ := am ((by rw [hg]; exact (below_size (by repeat (first | (with_reducible first | exact HB.out | apply below_alloc | apply pw_below_drewN | apply below_drew1 | refine below_set ?_ (Aside0.out (by assumption))) | exact HB.out))) : w.heap.size ≤ gb256))
      have n7_ := am (nbL (bkS BK241.out) hg)
      have n8_ := am (nbG (bkS BK241.out) hg)
      have n9_ := am (nbL (bkS BK242.out) hg)
      have n10_ := am (nbG (bkS BK242.out) hg)
      clear HO247
      clear BK241
      clear BK242
      clear HB
      have HO247 := n0_
      have BK241 := n1_
      have BK242 := n2_
      have HB := n3_
      have BK256 := n4_
      have GW256 := n5_
      have GE256 := n6_
      have NB241_256 := n7_
      have NB256_241 := n8_
      have NB242_256 := n9_
      have NB256_242 := n10_
      clear n0_ n1_ n2_ n3_ n4_ n5_ n6_ n7_ n8_ n9_ n10_
      clear hb hbox hg
      obtain ⟨Ao26, co26, eo26⟩ := Kd.R_slice HO247.out
      (first | subst eo26 | (injection eo26 with f1_ f2_ f3_; have f4_ := f1_.symm; have f5_ := f3_.symm; clear f1_ f2_ f3_; subst f4_; subst f5_))
      refine hK.out _ _ ⟨(blk_cell BK241.out 0).trans rfl, (blk_cell BK241.out 1).trans rfl, (blk_cell BK242.out 0).trans rfl, (blk_cell BK242.out 1).trans rfl, (blk_cell BK242.out 2).trans rfl⟩ (fun hHeld => ?_)
      clear hK K
      refine norm_ (a' := ?_) ?_ ?_
      rotate_left
      ·show Act.put _ (some 6) _ = _
       simp only [Act.put, List.setIfInBounds_toArray, List.set_cons_zero, List.set_cons_succ, i64_w, i32_w]
       rfl
      refine one_ (i := 4) (N := some 26) #[true, true, true, true, true, false, false, false, true, false, false] rfl rfl (one_of HT_.out (by kernel_rfl)) (by decide) (fun K hK => ?_)
      refine goes_ Try.func15 (by kernel_rfl) rfl #[.agg #[.int .i64 t244, .slice Ao26 t245.length co26], .agg #[.int .i64 t248, .int .i64 t249, .int .i64 t250]] (by rfl) rfl rfl (by (try simp only [List.map_toArray, List.map_cons, List.map_nil]); first | done | rfl | (simp only [List.length_drop, List.length_take]; rfl)) ?_
      with_reducible refine (spec_AddClue.calls k t244 _ _ t245 t248 t249 t250 t251 t252 t255 _ ?side1 ?side2 A12.out).mono ?_
      (case side1 => repeat (first | exact (Kd.R_reads' HO247.out).2.2 | (with_reducible refine Kd.C_alloc ?_ _) | (with_reducible refine Kd.C_drewN ?_ _) | (with_reducible refine Kd.C_drew ?_)))
      (case side2 => exact (Kd.R_reads' HO247.out).2.1)
      rintro e w27 ⟨v253, rfl, ho0, hb⟩
      refine ⟨_, rfl, ?_⟩
      have n0_ := am (Kd.R_elder' (roS HO247.out) (Kd.R_base ho0) hb)
      have n1_ := am (Kd.R_lower (Kd.R_new' ho0 (Kd.R_lt (roS HO247.out))) (below_size (by repeat (first | (with_reducible first | exact HB.out | apply below_alloc | apply pw_below_drewN | apply below_drew1 | refine below_set ?_ (Aside0.out (by assumption))) | exact HB.out))))
      have n2_ := am (blk_below (bkS BK241.out) hb)
      have n3_ := am (blk_below (bkS BK242.out) hb)
      have n4_ := am (blk_below (bkS BK256.out) hb)
      have n5_ := am (below_step (by repeat (first | (with_reducible first | exact HB.out | apply below_alloc | apply pw_below_drewN | apply below_drew1 | refine below_set ?_ (Aside0.out (by assumption))) | exact HB.out)) hb)
      clear HO247
      clear BK241
      clear BK242
      clear BK256
      clear HB
      have HO247 := n0_
      have HO254 := n1_
      have BK241 := n2_
      have BK242 := n3_
      have BK256 := n4_
      have HB := n5_
      clear n0_ n1_ n2_ n3_ n4_ n5_
      (try clear hb)
      (try clear hb2)
      (try clear hk)
      (try clear hi)
      (try clear ho0)
      refine hK.out _ _ ⟨(blk_cell BK241.out 0).trans rfl, (blk_cell BK241.out 1).trans rfl, (blk_cell BK242.out 0).trans rfl, (blk_cell BK242.out 1).trans rfl, (blk_cell BK242.out 2).trans rfl⟩ (fun hHeld => ?_)
      clear hK K
      refine norm_ (a' := ?_) ?_ ?_
      rotate_left
      ·show Act.put _ (some 26) _ = _
       simp only [Act.put, List.setIfInBounds_toArray, List.set_cons_zero, List.set_cons_succ, i64_w, i32_w]
       rfl
      refine pure_ (i := 5) (N := some 21) (v := ?_) (a' := ?_) #[true, true, true, true, true, true, false, false, true, false, false] rfl rfl (any_of HT_.out (by kernel_rfl)) (fun _ _ _ h => h) (Or.inl ⟨by rfl, ?_⟩) ?_ ?_
      rotate_left
      ·intro w'
       go_simp
       with_reducible rfl
      rotate_left
      ·simp only [Act.put, List.setIfInBounds_toArray, List.set_cons_zero, List.set_cons_succ, i64_w, i32_w]
       rfl
      refine pure_ (i := 6) (N := some 27) (v := ?_) (a' := ?_) #[true, true, true, true, true, true, true, false, true, false, false] rfl rfl (any_of HT_.out (by kernel_rfl)) (fun _ _ _ h => h) (Or.inl ⟨by rfl, ?_⟩) ?_ ?_
      rotate_left
      ·intro w'
       go_simp
       with_reducible rfl
      rotate_left
      ·simp only [Act.put, List.setIfInBounds_toArray, List.set_cons_zero, List.set_cons_succ, i64_w, i32_w]
       rfl
      refine pure_ (i := 7) (N := some 28) (v := ?_) (a' := ?_) #[true, true, true, true, true, true, true, true, true, false, false] rfl rfl (any_of HT_.out (by kernel_rfl)) (fun _ _ _ h => h) (Or.inl ⟨by rfl, ?_⟩) ?_ ?_
      rotate_left
      ·intro w'
       go_simp
       with_reducible rfl
      rotate_left
      ·simp only [Act.put, List.setIfInBounds_toArray, List.set_cons_zero, List.set_cons_succ, i64_w, i32_w]
       rfl
      exact norm_ (by simp only [putAll, Act.put, List.setIfInBounds_toArray, List.set_cons_zero, List.set_cons_succ]) (hCont (.slice Ao26 t245.length co26, v253, gb256) _ ⟨hHeld, (by (with_reducible repeat (first | apply Kd.R_alloc | apply Kd.R_drewN | apply Kd.R_drew)); exact Kd.R_mono HO247.out (fun _ hk => hk.2)), (by (with_reducible repeat (first | apply Kd.R_alloc | apply Kd.R_drewN | apply Kd.R_drew)); exact Kd.R_mono HO254.out (fun _ hk => hk.2)), (bkS BK241.out), (bkS BK242.out), (bkS BK256.out), GW256.out, GE256.out, NB241_256.out, NB256_241.out, NB242_256.out, NB256_242.out, (by repeat (first | (with_reducible first | exact HB.out | apply below_alloc | apply pw_below_drewN | apply below_drew1 | refine below_set ?_ (Aside0.out (by assumption))) | exact HB.out))⟩)
    ·skip
     refine box_step ?hg (N := 6) ?hd (cs := #[.int .i64 0, .slice none 0 0]) (t := 35) ?hr ?_; (case hd => rfl); (case hg => rfl); (case hr => first | (go_simp; done) | (go_simp; rfl))
     intro gb256 hg w24 hbox hb
     have n0_ := am (Kd.R_below (roS HO247.out) hb)
     have n1_ := am (blk_below (bkS BK241.out) hb)
     have n2_ := am (blk_below (bkS BK242.out) hb)
     have n3_ := am (below_step (by repeat (first | (with_reducible first | exact HB.out | apply below_alloc | apply pw_below_drewN | apply below_drew1 | refine below_set ?_ (Aside0.out (by assumption))) | exact HB.out)) hb)
     have n4_ := am (hbox)
     have n5_ := am ((by rw [hg]; exact (below_size (by repeat (first | (with_reducible first | exact HB.out | apply below_alloc | apply pw_below_drewN | apply below_drew1 | refine below_set ?_ (Aside0.out (by assumption))) | exact HB.out))) : w.heap.size ≤ gb256))
     have n6_ := am ((by rw [hg]; exact (below_size (by repeat (first | (with_reducible first | exact HB.out | apply below_alloc | apply pw_below_drewN | apply below_drew1 | refine below_set ?_ (Aside0.out (by assumption))) | exact HB.out))) : w.heap.size ≤ gb256))
     have n7_ := am (nbL (bkS BK241.out) hg)
     have n8_ := am (nbG (bkS BK241.out) hg)
     have n9_ := am (nbL (bkS BK242.out) hg)
     have n10_ := am (nbG (bkS BK242.out) hg)
     clear HO247
     clear BK241
     clear BK242
     clear HB
     have HO247 := n0_
     have BK241 := n1_
     have BK242 := n2_
     have HB := n3_
     have BK256 := n4_
     have GW256 := n5_
     have GE256 := n6_
     have NB241_256 := n7_
     have NB256_241 := n8_
     have NB242_256 := n9_
     have NB256_242 := n10_
     clear n0_ n1_ n2_ n3_ n4_ n5_ n6_ n7_ n8_ n9_ n10_
     clear hb hbox hg
     refine hK.out _ _ ⟨(blk_cell BK241.out 0).trans rfl, (blk_cell BK241.out 1).trans rfl, (blk_cell BK242.out 0).trans rfl, (blk_cell BK242.out 1).trans rfl, (blk_cell BK242.out 2).trans rfl⟩ (fun hHeld => ?_)
     clear hK K
     refine norm_ (a' := ?_) ?_ ?_
     rotate_left
     ·show Act.put _ (some 6) _ = _
      simp only [Act.put, List.setIfInBounds_toArray, List.set_cons_zero, List.set_cons_succ, i64_w, i32_w]
      rfl
     refine one_ (i := 3) (N := some 25) #[true, true, true, true, false, false, false, false, true, false, false] rfl rfl (one_of HT_.out (by kernel_rfl)) (by decide) (fun K hK => ?_)
     refine goes_ Try.func8 (by kernel_rfl) rfl #[.agg #[.int .i64 a1_0, .int .i64 a1_1, .int .i64 a1_2]] (by rfl) rfl rfl (by (try simp only [List.map_toArray, List.map_cons, List.map_nil]); first | done | rfl | (simp only [List.length_drop, List.length_take]; rfl)) ?_
     with_reducible refine (laws_toClue.calls a1_0 a1_1 a1_2 t248 t249 t250 _ A11.out).mono ?_
     rintro e w25 ⟨rfl, hb⟩
     refine ⟨_, rfl, ?_⟩
     have n0_ := am (Kd.R_below (roS HO247.out) hb)
     have n1_ := am (blk_below (bkS BK241.out) hb)
     have n2_ := am (blk_below (bkS BK242.out) hb)
     have n3_ := am (blk_below (bkS BK256.out) hb)
     have n4_ := am (below_step (by repeat (first | (with_reducible first | exact HB.out | apply below_alloc | apply pw_below_drewN | apply below_drew1 | refine below_set ?_ (Aside0.out (by assumption))) | exact HB.out)) hb)
     clear HO247
     clear BK241
     clear BK242
     clear BK256
     clear HB
     have HO247 := n0_
     have BK241 := n1_
     have BK242 := n2_
     have BK256 := n3_
     have HB := n4_
     clear n0_ n1_ n2_ n3_ n4_
     (try clear hb)
     (try clear hb2)
     (try clear hk)
     (try clear hi)
     obtain ⟨Ao26, co26, eo26⟩ := Kd.R_slice HO247.out
     (first | subst eo26 | (injection eo26 with f1_ f2_ f3_; have f4_ := f1_.symm; have f5_ := f3_.symm; clear f1_ f2_ f3_; subst f4_; subst f5_))
     refine hK.out _ _ ⟨(blk_cell BK241.out 0).trans rfl, (blk_cell BK241.out 1).trans rfl, (blk_cell BK242.out 0).trans rfl, (blk_cell BK242.out 1).trans rfl, (blk_cell BK242.out 2).trans rfl⟩ (fun hHeld => ?_)
     clear hK K
     refine norm_ (a' := ?_) ?_ ?_
     rotate_left
     ·show Act.put _ (some 25) _ = _
      simp only [Act.put, List.setIfInBounds_toArray, List.set_cons_zero, List.set_cons_succ, i64_w, i32_w]
      rfl
     refine one_ (i := 4) (N := some 26) #[true, true, true, true, true, false, false, false, true, false, false] rfl rfl (one_of HT_.out (by kernel_rfl)) (by decide) (fun K hK => ?_)
     refine goes_ Try.func15 (by kernel_rfl) rfl #[.agg #[.int .i64 t244, .slice Ao26 t245.length co26], .agg #[.int .i64 t248, .int .i64 t249, .int .i64 t250]] (by rfl) rfl rfl (by (try simp only [List.map_toArray, List.map_cons, List.map_nil]); first | done | rfl | (simp only [List.length_drop, List.length_take]; rfl)) ?_
     with_reducible refine (spec_AddClue.calls k t244 _ _ t245 t248 t249 t250 t251 t252 t255 _ ?side1 ?side2 A12.out).mono ?_
     (case side1 => repeat (first | exact (Kd.R_reads' HO247.out).2.2 | (with_reducible refine Kd.C_alloc ?_ _) | (with_reducible refine Kd.C_drewN ?_ _) | (with_reducible refine Kd.C_drew ?_)))
     (case side2 => exact (Kd.R_reads' HO247.out).2.1)
     rintro e w27 ⟨v253, rfl, ho0, hb⟩
     refine ⟨_, rfl, ?_⟩
     have n0_ := am (Kd.R_elder' (roS HO247.out) (Kd.R_base ho0) hb)
     have n1_ := am (Kd.R_lower (Kd.R_new' ho0 (Kd.R_lt (roS HO247.out))) (below_size (by repeat (first | (with_reducible first | exact HB.out | apply below_alloc | apply pw_below_drewN | apply below_drew1 | refine below_set ?_ (Aside0.out (by assumption))) | exact HB.out))))
     have n2_ := am (blk_below (bkS BK241.out) hb)
     have n3_ := am (blk_below (bkS BK242.out) hb)
     have n4_ := am (blk_below (bkS BK256.out) hb)
     have n5_ := am (below_step (by repeat (first | (with_reducible first | exact HB.out | apply below_alloc | apply pw_below_drewN | apply below_drew1 | refine below_set ?_ (Aside0.out (by assumption))) | exact HB.out)) hb)
     clear HO247
     clear BK241
     clear BK242
     clear BK256
     clear HB
     have HO247 := n0_
     have HO254 := n1_
     have BK241 := n2_
     have BK242 := n3_
     have BK256 := n4_
     have HB := n5_
     clear n0_ n1_ n2_ n3_ n4_ n5_
     (try clear hb)
     (try clear hb2)
     (try clear hk)
     (try clear hi)
     (try clear ho0)
     refine hK.out _ _ ⟨(blk_cell BK241.out 0).trans rfl, (blk_cell BK241.out 1).trans rfl, (blk_cell BK242.out 0).trans rfl, (blk_cell BK242.out 1).trans rfl, (blk_cell BK242.out 2).trans rfl⟩ (fun hHeld => ?_)
     clear hK K
     refine norm_ (a' := ?_) ?_ ?_
     rotate_left
     ·show Act.put _ (some 26) _ = _
      simp only [Act.put, List.setIfInBounds_toArray, List.set_cons_zero, List.set_cons_succ, i64_w, i32_w]
      rfl
     refine pure_ (i := 5) (N := some 21) (v := ?_) (a' := ?_) #[true, true, true, true, true, true, false, false, true, false, false] rfl rfl (any_of HT_.out (by kernel_rfl)) (fun _ _ _ h => h) (Or.inl ⟨by rfl, ?_⟩) ?_ ?_
     rotate_left
     ·intro w'
      go_simp
      with_reducible rfl
     rotate_left
     ·simp only [Act.put, List.setIfInBounds_toArray, List.set_cons_zero, List.set_cons_succ, i64_w, i32_w]
      rfl
     refine pure_ (i := 6) (N := some 27) (v := ?_) (a' := ?_) #[true, true, true, true, true, true, true, false, true, false, false] rfl rfl (any_of HT_.out (by kernel_rfl)) (fun _ _ _ h => h) (Or.inl ⟨by rfl, ?_⟩) ?_ ?_
     rotate_left
     ·intro w'
      go_simp
      with_reducible rfl
     rotate_left
     ·simp only [Act.put, List.setIfInBounds_toArray, List.set_cons_zero, List.set_cons_succ, i64_w, i32_w]
      rfl
     refine pure_ (i := 7) (N := some 28) (v := ?_) (a' := ?_) #[true, true, true, true, true, true, true, true, true, false, false] rfl rfl (any_of HT_.out (by kernel_rfl)) (fun _ _ _ h => h) (Or.inl ⟨by rfl, ?_⟩) ?_ ?_
     rotate_left
     ·intro w'
      go_simp
      with_reducible rfl
     rotate_left
     ·simp only [Act.put, List.setIfInBounds_toArray, List.set_cons_zero, List.set_cons_succ, i64_w, i32_w]
      rfl
     exact norm_ (by simp only [putAll, Act.put, List.setIfInBounds_toArray, List.set_cons_zero, List.set_cons_succ]) (hCont (.slice Ao26 t245.length co26, v253, gb256) _ ⟨hHeld, (by (with_reducible repeat (first | apply Kd.R_alloc | apply Kd.R_drewN | apply Kd.R_drew)); exact Kd.R_mono HO247.out (fun _ hk => hk.2)), (by (with_reducible repeat (first | apply Kd.R_alloc | apply Kd.R_drewN | apply Kd.R_drew)); exact Kd.R_mono HO254.out (fun _ hk => hk.2)), (bkS BK241.out), (bkS BK242.out), (bkS BK256.out), GW256.out, GE256.out, NB241_256.out, NB256_241.out, NB242_256.out, NB256_242.out, (by repeat (first | (with_reducible first | exact HB.out | apply below_alloc | apply pw_below_drewN | apply below_drew1 | refine below_set ?_ (Aside0.out (by assumption))) | exact HB.out))⟩)
   ·skip
    refine box_step ?hg (N := 6) ?hd (cs := #[.int .i64 0, .slice none 0 0]) (t := 35) ?hr ?_; (case hd => rfl); (case hg => rfl); (case hr => first | (go_simp; done) | (go_simp; rfl))
    intro gb256 hg w23 hbox hb
    have n0_ := am (blk_below (bkS BK241.out) hb)
    have n1_ := am (blk_below (bkS BK242.out) hb)
    have n2_ := am (below_step (by repeat (first | (with_reducible first | exact HB.out | apply below_alloc | apply pw_below_drewN | apply below_drew1 | refine below_set ?_ (Aside0.out (by assumption))) | exact HB.out)) hb)
    have n3_ := am (hbox)
    have n4_ := am ((by rw [hg]; exact (below_size (by repeat (first | (with_reducible first | exact HB.out | apply below_alloc | apply pw_below_drewN | apply below_drew1 | refine below_set ?_ (Aside0.out (by assumption))) | exact HB.out))) : w.heap.size ≤ gb256))
    have n5_ := am ((by rw [hg]; exact (below_size (by repeat (first | (with_reducible first | exact HB.out | apply below_alloc | apply pw_below_drewN | apply below_drew1 | refine below_set ?_ (Aside0.out (by assumption))) | exact HB.out))) : w.heap.size ≤ gb256))
    have n6_ := am (nbL (bkS BK241.out) hg)
    have n7_ := am (nbG (bkS BK241.out) hg)
    have n8_ := am (nbL (bkS BK242.out) hg)
    have n9_ := am (nbG (bkS BK242.out) hg)
    clear BK241
    clear BK242
    clear HB
    have BK241 := n0_
    have BK242 := n1_
    have HB := n2_
    have BK256 := n3_
    have GW256 := n4_
    have GE256 := n5_
    have NB241_256 := n6_
    have NB256_241 := n7_
    have NB242_256 := n8_
    have NB256_242 := n9_
    clear n0_ n1_ n2_ n3_ n4_ n5_ n6_ n7_ n8_ n9_
    clear hb hbox hg
    refine hK.out _ _ ⟨(blk_cell BK241.out 0).trans rfl, (blk_cell BK241.out 1).trans rfl, (blk_cell BK242.out 0).trans rfl, (blk_cell BK242.out 1).trans rfl, (blk_cell BK242.out 2).trans rfl⟩ (fun hHeld => ?_)
    clear hK K
    refine norm_ (a' := ?_) ?_ ?_
    rotate_left
    ·show Act.put _ (some 6) _ = _
     simp only [Act.put, List.setIfInBounds_toArray, List.set_cons_zero, List.set_cons_succ, i64_w, i32_w]
     rfl
    refine one_ (i := 1) (N := some 23) #[true, true, true, false, false, false, false, false, true, false, false] rfl rfl (one_of HT_.out (by kernel_rfl)) (by decide) (fun K hK => ?_)
    refine goes_ Try.func12 (by kernel_rfl) rfl #[.agg #[.int .i64 a0_0, .slice A0_1 l0_1.length c0_1]] (by rfl) rfl rfl (by (try simp only [List.map_toArray, List.map_cons, List.map_nil]); first | done | rfl | (simp only [List.length_drop, List.length_take]; rfl)) ?_
    with_reducible refine (laws_toPuzzle.calls k a0_0 _ _ l0_1 t244 t245 _ ?side1 ?side2 A10.out).mono ?_
    (case side1 => repeat (first | exact (Kd.C_below HR0_1.out HB.out) | (with_reducible refine Kd.C_alloc ?_ _) | (with_reducible refine Kd.C_drewN ?_ _) | (with_reducible refine Kd.C_drew ?_)))
    (case side2 => exact HC0_1.out)
    rintro e w24 ⟨v246, rfl, ho0, hb⟩
    refine ⟨_, rfl, ?_⟩
    have n0_ := am (Kd.R_lower ho0 (below_size (by repeat (first | (with_reducible first | exact HB.out | apply below_alloc | apply pw_below_drewN | apply below_drew1 | refine below_set ?_ (Aside0.out (by assumption))) | exact HB.out))))
    have n1_ := am (blk_below (bkS BK241.out) hb)
    have n2_ := am (blk_below (bkS BK242.out) hb)
    have n3_ := am (blk_below (bkS BK256.out) hb)
    have n4_ := am (below_step (by repeat (first | (with_reducible first | exact HB.out | apply below_alloc | apply pw_below_drewN | apply below_drew1 | refine below_set ?_ (Aside0.out (by assumption))) | exact HB.out)) hb)
    clear BK241
    clear BK242
    clear BK256
    clear HB
    have HO247 := n0_
    have BK241 := n1_
    have BK242 := n2_
    have BK256 := n3_
    have HB := n4_
    clear n0_ n1_ n2_ n3_ n4_
    (try clear hb)
    (try clear hb2)
    (try clear hk)
    (try clear hi)
    (try clear ho0)
    refine hK.out _ _ ⟨(blk_cell BK241.out 0).trans rfl, (blk_cell BK241.out 1).trans rfl, (blk_cell BK242.out 0).trans rfl, (blk_cell BK242.out 1).trans rfl, (blk_cell BK242.out 2).trans rfl⟩ (fun hHeld => ?_)
    clear hK K
    refine norm_ (a' := ?_) ?_ ?_
    rotate_left
    ·show Act.put _ (some 23) _ = _
     simp only [Act.put, List.setIfInBounds_toArray, List.set_cons_zero, List.set_cons_succ, i64_w, i32_w]
     rfl
    refine one_ (i := 3) (N := some 25) #[true, true, true, true, false, false, false, false, true, false, false] rfl rfl (one_of HT_.out (by kernel_rfl)) (by decide) (fun K hK => ?_)
    refine goes_ Try.func8 (by kernel_rfl) rfl #[.agg #[.int .i64 a1_0, .int .i64 a1_1, .int .i64 a1_2]] (by rfl) rfl rfl (by (try simp only [List.map_toArray, List.map_cons, List.map_nil]); first | done | rfl | (simp only [List.length_drop, List.length_take]; rfl)) ?_
    with_reducible refine (laws_toClue.calls a1_0 a1_1 a1_2 t248 t249 t250 _ A11.out).mono ?_
    rintro e w25 ⟨rfl, hb⟩
    refine ⟨_, rfl, ?_⟩
    have n0_ := am (Kd.R_below (roS HO247.out) hb)
    have n1_ := am (blk_below (bkS BK241.out) hb)
    have n2_ := am (blk_below (bkS BK242.out) hb)
    have n3_ := am (blk_below (bkS BK256.out) hb)
    have n4_ := am (below_step (by repeat (first | (with_reducible first | exact HB.out | apply below_alloc | apply pw_below_drewN | apply below_drew1 | refine below_set ?_ (Aside0.out (by assumption))) | exact HB.out)) hb)
    clear HO247
    clear BK241
    clear BK242
    clear BK256
    clear HB
    have HO247 := n0_
    have BK241 := n1_
    have BK242 := n2_
    have BK256 := n3_
    have HB := n4_
    clear n0_ n1_ n2_ n3_ n4_
    (try clear hb)
    (try clear hb2)
    (try clear hk)
    (try clear hi)
    obtain ⟨Ao26, co26, eo26⟩ := Kd.R_slice HO247.out
    (first | subst eo26 | (injection eo26 with f1_ f2_ f3_; have f4_ := f1_.symm; have f5_ := f3_.symm; clear f1_ f2_ f3_; subst f4_; subst f5_))
    refine hK.out _ _ ⟨(blk_cell BK241.out 0).trans rfl, (blk_cell BK241.out 1).trans rfl, (blk_cell BK242.out 0).trans rfl, (blk_cell BK242.out 1).trans rfl, (blk_cell BK242.out 2).trans rfl⟩ (fun hHeld => ?_)
    clear hK K
    refine norm_ (a' := ?_) ?_ ?_
    rotate_left
    ·show Act.put _ (some 25) _ = _
     simp only [Act.put, List.setIfInBounds_toArray, List.set_cons_zero, List.set_cons_succ, i64_w, i32_w]
     rfl
    refine one_ (i := 4) (N := some 26) #[true, true, true, true, true, false, false, false, true, false, false] rfl rfl (one_of HT_.out (by kernel_rfl)) (by decide) (fun K hK => ?_)
    refine goes_ Try.func15 (by kernel_rfl) rfl #[.agg #[.int .i64 t244, .slice Ao26 t245.length co26], .agg #[.int .i64 t248, .int .i64 t249, .int .i64 t250]] (by rfl) rfl rfl (by (try simp only [List.map_toArray, List.map_cons, List.map_nil]); first | done | rfl | (simp only [List.length_drop, List.length_take]; rfl)) ?_
    with_reducible refine (spec_AddClue.calls k t244 _ _ t245 t248 t249 t250 t251 t252 t255 _ ?side1 ?side2 A12.out).mono ?_
    (case side1 => repeat (first | exact (Kd.R_reads' HO247.out).2.2 | (with_reducible refine Kd.C_alloc ?_ _) | (with_reducible refine Kd.C_drewN ?_ _) | (with_reducible refine Kd.C_drew ?_)))
    (case side2 => exact (Kd.R_reads' HO247.out).2.1)
    rintro e w27 ⟨v253, rfl, ho0, hb⟩
    refine ⟨_, rfl, ?_⟩
    have n0_ := am (Kd.R_elder' (roS HO247.out) (Kd.R_base ho0) hb)
    have n1_ := am (Kd.R_lower (Kd.R_new' ho0 (Kd.R_lt (roS HO247.out))) (below_size (by repeat (first | (with_reducible first | exact HB.out | apply below_alloc | apply pw_below_drewN | apply below_drew1 | refine below_set ?_ (Aside0.out (by assumption))) | exact HB.out))))
    have n2_ := am (blk_below (bkS BK241.out) hb)
    have n3_ := am (blk_below (bkS BK242.out) hb)
    have n4_ := am (blk_below (bkS BK256.out) hb)
    have n5_ := am (below_step (by repeat (first | (with_reducible first | exact HB.out | apply below_alloc | apply pw_below_drewN | apply below_drew1 | refine below_set ?_ (Aside0.out (by assumption))) | exact HB.out)) hb)
    clear HO247
    clear BK241
    clear BK242
    clear BK256
    clear HB
    have HO247 := n0_
    have HO254 := n1_
    have BK241 := n2_
    have BK242 := n3_
    have BK256 := n4_
    have HB := n5_
    clear n0_ n1_ n2_ n3_ n4_ n5_
    (try clear hb)
    (try clear hb2)
    (try clear hk)
    (try clear hi)
    (try clear ho0)
    refine hK.out _ _ ⟨(blk_cell BK241.out 0).trans rfl, (blk_cell BK241.out 1).trans rfl, (blk_cell BK242.out 0).trans rfl, (blk_cell BK242.out 1).trans rfl, (blk_cell BK242.out 2).trans rfl⟩ (fun hHeld => ?_)
    clear hK K
    refine norm_ (a' := ?_) ?_ ?_
    rotate_left
    ·show Act.put _ (some 26) _ = _
     simp only [Act.put, List.setIfInBounds_toArray, List.set_cons_zero, List.set_cons_succ, i64_w, i32_w]
     rfl
    refine pure_ (i := 5) (N := some 21) (v := ?_) (a' := ?_) #[true, true, true, true, true, true, false, false, true, false, false] rfl rfl (any_of HT_.out (by kernel_rfl)) (fun _ _ _ h => h) (Or.inl ⟨by rfl, ?_⟩) ?_ ?_
    rotate_left
    ·intro w'
     go_simp
     with_reducible rfl
    rotate_left
    ·simp only [Act.put, List.setIfInBounds_toArray, List.set_cons_zero, List.set_cons_succ, i64_w, i32_w]
     rfl
    refine pure_ (i := 6) (N := some 27) (v := ?_) (a' := ?_) #[true, true, true, true, true, true, true, false, true, false, false] rfl rfl (any_of HT_.out (by kernel_rfl)) (fun _ _ _ h => h) (Or.inl ⟨by rfl, ?_⟩) ?_ ?_
    rotate_left
    ·intro w'
     go_simp
     with_reducible rfl
    rotate_left
    ·simp only [Act.put, List.setIfInBounds_toArray, List.set_cons_zero, List.set_cons_succ, i64_w, i32_w]
     rfl
    refine pure_ (i := 7) (N := some 28) (v := ?_) (a' := ?_) #[true, true, true, true, true, true, true, true, true, false, false] rfl rfl (any_of HT_.out (by kernel_rfl)) (fun _ _ _ h => h) (Or.inl ⟨by rfl, ?_⟩) ?_ ?_
    rotate_left
    ·intro w'
     go_simp
     with_reducible rfl
    rotate_left
    ·simp only [Act.put, List.setIfInBounds_toArray, List.set_cons_zero, List.set_cons_succ, i64_w, i32_w]
     rfl
    exact norm_ (by simp only [putAll, Act.put, List.setIfInBounds_toArray, List.set_cons_zero, List.set_cons_succ]) (hCont (.slice Ao26 t245.length co26, v253, gb256) _ ⟨hHeld, (by (with_reducible repeat (first | apply Kd.R_alloc | apply Kd.R_drewN | apply Kd.R_drew)); exact Kd.R_mono HO247.out (fun _ hk => hk.2)), (by (with_reducible repeat (first | apply Kd.R_alloc | apply Kd.R_drewN | apply Kd.R_drew)); exact Kd.R_mono HO254.out (fun _ hk => hk.2)), (bkS BK241.out), (bkS BK242.out), (bkS BK256.out), GW256.out, GE256.out, NB241_256.out, NB256_241.out, NB242_256.out, NB256_242.out, (by repeat (first | (with_reducible first | exact HB.out | apply below_alloc | apply pw_below_drewN | apply below_drew1 | refine below_set ?_ (Aside0.out (by assumption))) | exact HB.out))⟩)
  rintro ⟨v246, v253, gb256⟩ w28 ⟨hS_, h0_, h1_, h2_, h3_, h4_, h5_, h6_, h7_, h8_, h9_, h10_, h11_⟩
  have n0_ : Aside0 (Kd.R k25 25 w28 w.heap.size (fun k_ => some k_ ≠ (v253 : Value).ownBlock) v246 t245) := ⟨h0_⟩
  have n1_ : Aside0 (Kd.R k25 25 w28 w.heap.size (fun k_ => some k_ ≠ (v246 : Value).ownBlock) v253 t252) := ⟨h1_⟩
  have n2_ : Aside0 (w28.heap[gb241]? = some (.cells #[.int .i64 a0_0, .slice A0_1 l0_1.length c0_1] 30 (0, 0))) := ⟨h2_⟩
  have n3_ : Aside0 (w28.heap[gb242]? = some (.cells #[.int .i64 a1_0, .int .i64 a1_1, .int .i64 a1_2] 23 (0, 0))) := ⟨h3_⟩
  have n4_ : Aside0 (w28.heap[gb256]? = some (.cells #[.int .i64 0, .slice none 0 0] 35 (0, 0))) := ⟨h4_⟩
  have n5_ : Aside0 (w.heap.size ≤ gb256) := ⟨h5_⟩
  have n6_ : Aside0 (w.heap.size ≤ gb256) := ⟨h6_⟩
  have n7_ : Aside0 (gb241 ≠ gb256) := ⟨h7_⟩
  have n8_ : Aside0 (gb256 ≠ gb241) := ⟨h8_⟩
  have n9_ : Aside0 (gb242 ≠ gb256) := ⟨h9_⟩
  have n10_ : Aside0 (gb256 ≠ gb242) := ⟨h10_⟩
  have n11_ : Aside0 (Below w.heap.size w w28) := ⟨h11_⟩
  clear BK241
  clear BK242
  clear HB
  clear h0_ h1_ h2_ h3_ h4_ h5_ h6_ h7_ h8_ h9_ h10_ h11_
  have HO247 := n0_
  have HO254 := n1_
  have BK241 := n2_
  have BK242 := n3_
  have BK256 := n4_
  have GW256 := n5_
  have GE256 := n6_
  have NB241_256 := n7_
  have NB256_241 := n8_
  have NB242_256 := n9_
  have NB256_242 := n10_
  have HB := n11_
  clear n0_ n1_ n2_ n3_ n4_ n5_ n6_ n7_ n8_ n9_ n10_ n11_
  have hHeld : w28.cell? ⟨gb241, 0, none⟩ = some (.int .i64 a0_0) ∧ w28.cell? ⟨gb241, 1, none⟩ = some (.slice A0_1 l0_1.length c0_1) ∧ w28.cell? ⟨gb242, 0, none⟩ = some (.int .i64 a1_0) ∧ w28.cell? ⟨gb242, 1, none⟩ = some (.int .i64 a1_1) ∧ w28.cell? ⟨gb242, 2, none⟩ = some (.int .i64 a1_2) := hS_
  obtain ⟨Ao30, co30, eo30⟩ := Kd.R_slice HO254.out
  (first | subst eo30 | (injection eo30 with f1_ f2_ f3_; have f4_ := f1_.symm; have f5_ := f3_.symm; clear f1_ f2_ f3_; subst f4_; subst f5_))
  refine norm_ (a' := ?_) ?_ ?_
  rotate_left
  ·simp only [putAll, Act.put, List.setIfInBounds_toArray, List.set_cons_zero, List.set_cons_succ]
   rfl
  refine one_ (i := 9) (N := none) #[true, true, true, true, true, true, true, true, true, true, false] rfl rfl (one_of HT_.out (by kernel_rfl)) (by decide) (fun K hK => ?_)
  have hs29 : w28.cell? ⟨gb256, 0, none⟩ = some (.int .i64 0) := (blk_cell BK256.out 0).trans rfl
  have hfs29 := blk_frozen BK256.out 0
  have hns29_0 := NB241_256.out
  have hns29_1 := NB242_256.out
  have hms29_0 := NB256_241.out
  have hms29_1 := NB256_242.out
  have hs31 : w28.cell? ⟨gb256, 1, none⟩ = some (.slice none 0 0) := (blk_cell BK256.out 1).trans rfl
  have hfs31 := blk_frozen BK256.out 1
  have hns31_0 := NB241_256.out
  have hns31_1 := NB242_256.out
  have hms31_0 := NB256_241.out
  have hms31_1 := NB256_242.out
  refine skip_ (w1 := ?_) (by rfl) rfl ?_ ?_
  rotate_left
  ·go_simp
   rfl
  refine hK.out _ _ ⟨((cell_far (p := ⟨gb256, _, none⟩) NB241_256.out _).trans (((cell_far (p := ⟨gb256, _, none⟩) NB241_256.out _).trans (hHeld.1)))), ((cell_far (p := ⟨gb256, _, none⟩) NB241_256.out _).trans (((cell_far (p := ⟨gb256, _, none⟩) NB241_256.out _).trans (hHeld.2.1)))), ((cell_far (p := ⟨gb256, _, none⟩) NB242_256.out _).trans (((cell_far (p := ⟨gb256, _, none⟩) NB242_256.out _).trans (hHeld.2.2.1)))), ((cell_far (p := ⟨gb256, _, none⟩) NB242_256.out _).trans (((cell_far (p := ⟨gb256, _, none⟩) NB242_256.out _).trans (hHeld.2.2.2.1)))), ((cell_far (p := ⟨gb256, _, none⟩) NB242_256.out _).trans (((cell_far (p := ⟨gb256, _, none⟩) NB242_256.out _).trans (hHeld.2.2.2.2))))⟩ (fun hHeld => ?_)
  clear hK K
  refine pure_ (i := 10) (N := some 7) (v := ?_) (a' := ?_) #[true, true, true, true, true, true, true, true, true, true, true] rfl rfl (any_of HT_.out (by kernel_rfl)) (fun _ _ _ h => h) (Or.inl ⟨by rfl, ?_⟩) ?_ ?_
  rotate_left
  ·intro w'
   go_simp
   with_reducible rfl
  rotate_left
  ·simp only [Act.put, List.setIfInBounds_toArray, List.set_cons_zero, List.set_cons_succ, i64_w, i32_w]
   rfl
  refine done_ (done_of HT_.out (by kernel_rfl)) ?_
  have hnb32 := NB241_256.out
  have hnc32 := NB256_241.out
  have hcz33_0 : w28.cell? ⟨gb241, 0, none⟩ = some (.int .i64 a0_0) := (blk_cell BK241.out 0).trans rfl
  have hcz33_1 : w28.cell? ⟨gb241, 1, none⟩ = some (.slice A0_1 l0_1.length c0_1) := (blk_cell BK241.out 1).trans rfl
  have hfz33_0 := blk_frozen BK241.out 0
  have hfz33_1 := blk_frozen BK241.out 1
  try go_wp2_with (first | ((with_reducible refine gate_callee (f := 12) rfl ?_); refine goesL_ (some 30) rfl rfl Try.func12 (by kernel_rfl) rfl #[.agg #[.int .i64 a0_0, .slice A0_1 l0_1.length c0_1]] rfl (by (try simp only [List.map_toArray, List.map_cons, List.map_nil]); first | done | rfl | (simp only [List.length_drop, List.length_take]; rfl)) ?_; (with_reducible refine (laws_toPuzzle.calls k a0_0 _ _ l0_1 t257 t258 _ ?side1 ?side2 A13.out).mono ?_); (case side1 => exact Kd.C_below HR0_1.out (by repeat (first | (with_reducible first | exact HB.out | apply below_alloc | apply pw_below_drewN | apply below_drew1 | refine below_set ?_ (Aside0.out (by assumption))) | exact HB.out))); (case side2 => exact HC0_1.out); rintro e w34 ⟨v259, rfl, ho0, hb⟩; refine ⟨_, rfl, ?_⟩; have n0_ := am (Kd.R_elder' (by (with_reducible repeat (first | apply Kd.R_alloc | apply Kd.R_drewN | apply Kd.R_drew)); exact (Kd.R_mono (Kd.R_far (p := ⟨gb256, 1, none⟩) (Kd.R_far (p := ⟨gb256, 0, none⟩) (Kd.R_types HO247.out BK256.out (by decide)) (fun _ hk => hk.2) (.int .i64 t251)) (fun _ hk => hk.2) (.slice Ao30 t252.length co30)) (fun _ h_ => h_.1))) (Kd.R_base ho0) hb); have n1_ := am (Kd.R_elder' (by (with_reducible repeat (first | apply Kd.R_alloc | apply Kd.R_drewN | apply Kd.R_drew)); exact (Kd.R_mono (Kd.R_far (p := ⟨gb256, 1, none⟩) (Kd.R_far (p := ⟨gb256, 0, none⟩) (Kd.R_types HO254.out BK256.out (by decide)) (fun _ hk => hk.2) (.int .i64 t251)) (fun _ hk => hk.2) (.slice Ao30 t252.length co30)) (fun _ h_ => h_.1))) (Kd.R_base ho0) hb); have n2_ := am (Kd.R_lower (Kd.R_new' (Kd.R_new' ho0 (Kd.R_lt (by (with_reducible repeat (first | apply Kd.R_alloc | apply Kd.R_drewN | apply Kd.R_drew)); exact (Kd.R_mono (Kd.R_far (p := ⟨gb256, 1, none⟩) (Kd.R_far (p := ⟨gb256, 0, none⟩) (Kd.R_types HO247.out BK256.out (by decide)) (fun _ hk => hk.2) (.int .i64 t251)) (fun _ hk => hk.2) (.slice Ao30 t252.length co30)) (fun _ h_ => h_.1))))) (Kd.R_lt (by (with_reducible repeat (first | apply Kd.R_alloc | apply Kd.R_drewN | apply Kd.R_drew)); exact (Kd.R_mono (Kd.R_far (p := ⟨gb256, 1, none⟩) (Kd.R_far (p := ⟨gb256, 0, none⟩) (Kd.R_types HO254.out BK256.out (by decide)) (fun _ hk => hk.2) (.int .i64 t251)) (fun _ hk => hk.2) (.slice Ao30 t252.length co30)) (fun _ h_ => h_.1))))) (below_size (by repeat (first | (with_reducible first | exact HB.out | apply below_alloc | apply pw_below_drewN | apply below_drew1 | refine below_set ?_ (Aside0.out (by assumption))) | exact HB.out)))); have n3_ := am (blk_below (g := gb241) (o := .cells #[.int .i64 a0_0, .slice A0_1 l0_1.length c0_1] 30 (0, 0)) (by (with_reducible repeat (first | refine blk_drewN ?_ _ | refine blk_drew ?_ | refine blk_alloc ?_ _)); refine blk_far ?_ NB241_256.out _; (with_reducible repeat (first | refine blk_drewN ?_ _ | refine blk_drew ?_ | refine blk_alloc ?_ _)); refine blk_far ?_ NB241_256.out _; (with_reducible repeat (first | refine blk_drewN ?_ _ | refine blk_drew ?_ | refine blk_alloc ?_ _)); exact BK241.out) hb); have n4_ := am (blk_below (g := gb242) (o := .cells #[.int .i64 a1_0, .int .i64 a1_1, .int .i64 a1_2] 23 (0, 0)) (by (with_reducible repeat (first | refine blk_drewN ?_ _ | refine blk_drew ?_ | refine blk_alloc ?_ _)); refine blk_far ?_ NB242_256.out _; (with_reducible repeat (first | refine blk_drewN ?_ _ | refine blk_drew ?_ | refine blk_alloc ?_ _)); refine blk_far ?_ NB242_256.out _; (with_reducible repeat (first | refine blk_drewN ?_ _ | refine blk_drew ?_ | refine blk_alloc ?_ _)); exact BK242.out) hb); have n5_ := am (blk_below (g := gb256) (o := .cells #[.int .i64 t251, .slice Ao30 t252.length co30] 35 (0, 0)) (by (with_reducible repeat (first | refine blk_drewN ?_ _ | refine blk_drew ?_ | refine blk_alloc ?_ _)); refine blk_put (cs := #[.int .i64 t251, .slice none 0 0]) ?_ 1 _ rfl; (with_reducible repeat (first | refine blk_drewN ?_ _ | refine blk_drew ?_ | refine blk_alloc ?_ _)); refine blk_put (cs := #[.int .i64 0, .slice none 0 0]) ?_ 0 _ rfl; (with_reducible repeat (first | refine blk_drewN ?_ _ | refine blk_drew ?_ | refine blk_alloc ?_ _)); exact BK256.out) hb); have n6_ := am (below_step (by repeat (first | (with_reducible first | exact HB.out | apply below_alloc | apply pw_below_drewN | apply below_drew1 | refine below_set ?_ (Aside0.out (by assumption))) | exact HB.out)) hb); clear HO247; clear HO254; clear BK241; clear BK242; clear BK256; clear HB; have HO247 := n0_; have HO254 := n1_; have HO260 := n2_; have BK241 := n3_; have BK242 := n4_; have BK256 := n5_; have HB := n6_; clear n0_ n1_ n2_ n3_ n4_ n5_ n6_; (try clear hb); (try clear hb2); (try clear hk); (try clear hi); (try clear ho0)) | ((with_reducible refine gate_dst (N := 8) rfl ?_); refine box_event ?hg (N := 8) ?hd (cs := #[.int .i64 0, .slice none 0 0]) (t := 35) ?hr ?_; (case hd => rfl); (case hg => rfl); (case hr => first | (go_simp; done) | (go_simp; rfl)); intro gb261 hg w35 hbox hb; have n0_ := am (Kd.R_below (roS HO247.out) hb); have n1_ := am (Kd.R_below (roS HO254.out) hb); have n2_ := am (Kd.R_below (roS HO260.out) hb); have n3_ := am (blk_below (bkS BK241.out) hb); have n4_ := am (blk_below (bkS BK242.out) hb); have n5_ := am (blk_below (bkS BK256.out) hb); have n6_ := am (below_step (by repeat (first | (with_reducible first | exact HB.out | apply below_alloc | apply pw_below_drewN | apply below_drew1 | refine below_set ?_ (Aside0.out (by assumption))) | exact HB.out)) hb); have n7_ := am (hbox); have n8_ := am ((by rw [hg]; exact (below_size (by repeat (first | (with_reducible first | exact HB.out | apply below_alloc | apply pw_below_drewN | apply below_drew1 | refine below_set ?_ (Aside0.out (by assumption))) | exact HB.out))) : w.heap.size ≤ gb261)); have n9_ := am ((by rw [hg]; exact (below_size (by repeat (first | (with_reducible first | exact HB.out | apply below_alloc | apply pw_below_drewN | apply below_drew1 | refine below_set ?_ (Aside0.out (by assumption))) | exact HB.out))) : w.heap.size ≤ gb261)); have n10_ := am (nbL (bkS BK241.out) hg); have n11_ := am (nbG (bkS BK241.out) hg); have n12_ := am (nbL (bkS BK242.out) hg); have n13_ := am (nbG (bkS BK242.out) hg); have n14_ := am (nbL (bkS BK256.out) hg); have n15_ := am (nbG (bkS BK256.out) hg); clear HO247; clear HO254; clear HO260; clear BK241; clear BK242; clear BK256; clear HB; have HO247 := n0_; have HO254 := n1_; have HO260 := n2_; have BK241 := n3_; have BK242 := n4_; have BK256 := n5_; have HB := n6_; have BK261 := n7_; have GW261 := n8_; have GE261 := n9_; have NB241_261 := n10_; have NB261_241 := n11_; have NB242_261 := n12_; have NB261_242 := n13_; have NB256_261 := n14_; have NB261_256 := n15_; clear n0_ n1_ n2_ n3_ n4_ n5_ n6_ n7_ n8_ n9_ n10_ n11_ n12_ n13_ n14_ n15_; clear hb hbox hg; have hnb36 := NB261_241.out; have hnc36 := NB241_261.out; have hnb37 := NB261_242.out; have hnc37 := NB242_261.out; have hnb38 := NB261_256.out; have hnc38 := NB256_261.out; have hcz39_0 : w35.cell? ⟨gb261, 0, none⟩ = some (.int .i64 0) := (blk_cell BK261.out 0).trans rfl; have hcz39_1 : w35.cell? ⟨gb261, 1, none⟩ = some (.slice none 0 0) := (blk_cell BK261.out 1).trans rfl; have hfz39_0 := blk_frozen BK261.out 0; have hfz39_1 := blk_frozen BK261.out 1; obtain ⟨Ao40, co40, eo40⟩ := Kd.R_slice HO260.out; subst eo40))
  have n0_ : Aside0 (Kd.R k25 25 ((w35.setCell ⟨gb261, 0, none⟩ (.int .i64 t257)).setCell ⟨gb261, 1, none⟩ (.slice Ao40 t258.length co40)) w.heap.size (fun k_ => some k_ ≠ (.slice Ao30 t252.length co30 : Value).ownBlock ∧ some k_ ≠ (.slice Ao40 t258.length co40 : Value).ownBlock) v246 t245) := ⟨by (with_reducible repeat (first | apply Kd.R_alloc | apply Kd.R_drewN | apply Kd.R_drew)); exact Kd.R_mono (Kd.R_far (p := ⟨gb261, 1, none⟩) (Kd.R_far (p := ⟨gb261, 0, none⟩) (Kd.R_types HO247.out BK261.out (by decide)) (fun _ hk => hk.2) (.int .i64 t257)) (fun _ hk => hk.2) (.slice Ao40 t258.length co40)) (fun _ hk => ⟨hk.1.1, hk.1.2⟩)⟩
  have n1_ : Aside0 (Kd.R k25 25 ((w35.setCell ⟨gb261, 0, none⟩ (.int .i64 t257)).setCell ⟨gb261, 1, none⟩ (.slice Ao40 t258.length co40)) w.heap.size (fun k_ => some k_ ≠ (v246 : Value).ownBlock ∧ some k_ ≠ (.slice Ao40 t258.length co40 : Value).ownBlock) (.slice Ao30 t252.length co30) t252) := ⟨by (with_reducible repeat (first | apply Kd.R_alloc | apply Kd.R_drewN | apply Kd.R_drew)); exact Kd.R_mono (Kd.R_far (p := ⟨gb261, 1, none⟩) (Kd.R_far (p := ⟨gb261, 0, none⟩) (Kd.R_types HO254.out BK261.out (by decide)) (fun _ hk => hk.2) (.int .i64 t257)) (fun _ hk => hk.2) (.slice Ao40 t258.length co40)) (fun _ hk => ⟨hk.1.1, hk.1.2⟩)⟩
  have n2_ : Aside0 (Kd.R k25 25 ((w35.setCell ⟨gb261, 0, none⟩ (.int .i64 t257)).setCell ⟨gb261, 1, none⟩ (.slice Ao40 t258.length co40)) w.heap.size (fun k_ => some k_ ≠ (v246 : Value).ownBlock ∧ some k_ ≠ (.slice Ao30 t252.length co30 : Value).ownBlock) (.slice Ao40 t258.length co40) t258) := ⟨by (with_reducible repeat (first | apply Kd.R_alloc | apply Kd.R_drewN | apply Kd.R_drew)); exact Kd.R_mono (Kd.R_far (p := ⟨gb261, 1, none⟩) (Kd.R_far (p := ⟨gb261, 0, none⟩) (Kd.R_types HO260.out BK261.out (by decide)) (fun _ hk => hk.2) (.int .i64 t257)) (fun _ hk => hk.2) (.slice Ao40 t258.length co40)) (fun _ hk => ⟨hk.1.1.2, hk.1.2⟩)⟩
  have n3_ : Aside0 (((w35.setCell ⟨gb261, 0, none⟩ (.int .i64 t257)).setCell ⟨gb261, 1, none⟩ (.slice Ao40 t258.length co40)).heap[gb241]? = some (.cells #[.int .i64 a0_0, .slice A0_1 l0_1.length c0_1] 30 (0, 0))) := ⟨by (with_reducible repeat (first | refine blk_drewN ?_ _ | refine blk_drew ?_ | refine blk_alloc ?_ _)); refine blk_far ?_ NB241_261.out _; (with_reducible repeat (first | refine blk_drewN ?_ _ | refine blk_drew ?_ | refine blk_alloc ?_ _)); refine blk_far ?_ NB241_261.out _; (with_reducible repeat (first | refine blk_drewN ?_ _ | refine blk_drew ?_ | refine blk_alloc ?_ _)); exact BK241.out⟩
  have n4_ : Aside0 (((w35.setCell ⟨gb261, 0, none⟩ (.int .i64 t257)).setCell ⟨gb261, 1, none⟩ (.slice Ao40 t258.length co40)).heap[gb242]? = some (.cells #[.int .i64 a1_0, .int .i64 a1_1, .int .i64 a1_2] 23 (0, 0))) := ⟨by (with_reducible repeat (first | refine blk_drewN ?_ _ | refine blk_drew ?_ | refine blk_alloc ?_ _)); refine blk_far ?_ NB242_261.out _; (with_reducible repeat (first | refine blk_drewN ?_ _ | refine blk_drew ?_ | refine blk_alloc ?_ _)); refine blk_far ?_ NB242_261.out _; (with_reducible repeat (first | refine blk_drewN ?_ _ | refine blk_drew ?_ | refine blk_alloc ?_ _)); exact BK242.out⟩
  have n5_ : Aside0 (((w35.setCell ⟨gb261, 0, none⟩ (.int .i64 t257)).setCell ⟨gb261, 1, none⟩ (.slice Ao40 t258.length co40)).heap[gb256]? = some (.cells #[.int .i64 t251, .slice Ao30 t252.length co30] 35 (0, 0))) := ⟨by (with_reducible repeat (first | refine blk_drewN ?_ _ | refine blk_drew ?_ | refine blk_alloc ?_ _)); refine blk_far ?_ NB256_261.out _; (with_reducible repeat (first | refine blk_drewN ?_ _ | refine blk_drew ?_ | refine blk_alloc ?_ _)); refine blk_far ?_ NB256_261.out _; (with_reducible repeat (first | refine blk_drewN ?_ _ | refine blk_drew ?_ | refine blk_alloc ?_ _)); exact BK256.out⟩
  have n6_ : Aside0 (((w35.setCell ⟨gb261, 0, none⟩ (.int .i64 t257)).setCell ⟨gb261, 1, none⟩ (.slice Ao40 t258.length co40)).heap[gb261]? = some (.cells #[.int .i64 t257, .slice Ao40 t258.length co40] 35 (0, 0))) := ⟨by (with_reducible repeat (first | refine blk_drewN ?_ _ | refine blk_drew ?_ | refine blk_alloc ?_ _)); refine blk_put (cs := #[.int .i64 t257, .slice none 0 0]) ?_ 1 _ rfl; (with_reducible repeat (first | refine blk_drewN ?_ _ | refine blk_drew ?_ | refine blk_alloc ?_ _)); refine blk_put (cs := #[.int .i64 0, .slice none 0 0]) ?_ 0 _ rfl; (with_reducible repeat (first | refine blk_drewN ?_ _ | refine blk_drew ?_ | refine blk_alloc ?_ _)); exact BK261.out⟩
  have n7_ : Aside0 (Below w.heap.size w ((w35.setCell ⟨gb261, 0, none⟩ (.int .i64 t257)).setCell ⟨gb261, 1, none⟩ (.slice Ao40 t258.length co40))) := ⟨by repeat (first | (with_reducible first | exact HB.out | apply below_alloc | apply pw_below_drewN | apply below_drew1 | refine below_set ?_ (Aside0.out (by assumption))) | exact HB.out)⟩
  (try clear HO247)
  (try clear HO254)
  (try clear HO260)
  (try clear BK241)
  (try clear BK242)
  (try clear BK256)
  (try clear BK261)
  (try clear HB)
  generalize ((w35.setCell ⟨gb261, 0, none⟩ (.int .i64 t257)).setCell ⟨gb261, 1, none⟩ (.slice Ao40 t258.length co40)) = w41 at n0_ n1_ n2_ n3_ n4_ n5_ n6_ n7_ ⊢
  have HO247 := n0_
  have HO254 := n1_
  have HO260 := n2_
  have BK241 := n3_
  have BK242 := n4_
  have BK256 := n5_
  have BK261 := n6_
  have HB := n7_
  clear n0_ n1_ n2_ n3_ n4_ n5_ n6_ n7_
  have n0_ := am (Kd.R_drew HO247.out)
  have n1_ := am (Kd.R_drew HO254.out)
  have n2_ := am (Kd.R_drew HO260.out)
  have n3_ := am (blk_drew BK241.out)
  have n4_ := am (blk_drew BK242.out)
  have n5_ := am (blk_drew BK256.out)
  have n6_ := am (blk_drew BK261.out)
  have n7_ := am (below_drew1 HB.out)
  clear HO247
  clear HO254
  clear HO260
  clear BK241
  clear BK242
  clear BK256
  clear BK261
  clear HB
  have HO247 := n0_
  have HO254 := n1_
  have HO260 := n2_
  have BK241 := n3_
  have BK242 := n4_
  have BK256 := n5_
  have BK261 := n6_
  have HB := n7_
  clear n0_ n1_ n2_ n3_ n4_ n5_ n6_ n7_
  refine start_ (n := 10) (S := fun w' => w'.cell? ⟨gb261, 0, none⟩ = some (.int .i64 t257) ∧ w'.cell? ⟨gb261, 1, none⟩ = some (.slice Ao40 t258.length co40) ∧ w'.cell? ⟨gb242, 0, none⟩ = some (.int .i64 a1_0) ∧ w'.cell? ⟨gb242, 1, none⟩ = some (.int .i64 a1_1) ∧ w'.cell? ⟨gb242, 2, none⟩ = some (.int .i64 a1_2)) (ds := []) #[false, false, false, false, false, false, false, false, false, false] (by kernel_rfl) rfl rfl ⟨(blk_cell BK261.out 0).trans rfl, (blk_cell BK261.out 1).trans rfl, (blk_cell BK242.out 0).trans rfl, (blk_cell BK242.out 1).trans rfl, (blk_cell BK242.out 2).trans rfl⟩ (fun hHeld => ?_); refine with_tabW laws_FnExactAddClue.tab7 laws_FnExactAddClue.bits7 (fun HT_ HW_ => ?_)
  generalize w41.drew = w42 at HO247 HO254 HO260 BK241 BK242 BK256 BK261 HB hHeld ⊢
  refine take_ (i := 0) (N := some 32) (v := ?_) (a' := ?_) #[true, false, false, false, false, false, false, false, false, false] rfl rfl (take_ofW HT_.out HW_.out (by kernel_rfl)) (fun _ _ _ h => h) (Or.inl ⟨by rfl, ?_⟩) hHeld ?_ ?_
  rotate_left
  ·rintro w' ⟨s0, s1, s2, s3, s4⟩
   go_simp
   with_reducible rfl
  rotate_left
  ·simp only [Act.put, List.setIfInBounds_toArray, List.set_cons_zero, List.set_cons_succ, i64_w, i32_w]
   rfl
  refine take_ (i := 1) (N := some 33) (v := ?_) (a' := ?_) #[true, true, false, false, false, false, false, false, false, false] rfl rfl (take_ofW HT_.out HW_.out (by kernel_rfl)) (fun _ _ _ h => h) (Or.inl ⟨by rfl, ?_⟩) hHeld ?_ ?_
  rotate_left
  ·rintro w' ⟨s0, s1, s2, s3, s4⟩
   go_simp
   with_reducible rfl
  rotate_left
  ·simp only [Act.put, List.setIfInBounds_toArray, List.set_cons_zero, List.set_cons_succ, i64_w, i32_w]
   rfl
  refine join_ (σ := Value × Nat) 2 #[true, true, true, true, true, true, true, true, false, false] (fun s_ => [(34, .agg #[.int .i64 t262, .int .i64 t263, .int .i64 t264]), (35, .tuple #[.agg #[.int .i64 t265, s_.1], .bool t269]), (9, .pointer (some ⟨s_.2, 0, none⟩)), (31, .tuple #[.agg #[.int .i64 t265, s_.1], .bool t269]), (36, .agg #[.int .i64 t265, s_.1]), (37, .bool t269)]) (fun s_ w' => (w'.cell? ⟨gb261, 0, none⟩ = some (.int .i64 t257) ∧ w'.cell? ⟨gb261, 1, none⟩ = some (.slice Ao40 t258.length co40) ∧ w'.cell? ⟨gb242, 0, none⟩ = some (.int .i64 a1_0) ∧ w'.cell? ⟨gb242, 1, none⟩ = some (.int .i64 a1_1) ∧ w'.cell? ⟨gb242, 2, none⟩ = some (.int .i64 a1_2)) ∧ (Kd.R k25 25 w' w.heap.size (fun k_ => some k_ ≠ (.slice Ao30 t252.length co30 : Value).ownBlock ∧ some k_ ≠ (.slice Ao40 t258.length co40 : Value).ownBlock ∧ some k_ ≠ (s_.1 : Value).ownBlock) v246 t245) ∧ (Kd.R k25 25 w' w.heap.size (fun k_ => some k_ ≠ (v246 : Value).ownBlock ∧ some k_ ≠ (.slice Ao40 t258.length co40 : Value).ownBlock ∧ some k_ ≠ (s_.1 : Value).ownBlock) (.slice Ao30 t252.length co30) t252) ∧ (Kd.R k25 25 w' w.heap.size (fun k_ => some k_ ≠ (v246 : Value).ownBlock ∧ some k_ ≠ (.slice Ao30 t252.length co30 : Value).ownBlock ∧ some k_ ≠ (s_.1 : Value).ownBlock) (.slice Ao40 t258.length co40) t258) ∧ (Kd.R k25 25 w' w.heap.size (fun k_ => some k_ ≠ (v246 : Value).ownBlock ∧ some k_ ≠ (.slice Ao30 t252.length co30 : Value).ownBlock ∧ some k_ ≠ (.slice Ao40 t258.length co40 : Value).ownBlock) s_.1 t266) ∧ (w'.heap[gb241]? = some (.cells #[.int .i64 a0_0, .slice A0_1 l0_1.length c0_1] 30 (0, 0))) ∧ (w'.heap[gb242]? = some (.cells #[.int .i64 a1_0, .int .i64 a1_1, .int .i64 a1_2] 23 (0, 0))) ∧ (w'.heap[gb256]? = some (.cells #[.int .i64 t251, .slice Ao30 t252.length co30] 35 (0, 0))) ∧ (w'.heap[gb261]? = some (.cells #[.int .i64 t257, .slice Ao40 t258.length co40] 35 (0, 0))) ∧ (w'.heap[s_.2]? = some (.cells #[.int .i64 0, .slice none 0 0] 35 (0, 0))) ∧ (w.heap.size ≤ s_.2) ∧ (w.heap.size ≤ s_.2) ∧ (gb241 ≠ s_.2) ∧ (s_.2 ≠ gb241) ∧ (gb242 ≠ s_.2) ∧ (s_.2 ≠ gb242) ∧ (gb256 ≠ s_.2) ∧ (s_.2 ≠ gb256) ∧ (gb261 ≠ s_.2) ∧ (s_.2 ≠ gb261) ∧ (Below w.heap.size w w')) ?_ ?_
  rotate_left
  ·intro hCont
   refine two_ (i := 2) (j := 7) (Ni := some 34) (Nj := some 9) #[true, true, true, false, false, false, false, false, false, false] #[true, true, false, false, false, false, false, true, false, false] rfl rfl rfl rfl (two_of HT_.out (by kernel_rfl)) (by decide) (by decide) (fun K hK => ?_) (fun K hK => ?_)
   ·skip
    refine goes_ Try.func8 (by kernel_rfl) rfl #[.agg #[.int .i64 a1_0, .int .i64 a1_1, .int .i64 a1_2]] (by rfl) rfl rfl (by (try simp only [List.map_toArray, List.map_cons, List.map_nil]); first | done | rfl | (simp only [List.length_drop, List.length_take]; rfl)) ?_
    with_reducible refine (laws_toClue.calls a1_0 a1_1 a1_2 t262 t263 t264 _ A14.out).mono ?_
    rintro e w43 ⟨rfl, hb⟩
    refine ⟨_, rfl, ?_⟩
    have n0_ := am (Kd.R_below (roS HO247.out) hb)
    have n1_ := am (Kd.R_below (roS HO254.out) hb)
    have n2_ := am (Kd.R_below (roS HO260.out) hb)
    have n3_ := am (blk_below (bkS BK241.out) hb)
    have n4_ := am (blk_below (bkS BK242.out) hb)
    have n5_ := am (blk_below (bkS BK256.out) hb)
    have n6_ := am (blk_below (bkS BK261.out) hb)
    have n7_ := am (below_step (by repeat (first | (with_reducible first | exact HB.out | apply below_alloc | apply pw_below_drewN | apply below_drew1 | refine below_set ?_ (Aside0.out (by assumption))) | exact HB.out)) hb)
    clear HO247
    clear HO254
    clear HO260
    clear BK241
    clear BK242
    clear BK256
    clear BK261
    clear HB
    have HO247 := n0_
    have HO254 := n1_
    have HO260 := n2_
    have BK241 := n3_
    have BK242 := n4_
    have BK256 := n5_
    have BK261 := n6_
    have HB := n7_
    clear n0_ n1_ n2_ n3_ n4_ n5_ n6_ n7_
    (try clear hb)
    (try clear hb2)
    (try clear hk)
    (try clear hi)
    refine hK.out _ _ ⟨(blk_cell BK261.out 0).trans rfl, (blk_cell BK261.out 1).trans rfl, (blk_cell BK242.out 0).trans rfl, (blk_cell BK242.out 1).trans rfl, (blk_cell BK242.out 2).trans rfl⟩ (fun hHeld => ?_)
    clear hK K
    refine norm_ (a' := ?_) ?_ ?_
    rotate_left
    ·show Act.put _ (some 34) _ = _
     simp only [Act.put, List.setIfInBounds_toArray, List.set_cons_zero, List.set_cons_succ, i64_w, i32_w]
     rfl
    refine two_ (i := 3) (j := 7) (Ni := some 35) (Nj := some 9) #[true, true, true, true, false, false, false, false, false, false] #[true, true, true, false, false, false, false, true, false, false] rfl rfl rfl rfl (two_of HT_.out (by kernel_rfl)) (by decide) (by decide) (fun K hK => ?_) (fun K hK => ?_)
    ·skip
     refine goes_ Try.func16 (by kernel_rfl) rfl #[.agg #[.int .i64 t257, .slice Ao40 t258.length co40], .agg #[.int .i64 t262, .int .i64 t263, .int .i64 t264]] (by rfl) rfl rfl (by (try simp only [List.map_toArray, List.map_cons, List.map_nil]); first | done | rfl | (simp only [List.length_drop, List.length_take]; rfl)) ?_
     with_reducible refine (impl_AddClue.calls k t257 _ _ t258 t262 t263 t264 t265 t266 t269 _ ?side1 ?side2 A15.out).mono ?_
     (case side1 => repeat (first | exact (Kd.R_reads' HO260.out).2.2 | (with_reducible refine Kd.C_alloc ?_ _) | (with_reducible refine Kd.C_drewN ?_ _) | (with_reducible refine Kd.C_drew ?_)))
     (case side2 => exact (Kd.R_reads' HO260.out).2.1)
     rintro e w44 ⟨v267, rfl, ho0, hb⟩
     refine ⟨_, rfl, ?_⟩
     have n0_ := am (Kd.R_elder' (roS HO247.out) (Kd.R_base ho0) hb)
     have n1_ := am (Kd.R_elder' (roS HO254.out) (Kd.R_base ho0) hb)
     have n2_ := am (Kd.R_elder' (roS HO260.out) (Kd.R_base ho0) hb)
     have n3_ := am (Kd.R_lower (Kd.R_new' (Kd.R_new' (Kd.R_new' ho0 (Kd.R_lt (roS HO247.out))) (Kd.R_lt (roS HO254.out))) (Kd.R_lt (roS HO260.out))) (below_size (by repeat (first | (with_reducible first | exact HB.out | apply below_alloc | apply pw_below_drewN | apply below_drew1 | refine below_set ?_ (Aside0.out (by assumption))) | exact HB.out))))
     have n4_ := am (blk_below (bkS BK241.out) hb)
     have n5_ := am (blk_below (bkS BK242.out) hb)
     have n6_ := am (blk_below (bkS BK256.out) hb)
     have n7_ := am (blk_below (bkS BK261.out) hb)
     have n8_ := am (below_step (by repeat (first | (with_reducible first | exact HB.out | apply below_alloc | apply pw_below_drewN | apply below_drew1 | refine below_set ?_ (Aside0.out (by assumption))) | exact HB.out)) hb)
     clear HO247
     clear HO254
     clear HO260
     clear BK241
     clear BK242
     clear BK256
     clear BK261
     clear HB
     have HO247 := n0_
     have HO254 := n1_
     have HO260 := n2_
     have HO268 := n3_
     have BK241 := n4_
     have BK242 := n5_
     have BK256 := n6_
     have BK261 := n7_
     have HB := n8_
     clear n0_ n1_ n2_ n3_ n4_ n5_ n6_ n7_ n8_
     (try clear hb)
     (try clear hb2)
     (try clear hk)
     (try clear hi)
     (try clear ho0)
     refine hK.out _ _ ⟨(blk_cell BK261.out 0).trans rfl, (blk_cell BK261.out 1).trans rfl, (blk_cell BK242.out 0).trans rfl, (blk_cell BK242.out 1).trans rfl, (blk_cell BK242.out 2).trans rfl⟩ (fun hHeld => ?_)
     clear hK K
     refine norm_ (a' := ?_) ?_ ?_
     rotate_left
     ·show Act.put _ (some 35) _ = _
      simp only [Act.put, List.setIfInBounds_toArray, List.set_cons_zero, List.set_cons_succ, i64_w, i32_w]
      rfl
     refine pure_ (i := 4) (N := some 31) (v := ?_) (a' := ?_) #[true, true, true, true, true, false, false, false, false, false] rfl rfl (any_of HT_.out (by kernel_rfl)) (fun _ _ _ h => h) (Or.inl ⟨by rfl, ?_⟩) ?_ ?_
     rotate_left
     ·intro w'
      go_simp
      with_reducible rfl
     rotate_left
     ·simp only [Act.put, List.setIfInBounds_toArray, List.set_cons_zero, List.set_cons_succ, i64_w, i32_w]
      rfl
     refine pure_ (i := 5) (N := some 36) (v := ?_) (a' := ?_) #[true, true, true, true, true, true, false, false, false, false] rfl rfl (any_of HT_.out (by kernel_rfl)) (fun _ _ _ h => h) (Or.inl ⟨by rfl, ?_⟩) ?_ ?_
     rotate_left
     ·intro w'
      go_simp
      with_reducible rfl
     rotate_left
     ·simp only [Act.put, List.setIfInBounds_toArray, List.set_cons_zero, List.set_cons_succ, i64_w, i32_w]
      rfl
     refine pure_ (i := 6) (N := some 37) (v := ?_) (a' := ?_) #[true, true, true, true, true, true, true, false, false, false] rfl rfl (any_of HT_.out (by kernel_rfl)) (fun _ _ _ h => h) (Or.inl ⟨by rfl, ?_⟩) ?_ ?_
     rotate_left
     ·intro w'
      go_simp
      with_reducible rfl
     rotate_left
     ·simp only [Act.put, List.setIfInBounds_toArray, List.set_cons_zero, List.set_cons_succ, i64_w, i32_w]
      rfl
     refine one_ (i := 7) (N := some 9) #[true, true, true, true, true, true, true, true, false, false] rfl rfl (one_of HT_.out (by kernel_rfl)) (by decide) (fun K hK => ?_)
     refine box_step ?hg (N := 9) ?hd (cs := #[.int .i64 0, .slice none 0 0]) (t := 35) ?hr ?_; (case hd => rfl); (case hg => rfl); (case hr => first | (go_simp; done) | (go_simp; rfl))
     intro gb270 hg w45 hbox hb
     have n0_ := am (Kd.R_below (roS HO247.out) hb)
     have n1_ := am (Kd.R_below (roS HO254.out) hb)
     have n2_ := am (Kd.R_below (roS HO260.out) hb)
     have n3_ := am (Kd.R_below (roS HO268.out) hb)
     have n4_ := am (blk_below (bkS BK241.out) hb)
     have n5_ := am (blk_below (bkS BK242.out) hb)
     have n6_ := am (blk_below (bkS BK256.out) hb)
     have n7_ := am (blk_below (bkS BK261.out) hb)
     have n8_ := am (below_step (by repeat (first | (with_reducible first | exact HB.out | apply below_alloc | apply pw_below_drewN | apply below_drew1 | refine below_set ?_ (Aside0.out (by assumption))) | exact HB.out)) hb)
     have n9_ := am (hbox)
     have n10_ := am ((by rw [hg]; exact (below_size (by repeat (first | (with_reducible first | exact HB.out | apply below_alloc | apply pw_below_drewN | apply below_drew1 | refine below_set ?_ (Aside0.out (by assumption))) | exact HB.out))) : w.heap.size ≤ gb270))
     have n11_ := am ((by rw [hg]; exact (below_size (by repeat (first | (with_reducible first | exact HB.out | apply below_alloc | apply pw_below_drewN | apply below_drew1 | refine below_set ?_ (Aside0.out (by assumption))) | exact HB.out))) : w.heap.size ≤ gb270))
     have n12_ := am (nbL (bkS BK241.out) hg)
     have n13_ := am (nbG (bkS BK241.out) hg)
     have n14_ := am (nbL (bkS BK242.out) hg)
     have n15_ := am (nbG (bkS BK242.out) hg)
     have n16_ := am (nbL (bkS BK256.out) hg)
     have n17_ := am (nbG (bkS BK256.out) hg)
     have n18_ := am (nbL (bkS BK261.out) hg)
     have n19_ := am (nbG (bkS BK261.out) hg)
     clear HO247
     clear HO254
     clear HO260
     clear HO268
     clear BK241
     clear BK242
     clear BK256
     clear BK261
     clear HB
     have HO247 := n0_
     have HO254 := n1_
     have HO260 := n2_
     have HO268 := n3_
     have BK241 := n4_
     have BK242 := n5_
     have BK256 := n6_
     have BK261 := n7_
     have HB := n8_
     have BK270 := n9_
     have GW270 := n10_
     have GE270 := n11_
     have NB241_270 := n12_
     have NB270_241 := n13_
     have NB242_270 := n14_
     have NB270_242 := n15_
     have NB256_270 := n16_
     have NB270_256 := n17_
     have NB261_270 := n18_
     have NB270_261 := n19_
     clear n0_ n1_ n2_ n3_ n4_ n5_ n6_ n7_ n8_ n9_ n10_ n11_ n12_ n13_ n14_ n15_ n16_ n17_ n18_ n19_
     clear hb hbox hg
     refine hK.out _ _ ⟨(blk_cell BK261.out 0).trans rfl, (blk_cell BK261.out 1).trans rfl, (blk_cell BK242.out 0).trans rfl, (blk_cell BK242.out 1).trans rfl, (blk_cell BK242.out 2).trans rfl⟩ (fun hHeld => ?_)
     clear hK K
     refine norm_ (a' := ?_) ?_ ?_
     rotate_left
     ·show Act.put _ (some 9) _ = _
      simp only [Act.put, List.setIfInBounds_toArray, List.set_cons_zero, List.set_cons_succ, i64_w, i32_w]
      rfl
     exact norm_ (by simp only [putAll, Act.put, List.setIfInBounds_toArray, List.set_cons_zero, List.set_cons_succ]) (hCont (v267, gb270) _ ⟨hHeld, (by (with_reducible repeat (first | apply Kd.R_alloc | apply Kd.R_drewN | apply Kd.R_drew)); exact Kd.R_mono HO247.out (fun _ hk => ⟨hk.1.1, ⟨hk.1.2, hk.2⟩⟩)), (by (with_reducible repeat (first | apply Kd.R_alloc | apply Kd.R_drewN | apply Kd.R_drew)); exact Kd.R_mono HO254.out (fun _ hk => ⟨hk.1.1, ⟨hk.1.2, hk.2⟩⟩)), (by (with_reducible repeat (first | apply Kd.R_alloc | apply Kd.R_drewN | apply Kd.R_drew)); exact Kd.R_mono HO260.out (fun _ hk => ⟨hk.1.1, ⟨hk.1.2, hk.2⟩⟩)), (by (with_reducible repeat (first | apply Kd.R_alloc | apply Kd.R_drewN | apply Kd.R_drew)); exact Kd.R_mono HO268.out (fun _ hk => ⟨hk.1.1.2, ⟨hk.1.2, hk.2⟩⟩)), (bkS BK241.out), (bkS BK242.out), (bkS BK256.out), (bkS BK261.out), (bkS BK270.out), GW270.out, GE270.out, NB241_270.out, NB270_241.out, NB242_270.out, NB270_242.out, NB256_270.out, NB270_256.out, NB261_270.out, NB270_261.out, (by repeat (first | (with_reducible first | exact HB.out | apply below_alloc | apply pw_below_drewN | apply below_drew1 | refine below_set ?_ (Aside0.out (by assumption))) | exact HB.out))⟩)
    ·skip
     refine box_step ?hg (N := 9) ?hd (cs := #[.int .i64 0, .slice none 0 0]) (t := 35) ?hr ?_; (case hd => rfl); (case hg => rfl); (case hr => first | (go_simp; done) | (go_simp; rfl))
     intro gb270 hg w44 hbox hb
     have n0_ := am (Kd.R_below (roS HO247.out) hb)
     have n1_ := am (Kd.R_below (roS HO254.out) hb)
     have n2_ := am (Kd.R_below (roS HO260.out) hb)
     have n3_ := am (blk_below (bkS BK241.out) hb)
     have n4_ := am (blk_below (bkS BK242.out) hb)
     have n5_ := am (blk_below (bkS BK256.out) hb)
     have n6_ := am (blk_below (bkS BK261.out) hb)
     have n7_ := am (below_step (by repeat (first | (with_reducible first | exact HB.out | apply below_alloc | apply pw_below_drewN | apply below_drew1 | refine below_set ?_ (Aside0.out (by assumption))) | exact HB.out)) hb)
     have n8_ := am (hbox)
     have n9_ := am ((by rw [hg]; exact (below_size (by repeat (first | (with_reducible first | exact HB.out | apply below_alloc | apply pw_below_drewN | apply below_drew1 | refine below_set ?_ (Aside0.out (by assumption))) | exact HB.out))) : w.heap.size ≤ gb270))
     have n10_ := am ((by rw [hg]; exact (below_size (by repeat (first | (with_reducible first | exact HB.out | apply below_alloc | apply pw_below_drewN | apply below_drew1 | refine below_set ?_ (Aside0.out (by assumption))) | exact HB.out))) : w.heap.size ≤ gb270))
     have n11_ := am (nbL (bkS BK241.out) hg)
     have n12_ := am (nbG (bkS BK241.out) hg)
     have n13_ := am (nbL (bkS BK242.out) hg)
     have n14_ := am (nbG (bkS BK242.out) hg)
     have n15_ := am (nbL (bkS BK256.out) hg)
     have n16_ := am (nbG (bkS BK256.out) hg)
     have n17_ := am (nbL (bkS BK261.out) hg)
     have n18_ := am (nbG (bkS BK261.out) hg)
     clear HO247
     clear HO254
     clear HO260
     clear BK241
     clear BK242
     clear BK256
     clear BK261
     clear HB
     have HO247 := n0_
     have HO254 := n1_
     have HO260 := n2_
     have BK241 := n3_
     have BK242 := n4_
     have BK256 := n5_
     have BK261 := n6_
     have HB := n7_
     have BK270 := n8_
     have GW270 := n9_
     have GE270 := n10_
     have NB241_270 := n11_
     have NB270_241 := n12_
     have NB242_270 := n13_
     have NB270_242 := n14_
     have NB256_270 := n15_
     have NB270_256 := n16_
     have NB261_270 := n17_
     have NB270_261 := n18_
     clear n0_ n1_ n2_ n3_ n4_ n5_ n6_ n7_ n8_ n9_ n10_ n11_ n12_ n13_ n14_ n15_ n16_ n17_ n18_
     clear hb hbox hg
     refine hK.out _ _ ⟨(blk_cell BK261.out 0).trans rfl, (blk_cell BK261.out 1).trans rfl, (blk_cell BK242.out 0).trans rfl, (blk_cell BK242.out 1).trans rfl, (blk_cell BK242.out 2).trans rfl⟩ (fun hHeld => ?_)
     clear hK K
     refine norm_ (a' := ?_) ?_ ?_
     rotate_left
     ·show Act.put _ (some 9) _ = _
      simp only [Act.put, List.setIfInBounds_toArray, List.set_cons_zero, List.set_cons_succ, i64_w, i32_w]
      rfl
     refine one_ (i := 3) (N := some 35) #[true, true, true, true, false, false, false, true, false, false] rfl rfl (one_of HT_.out (by kernel_rfl)) (by decide) (fun K hK => ?_)
     refine goes_ Try.func16 (by kernel_rfl) rfl #[.agg #[.int .i64 t257, .slice Ao40 t258.length co40], .agg #[.int .i64 t262, .int .i64 t263, .int .i64 t264]] (by rfl) rfl rfl (by (try simp only [List.map_toArray, List.map_cons, List.map_nil]); first | done | rfl | (simp only [List.length_drop, List.length_take]; rfl)) ?_
     with_reducible refine (impl_AddClue.calls k t257 _ _ t258 t262 t263 t264 t265 t266 t269 _ ?side1 ?side2 A15.out).mono ?_
     (case side1 => repeat (first | exact (Kd.R_reads' HO260.out).2.2 | (with_reducible refine Kd.C_alloc ?_ _) | (with_reducible refine Kd.C_drewN ?_ _) | (with_reducible refine Kd.C_drew ?_)))
     (case side2 => exact (Kd.R_reads' HO260.out).2.1)
     rintro e w45 ⟨v267, rfl, ho0, hb⟩
     refine ⟨_, rfl, ?_⟩
     have n0_ := am (Kd.R_elder' (roS HO247.out) (Kd.R_base ho0) hb)
     have n1_ := am (Kd.R_elder' (roS HO254.out) (Kd.R_base ho0) hb)
     have n2_ := am (Kd.R_elder' (roS HO260.out) (Kd.R_base ho0) hb)
     have n3_ := am (Kd.R_lower (Kd.R_new' (Kd.R_new' (Kd.R_new' ho0 (Kd.R_lt (roS HO247.out))) (Kd.R_lt (roS HO254.out))) (Kd.R_lt (roS HO260.out))) (below_size (by repeat (first | (with_reducible first | exact HB.out | apply below_alloc | apply pw_below_drewN | apply below_drew1 | refine below_set ?_ (Aside0.out (by assumption))) | exact HB.out))))
     have n4_ := am (blk_below (bkS BK241.out) hb)
     have n5_ := am (blk_below (bkS BK242.out) hb)
     have n6_ := am (blk_below (bkS BK256.out) hb)
     have n7_ := am (blk_below (bkS BK261.out) hb)
     have n8_ := am (blk_below (bkS BK270.out) hb)
     have n9_ := am (below_step (by repeat (first | (with_reducible first | exact HB.out | apply below_alloc | apply pw_below_drewN | apply below_drew1 | refine below_set ?_ (Aside0.out (by assumption))) | exact HB.out)) hb)
     clear HO247
     clear HO254
     clear HO260
     clear BK241
     clear BK242
     clear BK256
     clear BK261
     clear BK270
     clear HB
     have HO247 := n0_
     have HO254 := n1_
     have HO260 := n2_
     have HO268 := n3_
     have BK241 := n4_
     have BK242 := n5_
     have BK256 := n6_
     have BK261 := n7_
     have BK270 := n8_
     have HB := n9_
     clear n0_ n1_ n2_ n3_ n4_ n5_ n6_ n7_ n8_ n9_
     (try clear hb)
     (try clear hb2)
     (try clear hk)
     (try clear hi)
     (try clear ho0)
     refine hK.out _ _ ⟨(blk_cell BK261.out 0).trans rfl, (blk_cell BK261.out 1).trans rfl, (blk_cell BK242.out 0).trans rfl, (blk_cell BK242.out 1).trans rfl, (blk_cell BK242.out 2).trans rfl⟩ (fun hHeld => ?_)
     clear hK K
     refine norm_ (a' := ?_) ?_ ?_
     rotate_left
     ·show Act.put _ (some 35) _ = _
      simp only [Act.put, List.setIfInBounds_toArray, List.set_cons_zero, List.set_cons_succ, i64_w, i32_w]
      rfl
     refine pure_ (i := 4) (N := some 31) (v := ?_) (a' := ?_) #[true, true, true, true, true, false, false, true, false, false] rfl rfl (any_of HT_.out (by kernel_rfl)) (fun _ _ _ h => h) (Or.inl ⟨by rfl, ?_⟩) ?_ ?_
     rotate_left
     ·intro w'
      go_simp
      with_reducible rfl
     rotate_left
     ·simp only [Act.put, List.setIfInBounds_toArray, List.set_cons_zero, List.set_cons_succ, i64_w, i32_w]
      rfl
     refine pure_ (i := 5) (N := some 36) (v := ?_) (a' := ?_) #[true, true, true, true, true, true, false, true, false, false] rfl rfl (any_of HT_.out (by kernel_rfl)) (fun _ _ _ h => h) (Or.inl ⟨by rfl, ?_⟩) ?_ ?_
     rotate_left
     ·intro w'
      go_simp
      with_reducible rfl
     rotate_left
     ·simp only [Act.put, List.setIfInBounds_toArray, List.set_cons_zero, List.set_cons_succ, i64_w, i32_w]
      rfl
     refine pure_ (i := 6) (N := some 37) (v := ?_) (a' := ?_) #[true, true, true, true, true, true, true, true, false, false] rfl rfl (any_of HT_.out (by kernel_rfl)) (fun _ _ _ h => h) (Or.inl ⟨by rfl, ?_⟩) ?_ ?_
     rotate_left
     ·intro w'
      go_simp
      with_reducible rfl
     rotate_left
     ·simp only [Act.put, List.setIfInBounds_toArray, List.set_cons_zero, List.set_cons_succ, i64_w, i32_w]
      rfl
     exact norm_ (by simp only [putAll, Act.put, List.setIfInBounds_toArray, List.set_cons_zero, List.set_cons_succ]) (hCont (v267, gb270) _ ⟨hHeld, (by (with_reducible repeat (first | apply Kd.R_alloc | apply Kd.R_drewN | apply Kd.R_drew)); exact Kd.R_mono HO247.out (fun _ hk => ⟨hk.1.1, ⟨hk.1.2, hk.2⟩⟩)), (by (with_reducible repeat (first | apply Kd.R_alloc | apply Kd.R_drewN | apply Kd.R_drew)); exact Kd.R_mono HO254.out (fun _ hk => ⟨hk.1.1, ⟨hk.1.2, hk.2⟩⟩)), (by (with_reducible repeat (first | apply Kd.R_alloc | apply Kd.R_drewN | apply Kd.R_drew)); exact Kd.R_mono HO260.out (fun _ hk => ⟨hk.1.1, ⟨hk.1.2, hk.2⟩⟩)), (by (with_reducible repeat (first | apply Kd.R_alloc | apply Kd.R_drewN | apply Kd.R_drew)); exact Kd.R_mono HO268.out (fun _ hk => ⟨hk.1.1.2, ⟨hk.1.2, hk.2⟩⟩)), (bkS BK241.out), (bkS BK242.out), (bkS BK256.out), (bkS BK261.out), (bkS BK270.out), GW270.out, GE270.out, NB241_270.out, NB270_241.out, NB242_270.out, NB270_242.out, NB256_270.out, NB270_256.out, NB261_270.out, NB270_261.out, (by repeat (first | (with_reducible first | exact HB.out | apply below_alloc | apply pw_below_drewN | apply below_drew1 | refine below_set ?_ (Aside0.out (by assumption))) | exact HB.out))⟩)
   ·skip
    refine box_step ?hg (N := 9) ?hd (cs := #[.int .i64 0, .slice none 0 0]) (t := 35) ?hr ?_; (case hd => rfl); (case hg => rfl); (case hr => first | (go_simp; done) | (go_simp; rfl))
    intro gb270 hg w43 hbox hb
    have n0_ := am (Kd.R_below (roS HO247.out) hb)
    have n1_ := am (Kd.R_below (roS HO254.out) hb)
    have n2_ := am (Kd.R_below (roS HO260.out) hb)
    have n3_ := am (blk_below (bkS BK241.out) hb)
    have n4_ := am (blk_below (bkS BK242.out) hb)
    have n5_ := am (blk_below (bkS BK256.out) hb)
    have n6_ := am (blk_below (bkS BK261.out) hb)
    have n7_ := am (below_step (by repeat (first | (with_reducible first | exact HB.out | apply below_alloc | apply pw_below_drewN | apply below_drew1 | refine below_set ?_ (Aside0.out (by assumption))) | exact HB.out)) hb)
    have n8_ := am (hbox)
    have n9_ := am ((by rw [hg]; exact (below_size (by repeat (first | (with_reducible first | exact HB.out | apply below_alloc | apply pw_below_drewN | apply below_drew1 | refine below_set ?_ (Aside0.out (by assumption))) | exact HB.out))) : w.heap.size ≤ gb270))
    have n10_ := am ((by rw [hg]; exact (below_size (by repeat (first | (with_reducible first | exact HB.out | apply below_alloc | apply pw_below_drewN | apply below_drew1 | refine below_set ?_ (Aside0.out (by assumption))) | exact HB.out))) : w.heap.size ≤ gb270))
    have n11_ := am (nbL (bkS BK241.out) hg)
    have n12_ := am (nbG (bkS BK241.out) hg)
    have n13_ := am (nbL (bkS BK242.out) hg)
    have n14_ := am (nbG (bkS BK242.out) hg)
    have n15_ := am (nbL (bkS BK256.out) hg)
    have n16_ := am (nbG (bkS BK256.out) hg)
    have n17_ := am (nbL (bkS BK261.out) hg)
    have n18_ := am (nbG (bkS BK261.out) hg)
    clear HO247
    clear HO254
    clear HO260
    clear BK241
    clear BK242
    clear BK256
    clear BK261
    clear HB
    have HO247 := n0_
    have HO254 := n1_
    have HO260 := n2_
    have BK241 := n3_
    have BK242 := n4_
    have BK256 := n5_
    have BK261 := n6_
    have HB := n7_
    have BK270 := n8_
    have GW270 := n9_
    have GE270 := n10_
    have NB241_270 := n11_
    have NB270_241 := n12_
    have NB242_270 := n13_
    have NB270_242 := n14_
    have NB256_270 := n15_
    have NB270_256 := n16_
    have NB261_270 := n17_
    have NB270_261 := n18_
    clear n0_ n1_ n2_ n3_ n4_ n5_ n6_ n7_ n8_ n9_ n10_ n11_ n12_ n13_ n14_ n15_ n16_ n17_ n18_
    clear hb hbox hg
    refine hK.out _ _ ⟨(blk_cell BK261.out 0).trans rfl, (blk_cell BK261.out 1).trans rfl, (blk_cell BK242.out 0).trans rfl, (blk_cell BK242.out 1).trans rfl, (blk_cell BK242.out 2).trans rfl⟩ (fun hHeld => ?_)
    clear hK K
    refine norm_ (a' := ?_) ?_ ?_
    rotate_left
    ·show Act.put _ (some 9) _ = _
     simp only [Act.put, List.setIfInBounds_toArray, List.set_cons_zero, List.set_cons_succ, i64_w, i32_w]
     rfl
    refine one_ (i := 2) (N := some 34) #[true, true, true, false, false, false, false, true, false, false] rfl rfl (one_of HT_.out (by kernel_rfl)) (by decide) (fun K hK => ?_)
    refine goes_ Try.func8 (by kernel_rfl) rfl #[.agg #[.int .i64 a1_0, .int .i64 a1_1, .int .i64 a1_2]] (by rfl) rfl rfl (by (try simp only [List.map_toArray, List.map_cons, List.map_nil]); first | done | rfl | (simp only [List.length_drop, List.length_take]; rfl)) ?_
    with_reducible refine (laws_toClue.calls a1_0 a1_1 a1_2 t262 t263 t264 _ A14.out).mono ?_
    rintro e w44 ⟨rfl, hb⟩
    refine ⟨_, rfl, ?_⟩
    have n0_ := am (Kd.R_below (roS HO247.out) hb)
    have n1_ := am (Kd.R_below (roS HO254.out) hb)
    have n2_ := am (Kd.R_below (roS HO260.out) hb)
    have n3_ := am (blk_below (bkS BK241.out) hb)
    have n4_ := am (blk_below (bkS BK242.out) hb)
    have n5_ := am (blk_below (bkS BK256.out) hb)
    have n6_ := am (blk_below (bkS BK261.out) hb)
    have n7_ := am (blk_below (bkS BK270.out) hb)
    have n8_ := am (below_step (by repeat (first | (with_reducible first | exact HB.out | apply below_alloc | apply pw_below_drewN | apply below_drew1 | refine below_set ?_ (Aside0.out (by assumption))) | exact HB.out)) hb)
    clear HO247
    clear HO254
    clear HO260
    clear BK241
    clear BK242
    clear BK256
    clear BK261
    clear BK270
    clear HB
    have HO247 := n0_
    have HO254 := n1_
    have HO260 := n2_
    have BK241 := n3_
    have BK242 := n4_
    have BK256 := n5_
    have BK261 := n6_
    have BK270 := n7_
    have HB := n8_
    clear n0_ n1_ n2_ n3_ n4_ n5_ n6_ n7_ n8_
    (try clear hb)
    (try clear hb2)
    (try clear hk)
    (try clear hi)
    refine hK.out _ _ ⟨(blk_cell BK261.out 0).trans rfl, (blk_cell BK261.out 1).trans rfl, (blk_cell BK242.out 0).trans rfl, (blk_cell BK242.out 1).trans rfl, (blk_cell BK242.out 2).trans rfl⟩ (fun hHeld => ?_)
    clear hK K
    refine norm_ (a' := ?_) ?_ ?_
    rotate_left
    ·show Act.put _ (some 34) _ = _
     simp only [Act.put, List.setIfInBounds_toArray, List.set_cons_zero, List.set_cons_succ, i64_w, i32_w]
     rfl
    refine one_ (i := 3) (N := some 35) #[true, true, true, true, false, false, false, true, false, false] rfl rfl (one_of HT_.out (by kernel_rfl)) (by decide) (fun K hK => ?_)
    refine goes_ Try.func16 (by kernel_rfl) rfl #[.agg #[.int .i64 t257, .slice Ao40 t258.length co40], .agg #[.int .i64 t262, .int .i64 t263, .int .i64 t264]] (by rfl) rfl rfl (by (try simp only [List.map_toArray, List.map_cons, List.map_nil]); first | done | rfl | (simp only [List.length_drop, List.length_take]; rfl)) ?_
    with_reducible refine (impl_AddClue.calls k t257 _ _ t258 t262 t263 t264 t265 t266 t269 _ ?side1 ?side2 A15.out).mono ?_
    (case side1 => repeat (first | exact (Kd.R_reads' HO260.out).2.2 | (with_reducible refine Kd.C_alloc ?_ _) | (with_reducible refine Kd.C_drewN ?_ _) | (with_reducible refine Kd.C_drew ?_)))
    (case side2 => exact (Kd.R_reads' HO260.out).2.1)
    rintro e w45 ⟨v267, rfl, ho0, hb⟩
    refine ⟨_, rfl, ?_⟩
    have n0_ := am (Kd.R_elder' (roS HO247.out) (Kd.R_base ho0) hb)
    have n1_ := am (Kd.R_elder' (roS HO254.out) (Kd.R_base ho0) hb)
    have n2_ := am (Kd.R_elder' (roS HO260.out) (Kd.R_base ho0) hb)
    have n3_ := am (Kd.R_lower (Kd.R_new' (Kd.R_new' (Kd.R_new' ho0 (Kd.R_lt (roS HO247.out))) (Kd.R_lt (roS HO254.out))) (Kd.R_lt (roS HO260.out))) (below_size (by repeat (first | (with_reducible first | exact HB.out | apply below_alloc | apply pw_below_drewN | apply below_drew1 | refine below_set ?_ (Aside0.out (by assumption))) | exact HB.out))))
    have n4_ := am (blk_below (bkS BK241.out) hb)
    have n5_ := am (blk_below (bkS BK242.out) hb)
    have n6_ := am (blk_below (bkS BK256.out) hb)
    have n7_ := am (blk_below (bkS BK261.out) hb)
    have n8_ := am (blk_below (bkS BK270.out) hb)
    have n9_ := am (below_step (by repeat (first | (with_reducible first | exact HB.out | apply below_alloc | apply pw_below_drewN | apply below_drew1 | refine below_set ?_ (Aside0.out (by assumption))) | exact HB.out)) hb)
    clear HO247
    clear HO254
    clear HO260
    clear BK241
    clear BK242
    clear BK256
    clear BK261
    clear BK270
    clear HB
    have HO247 := n0_
    have HO254 := n1_
    have HO260 := n2_
    have HO268 := n3_
    have BK241 := n4_
    have BK242 := n5_
    have BK256 := n6_
    have BK261 := n7_
    have BK270 := n8_
    have HB := n9_
    clear n0_ n1_ n2_ n3_ n4_ n5_ n6_ n7_ n8_ n9_
    (try clear hb)
    (try clear hb2)
    (try clear hk)
    (try clear hi)
    (try clear ho0)
    refine hK.out _ _ ⟨(blk_cell BK261.out 0).trans rfl, (blk_cell BK261.out 1).trans rfl, (blk_cell BK242.out 0).trans rfl, (blk_cell BK242.out 1).trans rfl, (blk_cell BK242.out 2).trans rfl⟩ (fun hHeld => ?_)
    clear hK K
    refine norm_ (a' := ?_) ?_ ?_
    rotate_left
    ·show Act.put _ (some 35) _ = _
     simp only [Act.put, List.setIfInBounds_toArray, List.set_cons_zero, List.set_cons_succ, i64_w, i32_w]
     rfl
    refine pure_ (i := 4) (N := some 31) (v := ?_) (a' := ?_) #[true, true, true, true, true, false, false, true, false, false] rfl rfl (any_of HT_.out (by kernel_rfl)) (fun _ _ _ h => h) (Or.inl ⟨by rfl, ?_⟩) ?_ ?_
    rotate_left
    ·intro w'
     go_simp
     with_reducible rfl
    rotate_left
    ·simp only [Act.put, List.setIfInBounds_toArray, List.set_cons_zero, List.set_cons_succ, i64_w, i32_w]
     rfl
    refine pure_ (i := 5) (N := some 36) (v := ?_) (a' := ?_) #[true, true, true, true, true, true, false, true, false, false] rfl rfl (any_of HT_.out (by kernel_rfl)) (fun _ _ _ h => h) (Or.inl ⟨by rfl, ?_⟩) ?_ ?_
    rotate_left
    ·intro w'
     go_simp
     with_reducible rfl
    rotate_left
    ·simp only [Act.put, List.setIfInBounds_toArray, List.set_cons_zero, List.set_cons_succ, i64_w, i32_w]
     rfl
    refine pure_ (i := 6) (N := some 37) (v := ?_) (a' := ?_) #[true, true, true, true, true, true, true, true, false, false] rfl rfl (any_of HT_.out (by kernel_rfl)) (fun _ _ _ h => h) (Or.inl ⟨by rfl, ?_⟩) ?_ ?_
    rotate_left
    ·intro w'
     go_simp
     with_reducible rfl
    rotate_left
    ·simp only [Act.put, List.setIfInBounds_toArray, List.set_cons_zero, List.set_cons_succ, i64_w, i32_w]
     rfl
    exact norm_ (by simp only [putAll, Act.put, List.setIfInBounds_toArray, List.set_cons_zero, List.set_cons_succ]) (hCont (v267, gb270) _ ⟨hHeld, (by (with_reducible repeat (first | apply Kd.R_alloc | apply Kd.R_drewN | apply Kd.R_drew)); exact Kd.R_mono HO247.out (fun _ hk => ⟨hk.1.1, ⟨hk.1.2, hk.2⟩⟩)), (by (with_reducible repeat (first | apply Kd.R_alloc | apply Kd.R_drewN | apply Kd.R_drew)); exact Kd.R_mono HO254.out (fun _ hk => ⟨hk.1.1, ⟨hk.1.2, hk.2⟩⟩)), (by (with_reducible repeat (first | apply Kd.R_alloc | apply Kd.R_drewN | apply Kd.R_drew)); exact Kd.R_mono HO260.out (fun _ hk => ⟨hk.1.1, ⟨hk.1.2, hk.2⟩⟩)), (by (with_reducible repeat (first | apply Kd.R_alloc | apply Kd.R_drewN | apply Kd.R_drew)); exact Kd.R_mono HO268.out (fun _ hk => ⟨hk.1.1.2, ⟨hk.1.2, hk.2⟩⟩)), (bkS BK241.out), (bkS BK242.out), (bkS BK256.out), (bkS BK261.out), (bkS BK270.out), GW270.out, GE270.out, NB241_270.out, NB270_241.out, NB242_270.out, NB270_242.out, NB256_270.out, NB270_256.out, NB261_270.out, NB270_261.out, (by repeat (first | (with_reducible first | exact HB.out | apply below_alloc | apply pw_below_drewN | apply below_drew1 | refine below_set ?_ (Aside0.out (by assumption))) | exact HB.out))⟩)
  rintro ⟨v267, gb270⟩ w46 ⟨hS_, h0_, h1_, h2_, h3_, h4_, h5_, h6_, h7_, h8_, h9_, h10_, h11_, h12_, h13_, h14_, h15_, h16_, h17_, h18_, h19_⟩
  have n0_ : Aside0 (Kd.R k25 25 w46 w.heap.size (fun k_ => some k_ ≠ (.slice Ao30 t252.length co30 : Value).ownBlock ∧ some k_ ≠ (.slice Ao40 t258.length co40 : Value).ownBlock ∧ some k_ ≠ (v267 : Value).ownBlock) v246 t245) := ⟨h0_⟩
  have n1_ : Aside0 (Kd.R k25 25 w46 w.heap.size (fun k_ => some k_ ≠ (v246 : Value).ownBlock ∧ some k_ ≠ (.slice Ao40 t258.length co40 : Value).ownBlock ∧ some k_ ≠ (v267 : Value).ownBlock) (.slice Ao30 t252.length co30) t252) := ⟨h1_⟩
  have n2_ : Aside0 (Kd.R k25 25 w46 w.heap.size (fun k_ => some k_ ≠ (v246 : Value).ownBlock ∧ some k_ ≠ (.slice Ao30 t252.length co30 : Value).ownBlock ∧ some k_ ≠ (v267 : Value).ownBlock) (.slice Ao40 t258.length co40) t258) := ⟨h2_⟩
  have n3_ : Aside0 (Kd.R k25 25 w46 w.heap.size (fun k_ => some k_ ≠ (v246 : Value).ownBlock ∧ some k_ ≠ (.slice Ao30 t252.length co30 : Value).ownBlock ∧ some k_ ≠ (.slice Ao40 t258.length co40 : Value).ownBlock) v267 t266) := ⟨h3_⟩
  have n4_ : Aside0 (w46.heap[gb241]? = some (.cells #[.int .i64 a0_0, .slice A0_1 l0_1.length c0_1] 30 (0, 0))) := ⟨h4_⟩
  have n5_ : Aside0 (w46.heap[gb242]? = some (.cells #[.int .i64 a1_0, .int .i64 a1_1, .int .i64 a1_2] 23 (0, 0))) := ⟨h5_⟩
  have n6_ : Aside0 (w46.heap[gb256]? = some (.cells #[.int .i64 t251, .slice Ao30 t252.length co30] 35 (0, 0))) := ⟨h6_⟩
  have n7_ : Aside0 (w46.heap[gb261]? = some (.cells #[.int .i64 t257, .slice Ao40 t258.length co40] 35 (0, 0))) := ⟨h7_⟩
  have n8_ : Aside0 (w46.heap[gb270]? = some (.cells #[.int .i64 0, .slice none 0 0] 35 (0, 0))) := ⟨h8_⟩
  have n9_ : Aside0 (w.heap.size ≤ gb270) := ⟨h9_⟩
  have n10_ : Aside0 (w.heap.size ≤ gb270) := ⟨h10_⟩
  have n11_ : Aside0 (gb241 ≠ gb270) := ⟨h11_⟩
  have n12_ : Aside0 (gb270 ≠ gb241) := ⟨h12_⟩
  have n13_ : Aside0 (gb242 ≠ gb270) := ⟨h13_⟩
  have n14_ : Aside0 (gb270 ≠ gb242) := ⟨h14_⟩
  have n15_ : Aside0 (gb256 ≠ gb270) := ⟨h15_⟩
  have n16_ : Aside0 (gb270 ≠ gb256) := ⟨h16_⟩
  have n17_ : Aside0 (gb261 ≠ gb270) := ⟨h17_⟩
  have n18_ : Aside0 (gb270 ≠ gb261) := ⟨h18_⟩
  have n19_ : Aside0 (Below w.heap.size w w46) := ⟨h19_⟩
  clear HO247
  clear HO254
  clear HO260
  clear BK241
  clear BK242
  clear BK256
  clear BK261
  clear HB
  clear h0_ h1_ h2_ h3_ h4_ h5_ h6_ h7_ h8_ h9_ h10_ h11_ h12_ h13_ h14_ h15_ h16_ h17_ h18_ h19_
  have HO247 := n0_
  have HO254 := n1_
  have HO260 := n2_
  have HO268 := n3_
  have BK241 := n4_
  have BK242 := n5_
  have BK256 := n6_
  have BK261 := n7_
  have BK270 := n8_
  have GW270 := n9_
  have GE270 := n10_
  have NB241_270 := n11_
  have NB270_241 := n12_
  have NB242_270 := n13_
  have NB270_242 := n14_
  have NB256_270 := n15_
  have NB270_256 := n16_
  have NB261_270 := n17_
  have NB270_261 := n18_
  have HB := n19_
  clear n0_ n1_ n2_ n3_ n4_ n5_ n6_ n7_ n8_ n9_ n10_ n11_ n12_ n13_ n14_ n15_ n16_ n17_ n18_ n19_
  have hHeld : w46.cell? ⟨gb261, 0, none⟩ = some (.int .i64 t257) ∧ w46.cell? ⟨gb261, 1, none⟩ = some (.slice Ao40 t258.length co40) ∧ w46.cell? ⟨gb242, 0, none⟩ = some (.int .i64 a1_0) ∧ w46.cell? ⟨gb242, 1, none⟩ = some (.int .i64 a1_1) ∧ w46.cell? ⟨gb242, 2, none⟩ = some (.int .i64 a1_2) := hS_
  obtain ⟨Ao48, co48, eo48⟩ := Kd.R_slice HO268.out
  (first | subst eo48 | (injection eo48 with f1_ f2_ f3_; have f4_ := f1_.symm; have f5_ := f3_.symm; clear f1_ f2_ f3_; subst f4_; subst f5_))
  refine norm_ (a' := ?_) ?_ ?_
  rotate_left
  ·simp only [putAll, Act.put, List.setIfInBounds_toArray, List.set_cons_zero, List.set_cons_succ]
   rfl
  refine one_ (i := 8) (N := none) #[true, true, true, true, true, true, true, true, true, false] rfl rfl (one_of HT_.out (by kernel_rfl)) (by decide) (fun K hK => ?_)
  have hs47 : w46.cell? ⟨gb270, 0, none⟩ = some (.int .i64 0) := (blk_cell BK270.out 0).trans rfl
  have hfs47 := blk_frozen BK270.out 0
  have hns47_0 := NB241_270.out
  have hns47_1 := NB242_270.out
  have hns47_2 := NB256_270.out
  have hns47_3 := NB261_270.out
  have hms47_0 := NB270_241.out
  have hms47_1 := NB270_242.out
  have hms47_2 := NB270_256.out
  have hms47_3 := NB270_261.out
  have hs49 : w46.cell? ⟨gb270, 1, none⟩ = some (.slice none 0 0) := (blk_cell BK270.out 1).trans rfl
  have hfs49 := blk_frozen BK270.out 1
  have hns49_0 := NB241_270.out
  have hns49_1 := NB242_270.out
  have hns49_2 := NB256_270.out
  have hns49_3 := NB261_270.out
  have hms49_0 := NB270_241.out
  have hms49_1 := NB270_242.out
  have hms49_2 := NB270_256.out
  have hms49_3 := NB270_261.out
  refine skip_ (w1 := ?_) (by rfl) rfl ?_ ?_
  rotate_left
  ·go_simp
   rfl
  refine hK.out _ _ ⟨((cell_far (p := ⟨gb270, _, none⟩) NB261_270.out _).trans (((cell_far (p := ⟨gb270, _, none⟩) NB261_270.out _).trans (hHeld.1)))), ((cell_far (p := ⟨gb270, _, none⟩) NB261_270.out _).trans (((cell_far (p := ⟨gb270, _, none⟩) NB261_270.out _).trans (hHeld.2.1)))), ((cell_far (p := ⟨gb270, _, none⟩) NB242_270.out _).trans (((cell_far (p := ⟨gb270, _, none⟩) NB242_270.out _).trans (hHeld.2.2.1)))), ((cell_far (p := ⟨gb270, _, none⟩) NB242_270.out _).trans (((cell_far (p := ⟨gb270, _, none⟩) NB242_270.out _).trans (hHeld.2.2.2.1)))), ((cell_far (p := ⟨gb270, _, none⟩) NB242_270.out _).trans (((cell_far (p := ⟨gb270, _, none⟩) NB242_270.out _).trans (hHeld.2.2.2.2))))⟩ (fun hHeld => ?_)
  clear hK K
  refine pure_ (i := 9) (N := some 10) (v := ?_) (a' := ?_) #[true, true, true, true, true, true, true, true, true, true] rfl rfl (any_of HT_.out (by kernel_rfl)) (fun _ _ _ h => h) (Or.inl ⟨by rfl, ?_⟩) ?_ ?_
  rotate_left
  ·intro w'
   go_simp
   with_reducible rfl
  rotate_left
  ·simp only [Act.put, List.setIfInBounds_toArray, List.set_cons_zero, List.set_cons_succ, i64_w, i32_w]
   rfl
  refine done_ (done_of HT_.out (by kernel_rfl)) ?_
  go_upto_region 8 with (fail)
  go_cut [46] (fun v46 wc => ∃ (kq : Nat) (x46_15 : Bool), v46 = .bool x46_15 ∧ Aside0 (laws_FnExactAddClue.j0 kq t255 t269 x46_15 a0_0 l0_1 a1_0 a1_1 a1_2 t251 t252 t257 t258 t265 t266 = some r) ∧ Aside0 (kq ≤ k) ∧ Aside0 (Kd.R k25 25 wc w.heap.size (fun k_ => some k_ ≠ ((.slice Ao40 t258.length co40) : Value).ownBlock ∧ some k_ ≠ ((.slice Ao48 t266.length co48) : Value).ownBlock) (.slice Ao30 t252.length co30) t252) ∧ Aside0 (Kd.R k25 25 wc w.heap.size (fun k_ => some k_ ≠ ((.slice Ao30 t252.length co30) : Value).ownBlock ∧ some k_ ≠ ((.slice Ao48 t266.length co48) : Value).ownBlock) (.slice Ao40 t258.length co40) t258) ∧ Aside0 (Kd.R k25 25 wc w.heap.size (fun k_ => some k_ ≠ ((.slice Ao30 t252.length co30) : Value).ownBlock ∧ some k_ ≠ ((.slice Ao40 t258.length co40) : Value).ownBlock) (.slice Ao48 t266.length co48) t266) ∧ Aside0 (wc.heap[gb241]? = some (.cells #[.int .i64 a0_0, (.slice A0_1 l0_1.length c0_1)] 30 (0, 0))) ∧ Aside0 (wc.heap[gb242]? = some (.cells #[.int .i64 a1_0, .int .i64 a1_1, .int .i64 a1_2] 23 (0, 0))) ∧ Aside0 (wc.heap[gb256]? = some (.cells #[.int .i64 t251, (.slice Ao30 t252.length co30)] 35 (0, 0))) ∧ Aside0 (wc.heap[gb261]? = some (.cells #[.int .i64 t257, (.slice Ao40 t258.length co40)] 35 (0, 0))) ∧ Aside0 (wc.heap[gb270]? = some (.cells #[.int .i64 t265, (.slice Ao48 t266.length co48)] 35 (0, 0))) ∧ Aside0 (Below w.heap.size w wc))
  case first =>
   have H := HC16.out
   clear HC16
   replace H := Option.bind_eq_some_iff.mp H
   obtain ⟨t271, A500, H⟩ := H
   replace H : (if t271 = true then (laws_FnExactAddClue.j0 k t255 t269 (t269 != t255) a0_0 l0_1 a1_0 a1_1 a1_2 t251 t252 t257 t258 t265 t266) else (laws_FnExactAddClue.j0 k t255 t269 true a0_0 l0_1 a1_0 a1_1 a1_2 t251 t252 t257 t258 t265 t266)) = some r := H
   have A50 := am A500
   clear A500
   by_cases c51 : t271 = true
   ·subst c51
    have H1 : (laws_FnExactAddClue.j0 k t255 t269 (t269 != t255) a0_0 l0_1 a1_0 a1_1 a1_2 t251 t252 t257 t258 t265 t266) = some r := by rw [if_pos rfl] at H; exact H
    clear H
    have H := H1
    clear H1
    have H' := am H
    clear H
    have hnb52 := NB270_241.out
    have hnc52 := NB241_270.out
    have hnb53 := NB270_242.out
    have hnc53 := NB242_270.out
    have hnb54 := NB270_256.out
    have hnc54 := NB256_270.out
    have hnb55 := NB270_261.out
    have hnc55 := NB261_270.out
    have hcz56_0 : w46.cell? ⟨gb270, 0, none⟩ = some (.int .i64 0) := (blk_cell BK270.out 0).trans rfl
    have hcz56_1 : w46.cell? ⟨gb270, 1, none⟩ = some (.slice none 0 0) := (blk_cell BK270.out 1).trans rfl
    have hfz56_0 := blk_frozen BK270.out 0
    have hfz56_1 := blk_frozen BK270.out 1
    have hnb57 := NB256_241.out
    have hnc57 := NB241_256.out
    have hnb58 := NB256_242.out
    have hnc58 := NB242_256.out
    have hnb59 := NB256_261.out
    have hnc59 := NB261_256.out
    have hcz60_0 : w46.cell? ⟨gb256, 0, none⟩ = some (.int .i64 t251) := (blk_cell BK256.out 0).trans rfl
    have hcz60_1 : w46.cell? ⟨gb256, 1, none⟩ = some (.slice Ao30 t252.length co30) := (blk_cell BK256.out 1).trans rfl
    have hfz60_0 := blk_frozen BK256.out 0
    have hfz60_1 := blk_frozen BK256.out 1
    go_wp2_with (first | ((with_reducible refine gate_callee (f := 14) rfl ?_); refine goesL_ (some 40) rfl rfl Try.func14 (by kernel_rfl) rfl #[.agg #[.int .i64 t265, .slice Ao48 t266.length co48], .agg #[.int .i64 t251, .slice Ao30 t252.length co30]] rfl (by (try simp only [List.map_toArray, List.map_cons, List.map_nil]); first | done | rfl | (simp only [List.length_drop, List.length_take]; rfl)) ?_; (with_reducible refine (laws_eqPuzzle.calls k t265 _ _ t266 t251 _ _ t252 true _ ?side1 ?side2 ?side3 ?side4 A50.out).mono ?_); (case side1 => refine (Kd.R_reads' (e := 25) (base := w.heap.size) (ok := fun k_ => (some k_ ≠ (v246 : Value).ownBlock ∧ (some k_ ≠ (.slice Ao30 t252.length co30 : Value).ownBlock ∧ some k_ ≠ (.slice Ao40 t258.length co40 : Value).ownBlock))) (n := t266.length) (c := co48) ?_).2.2; exact (by (with_reducible repeat (first | apply Kd.R_alloc | apply Kd.R_drewN | apply Kd.R_drew)); exact (Kd.R_mono (Kd.R_far (p := ⟨gb270, 1, none⟩) (Kd.R_far (p := ⟨gb270, 0, none⟩) (Kd.R_types HO268.out BK270.out (by decide)) (fun _ hk => hk.2) (.int .i64 t265)) (fun _ hk => hk.2) (.slice Ao48 t266.length co48)) (fun _ h_ => h_.1)))); (case side2 => exact (Kd.R_reads' HO268.out).2.1); (case side3 => refine (Kd.R_reads' (e := 25) (base := w.heap.size) (ok := fun k_ => (some k_ ≠ (v246 : Value).ownBlock ∧ (some k_ ≠ (.slice Ao40 t258.length co40 : Value).ownBlock ∧ some k_ ≠ (.slice Ao48 t266.length co48 : Value).ownBlock))) (n := t252.length) (c := co30) ?_).2.2; exact (by (with_reducible repeat (first | apply Kd.R_alloc | apply Kd.R_drewN | apply Kd.R_drew)); exact (Kd.R_mono (Kd.R_far (p := ⟨gb270, 1, none⟩) (Kd.R_far (p := ⟨gb270, 0, none⟩) (Kd.R_types HO254.out BK270.out (by decide)) (fun _ hk => hk.2) (.int .i64 t265)) (fun _ hk => hk.2) (.slice Ao48 t266.length co48)) (fun _ h_ => h_.1)))); (case side4 => exact (Kd.R_reads' HO254.out).2.1); rintro e w61 ⟨rfl, hb⟩; refine ⟨_, rfl, ?_⟩; have n0_ := am (Kd.R_below (by (with_reducible repeat (first | apply Kd.R_alloc | apply Kd.R_drewN | apply Kd.R_drew)); exact (Kd.R_mono (Kd.R_far (p := ⟨gb270, 1, none⟩) (Kd.R_far (p := ⟨gb270, 0, none⟩) (Kd.R_types HO247.out BK270.out (by decide)) (fun _ hk => hk.2) (.int .i64 t265)) (fun _ hk => hk.2) (.slice Ao48 t266.length co48)) (fun _ h_ => h_.1))) hb); have n1_ := am (Kd.R_below (by (with_reducible repeat (first | apply Kd.R_alloc | apply Kd.R_drewN | apply Kd.R_drew)); exact (Kd.R_mono (Kd.R_far (p := ⟨gb270, 1, none⟩) (Kd.R_far (p := ⟨gb270, 0, none⟩) (Kd.R_types HO254.out BK270.out (by decide)) (fun _ hk => hk.2) (.int .i64 t265)) (fun _ hk => hk.2) (.slice Ao48 t266.length co48)) (fun _ h_ => h_.1))) hb); have n2_ := am (Kd.R_below (by (with_reducible repeat (first | apply Kd.R_alloc | apply Kd.R_drewN | apply Kd.R_drew)); exact (Kd.R_mono (Kd.R_far (p := ⟨gb270, 1, none⟩) (Kd.R_far (p := ⟨gb270, 0, none⟩) (Kd.R_types HO260.out BK270.out (by decide)) (fun _ hk => hk.2) (.int .i64 t265)) (fun _ hk => hk.2) (.slice Ao48 t266.length co48)) (fun _ h_ => h_.1))) hb); have n3_ := am (Kd.R_below (by (with_reducible repeat (first | apply Kd.R_alloc | apply Kd.R_drewN | apply Kd.R_drew)); exact (Kd.R_mono (Kd.R_far (p := ⟨gb270, 1, none⟩) (Kd.R_far (p := ⟨gb270, 0, none⟩) (Kd.R_types HO268.out BK270.out (by decide)) (fun _ hk => hk.2) (.int .i64 t265)) (fun _ hk => hk.2) (.slice Ao48 t266.length co48)) (fun _ h_ => h_.1))) hb); have n4_ := am (blk_below (g := gb241) (o := .cells #[.int .i64 a0_0, .slice A0_1 l0_1.length c0_1] 30 (0, 0)) (by (with_reducible repeat (first | refine blk_drewN ?_ _ | refine blk_drew ?_ | refine blk_alloc ?_ _)); refine blk_far ?_ NB241_270.out _; (with_reducible repeat (first | refine blk_drewN ?_ _ | refine blk_drew ?_ | refine blk_alloc ?_ _)); refine blk_far ?_ NB241_270.out _; (with_reducible repeat (first | refine blk_drewN ?_ _ | refine blk_drew ?_ | refine blk_alloc ?_ _)); exact BK241.out) hb); have n5_ := am (blk_below (g := gb242) (o := .cells #[.int .i64 a1_0, .int .i64 a1_1, .int .i64 a1_2] 23 (0, 0)) (by (with_reducible repeat (first | refine blk_drewN ?_ _ | refine blk_drew ?_ | refine blk_alloc ?_ _)); refine blk_far ?_ NB242_270.out _; (with_reducible repeat (first | refine blk_drewN ?_ _ | refine blk_drew ?_ | refine blk_alloc ?_ _)); refine blk_far ?_ NB242_270.out _; (with_reducible repeat (first | refine blk_drewN ?_ _ | refine blk_drew ?_ | refine blk_alloc ?_ _)); exact BK242.out) hb); have n6_ := am (blk_below (g := gb256) (o := .cells #[.int .i64 t251, .slice Ao30 t252.length co30] 35 (0, 0)) (by (with_reducible repeat (first | refine blk_drewN ?_ _ | refine blk_drew ?_ | refine blk_alloc ?_ _)); refine blk_far ?_ NB256_270.out _; (with_reducible repeat (first | refine blk_drewN ?_ _ | refine blk_drew ?_ | refine blk_alloc ?_ _)); refine blk_far ?_ NB256_270.out _; (with_reducible repeat (first | refine blk_drewN ?_ _ | refine blk_drew ?_ | refine blk_alloc ?_ _)); exact BK256.out) hb); have n7_ := am (blk_below (g := gb261) (o := .cells #[.int .i64 t257, .slice Ao40 t258.length co40] 35 (0, 0)) (by (with_reducible repeat (first | refine blk_drewN ?_ _ | refine blk_drew ?_ | refine blk_alloc ?_ _)); refine blk_far ?_ NB261_270.out _; (with_reducible repeat (first | refine blk_drewN ?_ _ | refine blk_drew ?_ | refine blk_alloc ?_ _)); refine blk_far ?_ NB261_270.out _; (with_reducible repeat (first | refine blk_drewN ?_ _ | refine blk_drew ?_ | refine blk_alloc ?_ _)); exact BK261.out) hb); have n8_ := am (blk_below (g := gb270) (o := .cells #[.int .i64 t265, .slice Ao48 t266.length co48] 35 (0, 0)) (by (with_reducible repeat (first | refine blk_drewN ?_ _ | refine blk_drew ?_ | refine blk_alloc ?_ _)); refine blk_put (cs := #[.int .i64 t265, .slice none 0 0]) ?_ 1 _ rfl; (with_reducible repeat (first | refine blk_drewN ?_ _ | refine blk_drew ?_ | refine blk_alloc ?_ _)); refine blk_put (cs := #[.int .i64 0, .slice none 0 0]) ?_ 0 _ rfl; (with_reducible repeat (first | refine blk_drewN ?_ _ | refine blk_drew ?_ | refine blk_alloc ?_ _)); exact BK270.out) hb); have n9_ := am (below_step (by repeat (first | (with_reducible first | exact HB.out | apply below_alloc | apply pw_below_drewN | apply below_drew1 | refine below_set ?_ (Aside0.out (by assumption))) | exact HB.out)) hb); clear HO247; clear HO254; clear HO260; clear HO268; clear BK241; clear BK242; clear BK256; clear BK261; clear BK270; clear HB; have HO247 := n0_; have HO254 := n1_; have HO260 := n2_; have HO268 := n3_; have BK241 := n4_; have BK242 := n5_; have BK256 := n6_; have BK261 := n7_; have BK270 := n8_; have HB := n9_; clear n0_ n1_ n2_ n3_ n4_ n5_ n6_ n7_ n8_ n9_; (try clear hb); (try clear hb2); (try clear hk); (try clear hi)))
    go_meet
    case rel => exact ⟨_, ((t269 != t255)), (by first | rfl | (simp; done) | (simp [*]; done)), H', ⟨by first | omega | exact Nat.le_refl _⟩, ⟨by (with_reducible repeat (first | apply Kd.R_alloc | apply Kd.R_drewN | apply Kd.R_drew)); exact Kd.R_mono HO254.out (fun _ hk => ⟨hk.2.1, hk.2.2⟩)⟩, ⟨by (with_reducible repeat (first | apply Kd.R_alloc | apply Kd.R_drewN | apply Kd.R_drew)); exact Kd.R_mono HO260.out (fun _ hk => ⟨hk.2.1, hk.2.2⟩)⟩, ⟨by (with_reducible repeat (first | apply Kd.R_alloc | apply Kd.R_drewN | apply Kd.R_drew)); exact Kd.R_mono HO268.out (fun _ hk => ⟨hk.2.1, hk.2.2⟩)⟩, ⟨bkS BK241.out⟩, ⟨bkS BK242.out⟩, ⟨bkS BK256.out⟩, ⟨bkS BK261.out⟩, ⟨bkS BK270.out⟩, ⟨by repeat (first | (with_reducible first | exact HB.out | apply below_alloc | apply pw_below_drewN | apply below_drew1 | refine below_set ?_ (Aside0.out (by assumption))) | exact HB.out)⟩⟩
   ·replace c51 := Bool.eq_false_iff.mpr c51
    subst c51
    have H1 : (laws_FnExactAddClue.j0 k t255 t269 true a0_0 l0_1 a1_0 a1_1 a1_2 t251 t252 t257 t258 t265 t266) = some r := by rw [if_neg (show ¬ (false = true) by decide)] at H; exact H
    clear H
    have H := H1
    clear H1
    have H' := am H
    clear H
    have hnb62 := NB270_241.out
    have hnc62 := NB241_270.out
    have hnb63 := NB270_242.out
    have hnc63 := NB242_270.out
    have hnb64 := NB270_256.out
    have hnc64 := NB256_270.out
    have hnb65 := NB270_261.out
    have hnc65 := NB261_270.out
    have hcz66_0 : w46.cell? ⟨gb270, 0, none⟩ = some (.int .i64 0) := (blk_cell BK270.out 0).trans rfl
    have hcz66_1 : w46.cell? ⟨gb270, 1, none⟩ = some (.slice none 0 0) := (blk_cell BK270.out 1).trans rfl
    have hfz66_0 := blk_frozen BK270.out 0
    have hfz66_1 := blk_frozen BK270.out 1
    have hnb67 := NB256_241.out
    have hnc67 := NB241_256.out
    have hnb68 := NB256_242.out
    have hnc68 := NB242_256.out
    have hnb69 := NB256_261.out
    have hnc69 := NB261_256.out
    have hcz70_0 : w46.cell? ⟨gb256, 0, none⟩ = some (.int .i64 t251) := (blk_cell BK256.out 0).trans rfl
    have hcz70_1 : w46.cell? ⟨gb256, 1, none⟩ = some (.slice Ao30 t252.length co30) := (blk_cell BK256.out 1).trans rfl
    have hfz70_0 := blk_frozen BK256.out 0
    have hfz70_1 := blk_frozen BK256.out 1
    go_wp2_with (first | ((with_reducible refine gate_callee (f := 14) rfl ?_); refine goesL_ (some 40) rfl rfl Try.func14 (by kernel_rfl) rfl #[.agg #[.int .i64 t265, .slice Ao48 t266.length co48], .agg #[.int .i64 t251, .slice Ao30 t252.length co30]] rfl (by (try simp only [List.map_toArray, List.map_cons, List.map_nil]); first | done | rfl | (simp only [List.length_drop, List.length_take]; rfl)) ?_; (with_reducible refine (laws_eqPuzzle.calls k t265 _ _ t266 t251 _ _ t252 false _ ?side1 ?side2 ?side3 ?side4 A50.out).mono ?_); (case side1 => refine (Kd.R_reads' (e := 25) (base := w.heap.size) (ok := fun k_ => (some k_ ≠ (v246 : Value).ownBlock ∧ (some k_ ≠ (.slice Ao30 t252.length co30 : Value).ownBlock ∧ some k_ ≠ (.slice Ao40 t258.length co40 : Value).ownBlock))) (n := t266.length) (c := co48) ?_).2.2; exact (by (with_reducible repeat (first | apply Kd.R_alloc | apply Kd.R_drewN | apply Kd.R_drew)); exact (Kd.R_mono (Kd.R_far (p := ⟨gb270, 1, none⟩) (Kd.R_far (p := ⟨gb270, 0, none⟩) (Kd.R_types HO268.out BK270.out (by decide)) (fun _ hk => hk.2) (.int .i64 t265)) (fun _ hk => hk.2) (.slice Ao48 t266.length co48)) (fun _ h_ => h_.1)))); (case side2 => exact (Kd.R_reads' HO268.out).2.1); (case side3 => refine (Kd.R_reads' (e := 25) (base := w.heap.size) (ok := fun k_ => (some k_ ≠ (v246 : Value).ownBlock ∧ (some k_ ≠ (.slice Ao40 t258.length co40 : Value).ownBlock ∧ some k_ ≠ (.slice Ao48 t266.length co48 : Value).ownBlock))) (n := t252.length) (c := co30) ?_).2.2; exact (by (with_reducible repeat (first | apply Kd.R_alloc | apply Kd.R_drewN | apply Kd.R_drew)); exact (Kd.R_mono (Kd.R_far (p := ⟨gb270, 1, none⟩) (Kd.R_far (p := ⟨gb270, 0, none⟩) (Kd.R_types HO254.out BK270.out (by decide)) (fun _ hk => hk.2) (.int .i64 t265)) (fun _ hk => hk.2) (.slice Ao48 t266.length co48)) (fun _ h_ => h_.1)))); (case side4 => exact (Kd.R_reads' HO254.out).2.1); rintro e w71 ⟨rfl, hb⟩; refine ⟨_, rfl, ?_⟩; have n0_ := am (Kd.R_below (by (with_reducible repeat (first | apply Kd.R_alloc | apply Kd.R_drewN | apply Kd.R_drew)); exact (Kd.R_mono (Kd.R_far (p := ⟨gb270, 1, none⟩) (Kd.R_far (p := ⟨gb270, 0, none⟩) (Kd.R_types HO247.out BK270.out (by decide)) (fun _ hk => hk.2) (.int .i64 t265)) (fun _ hk => hk.2) (.slice Ao48 t266.length co48)) (fun _ h_ => h_.1))) hb); have n1_ := am (Kd.R_below (by (with_reducible repeat (first | apply Kd.R_alloc | apply Kd.R_drewN | apply Kd.R_drew)); exact (Kd.R_mono (Kd.R_far (p := ⟨gb270, 1, none⟩) (Kd.R_far (p := ⟨gb270, 0, none⟩) (Kd.R_types HO254.out BK270.out (by decide)) (fun _ hk => hk.2) (.int .i64 t265)) (fun _ hk => hk.2) (.slice Ao48 t266.length co48)) (fun _ h_ => h_.1))) hb); have n2_ := am (Kd.R_below (by (with_reducible repeat (first | apply Kd.R_alloc | apply Kd.R_drewN | apply Kd.R_drew)); exact (Kd.R_mono (Kd.R_far (p := ⟨gb270, 1, none⟩) (Kd.R_far (p := ⟨gb270, 0, none⟩) (Kd.R_types HO260.out BK270.out (by decide)) (fun _ hk => hk.2) (.int .i64 t265)) (fun _ hk => hk.2) (.slice Ao48 t266.length co48)) (fun _ h_ => h_.1))) hb); have n3_ := am (Kd.R_below (by (with_reducible repeat (first | apply Kd.R_alloc | apply Kd.R_drewN | apply Kd.R_drew)); exact (Kd.R_mono (Kd.R_far (p := ⟨gb270, 1, none⟩) (Kd.R_far (p := ⟨gb270, 0, none⟩) (Kd.R_types HO268.out BK270.out (by decide)) (fun _ hk => hk.2) (.int .i64 t265)) (fun _ hk => hk.2) (.slice Ao48 t266.length co48)) (fun _ h_ => h_.1))) hb); have n4_ := am (blk_below (g := gb241) (o := .cells #[.int .i64 a0_0, .slice A0_1 l0_1.length c0_1] 30 (0, 0)) (by (with_reducible repeat (first | refine blk_drewN ?_ _ | refine blk_drew ?_ | refine blk_alloc ?_ _)); refine blk_far ?_ NB241_270.out _; (with_reducible repeat (first | refine blk_drewN ?_ _ | refine blk_drew ?_ | refine blk_alloc ?_ _)); refine blk_far ?_ NB241_270.out _; (with_reducible repeat (first | refine blk_drewN ?_ _ | refine blk_drew ?_ | refine blk_alloc ?_ _)); exact BK241.out) hb); have n5_ := am (blk_below (g := gb242) (o := .cells #[.int .i64 a1_0, .int .i64 a1_1, .int .i64 a1_2] 23 (0, 0)) (by (with_reducible repeat (first | refine blk_drewN ?_ _ | refine blk_drew ?_ | refine blk_alloc ?_ _)); refine blk_far ?_ NB242_270.out _; (with_reducible repeat (first | refine blk_drewN ?_ _ | refine blk_drew ?_ | refine blk_alloc ?_ _)); refine blk_far ?_ NB242_270.out _; (with_reducible repeat (first | refine blk_drewN ?_ _ | refine blk_drew ?_ | refine blk_alloc ?_ _)); exact BK242.out) hb); have n6_ := am (blk_below (g := gb256) (o := .cells #[.int .i64 t251, .slice Ao30 t252.length co30] 35 (0, 0)) (by (with_reducible repeat (first | refine blk_drewN ?_ _ | refine blk_drew ?_ | refine blk_alloc ?_ _)); refine blk_far ?_ NB256_270.out _; (with_reducible repeat (first | refine blk_drewN ?_ _ | refine blk_drew ?_ | refine blk_alloc ?_ _)); refine blk_far ?_ NB256_270.out _; (with_reducible repeat (first | refine blk_drewN ?_ _ | refine blk_drew ?_ | refine blk_alloc ?_ _)); exact BK256.out) hb); have n7_ := am (blk_below (g := gb261) (o := .cells #[.int .i64 t257, .slice Ao40 t258.length co40] 35 (0, 0)) (by (with_reducible repeat (first | refine blk_drewN ?_ _ | refine blk_drew ?_ | refine blk_alloc ?_ _)); refine blk_far ?_ NB261_270.out _; (with_reducible repeat (first | refine blk_drewN ?_ _ | refine blk_drew ?_ | refine blk_alloc ?_ _)); refine blk_far ?_ NB261_270.out _; (with_reducible repeat (first | refine blk_drewN ?_ _ | refine blk_drew ?_ | refine blk_alloc ?_ _)); exact BK261.out) hb); have n8_ := am (blk_below (g := gb270) (o := .cells #[.int .i64 t265, .slice Ao48 t266.length co48] 35 (0, 0)) (by (with_reducible repeat (first | refine blk_drewN ?_ _ | refine blk_drew ?_ | refine blk_alloc ?_ _)); refine blk_put (cs := #[.int .i64 t265, .slice none 0 0]) ?_ 1 _ rfl; (with_reducible repeat (first | refine blk_drewN ?_ _ | refine blk_drew ?_ | refine blk_alloc ?_ _)); refine blk_put (cs := #[.int .i64 0, .slice none 0 0]) ?_ 0 _ rfl; (with_reducible repeat (first | refine blk_drewN ?_ _ | refine blk_drew ?_ | refine blk_alloc ?_ _)); exact BK270.out) hb); have n9_ := am (below_step (by repeat (first | (with_reducible first | exact HB.out | apply below_alloc | apply pw_below_drewN | apply below_drew1 | refine below_set ?_ (Aside0.out (by assumption))) | exact HB.out)) hb); clear HO247; clear HO254; clear HO260; clear HO268; clear BK241; clear BK242; clear BK256; clear BK261; clear BK270; clear HB; have HO247 := n0_; have HO254 := n1_; have HO260 := n2_; have HO268 := n3_; have BK241 := n4_; have BK242 := n5_; have BK256 := n6_; have BK261 := n7_; have BK270 := n8_; have HB := n9_; clear n0_ n1_ n2_ n3_ n4_ n5_ n6_ n7_ n8_ n9_; (try clear hb); (try clear hb2); (try clear hk); (try clear hi)))
    go_meet
    case rel => exact ⟨_, (true), (by first | rfl | (simp; done) | (simp [*]; done)), H', ⟨by first | omega | exact Nat.le_refl _⟩, ⟨by (with_reducible repeat (first | apply Kd.R_alloc | apply Kd.R_drewN | apply Kd.R_drew)); exact Kd.R_mono HO254.out (fun _ hk => ⟨hk.2.1, hk.2.2⟩)⟩, ⟨by (with_reducible repeat (first | apply Kd.R_alloc | apply Kd.R_drewN | apply Kd.R_drew)); exact Kd.R_mono HO260.out (fun _ hk => ⟨hk.2.1, hk.2.2⟩)⟩, ⟨by (with_reducible repeat (first | apply Kd.R_alloc | apply Kd.R_drewN | apply Kd.R_drew)); exact Kd.R_mono HO268.out (fun _ hk => ⟨hk.2.1, hk.2.2⟩)⟩, ⟨bkS BK241.out⟩, ⟨bkS BK242.out⟩, ⟨bkS BK256.out⟩, ⟨bkS BK261.out⟩, ⟨bkS BK270.out⟩, ⟨by repeat (first | (with_reducible first | exact HB.out | apply below_alloc | apply pw_below_drewN | apply below_drew1 | refine below_set ?_ (Aside0.out (by assumption))) | exact HB.out)⟩⟩
  case rest =>
   clear HC16
   try clear c1
   try clear p2
   try clear c5
   try clear c6
   try clear c8
   try clear c14
   try clear c16
   try clear c51
   try clear c52
   try clear c53
   try clear c54
   try clear c55
   try clear c57
   try clear c58
   try clear c59
   try clear c62
   try clear c63
   try clear c64
   try clear c65
   try clear c67
   try clear c68
   try clear c69
   try clear hcz56_0
   try clear hcz56_1
   try clear hcz60_0
   try clear hcz60_1
   try clear hcz66_0
   try clear hcz66_1
   try clear hcz70_0
   try clear hcz70_1
   try clear hfz56_0
   try clear hfz56_1
   try clear hfz60_0
   try clear hfz60_1
   try clear hfz66_0
   try clear hfz66_1
   try clear hfz70_0
   try clear hfz70_1
   obtain ⟨kq, x46_15, rfl, HA, HJ15, HO_257001, HO_262001, HO_271001, BK241, BK242, BK256, BK261, BK270, HB⟩ := hcut
   cases kq with
   | zero => exact absurd HA.out (by simp [laws_FnExactAddClue.j0])
   | succ kj15 =>
    have H := HA.out
    clear HA
    simp only [laws_FnExactAddClue.j0] at H
    by_cases c72 : x46_15 = true
    ·subst c72
     have H1 : (none) = some r := by rw [if_pos rfl] at H; exact H
     clear H
     have H := H1
     clear H1
     exact absurd H (by simp)
    ·replace c72 := Bool.eq_false_iff.mpr c72
     subst c72
     have H1 : ((laws_toPuzzle.f kj15 a0_0 l0_1).bind fun bt272 => ((laws_eqPuzzle.f kj15 t257 t258 bt272.1 bt272.2).bind fun t276 => (if t276 = true then ((laws_markPuzzle.f kj15 t257 t258 1).bind fun bt277 => (if bt277.1 < 0 then (laws_FnExactAddClue.j1 kj15 t255 true a0_0 l0_1 a1_0 a1_1 a1_2 t251 t252 t265 t266) else ((laws_eqPuzzle.f kj15 t265 t266 t251 t252).bind fun t279 => (if t279 = true then (laws_FnExactAddClue.j1 kj15 t255 (t269 != t255) a0_0 l0_1 a1_0 a1_1 a1_2 t251 t252 t265 t266) else (laws_FnExactAddClue.j1 kj15 t255 true a0_0 l0_1 a1_0 a1_1 a1_2 t251 t252 t265 t266))))) else (none)))) = some r := by rw [if_neg (show ¬ (false = true) by decide)] at H; exact H
     clear H
     have H := H1
     clear H1
     replace H := Option.bind_eq_some_iff.mp H
     obtain ⟨⟨t272, t273⟩, A730, H⟩ := H
     replace H : ((laws_eqPuzzle.f kj15 t257 t258 t272 t273).bind fun t276 => (if t276 = true then ((laws_markPuzzle.f kj15 t257 t258 1).bind fun bt277 => (if bt277.1 < 0 then (laws_FnExactAddClue.j1 kj15 t255 true a0_0 l0_1 a1_0 a1_1 a1_2 t251 t252 t265 t266) else ((laws_eqPuzzle.f kj15 t265 t266 t251 t252).bind fun t279 => (if t279 = true then (laws_FnExactAddClue.j1 kj15 t255 (t269 != t255) a0_0 l0_1 a1_0 a1_1 a1_2 t251 t252 t265 t266) else (laws_FnExactAddClue.j1 kj15 t255 true a0_0 l0_1 a1_0 a1_1 a1_2 t251 t252 t265 t266))))) else (none))) = some r := H
     have A73 := am A730
     clear A730
     replace H := Option.bind_eq_some_iff.mp H
     obtain ⟨t276, A740, H⟩ := H
     replace H : (if t276 = true then ((laws_markPuzzle.f kj15 t257 t258 1).bind fun bt277 => (if bt277.1 < 0 then (laws_FnExactAddClue.j1 kj15 t255 true a0_0 l0_1 a1_0 a1_1 a1_2 t251 t252 t265 t266) else ((laws_eqPuzzle.f kj15 t265 t266 t251 t252).bind fun t279 => (if t279 = true then (laws_FnExactAddClue.j1 kj15 t255 (t269 != t255) a0_0 l0_1 a1_0 a1_1 a1_2 t251 t252 t265 t266) else (laws_FnExactAddClue.j1 kj15 t255 true a0_0 l0_1 a1_0 a1_1 a1_2 t251 t252 t265 t266))))) else (none)) = some r := H
     have A74 := am A740
     clear A740
     by_cases c75 : t276 = true
     ·subst c75
      have H1 : ((laws_markPuzzle.f kj15 t257 t258 1).bind fun bt277 => (if bt277.1 < 0 then (laws_FnExactAddClue.j1 kj15 t255 true a0_0 l0_1 a1_0 a1_1 a1_2 t251 t252 t265 t266) else ((laws_eqPuzzle.f kj15 t265 t266 t251 t252).bind fun t279 => (if t279 = true then (laws_FnExactAddClue.j1 kj15 t255 (t269 != t255) a0_0 l0_1 a1_0 a1_1 a1_2 t251 t252 t265 t266) else (laws_FnExactAddClue.j1 kj15 t255 true a0_0 l0_1 a1_0 a1_1 a1_2 t251 t252 t265 t266))))) = some r := by rw [if_pos rfl] at H; exact H
      clear H
      have H := H1
      clear H1
      replace H := Option.bind_eq_some_iff.mp H
      obtain ⟨⟨t277, t278⟩, A760, H⟩ := H
      replace H : (if t277 < 0 then (laws_FnExactAddClue.j1 kj15 t255 true a0_0 l0_1 a1_0 a1_1 a1_2 t251 t252 t265 t266) else ((laws_eqPuzzle.f kj15 t265 t266 t251 t252).bind fun t279 => (if t279 = true then (laws_FnExactAddClue.j1 kj15 t255 (t269 != t255) a0_0 l0_1 a1_0 a1_1 a1_2 t251 t252 t265 t266) else (laws_FnExactAddClue.j1 kj15 t255 true a0_0 l0_1 a1_0 a1_1 a1_2 t251 t252 t265 t266)))) = some r := H
      have A76 := am A760
      clear A760
      have HC77 := am H
      clear H
      try go_wp2
      have n0_ := am (Kd.R_drew HO_257001.out)
      have n1_ := am (Kd.R_drew HO_262001.out)
      have n2_ := am (Kd.R_drew HO_271001.out)
      have n3_ := am (blk_drew BK241.out)
      have n4_ := am (blk_drew BK242.out)
      have n5_ := am (blk_drew BK256.out)
      have n6_ := am (blk_drew BK261.out)
      have n7_ := am (blk_drew BK270.out)
      have n8_ := am (below_drew1 HB.out)
      clear HO_257001
      clear HO_262001
      clear HO_271001
      clear BK241
      clear BK242
      clear BK256
      clear BK261
      clear BK270
      clear HB
      have HO_257001 := n0_
      have HO_262001 := n1_
      have HO_271001 := n2_
      have BK241 := n3_
      have BK242 := n4_
      have BK256 := n5_
      have BK261 := n6_
      have BK270 := n7_
      have HB := n8_
      clear n0_ n1_ n2_ n3_ n4_ n5_ n6_ n7_ n8_
      refine start_ (n := 5) (S := fun w' => w'.cell? ⟨gb261, 0, none⟩ = some (.int .i64 t257) ∧ w'.cell? ⟨gb261, 1, none⟩ = some (.slice Ao40 t258.length co40) ∧ w'.cell? ⟨gb241, 0, none⟩ = some (.int .i64 a0_0) ∧ w'.cell? ⟨gb241, 1, none⟩ = some (.slice A0_1 l0_1.length c0_1)) (ds := []) #[false, false, false, false, false] (by kernel_rfl) rfl rfl ⟨(blk_cell BK261.out 0).trans rfl, (blk_cell BK261.out 1).trans rfl, (blk_cell BK241.out 0).trans rfl, (blk_cell BK241.out 1).trans rfl⟩ (fun hHeld => ?_)
      generalize wc.drew = w78 at HO_257001 HO_262001 HO_271001 BK241 BK242 BK256 BK261 BK270 HB hHeld ⊢
      refine take_ (i := 0) (N := some 47) (v := ?_) (a' := ?_) #[true, false, false, false, false] rfl rfl (by kernel_rfl) (fun _ _ _ h => h) (Or.inl ⟨by rfl, ?_⟩) hHeld ?_ ?_
      rotate_left
      ·rintro w' ⟨s0, s1, s2, s3⟩
       go_simp
       with_reducible rfl
      rotate_left
      ·simp only [Act.put, List.setIfInBounds_toArray, List.set_cons_zero, List.set_cons_succ, i64_w, i32_w]
       rfl
      refine take_ (i := 1) (N := some 48) (v := ?_) (a' := ?_) #[true, true, false, false, false] rfl rfl (by kernel_rfl) (fun _ _ _ h => h) (Or.inl ⟨by rfl, ?_⟩) hHeld ?_ ?_
      rotate_left
      ·rintro w' ⟨s0, s1, s2, s3⟩
       go_simp
       with_reducible rfl
      rotate_left
      ·simp only [Act.put, List.setIfInBounds_toArray, List.set_cons_zero, List.set_cons_succ, i64_w, i32_w]
       rfl
      refine one_ (i := 2) (N := some 49) #[true, true, true, false, false] rfl rfl (by kernel_rfl) (by decide) (fun K hK => ?_)
      refine goes_ Try.func12 (by kernel_rfl) rfl #[.agg #[.int .i64 a0_0, .slice A0_1 l0_1.length c0_1]] (by rfl) rfl rfl (by (try simp only [List.map_toArray, List.map_cons, List.map_nil]); first | done | rfl | (simp only [List.length_drop, List.length_take]; rfl)) ?_
      with_reducible refine (laws_toPuzzle.calls kj15 a0_0 _ _ l0_1 t272 t273 _ ?side1 ?side2 A73.out).mono ?_
      (case side1 => repeat (first | exact (Kd.C_below HR0_1.out HB.out) | (with_reducible refine Kd.C_alloc ?_ _) | (with_reducible refine Kd.C_drewN ?_ _) | (with_reducible refine Kd.C_drew ?_)))
      (case side2 => exact HC0_1.out)
      rintro e w79 ⟨v274, rfl, ho0, hb⟩
      refine ⟨_, rfl, ?_⟩
      have n0_ := am (Kd.R_elder' (roS HO_257001.out) (Kd.R_base ho0) hb)
      have n1_ := am (Kd.R_elder' (roS HO_262001.out) (Kd.R_base ho0) hb)
      have n2_ := am (Kd.R_elder' (roS HO_271001.out) (Kd.R_base ho0) hb)
      have n3_ := am (Kd.R_lower (Kd.R_new' (Kd.R_new' (Kd.R_new' ho0 (Kd.R_lt (roS HO_257001.out))) (Kd.R_lt (roS HO_262001.out))) (Kd.R_lt (roS HO_271001.out))) (below_size (by repeat (first | (with_reducible first | exact HB.out | apply below_alloc | apply pw_below_drewN | apply below_drew1 | refine below_set ?_ (Aside0.out (by assumption))) | exact HB.out))))
      have n4_ := am (blk_below (bkS BK241.out) hb)
      have n5_ := am (blk_below (bkS BK242.out) hb)
      have n6_ := am (blk_below (bkS BK256.out) hb)
      have n7_ := am (blk_below (bkS BK261.out) hb)
      have n8_ := am (blk_below (bkS BK270.out) hb)
      have n9_ := am (below_step (by repeat (first | (with_reducible first | exact HB.out | apply below_alloc | apply pw_below_drewN | apply below_drew1 | refine below_set ?_ (Aside0.out (by assumption))) | exact HB.out)) hb)
      clear HO_257001
      clear HO_262001
      clear HO_271001
      clear BK241
      clear BK242
      clear BK256
      clear BK261
      clear BK270
      clear HB
      have HO_257001 := n0_
      have HO_262001 := n1_
      have HO_271001 := n2_
      have HO275 := n3_
      have BK241 := n4_
      have BK242 := n5_
      have BK256 := n6_
      have BK261 := n7_
      have BK270 := n8_
      have HB := n9_
      clear n0_ n1_ n2_ n3_ n4_ n5_ n6_ n7_ n8_ n9_
      (try clear hb)
      (try clear hb2)
      (try clear hk)
      (try clear hi)
      (try clear ho0)
      obtain ⟨Ao80, co80, eo80⟩ := Kd.R_slice HO275.out
      (first | subst eo80 | (injection eo80 with f1_ f2_ f3_; have f4_ := f1_.symm; have f5_ := f3_.symm; clear f1_ f2_ f3_; subst f4_; subst f5_))
      refine hK.out _ _ ⟨(blk_cell BK261.out 0).trans rfl, (blk_cell BK261.out 1).trans rfl, (blk_cell BK241.out 0).trans rfl, (blk_cell BK241.out 1).trans rfl⟩ (fun hHeld => ?_)
      clear hK K
      refine norm_ (a' := ?_) ?_ ?_
      rotate_left
      ·show Act.put _ (some 49) _ = _
       simp only [Act.put, List.setIfInBounds_toArray, List.set_cons_zero, List.set_cons_succ, i64_w, i32_w]
       rfl
      refine one_ (i := 3) (N := some 50) #[true, true, true, true, false] rfl rfl (by kernel_rfl) (by decide) (fun K hK => ?_)
      refine goes_ Try.func14 (by kernel_rfl) rfl #[.agg #[.int .i64 t257, .slice Ao40 t258.length co40], .agg #[.int .i64 t272, .slice Ao80 t273.length co80]] (by rfl) rfl rfl (by (try simp only [List.map_toArray, List.map_cons, List.map_nil]); first | done | rfl | (simp only [List.length_drop, List.length_take]; rfl)) ?_
      with_reducible refine (laws_eqPuzzle.calls kj15 t257 _ _ t258 t272 _ _ t273 true _ ?side1 ?side2 ?side3 ?side4 A74.out).mono ?_
      (case side1 => repeat (first | exact (Kd.R_reads' HO_262001.out).2.2 | (with_reducible refine Kd.C_alloc ?_ _) | (with_reducible refine Kd.C_drewN ?_ _) | (with_reducible refine Kd.C_drew ?_)))
      (case side2 => exact (Kd.R_reads' HO_262001.out).2.1)
      (case side3 => repeat (first | exact (Kd.R_reads' HO275.out).2.2 | (with_reducible refine Kd.C_alloc ?_ _) | (with_reducible refine Kd.C_drewN ?_ _) | (with_reducible refine Kd.C_drew ?_)))
      (case side4 => exact (Kd.R_reads' HO275.out).2.1)
      rintro e w81 ⟨rfl, hb⟩
      refine ⟨_, rfl, ?_⟩
      have n0_ := am (Kd.R_below (roS HO_257001.out) hb)
      have n1_ := am (Kd.R_below (roS HO_262001.out) hb)
      have n2_ := am (Kd.R_below (roS HO_271001.out) hb)
      have n3_ := am (Kd.R_below (roS HO275.out) hb)
      have n4_ := am (blk_below (bkS BK241.out) hb)
      have n5_ := am (blk_below (bkS BK242.out) hb)
      have n6_ := am (blk_below (bkS BK256.out) hb)
      have n7_ := am (blk_below (bkS BK261.out) hb)
      have n8_ := am (blk_below (bkS BK270.out) hb)
      have n9_ := am (below_step (by repeat (first | (with_reducible first | exact HB.out | apply below_alloc | apply pw_below_drewN | apply below_drew1 | refine below_set ?_ (Aside0.out (by assumption))) | exact HB.out)) hb)
      clear HO_257001
      clear HO_262001
      clear HO_271001
      clear HO275
      clear BK241
      clear BK242
      clear BK256
      clear BK261
      clear BK270
      clear HB
      have HO_257001 := n0_
      have HO_262001 := n1_
      have HO_271001 := n2_
      have HO275 := n3_
      have BK241 := n4_
      have BK242 := n5_
      have BK256 := n6_
      have BK261 := n7_
      have BK270 := n8_
      have HB := n9_
      clear n0_ n1_ n2_ n3_ n4_ n5_ n6_ n7_ n8_ n9_
      (try clear hb)
      (try clear hb2)
      (try clear hk)
      (try clear hi)
      refine hK.out _ _ ⟨(blk_cell BK261.out 0).trans rfl, (blk_cell BK261.out 1).trans rfl, (blk_cell BK241.out 0).trans rfl, (blk_cell BK241.out 1).trans rfl⟩ (fun hHeld => ?_)
      clear hK K
      refine norm_ (a' := ?_) ?_ ?_
      rotate_left
      ·show Act.put _ (some 50) _ = _
       simp only [Act.put, List.setIfInBounds_toArray, List.set_cons_zero, List.set_cons_succ, i64_w, i32_w]
       rfl
      refine pure_ (i := 4) (N := some 51) (v := ?_) (a' := ?_) #[true, true, true, true, true] rfl rfl (by kernel_rfl) (fun _ _ _ h => h) (Or.inl ⟨by rfl, ?_⟩) ?_ ?_
      rotate_left
      ·intro w'
       go_simp
       with_reducible rfl
      rotate_left
      ·simp only [Act.put, List.setIfInBounds_toArray, List.set_cons_zero, List.set_cons_succ, i64_w, i32_w]
       rfl
      refine done_ (by kernel_rfl) ?_
      have hnb82 := NB261_241.out
      have hnc82 := NB241_261.out
      have hnb83 := NB261_242.out
      have hnc83 := NB242_261.out
      have hnb84 := NB261_256.out
      have hnc84 := NB256_261.out
      have hnb85 := NB261_270.out
      have hnc85 := NB270_261.out
      have hcz86_0 : w81.cell? ⟨gb261, 0, none⟩ = some (.int .i64 t257) := (blk_cell BK261.out 0).trans rfl
      have hcz86_1 : w81.cell? ⟨gb261, 1, none⟩ = some (.slice Ao40 t258.length co40) := (blk_cell BK261.out 1).trans rfl
      have hfz86_0 := blk_frozen BK261.out 0
      have hfz86_1 := blk_frozen BK261.out 1
      go_upto_region 14 with (first | ((with_reducible refine gate_callee (f := 17) rfl ?_); refine goesL_ (some 54) rfl rfl Try.func17 (by kernel_rfl) rfl #[.agg #[.int .i64 t257, .slice Ao40 t258.length co40], .int .i64 1] rfl (by (try simp only [List.map_toArray, List.map_cons, List.map_nil]); first | done | rfl | (simp only [List.length_drop, List.length_take]; rfl)) ?_; (with_reducible refine (laws_markPuzzle.calls kj15 t257 (fun k_ => some k_ = (.slice Ao40 t258.length co40 : Value).ownBlock) (.slice Ao40 t258.length co40) t258 1 t277 t278 w _ ?side1 ?side2 A76.out).mono ?_); (case side1 => repeat (first | (with_reducible first | exact HB.out | apply below_alloc | apply pw_below_drewN | apply below_drew1 | refine below_set ?_ (Aside0.out (by assumption))) | exact HB.out)); (case side2 => exact Kd.R_tight rfl HO_262001.out); rintro e w87 ⟨rfl, hy0, hb, hkp⟩; refine ⟨_, rfl, ?_⟩; have n0_ := am (Kd.R_mono (ok' := fun k_ => some k_ ≠ (.slice Ao40 t258.length co40 : Value).ownBlock ∧ some k_ ≠ (.slice Ao48 t266.length co48 : Value).ownBlock ∧ some k_ ≠ (.slice Ao80 t273.length co80 : Value).ownBlock) (Kd.R_keptB (HO_257001.out) hkp (fun k_ hk_ hs_ => (hk_.1.1) hs_)) (fun k_ hk_ => ⟨hk_.1.1.1, hk_.1.1.2, hk_.1.2⟩)); have n1_ := am (Kd.R_reok rfl hy0 (fun k_ e_ => HO_262001.out.1 k_ e_)); have n2_ := am (Kd.R_mono (ok' := fun k_ => some k_ ≠ (.slice Ao30 t252.length co30 : Value).ownBlock ∧ some k_ ≠ (.slice Ao40 t258.length co40 : Value).ownBlock ∧ some k_ ≠ (.slice Ao80 t273.length co80 : Value).ownBlock) (Kd.R_keptB (HO_271001.out) hkp (fun k_ hk_ hs_ => (hk_.1.2) hs_)) (fun k_ hk_ => ⟨hk_.1.1.1, hk_.1.1.2, hk_.1.2⟩)); have n3_ := am (blk_kept (bkS BK241.out) hkp (fun hs_ => (fun e_ => (Kd.R_ne HO_262001.out BK241.out (by decide)) e_) hs_)); have n4_ := am (blk_kept (bkS BK242.out) hkp (fun hs_ => (fun e_ => (Kd.R_ne HO_262001.out BK242.out (by decide)) e_) hs_)); have n5_ := am (blk_kept (bkS BK256.out) hkp (fun hs_ => (fun e_ => (Kd.R_ne HO_262001.out BK256.out (by decide)) e_) hs_)); have n6_ := am (blk_kept (bkS BK261.out) hkp (fun hs_ => (fun e_ => (Kd.R_ne HO_262001.out BK261.out (by decide)) e_) hs_)); have n7_ := am (blk_kept (bkS BK270.out) hkp (fun hs_ => (fun e_ => (Kd.R_ne HO_262001.out BK270.out (by decide)) e_) hs_)); have n8_ := am (Kd.R_mono (ok' := fun k_ => some k_ ≠ (.slice Ao30 t252.length co30 : Value).ownBlock ∧ some k_ ≠ (.slice Ao40 t258.length co40 : Value).ownBlock ∧ some k_ ≠ (.slice Ao48 t266.length co48 : Value).ownBlock) (Kd.R_keptB (HO275.out) hkp (fun k_ hk_ hs_ => (hk_.1.2) hs_)) (fun k_ hk_ => ⟨hk_.1.1.1.2, hk_.1.1.2, hk_.1.2⟩)); have n9_ := am (hb); clear HO_257001; clear HO_262001; clear HO_271001; clear BK241; clear BK242; clear BK256; clear BK261; clear BK270; clear HO275; clear HB; have HO_257001 := n0_; have HO_262001 := n1_; have HO_271001 := n2_; have BK241 := n3_; have BK242 := n4_; have BK256 := n5_; have BK261 := n6_; have BK270 := n7_; have HO275 := n8_; have HB := n9_; clear n0_ n1_ n2_ n3_ n4_ n5_ n6_ n7_ n8_ n9_; (try clear hb); (try clear hkp); (try clear hy0)))
      (try simp only [Act.put, List.setIfInBounds_toArray, List.set_cons_zero, List.set_cons_succ])
      go_cut [67] (fun v67 wc => ∃ (kq : Nat) (x67_76 : Bool), v67 = .bool x67_76 ∧ Aside0 (laws_FnExactAddClue.j1 kq t255 x67_76 a0_0 l0_1 a1_0 a1_1 a1_2 t251 t252 t265 t266 = some r) ∧ Aside0 (kq ≤ kj15) ∧ Aside0 (Kd.R k25 25 wc w.heap.size (fun k_ => some k_ ≠ ((.slice Ao40 t258.length co40) : Value).ownBlock ∧ some k_ ≠ ((.slice Ao48 t266.length co48) : Value).ownBlock) (.slice Ao30 t252.length co30) t252) ∧ Aside0 (Kd.R k25 25 wc w.heap.size (fun k_ => some k_ ≠ ((.slice Ao30 t252.length co30) : Value).ownBlock ∧ some k_ ≠ ((.slice Ao48 t266.length co48) : Value).ownBlock) (.slice Ao40 t258.length co40) t278) ∧ Aside0 (Kd.R k25 25 wc w.heap.size (fun k_ => some k_ ≠ ((.slice Ao30 t252.length co30) : Value).ownBlock ∧ some k_ ≠ ((.slice Ao40 t258.length co40) : Value).ownBlock) (.slice Ao48 t266.length co48) t266) ∧ Aside0 (wc.heap[gb241]? = some (.cells #[.int .i64 a0_0, (.slice A0_1 l0_1.length c0_1)] 30 (0, 0))) ∧ Aside0 (wc.heap[gb242]? = some (.cells #[.int .i64 a1_0, .int .i64 a1_1, .int .i64 a1_2] 23 (0, 0))) ∧ Aside0 (wc.heap[gb256]? = some (.cells #[.int .i64 t251, (.slice Ao30 t252.length co30)] 35 (0, 0))) ∧ Aside0 (wc.heap[gb261]? = some (.cells #[.int .i64 t257, (.slice Ao40 t258.length co40)] 35 (0, 0))) ∧ Aside0 (wc.heap[gb270]? = some (.cells #[.int .i64 t265, (.slice Ao48 t266.length co48)] 35 (0, 0))) ∧ Aside0 (Below w.heap.size w wc))
      case first =>
       have H := HC77.out
       clear HC77
       by_cases c88 : t277 < 0
       ·rw [if_pos c88] at H
        have c88b0 : decide (t277 < 0) = true := decide_eq_true c88
        clear c88
        (first | rw [c88b0] | (simp only [i64_w, i32_w]; rw [c88b0]) | skip)
        have H' := am H
        clear H
        go_wp2
        go_meet
        case rel => exact ⟨_, (true), (by first | rfl | (simp; done) | (simp [*]; done)), H', ⟨by have := HJ15.out; first | omega | exact Nat.le_refl _⟩, ⟨by (with_reducible repeat (first | apply Kd.R_alloc | apply Kd.R_drewN | apply Kd.R_drew)); exact Kd.R_mono HO_257001.out (fun _ hk => ⟨hk.1, hk.2.1⟩)⟩, ⟨by (with_reducible repeat (first | apply Kd.R_alloc | apply Kd.R_drewN | apply Kd.R_drew)); exact Kd.R_mono HO_262001.out (fun _ hk => ⟨hk.1.1, hk.1.2⟩)⟩, ⟨by (with_reducible repeat (first | apply Kd.R_alloc | apply Kd.R_drewN | apply Kd.R_drew)); exact Kd.R_mono HO_271001.out (fun _ hk => ⟨hk.1, hk.2.1⟩)⟩, ⟨bkS BK241.out⟩, ⟨bkS BK242.out⟩, ⟨bkS BK256.out⟩, ⟨bkS BK261.out⟩, ⟨bkS BK270.out⟩, ⟨by repeat (first | (with_reducible first | exact HB.out | apply below_alloc | apply pw_below_drewN | apply below_drew1 | refine below_set ?_ (Aside0.out (by assumption))) | exact HB.out)⟩⟩
       ·rw [if_neg c88] at H
        have c88b0 : decide (t277 < 0) = false := decide_eq_false c88
        clear c88
        (first | rw [c88b0] | (simp only [i64_w, i32_w]; rw [c88b0]) | skip)
        replace H := Option.bind_eq_some_iff.mp H
        obtain ⟨t279, A890, H⟩ := H
        replace H : (if t279 = true then (laws_FnExactAddClue.j1 kj15 t255 (t269 != t255) a0_0 l0_1 a1_0 a1_1 a1_2 t251 t252 t265 t266) else (laws_FnExactAddClue.j1 kj15 t255 true a0_0 l0_1 a1_0 a1_1 a1_2 t251 t252 t265 t266)) = some r := H
        have A89 := am A890
        clear A890
        by_cases c90 : t279 = true
        ·subst c90
         have H1 : (laws_FnExactAddClue.j1 kj15 t255 (t269 != t255) a0_0 l0_1 a1_0 a1_1 a1_2 t251 t252 t265 t266) = some r := by rw [if_pos rfl] at H; exact H
         clear H
         have H := H1
         clear H1
         have H' := am H
         clear H
         have hnb91 := NB270_241.out
         have hnc91 := NB241_270.out
         have hnb92 := NB270_242.out
         have hnc92 := NB242_270.out
         have hnb93 := NB270_256.out
         have hnc93 := NB256_270.out
         have hnb94 := NB270_261.out
         have hnc94 := NB261_270.out
         have hcz95_0 : w87.cell? ⟨gb270, 0, none⟩ = some (.int .i64 t265) := (blk_cell BK270.out 0).trans rfl
         have hcz95_1 : w87.cell? ⟨gb270, 1, none⟩ = some (.slice Ao48 t266.length co48) := (blk_cell BK270.out 1).trans rfl
         have hfz95_0 := blk_frozen BK270.out 0
         have hfz95_1 := blk_frozen BK270.out 1
         have hnb96 := NB256_241.out
         have hnc96 := NB241_256.out
         have hnb97 := NB256_242.out
         have hnc97 := NB242_256.out
         have hnb98 := NB256_261.out
         have hnc98 := NB261_256.out
         have hcz99_0 : w87.cell? ⟨gb256, 0, none⟩ = some (.int .i64 t251) := (blk_cell BK256.out 0).trans rfl
         have hcz99_1 : w87.cell? ⟨gb256, 1, none⟩ = some (.slice Ao30 t252.length co30) := (blk_cell BK256.out 1).trans rfl
         have hfz99_0 := blk_frozen BK256.out 0
         have hfz99_1 := blk_frozen BK256.out 1
         go_wp2_with (first | (go_at_call 14; (with_reducible refine (laws_eqPuzzle.calls kj15 t265 _ _ t266 t251 _ _ t252 true _ ?side1 ?side2 ?side3 ?side4 A89.out).mono ?_); (case side1 => repeat (first | exact (Kd.R_reads' HO_271001.out).2.2 | (with_reducible refine Kd.C_alloc ?_ _) | (with_reducible refine Kd.C_drewN ?_ _) | (with_reducible refine Kd.C_drew ?_))); (case side2 => exact (Kd.R_reads' HO_271001.out).2.1); (case side3 => repeat (first | exact (Kd.R_reads' HO_257001.out).2.2 | (with_reducible refine Kd.C_alloc ?_ _) | (with_reducible refine Kd.C_drewN ?_ _) | (with_reducible refine Kd.C_drew ?_))); (case side4 => exact (Kd.R_reads' HO_257001.out).2.1); rintro e w100 ⟨rfl, hb⟩; have n0_ := am (Kd.R_below (roS HO_257001.out) hb); have n1_ := am (Kd.R_below (roS HO_262001.out) hb); have n2_ := am (Kd.R_below (roS HO_271001.out) hb); have n3_ := am (Kd.R_below (roS HO275.out) hb); have n4_ := am (blk_below (bkS BK241.out) hb); have n5_ := am (blk_below (bkS BK242.out) hb); have n6_ := am (blk_below (bkS BK256.out) hb); have n7_ := am (blk_below (bkS BK261.out) hb); have n8_ := am (blk_below (bkS BK270.out) hb); have n9_ := am (below_step (by repeat (first | (with_reducible first | exact HB.out | apply below_alloc | apply pw_below_drewN | apply below_drew1 | refine below_set ?_ (Aside0.out (by assumption))) | exact HB.out)) hb); clear HO_257001; clear HO_262001; clear HO_271001; clear HO275; clear BK241; clear BK242; clear BK256; clear BK261; clear BK270; clear HB; have HO_257001 := n0_; have HO_262001 := n1_; have HO_271001 := n2_; have HO275 := n3_; have BK241 := n4_; have BK242 := n5_; have BK256 := n6_; have BK261 := n7_; have BK270 := n8_; have HB := n9_; clear n0_ n1_ n2_ n3_ n4_ n5_ n6_ n7_ n8_ n9_; (try clear hb); (try clear hb2); (try clear hk); (try clear hi)))
         go_meet
         case rel => exact ⟨_, ((t269 != t255)), (by first | rfl | (simp; done) | (simp [*]; done)), H', ⟨by have := HJ15.out; first | omega | exact Nat.le_refl _⟩, ⟨by (with_reducible repeat (first | apply Kd.R_alloc | apply Kd.R_drewN | apply Kd.R_drew)); exact Kd.R_mono HO_257001.out (fun _ hk => ⟨hk.1, hk.2.1⟩)⟩, ⟨by (with_reducible repeat (first | apply Kd.R_alloc | apply Kd.R_drewN | apply Kd.R_drew)); exact Kd.R_mono HO_262001.out (fun _ hk => ⟨hk.1.1, hk.1.2⟩)⟩, ⟨by (with_reducible repeat (first | apply Kd.R_alloc | apply Kd.R_drewN | apply Kd.R_drew)); exact Kd.R_mono HO_271001.out (fun _ hk => ⟨hk.1, hk.2.1⟩)⟩, ⟨bkS BK241.out⟩, ⟨bkS BK242.out⟩, ⟨bkS BK256.out⟩, ⟨bkS BK261.out⟩, ⟨bkS BK270.out⟩, ⟨by repeat (first | (with_reducible first | exact HB.out | apply below_alloc | apply pw_below_drewN | apply below_drew1 | refine below_set ?_ (Aside0.out (by assumption))) | exact HB.out)⟩⟩
        ·replace c90 := Bool.eq_false_iff.mpr c90
         subst c90
         have H1 : (laws_FnExactAddClue.j1 kj15 t255 true a0_0 l0_1 a1_0 a1_1 a1_2 t251 t252 t265 t266) = some r := by rw [if_neg (show ¬ (false = true) by decide)] at H; exact H
         clear H
         have H := H1
         clear H1
         have H' := am H
         clear H
         have hnb101 := NB270_241.out
         have hnc101 := NB241_270.out
         have hnb102 := NB270_242.out
         have hnc102 := NB242_270.out
         have hnb103 := NB270_256.out
         have hnc103 := NB256_270.out
         have hnb104 := NB270_261.out
         have hnc104 := NB261_270.out
         have hcz105_0 : w87.cell? ⟨gb270, 0, none⟩ = some (.int .i64 t265) := (blk_cell BK270.out 0).trans rfl
         have hcz105_1 : w87.cell? ⟨gb270, 1, none⟩ = some (.slice Ao48 t266.length co48) := (blk_cell BK270.out 1).trans rfl
         have hfz105_0 := blk_frozen BK270.out 0
         have hfz105_1 := blk_frozen BK270.out 1
         have hnb106 := NB256_241.out
         have hnc106 := NB241_256.out
         have hnb107 := NB256_242.out
         have hnc107 := NB242_256.out
         have hnb108 := NB256_261.out
         have hnc108 := NB261_256.out
         have hcz109_0 : w87.cell? ⟨gb256, 0, none⟩ = some (.int .i64 t251) := (blk_cell BK256.out 0).trans rfl
         have hcz109_1 : w87.cell? ⟨gb256, 1, none⟩ = some (.slice Ao30 t252.length co30) := (blk_cell BK256.out 1).trans rfl
         have hfz109_0 := blk_frozen BK256.out 0
         have hfz109_1 := blk_frozen BK256.out 1
         go_wp2_with (first | (go_at_call 14; (with_reducible refine (laws_eqPuzzle.calls kj15 t265 _ _ t266 t251 _ _ t252 false _ ?side1 ?side2 ?side3 ?side4 A89.out).mono ?_); (case side1 => repeat (first | exact (Kd.R_reads' HO_271001.out).2.2 | (with_reducible refine Kd.C_alloc ?_ _) | (with_reducible refine Kd.C_drewN ?_ _) | (with_reducible refine Kd.C_drew ?_))); (case side2 => exact (Kd.R_reads' HO_271001.out).2.1); (case side3 => repeat (first | exact (Kd.R_reads' HO_257001.out).2.2 | (with_reducible refine Kd.C_alloc ?_ _) | (with_reducible refine Kd.C_drewN ?_ _) | (with_reducible refine Kd.C_drew ?_))); (case side4 => exact (Kd.R_reads' HO_257001.out).2.1); rintro e w110 ⟨rfl, hb⟩; have n0_ := am (Kd.R_below (roS HO_257001.out) hb); have n1_ := am (Kd.R_below (roS HO_262001.out) hb); have n2_ := am (Kd.R_below (roS HO_271001.out) hb); have n3_ := am (Kd.R_below (roS HO275.out) hb); have n4_ := am (blk_below (bkS BK241.out) hb); have n5_ := am (blk_below (bkS BK242.out) hb); have n6_ := am (blk_below (bkS BK256.out) hb); have n7_ := am (blk_below (bkS BK261.out) hb); have n8_ := am (blk_below (bkS BK270.out) hb); have n9_ := am (below_step (by repeat (first | (with_reducible first | exact HB.out | apply below_alloc | apply pw_below_drewN | apply below_drew1 | refine below_set ?_ (Aside0.out (by assumption))) | exact HB.out)) hb); clear HO_257001; clear HO_262001; clear HO_271001; clear HO275; clear BK241; clear BK242; clear BK256; clear BK261; clear BK270; clear HB; have HO_257001 := n0_; have HO_262001 := n1_; have HO_271001 := n2_; have HO275 := n3_; have BK241 := n4_; have BK242 := n5_; have BK256 := n6_; have BK261 := n7_; have BK270 := n8_; have HB := n9_; clear n0_ n1_ n2_ n3_ n4_ n5_ n6_ n7_ n8_ n9_; (try clear hb); (try clear hb2); (try clear hk); (try clear hi)))
         go_meet
         case rel => exact ⟨_, (true), (by first | rfl | (simp; done) | (simp [*]; done)), H', ⟨by have := HJ15.out; first | omega | exact Nat.le_refl _⟩, ⟨by (with_reducible repeat (first | apply Kd.R_alloc | apply Kd.R_drewN | apply Kd.R_drew)); exact Kd.R_mono HO_257001.out (fun _ hk => ⟨hk.1, hk.2.1⟩)⟩, ⟨by (with_reducible repeat (first | apply Kd.R_alloc | apply Kd.R_drewN | apply Kd.R_drew)); exact Kd.R_mono HO_262001.out (fun _ hk => ⟨hk.1.1, hk.1.2⟩)⟩, ⟨by (with_reducible repeat (first | apply Kd.R_alloc | apply Kd.R_drewN | apply Kd.R_drew)); exact Kd.R_mono HO_271001.out (fun _ hk => ⟨hk.1, hk.2.1⟩)⟩, ⟨bkS BK241.out⟩, ⟨bkS BK242.out⟩, ⟨bkS BK256.out⟩, ⟨bkS BK261.out⟩, ⟨bkS BK270.out⟩, ⟨by repeat (first | (with_reducible first | exact HB.out | apply below_alloc | apply pw_below_drewN | apply below_drew1 | refine below_set ?_ (Aside0.out (by assumption))) | exact HB.out)⟩⟩
      case rest =>
       clear HC77
       try clear c1
       try clear p2
       try clear c5
       try clear c6
       try clear c7
       try clear c8
       try clear c9
       try clear c10
       try clear c12
       try clear c14
       try clear c16
       try clear c17
       try clear c51
       try clear c52
       try clear c53
       try clear c54
       try clear c55
       try clear c57
       try clear c58
       try clear c59
       try clear c62
       try clear c63
       try clear c64
       try clear c65
       try clear c67
       try clear c68
       try clear c69
       try clear c72
       try clear c75
       try clear c82
       try clear c83
       try clear c84
       try clear c85
       try clear c88
       try clear c88b0
       try clear c90
       try clear c91
       try clear c92
       try clear c93
       try clear c94
       try clear c96
       try clear c97
       try clear c98
       try clear c101
       try clear c102
       try clear c103
       try clear c104
       try clear c106
       try clear c107
       try clear c108
       try clear hcz105_0
       try clear hcz105_1
       try clear hcz109_0
       try clear hcz109_1
       try clear hcz56_0
       try clear hcz56_1
       try clear hcz60_0
       try clear hcz60_1
       try clear hcz66_0
       try clear hcz66_1
       try clear hcz70_0
       try clear hcz70_1
       try clear hcz86_0
       try clear hcz86_1
       try clear hcz95_0
       try clear hcz95_1
       try clear hcz99_0
       try clear hcz99_1
       try clear hfz105_0
       try clear hfz105_1
       try clear hfz109_0
       try clear hfz109_1
       try clear hfz56_0
       try clear hfz56_1
       try clear hfz60_0
       try clear hfz60_1
       try clear hfz66_0
       try clear hfz66_1
       try clear hfz70_0
       try clear hfz70_1
       try clear hfz86_0
       try clear hfz86_1
       try clear hfz95_0
       try clear hfz95_1
       try clear hfz99_0
       try clear hfz99_1
       try clear p2
       obtain ⟨kq, x67_76, rfl, HA, HJ76, HO_257001, HO_262001, HO_271001, BK241, BK242, BK256, BK261, BK270, HB⟩ := hcut
       have hl262001_76 := (Kd.R_reads' HO_262001.out).1
       rw [hl262001_76] at HO_262001
       (try simp only [hl262001_76])
       (try simp only [hl262001_76] at BK241)
       (try simp only [hl262001_76] at BK242)
       (try simp only [hl262001_76] at BK256)
       (try simp only [hl262001_76] at BK261)
       (try simp only [hl262001_76] at BK270)
       (try simp only [hl262001_76] at HO_257001)
       (try simp only [hl262001_76] at HO_271001)
       cases kq with
       | zero => exact absurd HA.out (by simp [laws_FnExactAddClue.j1])
       | succ kj76 =>
        have H := HA.out
        clear HA
        simp only [laws_FnExactAddClue.j1] at H
        by_cases c111 : x67_76 = true
        ·subst c111
         have H1 : (none) = some r := by rw [if_pos rfl] at H; exact H
         clear H
         have H := H1
         clear H1
         exact absurd H (by simp)
        ·replace c111 := Bool.eq_false_iff.mpr c111
         subst c111
         have H1 : ((laws_markPuzzle.f kj76 t265 t266 1).bind fun bt280 => ((laws_heldPuzzle.f kj76 t265 bt280.2 1).bind fun t282 => (if t282 < 0 then (none) else (if t282 = bt280.1 then ((laws_toPuzzle.f kj76 a0_0 l0_1).bind fun bt283 => ((laws_toClue.f a1_0 a1_1 a1_2).bind fun bt287 => ((impl_AddClue.f kj76 bt283.1 bt283.2 bt287.1 bt287.2.1 bt287.2.2).bind fun bt290 => ((laws_eqPuzzle.f kj76 bt290.1 bt290.2.1 t251 t252).bind fun t296 => (if t296 = true then (laws_FnExactAddClue.j2 kj76 bt280.1 (bt290.2.2 != t255) t265 bt280.2) else (laws_FnExactAddClue.j2 kj76 bt280.1 true t265 bt280.2)))))) else (none))))) = some r := by rw [if_neg (show ¬ (false = true) by decide)] at H; exact H
         clear H
         have H := H1
         clear H1
         replace H := Option.bind_eq_some_iff.mp H
         obtain ⟨⟨t280, t281⟩, A1120, H⟩ := H
         replace H : ((laws_heldPuzzle.f kj76 t265 t281 1).bind fun t282 => (if t282 < 0 then (none) else (if t282 = t280 then ((laws_toPuzzle.f kj76 a0_0 l0_1).bind fun bt283 => ((laws_toClue.f a1_0 a1_1 a1_2).bind fun bt287 => ((impl_AddClue.f kj76 bt283.1 bt283.2 bt287.1 bt287.2.1 bt287.2.2).bind fun bt290 => ((laws_eqPuzzle.f kj76 bt290.1 bt290.2.1 t251 t252).bind fun t296 => (if t296 = true then (laws_FnExactAddClue.j2 kj76 t280 (bt290.2.2 != t255) t265 t281) else (laws_FnExactAddClue.j2 kj76 t280 true t265 t281)))))) else (none)))) = some r := H
         have A112 := am A1120
         clear A1120
         replace H := Option.bind_eq_some_iff.mp H
         obtain ⟨t282, A1130, H⟩ := H
         replace H : (if t282 < 0 then (none) else (if t282 = t280 then ((laws_toPuzzle.f kj76 a0_0 l0_1).bind fun bt283 => ((laws_toClue.f a1_0 a1_1 a1_2).bind fun bt287 => ((impl_AddClue.f kj76 bt283.1 bt283.2 bt287.1 bt287.2.1 bt287.2.2).bind fun bt290 => ((laws_eqPuzzle.f kj76 bt290.1 bt290.2.1 t251 t252).bind fun t296 => (if t296 = true then (laws_FnExactAddClue.j2 kj76 t280 (bt290.2.2 != t255) t265 t281) else (laws_FnExactAddClue.j2 kj76 t280 true t265 t281)))))) else (none))) = some r := H
         have A113 := am A1130
         clear A1130
         by_cases c114 : t282 < 0
         ·rw [if_pos c114] at H
          exact absurd H (by simp)
         ·rw [if_neg c114] at H
          have c114b0 : decide (t282 < 0) = false := decide_eq_false c114
          clear c114
          by_cases c115 : t282 = t280
          ·rw [if_pos c115] at H
           have c115b0 : (t282 == t280) = true := beq_iff_eq.mpr c115
           have c115b1 : (t282 != t280) = false := bne_eq_false_iff_eq.mpr c115
           clear c115
           replace H := Option.bind_eq_some_iff.mp H
           obtain ⟨⟨t283, t284⟩, A1160, H⟩ := H
           replace H : ((laws_toClue.f a1_0 a1_1 a1_2).bind fun bt287 => ((impl_AddClue.f kj76 t283 t284 bt287.1 bt287.2.1 bt287.2.2).bind fun bt290 => ((laws_eqPuzzle.f kj76 bt290.1 bt290.2.1 t251 t252).bind fun t296 => (if t296 = true then (laws_FnExactAddClue.j2 kj76 t280 (bt290.2.2 != t255) t265 t281) else (laws_FnExactAddClue.j2 kj76 t280 true t265 t281))))) = some r := H
           have A116 := am A1160
           clear A1160
           replace H := Option.bind_eq_some_iff.mp H
           obtain ⟨⟨t287, t288, t289⟩, A1170, H⟩ := H
           replace H : ((impl_AddClue.f kj76 t283 t284 t287 t288 t289).bind fun bt290 => ((laws_eqPuzzle.f kj76 bt290.1 bt290.2.1 t251 t252).bind fun t296 => (if t296 = true then (laws_FnExactAddClue.j2 kj76 t280 (bt290.2.2 != t255) t265 t281) else (laws_FnExactAddClue.j2 kj76 t280 true t265 t281)))) = some r := H
           have A117 := am A1170
           clear A1170
           replace H := Option.bind_eq_some_iff.mp H
           obtain ⟨⟨t290, t291, t294⟩, A1180, H⟩ := H
           replace H : ((laws_eqPuzzle.f kj76 t290 t291 t251 t252).bind fun t296 => (if t296 = true then (laws_FnExactAddClue.j2 kj76 t280 (t294 != t255) t265 t281) else (laws_FnExactAddClue.j2 kj76 t280 true t265 t281))) = some r := H
           have A118 := am A1180
           clear A1180
           have HC119 := am H
           clear H
           have hnb120 := NB270_241.out
           have hnc120 := NB241_270.out
           have hnb121 := NB270_242.out
           have hnc121 := NB242_270.out
           have hnb122 := NB270_256.out
           have hnc122 := NB256_270.out
           have hnb123 := NB270_261.out
           have hnc123 := NB261_270.out
           have hcz124_0 : wc.cell? ⟨gb270, 0, none⟩ = some (.int .i64 t265) := (blk_cell BK270.out 0).trans rfl
           have hcz124_1 : wc.cell? ⟨gb270, 1, none⟩ = some (.slice Ao48 t266.length co48) := (blk_cell BK270.out 1).trans rfl
           have hfz124_0 := blk_frozen BK270.out 0
           have hfz124_1 := blk_frozen BK270.out 1
           try go_wp2_with (first | ((with_reducible refine gate_callee (f := 17) rfl ?_); refine goesL_ (some 70) rfl rfl Try.func17 (by kernel_rfl) rfl #[.agg #[.int .i64 t265, .slice Ao48 t266.length co48], .int .i64 1] rfl (by (try simp only [List.map_toArray, List.map_cons, List.map_nil]); first | done | rfl | (simp only [List.length_drop, List.length_take]; rfl)) ?_; (with_reducible refine (laws_markPuzzle.calls kj76 t265 (fun k_ => some k_ = (.slice Ao48 t266.length co48 : Value).ownBlock) (.slice Ao48 t266.length co48) t266 1 t280 t281 w _ ?side1 ?side2 A112.out).mono ?_); (case side1 => repeat (first | (with_reducible first | exact HB.out | apply below_alloc | apply pw_below_drewN | apply below_drew1 | refine below_set ?_ (Aside0.out (by assumption))) | exact HB.out)); (case side2 => exact Kd.R_tight rfl HO_271001.out); rintro e w125 ⟨rfl, hy0, hb, hkp⟩; refine ⟨_, rfl, ?_⟩; have n0_ := am (Kd.R_mono (ok' := fun k_ => some k_ ≠ (.slice Ao40 t278.length co40 : Value).ownBlock ∧ some k_ ≠ (.slice Ao48 t266.length co48 : Value).ownBlock) (Kd.R_keptB (HO_257001.out) hkp (fun k_ hk_ hs_ => (hk_.2) hs_)) (fun k_ hk_ => ⟨hk_.1.1, hk_.1.2⟩)); have n1_ := am (Kd.R_mono (ok' := fun k_ => some k_ ≠ (.slice Ao30 t252.length co30 : Value).ownBlock ∧ some k_ ≠ (.slice Ao48 t266.length co48 : Value).ownBlock) (Kd.R_keptB (HO_262001.out) hkp (fun k_ hk_ hs_ => (hk_.2) hs_)) (fun k_ hk_ => ⟨hk_.1.1, hk_.1.2⟩)); have n2_ := am (Kd.R_reok rfl hy0 (fun k_ e_ => HO_271001.out.1 k_ e_)); have n3_ := am (blk_kept (bkS BK241.out) hkp (fun hs_ => (fun e_ => (Kd.R_ne HO_271001.out BK241.out (by decide)) e_) hs_)); have n4_ := am (blk_kept (bkS BK242.out) hkp (fun hs_ => (fun e_ => (Kd.R_ne HO_271001.out BK242.out (by decide)) e_) hs_)); have n5_ := am (blk_kept (bkS BK256.out) hkp (fun hs_ => (fun e_ => (Kd.R_ne HO_271001.out BK256.out (by decide)) e_) hs_)); have n6_ := am (blk_kept (bkS BK261.out) hkp (fun hs_ => (fun e_ => (Kd.R_ne HO_271001.out BK261.out (by decide)) e_) hs_)); have n7_ := am (blk_kept (bkS BK270.out) hkp (fun hs_ => (fun e_ => (Kd.R_ne HO_271001.out BK270.out (by decide)) e_) hs_)); have n8_ := am (hb); clear HO_257001; clear HO_262001; clear HO_271001; clear BK241; clear BK242; clear BK256; clear BK261; clear BK270; clear HB; have HO_257001 := n0_; have HO_262001 := n1_; have HO_271001 := n2_; have BK241 := n3_; have BK242 := n4_; have BK256 := n5_; have BK261 := n6_; have BK270 := n7_; have HB := n8_; clear n0_ n1_ n2_ n3_ n4_ n5_ n6_ n7_ n8_; (try clear hb); (try clear hkp); (try clear hy0); have hcz126_0 : w125.cell? ⟨gb270, 0, none⟩ = some (.int .i64 t265) := (blk_cell BK270.out 0).trans rfl; have hcz126_1 : w125.cell? ⟨gb270, 1, none⟩ = some (.slice Ao48 t266.length co48) := (blk_cell BK270.out 1).trans rfl; have hfz126_0 := blk_frozen BK270.out 0; have hfz126_1 := blk_frozen BK270.out 1) | ((with_reducible refine gate_callee (f := 18) rfl ?_); refine goesL_ (some 73) rfl rfl Try.func18 (by kernel_rfl) rfl #[.agg #[.int .i64 t265, .slice Ao48 t281.length co48], .int .i64 1] rfl (by (try simp only [List.map_toArray, List.map_cons, List.map_nil]); first | done | (rw [show t281.length = t266.length from (Kd.R_reads' HO_271001.out).1.symm] <;> rfl) | rfl | (simp only [List.length_drop, List.length_take]; rfl)) ?_; (with_reducible refine (laws_heldPuzzle.calls kj76 t265 _ _ t281 1 t282 _ ?side1 ?side2 A113.out).mono ?_); (case side1 => repeat (first | exact (Kd.R_reads' HO_271001.out).2.2 | (with_reducible refine Kd.C_alloc ?_ _) | (with_reducible refine Kd.C_drewN ?_ _) | (with_reducible refine Kd.C_drew ?_))); (case side2 => rw [show t281.length = t266.length from (Kd.R_reads' HO_271001.out).1.symm]; exact (Kd.R_reads' HO_271001.out).2.1); rintro e w127 ⟨rfl, hb⟩; refine ⟨_, rfl, ?_⟩; have n0_ := am (Kd.R_below (roS HO_257001.out) hb); have n1_ := am (Kd.R_below (roS HO_262001.out) hb); have n2_ := am (Kd.R_below (roS HO_271001.out) hb); have n3_ := am (blk_below (bkS BK241.out) hb); have n4_ := am (blk_below (bkS BK242.out) hb); have n5_ := am (blk_below (bkS BK256.out) hb); have n6_ := am (blk_below (bkS BK261.out) hb); have n7_ := am (blk_below (bkS BK270.out) hb); have n8_ := am (below_step (by repeat (first | (with_reducible first | exact HB.out | apply below_alloc | apply pw_below_drewN | apply below_drew1 | refine below_set ?_ (Aside0.out (by assumption))) | exact HB.out)) hb); clear HO_257001; clear HO_262001; clear HO_271001; clear BK241; clear BK242; clear BK256; clear BK261; clear BK270; clear HB; have HO_257001 := n0_; have HO_262001 := n1_; have HO_271001 := n2_; have BK241 := n3_; have BK242 := n4_; have BK256 := n5_; have BK261 := n6_; have BK270 := n7_; have HB := n8_; clear n0_ n1_ n2_ n3_ n4_ n5_ n6_ n7_ n8_; (try clear hb); (try clear hb2); (try clear hk); (try clear hi)))
           have n0_ := am (Kd.R_drew HO_257001.out)
           have n1_ := am (Kd.R_drew HO_262001.out)
           have n2_ := am (Kd.R_drew HO_271001.out)
           have n3_ := am (blk_drew BK241.out)
           have n4_ := am (blk_drew BK242.out)
           have n5_ := am (blk_drew BK256.out)
           have n6_ := am (blk_drew BK261.out)
           have n7_ := am (blk_drew BK270.out)
           have n8_ := am (below_drew1 HB.out)
           clear HO_257001
           clear HO_262001
           clear HO_271001
           clear BK241
           clear BK242
           clear BK256
           clear BK261
           clear BK270
           clear HB
           have HO_257001 := n0_
           have HO_262001 := n1_
           have HO_271001 := n2_
           have BK241 := n3_
           have BK242 := n4_
           have BK256 := n5_
           have BK261 := n6_
           have BK270 := n7_
           have HB := n8_
           clear n0_ n1_ n2_ n3_ n4_ n5_ n6_ n7_ n8_
           refine start_ (n := 11) (S := fun w' => w'.cell? ⟨gb241, 0, none⟩ = some (.int .i64 a0_0) ∧ w'.cell? ⟨gb241, 1, none⟩ = some (.slice A0_1 l0_1.length c0_1) ∧ w'.cell? ⟨gb242, 0, none⟩ = some (.int .i64 a1_0) ∧ w'.cell? ⟨gb242, 1, none⟩ = some (.int .i64 a1_1) ∧ w'.cell? ⟨gb242, 2, none⟩ = some (.int .i64 a1_2)) (ds := []) #[false, false, false, false, false, false, false, false, false, false, false] (by kernel_rfl) rfl rfl ⟨(blk_cell BK241.out 0).trans rfl, (blk_cell BK241.out 1).trans rfl, (blk_cell BK242.out 0).trans rfl, (blk_cell BK242.out 1).trans rfl, (blk_cell BK242.out 2).trans rfl⟩ (fun hHeld => ?_); refine with_tabW laws_FnExactAddClue.tab24 laws_FnExactAddClue.bits24 (fun HT_ HW_ => ?_)
           generalize w127.drew = w128 at HO_257001 HO_262001 HO_271001 BK241 BK242 BK256 BK261 BK270 HB hHeld ⊢
           refine take_ (i := 0) (N := some 80) (v := ?_) (a' := ?_) #[true, false, false, false, false, false, false, false, false, false, false] rfl rfl (take_ofW HT_.out HW_.out (by kernel_rfl)) (fun _ _ _ h => h) (Or.inl ⟨by rfl, ?_⟩) hHeld ?_ ?_
           rotate_left
           ·rintro w' ⟨s0, s1, s2, s3, s4⟩
            go_simp
            with_reducible rfl
           rotate_left
           ·simp only [Act.put, List.setIfInBounds_toArray, List.set_cons_zero, List.set_cons_succ, i64_w, i32_w]
            rfl
           refine take_ (i := 2) (N := some 82) (v := ?_) (a' := ?_) #[true, false, true, false, false, false, false, false, false, false, false] rfl rfl (take_ofW HT_.out HW_.out (by kernel_rfl)) (fun _ _ _ h => h) (Or.inl ⟨by rfl, ?_⟩) hHeld ?_ ?_
           rotate_left
           ·rintro w' ⟨s0, s1, s2, s3, s4⟩
            go_simp
            with_reducible rfl
           rotate_left
           ·simp only [Act.put, List.setIfInBounds_toArray, List.set_cons_zero, List.set_cons_succ, i64_w, i32_w]
            rfl
           refine join_ (σ := Value × Value × Nat) 2 #[true, true, true, true, true, true, true, true, true, false, false] (fun s_ => [(81, .agg #[.int .i64 t283, s_.1]), (83, .agg #[.int .i64 t287, .int .i64 t288, .int .i64 t289]), (84, .tuple #[.agg #[.int .i64 t290, s_.2.1], .bool t294]), (14, .pointer (some ⟨s_.2.2, 0, none⟩)), (79, .tuple #[.agg #[.int .i64 t290, s_.2.1], .bool t294]), (85, .agg #[.int .i64 t290, s_.2.1]), (86, .bool t294)]) (fun s_ w' => (w'.cell? ⟨gb241, 0, none⟩ = some (.int .i64 a0_0) ∧ w'.cell? ⟨gb241, 1, none⟩ = some (.slice A0_1 l0_1.length c0_1) ∧ w'.cell? ⟨gb242, 0, none⟩ = some (.int .i64 a1_0) ∧ w'.cell? ⟨gb242, 1, none⟩ = some (.int .i64 a1_1) ∧ w'.cell? ⟨gb242, 2, none⟩ = some (.int .i64 a1_2)) ∧ (Kd.R k25 25 w' w.heap.size (fun k_ => some k_ ≠ (s_.2.1 : Value).ownBlock ∧ some k_ ≠ (.slice Ao30 t252.length co30 : Value).ownBlock ∧ some k_ ≠ (.slice Ao40 t278.length co40 : Value).ownBlock ∧ some k_ ≠ (.slice Ao48 t266.length co48 : Value).ownBlock) s_.1 t284) ∧ (Kd.R k25 25 w' w.heap.size (fun k_ => some k_ ≠ (s_.1 : Value).ownBlock ∧ some k_ ≠ (.slice Ao30 t252.length co30 : Value).ownBlock ∧ some k_ ≠ (.slice Ao40 t278.length co40 : Value).ownBlock ∧ some k_ ≠ (.slice Ao48 t266.length co48 : Value).ownBlock) s_.2.1 t291) ∧ (Kd.R k25 25 w' w.heap.size (fun k_ => some k_ ≠ (s_.1 : Value).ownBlock ∧ some k_ ≠ (s_.2.1 : Value).ownBlock ∧ some k_ ≠ (.slice Ao40 t278.length co40 : Value).ownBlock ∧ some k_ ≠ (.slice Ao48 t266.length co48 : Value).ownBlock) (.slice Ao30 t252.length co30) t252) ∧ (Kd.R k25 25 w' w.heap.size (fun k_ => some k_ ≠ (s_.1 : Value).ownBlock ∧ some k_ ≠ (s_.2.1 : Value).ownBlock ∧ some k_ ≠ (.slice Ao30 t252.length co30 : Value).ownBlock ∧ some k_ ≠ (.slice Ao48 t266.length co48 : Value).ownBlock) (.slice Ao40 t278.length co40) t278) ∧ (Kd.R k25 25 w' w.heap.size (fun k_ => some k_ ≠ (s_.1 : Value).ownBlock ∧ some k_ ≠ (s_.2.1 : Value).ownBlock ∧ some k_ ≠ (.slice Ao30 t252.length co30 : Value).ownBlock ∧ some k_ ≠ (.slice Ao40 t278.length co40 : Value).ownBlock) (.slice Ao48 t266.length co48) t281) ∧ (w'.heap[gb241]? = some (.cells #[.int .i64 a0_0, .slice A0_1 l0_1.length c0_1] 30 (0, 0))) ∧ (w'.heap[gb242]? = some (.cells #[.int .i64 a1_0, .int .i64 a1_1, .int .i64 a1_2] 23 (0, 0))) ∧ (w'.heap[gb256]? = some (.cells #[.int .i64 t251, .slice Ao30 t252.length co30] 35 (0, 0))) ∧ (w'.heap[gb261]? = some (.cells #[.int .i64 t257, .slice Ao40 t278.length co40] 35 (0, 0))) ∧ (w'.heap[gb270]? = some (.cells #[.int .i64 t265, .slice Ao48 t266.length co48] 35 (0, 0))) ∧ (w'.heap[s_.2.2]? = some (.cells #[.int .i64 0, .slice none 0 0] 35 (0, 0))) ∧ (w.heap.size ≤ s_.2.2) ∧ (w.heap.size ≤ s_.2.2) ∧ (gb241 ≠ s_.2.2) ∧ (s_.2.2 ≠ gb241) ∧ (gb242 ≠ s_.2.2) ∧ (s_.2.2 ≠ gb242) ∧ (gb256 ≠ s_.2.2) ∧ (s_.2.2 ≠ gb256) ∧ (gb261 ≠ s_.2.2) ∧ (s_.2.2 ≠ gb261) ∧ (gb270 ≠ s_.2.2) ∧ (s_.2.2 ≠ gb270) ∧ (Below w.heap.size w w')) ?_ ?_
           rotate_left
           ·intro hCont
            refine two_ (i := 1) (j := 8) (Ni := some 81) (Nj := some 14) #[true, true, true, false, false, false, false, false, false, false, false] #[true, false, true, false, false, false, false, false, true, false, false] rfl rfl rfl rfl (two_of HT_.out (by kernel_rfl)) (by decide) (by decide) (fun K hK => ?_) (fun K hK => ?_)
            ·skip
             refine goes_ Try.func12 (by kernel_rfl) rfl #[.agg #[.int .i64 a0_0, .slice A0_1 l0_1.length c0_1]] (by rfl) rfl rfl (by (try simp only [List.map_toArray, List.map_cons, List.map_nil]); first | done | rfl | (simp only [List.length_drop, List.length_take]; rfl)) ?_
             with_reducible refine (laws_toPuzzle.calls kj76 a0_0 _ _ l0_1 t283 t284 _ ?side1 ?side2 A116.out).mono ?_
             (case side1 => repeat (first | exact (Kd.C_below HR0_1.out HB.out) | (with_reducible refine Kd.C_alloc ?_ _) | (with_reducible refine Kd.C_drewN ?_ _) | (with_reducible refine Kd.C_drew ?_)))
             (case side2 => exact HC0_1.out)
             rintro e w129 ⟨v285, rfl, ho0, hb⟩
             refine ⟨_, rfl, ?_⟩
             have n0_ := am (Kd.R_elder' (roS HO_257001.out) (Kd.R_base ho0) hb)
             have n1_ := am (Kd.R_elder' (roS HO_262001.out) (Kd.R_base ho0) hb)
             have n2_ := am (Kd.R_elder' (roS HO_271001.out) (Kd.R_base ho0) hb)
             have n3_ := am (Kd.R_lower (Kd.R_new' (Kd.R_new' (Kd.R_new' ho0 (Kd.R_lt (roS HO_257001.out))) (Kd.R_lt (roS HO_262001.out))) (Kd.R_lt (roS HO_271001.out))) (below_size (by repeat (first | (with_reducible first | exact HB.out | apply below_alloc | apply pw_below_drewN | apply below_drew1 | refine below_set ?_ (Aside0.out (by assumption))) | exact HB.out))))
             have n4_ := am (blk_below (bkS BK241.out) hb)
             have n5_ := am (blk_below (bkS BK242.out) hb)
             have n6_ := am (blk_below (bkS BK256.out) hb)
             have n7_ := am (blk_below (bkS BK261.out) hb)
             have n8_ := am (blk_below (bkS BK270.out) hb)
             have n9_ := am (below_step (by repeat (first | (with_reducible first | exact HB.out | apply below_alloc | apply pw_below_drewN | apply below_drew1 | refine below_set ?_ (Aside0.out (by assumption))) | exact HB.out)) hb)
             clear HO_257001
             clear HO_262001
             clear HO_271001
             clear BK241
             clear BK242
             clear BK256
             clear BK261
             clear BK270
             clear HB
             have HO_257001 := n0_
             have HO_262001 := n1_
             have HO_271001 := n2_
             have HO286 := n3_
             have BK241 := n4_
             have BK242 := n5_
             have BK256 := n6_
             have BK261 := n7_
             have BK270 := n8_
             have HB := n9_
             clear n0_ n1_ n2_ n3_ n4_ n5_ n6_ n7_ n8_ n9_
             (try clear hb)
             (try clear hb2)
             (try clear hk)
             (try clear hi)
             (try clear ho0)
             refine hK.out _ _ ⟨(blk_cell BK241.out 0).trans rfl, (blk_cell BK241.out 1).trans rfl, (blk_cell BK242.out 0).trans rfl, (blk_cell BK242.out 1).trans rfl, (blk_cell BK242.out 2).trans rfl⟩ (fun hHeld => ?_)
             clear hK K
             refine norm_ (a' := ?_) ?_ ?_
             rotate_left
             ·show Act.put _ (some 81) _ = _
              simp only [Act.put, List.setIfInBounds_toArray, List.set_cons_zero, List.set_cons_succ, i64_w, i32_w]
              rfl
             refine two_ (i := 3) (j := 8) (Ni := some 83) (Nj := some 14) #[true, true, true, true, false, false, false, false, false, false, false] #[true, true, true, false, false, false, false, false, true, false, false] rfl rfl rfl rfl (two_of HT_.out (by kernel_rfl)) (by decide) (by decide) (fun K hK => ?_) (fun K hK => ?_)
             ·skip
              refine goes_ Try.func8 (by kernel_rfl) rfl #[.agg #[.int .i64 a1_0, .int .i64 a1_1, .int .i64 a1_2]] (by rfl) rfl rfl (by (try simp only [List.map_toArray, List.map_cons, List.map_nil]); first | done | rfl | (simp only [List.length_drop, List.length_take]; rfl)) ?_
              with_reducible refine (laws_toClue.calls a1_0 a1_1 a1_2 t287 t288 t289 _ A117.out).mono ?_
              rintro e w130 ⟨rfl, hb⟩
              refine ⟨_, rfl, ?_⟩
              have n0_ := am (Kd.R_below (roS HO_257001.out) hb)
              have n1_ := am (Kd.R_below (roS HO_262001.out) hb)
              have n2_ := am (Kd.R_below (roS HO_271001.out) hb)
              have n3_ := am (Kd.R_below (roS HO286.out) hb)
              have n4_ := am (blk_below (bkS BK241.out) hb)
              have n5_ := am (blk_below (bkS BK242.out) hb)
              have n6_ := am (blk_below (bkS BK256.out) hb)
              have n7_ := am (blk_below (bkS BK261.out) hb)
              have n8_ := am (blk_below (bkS BK270.out) hb)
              have n9_ := am (below_step (by repeat (first | (with_reducible first | exact HB.out | apply below_alloc | apply pw_below_drewN | apply below_drew1 | refine below_set ?_ (Aside0.out (by assumption))) | exact HB.out)) hb)
              clear HO_257001
              clear HO_262001
              clear HO_271001
              clear HO286
              clear BK241
              clear BK242
              clear BK256
              clear BK261
              clear BK270
              clear HB
              have HO_257001 := n0_
              have HO_262001 := n1_
              have HO_271001 := n2_
              have HO286 := n3_
              have BK241 := n4_
              have BK242 := n5_
              have BK256 := n6_
              have BK261 := n7_
              have BK270 := n8_
              have HB := n9_
              clear n0_ n1_ n2_ n3_ n4_ n5_ n6_ n7_ n8_ n9_
              (try clear hb)
              (try clear hb2)
              (try clear hk)
              (try clear hi)
              obtain ⟨Ao131, co131, eo131⟩ := Kd.R_slice HO286.out
              (first | subst eo131 | (injection eo131 with f1_ f2_ f3_; have f4_ := f1_.symm; have f5_ := f3_.symm; clear f1_ f2_ f3_; subst f4_; subst f5_))
              refine hK.out _ _ ⟨(blk_cell BK241.out 0).trans rfl, (blk_cell BK241.out 1).trans rfl, (blk_cell BK242.out 0).trans rfl, (blk_cell BK242.out 1).trans rfl, (blk_cell BK242.out 2).trans rfl⟩ (fun hHeld => ?_)
              clear hK K
              refine norm_ (a' := ?_) ?_ ?_
              rotate_left
              ·show Act.put _ (some 83) _ = _
               simp only [Act.put, List.setIfInBounds_toArray, List.set_cons_zero, List.set_cons_succ, i64_w, i32_w]
               rfl
              refine two_ (i := 4) (j := 8) (Ni := some 84) (Nj := some 14) #[true, true, true, true, true, false, false, false, false, false, false] #[true, true, true, true, false, false, false, false, true, false, false] rfl rfl rfl rfl (two_of HT_.out (by kernel_rfl)) (by decide) (by decide) (fun K hK => ?_) (fun K hK => ?_)
              ·skip
               refine goes_ Try.func16 (by kernel_rfl) rfl #[.agg #[.int .i64 t283, .slice Ao131 t284.length co131], .agg #[.int .i64 t287, .int .i64 t288, .int .i64 t289]] (by rfl) rfl rfl (by (try simp only [List.map_toArray, List.map_cons, List.map_nil]); first | done | rfl | (simp only [List.length_drop, List.length_take]; rfl)) ?_
               with_reducible refine (impl_AddClue.calls kj76 t283 _ _ t284 t287 t288 t289 t290 t291 t294 _ ?side1 ?side2 A118.out).mono ?_
               (case side1 => repeat (first | exact (Kd.R_reads' HO286.out).2.2 | (with_reducible refine Kd.C_alloc ?_ _) | (with_reducible refine Kd.C_drewN ?_ _) | (with_reducible refine Kd.C_drew ?_)))
               (case side2 => exact (Kd.R_reads' HO286.out).2.1)
               rintro e w132 ⟨v292, rfl, ho0, hb⟩
               refine ⟨_, rfl, ?_⟩
               have n0_ := am (Kd.R_elder' (roS HO_257001.out) (Kd.R_base ho0) hb)
               have n1_ := am (Kd.R_elder' (roS HO_262001.out) (Kd.R_base ho0) hb)
               have n2_ := am (Kd.R_elder' (roS HO_271001.out) (Kd.R_base ho0) hb)
               have n3_ := am (Kd.R_elder' (roS HO286.out) (Kd.R_base ho0) hb)
               have n4_ := am (Kd.R_lower (Kd.R_new' (Kd.R_new' (Kd.R_new' (Kd.R_new' ho0 (Kd.R_lt (roS HO_257001.out))) (Kd.R_lt (roS HO_262001.out))) (Kd.R_lt (roS HO_271001.out))) (Kd.R_lt (roS HO286.out))) (below_size (by repeat (first | (with_reducible first | exact HB.out | apply below_alloc | apply pw_below_drewN | apply below_drew1 | refine below_set ?_ (Aside0.out (by assumption))) | exact HB.out))))
               have n5_ := am (blk_below (bkS BK241.out) hb)
               have n6_ := am (blk_below (bkS BK242.out) hb)
               have n7_ := am (blk_below (bkS BK256.out) hb)
               have n8_ := am (blk_below (bkS BK261.out) hb)
               have n9_ := am (blk_below (bkS BK270.out) hb)
               have n10_ := am (below_step (by repeat (first | (with_reducible first | exact HB.out | apply below_alloc | apply pw_below_drewN | apply below_drew1 | refine below_set ?_ (Aside0.out (by assumption))) | exact HB.out)) hb)
               clear HO_257001
               clear HO_262001
               clear HO_271001
               clear HO286
               clear BK241
               clear BK242
               clear BK256
               clear BK261
               clear BK270
               clear HB
               have HO_257001 := n0_
               have HO_262001 := n1_
               have HO_271001 := n2_
               have HO286 := n3_
               have HO293 := n4_
               have BK241 := n5_
               have BK242 := n6_
               have BK256 := n7_
               have BK261 := n8_
               have BK270 := n9_
               have HB := n10_
               clear n0_ n1_ n2_ n3_ n4_ n5_ n6_ n7_ n8_ n9_ n10_
               (try clear hb)
               (try clear hb2)
               (try clear hk)
               (try clear hi)
               (try clear ho0)
               refine hK.out _ _ ⟨(blk_cell BK241.out 0).trans rfl, (blk_cell BK241.out 1).trans rfl, (blk_cell BK242.out 0).trans rfl, (blk_cell BK242.out 1).trans rfl, (blk_cell BK242.out 2).trans rfl⟩ (fun hHeld => ?_)
               clear hK K
               refine norm_ (a' := ?_) ?_ ?_
               rotate_left
               ·show Act.put _ (some 84) _ = _
                simp only [Act.put, List.setIfInBounds_toArray, List.set_cons_zero, List.set_cons_succ, i64_w, i32_w]
                rfl
               refine pure_ (i := 5) (N := some 79) (v := ?_) (a' := ?_) #[true, true, true, true, true, true, false, false, false, false, false] rfl rfl (any_of HT_.out (by kernel_rfl)) (fun _ _ _ h => h) (Or.inl ⟨by rfl, ?_⟩) ?_ ?_
               rotate_left
               ·intro w'
                go_simp
                with_reducible rfl
               rotate_left
               ·simp only [Act.put, List.setIfInBounds_toArray, List.set_cons_zero, List.set_cons_succ, i64_w, i32_w]
                rfl
               refine pure_ (i := 6) (N := some 85) (v := ?_) (a' := ?_) #[true, true, true, true, true, true, true, false, false, false, false] rfl rfl (any_of HT_.out (by kernel_rfl)) (fun _ _ _ h => h) (Or.inl ⟨by rfl, ?_⟩) ?_ ?_
               rotate_left
               ·intro w'
                go_simp
                with_reducible rfl
               rotate_left
               ·simp only [Act.put, List.setIfInBounds_toArray, List.set_cons_zero, List.set_cons_succ, i64_w, i32_w]
                rfl
               refine pure_ (i := 7) (N := some 86) (v := ?_) (a' := ?_) #[true, true, true, true, true, true, true, true, false, false, false] rfl rfl (any_of HT_.out (by kernel_rfl)) (fun _ _ _ h => h) (Or.inl ⟨by rfl, ?_⟩) ?_ ?_
               rotate_left
               ·intro w'
                go_simp
                with_reducible rfl
               rotate_left
               ·simp only [Act.put, List.setIfInBounds_toArray, List.set_cons_zero, List.set_cons_succ, i64_w, i32_w]
                rfl
               refine one_ (i := 8) (N := some 14) #[true, true, true, true, true, true, true, true, true, false, false] rfl rfl (one_of HT_.out (by kernel_rfl)) (by decide) (fun K hK => ?_)
               refine box_step ?hg (N := 14) ?hd (cs := #[.int .i64 0, .slice none 0 0]) (t := 35) ?hr ?_; (case hd => rfl); (case hg => rfl); (case hr => first | (go_simp; done) | (go_simp; rfl))
               intro gb295 hg w133 hbox hb
               have n0_ := am (Kd.R_below (roS HO_257001.out) hb)
               have n1_ := am (Kd.R_below (roS HO_262001.out) hb)
               have n2_ := am (Kd.R_below (roS HO_271001.out) hb)
               have n3_ := am (Kd.R_below (roS HO286.out) hb)
               have n4_ := am (Kd.R_below (roS HO293.out) hb)
               have n5_ := am (blk_below (bkS BK241.out) hb)
               have n6_ := am (blk_below (bkS BK242.out) hb)
               have n7_ := am (blk_below (bkS BK256.out) hb)
               have n8_ := am (blk_below (bkS BK261.out) hb)
               have n9_ := am (blk_below (bkS BK270.out) hb)
               have n10_ := am (below_step (by repeat (first | (with_reducible first | exact HB.out | apply below_alloc | apply pw_below_drewN | apply below_drew1 | refine below_set ?_ (Aside0.out (by assumption))) | exact HB.out)) hb)
               have n11_ := am (hbox)
               have n12_ := am ((by rw [hg]; exact (below_size (by repeat (first | (with_reducible first | exact HB.out | apply below_alloc | apply pw_below_drewN | apply below_drew1 | refine below_set ?_ (Aside0.out (by assumption))) | exact HB.out))) : w.heap.size ≤ gb295))
               have n13_ := am ((by rw [hg]; exact (below_size (by repeat (first | (with_reducible first | exact HB.out | apply below_alloc | apply pw_below_drewN | apply below_drew1 | refine below_set ?_ (Aside0.out (by assumption))) | exact HB.out))) : w.heap.size ≤ gb295))
               have n14_ := am (nbL (bkS BK241.out) hg)
               have n15_ := am (nbG (bkS BK241.out) hg)
               have n16_ := am (nbL (bkS BK242.out) hg)
               have n17_ := am (nbG (bkS BK242.out) hg)
               have n18_ := am (nbL (bkS BK256.out) hg)
               have n19_ := am (nbG (bkS BK256.out) hg)
               have n20_ := am (nbL (bkS BK261.out) hg)
               have n21_ := am (nbG (bkS BK261.out) hg)
               have n22_ := am (nbL (bkS BK270.out) hg)
               have n23_ := am (nbG (bkS BK270.out) hg)
               clear HO_257001
               clear HO_262001
               clear HO_271001
               clear HO286
               clear HO293
               clear BK241
               clear BK242
               clear BK256
               clear BK261
               clear BK270
               clear HB
               have HO_257001 := n0_
               have HO_262001 := n1_
               have HO_271001 := n2_
               have HO286 := n3_
               have HO293 := n4_
               have BK241 := n5_
               have BK242 := n6_
               have BK256 := n7_
               have BK261 := n8_
               have BK270 := n9_
               have HB := n10_
               have BK295 := n11_
               have GW295 := n12_
               have GE295 := n13_
               have NB241_295 := n14_
               have NB295_241 := n15_
               have NB242_295 := n16_
               have NB295_242 := n17_
               have NB256_295 := n18_
               have NB295_256 := n19_
               have NB261_295 := n20_
               have NB295_261 := n21_
               have NB270_295 := n22_
               have NB295_270 := n23_
               clear n0_ n1_ n2_ n3_ n4_ n5_ n6_ n7_ n8_ n9_ n10_ n11_ n12_ n13_ n14_ n15_ n16_ n17_ n18_ n19_ n20_ n21_ n22_ n23_
               clear hb hbox hg
               refine hK.out _ _ ⟨(blk_cell BK241.out 0).trans rfl, (blk_cell BK241.out 1).trans rfl, (blk_cell BK242.out 0).trans rfl, (blk_cell BK242.out 1).trans rfl, (blk_cell BK242.out 2).trans rfl⟩ (fun hHeld => ?_)
               clear hK K
               refine norm_ (a' := ?_) ?_ ?_
               rotate_left
               ·show Act.put _ (some 14) _ = _
                simp only [Act.put, List.setIfInBounds_toArray, List.set_cons_zero, List.set_cons_succ, i64_w, i32_w]
                rfl
               exact norm_ (by simp only [putAll, Act.put, List.setIfInBounds_toArray, List.set_cons_zero, List.set_cons_succ]) (hCont (.slice Ao131 t284.length co131, v292, gb295) _ ⟨hHeld, (by (with_reducible repeat (first | apply Kd.R_alloc | apply Kd.R_drewN | apply Kd.R_drew)); exact Kd.R_mono HO286.out (fun _ hk => ⟨hk.2, ⟨hk.1.1.1.2, ⟨hk.1.1.2, hk.1.2⟩⟩⟩)), (by (with_reducible repeat (first | apply Kd.R_alloc | apply Kd.R_drewN | apply Kd.R_drew)); exact Kd.R_mono HO293.out (fun _ hk => ⟨hk.2, ⟨hk.1.1.1.2, ⟨hk.1.1.2, hk.1.2⟩⟩⟩)), (by (with_reducible repeat (first | apply Kd.R_alloc | apply Kd.R_drewN | apply Kd.R_drew)); exact Kd.R_mono HO_257001.out (fun _ hk => ⟨hk.1.2, ⟨hk.2, ⟨hk.1.1.1, hk.1.1.2⟩⟩⟩)), (by (with_reducible repeat (first | apply Kd.R_alloc | apply Kd.R_drewN | apply Kd.R_drew)); exact Kd.R_mono HO_262001.out (fun _ hk => ⟨hk.1.2, ⟨hk.2, ⟨hk.1.1.1, hk.1.1.2⟩⟩⟩)), (by (with_reducible repeat (first | apply Kd.R_alloc | apply Kd.R_drewN | apply Kd.R_drew)); exact Kd.R_mono HO_271001.out (fun _ hk => ⟨hk.1.2, ⟨hk.2, ⟨hk.1.1.1, hk.1.1.2⟩⟩⟩)), (bkS BK241.out), (bkS BK242.out), (bkS BK256.out), (bkS BK261.out), (bkS BK270.out), (bkS BK295.out), GW295.out, GE295.out, NB241_295.out, NB295_241.out, NB242_295.out, NB295_242.out, NB256_295.out, NB295_256.out, NB261_295.out, NB295_261.out, NB270_295.out, NB295_270.out, (by repeat (first | (with_reducible first | exact HB.out | apply below_alloc | apply pw_below_drewN | apply below_drew1 | refine below_set ?_ (Aside0.out (by assumption))) | exact HB.out))⟩)
              ·skip
               refine box_step ?hg (N := 14) ?hd (cs := #[.int .i64 0, .slice none 0 0]) (t := 35) ?hr ?_; (case hd => rfl); (case hg => rfl); (case hr => first | (go_simp; done) | (go_simp; rfl))
               intro gb295 hg w131 hbox hb
               have n0_ := am (Kd.R_below (roS HO_257001.out) hb)
               have n1_ := am (Kd.R_below (roS HO_262001.out) hb)
               have n2_ := am (Kd.R_below (roS HO_271001.out) hb)
               have n3_ := am (Kd.R_below (roS HO286.out) hb)
               have n4_ := am (blk_below (bkS BK241.out) hb)
               have n5_ := am (blk_below (bkS BK242.out) hb)
               have n6_ := am (blk_below (bkS BK256.out) hb)
               have n7_ := am (blk_below (bkS BK261.out) hb)
               have n8_ := am (blk_below (bkS BK270.out) hb)
               have n9_ := am (below_step (by repeat (first | (with_reducible first | exact HB.out | apply below_alloc | apply pw_below_drewN | apply below_drew1 | refine below_set ?_ (Aside0.out (by assumption))) | exact HB.out)) hb)
               have n10_ := am (hbox)
               have n11_ := am ((by rw [hg]; exact (below_size (by repeat (first | (with_reducible first | exact HB.out | apply below_alloc | apply pw_below_drewN | apply below_drew1 | refine below_set ?_ (Aside0.out (by assumption))) | exact HB.out))) : w.heap.size ≤ gb295))
               have n12_ := am ((by rw [hg]; exact (below_size (by repeat (first | (with_reducible first | exact HB.out | apply below_alloc | apply pw_below_drewN | apply below_drew1 | refine below_set ?_ (Aside0.out (by assumption))) | exact HB.out))) : w.heap.size ≤ gb295))
               have n13_ := am (nbL (bkS BK241.out) hg)
               have n14_ := am (nbG (bkS BK241.out) hg)
               have n15_ := am (nbL (bkS BK242.out) hg)
               have n16_ := am (nbG (bkS BK242.out) hg)
               have n17_ := am (nbL (bkS BK256.out) hg)
               have n18_ := am (nbG (bkS BK256.out) hg)
               have n19_ := am (nbL (bkS BK261.out) hg)
               have n20_ := am (nbG (bkS BK261.out) hg)
               have n21_ := am (nbL (bkS BK270.out) hg)
               have n22_ := am (nbG (bkS BK270.out) hg)
               clear HO_257001
               clear HO_262001
               clear HO_271001
               clear HO286
               clear BK241
               clear BK242
               clear BK256
               clear BK261
               clear BK270
               clear HB
               have HO_257001 := n0_
               have HO_262001 := n1_
               have HO_271001 := n2_
               have HO286 := n3_
               have BK241 := n4_
               have BK242 := n5_
               have BK256 := n6_
               have BK261 := n7_
               have BK270 := n8_
               have HB := n9_
               have BK295 := n10_
               have GW295 := n11_
               have GE295 := n12_
               have NB241_295 := n13_
               have NB295_241 := n14_
               have NB242_295 := n15_
               have NB295_242 := n16_
               have NB256_295 := n17_
               have NB295_256 := n18_
               have NB261_295 := n19_
               have NB295_261 := n20_
               have NB270_295 := n21_
               have NB295_270 := n22_
               clear n0_ n1_ n2_ n3_ n4_ n5_ n6_ n7_ n8_ n9_ n10_ n11_ n12_ n13_ n14_ n15_ n16_ n17_ n18_ n19_ n20_ n21_ n22_
               clear hb hbox hg
               obtain ⟨Ao132, co132, eo132⟩ := Kd.R_slice HO286.out
               (first | subst eo132 | (injection eo132 with f1_ f2_ f3_; have f4_ := f1_.symm; have f5_ := f3_.symm; clear f1_ f2_ f3_; subst f4_; subst f5_))
               refine hK.out _ _ ⟨(blk_cell BK241.out 0).trans rfl, (blk_cell BK241.out 1).trans rfl, (blk_cell BK242.out 0).trans rfl, (blk_cell BK242.out 1).trans rfl, (blk_cell BK242.out 2).trans rfl⟩ (fun hHeld => ?_)
               clear hK K
               refine norm_ (a' := ?_) ?_ ?_
               rotate_left
               ·show Act.put _ (some 14) _ = _
                simp only [Act.put, List.setIfInBounds_toArray, List.set_cons_zero, List.set_cons_succ, i64_w, i32_w]
                rfl
               refine one_ (i := 4) (N := some 84) #[true, true, true, true, true, false, false, false, true, false, false] rfl rfl (one_of HT_.out (by kernel_rfl)) (by decide) (fun K hK => ?_)
               refine goes_ Try.func16 (by kernel_rfl) rfl #[.agg #[.int .i64 t283, .slice Ao132 t284.length co132], .agg #[.int .i64 t287, .int .i64 t288, .int .i64 t289]] (by rfl) rfl rfl (by (try simp only [List.map_toArray, List.map_cons, List.map_nil]); first | done | rfl | (simp only [List.length_drop, List.length_take]; rfl)) ?_
               with_reducible refine (impl_AddClue.calls kj76 t283 _ _ t284 t287 t288 t289 t290 t291 t294 _ ?side1 ?side2 A118.out).mono ?_
               (case side1 => repeat (first | exact (Kd.R_reads' HO286.out).2.2 | (with_reducible refine Kd.C_alloc ?_ _) | (with_reducible refine Kd.C_drewN ?_ _) | (with_reducible refine Kd.C_drew ?_)))
               (case side2 => exact (Kd.R_reads' HO286.out).2.1)
               rintro e w133 ⟨v292, rfl, ho0, hb⟩
               refine ⟨_, rfl, ?_⟩
               have n0_ := am (Kd.R_elder' (roS HO_257001.out) (Kd.R_base ho0) hb)
               have n1_ := am (Kd.R_elder' (roS HO_262001.out) (Kd.R_base ho0) hb)
               have n2_ := am (Kd.R_elder' (roS HO_271001.out) (Kd.R_base ho0) hb)
               have n3_ := am (Kd.R_elder' (roS HO286.out) (Kd.R_base ho0) hb)
               have n4_ := am (Kd.R_lower (Kd.R_new' (Kd.R_new' (Kd.R_new' (Kd.R_new' ho0 (Kd.R_lt (roS HO_257001.out))) (Kd.R_lt (roS HO_262001.out))) (Kd.R_lt (roS HO_271001.out))) (Kd.R_lt (roS HO286.out))) (below_size (by repeat (first | (with_reducible first | exact HB.out | apply below_alloc | apply pw_below_drewN | apply below_drew1 | refine below_set ?_ (Aside0.out (by assumption))) | exact HB.out))))
               have n5_ := am (blk_below (bkS BK241.out) hb)
               have n6_ := am (blk_below (bkS BK242.out) hb)
               have n7_ := am (blk_below (bkS BK256.out) hb)
               have n8_ := am (blk_below (bkS BK261.out) hb)
               have n9_ := am (blk_below (bkS BK270.out) hb)
               have n10_ := am (blk_below (bkS BK295.out) hb)
               have n11_ := am (below_step (by repeat (first | (with_reducible first | exact HB.out | apply below_alloc | apply pw_below_drewN | apply below_drew1 | refine below_set ?_ (Aside0.out (by assumption))) | exact HB.out)) hb)
               clear HO_257001
               clear HO_262001
               clear HO_271001
               clear HO286
               clear BK241
               clear BK242
               clear BK256
               clear BK261
               clear BK270
               clear BK295
               clear HB
               have HO_257001 := n0_
               have HO_262001 := n1_
               have HO_271001 := n2_
               have HO286 := n3_
               have HO293 := n4_
               have BK241 := n5_
               have BK242 := n6_
               have BK256 := n7_
               have BK261 := n8_
               have BK270 := n9_
               have BK295 := n10_
               have HB := n11_
               clear n0_ n1_ n2_ n3_ n4_ n5_ n6_ n7_ n8_ n9_ n10_ n11_
               (try clear hb)
               (try clear hb2)
               (try clear hk)
               (try clear hi)
               (try clear ho0)
               refine hK.out _ _ ⟨(blk_cell BK241.out 0).trans rfl, (blk_cell BK241.out 1).trans rfl, (blk_cell BK242.out 0).trans rfl, (blk_cell BK242.out 1).trans rfl, (blk_cell BK242.out 2).trans rfl⟩ (fun hHeld => ?_)
               clear hK K
               refine norm_ (a' := ?_) ?_ ?_
               rotate_left
               ·show Act.put _ (some 84) _ = _
                simp only [Act.put, List.setIfInBounds_toArray, List.set_cons_zero, List.set_cons_succ, i64_w, i32_w]
                rfl
               refine pure_ (i := 5) (N := some 79) (v := ?_) (a' := ?_) #[true, true, true, true, true, true, false, false, true, false, false] rfl rfl (any_of HT_.out (by kernel_rfl)) (fun _ _ _ h => h) (Or.inl ⟨by rfl, ?_⟩) ?_ ?_
               rotate_left
               ·intro w'
                go_simp
                with_reducible rfl
               rotate_left
               ·simp only [Act.put, List.setIfInBounds_toArray, List.set_cons_zero, List.set_cons_succ, i64_w, i32_w]
                rfl
               refine pure_ (i := 6) (N := some 85) (v := ?_) (a' := ?_) #[true, true, true, true, true, true, true, false, true, false, false] rfl rfl (any_of HT_.out (by kernel_rfl)) (fun _ _ _ h => h) (Or.inl ⟨by rfl, ?_⟩) ?_ ?_
               rotate_left
               ·intro w'
                go_simp
                with_reducible rfl
               rotate_left
               ·simp only [Act.put, List.setIfInBounds_toArray, List.set_cons_zero, List.set_cons_succ, i64_w, i32_w]
                rfl
               refine pure_ (i := 7) (N := some 86) (v := ?_) (a' := ?_) #[true, true, true, true, true, true, true, true, true, false, false] rfl rfl (any_of HT_.out (by kernel_rfl)) (fun _ _ _ h => h) (Or.inl ⟨by rfl, ?_⟩) ?_ ?_
               rotate_left
               ·intro w'
                go_simp
                with_reducible rfl
               rotate_left
               ·simp only [Act.put, List.setIfInBounds_toArray, List.set_cons_zero, List.set_cons_succ, i64_w, i32_w]
                rfl
               exact norm_ (by simp only [putAll, Act.put, List.setIfInBounds_toArray, List.set_cons_zero, List.set_cons_succ]) (hCont (.slice Ao132 t284.length co132, v292, gb295) _ ⟨hHeld, (by (with_reducible repeat (first | apply Kd.R_alloc | apply Kd.R_drewN | apply Kd.R_drew)); exact Kd.R_mono HO286.out (fun _ hk => ⟨hk.2, ⟨hk.1.1.1.2, ⟨hk.1.1.2, hk.1.2⟩⟩⟩)), (by (with_reducible repeat (first | apply Kd.R_alloc | apply Kd.R_drewN | apply Kd.R_drew)); exact Kd.R_mono HO293.out (fun _ hk => ⟨hk.2, ⟨hk.1.1.1.2, ⟨hk.1.1.2, hk.1.2⟩⟩⟩)), (by (with_reducible repeat (first | apply Kd.R_alloc | apply Kd.R_drewN | apply Kd.R_drew)); exact Kd.R_mono HO_257001.out (fun _ hk => ⟨hk.1.2, ⟨hk.2, ⟨hk.1.1.1, hk.1.1.2⟩⟩⟩)), (by (with_reducible repeat (first | apply Kd.R_alloc | apply Kd.R_drewN | apply Kd.R_drew)); exact Kd.R_mono HO_262001.out (fun _ hk => ⟨hk.1.2, ⟨hk.2, ⟨hk.1.1.1, hk.1.1.2⟩⟩⟩)), (by (with_reducible repeat (first | apply Kd.R_alloc | apply Kd.R_drewN | apply Kd.R_drew)); exact Kd.R_mono HO_271001.out (fun _ hk => ⟨hk.1.2, ⟨hk.2, ⟨hk.1.1.1, hk.1.1.2⟩⟩⟩)), (bkS BK241.out), (bkS BK242.out), (bkS BK256.out), (bkS BK261.out), (bkS BK270.out), (bkS BK295.out), GW295.out, GE295.out, NB241_295.out, NB295_241.out, NB242_295.out, NB295_242.out, NB256_295.out, NB295_256.out, NB261_295.out, NB295_261.out, NB270_295.out, NB295_270.out, (by repeat (first | (with_reducible first | exact HB.out | apply below_alloc | apply pw_below_drewN | apply below_drew1 | refine below_set ?_ (Aside0.out (by assumption))) | exact HB.out))⟩)
             ·skip
              refine box_step ?hg (N := 14) ?hd (cs := #[.int .i64 0, .slice none 0 0]) (t := 35) ?hr ?_; (case hd => rfl); (case hg => rfl); (case hr => first | (go_simp; done) | (go_simp; rfl))
              intro gb295 hg w130 hbox hb
              have n0_ := am (Kd.R_below (roS HO_257001.out) hb)
              have n1_ := am (Kd.R_below (roS HO_262001.out) hb)
              have n2_ := am (Kd.R_below (roS HO_271001.out) hb)
              have n3_ := am (Kd.R_below (roS HO286.out) hb)
              have n4_ := am (blk_below (bkS BK241.out) hb)
              have n5_ := am (blk_below (bkS BK242.out) hb)
              have n6_ := am (blk_below (bkS BK256.out) hb)
              have n7_ := am (blk_below (bkS BK261.out) hb)
              have n8_ := am (blk_below (bkS BK270.out) hb)
              have n9_ := am (below_step (by repeat (first | (with_reducible first | exact HB.out | apply below_alloc | apply pw_below_drewN | apply below_drew1 | refine below_set ?_ (Aside0.out (by assumption))) | exact HB.out)) hb)
              have n10_ := am (hbox)
              have n11_ := am ((by rw [hg]; exact (below_size (by repeat (first | (with_reducible first | exact HB.out | apply below_alloc | apply pw_below_drewN | apply below_drew1 | refine below_set ?_ (Aside0.out (by assumption))) | exact HB.out))) : w.heap.size ≤ gb295))
              have n12_ := am ((by rw [hg]; exact (below_size (by repeat (first | (with_reducible first | exact HB.out | apply below_alloc | apply pw_below_drewN | apply below_drew1 | refine below_set ?_ (Aside0.out (by assumption))) | exact HB.out))) : w.heap.size ≤ gb295))
              have n13_ := am (nbL (bkS BK241.out) hg)
              have n14_ := am (nbG (bkS BK241.out) hg)
              have n15_ := am (nbL (bkS BK242.out) hg)
              have n16_ := am (nbG (bkS BK242.out) hg)
              have n17_ := am (nbL (bkS BK256.out) hg)
              have n18_ := am (nbG (bkS BK256.out) hg)
              have n19_ := am (nbL (bkS BK261.out) hg)
              have n20_ := am (nbG (bkS BK261.out) hg)
              have n21_ := am (nbL (bkS BK270.out) hg)
              have n22_ := am (nbG (bkS BK270.out) hg)
              clear HO_257001
              clear HO_262001
              clear HO_271001
              clear HO286
              clear BK241
              clear BK242
              clear BK256
              clear BK261
              clear BK270
              clear HB
              have HO_257001 := n0_
              have HO_262001 := n1_
              have HO_271001 := n2_
              have HO286 := n3_
              have BK241 := n4_
              have BK242 := n5_
              have BK256 := n6_
              have BK261 := n7_
              have BK270 := n8_
              have HB := n9_
              have BK295 := n10_
              have GW295 := n11_
              have GE295 := n12_
              have NB241_295 := n13_
              have NB295_241 := n14_
              have NB242_295 := n15_
              have NB295_242 := n16_
              have NB256_295 := n17_
              have NB295_256 := n18_
              have NB261_295 := n19_
              have NB295_261 := n20_
              have NB270_295 := n21_
              have NB295_270 := n22_
              clear n0_ n1_ n2_ n3_ n4_ n5_ n6_ n7_ n8_ n9_ n10_ n11_ n12_ n13_ n14_ n15_ n16_ n17_ n18_ n19_ n20_ n21_ n22_
              clear hb hbox hg
              refine hK.out _ _ ⟨(blk_cell BK241.out 0).trans rfl, (blk_cell BK241.out 1).trans rfl, (blk_cell BK242.out 0).trans rfl, (blk_cell BK242.out 1).trans rfl, (blk_cell BK242.out 2).trans rfl⟩ (fun hHeld => ?_)
              clear hK K
              refine norm_ (a' := ?_) ?_ ?_
              rotate_left
              ·show Act.put _ (some 14) _ = _
               simp only [Act.put, List.setIfInBounds_toArray, List.set_cons_zero, List.set_cons_succ, i64_w, i32_w]
               rfl
              refine one_ (i := 3) (N := some 83) #[true, true, true, true, false, false, false, false, true, false, false] rfl rfl (one_of HT_.out (by kernel_rfl)) (by decide) (fun K hK => ?_)
              refine goes_ Try.func8 (by kernel_rfl) rfl #[.agg #[.int .i64 a1_0, .int .i64 a1_1, .int .i64 a1_2]] (by rfl) rfl rfl (by (try simp only [List.map_toArray, List.map_cons, List.map_nil]); first | done | rfl | (simp only [List.length_drop, List.length_take]; rfl)) ?_
              with_reducible refine (laws_toClue.calls a1_0 a1_1 a1_2 t287 t288 t289 _ A117.out).mono ?_
              rintro e w131 ⟨rfl, hb⟩
              refine ⟨_, rfl, ?_⟩
              have n0_ := am (Kd.R_below (roS HO_257001.out) hb)
              have n1_ := am (Kd.R_below (roS HO_262001.out) hb)
              have n2_ := am (Kd.R_below (roS HO_271001.out) hb)
              have n3_ := am (Kd.R_below (roS HO286.out) hb)
              have n4_ := am (blk_below (bkS BK241.out) hb)
              have n5_ := am (blk_below (bkS BK242.out) hb)
              have n6_ := am (blk_below (bkS BK256.out) hb)
              have n7_ := am (blk_below (bkS BK261.out) hb)
              have n8_ := am (blk_below (bkS BK270.out) hb)
              have n9_ := am (blk_below (bkS BK295.out) hb)
              have n10_ := am (below_step (by repeat (first | (with_reducible first | exact HB.out | apply below_alloc | apply pw_below_drewN | apply below_drew1 | refine below_set ?_ (Aside0.out (by assumption))) | exact HB.out)) hb)
              clear HO_257001
              clear HO_262001
              clear HO_271001
              clear HO286
              clear BK241
              clear BK242
              clear BK256
              clear BK261
              clear BK270
              clear BK295
              clear HB
              have HO_257001 := n0_
              have HO_262001 := n1_
              have HO_271001 := n2_
              have HO286 := n3_
              have BK241 := n4_
              have BK242 := n5_
              have BK256 := n6_
              have BK261 := n7_
              have BK270 := n8_
              have BK295 := n9_
              have HB := n10_
              clear n0_ n1_ n2_ n3_ n4_ n5_ n6_ n7_ n8_ n9_ n10_
              (try clear hb)
              (try clear hb2)
              (try clear hk)
              (try clear hi)
              obtain ⟨Ao132, co132, eo132⟩ := Kd.R_slice HO286.out
              (first | subst eo132 | (injection eo132 with f1_ f2_ f3_; have f4_ := f1_.symm; have f5_ := f3_.symm; clear f1_ f2_ f3_; subst f4_; subst f5_))
              refine hK.out _ _ ⟨(blk_cell BK241.out 0).trans rfl, (blk_cell BK241.out 1).trans rfl, (blk_cell BK242.out 0).trans rfl, (blk_cell BK242.out 1).trans rfl, (blk_cell BK242.out 2).trans rfl⟩ (fun hHeld => ?_)
              clear hK K
              refine norm_ (a' := ?_) ?_ ?_
              rotate_left
              ·show Act.put _ (some 83) _ = _
               simp only [Act.put, List.setIfInBounds_toArray, List.set_cons_zero, List.set_cons_succ, i64_w, i32_w]
               rfl
              refine one_ (i := 4) (N := some 84) #[true, true, true, true, true, false, false, false, true, false, false] rfl rfl (one_of HT_.out (by kernel_rfl)) (by decide) (fun K hK => ?_)
              refine goes_ Try.func16 (by kernel_rfl) rfl #[.agg #[.int .i64 t283, .slice Ao132 t284.length co132], .agg #[.int .i64 t287, .int .i64 t288, .int .i64 t289]] (by rfl) rfl rfl (by (try simp only [List.map_toArray, List.map_cons, List.map_nil]); first | done | rfl | (simp only [List.length_drop, List.length_take]; rfl)) ?_
              with_reducible refine (impl_AddClue.calls kj76 t283 _ _ t284 t287 t288 t289 t290 t291 t294 _ ?side1 ?side2 A118.out).mono ?_
              (case side1 => repeat (first | exact (Kd.R_reads' HO286.out).2.2 | (with_reducible refine Kd.C_alloc ?_ _) | (with_reducible refine Kd.C_drewN ?_ _) | (with_reducible refine Kd.C_drew ?_)))
              (case side2 => exact (Kd.R_reads' HO286.out).2.1)
              rintro e w133 ⟨v292, rfl, ho0, hb⟩
              refine ⟨_, rfl, ?_⟩
              have n0_ := am (Kd.R_elder' (roS HO_257001.out) (Kd.R_base ho0) hb)
              have n1_ := am (Kd.R_elder' (roS HO_262001.out) (Kd.R_base ho0) hb)
              have n2_ := am (Kd.R_elder' (roS HO_271001.out) (Kd.R_base ho0) hb)
              have n3_ := am (Kd.R_elder' (roS HO286.out) (Kd.R_base ho0) hb)
              have n4_ := am (Kd.R_lower (Kd.R_new' (Kd.R_new' (Kd.R_new' (Kd.R_new' ho0 (Kd.R_lt (roS HO_257001.out))) (Kd.R_lt (roS HO_262001.out))) (Kd.R_lt (roS HO_271001.out))) (Kd.R_lt (roS HO286.out))) (below_size (by repeat (first | (with_reducible first | exact HB.out | apply below_alloc | apply pw_below_drewN | apply below_drew1 | refine below_set ?_ (Aside0.out (by assumption))) | exact HB.out))))
              have n5_ := am (blk_below (bkS BK241.out) hb)
              have n6_ := am (blk_below (bkS BK242.out) hb)
              have n7_ := am (blk_below (bkS BK256.out) hb)
              have n8_ := am (blk_below (bkS BK261.out) hb)
              have n9_ := am (blk_below (bkS BK270.out) hb)
              have n10_ := am (blk_below (bkS BK295.out) hb)
              have n11_ := am (below_step (by repeat (first | (with_reducible first | exact HB.out | apply below_alloc | apply pw_below_drewN | apply below_drew1 | refine below_set ?_ (Aside0.out (by assumption))) | exact HB.out)) hb)
              clear HO_257001
              clear HO_262001
              clear HO_271001
              clear HO286
              clear BK241
              clear BK242
              clear BK256
              clear BK261
              clear BK270
              clear BK295
              clear HB
              have HO_257001 := n0_
              have HO_262001 := n1_
              have HO_271001 := n2_
              have HO286 := n3_
              have HO293 := n4_
              have BK241 := n5_
              have BK242 := n6_
              have BK256 := n7_
              have BK261 := n8_
              have BK270 := n9_
              have BK295 := n10_
              have HB := n11_
              clear n0_ n1_ n2_ n3_ n4_ n5_ n6_ n7_ n8_ n9_ n10_ n11_
              (try clear hb)
              (try clear hb2)
              (try clear hk)
              (try clear hi)
              (try clear ho0)
              refine hK.out _ _ ⟨(blk_cell BK241.out 0).trans rfl, (blk_cell BK241.out 1).trans rfl, (blk_cell BK242.out 0).trans rfl, (blk_cell BK242.out 1).trans rfl, (blk_cell BK242.out 2).trans rfl⟩ (fun hHeld => ?_)
              clear hK K
              refine norm_ (a' := ?_) ?_ ?_
              rotate_left
              ·show Act.put _ (some 84) _ = _
               simp only [Act.put, List.setIfInBounds_toArray, List.set_cons_zero, List.set_cons_succ, i64_w, i32_w]
               rfl
              refine pure_ (i := 5) (N := some 79) (v := ?_) (a' := ?_) #[true, true, true, true, true, true, false, false, true, false, false] rfl rfl (any_of HT_.out (by kernel_rfl)) (fun _ _ _ h => h) (Or.inl ⟨by rfl, ?_⟩) ?_ ?_
              rotate_left
              ·intro w'
               go_simp
               with_reducible rfl
              rotate_left
              ·simp only [Act.put, List.setIfInBounds_toArray, List.set_cons_zero, List.set_cons_succ, i64_w, i32_w]
               rfl
              refine pure_ (i := 6) (N := some 85) (v := ?_) (a' := ?_) #[true, true, true, true, true, true, true, false, true, false, false] rfl rfl (any_of HT_.out (by kernel_rfl)) (fun _ _ _ h => h) (Or.inl ⟨by rfl, ?_⟩) ?_ ?_
              rotate_left
              ·intro w'
               go_simp
               with_reducible rfl
              rotate_left
              ·simp only [Act.put, List.setIfInBounds_toArray, List.set_cons_zero, List.set_cons_succ, i64_w, i32_w]
               rfl
              refine pure_ (i := 7) (N := some 86) (v := ?_) (a' := ?_) #[true, true, true, true, true, true, true, true, true, false, false] rfl rfl (any_of HT_.out (by kernel_rfl)) (fun _ _ _ h => h) (Or.inl ⟨by rfl, ?_⟩) ?_ ?_
              rotate_left
              ·intro w'
               go_simp
               with_reducible rfl
              rotate_left
              ·simp only [Act.put, List.setIfInBounds_toArray, List.set_cons_zero, List.set_cons_succ, i64_w, i32_w]
               rfl
              exact norm_ (by simp only [putAll, Act.put, List.setIfInBounds_toArray, List.set_cons_zero, List.set_cons_succ]) (hCont (.slice Ao132 t284.length co132, v292, gb295) _ ⟨hHeld, (by (with_reducible repeat (first | apply Kd.R_alloc | apply Kd.R_drewN | apply Kd.R_drew)); exact Kd.R_mono HO286.out (fun _ hk => ⟨hk.2, ⟨hk.1.1.1.2, ⟨hk.1.1.2, hk.1.2⟩⟩⟩)), (by (with_reducible repeat (first | apply Kd.R_alloc | apply Kd.R_drewN | apply Kd.R_drew)); exact Kd.R_mono HO293.out (fun _ hk => ⟨hk.2, ⟨hk.1.1.1.2, ⟨hk.1.1.2, hk.1.2⟩⟩⟩)), (by (with_reducible repeat (first | apply Kd.R_alloc | apply Kd.R_drewN | apply Kd.R_drew)); exact Kd.R_mono HO_257001.out (fun _ hk => ⟨hk.1.2, ⟨hk.2, ⟨hk.1.1.1, hk.1.1.2⟩⟩⟩)), (by (with_reducible repeat (first | apply Kd.R_alloc | apply Kd.R_drewN | apply Kd.R_drew)); exact Kd.R_mono HO_262001.out (fun _ hk => ⟨hk.1.2, ⟨hk.2, ⟨hk.1.1.1, hk.1.1.2⟩⟩⟩)), (by (with_reducible repeat (first | apply Kd.R_alloc | apply Kd.R_drewN | apply Kd.R_drew)); exact Kd.R_mono HO_271001.out (fun _ hk => ⟨hk.1.2, ⟨hk.2, ⟨hk.1.1.1, hk.1.1.2⟩⟩⟩)), (bkS BK241.out), (bkS BK242.out), (bkS BK256.out), (bkS BK261.out), (bkS BK270.out), (bkS BK295.out), GW295.out, GE295.out, NB241_295.out, NB295_241.out, NB242_295.out, NB295_242.out, NB256_295.out, NB295_256.out, NB261_295.out, NB295_261.out, NB270_295.out, NB295_270.out, (by repeat (first | (with_reducible first | exact HB.out | apply below_alloc | apply pw_below_drewN | apply below_drew1 | refine below_set ?_ (Aside0.out (by assumption))) | exact HB.out))⟩)
            ·skip
             refine box_step ?hg (N := 14) ?hd (cs := #[.int .i64 0, .slice none 0 0]) (t := 35) ?hr ?_; (case hd => rfl); (case hg => rfl); (case hr => first | (go_simp; done) | (go_simp; rfl))
             intro gb295 hg w129 hbox hb
             have n0_ := am (Kd.R_below (roS HO_257001.out) hb)
             have n1_ := am (Kd.R_below (roS HO_262001.out) hb)
             have n2_ := am (Kd.R_below (roS HO_271001.out) hb)
             have n3_ := am (blk_below (bkS BK241.out) hb)
             have n4_ := am (blk_below (bkS BK242.out) hb)
             have n5_ := am (blk_below (bkS BK256.out) hb)
             have n6_ := am (blk_below (bkS BK261.out) hb)
             have n7_ := am (blk_below (bkS BK270.out) hb)
             have n8_ := am (below_step (by repeat (first | (with_reducible first | exact HB.out | apply below_alloc | apply pw_below_drewN | apply below_drew1 | refine below_set ?_ (Aside0.out (by assumption))) | exact HB.out)) hb)
             have n9_ := am (hbox)
             have n10_ := am ((by rw [hg]; exact (below_size (by repeat (first | (with_reducible first | exact HB.out | apply below_alloc | apply pw_below_drewN | apply below_drew1 | refine below_set ?_ (Aside0.out (by assumption))) | exact HB.out))) : w.heap.size ≤ gb295))
             have n11_ := am ((by rw [hg]; exact (below_size (by repeat (first | (with_reducible first | exact HB.out | apply below_alloc | apply pw_below_drewN | apply below_drew1 | refine below_set ?_ (Aside0.out (by assumption))) | exact HB.out))) : w.heap.size ≤ gb295))
             have n12_ := am (nbL (bkS BK241.out) hg)
             have n13_ := am (nbG (bkS BK241.out) hg)
             have n14_ := am (nbL (bkS BK242.out) hg)
             have n15_ := am (nbG (bkS BK242.out) hg)
             have n16_ := am (nbL (bkS BK256.out) hg)
             have n17_ := am (nbG (bkS BK256.out) hg)
             have n18_ := am (nbL (bkS BK261.out) hg)
             have n19_ := am (nbG (bkS BK261.out) hg)
             have n20_ := am (nbL (bkS BK270.out) hg)
             have n21_ := am (nbG (bkS BK270.out) hg)
             clear HO_257001
             clear HO_262001
             clear HO_271001
             clear BK241
             clear BK242
             clear BK256
             clear BK261
             clear BK270
             clear HB
             have HO_257001 := n0_
             have HO_262001 := n1_
             have HO_271001 := n2_
             have BK241 := n3_
             have BK242 := n4_
             have BK256 := n5_
             have BK261 := n6_
             have BK270 := n7_
             have HB := n8_
             have BK295 := n9_
             have GW295 := n10_
             have GE295 := n11_
             have NB241_295 := n12_
             have NB295_241 := n13_
             have NB242_295 := n14_
             have NB295_242 := n15_
             have NB256_295 := n16_
             have NB295_256 := n17_
             have NB261_295 := n18_
             have NB295_261 := n19_
             have NB270_295 := n20_
             have NB295_270 := n21_
             clear n0_ n1_ n2_ n3_ n4_ n5_ n6_ n7_ n8_ n9_ n10_ n11_ n12_ n13_ n14_ n15_ n16_ n17_ n18_ n19_ n20_ n21_
             clear hb hbox hg
             refine hK.out _ _ ⟨(blk_cell BK241.out 0).trans rfl, (blk_cell BK241.out 1).trans rfl, (blk_cell BK242.out 0).trans rfl, (blk_cell BK242.out 1).trans rfl, (blk_cell BK242.out 2).trans rfl⟩ (fun hHeld => ?_)
             clear hK K
             refine norm_ (a' := ?_) ?_ ?_
             rotate_left
             ·show Act.put _ (some 14) _ = _
              simp only [Act.put, List.setIfInBounds_toArray, List.set_cons_zero, List.set_cons_succ, i64_w, i32_w]
              rfl
             refine one_ (i := 1) (N := some 81) #[true, true, true, false, false, false, false, false, true, false, false] rfl rfl (one_of HT_.out (by kernel_rfl)) (by decide) (fun K hK => ?_)
             refine goes_ Try.func12 (by kernel_rfl) rfl #[.agg #[.int .i64 a0_0, .slice A0_1 l0_1.length c0_1]] (by rfl) rfl rfl (by (try simp only [List.map_toArray, List.map_cons, List.map_nil]); first | done | rfl | (simp only [List.length_drop, List.length_take]; rfl)) ?_
             with_reducible refine (laws_toPuzzle.calls kj76 a0_0 _ _ l0_1 t283 t284 _ ?side1 ?side2 A116.out).mono ?_
             (case side1 => repeat (first | exact (Kd.C_below HR0_1.out HB.out) | (with_reducible refine Kd.C_alloc ?_ _) | (with_reducible refine Kd.C_drewN ?_ _) | (with_reducible refine Kd.C_drew ?_)))
             (case side2 => exact HC0_1.out)
             rintro e w130 ⟨v285, rfl, ho0, hb⟩
             refine ⟨_, rfl, ?_⟩
             have n0_ := am (Kd.R_elder' (roS HO_257001.out) (Kd.R_base ho0) hb)
             have n1_ := am (Kd.R_elder' (roS HO_262001.out) (Kd.R_base ho0) hb)
             have n2_ := am (Kd.R_elder' (roS HO_271001.out) (Kd.R_base ho0) hb)
             have n3_ := am (Kd.R_lower (Kd.R_new' (Kd.R_new' (Kd.R_new' ho0 (Kd.R_lt (roS HO_257001.out))) (Kd.R_lt (roS HO_262001.out))) (Kd.R_lt (roS HO_271001.out))) (below_size (by repeat (first | (with_reducible first | exact HB.out | apply below_alloc | apply pw_below_drewN | apply below_drew1 | refine below_set ?_ (Aside0.out (by assumption))) | exact HB.out))))
             have n4_ := am (blk_below (bkS BK241.out) hb)
             have n5_ := am (blk_below (bkS BK242.out) hb)
             have n6_ := am (blk_below (bkS BK256.out) hb)
             have n7_ := am (blk_below (bkS BK261.out) hb)
             have n8_ := am (blk_below (bkS BK270.out) hb)
             have n9_ := am (blk_below (bkS BK295.out) hb)
             have n10_ := am (below_step (by repeat (first | (with_reducible first | exact HB.out | apply below_alloc | apply pw_below_drewN | apply below_drew1 | refine below_set ?_ (Aside0.out (by assumption))) | exact HB.out)) hb)
             clear HO_257001
             clear HO_262001
             clear HO_271001
             clear BK241
             clear BK242
             clear BK256
             clear BK261
             clear BK270
             clear BK295
             clear HB
             have HO_257001 := n0_
             have HO_262001 := n1_
             have HO_271001 := n2_
             have HO286 := n3_
             have BK241 := n4_
             have BK242 := n5_
             have BK256 := n6_
             have BK261 := n7_
             have BK270 := n8_
             have BK295 := n9_
             have HB := n10_
             clear n0_ n1_ n2_ n3_ n4_ n5_ n6_ n7_ n8_ n9_ n10_
             (try clear hb)
             (try clear hb2)
             (try clear hk)
             (try clear hi)
             (try clear ho0)
             refine hK.out _ _ ⟨(blk_cell BK241.out 0).trans rfl, (blk_cell BK241.out 1).trans rfl, (blk_cell BK242.out 0).trans rfl, (blk_cell BK242.out 1).trans rfl, (blk_cell BK242.out 2).trans rfl⟩ (fun hHeld => ?_)
             clear hK K
             refine norm_ (a' := ?_) ?_ ?_
             rotate_left
             ·show Act.put _ (some 81) _ = _
              simp only [Act.put, List.setIfInBounds_toArray, List.set_cons_zero, List.set_cons_succ, i64_w, i32_w]
              rfl
             refine one_ (i := 3) (N := some 83) #[true, true, true, true, false, false, false, false, true, false, false] rfl rfl (one_of HT_.out (by kernel_rfl)) (by decide) (fun K hK => ?_)
             refine goes_ Try.func8 (by kernel_rfl) rfl #[.agg #[.int .i64 a1_0, .int .i64 a1_1, .int .i64 a1_2]] (by rfl) rfl rfl (by (try simp only [List.map_toArray, List.map_cons, List.map_nil]); first | done | rfl | (simp only [List.length_drop, List.length_take]; rfl)) ?_
             with_reducible refine (laws_toClue.calls a1_0 a1_1 a1_2 t287 t288 t289 _ A117.out).mono ?_
             rintro e w131 ⟨rfl, hb⟩
             refine ⟨_, rfl, ?_⟩
             have n0_ := am (Kd.R_below (roS HO_257001.out) hb)
             have n1_ := am (Kd.R_below (roS HO_262001.out) hb)
             have n2_ := am (Kd.R_below (roS HO_271001.out) hb)
             have n3_ := am (Kd.R_below (roS HO286.out) hb)
             have n4_ := am (blk_below (bkS BK241.out) hb)
             have n5_ := am (blk_below (bkS BK242.out) hb)
             have n6_ := am (blk_below (bkS BK256.out) hb)
             have n7_ := am (blk_below (bkS BK261.out) hb)
             have n8_ := am (blk_below (bkS BK270.out) hb)
             have n9_ := am (blk_below (bkS BK295.out) hb)
             have n10_ := am (below_step (by repeat (first | (with_reducible first | exact HB.out | apply below_alloc | apply pw_below_drewN | apply below_drew1 | refine below_set ?_ (Aside0.out (by assumption))) | exact HB.out)) hb)
             clear HO_257001
             clear HO_262001
             clear HO_271001
             clear HO286
             clear BK241
             clear BK242
             clear BK256
             clear BK261
             clear BK270
             clear BK295
             clear HB
             have HO_257001 := n0_
             have HO_262001 := n1_
             have HO_271001 := n2_
             have HO286 := n3_
             have BK241 := n4_
             have BK242 := n5_
             have BK256 := n6_
             have BK261 := n7_
             have BK270 := n8_
             have BK295 := n9_
             have HB := n10_
             clear n0_ n1_ n2_ n3_ n4_ n5_ n6_ n7_ n8_ n9_ n10_
             (try clear hb)
             (try clear hb2)
             (try clear hk)
             (try clear hi)
             obtain ⟨Ao132, co132, eo132⟩ := Kd.R_slice HO286.out
             (first | subst eo132 | (injection eo132 with f1_ f2_ f3_; have f4_ := f1_.symm; have f5_ := f3_.symm; clear f1_ f2_ f3_; subst f4_; subst f5_))
             refine hK.out _ _ ⟨(blk_cell BK241.out 0).trans rfl, (blk_cell BK241.out 1).trans rfl, (blk_cell BK242.out 0).trans rfl, (blk_cell BK242.out 1).trans rfl, (blk_cell BK242.out 2).trans rfl⟩ (fun hHeld => ?_)
             clear hK K
             refine norm_ (a' := ?_) ?_ ?_
             rotate_left
             ·show Act.put _ (some 83) _ = _
              simp only [Act.put, List.setIfInBounds_toArray, List.set_cons_zero, List.set_cons_succ, i64_w, i32_w]
              rfl
             refine one_ (i := 4) (N := some 84) #[true, true, true, true, true, false, false, false, true, false, false] rfl rfl (one_of HT_.out (by kernel_rfl)) (by decide) (fun K hK => ?_)
             refine goes_ Try.func16 (by kernel_rfl) rfl #[.agg #[.int .i64 t283, .slice Ao132 t284.length co132], .agg #[.int .i64 t287, .int .i64 t288, .int .i64 t289]] (by rfl) rfl rfl (by (try simp only [List.map_toArray, List.map_cons, List.map_nil]); first | done | rfl | (simp only [List.length_drop, List.length_take]; rfl)) ?_
             with_reducible refine (impl_AddClue.calls kj76 t283 _ _ t284 t287 t288 t289 t290 t291 t294 _ ?side1 ?side2 A118.out).mono ?_
             (case side1 => repeat (first | exact (Kd.R_reads' HO286.out).2.2 | (with_reducible refine Kd.C_alloc ?_ _) | (with_reducible refine Kd.C_drewN ?_ _) | (with_reducible refine Kd.C_drew ?_)))
             (case side2 => exact (Kd.R_reads' HO286.out).2.1)
             rintro e w133 ⟨v292, rfl, ho0, hb⟩
             refine ⟨_, rfl, ?_⟩
             have n0_ := am (Kd.R_elder' (roS HO_257001.out) (Kd.R_base ho0) hb)
             have n1_ := am (Kd.R_elder' (roS HO_262001.out) (Kd.R_base ho0) hb)
             have n2_ := am (Kd.R_elder' (roS HO_271001.out) (Kd.R_base ho0) hb)
             have n3_ := am (Kd.R_elder' (roS HO286.out) (Kd.R_base ho0) hb)
             have n4_ := am (Kd.R_lower (Kd.R_new' (Kd.R_new' (Kd.R_new' (Kd.R_new' ho0 (Kd.R_lt (roS HO_257001.out))) (Kd.R_lt (roS HO_262001.out))) (Kd.R_lt (roS HO_271001.out))) (Kd.R_lt (roS HO286.out))) (below_size (by repeat (first | (with_reducible first | exact HB.out | apply below_alloc | apply pw_below_drewN | apply below_drew1 | refine below_set ?_ (Aside0.out (by assumption))) | exact HB.out))))
             have n5_ := am (blk_below (bkS BK241.out) hb)
             have n6_ := am (blk_below (bkS BK242.out) hb)
             have n7_ := am (blk_below (bkS BK256.out) hb)
             have n8_ := am (blk_below (bkS BK261.out) hb)
             have n9_ := am (blk_below (bkS BK270.out) hb)
             have n10_ := am (blk_below (bkS BK295.out) hb)
             have n11_ := am (below_step (by repeat (first | (with_reducible first | exact HB.out | apply below_alloc | apply pw_below_drewN | apply below_drew1 | refine below_set ?_ (Aside0.out (by assumption))) | exact HB.out)) hb)
             clear HO_257001
             clear HO_262001
             clear HO_271001
             clear HO286
             clear BK241
             clear BK242
             clear BK256
             clear BK261
             clear BK270
             clear BK295
             clear HB
             have HO_257001 := n0_
             have HO_262001 := n1_
             have HO_271001 := n2_
             have HO286 := n3_
             have HO293 := n4_
             have BK241 := n5_
             have BK242 := n6_
             have BK256 := n7_
             have BK261 := n8_
             have BK270 := n9_
             have BK295 := n10_
             have HB := n11_
             clear n0_ n1_ n2_ n3_ n4_ n5_ n6_ n7_ n8_ n9_ n10_ n11_
             (try clear hb)
             (try clear hb2)
             (try clear hk)
             (try clear hi)
             (try clear ho0)
             refine hK.out _ _ ⟨(blk_cell BK241.out 0).trans rfl, (blk_cell BK241.out 1).trans rfl, (blk_cell BK242.out 0).trans rfl, (blk_cell BK242.out 1).trans rfl, (blk_cell BK242.out 2).trans rfl⟩ (fun hHeld => ?_)
             clear hK K
             refine norm_ (a' := ?_) ?_ ?_
             rotate_left
             ·show Act.put _ (some 84) _ = _
              simp only [Act.put, List.setIfInBounds_toArray, List.set_cons_zero, List.set_cons_succ, i64_w, i32_w]
              rfl
             refine pure_ (i := 5) (N := some 79) (v := ?_) (a' := ?_) #[true, true, true, true, true, true, false, false, true, false, false] rfl rfl (any_of HT_.out (by kernel_rfl)) (fun _ _ _ h => h) (Or.inl ⟨by rfl, ?_⟩) ?_ ?_
             rotate_left
             ·intro w'
              go_simp
              with_reducible rfl
             rotate_left
             ·simp only [Act.put, List.setIfInBounds_toArray, List.set_cons_zero, List.set_cons_succ, i64_w, i32_w]
              rfl
             refine pure_ (i := 6) (N := some 85) (v := ?_) (a' := ?_) #[true, true, true, true, true, true, true, false, true, false, false] rfl rfl (any_of HT_.out (by kernel_rfl)) (fun _ _ _ h => h) (Or.inl ⟨by rfl, ?_⟩) ?_ ?_
             rotate_left
             ·intro w'
              go_simp
              with_reducible rfl
             rotate_left
             ·simp only [Act.put, List.setIfInBounds_toArray, List.set_cons_zero, List.set_cons_succ, i64_w, i32_w]
              rfl
             refine pure_ (i := 7) (N := some 86) (v := ?_) (a' := ?_) #[true, true, true, true, true, true, true, true, true, false, false] rfl rfl (any_of HT_.out (by kernel_rfl)) (fun _ _ _ h => h) (Or.inl ⟨by rfl, ?_⟩) ?_ ?_
             rotate_left
             ·intro w'
              go_simp
              with_reducible rfl
             rotate_left
             ·simp only [Act.put, List.setIfInBounds_toArray, List.set_cons_zero, List.set_cons_succ, i64_w, i32_w]
              rfl
             exact norm_ (by simp only [putAll, Act.put, List.setIfInBounds_toArray, List.set_cons_zero, List.set_cons_succ]) (hCont (.slice Ao132 t284.length co132, v292, gb295) _ ⟨hHeld, (by (with_reducible repeat (first | apply Kd.R_alloc | apply Kd.R_drewN | apply Kd.R_drew)); exact Kd.R_mono HO286.out (fun _ hk => ⟨hk.2, ⟨hk.1.1.1.2, ⟨hk.1.1.2, hk.1.2⟩⟩⟩)), (by (with_reducible repeat (first | apply Kd.R_alloc | apply Kd.R_drewN | apply Kd.R_drew)); exact Kd.R_mono HO293.out (fun _ hk => ⟨hk.2, ⟨hk.1.1.1.2, ⟨hk.1.1.2, hk.1.2⟩⟩⟩)), (by (with_reducible repeat (first | apply Kd.R_alloc | apply Kd.R_drewN | apply Kd.R_drew)); exact Kd.R_mono HO_257001.out (fun _ hk => ⟨hk.1.2, ⟨hk.2, ⟨hk.1.1.1, hk.1.1.2⟩⟩⟩)), (by (with_reducible repeat (first | apply Kd.R_alloc | apply Kd.R_drewN | apply Kd.R_drew)); exact Kd.R_mono HO_262001.out (fun _ hk => ⟨hk.1.2, ⟨hk.2, ⟨hk.1.1.1, hk.1.1.2⟩⟩⟩)), (by (with_reducible repeat (first | apply Kd.R_alloc | apply Kd.R_drewN | apply Kd.R_drew)); exact Kd.R_mono HO_271001.out (fun _ hk => ⟨hk.1.2, ⟨hk.2, ⟨hk.1.1.1, hk.1.1.2⟩⟩⟩)), (bkS BK241.out), (bkS BK242.out), (bkS BK256.out), (bkS BK261.out), (bkS BK270.out), (bkS BK295.out), GW295.out, GE295.out, NB241_295.out, NB295_241.out, NB242_295.out, NB295_242.out, NB256_295.out, NB295_256.out, NB261_295.out, NB295_261.out, NB270_295.out, NB295_270.out, (by repeat (first | (with_reducible first | exact HB.out | apply below_alloc | apply pw_below_drewN | apply below_drew1 | refine below_set ?_ (Aside0.out (by assumption))) | exact HB.out))⟩)
           rintro ⟨v285, v292, gb295⟩ w134 ⟨hS_, h0_, h1_, h2_, h3_, h4_, h5_, h6_, h7_, h8_, h9_, h10_, h11_, h12_, h13_, h14_, h15_, h16_, h17_, h18_, h19_, h20_, h21_, h22_, h23_⟩
           have n0_ : Aside0 (Kd.R k25 25 w134 w.heap.size (fun k_ => some k_ ≠ (v292 : Value).ownBlock ∧ some k_ ≠ (.slice Ao30 t252.length co30 : Value).ownBlock ∧ some k_ ≠ (.slice Ao40 t278.length co40 : Value).ownBlock ∧ some k_ ≠ (.slice Ao48 t266.length co48 : Value).ownBlock) v285 t284) := ⟨h0_⟩
           have n1_ : Aside0 (Kd.R k25 25 w134 w.heap.size (fun k_ => some k_ ≠ (v285 : Value).ownBlock ∧ some k_ ≠ (.slice Ao30 t252.length co30 : Value).ownBlock ∧ some k_ ≠ (.slice Ao40 t278.length co40 : Value).ownBlock ∧ some k_ ≠ (.slice Ao48 t266.length co48 : Value).ownBlock) v292 t291) := ⟨h1_⟩
           have n2_ : Aside0 (Kd.R k25 25 w134 w.heap.size (fun k_ => some k_ ≠ (v285 : Value).ownBlock ∧ some k_ ≠ (v292 : Value).ownBlock ∧ some k_ ≠ (.slice Ao40 t278.length co40 : Value).ownBlock ∧ some k_ ≠ (.slice Ao48 t266.length co48 : Value).ownBlock) (.slice Ao30 t252.length co30) t252) := ⟨h2_⟩
           have n3_ : Aside0 (Kd.R k25 25 w134 w.heap.size (fun k_ => some k_ ≠ (v285 : Value).ownBlock ∧ some k_ ≠ (v292 : Value).ownBlock ∧ some k_ ≠ (.slice Ao30 t252.length co30 : Value).ownBlock ∧ some k_ ≠ (.slice Ao48 t266.length co48 : Value).ownBlock) (.slice Ao40 t278.length co40) t278) := ⟨h3_⟩
           have n4_ : Aside0 (Kd.R k25 25 w134 w.heap.size (fun k_ => some k_ ≠ (v285 : Value).ownBlock ∧ some k_ ≠ (v292 : Value).ownBlock ∧ some k_ ≠ (.slice Ao30 t252.length co30 : Value).ownBlock ∧ some k_ ≠ (.slice Ao40 t278.length co40 : Value).ownBlock) (.slice Ao48 t266.length co48) t281) := ⟨h4_⟩
           have n5_ : Aside0 (w134.heap[gb241]? = some (.cells #[.int .i64 a0_0, .slice A0_1 l0_1.length c0_1] 30 (0, 0))) := ⟨h5_⟩
           have n6_ : Aside0 (w134.heap[gb242]? = some (.cells #[.int .i64 a1_0, .int .i64 a1_1, .int .i64 a1_2] 23 (0, 0))) := ⟨h6_⟩
           have n7_ : Aside0 (w134.heap[gb256]? = some (.cells #[.int .i64 t251, .slice Ao30 t252.length co30] 35 (0, 0))) := ⟨h7_⟩
           have n8_ : Aside0 (w134.heap[gb261]? = some (.cells #[.int .i64 t257, .slice Ao40 t278.length co40] 35 (0, 0))) := ⟨h8_⟩
           have n9_ : Aside0 (w134.heap[gb270]? = some (.cells #[.int .i64 t265, .slice Ao48 t266.length co48] 35 (0, 0))) := ⟨h9_⟩
           have n10_ : Aside0 (w134.heap[gb295]? = some (.cells #[.int .i64 0, .slice none 0 0] 35 (0, 0))) := ⟨h10_⟩
           have n11_ : Aside0 (w.heap.size ≤ gb295) := ⟨h11_⟩
           have n12_ : Aside0 (w.heap.size ≤ gb295) := ⟨h12_⟩
           have n13_ : Aside0 (gb241 ≠ gb295) := ⟨h13_⟩
           have n14_ : Aside0 (gb295 ≠ gb241) := ⟨h14_⟩
           have n15_ : Aside0 (gb242 ≠ gb295) := ⟨h15_⟩
           have n16_ : Aside0 (gb295 ≠ gb242) := ⟨h16_⟩
           have n17_ : Aside0 (gb256 ≠ gb295) := ⟨h17_⟩
           have n18_ : Aside0 (gb295 ≠ gb256) := ⟨h18_⟩
           have n19_ : Aside0 (gb261 ≠ gb295) := ⟨h19_⟩
           have n20_ : Aside0 (gb295 ≠ gb261) := ⟨h20_⟩
           have n21_ : Aside0 (gb270 ≠ gb295) := ⟨h21_⟩
           have n22_ : Aside0 (gb295 ≠ gb270) := ⟨h22_⟩
           have n23_ : Aside0 (Below w.heap.size w w134) := ⟨h23_⟩
           clear HO_257001
           clear HO_262001
           clear HO_271001
           clear BK241
           clear BK242
           clear BK256
           clear BK261
           clear BK270
           clear HB
           clear h0_ h1_ h2_ h3_ h4_ h5_ h6_ h7_ h8_ h9_ h10_ h11_ h12_ h13_ h14_ h15_ h16_ h17_ h18_ h19_ h20_ h21_ h22_ h23_
           have HO286 := n0_
           have HO293 := n1_
           have HO_257001 := n2_
           have HO_262001 := n3_
           have HO_271001 := n4_
           have BK241 := n5_
           have BK242 := n6_
           have BK256 := n7_
           have BK261 := n8_
           have BK270 := n9_
           have BK295 := n10_
           have GW295 := n11_
           have GE295 := n12_
           have NB241_295 := n13_
           have NB295_241 := n14_
           have NB242_295 := n15_
           have NB295_242 := n16_
           have NB256_295 := n17_
           have NB295_256 := n18_
           have NB261_295 := n19_
           have NB295_261 := n20_
           have NB270_295 := n21_
           have NB295_270 := n22_
           have HB := n23_
           clear n0_ n1_ n2_ n3_ n4_ n5_ n6_ n7_ n8_ n9_ n10_ n11_ n12_ n13_ n14_ n15_ n16_ n17_ n18_ n19_ n20_ n21_ n22_ n23_
           have hHeld : w134.cell? ⟨gb241, 0, none⟩ = some (.int .i64 a0_0) ∧ w134.cell? ⟨gb241, 1, none⟩ = some (.slice A0_1 l0_1.length c0_1) ∧ w134.cell? ⟨gb242, 0, none⟩ = some (.int .i64 a1_0) ∧ w134.cell? ⟨gb242, 1, none⟩ = some (.int .i64 a1_1) ∧ w134.cell? ⟨gb242, 2, none⟩ = some (.int .i64 a1_2) := hS_
           obtain ⟨Ao136, co136, eo136⟩ := Kd.R_slice HO293.out
           (first | subst eo136 | (injection eo136 with f1_ f2_ f3_; have f4_ := f1_.symm; have f5_ := f3_.symm; clear f1_ f2_ f3_; subst f4_; subst f5_))
           refine norm_ (a' := ?_) ?_ ?_
           rotate_left
           ·simp only [putAll, Act.put, List.setIfInBounds_toArray, List.set_cons_zero, List.set_cons_succ]
            rfl
           refine one_ (i := 9) (N := none) #[true, true, true, true, true, true, true, true, true, true, false] rfl rfl (one_of HT_.out (by kernel_rfl)) (by decide) (fun K hK => ?_)
           have hs135 : w134.cell? ⟨gb295, 0, none⟩ = some (.int .i64 0) := (blk_cell BK295.out 0).trans rfl
           have hfs135 := blk_frozen BK295.out 0
           have hns135_0 := NB241_295.out
           have hns135_1 := NB242_295.out
           have hns135_2 := NB256_295.out
           have hns135_3 := NB261_295.out
           have hns135_4 := NB270_295.out
           have hms135_0 := NB295_241.out
           have hms135_1 := NB295_242.out
           have hms135_2 := NB295_256.out
           have hms135_3 := NB295_261.out
           have hms135_4 := NB295_270.out
           have hs137 : w134.cell? ⟨gb295, 1, none⟩ = some (.slice none 0 0) := (blk_cell BK295.out 1).trans rfl
           have hfs137 := blk_frozen BK295.out 1
           have hns137_0 := NB241_295.out
           have hns137_1 := NB242_295.out
           have hns137_2 := NB256_295.out
           have hns137_3 := NB261_295.out
           have hns137_4 := NB270_295.out
           have hms137_0 := NB295_241.out
           have hms137_1 := NB295_242.out
           have hms137_2 := NB295_256.out
           have hms137_3 := NB295_261.out
           have hms137_4 := NB295_270.out
           refine skip_ (w1 := ?_) (by rfl) rfl ?_ ?_
           rotate_left
           ·go_simp
            rfl
           refine hK.out _ _ ⟨((cell_far (p := ⟨gb295, _, none⟩) NB241_295.out _).trans (((cell_far (p := ⟨gb295, _, none⟩) NB241_295.out _).trans (hHeld.1)))), ((cell_far (p := ⟨gb295, _, none⟩) NB241_295.out _).trans (((cell_far (p := ⟨gb295, _, none⟩) NB241_295.out _).trans (hHeld.2.1)))), ((cell_far (p := ⟨gb295, _, none⟩) NB242_295.out _).trans (((cell_far (p := ⟨gb295, _, none⟩) NB242_295.out _).trans (hHeld.2.2.1)))), ((cell_far (p := ⟨gb295, _, none⟩) NB242_295.out _).trans (((cell_far (p := ⟨gb295, _, none⟩) NB242_295.out _).trans (hHeld.2.2.2.1)))), ((cell_far (p := ⟨gb295, _, none⟩) NB242_295.out _).trans (((cell_far (p := ⟨gb295, _, none⟩) NB242_295.out _).trans (hHeld.2.2.2.2))))⟩ (fun hHeld => ?_)
           clear hK K
           refine pure_ (i := 10) (N := some 15) (v := ?_) (a' := ?_) #[true, true, true, true, true, true, true, true, true, true, true] rfl rfl (any_of HT_.out (by kernel_rfl)) (fun _ _ _ h => h) (Or.inl ⟨by rfl, ?_⟩) ?_ ?_
           rotate_left
           ·intro w'
            go_simp
            with_reducible rfl
           rotate_left
           ·simp only [Act.put, List.setIfInBounds_toArray, List.set_cons_zero, List.set_cons_succ, i64_w, i32_w]
            rfl
           refine done_ (done_of HT_.out (by kernel_rfl)) ?_
           go_upto_region 25 with (fail)
           go_cut [95] (fun v95 wc => ∃ (kq : Nat) (x95_118 : Bool), v95 = .bool x95_118 ∧ Aside0 (laws_FnExactAddClue.j2 kq t280 x95_118 t265 t281 = some r) ∧ Aside0 (kq ≤ kj76) ∧ Aside0 (Kd.R k25 25 wc w.heap.size (fun k_ => some k_ ≠ ((.slice Ao40 t278.length co40) : Value).ownBlock ∧ some k_ ≠ ((.slice Ao48 t266.length co48) : Value).ownBlock ∧ some k_ ≠ ((.slice Ao136 t291.length co136) : Value).ownBlock) (.slice Ao30 t252.length co30) t252) ∧ Aside0 (Kd.R k25 25 wc w.heap.size (fun k_ => some k_ ≠ ((.slice Ao30 t252.length co30) : Value).ownBlock ∧ some k_ ≠ ((.slice Ao48 t266.length co48) : Value).ownBlock ∧ some k_ ≠ ((.slice Ao136 t291.length co136) : Value).ownBlock) (.slice Ao40 t278.length co40) t278) ∧ Aside0 (Kd.R k25 25 wc w.heap.size (fun k_ => some k_ ≠ ((.slice Ao30 t252.length co30) : Value).ownBlock ∧ some k_ ≠ ((.slice Ao40 t278.length co40) : Value).ownBlock ∧ some k_ ≠ ((.slice Ao136 t291.length co136) : Value).ownBlock) (.slice Ao48 t266.length co48) t281) ∧ Aside0 (Kd.R k25 25 wc w.heap.size (fun k_ => some k_ ≠ ((.slice Ao30 t252.length co30) : Value).ownBlock ∧ some k_ ≠ ((.slice Ao40 t278.length co40) : Value).ownBlock ∧ some k_ ≠ ((.slice Ao48 t266.length co48) : Value).ownBlock) (.slice Ao136 t291.length co136) t291) ∧ Aside0 (wc.heap[gb241]? = some (.cells #[.int .i64 a0_0, (.slice A0_1 l0_1.length c0_1)] 30 (0, 0))) ∧ Aside0 (wc.heap[gb242]? = some (.cells #[.int .i64 a1_0, .int .i64 a1_1, .int .i64 a1_2] 23 (0, 0))) ∧ Aside0 (wc.heap[gb256]? = some (.cells #[.int .i64 t251, (.slice Ao30 t252.length co30)] 35 (0, 0))) ∧ Aside0 (wc.heap[gb261]? = some (.cells #[.int .i64 t257, (.slice Ao40 t278.length co40)] 35 (0, 0))) ∧ Aside0 (wc.heap[gb270]? = some (.cells #[.int .i64 t265, (.slice Ao48 t266.length co48)] 35 (0, 0))) ∧ Aside0 (wc.heap[gb295]? = some (.cells #[.int .i64 t290, (.slice Ao136 t291.length co136)] 35 (0, 0))) ∧ Aside0 (Below w.heap.size w wc))
           case first =>
            have H := HC119.out
            clear HC119
            replace H := Option.bind_eq_some_iff.mp H
            obtain ⟨t296, A1380, H⟩ := H
            replace H : (if t296 = true then (laws_FnExactAddClue.j2 kj76 t280 (t294 != t255) t265 t281) else (laws_FnExactAddClue.j2 kj76 t280 true t265 t281)) = some r := H
            have A138 := am A1380
            clear A1380
            by_cases c139 : t296 = true
            ·subst c139
             have H1 : (laws_FnExactAddClue.j2 kj76 t280 (t294 != t255) t265 t281) = some r := by rw [if_pos rfl] at H; exact H
             clear H
             have H := H1
             clear H1
             have H' := am H
             clear H
             have hnb140 := NB295_241.out
             have hnc140 := NB241_295.out
             have hnb141 := NB295_242.out
             have hnc141 := NB242_295.out
             have hnb142 := NB295_256.out
             have hnc142 := NB256_295.out
             have hnb143 := NB295_261.out
             have hnc143 := NB261_295.out
             have hnb144 := NB295_270.out
             have hnc144 := NB270_295.out
             have hcz145_0 : w134.cell? ⟨gb295, 0, none⟩ = some (.int .i64 0) := (blk_cell BK295.out 0).trans rfl
             have hcz145_1 : w134.cell? ⟨gb295, 1, none⟩ = some (.slice none 0 0) := (blk_cell BK295.out 1).trans rfl
             have hfz145_0 := blk_frozen BK295.out 0
             have hfz145_1 := blk_frozen BK295.out 1
             have hnb146 := NB256_241.out
             have hnc146 := NB241_256.out
             have hnb147 := NB256_242.out
             have hnc147 := NB242_256.out
             have hnb148 := NB256_261.out
             have hnc148 := NB261_256.out
             have hnb149 := NB256_270.out
             have hnc149 := NB270_256.out
             have hcz150_0 : w134.cell? ⟨gb256, 0, none⟩ = some (.int .i64 t251) := (blk_cell BK256.out 0).trans rfl
             have hcz150_1 : w134.cell? ⟨gb256, 1, none⟩ = some (.slice Ao30 t252.length co30) := (blk_cell BK256.out 1).trans rfl
             have hfz150_0 := blk_frozen BK256.out 0
             have hfz150_1 := blk_frozen BK256.out 1
             go_wp2_with (first | ((with_reducible refine gate_callee (f := 14) rfl ?_); refine goesL_ (some 89) rfl rfl Try.func14 (by kernel_rfl) rfl #[.agg #[.int .i64 t290, .slice Ao136 t291.length co136], .agg #[.int .i64 t251, .slice Ao30 t252.length co30]] rfl (by (try simp only [List.map_toArray, List.map_cons, List.map_nil]); first | done | rfl | (simp only [List.length_drop, List.length_take]; rfl)) ?_; (with_reducible refine (laws_eqPuzzle.calls kj76 t290 _ _ t291 t251 _ _ t252 true _ ?side1 ?side2 ?side3 ?side4 A138.out).mono ?_); (case side1 => refine (Kd.R_reads' (e := 25) (base := w.heap.size) (ok := fun k_ => (some k_ ≠ (v285 : Value).ownBlock ∧ (some k_ ≠ (.slice Ao30 t252.length co30 : Value).ownBlock ∧ (some k_ ≠ (.slice Ao40 t278.length co40 : Value).ownBlock ∧ some k_ ≠ (.slice Ao48 t266.length co48 : Value).ownBlock)))) (n := t291.length) (c := co136) ?_).2.2; exact (by (with_reducible repeat (first | apply Kd.R_alloc | apply Kd.R_drewN | apply Kd.R_drew)); exact (Kd.R_mono (Kd.R_far (p := ⟨gb295, 1, none⟩) (Kd.R_far (p := ⟨gb295, 0, none⟩) (Kd.R_types HO293.out BK295.out (by decide)) (fun _ hk => hk.2) (.int .i64 t290)) (fun _ hk => hk.2) (.slice Ao136 t291.length co136)) (fun _ h_ => h_.1)))); (case side2 => exact (Kd.R_reads' HO293.out).2.1); (case side3 => refine (Kd.R_reads' (e := 25) (base := w.heap.size) (ok := fun k_ => (some k_ ≠ (v285 : Value).ownBlock ∧ (some k_ ≠ (.slice Ao136 t291.length co136 : Value).ownBlock ∧ (some k_ ≠ (.slice Ao40 t278.length co40 : Value).ownBlock ∧ some k_ ≠ (.slice Ao48 t266.length co48 : Value).ownBlock)))) (n := t252.length) (c := co30) ?_).2.2; exact (by (with_reducible repeat (first | apply Kd.R_alloc | apply Kd.R_drewN | apply Kd.R_drew)); exact (Kd.R_mono (Kd.R_far (p := ⟨gb295, 1, none⟩) (Kd.R_far (p := ⟨gb295, 0, none⟩) (Kd.R_types HO_257001.out BK295.out (by decide)) (fun _ hk => hk.2) (.int .i64 t290)) (fun _ hk => hk.2) (.slice Ao136 t291.length co136)) (fun _ h_ => h_.1)))); (case side4 => exact (Kd.R_reads' HO_257001.out).2.1); rintro e w151 ⟨rfl, hb⟩; refine ⟨_, rfl, ?_⟩; have n0_ := am (Kd.R_below (by (with_reducible repeat (first | apply Kd.R_alloc | apply Kd.R_drewN | apply Kd.R_drew)); exact (Kd.R_mono (Kd.R_far (p := ⟨gb295, 1, none⟩) (Kd.R_far (p := ⟨gb295, 0, none⟩) (Kd.R_types HO_257001.out BK295.out (by decide)) (fun _ hk => hk.2) (.int .i64 t290)) (fun _ hk => hk.2) (.slice Ao136 t291.length co136)) (fun _ h_ => h_.1))) hb); have n1_ := am (Kd.R_below (by (with_reducible repeat (first | apply Kd.R_alloc | apply Kd.R_drewN | apply Kd.R_drew)); exact (Kd.R_mono (Kd.R_far (p := ⟨gb295, 1, none⟩) (Kd.R_far (p := ⟨gb295, 0, none⟩) (Kd.R_types HO_262001.out BK295.out (by decide)) (fun _ hk => hk.2) (.int .i64 t290)) (fun _ hk => hk.2) (.slice Ao136 t291.length co136)) (fun _ h_ => h_.1))) hb); have n2_ := am (Kd.R_below (by (with_reducible repeat (first | apply Kd.R_alloc | apply Kd.R_drewN | apply Kd.R_drew)); exact (Kd.R_mono (Kd.R_far (p := ⟨gb295, 1, none⟩) (Kd.R_far (p := ⟨gb295, 0, none⟩) (Kd.R_types HO_271001.out BK295.out (by decide)) (fun _ hk => hk.2) (.int .i64 t290)) (fun _ hk => hk.2) (.slice Ao136 t291.length co136)) (fun _ h_ => h_.1))) hb); have n3_ := am (Kd.R_below (by (with_reducible repeat (first | apply Kd.R_alloc | apply Kd.R_drewN | apply Kd.R_drew)); exact (Kd.R_mono (Kd.R_far (p := ⟨gb295, 1, none⟩) (Kd.R_far (p := ⟨gb295, 0, none⟩) (Kd.R_types HO286.out BK295.out (by decide)) (fun _ hk => hk.2) (.int .i64 t290)) (fun _ hk => hk.2) (.slice Ao136 t291.length co136)) (fun _ h_ => h_.1))) hb); have n4_ := am (Kd.R_below (by (with_reducible repeat (first | apply Kd.R_alloc | apply Kd.R_drewN | apply Kd.R_drew)); exact (Kd.R_mono (Kd.R_far (p := ⟨gb295, 1, none⟩) (Kd.R_far (p := ⟨gb295, 0, none⟩) (Kd.R_types HO293.out BK295.out (by decide)) (fun _ hk => hk.2) (.int .i64 t290)) (fun _ hk => hk.2) (.slice Ao136 t291.length co136)) (fun _ h_ => h_.1))) hb); have n5_ := am (blk_below (g := gb241) (o := .cells #[.int .i64 a0_0, .slice A0_1 l0_1.length c0_1] 30 (0, 0)) (by (with_reducible repeat (first | refine blk_drewN ?_ _ | refine blk_drew ?_ | refine blk_alloc ?_ _)); refine blk_far ?_ NB241_295.out _; (with_reducible repeat (first | refine blk_drewN ?_ _ | refine blk_drew ?_ | refine blk_alloc ?_ _)); refine blk_far ?_ NB241_295.out _; (with_reducible repeat (first | refine blk_drewN ?_ _ | refine blk_drew ?_ | refine blk_alloc ?_ _)); exact BK241.out) hb); have n6_ := am (blk_below (g := gb242) (o := .cells #[.int .i64 a1_0, .int .i64 a1_1, .int .i64 a1_2] 23 (0, 0)) (by (with_reducible repeat (first | refine blk_drewN ?_ _ | refine blk_drew ?_ | refine blk_alloc ?_ _)); refine blk_far ?_ NB242_295.out _; (with_reducible repeat (first | refine blk_drewN ?_ _ | refine blk_drew ?_ | refine blk_alloc ?_ _)); refine blk_far ?_ NB242_295.out _; (with_reducible repeat (first | refine blk_drewN ?_ _ | refine blk_drew ?_ | refine blk_alloc ?_ _)); exact BK242.out) hb); have n7_ := am (blk_below (g := gb256) (o := .cells #[.int .i64 t251, .slice Ao30 t252.length co30] 35 (0, 0)) (by (with_reducible repeat (first | refine blk_drewN ?_ _ | refine blk_drew ?_ | refine blk_alloc ?_ _)); refine blk_far ?_ NB256_295.out _; (with_reducible repeat (first | refine blk_drewN ?_ _ | refine blk_drew ?_ | refine blk_alloc ?_ _)); refine blk_far ?_ NB256_295.out _; (with_reducible repeat (first | refine blk_drewN ?_ _ | refine blk_drew ?_ | refine blk_alloc ?_ _)); exact BK256.out) hb); have n8_ := am (blk_below (g := gb261) (o := .cells #[.int .i64 t257, .slice Ao40 t278.length co40] 35 (0, 0)) (by (with_reducible repeat (first | refine blk_drewN ?_ _ | refine blk_drew ?_ | refine blk_alloc ?_ _)); refine blk_far ?_ NB261_295.out _; (with_reducible repeat (first | refine blk_drewN ?_ _ | refine blk_drew ?_ | refine blk_alloc ?_ _)); refine blk_far ?_ NB261_295.out _; (with_reducible repeat (first | refine blk_drewN ?_ _ | refine blk_drew ?_ | refine blk_alloc ?_ _)); exact BK261.out) hb); have n9_ := am (blk_below (g := gb270) (o := .cells #[.int .i64 t265, .slice Ao48 t266.length co48] 35 (0, 0)) (by (with_reducible repeat (first | refine blk_drewN ?_ _ | refine blk_drew ?_ | refine blk_alloc ?_ _)); refine blk_far ?_ NB270_295.out _; (with_reducible repeat (first | refine blk_drewN ?_ _ | refine blk_drew ?_ | refine blk_alloc ?_ _)); refine blk_far ?_ NB270_295.out _; (with_reducible repeat (first | refine blk_drewN ?_ _ | refine blk_drew ?_ | refine blk_alloc ?_ _)); exact BK270.out) hb); have n10_ := am (blk_below (g := gb295) (o := .cells #[.int .i64 t290, .slice Ao136 t291.length co136] 35 (0, 0)) (by (with_reducible repeat (first | refine blk_drewN ?_ _ | refine blk_drew ?_ | refine blk_alloc ?_ _)); refine blk_put (cs := #[.int .i64 t290, .slice none 0 0]) ?_ 1 _ rfl; (with_reducible repeat (first | refine blk_drewN ?_ _ | refine blk_drew ?_ | refine blk_alloc ?_ _)); refine blk_put (cs := #[.int .i64 0, .slice none 0 0]) ?_ 0 _ rfl; (with_reducible repeat (first | refine blk_drewN ?_ _ | refine blk_drew ?_ | refine blk_alloc ?_ _)); exact BK295.out) hb); have n11_ := am (below_step (by repeat (first | (with_reducible first | exact HB.out | apply below_alloc | apply pw_below_drewN | apply below_drew1 | refine below_set ?_ (Aside0.out (by assumption))) | exact HB.out)) hb); clear HO_257001; clear HO_262001; clear HO_271001; clear HO286; clear HO293; clear BK241; clear BK242; clear BK256; clear BK261; clear BK270; clear BK295; clear HB; have HO_257001 := n0_; have HO_262001 := n1_; have HO_271001 := n2_; have HO286 := n3_; have HO293 := n4_; have BK241 := n5_; have BK242 := n6_; have BK256 := n7_; have BK261 := n8_; have BK270 := n9_; have BK295 := n10_; have HB := n11_; clear n0_ n1_ n2_ n3_ n4_ n5_ n6_ n7_ n8_ n9_ n10_ n11_; (try clear hb); (try clear hb2); (try clear hk); (try clear hi)))
             go_meet
             case rel => exact ⟨_, ((t294 != t255)), (by first | rfl | (simp; done) | (simp [*]; done)), H', ⟨by have := HJ15.out; have := HJ76.out; first | omega | exact Nat.le_refl _⟩, ⟨by (try simp only [hl262001_76]); (with_reducible repeat (first | apply Kd.R_alloc | apply Kd.R_drewN | apply Kd.R_drew)); exact Kd.R_mono HO_257001.out (fun _ hk => ⟨hk.2.2.1, ⟨hk.2.2.2, hk.2.1⟩⟩)⟩, ⟨by (try simp only [hl262001_76]); (with_reducible repeat (first | apply Kd.R_alloc | apply Kd.R_drewN | apply Kd.R_drew)); exact Kd.R_mono HO_262001.out (fun _ hk => ⟨hk.2.2.1, ⟨hk.2.2.2, hk.2.1⟩⟩)⟩, ⟨by (try simp only [hl262001_76]); (with_reducible repeat (first | apply Kd.R_alloc | apply Kd.R_drewN | apply Kd.R_drew)); exact Kd.R_mono HO_271001.out (fun _ hk => ⟨hk.2.2.1, ⟨hk.2.2.2, hk.2.1⟩⟩)⟩, ⟨by (try simp only [hl262001_76]); (with_reducible repeat (first | apply Kd.R_alloc | apply Kd.R_drewN | apply Kd.R_drew)); exact Kd.R_mono HO293.out (fun _ hk => ⟨hk.2.1, ⟨hk.2.2.1, hk.2.2.2⟩⟩)⟩, ⟨by (try simp only [hl262001_76]); (with_reducible repeat (first | refine blk_drewN ?_ _ | refine blk_drew ?_ | refine blk_alloc ?_ _)); exact BK241.out⟩, ⟨by (try simp only [hl262001_76]); (with_reducible repeat (first | refine blk_drewN ?_ _ | refine blk_drew ?_ | refine blk_alloc ?_ _)); exact BK242.out⟩, ⟨by (try simp only [hl262001_76]); (with_reducible repeat (first | refine blk_drewN ?_ _ | refine blk_drew ?_ | refine blk_alloc ?_ _)); exact BK256.out⟩, ⟨by (try simp only [hl262001_76]); (with_reducible repeat (first | refine blk_drewN ?_ _ | refine blk_drew ?_ | refine blk_alloc ?_ _)); exact BK261.out⟩, ⟨by (try simp only [hl262001_76]); (with_reducible repeat (first | refine blk_drewN ?_ _ | refine blk_drew ?_ | refine blk_alloc ?_ _)); exact BK270.out⟩, ⟨by (try simp only [hl262001_76]); (with_reducible repeat (first | refine blk_drewN ?_ _ | refine blk_drew ?_ | refine blk_alloc ?_ _)); exact BK295.out⟩, ⟨by repeat (first | (with_reducible first | exact HB.out | apply below_alloc | apply pw_below_drewN | apply below_drew1 | refine below_set ?_ (Aside0.out (by assumption))) | exact HB.out)⟩⟩
            ·replace c139 := Bool.eq_false_iff.mpr c139
             subst c139
             have H1 : (laws_FnExactAddClue.j2 kj76 t280 true t265 t281) = some r := by rw [if_neg (show ¬ (false = true) by decide)] at H; exact H
             clear H
             have H := H1
             clear H1
             have H' := am H
             clear H
             have hnb152 := NB295_241.out
             have hnc152 := NB241_295.out
             have hnb153 := NB295_242.out
             have hnc153 := NB242_295.out
             have hnb154 := NB295_256.out
             have hnc154 := NB256_295.out
             have hnb155 := NB295_261.out
             have hnc155 := NB261_295.out
             have hnb156 := NB295_270.out
             have hnc156 := NB270_295.out
             have hcz157_0 : w134.cell? ⟨gb295, 0, none⟩ = some (.int .i64 0) := (blk_cell BK295.out 0).trans rfl
             have hcz157_1 : w134.cell? ⟨gb295, 1, none⟩ = some (.slice none 0 0) := (blk_cell BK295.out 1).trans rfl
             have hfz157_0 := blk_frozen BK295.out 0
             have hfz157_1 := blk_frozen BK295.out 1
             have hnb158 := NB256_241.out
             have hnc158 := NB241_256.out
             have hnb159 := NB256_242.out
             have hnc159 := NB242_256.out
             have hnb160 := NB256_261.out
             have hnc160 := NB261_256.out
             have hnb161 := NB256_270.out
             have hnc161 := NB270_256.out
             have hcz162_0 : w134.cell? ⟨gb256, 0, none⟩ = some (.int .i64 t251) := (blk_cell BK256.out 0).trans rfl
             have hcz162_1 : w134.cell? ⟨gb256, 1, none⟩ = some (.slice Ao30 t252.length co30) := (blk_cell BK256.out 1).trans rfl
             have hfz162_0 := blk_frozen BK256.out 0
             have hfz162_1 := blk_frozen BK256.out 1
             go_wp2_with (first | ((with_reducible refine gate_callee (f := 14) rfl ?_); refine goesL_ (some 89) rfl rfl Try.func14 (by kernel_rfl) rfl #[.agg #[.int .i64 t290, .slice Ao136 t291.length co136], .agg #[.int .i64 t251, .slice Ao30 t252.length co30]] rfl (by (try simp only [List.map_toArray, List.map_cons, List.map_nil]); first | done | rfl | (simp only [List.length_drop, List.length_take]; rfl)) ?_; (with_reducible refine (laws_eqPuzzle.calls kj76 t290 _ _ t291 t251 _ _ t252 false _ ?side1 ?side2 ?side3 ?side4 A138.out).mono ?_); (case side1 => refine (Kd.R_reads' (e := 25) (base := w.heap.size) (ok := fun k_ => (some k_ ≠ (v285 : Value).ownBlock ∧ (some k_ ≠ (.slice Ao30 t252.length co30 : Value).ownBlock ∧ (some k_ ≠ (.slice Ao40 t278.length co40 : Value).ownBlock ∧ some k_ ≠ (.slice Ao48 t266.length co48 : Value).ownBlock)))) (n := t291.length) (c := co136) ?_).2.2; exact (by (with_reducible repeat (first | apply Kd.R_alloc | apply Kd.R_drewN | apply Kd.R_drew)); exact (Kd.R_mono (Kd.R_far (p := ⟨gb295, 1, none⟩) (Kd.R_far (p := ⟨gb295, 0, none⟩) (Kd.R_types HO293.out BK295.out (by decide)) (fun _ hk => hk.2) (.int .i64 t290)) (fun _ hk => hk.2) (.slice Ao136 t291.length co136)) (fun _ h_ => h_.1)))); (case side2 => exact (Kd.R_reads' HO293.out).2.1); (case side3 => refine (Kd.R_reads' (e := 25) (base := w.heap.size) (ok := fun k_ => (some k_ ≠ (v285 : Value).ownBlock ∧ (some k_ ≠ (.slice Ao136 t291.length co136 : Value).ownBlock ∧ (some k_ ≠ (.slice Ao40 t278.length co40 : Value).ownBlock ∧ some k_ ≠ (.slice Ao48 t266.length co48 : Value).ownBlock)))) (n := t252.length) (c := co30) ?_).2.2; exact (by (with_reducible repeat (first | apply Kd.R_alloc | apply Kd.R_drewN | apply Kd.R_drew)); exact (Kd.R_mono (Kd.R_far (p := ⟨gb295, 1, none⟩) (Kd.R_far (p := ⟨gb295, 0, none⟩) (Kd.R_types HO_257001.out BK295.out (by decide)) (fun _ hk => hk.2) (.int .i64 t290)) (fun _ hk => hk.2) (.slice Ao136 t291.length co136)) (fun _ h_ => h_.1)))); (case side4 => exact (Kd.R_reads' HO_257001.out).2.1); rintro e w163 ⟨rfl, hb⟩; refine ⟨_, rfl, ?_⟩; have n0_ := am (Kd.R_below (by (with_reducible repeat (first | apply Kd.R_alloc | apply Kd.R_drewN | apply Kd.R_drew)); exact (Kd.R_mono (Kd.R_far (p := ⟨gb295, 1, none⟩) (Kd.R_far (p := ⟨gb295, 0, none⟩) (Kd.R_types HO_257001.out BK295.out (by decide)) (fun _ hk => hk.2) (.int .i64 t290)) (fun _ hk => hk.2) (.slice Ao136 t291.length co136)) (fun _ h_ => h_.1))) hb); have n1_ := am (Kd.R_below (by (with_reducible repeat (first | apply Kd.R_alloc | apply Kd.R_drewN | apply Kd.R_drew)); exact (Kd.R_mono (Kd.R_far (p := ⟨gb295, 1, none⟩) (Kd.R_far (p := ⟨gb295, 0, none⟩) (Kd.R_types HO_262001.out BK295.out (by decide)) (fun _ hk => hk.2) (.int .i64 t290)) (fun _ hk => hk.2) (.slice Ao136 t291.length co136)) (fun _ h_ => h_.1))) hb); have n2_ := am (Kd.R_below (by (with_reducible repeat (first | apply Kd.R_alloc | apply Kd.R_drewN | apply Kd.R_drew)); exact (Kd.R_mono (Kd.R_far (p := ⟨gb295, 1, none⟩) (Kd.R_far (p := ⟨gb295, 0, none⟩) (Kd.R_types HO_271001.out BK295.out (by decide)) (fun _ hk => hk.2) (.int .i64 t290)) (fun _ hk => hk.2) (.slice Ao136 t291.length co136)) (fun _ h_ => h_.1))) hb); have n3_ := am (Kd.R_below (by (with_reducible repeat (first | apply Kd.R_alloc | apply Kd.R_drewN | apply Kd.R_drew)); exact (Kd.R_mono (Kd.R_far (p := ⟨gb295, 1, none⟩) (Kd.R_far (p := ⟨gb295, 0, none⟩) (Kd.R_types HO286.out BK295.out (by decide)) (fun _ hk => hk.2) (.int .i64 t290)) (fun _ hk => hk.2) (.slice Ao136 t291.length co136)) (fun _ h_ => h_.1))) hb); have n4_ := am (Kd.R_below (by (with_reducible repeat (first | apply Kd.R_alloc | apply Kd.R_drewN | apply Kd.R_drew)); exact (Kd.R_mono (Kd.R_far (p := ⟨gb295, 1, none⟩) (Kd.R_far (p := ⟨gb295, 0, none⟩) (Kd.R_types HO293.out BK295.out (by decide)) (fun _ hk => hk.2) (.int .i64 t290)) (fun _ hk => hk.2) (.slice Ao136 t291.length co136)) (fun _ h_ => h_.1))) hb); have n5_ := am (blk_below (g := gb241) (o := .cells #[.int .i64 a0_0, .slice A0_1 l0_1.length c0_1] 30 (0, 0)) (by (with_reducible repeat (first | refine blk_drewN ?_ _ | refine blk_drew ?_ | refine blk_alloc ?_ _)); refine blk_far ?_ NB241_295.out _; (with_reducible repeat (first | refine blk_drewN ?_ _ | refine blk_drew ?_ | refine blk_alloc ?_ _)); refine blk_far ?_ NB241_295.out _; (with_reducible repeat (first | refine blk_drewN ?_ _ | refine blk_drew ?_ | refine blk_alloc ?_ _)); exact BK241.out) hb); have n6_ := am (blk_below (g := gb242) (o := .cells #[.int .i64 a1_0, .int .i64 a1_1, .int .i64 a1_2] 23 (0, 0)) (by (with_reducible repeat (first | refine blk_drewN ?_ _ | refine blk_drew ?_ | refine blk_alloc ?_ _)); refine blk_far ?_ NB242_295.out _; (with_reducible repeat (first | refine blk_drewN ?_ _ | refine blk_drew ?_ | refine blk_alloc ?_ _)); refine blk_far ?_ NB242_295.out _; (with_reducible repeat (first | refine blk_drewN ?_ _ | refine blk_drew ?_ | refine blk_alloc ?_ _)); exact BK242.out) hb); have n7_ := am (blk_below (g := gb256) (o := .cells #[.int .i64 t251, .slice Ao30 t252.length co30] 35 (0, 0)) (by (with_reducible repeat (first | refine blk_drewN ?_ _ | refine blk_drew ?_ | refine blk_alloc ?_ _)); refine blk_far ?_ NB256_295.out _; (with_reducible repeat (first | refine blk_drewN ?_ _ | refine blk_drew ?_ | refine blk_alloc ?_ _)); refine blk_far ?_ NB256_295.out _; (with_reducible repeat (first | refine blk_drewN ?_ _ | refine blk_drew ?_ | refine blk_alloc ?_ _)); exact BK256.out) hb); have n8_ := am (blk_below (g := gb261) (o := .cells #[.int .i64 t257, .slice Ao40 t278.length co40] 35 (0, 0)) (by (with_reducible repeat (first | refine blk_drewN ?_ _ | refine blk_drew ?_ | refine blk_alloc ?_ _)); refine blk_far ?_ NB261_295.out _; (with_reducible repeat (first | refine blk_drewN ?_ _ | refine blk_drew ?_ | refine blk_alloc ?_ _)); refine blk_far ?_ NB261_295.out _; (with_reducible repeat (first | refine blk_drewN ?_ _ | refine blk_drew ?_ | refine blk_alloc ?_ _)); exact BK261.out) hb); have n9_ := am (blk_below (g := gb270) (o := .cells #[.int .i64 t265, .slice Ao48 t266.length co48] 35 (0, 0)) (by (with_reducible repeat (first | refine blk_drewN ?_ _ | refine blk_drew ?_ | refine blk_alloc ?_ _)); refine blk_far ?_ NB270_295.out _; (with_reducible repeat (first | refine blk_drewN ?_ _ | refine blk_drew ?_ | refine blk_alloc ?_ _)); refine blk_far ?_ NB270_295.out _; (with_reducible repeat (first | refine blk_drewN ?_ _ | refine blk_drew ?_ | refine blk_alloc ?_ _)); exact BK270.out) hb); have n10_ := am (blk_below (g := gb295) (o := .cells #[.int .i64 t290, .slice Ao136 t291.length co136] 35 (0, 0)) (by (with_reducible repeat (first | refine blk_drewN ?_ _ | refine blk_drew ?_ | refine blk_alloc ?_ _)); refine blk_put (cs := #[.int .i64 t290, .slice none 0 0]) ?_ 1 _ rfl; (with_reducible repeat (first | refine blk_drewN ?_ _ | refine blk_drew ?_ | refine blk_alloc ?_ _)); refine blk_put (cs := #[.int .i64 0, .slice none 0 0]) ?_ 0 _ rfl; (with_reducible repeat (first | refine blk_drewN ?_ _ | refine blk_drew ?_ | refine blk_alloc ?_ _)); exact BK295.out) hb); have n11_ := am (below_step (by repeat (first | (with_reducible first | exact HB.out | apply below_alloc | apply pw_below_drewN | apply below_drew1 | refine below_set ?_ (Aside0.out (by assumption))) | exact HB.out)) hb); clear HO_257001; clear HO_262001; clear HO_271001; clear HO286; clear HO293; clear BK241; clear BK242; clear BK256; clear BK261; clear BK270; clear BK295; clear HB; have HO_257001 := n0_; have HO_262001 := n1_; have HO_271001 := n2_; have HO286 := n3_; have HO293 := n4_; have BK241 := n5_; have BK242 := n6_; have BK256 := n7_; have BK261 := n8_; have BK270 := n9_; have BK295 := n10_; have HB := n11_; clear n0_ n1_ n2_ n3_ n4_ n5_ n6_ n7_ n8_ n9_ n10_ n11_; (try clear hb); (try clear hb2); (try clear hk); (try clear hi)))
             go_meet
             case rel => exact ⟨_, (true), (by first | rfl | (simp; done) | (simp [*]; done)), H', ⟨by have := HJ15.out; have := HJ76.out; first | omega | exact Nat.le_refl _⟩, ⟨by (try simp only [hl262001_76]); (with_reducible repeat (first | apply Kd.R_alloc | apply Kd.R_drewN | apply Kd.R_drew)); exact Kd.R_mono HO_257001.out (fun _ hk => ⟨hk.2.2.1, ⟨hk.2.2.2, hk.2.1⟩⟩)⟩, ⟨by (try simp only [hl262001_76]); (with_reducible repeat (first | apply Kd.R_alloc | apply Kd.R_drewN | apply Kd.R_drew)); exact Kd.R_mono HO_262001.out (fun _ hk => ⟨hk.2.2.1, ⟨hk.2.2.2, hk.2.1⟩⟩)⟩, ⟨by (try simp only [hl262001_76]); (with_reducible repeat (first | apply Kd.R_alloc | apply Kd.R_drewN | apply Kd.R_drew)); exact Kd.R_mono HO_271001.out (fun _ hk => ⟨hk.2.2.1, ⟨hk.2.2.2, hk.2.1⟩⟩)⟩, ⟨by (try simp only [hl262001_76]); (with_reducible repeat (first | apply Kd.R_alloc | apply Kd.R_drewN | apply Kd.R_drew)); exact Kd.R_mono HO293.out (fun _ hk => ⟨hk.2.1, ⟨hk.2.2.1, hk.2.2.2⟩⟩)⟩, ⟨by (try simp only [hl262001_76]); (with_reducible repeat (first | refine blk_drewN ?_ _ | refine blk_drew ?_ | refine blk_alloc ?_ _)); exact BK241.out⟩, ⟨by (try simp only [hl262001_76]); (with_reducible repeat (first | refine blk_drewN ?_ _ | refine blk_drew ?_ | refine blk_alloc ?_ _)); exact BK242.out⟩, ⟨by (try simp only [hl262001_76]); (with_reducible repeat (first | refine blk_drewN ?_ _ | refine blk_drew ?_ | refine blk_alloc ?_ _)); exact BK256.out⟩, ⟨by (try simp only [hl262001_76]); (with_reducible repeat (first | refine blk_drewN ?_ _ | refine blk_drew ?_ | refine blk_alloc ?_ _)); exact BK261.out⟩, ⟨by (try simp only [hl262001_76]); (with_reducible repeat (first | refine blk_drewN ?_ _ | refine blk_drew ?_ | refine blk_alloc ?_ _)); exact BK270.out⟩, ⟨by (try simp only [hl262001_76]); (with_reducible repeat (first | refine blk_drewN ?_ _ | refine blk_drew ?_ | refine blk_alloc ?_ _)); exact BK295.out⟩, ⟨by repeat (first | (with_reducible first | exact HB.out | apply below_alloc | apply pw_below_drewN | apply below_drew1 | refine below_set ?_ (Aside0.out (by assumption))) | exact HB.out)⟩⟩
           case rest =>
            clear HC119
            try clear c1
            try clear p2
            try clear c8
            try clear c12
            try clear c13
            try clear c14
            try clear c15
            try clear c16
            try clear c139
            try clear c140
            try clear c141
            try clear c142
            try clear c143
            try clear c144
            try clear c146
            try clear c147
            try clear c148
            try clear c149
            try clear c152
            try clear c153
            try clear c154
            try clear c155
            try clear c156
            try clear c158
            try clear c159
            try clear c160
            try clear c161
            try clear hcz145_0
            try clear hcz145_1
            try clear hcz150_0
            try clear hcz150_1
            try clear hcz157_0
            try clear hcz157_1
            try clear hcz162_0
            try clear hcz162_1
            try clear hfz145_0
            try clear hfz145_1
            try clear hfz150_0
            try clear hfz150_1
            try clear hfz157_0
            try clear hfz157_1
            try clear hfz162_0
            try clear hfz162_1
            obtain ⟨kq, x95_118, rfl, HA, HJ118, HO_257001, HO_262001, HO_271001, HO_296001, BK241, BK242, BK256, BK261, BK270, BK295, HB⟩ := hcut
            have hl271001_118 := (Kd.R_reads' HO_271001.out).1
            rw [hl271001_118] at HO_271001
            (try simp only [hl271001_118])
            (try simp only [hl271001_118] at BK241)
            (try simp only [hl271001_118] at BK242)
            (try simp only [hl271001_118] at BK256)
            (try simp only [hl271001_118] at BK261)
            (try simp only [hl271001_118] at BK270)
            (try simp only [hl271001_118] at BK295)
            (try simp only [hl271001_118] at HO_257001)
            (try simp only [hl271001_118] at HO_262001)
            (try simp only [hl271001_118] at HO_296001)
            cases kq with
            | zero => exact absurd HA.out (by simp [laws_FnExactAddClue.j2])
            | succ kj118 =>
             have H := HA.out
             clear HA
             simp only [laws_FnExactAddClue.j2] at H
             by_cases c164 : x95_118 = true
             ·subst c164
              have H1 : (none) = some r := by rw [if_pos rfl] at H; exact H
              clear H
              have H := H1
              clear H1
              exact absurd H (by simp)
             ·replace c164 := Bool.eq_false_iff.mpr c164
              subst c164
              have H1 : ((laws_heldPuzzle.f kj118 t265 t281 1).bind fun t297 => (if t297 < 0 then (none) else (if t297 = t280 then (some true) else (none)))) = some r := by rw [if_neg (show ¬ (false = true) by decide)] at H; exact H
              clear H
              have H := H1
              clear H1
              replace H := Option.bind_eq_some_iff.mp H
              obtain ⟨t297, A1650, H⟩ := H
              replace H : (if t297 < 0 then (none) else (if t297 = t280 then (some true) else (none))) = some r := H
              have A165 := am A1650
              clear A1650
              by_cases c166 : t297 < 0
              ·rw [if_pos c166] at H
               exact absurd H (by simp)
              ·rw [if_neg c166] at H
               have c166b0 : decide (t297 < 0) = false := decide_eq_false c166
               clear c166
               by_cases c167 : t297 = t280
               ·rw [if_pos c167] at H
                have c167b0 : (t297 == t280) = true := beq_iff_eq.mpr c167
                have c167b1 : (t297 != t280) = false := bne_eq_false_iff_eq.mpr c167
                clear c167
                obtain rfl := Option.some.inj H
                have hnb168 := NB270_241.out
                have hnc168 := NB241_270.out
                have hnb169 := NB270_242.out
                have hnc169 := NB242_270.out
                have hnb170 := NB270_256.out
                have hnc170 := NB256_270.out
                have hnb171 := NB270_261.out
                have hnc171 := NB261_270.out
                have hnb172 := NB270_295.out
                have hnc172 := NB295_270.out
                have hcz173_0 : wc.cell? ⟨gb270, 0, none⟩ = some (.int .i64 t265) := (blk_cell BK270.out 0).trans rfl
                have hcz173_1 : wc.cell? ⟨gb270, 1, none⟩ = some (.slice Ao48 t281.length co48) := (blk_cell BK270.out 1).trans rfl
                have hfz173_0 := blk_frozen BK270.out 0
                have hfz173_1 := blk_frozen BK270.out 1
                go_wp2_with (first | ((with_reducible refine gate_callee (f := 18) rfl ?_); refine goesL_ (some 98) rfl rfl Try.func18 (by kernel_rfl) rfl #[.agg #[.int .i64 t265, .slice Ao48 t281.length co48], .int .i64 1] rfl (by (try simp only [List.map_toArray, List.map_cons, List.map_nil]); first | done | rfl | (simp only [List.length_drop, List.length_take]; rfl)) ?_; (with_reducible refine (laws_heldPuzzle.calls kj118 t265 _ _ t281 1 t297 _ ?side1 ?side2 A165.out).mono ?_); (case side1 => repeat (first | exact (Kd.R_reads' HO_271001.out).2.2 | (with_reducible refine Kd.C_alloc ?_ _) | (with_reducible refine Kd.C_drewN ?_ _) | (with_reducible refine Kd.C_drew ?_))); (case side2 => exact (Kd.R_reads' HO_271001.out).2.1); rintro e w174 ⟨rfl, hb⟩; refine ⟨_, rfl, ?_⟩; have n0_ := am (Kd.R_below (roS HO_257001.out) hb); have n1_ := am (Kd.R_below (roS HO_262001.out) hb); have n2_ := am (Kd.R_below (roS HO_271001.out) hb); have n3_ := am (Kd.R_below (roS HO_296001.out) hb); have n4_ := am (blk_below (bkS BK241.out) hb); have n5_ := am (blk_below (bkS BK242.out) hb); have n6_ := am (blk_below (bkS BK256.out) hb); have n7_ := am (blk_below (bkS BK261.out) hb); have n8_ := am (blk_below (bkS BK270.out) hb); have n9_ := am (blk_below (bkS BK295.out) hb); have n10_ := am (below_step (by repeat (first | (with_reducible first | exact HB.out | apply below_alloc | apply pw_below_drewN | apply below_drew1 | refine below_set ?_ (Aside0.out (by assumption))) | exact HB.out)) hb); clear HO_257001; clear HO_262001; clear HO_271001; clear HO_296001; clear BK241; clear BK242; clear BK256; clear BK261; clear BK270; clear BK295; clear HB; have HO_257001 := n0_; have HO_262001 := n1_; have HO_271001 := n2_; have HO_296001 := n3_; have BK241 := n4_; have BK242 := n5_; have BK256 := n6_; have BK261 := n7_; have BK270 := n8_; have BK295 := n9_; have HB := n10_; clear n0_ n1_ n2_ n3_ n4_ n5_ n6_ n7_ n8_ n9_ n10_; (try clear hb); (try clear hb2); (try clear hk); (try clear hi)))
                go_ret
                exact ⟨by first | rfl | (simp [errW_none, errW_some] <;> rfl) | (simp [*, errW_none, errW_some] <;> rfl), by repeat (first | (with_reducible first | exact HB.out | apply below_alloc | apply pw_below_drewN | apply below_drew1 | refine below_set ?_ (Aside0.out (by assumption))) | exact HB.out)⟩
               ·rw [if_neg c167] at H
                exact absurd H (by simp)
          ·rw [if_neg c115] at H
           exact absurd H (by simp)
     ·replace c75 := Bool.eq_false_iff.mpr c75
      subst c75
      have H1 : (none) = some r := by rw [if_neg (show ¬ (false = true) by decide)] at H; exact H
      clear H
      have H := H1
      clear H1
      exact absurd H (by simp)

end Go.Proofs.Ytkdnonnoihllkaa.X
