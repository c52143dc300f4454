import Derived.Test.YtonifgfgeollaaaDoorP5
import Derived.Test.YtonifgfgeollaaaDoorP6
import Derived.Test.YtonifgfgeollaaaDoorP7
import Derived.Test.YtonifgfgeollaaaDoorP8
import Derived.Test.YtonifgfgeollaaaDoorP9
import Derived.Test.YtonifgfgeollaaaDoorP10
import Derived.Test.YtonifgfgeollaaaDoorP11
section
-- Written by a program of this session (wip/tools/mp.py) over the kit's print of the translation.
namespace Go.Proofs.YtonifgfgeollaaaDoor.X
open Go.Proofs.YtonifgfgeollaaaDoor.Sq Go.RowKit Go.Proofs.YtonifgfgeollaaaDoorW.PrintWords Go.Proofs.YtonifgfgeollaaaDoorW.PrintLast Go.Proofs.YtonifgfgeollaaaDoorW.PrintMore
attribute [local go_sem] max2_int min2_int max_two min_two max_three min_three max_four min_four   -- for this text's walks alone
set_option linter.unusedVariables false
set_option linter.unusedSimpArgs false
/-! ### laws_eqPuzzle: function 8 -/
def laws_eqPuzzle.f (k : Nat) (a0_0 : Int) (l0_1 : List (S41)) (a1_0 : Int) (l1_1 : List (S41)) : Option (Bool) := if a0_0 = a1_0 then ((laws_eqClueS.f k l0_1 l1_1).bind fun t207 => (if t207 = true then (some true) else (some false))) else (some false)
set_option maxHeartbeats 8000000 in
set_option maxRecDepth 100000 in
theorem laws_eqPuzzle.calls (k : Nat) (a0_0 : Int) (A0_1 : Option Addr) (c0_1 : Nat) (l0_1 : List (S41)) (a1_0 : Int) (A1_1 : Option Addr) (c1_1 : Nat) (l1_1 : List (S41)) (r : Bool) (w : World) (hr0_1 : Kd.C k41 w A0_1 l0_1.length l0_1) (hc0_1 : l0_1.length ≤ c0_1) (hr1_1 : Kd.C k41 w A1_1 l1_1.length l1_1) (hc1_1 : l1_1.length ≤ c1_1) (h : laws_eqPuzzle.f k a0_0 l0_1 a1_0 l1_1 = some r) :
  Calls Tryd.prog 8 #[.agg #[.int .i64 a0_0, .slice A0_1 l0_1.length c0_1], .agg #[.int .i64 a1_0, .slice A1_1 l1_1.length c1_1]] w fun e w' => e = .returned (.bool r) ∧ Below w.heap.size w w' := by
 have hu30 := Tryd.underlying30
 have HR0_1 := am hr0_1
 have HC0_1 := am hc0_1
 clear hr0_1 hc0_1
 have HR1_1 := am hr1_1
 have HC1_1 := am hc1_1
 clear hr1_1 hc1_1
 have HB := am (Below.refl w.heap.size w)
 have H : (if a0_0 = a1_0 then ((laws_eqClueS.f k l0_1 l1_1).bind fun t207 => (if t207 = true then (some true) else (some false))) else (some false)) = some r := h
 clear h
 by_cases c3 : a0_0 = a1_0
 ·rw [if_pos c3] at H
  have c3b0 : (a0_0 == a1_0) = true := beq_iff_eq.mpr c3
  have c3b1 : (a0_0 != a1_0) = false := bne_eq_false_iff_eq.mpr c3
  clear c3
  replace H := Option.bind_eq_some_iff.mp H
  obtain ⟨t207, A40, H⟩ := H
  replace H : (if t207 = true then (some true) else (some false)) = some r := H
  have A4 := am A40
  clear A40
  by_cases c5 : t207 = true
  ·subst c5
   have H1 : (some true) = some r := by rw [if_pos rfl] at H; exact H
   clear H
   have H := H1
   clear H1
   obtain rfl := Option.some.inj H
   go_enter Tryd.func8, Tryd.ntmps8
   go_wp2_with (first | ((with_reducible refine gate_dst (N := 2) rfl ?_); refine box_event ?hg (N := 2) ?hd (cs := #[.int .i64 a0_0, .slice A0_1 l0_1.length c0_1]) (t := 30) ?hr ?_; (case hd => rfl); (case hg => rfl); (case hr => first | (go_simp; done) | (go_simp; rfl)); intro gb205 hg w6 hbox hb; have n0_ := am (below_step (hbS HB.out) hb); have n1_ := am (hbox); have n2_ := am (gwL (hbS HB.out) hg); have n3_ := n2_; clear HB; have HB := n0_; have BK205 := n1_; have GW205 := n2_; have GE205 := n3_; clear n0_ n1_ n2_ n3_; clear hb hbox hg) | ((with_reducible refine gate_dst (N := 3) rfl ?_); refine box_event ?hg (N := 3) ?hd (cs := #[.int .i64 a1_0, .slice A1_1 l1_1.length c1_1]) (t := 30) ?hr ?_; (case hd => rfl); (case hg => rfl); (case hr => first | (go_simp; done) | (go_simp; rfl)); intro gb206 hg w7 hbox hb; have n0_ := am (blk_below (bkS BK205.out) hb); have n1_ := am (below_step (by repeat (first | (with_reducible first | exact HB.out | apply below_alloc | apply pw_below_drewN | apply below_drew1 | refine below_set ?_ GE205.out) | exact HB.out)) hb); have n2_ := am (hbox); have n3_ := am (gwL (by repeat (first | (with_reducible first | exact HB.out | apply below_alloc | apply pw_below_drewN | apply below_drew1 | refine below_set ?_ GE205.out) | exact HB.out)) hg); have n4_ := n3_; have n5_ := am (nbL (bkS BK205.out) hg); have n6_ := am (nbG (bkS BK205.out) hg); clear BK205; clear HB; have BK205 := n0_; have HB := n1_; have BK206 := n2_; have GW206 := n3_; have GE206 := n4_; have NB205_206 := n5_; have NB206_205 := n6_; clear n0_ n1_ n2_ n3_ n4_ n5_ n6_; clear hb hbox hg; have hnb8 := NB205_206.out; have hnc8 := NB206_205.out; have hcz9_0 : w7.cell? ⟨gb205, 0, none⟩ = some (.int .i64 a0_0) := (blk_cell BK205.out 0).trans rfl; have hcz9_1 : w7.cell? ⟨gb205, 1, none⟩ = some (.slice A0_1 l0_1.length c0_1) := (blk_cell BK205.out 1).trans rfl; have hfz9_0 := blk_frozen BK205.out 0; have hfz9_1 := blk_frozen BK205.out 1; have hcz10_0 : w7.cell? ⟨gb206, 0, none⟩ = some (.int .i64 a1_0) := (blk_cell BK206.out 0).trans rfl; have hcz10_1 : w7.cell? ⟨gb206, 1, none⟩ = some (.slice A1_1 l1_1.length c1_1) := (blk_cell BK206.out 1).trans rfl; have hfz10_0 := blk_frozen BK206.out 0; have hfz10_1 := blk_frozen BK206.out 1) | ((with_reducible refine gate_callee (f := 15) rfl ?_); refine goesL_ (some 14) rfl rfl Tryd.func15 (by kernel_rfl) rfl #[.slice A0_1 l0_1.length c0_1, .slice A1_1 l1_1.length c1_1] rfl (by (try simp only [List.map_toArray, List.map_cons, List.map_nil]); first | done | rfl | (simp only [List.length_drop, List.length_take]; rfl)) ?_; (with_reducible refine (laws_eqClueS.calls k _ _ l0_1 _ _ l1_1 true _ ?side1 ?side2 ?side3 ?side4 A4.out).mono ?_); (case side1 => repeat (first | exact (Kd.C_below HR0_1.out HB.out) | (with_reducible refine Kd.C_alloc ?_ _) | (with_reducible refine Kd.C_drewN ?_ _) | (with_reducible refine Kd.C_drew ?_))); (case side2 => exact HC0_1.out); (case side3 => repeat (first | exact (Kd.C_below HR1_1.out HB.out) | (with_reducible refine Kd.C_alloc ?_ _) | (with_reducible refine Kd.C_drewN ?_ _) | (with_reducible refine Kd.C_drew ?_))); (case side4 => exact HC1_1.out); rintro e w11 ⟨rfl, hb⟩; refine ⟨_, rfl, ?_⟩; have n0_ := am (blk_below (bkS BK205.out) hb); have n1_ := am (blk_below (bkS BK206.out) hb); have n2_ := am (below_step (by repeat (first | (with_reducible first | exact HB.out | apply below_alloc | apply pw_below_drewN | apply below_drew1 | refine below_set ?_ (Aside0.out (by assumption))) | exact HB.out)) hb); clear BK205; clear BK206; clear HB; have BK205 := n0_; have BK206 := n1_; have HB := n2_; clear n0_ n1_ n2_; (try clear hb); (try clear hb2); (try clear hk); (try clear hi)))
   go_ret
   exact ⟨by first | rfl | (simp [errW_none, errW_some] <;> rfl) | (simp [*, errW_none, errW_some] <;> rfl), by repeat (first | (with_reducible first | exact HB.out | apply below_alloc | apply pw_below_drewN | apply below_drew1 | refine below_set ?_ (Aside0.out (by assumption))) | exact HB.out)⟩
  ·replace c5 := Bool.eq_false_iff.mpr c5
   subst c5
   have H1 : (some false) = some r := by rw [if_neg (show ¬ (false = true) by decide)] at H; exact H
   clear H
   have H := H1
   clear H1
   obtain rfl := Option.some.inj H
   go_enter Tryd.func8, Tryd.ntmps8
   go_wp2_with (first | ((with_reducible refine gate_dst (N := 2) rfl ?_); refine box_event ?hg (N := 2) ?hd (cs := #[.int .i64 a0_0, .slice A0_1 l0_1.length c0_1]) (t := 30) ?hr ?_; (case hd => rfl); (case hg => rfl); (case hr => first | (go_simp; done) | (go_simp; rfl)); intro gb205 hg w12 hbox hb; have n0_ := am (below_step (hbS HB.out) hb); have n1_ := am (hbox); have n2_ := am (gwL (hbS HB.out) hg); have n3_ := n2_; clear HB; have HB := n0_; have BK205 := n1_; have GW205 := n2_; have GE205 := n3_; clear n0_ n1_ n2_ n3_; clear hb hbox hg) | ((with_reducible refine gate_dst (N := 3) rfl ?_); refine box_event ?hg (N := 3) ?hd (cs := #[.int .i64 a1_0, .slice A1_1 l1_1.length c1_1]) (t := 30) ?hr ?_; (case hd => rfl); (case hg => rfl); (case hr => first | (go_simp; done) | (go_simp; rfl)); intro gb206 hg w13 hbox hb; have n0_ := am (blk_below (bkS BK205.out) hb); have n1_ := am (below_step (by repeat (first | (with_reducible first | exact HB.out | apply below_alloc | apply pw_below_drewN | apply below_drew1 | refine below_set ?_ GE205.out) | exact HB.out)) hb); have n2_ := am (hbox); have n3_ := am (gwL (by repeat (first | (with_reducible first | exact HB.out | apply below_alloc | apply pw_below_drewN | apply below_drew1 | refine below_set ?_ GE205.out) | exact HB.out)) hg); have n4_ := n3_; have n5_ := am (nbL (bkS BK205.out) hg); have n6_ := am (nbG (bkS BK205.out) hg); clear BK205; clear HB; have BK205 := n0_; have HB := n1_; have BK206 := n2_; have GW206 := n3_; have GE206 := n4_; have NB205_206 := n5_; have NB206_205 := n6_; clear n0_ n1_ n2_ n3_ n4_ n5_ n6_; clear hb hbox hg; have hnb14 := NB205_206.out; have hnc14 := NB206_205.out; have hcz15_0 : w13.cell? ⟨gb205, 0, none⟩ = some (.int .i64 a0_0) := (blk_cell BK205.out 0).trans rfl; have hcz15_1 : w13.cell? ⟨gb205, 1, none⟩ = some (.slice A0_1 l0_1.length c0_1) := (blk_cell BK205.out 1).trans rfl; have hfz15_0 := blk_frozen BK205.out 0; have hfz15_1 := blk_frozen BK205.out 1; have hcz16_0 : w13.cell? ⟨gb206, 0, none⟩ = some (.int .i64 a1_0) := (blk_cell BK206.out 0).trans rfl; have hcz16_1 : w13.cell? ⟨gb206, 1, none⟩ = some (.slice A1_1 l1_1.length c1_1) := (blk_cell BK206.out 1).trans rfl; have hfz16_0 := blk_frozen BK206.out 0; have hfz16_1 := blk_frozen BK206.out 1) | ((with_reducible refine gate_callee (f := 15) rfl ?_); refine goesL_ (some 14) rfl rfl Tryd.func15 (by kernel_rfl) rfl #[.slice A0_1 l0_1.length c0_1, .slice A1_1 l1_1.length c1_1] rfl (by (try simp only [List.map_toArray, List.map_cons, List.map_nil]); first | done | rfl | (simp only [List.length_drop, List.length_take]; rfl)) ?_; (with_reducible refine (laws_eqClueS.calls k _ _ l0_1 _ _ l1_1 false _ ?side1 ?side2 ?side3 ?side4 A4.out).mono ?_); (case side1 => repeat (first | exact (Kd.C_below HR0_1.out HB.out) | (with_reducible refine Kd.C_alloc ?_ _) | (with_reducible refine Kd.C_drewN ?_ _) | (with_reducible refine Kd.C_drew ?_))); (case side2 => exact HC0_1.out); (case side3 => repeat (first | exact (Kd.C_below HR1_1.out HB.out) | (with_reducible refine Kd.C_alloc ?_ _) | (with_reducible refine Kd.C_drewN ?_ _) | (with_reducible refine Kd.C_drew ?_))); (case side4 => exact HC1_1.out); rintro e w17 ⟨rfl, hb⟩; refine ⟨_, rfl, ?_⟩; have n0_ := am (blk_below (bkS BK205.out) hb); have n1_ := am (blk_below (bkS BK206.out) hb); have n2_ := am (below_step (by repeat (first | (with_reducible first | exact HB.out | apply below_alloc | apply pw_below_drewN | apply below_drew1 | refine below_set ?_ (Aside0.out (by assumption))) | exact HB.out)) hb); clear BK205; clear BK206; clear HB; have BK205 := n0_; have BK206 := n1_; have HB := n2_; clear n0_ n1_ n2_; (try clear hb); (try clear hb2); (try clear hk); (try clear hi)))
   go_ret
   exact ⟨by first | rfl | (simp [errW_none, errW_some] <;> rfl) | (simp [*, errW_none, errW_some] <;> rfl), by repeat (first | (with_reducible first | exact HB.out | apply below_alloc | apply pw_below_drewN | apply below_drew1 | refine below_set ?_ (Aside0.out (by assumption))) | exact HB.out)⟩
 ·rw [if_neg c3] at H
  have c3b0 : (a0_0 == a1_0) = false := beq_eq_false_iff_ne.mpr c3
  have c3b1 : (a0_0 != a1_0) = true := bne_iff_ne.mpr c3
  obtain rfl := Option.some.inj H
  go_enter Tryd.func8, Tryd.ntmps8
  go_wp2_with (first | ((with_reducible refine gate_dst (N := 2) rfl ?_); refine box_event ?hg (N := 2) ?hd (cs := #[.int .i64 a0_0, .slice A0_1 l0_1.length c0_1]) (t := 30) ?hr ?_; (case hd => rfl); (case hg => rfl); (case hr => first | (go_simp; done) | (go_simp; rfl)); intro gb205 hg w18 hbox hb; have n0_ := am (below_step (hbS HB.out) hb); have n1_ := am (hbox); have n2_ := am (gwL (hbS HB.out) hg); have n3_ := n2_; clear HB; have HB := n0_; have BK205 := n1_; have GW205 := n2_; have GE205 := n3_; clear n0_ n1_ n2_ n3_; clear hb hbox hg) | ((with_reducible refine gate_dst (N := 3) rfl ?_); refine box_event ?hg (N := 3) ?hd (cs := #[.int .i64 a1_0, .slice A1_1 l1_1.length c1_1]) (t := 30) ?hr ?_; (case hd => rfl); (case hg => rfl); (case hr => first | (go_simp; done) | (go_simp; rfl)); intro gb206 hg w19 hbox hb; have n0_ := am (blk_below (bkS BK205.out) hb); have n1_ := am (below_step (by repeat (first | (with_reducible first | exact HB.out | apply below_alloc | apply pw_below_drewN | apply below_drew1 | refine below_set ?_ GE205.out) | exact HB.out)) hb); have n2_ := am (hbox); have n3_ := am (gwL (by repeat (first | (with_reducible first | exact HB.out | apply below_alloc | apply pw_below_drewN | apply below_drew1 | refine below_set ?_ GE205.out) | exact HB.out)) hg); have n4_ := n3_; have n5_ := am (nbL (bkS BK205.out) hg); have n6_ := am (nbG (bkS BK205.out) hg); clear BK205; clear HB; have BK205 := n0_; have HB := n1_; have BK206 := n2_; have GW206 := n3_; have GE206 := n4_; have NB205_206 := n5_; have NB206_205 := n6_; clear n0_ n1_ n2_ n3_ n4_ n5_ n6_; clear hb hbox hg; have hnb20 := NB205_206.out; have hnc20 := NB206_205.out; have hcz21_0 : w19.cell? ⟨gb205, 0, none⟩ = some (.int .i64 a0_0) := (blk_cell BK205.out 0).trans rfl; have hcz21_1 : w19.cell? ⟨gb205, 1, none⟩ = some (.slice A0_1 l0_1.length c0_1) := (blk_cell BK205.out 1).trans rfl; have hfz21_0 := blk_frozen BK205.out 0; have hfz21_1 := blk_frozen BK205.out 1; have hcz22_0 : w19.cell? ⟨gb206, 0, none⟩ = some (.int .i64 a1_0) := (blk_cell BK206.out 0).trans rfl; have hcz22_1 : w19.cell? ⟨gb206, 1, none⟩ = some (.slice A1_1 l1_1.length c1_1) := (blk_cell BK206.out 1).trans rfl; have hfz22_0 := blk_frozen BK206.out 0; have hfz22_1 := blk_frozen BK206.out 1))
  go_ret
  exact ⟨by first | rfl | (simp [errW_none, errW_some] <;> rfl) | (simp [*, errW_none, errW_some] <;> rfl), by repeat (first | (with_reducible first | exact HB.out | apply below_alloc | apply pw_below_drewN | apply below_drew1 | refine below_set ?_ (Aside0.out (by assumption))) | exact HB.out)⟩
/-! ### laws_FnExactPuzzleText: function 3 -/
def laws_FnExactPuzzleText.j0 : Nat → Bool → Int → List (S45) → Int → List (S41) → Option (Bool)
 | 0, _, _, _, _, _ => none
 | k + 1, x34, x209000, x209001, x221000, x221001 => if x34 = true then (none) else ((laws_toPuzzle.f k x209000 x209001).bind fun bt223 => ((laws_eqPuzzle.f k x221000 x221001 bt223.1 bt223.2).bind fun t227 => (if t227 = true then (some true) else (none))))
def laws_FnExactPuzzleText.f (k : Nat) (a0_0 : Int) (l0_1 : List (S45)) : Option (Bool) := (laws_szPuzzle.f a0_0 l0_1 1048576).bind fun t209 => (if t209 < 0 then (some true) else ((laws_toPuzzle.f k a0_0 l0_1).bind fun bt210 => ((spec_PuzzleText.f k bt210.1 bt210.2).bind fun bt214 => ((laws_toPuzzle.f k a0_0 l0_1).bind fun bt216 => ((impl_PuzzleText.f k bt216.1 bt216.2).bind fun bt221 => (if bt221.1.toList = bt214.1.toList then (laws_FnExactPuzzleText.j0 k (bt221.2 != bt214.2) a0_0 l0_1 bt216.1 bt216.2) else (laws_FnExactPuzzleText.j0 k true a0_0 l0_1 bt216.1 bt216.2)))))))
set_option maxHeartbeats 8000000 in
set_option maxRecDepth 100000 in
theorem laws_FnExactPuzzleText.calls (k : Nat) (a0_0 : Int) (A0_1 : Option Addr) (c0_1 : Nat) (l0_1 : List (S45)) (r : Bool) (w : World) (hr0_1 : Kd.C k45 w A0_1 l0_1.length l0_1) (hc0_1 : l0_1.length ≤ c0_1) (hT_pow10 : Tab_pow10 w) (h : laws_FnExactPuzzleText.f k a0_0 l0_1 = some r) :
  Calls Tryd.prog 3 #[.agg #[.int .i64 a0_0, .slice A0_1 l0_1.length c0_1]] w fun e w' => e = .returned (.bool r) ∧ Below w.heap.size w w' := by
 have hu24 := Tryd.underlying24
 have hu30 := Tryd.underlying30
 have HR0_1 := am hr0_1
 have HC0_1 := am hc0_1
 clear hr0_1 hc0_1
 have HT_pow10 := am hT_pow10
 clear hT_pow10
 have HB := am (Below.refl w.heap.size w)
 have H : ((laws_szPuzzle.f a0_0 l0_1 1048576).bind fun t209 => (if t209 < 0 then (some true) else ((laws_toPuzzle.f k a0_0 l0_1).bind fun bt210 => ((spec_PuzzleText.f k bt210.1 bt210.2).bind fun bt214 => ((laws_toPuzzle.f k a0_0 l0_1).bind fun bt216 => ((impl_PuzzleText.f k bt216.1 bt216.2).bind fun bt221 => (if bt221.1.toList = bt214.1.toList then (laws_FnExactPuzzleText.j0 k (bt221.2 != bt214.2) a0_0 l0_1 bt216.1 bt216.2) else (laws_FnExactPuzzleText.j0 k true a0_0 l0_1 bt216.1 bt216.2)))))))) = some r := h
 clear h
 replace H := Option.bind_eq_some_iff.mp H
 obtain ⟨t209, A20, H⟩ := H
 replace H : (if t209 < 0 then (some true) else ((laws_toPuzzle.f k a0_0 l0_1).bind fun bt210 => ((spec_PuzzleText.f k bt210.1 bt210.2).bind fun bt214 => ((laws_toPuzzle.f k a0_0 l0_1).bind fun bt216 => ((impl_PuzzleText.f k bt216.1 bt216.2).bind fun bt221 => (if bt221.1.toList = bt214.1.toList then (laws_FnExactPuzzleText.j0 k (bt221.2 != bt214.2) a0_0 l0_1 bt216.1 bt216.2) else (laws_FnExactPuzzleText.j0 k true a0_0 l0_1 bt216.1 bt216.2))))))) = some r := H
 have A2 := am A20
 clear A20
 by_cases c3 : t209 < 0
 ·rw [if_pos c3] at H
  have c3b0 : decide (t209 < 0) = true := decide_eq_true c3
  clear c3
  obtain rfl := Option.some.inj H
  go_enter Tryd.func3, Tryd.ntmps3
  go_wp2_with (first | ((with_reducible refine gate_dst (N := 1) rfl ?_); refine box_event ?hg (N := 1) ?hd (cs := #[.int .i64 a0_0, .slice A0_1 l0_1.length c0_1]) (t := 24) ?hr ?_; (case hd => rfl); (case hg => rfl); (case hr => first | (go_simp; done) | (go_simp; rfl)); intro gb208 hg w4 hbox hb; have n0_ := am (below_step (hbS HB.out) hb); have n1_ := am (hbox); have n2_ := am (gwL (hbS HB.out) hg); have n3_ := n2_; clear HB; have HB := n0_; have BK208 := n1_; have GW208 := n2_; have GE208 := n3_; clear n0_ n1_ n2_ n3_; clear hb hbox hg; have hcz5_0 : w4.cell? ⟨gb208, 0, none⟩ = some (.int .i64 a0_0) := (blk_cell BK208.out 0).trans rfl; have hcz5_1 : w4.cell? ⟨gb208, 1, none⟩ = some (.slice A0_1 l0_1.length c0_1) := (blk_cell BK208.out 1).trans rfl; have hfz5_0 := blk_frozen BK208.out 0; have hfz5_1 := blk_frozen BK208.out 1) | ((with_reducible refine gate_callee (f := 4) rfl ?_); refine goesL_ (some 11) rfl rfl Tryd.func4 (by kernel_rfl) rfl #[.agg #[.int .i64 a0_0, .slice A0_1 l0_1.length c0_1], .int .i64 1048576] rfl (by (try simp only [List.map_toArray, List.map_cons, List.map_nil]); first | done | rfl | (simp only [List.length_drop, List.length_take]; rfl)) ?_; (with_reducible refine (laws_szPuzzle.calls a0_0 _ _ l0_1 1048576 t209 _ ?side1 ?side2 A2.out).mono ?_); (case side1 => repeat (first | exact (Kd.C_below HR0_1.out HB.out) | (with_reducible refine Kd.C_alloc ?_ _) | (with_reducible refine Kd.C_drewN ?_ _) | (with_reducible refine Kd.C_drew ?_))); (case side2 => exact HC0_1.out); rintro e w6 ⟨rfl, hb⟩; refine ⟨_, rfl, ?_⟩; have n0_ := am (blk_below (bkS BK208.out) hb); have n1_ := am (below_step (by repeat (first | (with_reducible first | exact HB.out | apply below_alloc | apply pw_below_drewN | apply below_drew1 | refine below_set ?_ GE208.out) | exact HB.out)) hb); clear BK208; clear HB; have BK208 := n0_; have HB := n1_; clear n0_ n1_; (try clear hb); (try clear hb2); (try clear hk); (try clear hi)))
  go_ret
  exact ⟨by first | rfl | (simp [errW_none, errW_some] <;> rfl) | (simp [*, errW_none, errW_some] <;> rfl), by repeat (first | (with_reducible first | exact HB.out | apply below_alloc | apply pw_below_drewN | apply below_drew1 | refine below_set ?_ GE208.out) | exact HB.out)⟩
 ·rw [if_neg c3] at H
  have c3b0 : decide (t209 < 0) = false := decide_eq_false c3
  clear c3
  replace H := Option.bind_eq_some_iff.mp H
  obtain ⟨⟨t210, t211⟩, A70, H⟩ := H
  replace H : ((spec_PuzzleText.f k t210 t211).bind fun bt214 => ((laws_toPuzzle.f k a0_0 l0_1).bind fun bt216 => ((impl_PuzzleText.f k bt216.1 bt216.2).bind fun bt221 => (if bt221.1.toList = bt214.1.toList then (laws_FnExactPuzzleText.j0 k (bt221.2 != bt214.2) a0_0 l0_1 bt216.1 bt216.2) else (laws_FnExactPuzzleText.j0 k true a0_0 l0_1 bt216.1 bt216.2))))) = some r := H
  have A7 := am A70
  clear A70
  replace H := Option.bind_eq_some_iff.mp H
  obtain ⟨⟨t214, t215⟩, A80, H⟩ := H
  replace H : ((laws_toPuzzle.f k a0_0 l0_1).bind fun bt216 => ((impl_PuzzleText.f k bt216.1 bt216.2).bind fun bt221 => (if bt221.1.toList = t214.toList then (laws_FnExactPuzzleText.j0 k (bt221.2 != t215) a0_0 l0_1 bt216.1 bt216.2) else (laws_FnExactPuzzleText.j0 k true a0_0 l0_1 bt216.1 bt216.2)))) = some r := H
  have A8 := am A80
  clear A80
  replace H := Option.bind_eq_some_iff.mp H
  obtain ⟨⟨t216, t217⟩, A90, H⟩ := H
  replace H : ((impl_PuzzleText.f k t216 t217).bind fun bt221 => (if bt221.1.toList = t214.toList then (laws_FnExactPuzzleText.j0 k (bt221.2 != t215) a0_0 l0_1 t216 t217) else (laws_FnExactPuzzleText.j0 k true a0_0 l0_1 t216 t217))) = some r := H
  have A9 := am A90
  clear A90
  replace H := Option.bind_eq_some_iff.mp H
  obtain ⟨⟨t221, t222⟩, A100, H⟩ := H
  replace H : (if t221.toList = t214.toList then (laws_FnExactPuzzleText.j0 k (t222 != t215) a0_0 l0_1 t216 t217) else (laws_FnExactPuzzleText.j0 k true a0_0 l0_1 t216 t217)) = some r := H
  have A10 := am A100
  clear A100
  have HC11 := am H
  clear H
  go_enter Tryd.func3, Tryd.ntmps3
  go_upto_region 8 with (first | ((with_reducible refine gate_dst (N := 1) rfl ?_); refine box_event ?hg (N := 1) ?hd (cs := #[.int .i64 a0_0, .slice A0_1 l0_1.length c0_1]) (t := 24) ?hr ?_; (case hd => rfl); (case hg => rfl); (case hr => first | (go_simp; done) | (go_simp; rfl)); intro gb208 hg w12 hbox hb; have n0_ := am (below_step (hbS HB.out) hb); have n1_ := am (hbox); have n2_ := am (gwL (hbS HB.out) hg); have n3_ := n2_; clear HB; have HB := n0_; have BK208 := n1_; have GW208 := n2_; have GE208 := n3_; clear n0_ n1_ n2_ n3_; clear hb hbox hg; have hcz13_0 : w12.cell? ⟨gb208, 0, none⟩ = some (.int .i64 a0_0) := (blk_cell BK208.out 0).trans rfl; have hcz13_1 : w12.cell? ⟨gb208, 1, none⟩ = some (.slice A0_1 l0_1.length c0_1) := (blk_cell BK208.out 1).trans rfl; have hfz13_0 := blk_frozen BK208.out 0; have hfz13_1 := blk_frozen BK208.out 1) | ((with_reducible refine gate_callee (f := 4) rfl ?_); refine goesL_ (some 11) rfl rfl Tryd.func4 (by kernel_rfl) rfl #[.agg #[.int .i64 a0_0, .slice A0_1 l0_1.length c0_1], .int .i64 1048576] rfl (by (try simp only [List.map_toArray, List.map_cons, List.map_nil]); first | done | rfl | (simp only [List.length_drop, List.length_take]; rfl)) ?_; (with_reducible refine (laws_szPuzzle.calls a0_0 _ _ l0_1 1048576 t209 _ ?side1 ?side2 A2.out).mono ?_); (case side1 => repeat (first | exact (Kd.C_below HR0_1.out HB.out) | (with_reducible refine Kd.C_alloc ?_ _) | (with_reducible refine Kd.C_drewN ?_ _) | (with_reducible refine Kd.C_drew ?_))); (case side2 => exact HC0_1.out); rintro e w14 ⟨rfl, hb⟩; refine ⟨_, rfl, ?_⟩; have n0_ := am (blk_below (bkS BK208.out) hb); have n1_ := am (below_step (by repeat (first | (with_reducible first | exact HB.out | apply below_alloc | apply pw_below_drewN | apply below_drew1 | refine below_set ?_ GE208.out) | exact HB.out)) hb); clear BK208; clear HB; have BK208 := n0_; have HB := n1_; clear n0_ n1_; (try clear hb); (try clear hb2); (try clear hk); (try clear hi); have hcz15_0 : w14.cell? ⟨gb208, 0, none⟩ = some (.int .i64 a0_0) := (blk_cell BK208.out 0).trans rfl; have hcz15_1 : w14.cell? ⟨gb208, 1, none⟩ = some (.slice A0_1 l0_1.length c0_1) := (blk_cell BK208.out 1).trans rfl; have hfz15_0 := blk_frozen BK208.out 0; have hfz15_1 := blk_frozen BK208.out 1) | ((with_reducible refine gate_callee (f := 6) rfl ?_); refine goesL_ (some 16) rfl rfl Tryd.func6 (by kernel_rfl) rfl #[.agg #[.int .i64 a0_0, .slice A0_1 l0_1.length c0_1]] rfl (by (try simp only [List.map_toArray, List.map_cons, List.map_nil]); first | done | rfl | (simp only [List.length_drop, List.length_take]; rfl)) ?_; (with_reducible refine (laws_toPuzzle.calls k a0_0 _ _ l0_1 t210 t211 _ ?side1 ?side2 A7.out).mono ?_); (case side1 => repeat (first | exact (Kd.C_below HR0_1.out HB.out) | (with_reducible refine Kd.C_alloc ?_ _) | (with_reducible refine Kd.C_drewN ?_ _) | (with_reducible refine Kd.C_drew ?_))); (case side2 => exact HC0_1.out); rintro e w16 ⟨v212, rfl, ho0, hb⟩; refine ⟨_, rfl, ?_⟩; have n0_ := am (Kd.R_lower ho0 (below_size (by repeat (first | (with_reducible first | exact HB.out | apply below_alloc | apply pw_below_drewN | apply below_drew1 | refine below_set ?_ GE208.out) | exact HB.out)))); have n1_ := am (blk_below (bkS BK208.out) hb); have n2_ := am (below_step (by repeat (first | (with_reducible first | exact HB.out | apply below_alloc | apply pw_below_drewN | apply below_drew1 | refine below_set ?_ GE208.out) | exact HB.out)) hb); clear BK208; clear HB; have HO213 := n0_; have BK208 := n1_; have HB := n2_; clear n0_ n1_ n2_; (try clear hb); (try clear hb2); (try clear hk); (try clear hi); (try clear ho0); obtain ⟨Ao17, co17, eo17⟩ := Kd.R_slice HO213.out; subst eo17) | ((with_reducible refine gate_callee (f := 5) rfl ?_); refine goesL_ (some 17) rfl rfl Tryd.func5 (by kernel_rfl) rfl #[.agg #[.int .i64 t210, .slice Ao17 t211.length co17]] rfl (by (try simp only [List.map_toArray, List.map_cons, List.map_nil]); first | done | rfl | (simp only [List.length_drop, List.length_take]; rfl)) ?_; (with_reducible refine (spec_PuzzleText.calls k t210 _ _ t211 t214 t215 _ ?side1 ?side2 A8.out).mono ?_); (case side1 => repeat (first | exact (Kd.R_reads' HO213.out).2.2 | (with_reducible refine Kd.C_alloc ?_ _) | (with_reducible refine Kd.C_drewN ?_ _) | (with_reducible refine Kd.C_drew ?_))); (case side2 => exact (Kd.R_reads' HO213.out).2.1); rintro e w18 ⟨rfl, hb⟩; refine ⟨_, rfl, ?_⟩; have n0_ := am (Kd.R_below (roS HO213.out) hb); have n1_ := am (blk_below (bkS BK208.out) hb); have n2_ := am (below_step (by repeat (first | (with_reducible first | exact HB.out | apply below_alloc | apply pw_below_drewN | apply below_drew1 | refine below_set ?_ GE208.out) | exact HB.out)) hb); clear HO213; clear BK208; clear HB; have HO213 := n0_; have BK208 := n1_; have HB := n2_; clear n0_ n1_ n2_; (try clear hb); (try clear hb2); (try clear hk); (try clear hi); have hcz19_0 : w18.cell? ⟨gb208, 0, none⟩ = some (.int .i64 a0_0) := (blk_cell BK208.out 0).trans rfl; have hcz19_1 : w18.cell? ⟨gb208, 1, none⟩ = some (.slice A0_1 l0_1.length c0_1) := (blk_cell BK208.out 1).trans rfl; have hfz19_0 := blk_frozen BK208.out 0; have hfz19_1 := blk_frozen BK208.out 1) | ((with_reducible refine gate_callee (f := 6) rfl ?_); refine goesL_ (some 21) rfl rfl Tryd.func6 (by kernel_rfl) rfl #[.agg #[.int .i64 a0_0, .slice A0_1 l0_1.length c0_1]] rfl (by (try simp only [List.map_toArray, List.map_cons, List.map_nil]); first | done | rfl | (simp only [List.length_drop, List.length_take]; rfl)) ?_; (with_reducible refine (laws_toPuzzle.calls k a0_0 _ _ l0_1 t216 t217 _ ?side1 ?side2 A9.out).mono ?_); (case side1 => repeat (first | exact (Kd.C_below HR0_1.out HB.out) | (with_reducible refine Kd.C_alloc ?_ _) | (with_reducible refine Kd.C_drewN ?_ _) | (with_reducible refine Kd.C_drew ?_))); (case side2 => exact HC0_1.out); rintro e w20 ⟨v218, rfl, ho0, hb⟩; refine ⟨_, rfl, ?_⟩; have n0_ := am (Kd.R_elder' (roS HO213.out) (Kd.R_base ho0) hb); have n1_ := am (Kd.R_lower (Kd.R_new' ho0 (Kd.R_lt (roS HO213.out))) (below_size (by repeat (first | (with_reducible first | exact HB.out | apply below_alloc | apply pw_below_drewN | apply below_drew1 | refine below_set ?_ GE208.out) | exact HB.out)))); have n2_ := am (blk_below (bkS BK208.out) hb); have n3_ := am (below_step (by repeat (first | (with_reducible first | exact HB.out | apply below_alloc | apply pw_below_drewN | apply below_drew1 | refine below_set ?_ GE208.out) | exact HB.out)) hb); clear HO213; clear BK208; clear HB; have HO213 := n0_; have HO219 := n1_; have BK208 := n2_; have HB := n3_; clear n0_ n1_ n2_ n3_; (try clear hb); (try clear hb2); (try clear hk); (try clear hi); (try clear ho0)) | ((with_reducible refine gate_dst (N := 6) rfl ?_); refine box_event ?hg (N := 6) ?hd (cs := #[.int .i64 0, .slice none 0 0]) (t := 30) ?hr ?_; (case hd => rfl); (case hg => rfl); (case hr => first | (go_simp; done) | (go_simp; rfl)); intro gb220 hg w21 hbox hb; have n0_ := am (Kd.R_below (roS HO213.out) hb); have n1_ := am (Kd.R_below (roS HO219.out) hb); have n2_ := am (blk_below (bkS BK208.out) hb); have n3_ := am (below_step (by repeat (first | (with_reducible first | exact HB.out | apply below_alloc | apply pw_below_drewN | apply below_drew1 | refine below_set ?_ GE208.out) | exact HB.out)) hb); have n4_ := am (hbox); have n5_ := am (gwL (by repeat (first | (with_reducible first | exact HB.out | apply below_alloc | apply pw_below_drewN | apply below_drew1 | refine below_set ?_ GE208.out) | exact HB.out)) hg); have n6_ := n5_; have n7_ := am (nbL (bkS BK208.out) hg); have n8_ := am (nbG (bkS BK208.out) hg); clear HO213; clear HO219; clear BK208; clear HB; have HO213 := n0_; have HO219 := n1_; have BK208 := n2_; have HB := n3_; have BK220 := n4_; have GW220 := n5_; have GE220 := n6_; have NB208_220 := n7_; have NB220_208 := n8_; clear n0_ n1_ n2_ n3_ n4_ n5_ n6_ n7_ n8_; clear hb hbox hg; have hnb22 := NB220_208.out; have hnc22 := NB208_220.out; have hcz23_0 : w21.cell? ⟨gb220, 0, none⟩ = some (.int .i64 0) := (blk_cell BK220.out 0).trans rfl; have hcz23_1 : w21.cell? ⟨gb220, 1, none⟩ = some (.slice none 0 0) := (blk_cell BK220.out 1).trans rfl; have hfz23_0 := blk_frozen BK220.out 0; have hfz23_1 := blk_frozen BK220.out 1; obtain ⟨Ao24, co24, eo24⟩ := Kd.R_slice HO219.out; subst eo24) | ((with_reducible refine gate_callee (f := 7) rfl ?_); refine goesL_ (some 24) rfl rfl Tryd.func7 (by kernel_rfl) rfl #[.agg #[.int .i64 t216, .slice Ao24 t217.length co24]] rfl (by (try simp only [List.map_toArray, List.map_cons, List.map_nil]); first | done | rfl | (simp only [List.length_drop, List.length_take]; rfl)) ?_; (with_reducible refine (impl_PuzzleText.calls k t216 _ _ t217 t221 t222 _ ?side1 ?side2 ?side3 A10.out).mono ?_); (case side1 => refine (Kd.R_reads' (e := 41) (base := w.heap.size) (ok := fun k_ => (True ∧ some k_ ≠ (.slice Ao17 t211.length co17 : Value).ownBlock)) (n := t217.length) (c := co24) ?_).2.2; exact (by (with_reducible repeat (first | apply Kd.R_alloc | apply Kd.R_drewN | apply Kd.R_drew)); exact (Kd.R_mono (Kd.R_far (p := ⟨gb220, 1, none⟩) (Kd.R_far (p := ⟨gb220, 0, none⟩) (Kd.R_types HO219.out BK220.out (by decide)) (fun _ hk => hk.2) (.int .i64 t216)) (fun _ hk => hk.2) (.slice Ao24 t217.length co24)) (fun _ h_ => h_.1)))); (case side2 => exact (Kd.R_reads' HO219.out).2.1); (case side3 => exact Tab_pow10.below HT_pow10.out (by repeat (first | (with_reducible first | exact HB.out | apply below_alloc | apply pw_below_drewN | apply below_drew1 | refine below_set ?_ (Aside0.out (by assumption))) | exact HB.out))); rintro e w25 ⟨rfl, hb⟩; refine ⟨_, rfl, ?_⟩; have n0_ := am (Kd.R_below (by (with_reducible repeat (first | apply Kd.R_alloc | apply Kd.R_drewN | apply Kd.R_drew)); exact (Kd.R_mono (Kd.R_far (p := ⟨gb220, 1, none⟩) (Kd.R_far (p := ⟨gb220, 0, none⟩) (Kd.R_types HO213.out BK220.out (by decide)) (fun _ hk => hk.2) (.int .i64 t216)) (fun _ hk => hk.2) (.slice Ao24 t217.length co24)) (fun _ h_ => h_.1))) hb); have n1_ := am (Kd.R_below (by (with_reducible repeat (first | apply Kd.R_alloc | apply Kd.R_drewN | apply Kd.R_drew)); exact (Kd.R_mono (Kd.R_far (p := ⟨gb220, 1, none⟩) (Kd.R_far (p := ⟨gb220, 0, none⟩) (Kd.R_types HO219.out BK220.out (by decide)) (fun _ hk => hk.2) (.int .i64 t216)) (fun _ hk => hk.2) (.slice Ao24 t217.length co24)) (fun _ h_ => h_.1))) hb); have n2_ := am (blk_below (g := gb208) (o := .cells #[.int .i64 a0_0, .slice A0_1 l0_1.length c0_1] 24 (0, 0)) (by (with_reducible repeat (first | refine blk_drewN ?_ _ | refine blk_drew ?_ | refine blk_alloc ?_ _)); refine blk_far ?_ NB208_220.out _; (with_reducible repeat (first | refine blk_drewN ?_ _ | refine blk_drew ?_ | refine blk_alloc ?_ _)); refine blk_far ?_ NB208_220.out _; (with_reducible repeat (first | refine blk_drewN ?_ _ | refine blk_drew ?_ | refine blk_alloc ?_ _)); exact BK208.out) hb); have n3_ := am (blk_below (g := gb220) (o := .cells #[.int .i64 t216, .slice Ao24 t217.length co24] 30 (0, 0)) (by (with_reducible repeat (first | refine blk_drewN ?_ _ | refine blk_drew ?_ | refine blk_alloc ?_ _)); refine blk_put (cs := #[.int .i64 t216, .slice none 0 0]) ?_ 1 _ rfl; (with_reducible repeat (first | refine blk_drewN ?_ _ | refine blk_drew ?_ | refine blk_alloc ?_ _)); refine blk_put (cs := #[.int .i64 0, .slice none 0 0]) ?_ 0 _ rfl; (with_reducible repeat (first | refine blk_drewN ?_ _ | refine blk_drew ?_ | refine blk_alloc ?_ _)); exact BK220.out) hb); have n4_ := am (below_step (by repeat (first | (with_reducible first | exact HB.out | apply below_alloc | apply pw_below_drewN | apply below_drew1 | refine below_set ?_ (Aside0.out (by assumption))) | exact HB.out)) hb); clear HO213; clear HO219; clear BK208; clear BK220; clear HB; have HO213 := n0_; have HO219 := n1_; have BK208 := n2_; have BK220 := n3_; have HB := n4_; clear n0_ n1_ n2_ n3_ n4_; (try clear hb); (try clear hb2); (try clear hk); (try clear hi)))
  (try simp only [Act.put, List.setIfInBounds_toArray, List.set_cons_zero, List.set_cons_succ])
  go_cut [34] (fun v34 wc => ∃ (kq : Nat) (x34_10 : Bool), v34 = .bool x34_10 ∧ Aside0 (laws_FnExactPuzzleText.j0 kq x34_10 a0_0 l0_1 t216 t217 = some r) ∧ Aside0 (kq ≤ k) ∧ Aside0 (Kd.R k41 41 wc w.heap.size (fun _ => True) (.slice Ao24 t217.length co24) t217) ∧ Aside0 (wc.heap[gb208]? = some (.cells #[.int .i64 a0_0, (.slice A0_1 l0_1.length c0_1)] 24 (0, 0))) ∧ Aside0 (wc.heap[gb220]? = some (.cells #[.int .i64 t216, (.slice Ao24 t217.length co24)] 30 (0, 0))) ∧ Aside0 (Below w.heap.size w wc))
  case first =>
   have H := HC11.out
   clear HC11
   by_cases c26 : t221.toList = t214.toList
   ·rw [if_pos c26] at H
    have c26b0 : (t221.toList == t214.toList) = true := beq_iff_eq.mpr c26
    have c26b1 : (t221.toList != t214.toList) = false := bne_eq_false_iff_eq.mpr c26
    clear c26
    (first | rw [c26b0] | (simp only [i64_w, i32_w]; rw [c26b0]) | skip)
    have H' := am H
    clear H
    go_wp2
    go_meet
    case rel => exact ⟨_, ((t222 != t215)), (by first | rfl | (simp; done) | (simp [*]; done)), H', ⟨by first | omega | exact Nat.le_refl _⟩, ⟨by (with_reducible repeat (first | apply Kd.R_alloc | apply Kd.R_drewN | apply Kd.R_drew)); exact Kd.R_mono HO219.out (fun _ hk => trivial)⟩, ⟨bkS BK208.out⟩, ⟨bkS BK220.out⟩, ⟨by repeat (first | (with_reducible first | exact HB.out | apply below_alloc | apply pw_below_drewN | apply below_drew1 | refine below_set ?_ (Aside0.out (by assumption))) | exact HB.out)⟩⟩
   ·rw [if_neg c26] at H
    have c26b0 : (t221.toList == t214.toList) = false := beq_eq_false_iff_ne.mpr c26
    have c26b1 : (t221.toList != t214.toList) = true := bne_iff_ne.mpr c26
    (first | rw [c26b0] | (simp only [i64_w, i32_w]; rw [c26b0]) | skip)
    have H' := am H
    clear H
    go_wp2
    go_meet
    case rel => exact ⟨_, (true), (by first | rfl | (simp; done) | (simp [*]; done)), H', ⟨by first | omega | exact Nat.le_refl _⟩, ⟨by (with_reducible repeat (first | apply Kd.R_alloc | apply Kd.R_drewN | apply Kd.R_drew)); exact Kd.R_mono HO219.out (fun _ hk => trivial)⟩, ⟨bkS BK208.out⟩, ⟨bkS BK220.out⟩, ⟨by repeat (first | (with_reducible first | exact HB.out | apply below_alloc | apply pw_below_drewN | apply below_drew1 | refine below_set ?_ (Aside0.out (by assumption))) | exact HB.out)⟩⟩
  case rest =>
   clear HC11
   try clear c2
   try clear p2
   try clear c3
   try clear c3b0
   try clear c4
   try clear c5
   try clear c6
   try clear c7
   try clear c22
   try clear c26
   try clear c26b0
   try clear c26b1
   try clear hcz13_0
   try clear hcz13_1
   try clear hcz15_0
   try clear hcz15_1
   try clear hcz19_0
   try clear hcz19_1
   try clear hcz23_0
   try clear hcz23_1
   try clear hcz5_0
   try clear hcz5_1
   try clear hfz13_0
   try clear hfz13_1
   try clear hfz15_0
   try clear hfz15_1
   try clear hfz19_0
   try clear hfz19_1
   try clear hfz23_0
   try clear hfz23_1
   try clear hfz5_0
   try clear hfz5_1
   obtain ⟨kq, x34_10, rfl, HA, HJ10, HO_221001, BK208, BK220, HB⟩ := hcut
   cases kq with
   | zero => exact absurd HA.out (by simp [laws_FnExactPuzzleText.j0])
   | succ kj10 =>
    have H := HA.out
    clear HA
    simp only [laws_FnExactPuzzleText.j0] at H
    by_cases c27 : x34_10 = true
    ·subst c27
     have H1 : (none) = some r := by rw [if_pos rfl] at H; exact H
     clear H
     have H := H1
     clear H1
     exact absurd H (by simp)
    ·replace c27 := Bool.eq_false_iff.mpr c27
     subst c27
     have H1 : ((laws_toPuzzle.f kj10 a0_0 l0_1).bind fun bt223 => ((laws_eqPuzzle.f kj10 t216 t217 bt223.1 bt223.2).bind fun t227 => (if t227 = true then (some true) else (none)))) = some r := by rw [if_neg (show ¬ (false = true) by decide)] at H; exact H
     clear H
     have H := H1
     clear H1
     replace H := Option.bind_eq_some_iff.mp H
     obtain ⟨⟨t223, t224⟩, A280, H⟩ := H
     replace H : ((laws_eqPuzzle.f kj10 t216 t217 t223 t224).bind fun t227 => (if t227 = true then (some true) else (none))) = some r := H
     have A28 := am A280
     clear A280
     replace H := Option.bind_eq_some_iff.mp H
     obtain ⟨t227, A290, H⟩ := H
     replace H : (if t227 = true then (some true) else (none)) = some r := H
     have A29 := am A290
     clear A290
     by_cases c30 : t227 = true
     ·subst c30
      have H1 : (some true) = some r := by rw [if_pos rfl] at H; exact H
      clear H
      have H := H1
      clear H1
      obtain rfl := Option.some.inj H
      try go_wp2
      have n0_ := am (Kd.R_drew HO_221001.out)
      have n1_ := am (blk_drew BK208.out)
      have n2_ := am (blk_drew BK220.out)
      have n3_ := am (below_drew1 HB.out)
      clear HO_221001
      clear BK208
      clear BK220
      clear HB
      have HO_221001 := n0_
      have BK208 := n1_
      have BK220 := n2_
      have HB := n3_
      clear n0_ n1_ n2_ n3_
      refine start_ (n := 5) (S := fun w' => w'.cell? ⟨gb220, 0, none⟩ = some (.int .i64 t216) ∧ w'.cell? ⟨gb220, 1, none⟩ = some (.slice Ao24 t217.length co24) ∧ w'.cell? ⟨gb208, 0, none⟩ = some (.int .i64 a0_0) ∧ w'.cell? ⟨gb208, 1, none⟩ = some (.slice A0_1 l0_1.length c0_1)) (ds := []) #[false, false, false, false, false] (by kernel_rfl) rfl rfl ⟨(blk_cell BK220.out 0).trans rfl, (blk_cell BK220.out 1).trans rfl, (blk_cell BK208.out 0).trans rfl, (blk_cell BK208.out 1).trans rfl⟩ (fun hHeld => ?_)
      generalize wc.drew = w31 at HO_221001 BK208 BK220 HB hHeld ⊢
      refine take_ (i := 0) (N := some 35) (v := ?_) (a' := ?_) #[true, false, false, false, false] rfl rfl (by kernel_rfl) (fun _ _ _ h => h) (Or.inl ⟨by rfl, ?_⟩) hHeld ?_ ?_
      rotate_left
      ·rintro w' ⟨s0, s1, s2, s3⟩
       go_simp
       with_reducible rfl
      rotate_left
      ·simp only [Act.put, List.setIfInBounds_toArray, List.set_cons_zero, List.set_cons_succ, i64_w, i32_w]
       rfl
      refine take_ (i := 1) (N := some 36) (v := ?_) (a' := ?_) #[true, true, false, false, false] rfl rfl (by kernel_rfl) (fun _ _ _ h => h) (Or.inl ⟨by rfl, ?_⟩) hHeld ?_ ?_
      rotate_left
      ·rintro w' ⟨s0, s1, s2, s3⟩
       go_simp
       with_reducible rfl
      rotate_left
      ·simp only [Act.put, List.setIfInBounds_toArray, List.set_cons_zero, List.set_cons_succ, i64_w, i32_w]
       rfl
      refine one_ (i := 2) (N := some 37) #[true, true, true, false, false] rfl rfl (by kernel_rfl) (by decide) (fun K hK => ?_)
      refine goes_ Tryd.func6 (by kernel_rfl) rfl #[.agg #[.int .i64 a0_0, .slice A0_1 l0_1.length c0_1]] (by rfl) rfl rfl (by (try simp only [List.map_toArray, List.map_cons, List.map_nil]); first | done | rfl | (simp only [List.length_drop, List.length_take]; rfl)) ?_
      with_reducible refine (laws_toPuzzle.calls kj10 a0_0 _ _ l0_1 t223 t224 _ ?side1 ?side2 A28.out).mono ?_
      (case side1 => repeat (first | exact (Kd.C_below HR0_1.out HB.out) | (with_reducible refine Kd.C_alloc ?_ _) | (with_reducible refine Kd.C_drewN ?_ _) | (with_reducible refine Kd.C_drew ?_)))
      (case side2 => exact HC0_1.out)
      rintro e w32 ⟨v225, rfl, ho0, hb⟩
      refine ⟨_, rfl, ?_⟩
      have n0_ := am (Kd.R_elder' (roS HO_221001.out) (Kd.R_base ho0) hb)
      have n1_ := am (Kd.R_lower (Kd.R_new' ho0 (Kd.R_lt (roS HO_221001.out))) (below_size (by repeat (first | (with_reducible first | exact HB.out | apply below_alloc | apply pw_below_drewN | apply below_drew1 | refine below_set ?_ (Aside0.out (by assumption))) | exact HB.out))))
      have n2_ := am (blk_below (bkS BK208.out) hb)
      have n3_ := am (blk_below (bkS BK220.out) hb)
      have n4_ := am (below_step (by repeat (first | (with_reducible first | exact HB.out | apply below_alloc | apply pw_below_drewN | apply below_drew1 | refine below_set ?_ (Aside0.out (by assumption))) | exact HB.out)) hb)
      clear HO_221001
      clear BK208
      clear BK220
      clear HB
      have HO_221001 := n0_
      have HO226 := n1_
      have BK208 := n2_
      have BK220 := n3_
      have HB := n4_
      clear n0_ n1_ n2_ n3_ n4_
      (try clear hb)
      (try clear hb2)
      (try clear hk)
      (try clear hi)
      (try clear ho0)
      obtain ⟨Ao33, co33, eo33⟩ := Kd.R_slice HO226.out
      (first | subst eo33 | (injection eo33 with f1_ f2_ f3_; have f4_ := f1_.symm; have f5_ := f3_.symm; clear f1_ f2_ f3_; subst f4_; subst f5_))
      refine hK.out _ _ ⟨(blk_cell BK220.out 0).trans rfl, (blk_cell BK220.out 1).trans rfl, (blk_cell BK208.out 0).trans rfl, (blk_cell BK208.out 1).trans rfl⟩ (fun hHeld => ?_)
      clear hK K
      refine norm_ (a' := ?_) ?_ ?_
      rotate_left
      ·show Act.put _ (some 37) _ = _
       simp only [Act.put, List.setIfInBounds_toArray, List.set_cons_zero, List.set_cons_succ, i64_w, i32_w]
       rfl
      refine one_ (i := 3) (N := some 38) #[true, true, true, true, false] rfl rfl (by kernel_rfl) (by decide) (fun K hK => ?_)
      refine goes_ Tryd.func8 (by kernel_rfl) rfl #[.agg #[.int .i64 t216, .slice Ao24 t217.length co24], .agg #[.int .i64 t223, .slice Ao33 t224.length co33]] (by rfl) rfl rfl (by (try simp only [List.map_toArray, List.map_cons, List.map_nil]); first | done | rfl | (simp only [List.length_drop, List.length_take]; rfl)) ?_
      with_reducible refine (laws_eqPuzzle.calls kj10 t216 _ _ t217 t223 _ _ t224 true _ ?side1 ?side2 ?side3 ?side4 A29.out).mono ?_
      (case side1 => repeat (first | exact (Kd.R_reads' HO_221001.out).2.2 | (with_reducible refine Kd.C_alloc ?_ _) | (with_reducible refine Kd.C_drewN ?_ _) | (with_reducible refine Kd.C_drew ?_)))
      (case side2 => exact (Kd.R_reads' HO_221001.out).2.1)
      (case side3 => repeat (first | exact (Kd.R_reads' HO226.out).2.2 | (with_reducible refine Kd.C_alloc ?_ _) | (with_reducible refine Kd.C_drewN ?_ _) | (with_reducible refine Kd.C_drew ?_)))
      (case side4 => exact (Kd.R_reads' HO226.out).2.1)
      rintro e w34 ⟨rfl, hb⟩
      refine ⟨_, rfl, ?_⟩
      have n0_ := am (Kd.R_below (roS HO_221001.out) hb)
      have n1_ := am (Kd.R_below (roS HO226.out) hb)
      have n2_ := am (blk_below (bkS BK208.out) hb)
      have n3_ := am (blk_below (bkS BK220.out) hb)
      have n4_ := am (below_step (by repeat (first | (with_reducible first | exact HB.out | apply below_alloc | apply pw_below_drewN | apply below_drew1 | refine below_set ?_ (Aside0.out (by assumption))) | exact HB.out)) hb)
      clear HO_221001
      clear HO226
      clear BK208
      clear BK220
      clear HB
      have HO_221001 := n0_
      have HO226 := n1_
      have BK208 := n2_
      have BK220 := n3_
      have HB := n4_
      clear n0_ n1_ n2_ n3_ n4_
      (try clear hb)
      (try clear hb2)
      (try clear hk)
      (try clear hi)
      refine hK.out _ _ ⟨(blk_cell BK220.out 0).trans rfl, (blk_cell BK220.out 1).trans rfl, (blk_cell BK208.out 0).trans rfl, (blk_cell BK208.out 1).trans rfl⟩ (fun hHeld => ?_)
      clear hK K
      refine norm_ (a' := ?_) ?_ ?_
      rotate_left
      ·show Act.put _ (some 38) _ = _
       simp only [Act.put, List.setIfInBounds_toArray, List.set_cons_zero, List.set_cons_succ, i64_w, i32_w]
       rfl
      refine pure_ (i := 4) (N := some 39) (v := ?_) (a' := ?_) #[true, true, true, true, true] rfl rfl (by kernel_rfl) (fun _ _ _ h => h) (Or.inl ⟨by rfl, ?_⟩) ?_ ?_
      rotate_left
      ·intro w'
       go_simp
       with_reducible rfl
      rotate_left
      ·simp only [Act.put, List.setIfInBounds_toArray, List.set_cons_zero, List.set_cons_succ, i64_w, i32_w]
       rfl
      refine done_ (by kernel_rfl) ?_
      try go_wp2
      go_ret
      exact ⟨by first | rfl | (simp [errW_none, errW_some] <;> rfl) | (simp [*, errW_none, errW_some] <;> rfl), by repeat (first | (with_reducible first | exact HB.out | apply below_alloc | apply pw_below_drewN | apply below_drew1 | refine below_set ?_ (Aside0.out (by assumption))) | exact HB.out)⟩
     ·replace c30 := Bool.eq_false_iff.mpr c30
      subst c30
      have H1 : (none) = some r := by rw [if_neg (show ¬ (false = true) by decide)] at H; exact H
      clear H
      have H := H1
      clear H1
      exact absurd H (by simp)
end Go.Proofs.YtonifgfgeollaaaDoor.X
end
section
-- Written by a program of this session (wip/tools/mp.py) over the kit's print of the translation.
namespace Go.Proofs.YtonifgfgeollaaaDoor.X
open Go.RowKit Go.Proofs.YtonifgfgeollaaaDoorW.PrintWords Go.Proofs.YtonifgfgeollaaaDoorW.PrintLast Go.Proofs.YtonifgfgeollaaaDoorW.PrintMore
attribute [local go_sem] max2_int min2_int max_two min_two max_three min_three max_four min_four   -- for this text's walks alone
set_option linter.unusedVariables false
set_option linter.unusedSimpArgs false
/-- The pure statement of FnExactPuzzleText. -/
def laws_FnExactPuzzleText.Pure : Prop := ∀ (a0_0 : Int) (l0_1 : List (S45)), (Lit.int .i64 a0_0).wf = true → (l0_1.length ≤ maxLen ∧ ∀ y ∈ l0_1, ((Lit.int .i64 y.f0).wf = true ∧ (Lit.int .i64 y.f1).wf = true ∧ (Lit.int .i64 y.f2).wf = true)) → ∃ k, laws_FnExactPuzzleText.f k a0_0 l0_1 = some true
end Go.Proofs.YtonifgfgeollaaaDoor.X
end
section
/- Small words on rounds, numbers and lists. -/
namespace Go.Proofs.YtonifgfgeollaaaDoor.X
open Go.Proofs.YtonifgfgeollaaaDoor.Sq Go.RowKit Go.Proofs.YtonifgfgeollaaaDoorW.PrintWords Go.Proofs.YtonifgfgeollaaaDoorW.PrintLast Go.Proofs.YtonifgfgeollaaaDoorW.PrintMore
attribute [local go_sem] max2_int min2_int max_two min_two max_three min_three max_four min_four   -- for this text's walks alone
set_option linter.unusedVariables false
set_option linter.unusedSimpArgs false
theorem w64 {x : Int} (h : -9223372036854775808 ≤ x) (h' : x ≤ 9223372036854775807) : wrap64 x = x := by
  unfold wrap64
  omega
theorem evPos {α : Type} {c : Prop} [Decidable c] {g f : Nat → Option α} {r : α} (hc : c) (h : Ev g r) : Ev (fun k => if c then g k else f k) r := by
  obtain ⟨K, hK⟩ := h
  exact ⟨K, fun k hk => (if_pos hc).trans (hK k hk)⟩
theorem evNeg {α : Type} {c : Prop} [Decidable c] {g f : Nat → Option α} {r : α} (hc : ¬ c) (h : Ev f r) : Ev (fun k => if c then g k else f k) r := by
  obtain ⟨K, hK⟩ := h
  exact ⟨K, fun k hk => (if_neg hc).trans (hK k hk)⟩
theorem evSplit {α : Type} {c : Prop} [Decidable c] {g f : Nat → Option α} {r : α} (h : c → Ev g r) (h' : ¬ c → Ev f r) : Ev (fun k => if c then g k else f k) r := by
  by_cases hc : c
  · exact evPos hc (h hc)
  · exact evNeg hc (h' hc)
theorem evBind0 {α β : Type} {o : Option α} {f : Nat → α → Option β} {a : α} {r : β} (h : o = some a) (k : Ev (fun n => f n a) r) : Ev (fun n => o.bind (f n)) r := by
  obtain ⟨K, hK⟩ := k
  exact ⟨K, fun k hk => by rw [h]; exact hK k hk⟩
theorem evEq {α : Type} {g : Nat → Option α} {r r' : α} (h : Ev g r) (e : r = r') : Ev g r' := e ▸ h
theorem evSome {α : Type} {r r' : α} (e : r = r') : Ev (fun _ => some r) r' := ⟨0, fun _ _ => by rw [e]⟩
/-- A list that is filled place by place. -/
theorem set_mid {α : Type} (m z : List α) (i : Nat) (h : i < m.length) (hz : z.length = m.length) : (m.take i ++ z.drop i).set i (m[i]'h) = m.take (i + 1) ++ z.drop (i + 1) := by
  have h1 : (m.take i).length = i := by rw [List.length_take]; omega
  rw [List.set_append_right _ _ (by omega), h1, Nat.sub_self]
  have h2 : z.drop i = (z[i]'(by omega)) :: z.drop (i + 1) := List.drop_eq_getElem_cons (by omega)
  rw [h2, List.set_cons_zero, List.take_succ_eq_append_getElem h, List.append_assoc]
  rfl
theorem mid_len {α : Type} (m z : List α) (i : Nat) (hz : z.length = m.length) (h : i ≤ m.length) : (m.take i ++ z.drop i).length = m.length := by
  rw [List.length_append, List.length_take, List.length_drop]
  omega
theorem getD_drop_cons {α : Type} (l : List α) (i : Nat) (d : α) (h : i < l.length) : l.drop i = l.getD i d :: l.drop (i + 1) := by
  rw [List.drop_eq_getElem_cons h, List.getD_eq_getElem?_getD, List.getElem?_eq_getElem h]
  rfl
theorem getD_map' {α β : Type} (l : List α) (f : α → β) (i : Nat) (d : α) (e : β) (h : i < l.length) : (l.map f).getD i e = f (l.getD i d) := by
  rw [List.getD_eq_getElem?_getD, List.getD_eq_getElem?_getD, List.getElem?_map, List.getElem?_eq_getElem h]
  rfl
theorem getElem_getD {α : Type} (l : List α) (i : Nat) (d : α) (h : i < l.length) : l[i]'h = l.getD i d := by
  rw [List.getD_eq_getElem?_getD, List.getElem?_eq_getElem h]
  rfl
end Go.Proofs.YtonifgfgeollaaaDoor.X
end
section
/- Lists of clues compared with themselves. -/
--! needs LBase laws_eqClueS laws_eqPuzzle
namespace Go.Proofs.YtonifgfgeollaaaDoor.X
open Go.Proofs.YtonifgfgeollaaaDoor.Sq Go.RowKit Go.Proofs.YtonifgfgeollaaaDoorW.PrintWords Go.Proofs.YtonifgfgeollaaaDoorW.PrintLast Go.Proofs.YtonifgfgeollaaaDoorW.PrintMore
attribute [local go_sem] max2_int min2_int max_two min_two max_three min_three max_four min_four   -- for this text's walks alone
set_option linter.unusedVariables false
set_option linter.unusedSimpArgs false
theorem eqClue_eq (a b : S41) : laws_eqClue.f a.f0 a.f1 a.f2 b.f0 b.f1 b.f2 = some (decide (a.f0 = b.f0 ∧ a.f1 = b.f1 ∧ a.f2 = b.f2)) := by
  unfold laws_eqClue.f
  by_cases h0 : a.f0 = b.f0 <;> by_cases h1 : a.f1 = b.f1 <;> by_cases h2 : a.f2 = b.f2 <;> simp [h0, h1, h2]
theorem eqClueS_l0 (l : List S41) (hl : l.length ≤ 9223372036854775800) (d : Nat) : ∀ i : Nat, i + d = l.length → Ev (fun k => laws_eqClueS.l0 k l l (i : Int)) true := by
  induction d with
  | zero =>
    intro i hi
    refine Ev.step (fun k => by rw [laws_eqClueS.l0]) ?_
    exact evNeg (by omega) (evSome rfl)
  | succ d ih =>
    intro i hi
    refine Ev.step (fun k => by rw [laws_eqClueS.l0]) ?_
    refine evPos (by omega) (evPos (by omega) (evPos (by omega) ?_))
    refine evBind0 (eqClue_eq _ _) ?_
    refine evPos (by simp) ?_
    rw [w64 (by omega) (by omega)]
    exact ih (i + 1) (by omega)
theorem eqClueS_self (l : List S41) (hl : l.length ≤ 9223372036854775800) : Ev (fun k => laws_eqClueS.f k l l) true := by
  unfold laws_eqClueS.f
  exact evPos rfl (eqClueS_l0 l hl l.length 0 (by omega))
theorem eqPuzzle_self (p : Int) (l : List S41) (hl : l.length ≤ 9223372036854775800) : Ev (fun k => laws_eqPuzzle.f k p l p l) true := by
  unfold laws_eqPuzzle.f
  exact evPos rfl (Ev.bind (eqClueS_self l hl) (evPos rfl (evSome rfl)))
end Go.Proofs.YtonifgfgeollaaaDoor.X
end
section
/- Lists of clues: turned, compared, marked and looked at as the laws do. -/
--! needs LBase LClueEq laws_toClueS laws_szPuzzle
namespace Go.Proofs.YtonifgfgeollaaaDoor.X
open Go.Proofs.YtonifgfgeollaaaDoor.Sq Go.RowKit Go.Proofs.YtonifgfgeollaaaDoorW.PrintWords Go.Proofs.YtonifgfgeollaaaDoorW.PrintLast Go.Proofs.YtonifgfgeollaaaDoorW.PrintMore
attribute [local go_sem] max2_int min2_int max_two min_two max_three min_three max_four min_four   -- for this text's walks alone
set_option linter.unusedVariables false
set_option linter.unusedSimpArgs false
def cvClue (x : S45) : S41 := ⟨x.f0, x.f1, x.f2⟩
theorem toClueS_l0 (l : List S45) (hl : l.length ≤ 1048576) (z : List S41) (hz : z.length = l.length) (d : Nat) : ∀ i : Nat, i + d = l.length →
    Ev (fun k => laws_toClueS.l0 k l ((l.map cvClue).take i ++ z.drop i) (i : Int)) (l.map cvClue) := by
  induction d with
  | zero =>
    intro i hi
    refine Ev.step (fun k => by rw [laws_toClueS.l0]) ?_
    refine evNeg (by omega) (evSome ?_)
    rw [List.take_of_length_le (by simp; omega), List.drop_of_length_le (by omega), List.append_nil]
  | succ d ih =>
    intro i hi
    refine Ev.step (fun k => by rw [laws_toClueS.l0]) ?_
    refine evPos (by omega) (evPos (by omega) ?_)
    unfold laws_toClue.f
    refine evBind0 rfl ?_
    refine evPos (by rw [mid_len _ _ _ (by simp; omega) (by simp; omega)]; simp; omega) ?_
    have h1 := set_mid (l.map cvClue) z i (by simp; omega) (by simp; omega)
    rw [w64 (by omega) (by omega)]
    have h2 := ih (i + 1) (by omega)
    rw [← h1] at h2
    have h3 : (l.map cvClue)[i]'(by simp; omega) = ⟨(rd_T45 l i).f0, (rd_T45 l i).f1, (rd_T45 l i).f2⟩ := by
      rw [List.getElem_map, getElem_getD l i z45 (by omega)]; rfl
    rw [h3] at h2
    exact h2
theorem toClueS_ev (l : List S45) (hl : l.length ≤ 1048576) : Ev (fun k => laws_toClueS.f k l) (l.map cvClue) := by
  unfold laws_toClueS.f
  refine evPos (by omega) (evPos (by omega) ?_)
  have h := toClueS_l0 l hl (List.replicate ((l.length : Int) : Int).toNat z41) (by simp) l.length 0 (by omega)
  simpa using h
theorem toPuzzle_ev (p : Int) (l : List S45) (hl : l.length ≤ 1048576) : Ev (fun k => laws_toPuzzle.f k p l) (p, l.map cvClue) := by
  unfold laws_toPuzzle.f
  exact Ev.bind (toClueS_ev l hl) (evSome rfl)
theorem szPuzzle_eq (p : Int) (l : List S45) (hl : l.length ≤ maxLen) : laws_szPuzzle.f p l 1048576 = some (if 1048576 < l.length then -1 else 1048576 - (l.length : Int)) := by
  unfold maxLen at hl
  unfold laws_szPuzzle.f laws_szClueS.f
  rw [w64 (by omega) (by omega)]
  by_cases h : 1048576 < l.length
  · rw [if_pos (by omega), if_pos h]; rfl
  · rw [if_neg (by omega), if_neg h]
    show (if (1048576 - (l.length : Int)) < 0 then _ else _) = _
    rw [if_neg (by omega)]
end Go.Proofs.YtonifgfgeollaaaDoor.X
end
section
/- Numbers told in decimal: the program and the reference. -/
--! needs LBase strconv_Itoa spec_l1Num
namespace Go.Proofs.YtonifgfgeollaaaDoor.X
open Go.Proofs.YtonifgfgeollaaaDoor.Sq Go.RowKit Go.Proofs.YtonifgfgeollaaaDoorW.PrintWords Go.Proofs.YtonifgfgeollaaaDoorW.PrintLast Go.Proofs.YtonifgfgeollaaaDoorW.PrintMore
attribute [local go_sem] max2_int min2_int max_two min_two max_three min_three max_four min_four   -- for this text's walks alone
set_option linter.unusedVariables false
set_option linter.unusedSimpArgs false
/-- The text with these bytes. -/
def bl (l : List UInt8) : ByteArray := ⟨l.toArray⟩
theorem bl_size (l : List UInt8) : (bl l).size = l.length := by
  show l.toArray.size = l.length
  simp
theorem bl_append (a b : List UInt8) : bl a ++ bl b = bl (a ++ b) := by
  apply ByteArray.ext
  rw [ByteArray.data_append]
  show a.toArray ++ b.toArray = (a ++ b).toArray
  simp
theorem bl_data (r : ByteArray) : bl r.data.toList = r := by
  unfold bl
  rw [Array.toArray_toList]
theorem dec_len (n : Nat) : (Lib.decDigits n).length ≤ n + 1 := by
  induction n using Nat.strongRecOn with
  | ind n ih =>
    rw [Lib.decDigits]
    split
    · simp
    · rename_i h
      have := ih (n / 10) (by omega)
      rw [List.length_append]
      simp only [List.length_cons, List.length_nil]
      omega
theorem Itoa_eq (n : Nat) (h : n ≤ 1000000000000000) : strconv_Itoa.f (n : Int) = some (bl (Lib.decDigits n)) := by
  unfold strconv_Itoa.f
  rw [if_pos (by omega), Lib.itoa_nonneg]
  rfl
theorem digit_str : ((List.range 10).all fun d => (strOfNums [(48 + (d : Int)) % 256]).data.toList == [UInt8.ofNat (48 + d)]) = true := by decide +kernel
theorem digit_eq (d : Nat) (h : d < 10) : strOfNums [(48 + (d : Int)) % 256] = bl [UInt8.ofNat (48 + d)] := by
  have h1 := digit_str
  rw [List.all_eq_true] at h1
  have h2 := h1 d (List.mem_range.2 h)
  rw [beq_iff_eq] at h2
  rw [← h2, bl_data]
theorem l1Num_ev (n : Nat) : n ≤ 1000000000000000 → Ev (fun k => spec_l1Num.f k (n : Int)) (bl (Lib.decDigits n)) := by
  induction n using Nat.strongRecOn with
  | ind n ih =>
    intro hn
    refine Ev.step (fun k => by rw [spec_l1Num.f]) ?_
    by_cases c : n < 10
    · refine evPos (by omega) (evSome ?_)
      rw [w64 (by omega) (by omega), digit_eq n c, Lib.decDigits, dif_pos c]
    · refine evNeg (by omega) ?_
      have h10 : Int.tdiv (n : Int) 10 = ((n / 10 : Nat) : Int) := rfl
      have hm10 : Int.tmod (n : Int) 10 = ((n % 10 : Nat) : Int) := rfl
      rw [h10, hm10, w64 (x := ((n / 10 : Nat) : Int)) (by omega) (by omega), w64 (x := 48 + ((n % 10 : Nat) : Int)) (by omega) (by omega)]
      refine Ev.bind (ih (n / 10) (by omega) (by omega)) (evBind0 rfl ?_)
      rw [digit_eq (n % 10) (Nat.mod_lt _ (by omega)), bl_size, bl_size]
      have hl := dec_len (n / 10)
      refine evPos (by simp only [List.length_cons, List.length_nil]; omega) (evSome ?_)
      rw [bl_append]
      conv => rhs; rw [Lib.decDigits, dif_neg c]
end Go.Proofs.YtonifgfgeollaaaDoor.X
end
section
/- A number within bounds. -/
--! needs impl_within spec_l1In
namespace Go.Proofs.YtonifgfgeollaaaDoor.X
open Go.Proofs.YtonifgfgeollaaaDoor.Sq Go.RowKit Go.Proofs.YtonifgfgeollaaaDoorW.PrintWords Go.Proofs.YtonifgfgeollaaaDoorW.PrintLast Go.Proofs.YtonifgfgeollaaaDoorW.PrintMore
attribute [local go_sem] max2_int min2_int max_two min_two max_three min_three max_four min_four   -- for this text's walks alone
set_option linter.unusedVariables false
set_option linter.unusedSimpArgs false
def inB (a l h : Int) : Bool := decide (l ≤ a) && decide (a ≤ h)
theorem within_eq (a l h : Int) : impl_within.f a l h = some (inB a l h) := by
  unfold impl_within.f inB
  by_cases c : l ≤ a <;> simp [c]
theorem l1In_eq (a l h : Int) : spec_l1In.f a l h = some (inB a l h) := by
  unfold spec_l1In.f inB
  by_cases c : l ≤ a
  · rw [if_pos (by omega)]; simp [c]
  · rw [if_neg (by omega)]; simp [c]
end Go.Proofs.YtonifgfgeollaaaDoor.X
end
section
/- What makes a clue, in plain Lean: the program's and the reference's test come to the same. -/
--! needs LIn impl_IsClue spec_pzClue impl_arePlacesOf
namespace Go.Proofs.YtonifgfgeollaaaDoor.X
open Go.Proofs.YtonifgfgeollaaaDoor.Sq Go.RowKit Go.Proofs.YtonifgfgeollaaaDoorW.PrintWords Go.Proofs.YtonifgfgeollaaaDoorW.PrintLast Go.Proofs.YtonifgfgeollaaaDoorW.PrintMore
attribute [local go_sem] max2_int min2_int max_two min_two max_three min_three max_four min_four   -- for this text's walks alone
set_option linter.unusedVariables false
set_option linter.unusedSimpArgs false
def clueB (p k a b : Int) : Bool :=
  if k = 0 ∨ k = 5 then decide (a = 0) && inB b 0 p else if k = 1 then inB a 1 p && inB b 0 1 else if k = 2 then inB a 1 9 && inB b 0 9 else if k = 3 then decide (a = 0) && inB b 1 9 else if k = 4 then inB a 1 9 && inB b 0 256 else false
theorem arePlacesOf_eq (p : Int) : impl_arePlacesOf.f p = some (inB p 1 8) := by
  unfold impl_arePlacesOf.f
  rw [within_eq]; rfl
theorem pzClue_eq (n : Nat) (p k a b : Int) : spec_pzClue.f (n + 1) p k a b = some (clueB p k a b) := by
  unfold spec_pzClue.f clueB
  simp only [spec_pzClue.j0, l1In_eq, Option.bind_some]
  by_cases h0 : k = 0
  · subst h0; by_cases ha : a = 0 <;> simp [ha]
  · by_cases h5 : k = 5
    · subst h5; by_cases ha : a = 0 <;> simp [ha]
    · simp only [h0, h5, if_false, or_false, beq_iff_eq]
      by_cases h1 : k = 1
      · simp only [h1, if_true]; cases inB a 1 p <;> simp
      · by_cases h2 : k = 2
        · subst h2; cases h : inB a 1 9 <;> simp
        · by_cases h3 : k = 3
          · subst h3; by_cases ha : a = 0 <;> simp [ha]
          · by_cases h4 : k = 4
            · subst h4; cases h : inB a 1 9 <;> simp
            · simp [h1, h2, h3, h4]
theorem IsClue_impl (n : Nat) (p k a b : Int) : impl_IsClue.f (n + 1) p k a b = some (inB p 1 8 && clueB p k a b) := by
  unfold impl_IsClue.f clueB
  rw [arePlacesOf_eq]
  cases inB p 1 8
  · simp
  simp only [impl_IsClue.j0, within_eq, Option.bind_some, if_true, Bool.true_and]
  by_cases h0 : k = 0
  · subst h0; by_cases ha : a = 0 <;> simp [ha]
  · by_cases h5 : k = 5
    · subst h5; by_cases ha : a = 0 <;> simp [ha]
    · simp only [h0, h5, if_false, or_false, beq_iff_eq]
      by_cases h1 : k = 1
      · simp only [h1, if_true]; cases inB a 1 p <;> simp
      · by_cases h2 : k = 2
        · subst h2; cases h : inB a 1 9 <;> simp
        · by_cases h3 : k = 3
          · subst h3; by_cases ha : a = 0 <;> simp [ha]
          · by_cases h4 : k = 4
            · subst h4; cases h : inB a 1 9 <;> simp
            · simp [h1, h2, h3, h4]
def okClue (p : Int) (c : S41) : Bool := clueB p c.f0 c.f1 c.f2
end Go.Proofs.YtonifgfgeollaaaDoor.X
end
section
/- A number of places of hidden rivers. -/
--! needs LIn spec_pzPlaces
namespace Go.Proofs.YtonifgfgeollaaaDoor.X
open Go.Proofs.YtonifgfgeollaaaDoor.Sq Go.RowKit Go.Proofs.YtonifgfgeollaaaDoorW.PrintWords Go.Proofs.YtonifgfgeollaaaDoorW.PrintLast Go.Proofs.YtonifgfgeollaaaDoorW.PrintMore
attribute [local go_sem] max2_int min2_int max_two min_two max_three min_three max_four min_four   -- for this text's walks alone
set_option linter.unusedVariables false
set_option linter.unusedSimpArgs false
theorem pzPlaces_eq (p : Int) : spec_pzPlaces.f p = some (inB p 1 8) := by
  unfold spec_pzPlaces.f
  rw [l1In_eq]; rfl
end Go.Proofs.YtonifgfgeollaaaDoor.X
end
section
/- What makes a puzzle: the program's and the reference's test come to the same. -/
--! needs LBase LPzPlaces LPzClue spec_pzGood impl_IsPuzzle_1 impl_IsPuzzle
namespace Go.Proofs.YtonifgfgeollaaaDoor.X
open Go.Proofs.YtonifgfgeollaaaDoor.Sq Go.RowKit Go.Proofs.YtonifgfgeollaaaDoorW.PrintWords Go.Proofs.YtonifgfgeollaaaDoorW.PrintLast Go.Proofs.YtonifgfgeollaaaDoorW.PrintMore
attribute [local go_sem] max2_int min2_int max_two min_two max_three min_three max_four min_four   -- for this text's walks alone
set_option linter.unusedVariables false
set_option linter.unusedSimpArgs false
def goodB (p : Int) (l : List S41) : Bool := inB p 1 8 && decide (l.length ≤ 6) && l.all (okClue p)
theorem pzGood_l0 (p : Int) (l : List S41) (hl : l.length ≤ 6) (d : Nat) : ∀ i : Nat, i + d = l.length → Ev (fun k => spec_pzGood.l0 k l (l.length : Int) (i : Int) p l) ((l.drop i).all (okClue p)) := by
  induction d with
  | zero =>
    intro i hi
    refine Ev.step (fun k => by rw [spec_pzGood.l0]) ?_
    refine evNeg (by omega) (evSome ?_)
    rw [List.drop_of_length_le (by omega)]; rfl
  | succ d ih =>
    intro i hi
    refine Ev.step (fun k => by rw [spec_pzGood.l0]) ?_
    refine evPos (by omega) (evPos (by omega) (evPos (by omega) ?_))
    refine Ev.bind (a := okClue p (rd_T41 l i)) ⟨1, fun k hk => by obtain ⟨m, rfl⟩ : ∃ m, k = m + 1 := ⟨k - 1, by omega⟩; exact pzClue_eq m _ _ _ _⟩ ?_
    have hd : l.drop i = rd_T41 l i :: l.drop (i + 1) := getD_drop_cons l i z41 (by omega)
    cases hb : okClue p (rd_T41 l i) with
    | true =>
      refine evPos rfl ?_
      rw [w64 (by omega) (by omega)]
      refine evEq (ih (i + 1) (by omega)) ?_
      rw [hd, List.all_cons, hb]; rfl
    | false =>
      refine evNeg (by simp) (evSome ?_)
      rw [hd, List.all_cons, hb]; rfl
theorem pzGood_ev (p : Int) (l : List S41) : Ev (fun k => spec_pzGood.f k p l) (goodB p l) := by
  unfold spec_pzGood.f goodB
  refine evBind0 (pzPlaces_eq p) ?_
  cases hp : inB p 1 8 with
  | false =>
    refine evNeg (by simp) ?_
    refine Ev.step (fun k => by rw [spec_pzGood.j0]) ?_
    exact evPos rfl (evSome rfl)
  | true =>
    refine evPos rfl ?_
    refine Ev.step (fun k => by rw [spec_pzGood.j0]) ?_
    by_cases h : l.length ≤ 6
    · refine evNeg (by simp; omega) ?_
      refine evEq (pzGood_l0 p l h l.length 0 (by omega)) ?_
      simp [h]
    · refine evPos (by simp; omega) (evSome ?_)
      simp [h]
theorem IsPuzzle_1_ev (p : Int) (l : List S41) (c : S41) (hp : inB p 1 8 = true) : Ev (fun k => impl_IsPuzzle_1.f k c.f0 c.f1 c.f2 p l) (!okClue p c) := by
  unfold impl_IsPuzzle_1.f
  refine Ev.bind (a := okClue p c) ⟨1, fun k hk => by obtain ⟨m, rfl⟩ : ∃ m, k = m + 1 := ⟨k - 1, by omega⟩; show impl_IsClue.f (m + 1) p c.f0 c.f1 c.f2 = _; rw [IsClue_impl m, hp]; rfl⟩ (evSome rfl)
theorem IndexIsPuzzle_l0 (p : Int) (q l : List S41) (hp : inB p 1 8 = true) (hl : l.length ≤ 6) (d : Nat) : ∀ i : Nat, i + d = l.length →
    ∃ r, Ev (fun k => slices_IndexFunc_Clue__IsPuzzle_1.l0 k l (l.length : Int) (i : Int) p q) r ∧ (decide (r ≥ 0) = !(l.drop i).all (okClue p)) := by
  induction d with
  | zero =>
    intro i hi
    refine ⟨-1, ?_, ?_⟩
    · refine Ev.step (fun k => by rw [slices_IndexFunc_Clue__IsPuzzle_1.l0]) ?_
      exact evNeg (by omega) (evSome rfl)
    · rw [List.drop_of_length_le (by omega)]; rfl
  | succ d ih =>
    intro i hi
    have hd : l.drop i = rd_T41 l i :: l.drop (i + 1) := getD_drop_cons l i z41 (by omega)
    have h1 := IsPuzzle_1_ev p q (rd_T41 l i) hp
    cases hb : okClue p (rd_T41 l i) with
    | true =>
      obtain ⟨r, hr, hr2⟩ := ih (i + 1) (by omega)
      rw [hb] at h1
      refine ⟨r, ?_, ?_⟩
      · refine Ev.step (fun k => by rw [slices_IndexFunc_Clue__IsPuzzle_1.l0]) ?_
        refine evPos (by omega) (evPos (by omega) (evPos (by omega) ?_))
        refine Ev.bind h1 ?_
        refine evNeg (by simp) ?_
        rw [w64 (by omega) (by omega)]
        exact hr
      · rw [hr2, hd, List.all_cons, hb]; rfl
    | false =>
      rw [hb] at h1
      refine ⟨(i : Int), ?_, ?_⟩
      · refine Ev.step (fun k => by rw [slices_IndexFunc_Clue__IsPuzzle_1.l0]) ?_
        refine evPos (by omega) (evPos (by omega) (evPos (by omega) ?_))
        refine Ev.bind h1 ?_
        exact evPos (by simp) (evSome rfl)
      · rw [hd, List.all_cons, hb]
        simp
theorem IsPuzzle_impl (p : Int) (l : List S41) : Ev (fun k => impl_IsPuzzle.f k p l) (goodB p l) := by
  unfold impl_IsPuzzle.f goodB
  refine evBind0 (arePlacesOf_eq p) ?_
  cases hp : inB p 1 8 with
  | false => exact evNeg (by simp) (evSome rfl)
  | true =>
    refine evPos rfl ?_
    by_cases h : l.length ≤ 6
    · refine evPos (by omega) ?_
      obtain ⟨r, hr, hr2⟩ := IndexIsPuzzle_l0 p l l hp h l.length 0 (by omega)
      unfold slices_ContainsFunc_Clue__IsPuzzle_1.f slices_IndexFunc_Clue__IsPuzzle_1.f
      refine Ev.bind (Ev.bind hr (evSome rfl)) (evSome ?_)
      rw [hr2]
      simp [h]
    · refine evNeg (by omega) (evSome ?_)
      simp [h]
theorem goodB_parts (q : Int) (l : List S41) (h : goodB q l = true) : ∃ p : Nat, q = (p : Int) ∧ 1 ≤ p ∧ p ≤ 8 ∧ l.length ≤ 6 ∧ ∀ c ∈ l, okClue (p : Int) c = true := by
  unfold goodB inB at h
  simp only [Bool.and_eq_true, decide_eq_true_eq, List.all_eq_true] at h
  obtain ⟨p, rfl⟩ : ∃ p : Nat, q = (p : Int) := ⟨q.toNat, by omega⟩
  exact ⟨p, rfl, by omega, by omega, h.1.2, h.2⟩
end Go.Proofs.YtonifgfgeollaaaDoor.X
end
section
/- Numbers told with a text between them. -/
--! needs LBase LNum strings_Join impl_joined
namespace Go.Proofs.YtonifgfgeollaaaDoor.X
open Go.Proofs.YtonifgfgeollaaaDoor.Sq Go.RowKit Go.Proofs.YtonifgfgeollaaaDoorW.PrintWords Go.Proofs.YtonifgfgeollaaaDoorW.PrintLast Go.Proofs.YtonifgfgeollaaaDoorW.PrintMore
attribute [local go_sem] max2_int min2_int max_two min_two max_three min_three max_four min_four   -- for this text's walks alone
set_option linter.unusedVariables false
set_option linter.unusedSimpArgs false
def decs (l : List Nat) : List (List UInt8) := l.map Lib.decDigits
theorem Join_eq (l : List (List UInt8)) (sep : ByteArray) (h1 : l.length ≤ 1000000) (h2 : (Lib.join l sep.data.toList).length ≤ 100000000000000) : strings_Join.f (l.map bl) sep = some (bl (Lib.join l sep.data.toList)) := by
  have hm : ((l.map bl).map (fun x : ByteArray => x.data.toList)) = l := by
    rw [List.map_map]
    exact (List.map_congr_left (fun x _ => rfl)).trans (List.map_id _)
  unfold strings_Join.f
  rw [hm, if_pos ⟨by rw [List.length_map]; omega, by omega⟩]
  rfl
theorem join_len (l : List (List UInt8)) (sep : List UInt8) (b : Nat) (hb : ∀ x ∈ l, x.length ≤ b) : (Lib.join l sep).length ≤ l.length * (b + sep.length) := by
  cases l with
  | nil => simp [Lib.join_nil]
  | cons x r =>
    rw [Lib.join_cons, List.length_append, List.length_cons, Nat.add_mul, Nat.one_mul]
    have h1 := hb x (List.mem_cons_self ..)
    have h2 : ∀ r : List (List UInt8), (∀ x ∈ r, x.length ≤ b) → (Lib.joinTail sep r).length ≤ r.length * (b + sep.length) := by
      intro r
      induction r with
      | nil => intro _; simp [Lib.joinTail]
      | cons y r ih =>
        intro hr
        have h3 := ih (fun z hz => hr z (List.mem_cons_of_mem _ hz))
        have h4 := hr y (List.mem_cons_self ..)
        unfold Lib.joinTail at h3 ⊢
        rw [List.map_cons, List.flatten_cons, List.length_append, List.length_append, List.length_cons, Nat.add_mul, Nat.one_mul]
        omega
    have h3 := h2 r (fun z hz => hb z (List.mem_cons_of_mem _ hz))
    omega
theorem joined_l0 (l : List Nat) (hl : l.length ≤ 1000) (hb : ∀ x ∈ l, x ≤ 10000000) (sep : ByteArray) (hs : sep.size ≤ 1000) (L : List Int) (hL : L = l.map (fun (x : Nat) => (x : Int))) (e : Nat) : ∀ i : Nat, i + e = l.length → Ev (fun k => impl_joined.l0 k sep (((decs l).take i).map bl) L (L.length : Int) (i : Int)) (bl (Lib.join (decs l) sep.data.toList)) := by
  have hLl : L.length = l.length := by rw [hL, List.length_map]
  have hdl : (decs l).length = l.length := by unfold decs; rw [List.length_map]
  have hjl : (Lib.join (decs l) sep.data.toList).length ≤ 100000000000000 := by
    have h1 := join_len (decs l) sep.data.toList 10000001 (fun x hx => by
      unfold decs at hx
      obtain ⟨y, hy, rfl⟩ := List.mem_map.1 hx
      have := dec_len y
      have := hb y hy
      omega)
    rw [hdl] at h1
    have h2 : sep.data.toList.length = sep.size := data_length sep
    have h3 : l.length * (10000001 + sep.data.toList.length) ≤ 1000 * (10000001 + 1000) := Nat.mul_le_mul hl (by omega)
    omega
  induction e with
  | zero =>
    intro i hi
    refine Ev.step (fun k => by rw [impl_joined.l0]) ?_
    refine evNeg (by omega) ?_
    rw [List.take_of_length_le (by omega)]
    exact evBind0 (Join_eq (decs l) sep (by omega) hjl) (evSome rfl)
  | succ e ih =>
    intro i hi
    refine Ev.step (fun k => by rw [impl_joined.l0]) ?_
    have hr : rd L (i : Int) = ((l.getD i 0 : Nat) : Int) := by
      unfold rd
      rw [Int.toNat_natCast, hL]
      exact getD_map' l (fun (x : Nat) => (x : Int)) i 0 0 (by omega)
    have hx : l.getD i 0 ≤ 10000000 := by
      rw [← getElem_getD l i 0 (by omega)]
      exact hb _ (List.getElem_mem _)
    have ht : ((decs l).take (i + 1)).map bl = ((decs l).take i).map bl ++ [bl (Lib.decDigits (l.getD i 0))] := by
      rw [List.take_succ_eq_append_getElem (by omega), List.map_append, List.map_cons, List.map_nil]
      congr 2
      unfold decs
      rw [List.getElem_map, getElem_getD l i 0 (by omega)]
    rw [hr, show wrap64 ((i : Int) + 1) = ((i + 1 : Nat) : Int) from (w64 (by omega) (by omega)).trans (by omega)]
    refine evPos (by omega) (evPos (by omega) (evPos (by omega) (evBind0 (Itoa_eq _ (by omega)) (evPos (by rw [List.length_map, List.length_take]; omega) ?_))))
    rw [← ht]
    exact ih (i + 1) (by omega)
theorem joined_ev (l : List Nat) (hl : l.length ≤ 1000) (hb : ∀ x ∈ l, x ≤ 10000000) (sep : ByteArray) (hs : sep.size ≤ 1000) (L : List Int) (hL : L = l.map (fun (x : Nat) => (x : Int))) : Ev (fun k => impl_joined.f k L sep) (bl (Lib.join (decs l) sep.data.toList)) := by
  unfold impl_joined.f
  have h := joined_l0 l hl hb sep hs L hL l.length 0 (Nat.zero_add _)
  simpa using h
end Go.Proofs.YtonifgfgeollaaaDoor.X
end
section
/- Texts of puzzles: the program and the reference. -/
--! needs LBase LNum LJoined LPzClue LPzGood spec_pzText impl_puzzleText
namespace Go.Proofs.YtonifgfgeollaaaDoor.X
open Go.Proofs.YtonifgfgeollaaaDoor.Sq Go.RowKit Go.Proofs.YtonifgfgeollaaaDoorW.PrintWords Go.Proofs.YtonifgfgeollaaaDoorW.PrintLast Go.Proofs.YtonifgfgeollaaaDoorW.PrintMore
attribute [local go_sem] max2_int min2_int max_two min_two max_three min_three max_four min_four   -- for this text's walks alone
set_option linter.unusedVariables false
set_option linter.unusedSimpArgs false
def ctL (c : S41) : List UInt8 := Lib.join (decs [c.f0.toNat, c.f1.toNat, c.f2.toNat]) [46]
theorem ctL_eq (c : S41) : ctL c = Lib.decDigits c.f0.toNat ++ [46] ++ Lib.decDigits c.f1.toNat ++ [46] ++ Lib.decDigits c.f2.toNat := by
  unfold ctL decs
  rw [List.map_cons, List.map_cons, List.map_cons, List.map_nil, Lib.join_cons]
  unfold Lib.joinTail
  simp
theorem okClue_num (p : Nat) (hp : p ≤ 8) (c : S41) (h : okClue (p : Int) c = true) : (0 ≤ c.f0 ∧ c.f0 ≤ 5) ∧ (0 ≤ c.f1 ∧ c.f1 ≤ 9) ∧ (0 ≤ c.f2 ∧ c.f2 ≤ 256) := by
  unfold okClue clueB inB at h
  split at h
  · simp only [Bool.and_eq_true, decide_eq_true_eq] at h
    omega
  · split at h
    · simp only [Bool.and_eq_true, decide_eq_true_eq] at h
      omega
    · split at h
      · simp only [Bool.and_eq_true, decide_eq_true_eq] at h
        omega
      · split at h
        · simp only [Bool.and_eq_true, decide_eq_true_eq] at h
          omega
        · split at h
          · simp only [Bool.and_eq_true, decide_eq_true_eq] at h
            omega
          · cases h
theorem ctL_len (p : Nat) (hp : p ≤ 8) (c : S41) (h : okClue (p : Int) c = true) : (ctL c).length ≤ 1000 := by
  obtain ⟨h0, h1, h2⟩ := okClue_num p hp c h
  rw [ctL_eq]
  have a0 := dec_len c.f0.toNat
  have a1 := dec_len c.f1.toNat
  have a2 := dec_len c.f2.toNat
  simp only [List.length_append, List.length_cons, List.length_nil]
  omega
theorem rd_ok (p : Nat) (l : List S41) (hok : ∀ c ∈ l, okClue (p : Int) c = true) (i : Nat) (h : i < l.length) : okClue (p : Int) (rd_T41 l (i : Int)) = true := by
  have hr : rd_T41 l (i : Int) = l.getD i z41 := by unfold rd_T41; rw [Int.toNat_natCast]
  rw [hr, ← getElem_getD l i z41 h]
  exact hok _ (List.getElem_mem _)
def sepL (i : Nat) : List UInt8 := if i = 0 then [] else [44]
/-- The clues from one on, each with what stands ahead of it. -/
def restL (l : List S41) : Nat → Nat → List UInt8
 | _, 0 => []
 | i, e + 1 => sepL i ++ ctL (rd_T41 l (i : Int)) ++ restL l (i + 1) e
theorem pzText_l0 (p : Nat) (hp : p ≤ 8) (l : List S41) (hl : l.length ≤ 6) (hok : ∀ c ∈ l, okClue (p : Int) c = true) (e : Nat) : ∀ (i : Nat) (acc : List UInt8), i + e = l.length → acc.length ≤ 100 + 2000 * i →
    Ev (fun k => spec_pzText.l0 k (bl acc) l (l.length : Int) (i : Int)) (bl (acc ++ restL l i e)) := by
  induction e with
  | zero =>
    intro i acc hi ha
    refine Ev.step (fun k => by rw [spec_pzText.l0]) ?_
    exact evNeg (by omega) (evSome (by simp [restL]))
  | succ e ih =>
    intro i acc hi ha
    have hc := rd_ok p l hok i (by omega)
    have hln := ctL_len p hp _ hc
    obtain ⟨⟨h0, h0'⟩, ⟨h1, h1'⟩, ⟨h2, h2'⟩⟩ := okClue_num p hp _ hc
    have hct := ctL_eq (rd_T41 l (i : Int))
    have hE : acc ++ restL l i (e + 1) = (acc ++ sepL i ++ ctL (rd_T41 l (i : Int))) ++ restL l (i + 1) e := by simp [restL]
    rw [hE]
    have hq := ih (i + 1) (acc ++ sepL i ++ ctL (rd_T41 l (i : Int))) (by omega) (by
      have : (sepL i).length ≤ 1 := by unfold sepL; split <;> simp
      simp only [List.length_append]
      omega)
    have s46 : (⟨#[46]⟩ : ByteArray) = bl [46] := rfl
    have s44 : (⟨#[44]⟩ : ByteArray) = bl [44] := rfl
    refine Ev.step (fun k => by rw [spec_pzText.l0]) ?_
    rw [s46, s44, show wrap64 ((i : Int) + 1) = ((i + 1 : Nat) : Int) from (w64 (by omega) (by omega)).trans (by omega)]
    generalize rd_T41 l (i : Int) = c at hc hln h0 h0' h1 h1' h2 h2' hct hq ⊢
    have n0 := l1Num_ev c.f0.toNat (by omega)
    have n1 := l1Num_ev c.f1.toNat (by omega)
    have n2 := l1Num_ev c.f2.toNat (by omega)
    rw [Int.toNat_of_nonneg h0] at n0
    rw [Int.toNat_of_nonneg h1] at n1
    rw [Int.toNat_of_nonneg h2] at n2
    rw [hct] at hln
    simp only [List.length_append, List.length_cons, List.length_nil] at hln
    refine evPos (by omega) (evPos (by omega) (evPos (by omega) (evSplit (fun z => ?_) (fun z => ?_))))
    · refine evPos (by rw [bl_size]; omega) (Ev.bind n0 (evPos (by rw [bl_size]; omega) (Ev.bind n1 ?_)))
      simp only [bl_append]
      refine evPos (by rw [bl_size, bl_size]; simp only [List.length_append, List.length_cons, List.length_nil]; omega) (evPos (by rw [bl_size]; simp only [List.length_append, List.length_cons, List.length_nil]; omega) (Ev.bind n2 ?_))
      simp only [bl_append]
      refine evPos (by rw [bl_size, bl_size]; simp only [List.length_append, List.length_cons, List.length_nil]; omega) (evPos (by rw [bl_size, bl_size]; simp only [List.length_append, List.length_cons, List.length_nil]; omega) ?_)
      rw [hct] at hq
      have hs : sepL i = [44] := by unfold sepL; rw [if_neg (by omega)]
      rw [hs] at hq
      rw [hs, hct]
      exact hq
    · refine Ev.bind n0 (evPos (by rw [bl_size]; omega) (Ev.bind n1 ?_))
      simp only [bl_append]
      refine evPos (by rw [bl_size, bl_size]; simp only [List.length_append, List.length_cons, List.length_nil]; omega) (evPos (by rw [bl_size]; simp only [List.length_append, List.length_cons, List.length_nil]; omega) (Ev.bind n2 ?_))
      simp only [bl_append]
      refine evPos (by rw [bl_size, bl_size]; simp only [List.length_append, List.length_cons, List.length_nil]; omega) (evPos (by rw [bl_size, bl_size]; simp only [List.length_append, List.length_cons, List.length_nil]; omega) ?_)
      rw [hct] at hq
      have hs : sepL i = [] := by unfold sepL; rw [if_pos (by omega)]
      rw [hs, List.append_nil] at hq
      rw [hs, hct, List.append_nil]
      exact hq
theorem restL_join (l : List S41) (e : Nat) : ∀ i : Nat, i + e = l.length → restL l i e = (if i = 0 then Lib.join ((l.drop i).map ctL) [44] else Lib.joinTail [44] ((l.drop i).map ctL)) := by
  induction e with
  | zero =>
    intro i hi
    rw [List.drop_of_length_le (by omega), List.map_nil]
    split
    · exact (Lib.join_nil _).symm
    · rfl
  | succ e ih =>
    intro i hi
    show sepL i ++ ctL (rd_T41 l (i : Int)) ++ restL l (i + 1) e = _
    have hr : rd_T41 l (i : Int) = l.getD i z41 := by unfold rd_T41; rw [Int.toNat_natCast]
    rw [ih (i + 1) (by omega), if_neg (by omega), hr, getD_drop_cons l i z41 (by omega), List.map_cons]
    unfold sepL
    split
    · rw [Lib.join_cons, List.nil_append]
    · unfold Lib.joinTail
      rw [List.map_cons, List.flatten_cons]
def pztL (p : Nat) (l : List S41) : List UInt8 := Lib.decDigits p ++ [58] ++ Lib.join (l.map ctL) [44]
theorem pzText_ev (p : Nat) (hp : p ≤ 8) (l : List S41) (hl : l.length ≤ 6) (hok : ∀ c ∈ l, okClue (p : Int) c = true) : Ev (fun k => spec_pzText.f k (p : Int) l) (bl (pztL p l)) := by
  unfold spec_pzText.f
  have hd := dec_len p
  refine Ev.bind (l1Num_ev p (by omega)) (evPos (by rw [bl_size]; omega) ?_)
  have s58 : (⟨#[58]⟩ : ByteArray) = bl [58] := rfl
  rw [s58, bl_append]
  have h := pzText_l0 p hp l hl hok l.length 0 (Lib.decDigits p ++ [58]) (Nat.zero_add _) (by simp; omega)
  rw [restL_join l l.length 0 (Nat.zero_add _), if_pos rfl, List.drop_zero] at h
  exact h
theorem puzzleText_l0 (p : Nat) (hp : p ≤ 8) (l : List S41) (hl : l.length ≤ 6) (hok : ∀ c ∈ l, okClue (p : Int) c = true) (e : Nat) : ∀ i : Nat, i + e = l.length →
    Ev (fun k => impl_puzzleText.l0 k (((l.map ctL).take i).map bl) l (l.length : Int) (i : Int) (p : Int) l) (bl (pztL p l)) := by
  have hml : (l.map ctL).length = l.length := by rw [List.length_map]
  have hjl : (Lib.join (l.map ctL) [44]).length ≤ 6 * (1000 + 1) := by
    have h1 := join_len (l.map ctL) [44] 1000 (fun x hx => by
      obtain ⟨c, hc, rfl⟩ := List.mem_map.1 hx
      exact ctL_len p hp c (hok c hc))
    rw [hml] at h1
    exact Nat.le_trans h1 (Nat.mul_le_mul hl (Nat.le_refl _))
  have hd := dec_len p
  induction e with
  | zero =>
    intro i hi
    refine Ev.step (fun k => by rw [impl_puzzleText.l0]) ?_
    refine evNeg (by omega) ?_
    rw [List.take_of_length_le (by omega)]
    have hj := Join_eq (l.map ctL) (⟨#[44]⟩ : ByteArray) (by omega) (Nat.le_trans hjl (by decide))
    have s58 : (⟨#[58]⟩ : ByteArray) = bl [58] := rfl
    rw [s58]
    refine evBind0 (Itoa_eq p (by omega)) (evPos (by rw [bl_size]; omega) (evBind0 hj ?_))
    simp only [bl_append]
    refine evPos (by rw [bl_size, bl_size]; simp only [List.length_append, List.length_cons, List.length_nil]; have hjl2 : (Lib.join (l.map ctL) (⟨#[44]⟩ : ByteArray).data.toList).length ≤ 6 * (1000 + 1) := hjl; omega) (evSome rfl)
  | succ e ih =>
    intro i hi
    have hc := rd_ok p l hok i (by omega)
    obtain ⟨⟨h0, h0'⟩, ⟨h1, h1'⟩, ⟨h2, h2'⟩⟩ := okClue_num p hp _ hc
    have hr : rd_T41 l (i : Int) = l.getD i z41 := by unfold rd_T41; rw [Int.toNat_natCast]
    have ht : ((l.map ctL).take (i + 1)).map bl = ((l.map ctL).take i).map bl ++ [bl (ctL (rd_T41 l (i : Int)))] := by
      rw [List.take_succ_eq_append_getElem (by omega), List.map_append, List.map_cons, List.map_nil]
      congr 2
      rw [List.getElem_map, getElem_getD l i z41 (by omega), hr]
    have hj := joined_ev [(rd_T41 l (i : Int)).f0.toNat, (rd_T41 l (i : Int)).f1.toNat, (rd_T41 l (i : Int)).f2.toNat] (by simp) (fun x hx => by
      simp only [List.mem_cons, List.not_mem_nil, or_false] at hx
      omega) (⟨#[46]⟩ : ByteArray) (by decide) ([(rd_T41 l (i : Int)).f0, (rd_T41 l (i : Int)).f1, (rd_T41 l (i : Int)).f2] : List Int) (by
      rw [List.map_cons, List.map_cons, List.map_cons, List.map_nil, Int.toNat_of_nonneg h0, Int.toNat_of_nonneg h1, Int.toNat_of_nonneg h2])
    refine Ev.step (fun k => by rw [impl_puzzleText.l0]) ?_
    rw [show wrap64 ((i : Int) + 1) = ((i + 1 : Nat) : Int) from (w64 (by omega) (by omega)).trans (by omega)]
    refine evPos (by omega) (evPos (by omega) (evPos (by omega) (Ev.bind hj (evPos (by rw [List.length_map, List.length_take]; omega) ?_))))
    have hq := ih (i + 1) (by omega)
    rw [ht] at hq
    exact hq
theorem puzzleText_ev (p : Nat) (hp : p ≤ 8) (l : List S41) (hl : l.length ≤ 6) (hok : ∀ c ∈ l, okClue (p : Int) c = true) : Ev (fun k => impl_puzzleText.f k (p : Int) l) (bl (pztL p l)) := by
  unfold impl_puzzleText.f
  have h := puzzleText_l0 p hp l hl hok l.length 0 (Nat.zero_add _)
  simpa using h
end Go.Proofs.YtonifgfgeollaaaDoor.X
end
section
/- The program's PuzzleText and the reference's come to the same, at every input. -/
namespace Go.Proofs.YtonifgfgeollaaaDoor.Pure
open Go.RowKit Go.Proofs.YtonifgfgeollaaaDoor.X Go.Proofs.YtonifgfgeollaaaDoorW.PrintWords Go.Proofs.YtonifgfgeollaaaDoorW.PrintLast
def ptC (q : Int) (l : List S41) : ByteArray × Bool := if goodB q l = true then (bl (pztL q.toNat l), true) else (⟨#[]⟩, false)
theorem Text_spec (q : Int) (l : List S41) : Ev (fun k => spec_PuzzleText.f k q l) (ptC q l) := by
  unfold spec_PuzzleText.f ptC
  refine Ev.bind (pzGood_ev q l) ?_
  by_cases hg : goodB q l = true
  · rw [if_pos hg, hg]
    obtain ⟨p, rfl, h1, h2, h3, h4⟩ := goodB_parts q l hg
    rw [Int.toNat_natCast]
    exact evPos rfl (Ev.bind (pzText_ev p h2 l h3 h4) (evSome rfl))
  · rw [if_neg hg]
    exact evNeg hg (evSome rfl)
theorem Text_impl (q : Int) (l : List S41) : Ev (fun k => impl_PuzzleText.f k q l) (ptC q l) := by
  unfold impl_PuzzleText.f ptC
  refine Ev.bind (IsPuzzle_impl q l) ?_
  by_cases hg : goodB q l = true
  · rw [if_pos hg, hg]
    obtain ⟨p, rfl, h1, h2, h3, h4⟩ := goodB_parts q l hg
    rw [Int.toNat_natCast]
    exact evPos rfl (Ev.bind (puzzleText_ev p h2 l h3 h4) (evSome rfl))
  · rw [if_neg hg]
    exact evNeg hg (evSome rfl)
theorem FnExactPuzzleText : laws_FnExactPuzzleText.Pure := by
  intro p l _ hl
  refine Ev.rounds ?_
  unfold laws_FnExactPuzzleText.f
  refine evBind0 (szPuzzle_eq p l hl.1) ?_
  by_cases h : 1048576 < l.length
  · rw [if_pos h]
    exact evPos (by omega) (evSome rfl)
  · rw [if_neg h]
    refine evNeg (by omega) ?_
    have hm : (l.map cvClue).length ≤ 9223372036854775800 := by simp; omega
    have hT := toPuzzle_ev p l (by omega)
    refine Ev.bind hT (Ev.bind (Text_spec _ _) (Ev.bind hT (Ev.bind (Text_impl _ _) (evPos rfl ?_))))
    refine Ev.step (fun k => by rw [laws_FnExactPuzzleText.j0]) ?_
    exact evNeg (by simp) (Ev.bind hT (Ev.bind (eqPuzzle_self _ _ hm) (evPos rfl (evSome rfl))))
end Go.Proofs.YtonifgfgeollaaaDoor.Pure
end
