import Derived.Test.YtonifgfgeollaaaP4
import Derived.Test.YtonifgfgeollaaaP14
import Derived.Test.YtonifgfgeollaaaP15
import Derived.Test.YtonifgfgeollaaaP17
import Derived.Test.YtonifgfgeollaaaP24
import Derived.Test.YtonifgfgeollaaaP26
import Derived.Test.YtonifgfgeollaaaP28
section
-- Written by a program of this session (wip/tools/mp.py) over the kit's print of the translation.
namespace Go.Proofs.Ytonifgfgeollaaa.X
open Go.Proofs.Ytonifgfgeollaaa.Sq Go.RowKit Go.Proofs.YtonifgfgeollaaaW.PrintWords Go.Proofs.YtonifgfgeollaaaW.PrintLast Go.Proofs.YtonifgfgeollaaaW.PrintMore
attribute [local go_sem] max2_int min2_int max_two min_two max_three min_three max_four min_four   -- for this text's walks alone
set_option linter.unusedVariables false
set_option linter.unusedSimpArgs false
/-! ### laws_FnExactSolutions: function 13 -/
mutual
def laws_FnExactSolutions.j0 : Nat → List ByteArray → Bool → List ByteArray → Bool → Bool → Int → List (S23) → Int → List (S25) → Option (Bool)
 | 0, _, _, _, _, _, _, _, _, _ => none
 | k + 1, x4, x5, x7, x8, x40, x504000, x504001, x518000, x518001 => if x40 = true then (none) else ((laws_toPuzzle.f k x504000 x504001).bind fun bt523 => ((laws_eqPuzzle.f k x518000 x518001 bt523.1 bt523.2).bind fun t527 => (if t527 = true then ((laws_markPuzzle.f k x518000 x518001 1).bind fun bt528 => (if bt528.1 < 0 then (laws_FnExactSolutions.j1 k x4 x5 x7 true x504000 x504001) else ((laws_eqStringS.f k x7 x4).bind fun t530 => (if t530 = true then (laws_FnExactSolutions.j1 k x4 x5 x7 (x8 != x5) x504000 x504001) else (laws_FnExactSolutions.j1 k x4 x5 x7 true x504000 x504001))))) else (none))))
def laws_FnExactSolutions.j1 : Nat → List ByteArray → Bool → List ByteArray → Bool → Int → List (S23) → Option (Bool)
 | 0, _, _, _, _, _, _ => none
 | k + 1, x4, x5, x7, x61, x504000, x504001 => if x61 = true then (none) else ((laws_markStringS.f k x7 1).bind fun bt531 => ((laws_heldStringS.f k bt531.2 1).bind fun t533 => (if t533 < 0 then (none) else (if t533 = bt531.1 then ((laws_toPuzzle.f k x504000 x504001).bind fun bt534 => ((impl_Solutions.f k bt534.1 bt534.2).bind fun bt538 => ((laws_eqStringS.f k bt538.1 x4).bind fun t542 => (if t542 = true then (laws_FnExactSolutions.j2 k bt531.2 bt531.1 (bt538.2 != x5)) else (laws_FnExactSolutions.j2 k bt531.2 bt531.1 true))))) else (none)))))
def laws_FnExactSolutions.j2 : Nat → List ByteArray → Int → Bool → Option (Bool)
 | 0, _, _, _ => none
 | k + 1, x7, x10, x87 => if x87 = true then (none) else ((laws_heldStringS.f k x7 1).bind fun t543 => (if t543 < 0 then (none) else (if t543 = x10 then (some true) else (none))))
end
def laws_FnExactSolutions.f (k : Nat) (a0_0 : Int) (l0_1 : List (S23)) : Option (Bool) := (laws_szPuzzle.f a0_0 l0_1 1048576).bind fun t504 => (if t504 < 0 then (some true) else ((laws_toPuzzle.f k a0_0 l0_1).bind fun bt505 => ((spec_Solutions.f k bt505.1 bt505.2).bind fun bt509 => ((laws_toPuzzle.f k a0_0 l0_1).bind fun bt513 => ((impl_Solutions.f k bt513.1 bt513.2).bind fun bt518 => ((laws_eqStringS.f k bt518.1 bt509.1).bind fun t522 => (if t522 = true then (laws_FnExactSolutions.j0 k bt509.1 bt509.2 bt518.1 bt518.2 (bt518.2 != bt509.2) a0_0 l0_1 bt513.1 bt513.2) else (laws_FnExactSolutions.j0 k bt509.1 bt509.2 bt518.1 bt518.2 true a0_0 l0_1 bt513.1 bt513.2))))))))
set_option maxHeartbeats 8000000 in
set_option maxRecDepth 100000 in
theorem laws_FnExactSolutions.calls (k : Nat) (a0_0 : Int) (A0_1 : Option Addr) (c0_1 : Nat) (l0_1 : List (S23)) (r : Bool) (w : World) (hr0_1 : Kd.C k23 w A0_1 l0_1.length l0_1) (hc0_1 : l0_1.length ≤ c0_1) (h : laws_FnExactSolutions.f k a0_0 l0_1 = some r) :
  Calls Try.prog 13 #[.agg #[.int .i64 a0_0, .slice A0_1 l0_1.length c0_1]] w fun e w' => e = .returned (.bool r) ∧ Below w.heap.size w w' := by
 have hu30 := Try.underlying30
 have hu35 := Try.underlying35
 have HR0_1 := am hr0_1
 have HC0_1 := am hc0_1
 clear hr0_1 hc0_1
 have HB := am (Below.refl w.heap.size w)
 have H : ((laws_szPuzzle.f a0_0 l0_1 1048576).bind fun t504 => (if t504 < 0 then (some true) else ((laws_toPuzzle.f k a0_0 l0_1).bind fun bt505 => ((spec_Solutions.f k bt505.1 bt505.2).bind fun bt509 => ((laws_toPuzzle.f k a0_0 l0_1).bind fun bt513 => ((impl_Solutions.f k bt513.1 bt513.2).bind fun bt518 => ((laws_eqStringS.f k bt518.1 bt509.1).bind fun t522 => (if t522 = true then (laws_FnExactSolutions.j0 k bt509.1 bt509.2 bt518.1 bt518.2 (bt518.2 != bt509.2) a0_0 l0_1 bt513.1 bt513.2) else (laws_FnExactSolutions.j0 k bt509.1 bt509.2 bt518.1 bt518.2 true a0_0 l0_1 bt513.1 bt513.2))))))))) = some r := h
 clear h
 replace H := Option.bind_eq_some_iff.mp H
 obtain ⟨t504, A20, H⟩ := H
 replace H : (if t504 < 0 then (some true) else ((laws_toPuzzle.f k a0_0 l0_1).bind fun bt505 => ((spec_Solutions.f k bt505.1 bt505.2).bind fun bt509 => ((laws_toPuzzle.f k a0_0 l0_1).bind fun bt513 => ((impl_Solutions.f k bt513.1 bt513.2).bind fun bt518 => ((laws_eqStringS.f k bt518.1 bt509.1).bind fun t522 => (if t522 = true then (laws_FnExactSolutions.j0 k bt509.1 bt509.2 bt518.1 bt518.2 (bt518.2 != bt509.2) a0_0 l0_1 bt513.1 bt513.2) else (laws_FnExactSolutions.j0 k bt509.1 bt509.2 bt518.1 bt518.2 true a0_0 l0_1 bt513.1 bt513.2)))))))) = some r := H
 have A2 := am A20
 clear A20
 by_cases c3 : t504 < 0
 ·rw [if_pos c3] at H
  have c3b0 : decide (t504 < 0) = true := decide_eq_true c3
  clear c3
  obtain rfl := Option.some.inj H
  go_enter Try.func13, Try.ntmps13
  go_wp2_with (first | ((with_reducible refine gate_dst (N := 1) rfl ?_); refine box_event ?hg (N := 1) ?hd (cs := #[.int .i64 a0_0, .slice A0_1 l0_1.length c0_1]) (t := 30) ?hr ?_; (case hd => rfl); (case hg => rfl); (case hr => first | (go_simp; done) | (go_simp; rfl)); intro gb503 hg w4 hbox hb; have n0_ := am (below_step (hbS HB.out) hb); have n1_ := am (hbox); have n2_ := am (gwL (hbS HB.out) hg); have n3_ := n2_; clear HB; have HB := n0_; have BK503 := n1_; have GW503 := n2_; have GE503 := n3_; clear n0_ n1_ n2_ n3_; clear hb hbox hg; have hcz5_0 : w4.cell? ⟨gb503, 0, none⟩ = some (.int .i64 a0_0) := (blk_cell BK503.out 0).trans rfl; have hcz5_1 : w4.cell? ⟨gb503, 1, none⟩ = some (.slice A0_1 l0_1.length c0_1) := (blk_cell BK503.out 1).trans rfl; have hfz5_0 := blk_frozen BK503.out 0; have hfz5_1 := blk_frozen BK503.out 1) | ((with_reducible refine gate_callee (f := 17) rfl ?_); refine goesL_ (some 16) rfl rfl Try.func17 (by kernel_rfl) rfl #[.agg #[.int .i64 a0_0, .slice A0_1 l0_1.length c0_1], .int .i64 1048576] rfl (by (try simp only [List.map_toArray, List.map_cons, List.map_nil]); first | done | rfl | (simp only [List.length_drop, List.length_take]; rfl)) ?_; (with_reducible refine (laws_szPuzzle.calls a0_0 _ _ l0_1 1048576 t504 _ ?side1 ?side2 A2.out).mono ?_); (case side1 => repeat (first | exact (Kd.C_below HR0_1.out HB.out) | (with_reducible refine Kd.C_alloc ?_ _) | (with_reducible refine Kd.C_drewN ?_ _) | (with_reducible refine Kd.C_drew ?_))); (case side2 => exact HC0_1.out); rintro e w6 ⟨rfl, hb⟩; refine ⟨_, rfl, ?_⟩; have n0_ := am (blk_below (bkS BK503.out) hb); have n1_ := am (below_step (by repeat (first | (with_reducible first | exact HB.out | apply below_alloc | apply pw_below_drewN | apply below_drew1 | refine below_set ?_ GE503.out) | exact HB.out)) hb); clear BK503; clear HB; have BK503 := n0_; have HB := n1_; clear n0_ n1_; (try clear hb); (try clear hb2); (try clear hk); (try clear hi)))
  go_ret
  exact ⟨by first | rfl | (simp [errW_none, errW_some] <;> rfl) | (simp [*, errW_none, errW_some] <;> rfl), by repeat (first | (with_reducible first | exact HB.out | apply below_alloc | apply pw_below_drewN | apply below_drew1 | refine below_set ?_ GE503.out) | exact HB.out)⟩
 ·rw [if_neg c3] at H
  have c3b0 : decide (t504 < 0) = false := decide_eq_false c3
  clear c3
  replace H := Option.bind_eq_some_iff.mp H
  obtain ⟨⟨t505, t506⟩, A70, H⟩ := H
  replace H : ((spec_Solutions.f k t505 t506).bind fun bt509 => ((laws_toPuzzle.f k a0_0 l0_1).bind fun bt513 => ((impl_Solutions.f k bt513.1 bt513.2).bind fun bt518 => ((laws_eqStringS.f k bt518.1 bt509.1).bind fun t522 => (if t522 = true then (laws_FnExactSolutions.j0 k bt509.1 bt509.2 bt518.1 bt518.2 (bt518.2 != bt509.2) a0_0 l0_1 bt513.1 bt513.2) else (laws_FnExactSolutions.j0 k bt509.1 bt509.2 bt518.1 bt518.2 true a0_0 l0_1 bt513.1 bt513.2)))))) = some r := H
  have A7 := am A70
  clear A70
  replace H := Option.bind_eq_some_iff.mp H
  obtain ⟨⟨t509, t512⟩, A80, H⟩ := H
  replace H : ((laws_toPuzzle.f k a0_0 l0_1).bind fun bt513 => ((impl_Solutions.f k bt513.1 bt513.2).bind fun bt518 => ((laws_eqStringS.f k bt518.1 t509).bind fun t522 => (if t522 = true then (laws_FnExactSolutions.j0 k t509 t512 bt518.1 bt518.2 (bt518.2 != t512) a0_0 l0_1 bt513.1 bt513.2) else (laws_FnExactSolutions.j0 k t509 t512 bt518.1 bt518.2 true a0_0 l0_1 bt513.1 bt513.2))))) = some r := H
  have A8 := am A80
  clear A80
  replace H := Option.bind_eq_some_iff.mp H
  obtain ⟨⟨t513, t514⟩, A90, H⟩ := H
  replace H : ((impl_Solutions.f k t513 t514).bind fun bt518 => ((laws_eqStringS.f k bt518.1 t509).bind fun t522 => (if t522 = true then (laws_FnExactSolutions.j0 k t509 t512 bt518.1 bt518.2 (bt518.2 != t512) a0_0 l0_1 t513 t514) else (laws_FnExactSolutions.j0 k t509 t512 bt518.1 bt518.2 true a0_0 l0_1 t513 t514)))) = some r := H
  have A9 := am A90
  clear A90
  replace H := Option.bind_eq_some_iff.mp H
  obtain ⟨⟨t518, t521⟩, A100, H⟩ := H
  replace H : ((laws_eqStringS.f k t518 t509).bind fun t522 => (if t522 = true then (laws_FnExactSolutions.j0 k t509 t512 t518 t521 (t521 != t512) a0_0 l0_1 t513 t514) else (laws_FnExactSolutions.j0 k t509 t512 t518 t521 true a0_0 l0_1 t513 t514))) = some r := H
  have A10 := am A100
  clear A100
  have HC11 := am H
  clear H
  go_enter Try.func13, Try.ntmps13
  go_upto_region 8 with (first | ((with_reducible refine gate_dst (N := 1) rfl ?_); refine box_event ?hg (N := 1) ?hd (cs := #[.int .i64 a0_0, .slice A0_1 l0_1.length c0_1]) (t := 30) ?hr ?_; (case hd => rfl); (case hg => rfl); (case hr => first | (go_simp; done) | (go_simp; rfl)); intro gb503 hg w12 hbox hb; have n0_ := am (below_step (hbS HB.out) hb); have n1_ := am (hbox); have n2_ := am (gwL (hbS HB.out) hg); have n3_ := n2_; clear HB; have HB := n0_; have BK503 := n1_; have GW503 := n2_; have GE503 := n3_; clear n0_ n1_ n2_ n3_; clear hb hbox hg; have hcz13_0 : w12.cell? ⟨gb503, 0, none⟩ = some (.int .i64 a0_0) := (blk_cell BK503.out 0).trans rfl; have hcz13_1 : w12.cell? ⟨gb503, 1, none⟩ = some (.slice A0_1 l0_1.length c0_1) := (blk_cell BK503.out 1).trans rfl; have hfz13_0 := blk_frozen BK503.out 0; have hfz13_1 := blk_frozen BK503.out 1) | ((with_reducible refine gate_callee (f := 17) rfl ?_); refine goesL_ (some 16) rfl rfl Try.func17 (by kernel_rfl) rfl #[.agg #[.int .i64 a0_0, .slice A0_1 l0_1.length c0_1], .int .i64 1048576] rfl (by (try simp only [List.map_toArray, List.map_cons, List.map_nil]); first | done | rfl | (simp only [List.length_drop, List.length_take]; rfl)) ?_; (with_reducible refine (laws_szPuzzle.calls a0_0 _ _ l0_1 1048576 t504 _ ?side1 ?side2 A2.out).mono ?_); (case side1 => repeat (first | exact (Kd.C_below HR0_1.out HB.out) | (with_reducible refine Kd.C_alloc ?_ _) | (with_reducible refine Kd.C_drewN ?_ _) | (with_reducible refine Kd.C_drew ?_))); (case side2 => exact HC0_1.out); rintro e w14 ⟨rfl, hb⟩; refine ⟨_, rfl, ?_⟩; have n0_ := am (blk_below (bkS BK503.out) hb); have n1_ := am (below_step (by repeat (first | (with_reducible first | exact HB.out | apply below_alloc | apply pw_below_drewN | apply below_drew1 | refine below_set ?_ GE503.out) | exact HB.out)) hb); clear BK503; clear HB; have BK503 := n0_; have HB := n1_; clear n0_ n1_; (try clear hb); (try clear hb2); (try clear hk); (try clear hi); have hcz15_0 : w14.cell? ⟨gb503, 0, none⟩ = some (.int .i64 a0_0) := (blk_cell BK503.out 0).trans rfl; have hcz15_1 : w14.cell? ⟨gb503, 1, none⟩ = some (.slice A0_1 l0_1.length c0_1) := (blk_cell BK503.out 1).trans rfl; have hfz15_0 := blk_frozen BK503.out 0; have hfz15_1 := blk_frozen BK503.out 1) | ((with_reducible refine gate_callee (f := 19) rfl ?_); refine goesL_ (some 21) rfl rfl Try.func19 (by kernel_rfl) rfl #[.agg #[.int .i64 a0_0, .slice A0_1 l0_1.length c0_1]] rfl (by (try simp only [List.map_toArray, List.map_cons, List.map_nil]); first | done | rfl | (simp only [List.length_drop, List.length_take]; rfl)) ?_; (with_reducible refine (laws_toPuzzle.calls k a0_0 _ _ l0_1 t505 t506 _ ?side1 ?side2 A7.out).mono ?_); (case side1 => repeat (first | exact (Kd.C_below HR0_1.out HB.out) | (with_reducible refine Kd.C_alloc ?_ _) | (with_reducible refine Kd.C_drewN ?_ _) | (with_reducible refine Kd.C_drew ?_))); (case side2 => exact HC0_1.out); rintro e w16 ⟨v507, rfl, ho0, hb⟩; refine ⟨_, rfl, ?_⟩; have n0_ := am (Kd.R_lower ho0 (below_size (by repeat (first | (with_reducible first | exact HB.out | apply below_alloc | apply pw_below_drewN | apply below_drew1 | refine below_set ?_ GE503.out) | exact HB.out)))); have n1_ := am (blk_below (bkS BK503.out) hb); have n2_ := am (below_step (by repeat (first | (with_reducible first | exact HB.out | apply below_alloc | apply pw_below_drewN | apply below_drew1 | refine below_set ?_ GE503.out) | exact HB.out)) hb); clear BK503; clear HB; have HO508 := n0_; have BK503 := n1_; have HB := n2_; clear n0_ n1_ n2_; (try clear hb); (try clear hb2); (try clear hk); (try clear hi); (try clear ho0); obtain ⟨Ao17, co17, eo17⟩ := Kd.R_slice HO508.out; subst eo17) | ((with_reducible refine gate_callee (f := 43) rfl ?_); refine goesL_ (some 22) rfl rfl Try.func43 (by kernel_rfl) rfl #[.agg #[.int .i64 t505, .slice Ao17 t506.length co17]] rfl (by (try simp only [List.map_toArray, List.map_cons, List.map_nil]); first | done | rfl | (simp only [List.length_drop, List.length_take]; rfl)) ?_; (with_reducible refine (spec_Solutions.calls k t505 _ _ t506 t509 t512 _ ?side1 ?side2 A8.out).mono ?_); (case side1 => repeat (first | exact (Kd.R_reads' HO508.out).2.2 | (with_reducible refine Kd.C_alloc ?_ _) | (with_reducible refine Kd.C_drewN ?_ _) | (with_reducible refine Kd.C_drew ?_))); (case side2 => exact (Kd.R_reads' HO508.out).2.1); rintro e w18 ⟨v510, rfl, ho0, hb⟩; refine ⟨_, rfl, ?_⟩; have n0_ := am (Kd.R_below (roS HO508.out) hb); have n1_ := am (Kd.R_lower ho0 (below_size (by repeat (first | (with_reducible first | exact HB.out | apply below_alloc | apply pw_below_drewN | apply below_drew1 | refine below_set ?_ GE503.out) | exact HB.out)))); have n2_ := am (blk_below (bkS BK503.out) hb); have n3_ := am (below_step (by repeat (first | (with_reducible first | exact HB.out | apply below_alloc | apply pw_below_drewN | apply below_drew1 | refine below_set ?_ GE503.out) | exact HB.out)) hb); clear HO508; clear BK503; clear HB; have HO508 := n0_; have HO511 := n1_; have BK503 := n2_; have HB := n3_; clear n0_ n1_ n2_ n3_; (try clear hb); (try clear hb2); (try clear hk); (try clear hi); (try clear ho0); have hcz19_0 : w18.cell? ⟨gb503, 0, none⟩ = some (.int .i64 a0_0) := (blk_cell BK503.out 0).trans rfl; have hcz19_1 : w18.cell? ⟨gb503, 1, none⟩ = some (.slice A0_1 l0_1.length c0_1) := (blk_cell BK503.out 1).trans rfl; have hfz19_0 := blk_frozen BK503.out 0; have hfz19_1 := blk_frozen BK503.out 1) | ((with_reducible refine gate_callee (f := 19) rfl ?_); refine goesL_ (some 26) rfl rfl Try.func19 (by kernel_rfl) rfl #[.agg #[.int .i64 a0_0, .slice A0_1 l0_1.length c0_1]] rfl (by (try simp only [List.map_toArray, List.map_cons, List.map_nil]); first | done | rfl | (simp only [List.length_drop, List.length_take]; rfl)) ?_; (with_reducible refine (laws_toPuzzle.calls k a0_0 _ _ l0_1 t513 t514 _ ?side1 ?side2 A9.out).mono ?_); (case side1 => repeat (first | exact (Kd.C_below HR0_1.out HB.out) | (with_reducible refine Kd.C_alloc ?_ _) | (with_reducible refine Kd.C_drewN ?_ _) | (with_reducible refine Kd.C_drew ?_))); (case side2 => exact HC0_1.out); rintro e w20 ⟨v515, rfl, ho0, hb⟩; refine ⟨_, rfl, ?_⟩; have n0_ := am (Kd.R_elder' (roS HO508.out) (Kd.R_base ho0) hb); have n1_ := am (Kd.R_below (roS HO511.out) hb); have n2_ := am (Kd.R_lower (Kd.R_new' ho0 (Kd.R_lt (roS HO508.out))) (below_size (by repeat (first | (with_reducible first | exact HB.out | apply below_alloc | apply pw_below_drewN | apply below_drew1 | refine below_set ?_ GE503.out) | exact HB.out)))); have n3_ := am (blk_below (bkS BK503.out) hb); have n4_ := am (below_step (by repeat (first | (with_reducible first | exact HB.out | apply below_alloc | apply pw_below_drewN | apply below_drew1 | refine below_set ?_ GE503.out) | exact HB.out)) hb); clear HO508; clear HO511; clear BK503; clear HB; have HO508 := n0_; have HO511 := n1_; have HO516 := n2_; have BK503 := n3_; have HB := n4_; clear n0_ n1_ n2_ n3_ n4_; (try clear hb); (try clear hb2); (try clear hk); (try clear hi); (try clear ho0)) | ((with_reducible refine gate_dst (N := 6) rfl ?_); refine box_event ?hg (N := 6) ?hd (cs := #[.int .i64 0, .slice none 0 0]) (t := 35) ?hr ?_; (case hd => rfl); (case hg => rfl); (case hr => first | (go_simp; done) | (go_simp; rfl)); intro gb517 hg w21 hbox hb; have n0_ := am (Kd.R_below (roS HO508.out) hb); have n1_ := am (Kd.R_below (roS HO511.out) hb); have n2_ := am (Kd.R_below (roS HO516.out) hb); have n3_ := am (blk_below (bkS BK503.out) hb); have n4_ := am (below_step (by repeat (first | (with_reducible first | exact HB.out | apply below_alloc | apply pw_below_drewN | apply below_drew1 | refine below_set ?_ GE503.out) | exact HB.out)) hb); have n5_ := am (hbox); have n6_ := am (gwL (by repeat (first | (with_reducible first | exact HB.out | apply below_alloc | apply pw_below_drewN | apply below_drew1 | refine below_set ?_ GE503.out) | exact HB.out)) hg); have n7_ := n6_; have n8_ := am (nbL (bkS BK503.out) hg); have n9_ := am (nbG (bkS BK503.out) hg); clear HO508; clear HO511; clear HO516; clear BK503; clear HB; have HO508 := n0_; have HO511 := n1_; have HO516 := n2_; have BK503 := n3_; have HB := n4_; have BK517 := n5_; have GW517 := n6_; have GE517 := n7_; have NB503_517 := n8_; have NB517_503 := n9_; clear n0_ n1_ n2_ n3_ n4_ n5_ n6_ n7_ n8_ n9_; clear hb hbox hg; have hnb22 := NB517_503.out; have hnc22 := NB503_517.out; have hcz23_0 : w21.cell? ⟨gb517, 0, none⟩ = some (.int .i64 0) := (blk_cell BK517.out 0).trans rfl; have hcz23_1 : w21.cell? ⟨gb517, 1, none⟩ = some (.slice none 0 0) := (blk_cell BK517.out 1).trans rfl; have hfz23_0 := blk_frozen BK517.out 0; have hfz23_1 := blk_frozen BK517.out 1; obtain ⟨Ao24, co24, eo24⟩ := Kd.R_slice HO516.out; subst eo24) | ((with_reducible refine gate_callee (f := 44) rfl ?_); refine goesL_ (some 29) rfl rfl Try.func44 (by kernel_rfl) rfl #[.agg #[.int .i64 t513, .slice Ao24 t514.length co24]] rfl (by (try simp only [List.map_toArray, List.map_cons, List.map_nil]); first | done | rfl | (simp only [List.length_drop, List.length_take]; rfl)) ?_; (with_reducible refine (impl_Solutions.calls k t513 _ _ t514 t518 t521 _ ?side1 ?side2 A10.out).mono ?_); (case side1 => refine (Kd.R_reads' (e := 25) (base := w.heap.size) (ok := fun k_ => (True ∧ some k_ ≠ (.slice Ao17 t506.length co17 : Value).ownBlock)) (n := t514.length) (c := co24) ?_).2.2; exact (by (with_reducible repeat (first | apply Kd.R_alloc | apply Kd.R_drewN | apply Kd.R_drew)); exact (Kd.R_mono (Kd.R_far (p := ⟨gb517, 1, none⟩) (Kd.R_far (p := ⟨gb517, 0, none⟩) (Kd.R_types HO516.out BK517.out (by decide)) (fun _ hk => hk.2) (.int .i64 t513)) (fun _ hk => hk.2) (.slice Ao24 t514.length co24)) (fun _ h_ => h_.1)))); (case side2 => exact (Kd.R_reads' HO516.out).2.1); rintro e w25 ⟨v519, rfl, ho0, hb⟩; refine ⟨_, rfl, ?_⟩; have n0_ := am (Kd.R_below (by (with_reducible repeat (first | apply Kd.R_alloc | apply Kd.R_drewN | apply Kd.R_drew)); exact (Kd.R_mono (Kd.R_far (p := ⟨gb517, 1, none⟩) (Kd.R_far (p := ⟨gb517, 0, none⟩) (Kd.R_types HO508.out BK517.out (by decide)) (fun _ hk => hk.2) (.int .i64 t513)) (fun _ hk => hk.2) (.slice Ao24 t514.length co24)) (fun _ h_ => h_.1))) hb); have n1_ := am (Kd.R_elder' (by (with_reducible repeat (first | apply Kd.R_alloc | apply Kd.R_drewN | apply Kd.R_drew)); exact (Kd.R_mono (Kd.R_far (p := ⟨gb517, 1, none⟩) (Kd.R_far (p := ⟨gb517, 0, none⟩) (Kd.R_types HO511.out BK517.out (by decide)) (fun _ hk => hk.2) (.int .i64 t513)) (fun _ hk => hk.2) (.slice Ao24 t514.length co24)) (fun _ h_ => h_.1))) (Kd.R_base ho0) hb); have n2_ := am (Kd.R_below (by (with_reducible repeat (first | apply Kd.R_alloc | apply Kd.R_drewN | apply Kd.R_drew)); exact (Kd.R_mono (Kd.R_far (p := ⟨gb517, 1, none⟩) (Kd.R_far (p := ⟨gb517, 0, none⟩) (Kd.R_types HO516.out BK517.out (by decide)) (fun _ hk => hk.2) (.int .i64 t513)) (fun _ hk => hk.2) (.slice Ao24 t514.length co24)) (fun _ h_ => h_.1))) hb); have n3_ := am (Kd.R_lower (Kd.R_new' ho0 (Kd.R_lt (by (with_reducible repeat (first | apply Kd.R_alloc | apply Kd.R_drewN | apply Kd.R_drew)); exact (Kd.R_mono (Kd.R_far (p := ⟨gb517, 1, none⟩) (Kd.R_far (p := ⟨gb517, 0, none⟩) (Kd.R_types HO511.out BK517.out (by decide)) (fun _ hk => hk.2) (.int .i64 t513)) (fun _ hk => hk.2) (.slice Ao24 t514.length co24)) (fun _ h_ => h_.1))))) (below_size (by repeat (first | (with_reducible first | exact HB.out | apply below_alloc | apply pw_below_drewN | apply below_drew1 | refine below_set ?_ (Aside0.out (by assumption))) | exact HB.out)))); have n4_ := am (blk_below (g := gb503) (o := .cells #[.int .i64 a0_0, .slice A0_1 l0_1.length c0_1] 30 (0, 0)) (by (with_reducible repeat (first | refine blk_drewN ?_ _ | refine blk_drew ?_ | refine blk_alloc ?_ _)); refine blk_far ?_ NB503_517.out _; (with_reducible repeat (first | refine blk_drewN ?_ _ | refine blk_drew ?_ | refine blk_alloc ?_ _)); refine blk_far ?_ NB503_517.out _; (with_reducible repeat (first | refine blk_drewN ?_ _ | refine blk_drew ?_ | refine blk_alloc ?_ _)); exact BK503.out) hb); have n5_ := am (blk_below (g := gb517) (o := .cells #[.int .i64 t513, .slice Ao24 t514.length co24] 35 (0, 0)) (by (with_reducible repeat (first | refine blk_drewN ?_ _ | refine blk_drew ?_ | refine blk_alloc ?_ _)); refine blk_put (cs := #[.int .i64 t513, .slice none 0 0]) ?_ 1 _ rfl; (with_reducible repeat (first | refine blk_drewN ?_ _ | refine blk_drew ?_ | refine blk_alloc ?_ _)); refine blk_put (cs := #[.int .i64 0, .slice none 0 0]) ?_ 0 _ rfl; (with_reducible repeat (first | refine blk_drewN ?_ _ | refine blk_drew ?_ | refine blk_alloc ?_ _)); exact BK517.out) hb); have n6_ := am (below_step (by repeat (first | (with_reducible first | exact HB.out | apply below_alloc | apply pw_below_drewN | apply below_drew1 | refine below_set ?_ (Aside0.out (by assumption))) | exact HB.out)) hb); clear HO508; clear HO511; clear HO516; clear BK503; clear BK517; clear HB; have HO508 := n0_; have HO511 := n1_; have HO516 := n2_; have HO520 := n3_; have BK503 := n4_; have BK517 := n5_; have HB := n6_; clear n0_ n1_ n2_ n3_ n4_ n5_ n6_; (try clear hb); (try clear hb2); (try clear hk); (try clear hi); (try clear ho0)))
  (try simp only [Act.put, List.setIfInBounds_toArray, List.set_cons_zero, List.set_cons_succ])
  go_cut [40] (fun v40 wc => ∃ (kq : Nat) (x40_10 : Bool), v40 = .bool x40_10 ∧ Aside0 (laws_FnExactSolutions.j0 kq t509 t512 t518 t521 x40_10 a0_0 l0_1 t513 t514 = some r) ∧ Aside0 (kq ≤ k) ∧ Aside0 (Kd.R Kd.string 9 wc w.heap.size (fun k_ => some k_ ≠ (v519 : Value).ownBlock) v510 t509) ∧ Aside0 (Kd.R Kd.string 9 wc w.heap.size (fun k_ => some k_ ≠ (v510 : Value).ownBlock) v519 t518) ∧ Aside0 (Kd.R k25 25 wc w.heap.size (fun _ => True) (.slice Ao24 t514.length co24) t514) ∧ Aside0 (wc.heap[gb503]? = some (.cells #[.int .i64 a0_0, (.slice A0_1 l0_1.length c0_1)] 30 (0, 0))) ∧ Aside0 (wc.heap[gb517]? = some (.cells #[.int .i64 t513, (.slice Ao24 t514.length co24)] 35 (0, 0))) ∧ Aside0 (Below w.heap.size w wc))
  case first =>
   have H := HC11.out
   clear HC11
   replace H := Option.bind_eq_some_iff.mp H
   obtain ⟨t522, A260, H⟩ := H
   replace H : (if t522 = true then (laws_FnExactSolutions.j0 k t509 t512 t518 t521 (t521 != t512) a0_0 l0_1 t513 t514) else (laws_FnExactSolutions.j0 k t509 t512 t518 t521 true a0_0 l0_1 t513 t514)) = some r := H
   have A26 := am A260
   clear A260
   by_cases c27 : t522 = true
   ·subst c27
    have H1 : (laws_FnExactSolutions.j0 k t509 t512 t518 t521 (t521 != t512) a0_0 l0_1 t513 t514) = some r := by rw [if_pos rfl] at H; exact H
    clear H
    have H := H1
    clear H1
    have H' := am H
    clear H
    obtain ⟨Ao28, co28, eo28⟩ := Kd.R_slice HO520.out
    subst eo28
    obtain ⟨Ao29, co29, eo29⟩ := Kd.R_slice HO511.out
    subst eo29
    go_wp2_with (first | ((with_reducible refine gate_callee (f := 45) rfl ?_); refine goesL_ (some 34) rfl rfl Try.func45 (by kernel_rfl) rfl #[.slice Ao28 t518.length co28, .slice Ao29 t509.length co29] rfl (by (try simp only [List.map_toArray, List.map_cons, List.map_nil]); first | done | rfl | (simp only [List.length_drop, List.length_take]; rfl)) ?_; (with_reducible refine (laws_eqStringS.calls k _ _ t518 _ _ t509 true _ ?side1 ?side2 ?side3 ?side4 A26.out).mono ?_); (case side1 => repeat (first | exact (Kd.R_reads' HO520.out).2.2 | (with_reducible refine Kd.C_alloc ?_ _) | (with_reducible refine Kd.C_drewN ?_ _) | (with_reducible refine Kd.C_drew ?_))); (case side2 => exact (Kd.R_reads' HO520.out).2.1); (case side3 => repeat (first | exact (Kd.R_reads' HO511.out).2.2 | (with_reducible refine Kd.C_alloc ?_ _) | (with_reducible refine Kd.C_drewN ?_ _) | (with_reducible refine Kd.C_drew ?_))); (case side4 => exact (Kd.R_reads' HO511.out).2.1); rintro e w' ⟨rfl, ⟨nd, rfl⟩⟩; refine ⟨_, rfl, ?_⟩))
    go_meet
    case rel => exact ⟨_, ((t521 != t512)), (by first | rfl | (simp; done) | (simp [*]; done)), H', ⟨by first | omega | exact Nat.le_refl _⟩, ⟨by (with_reducible repeat (first | apply Kd.R_alloc | apply Kd.R_drewN | apply Kd.R_drew)); exact Kd.R_mono HO511.out (fun _ hk => hk.2)⟩, ⟨by (with_reducible repeat (first | apply Kd.R_alloc | apply Kd.R_drewN | apply Kd.R_drew)); exact Kd.R_mono HO520.out (fun _ hk => hk.2)⟩, ⟨by (with_reducible repeat (first | apply Kd.R_alloc | apply Kd.R_drewN | apply Kd.R_drew)); exact Kd.R_mono HO516.out (fun _ hk => trivial)⟩, ⟨bkS BK503.out⟩, ⟨bkS BK517.out⟩, ⟨by repeat (first | (with_reducible first | exact HB.out | apply below_alloc | apply pw_below_drewN | apply below_drew1 | refine below_set ?_ (Aside0.out (by assumption))) | exact HB.out)⟩⟩
   ·replace c27 := Bool.eq_false_iff.mpr c27
    subst c27
    have H1 : (laws_FnExactSolutions.j0 k t509 t512 t518 t521 true a0_0 l0_1 t513 t514) = some r := by rw [if_neg (show ¬ (false = true) by decide)] at H; exact H
    clear H
    have H := H1
    clear H1
    have H' := am H
    clear H
    obtain ⟨Ao30, co30, eo30⟩ := Kd.R_slice HO520.out
    subst eo30
    obtain ⟨Ao31, co31, eo31⟩ := Kd.R_slice HO511.out
    subst eo31
    go_wp2_with (first | ((with_reducible refine gate_callee (f := 45) rfl ?_); refine goesL_ (some 34) rfl rfl Try.func45 (by kernel_rfl) rfl #[.slice Ao30 t518.length co30, .slice Ao31 t509.length co31] rfl (by (try simp only [List.map_toArray, List.map_cons, List.map_nil]); first | done | rfl | (simp only [List.length_drop, List.length_take]; rfl)) ?_; (with_reducible refine (laws_eqStringS.calls k _ _ t518 _ _ t509 false _ ?side1 ?side2 ?side3 ?side4 A26.out).mono ?_); (case side1 => repeat (first | exact (Kd.R_reads' HO520.out).2.2 | (with_reducible refine Kd.C_alloc ?_ _) | (with_reducible refine Kd.C_drewN ?_ _) | (with_reducible refine Kd.C_drew ?_))); (case side2 => exact (Kd.R_reads' HO520.out).2.1); (case side3 => repeat (first | exact (Kd.R_reads' HO511.out).2.2 | (with_reducible refine Kd.C_alloc ?_ _) | (with_reducible refine Kd.C_drewN ?_ _) | (with_reducible refine Kd.C_drew ?_))); (case side4 => exact (Kd.R_reads' HO511.out).2.1); rintro e w' ⟨rfl, ⟨nd, rfl⟩⟩; refine ⟨_, rfl, ?_⟩))
    go_meet
    case rel => exact ⟨_, (true), (by first | rfl | (simp; done) | (simp [*]; done)), H', ⟨by first | omega | exact Nat.le_refl _⟩, ⟨by (with_reducible repeat (first | apply Kd.R_alloc | apply Kd.R_drewN | apply Kd.R_drew)); exact Kd.R_mono HO511.out (fun _ hk => hk.2)⟩, ⟨by (with_reducible repeat (first | apply Kd.R_alloc | apply Kd.R_drewN | apply Kd.R_drew)); exact Kd.R_mono HO520.out (fun _ hk => hk.2)⟩, ⟨by (with_reducible repeat (first | apply Kd.R_alloc | apply Kd.R_drewN | apply Kd.R_drew)); exact Kd.R_mono HO516.out (fun _ hk => trivial)⟩, ⟨bkS BK503.out⟩, ⟨bkS BK517.out⟩, ⟨by repeat (first | (with_reducible first | exact HB.out | apply below_alloc | apply pw_below_drewN | apply below_drew1 | refine below_set ?_ (Aside0.out (by assumption))) | exact HB.out)⟩⟩
  case rest =>
   clear HC11
   try clear c1
   try clear c2
   try clear p2
   try clear c3
   try clear c3b0
   try clear c4
   try clear c13
   try clear c17
   try clear c19
   try clear c22
   try clear c27
   try clear hcz13_0
   try clear hcz13_1
   try clear hcz15_0
   try clear hcz15_1
   try clear hcz19_0
   try clear hcz19_1
   try clear hcz23_0
   try clear hcz23_1
   try clear hcz5_0
   try clear hcz5_1
   try clear hfz13_0
   try clear hfz13_1
   try clear hfz15_0
   try clear hfz15_1
   try clear hfz19_0
   try clear hfz19_1
   try clear hfz23_0
   try clear hfz23_1
   try clear hfz5_0
   try clear hfz5_1
   obtain ⟨kq, x40_10, rfl, HA, HJ10, HO_4, HO_7, HO_518001, BK503, BK517, HB⟩ := hcut
   cases kq with
   | zero => exact absurd HA.out (by simp [laws_FnExactSolutions.j0])
   | succ kj10 =>
    have H := HA.out
    clear HA
    simp only [laws_FnExactSolutions.j0] at H
    by_cases c32 : x40_10 = true
    ·subst c32
     have H1 : (none) = some r := by rw [if_pos rfl] at H; exact H
     clear H
     have H := H1
     clear H1
     exact absurd H (by simp)
    ·replace c32 := Bool.eq_false_iff.mpr c32
     subst c32
     have H1 : ((laws_toPuzzle.f kj10 a0_0 l0_1).bind fun bt523 => ((laws_eqPuzzle.f kj10 t513 t514 bt523.1 bt523.2).bind fun t527 => (if t527 = true then ((laws_markPuzzle.f kj10 t513 t514 1).bind fun bt528 => (if bt528.1 < 0 then (laws_FnExactSolutions.j1 kj10 t509 t512 t518 true a0_0 l0_1) else ((laws_eqStringS.f kj10 t518 t509).bind fun t530 => (if t530 = true then (laws_FnExactSolutions.j1 kj10 t509 t512 t518 (t521 != t512) a0_0 l0_1) else (laws_FnExactSolutions.j1 kj10 t509 t512 t518 true a0_0 l0_1))))) else (none)))) = some r := by rw [if_neg (show ¬ (false = true) by decide)] at H; exact H
     clear H
     have H := H1
     clear H1
     replace H := Option.bind_eq_some_iff.mp H
     obtain ⟨⟨t523, t524⟩, A330, H⟩ := H
     replace H : ((laws_eqPuzzle.f kj10 t513 t514 t523 t524).bind fun t527 => (if t527 = true then ((laws_markPuzzle.f kj10 t513 t514 1).bind fun bt528 => (if bt528.1 < 0 then (laws_FnExactSolutions.j1 kj10 t509 t512 t518 true a0_0 l0_1) else ((laws_eqStringS.f kj10 t518 t509).bind fun t530 => (if t530 = true then (laws_FnExactSolutions.j1 kj10 t509 t512 t518 (t521 != t512) a0_0 l0_1) else (laws_FnExactSolutions.j1 kj10 t509 t512 t518 true a0_0 l0_1))))) else (none))) = some r := H
     have A33 := am A330
     clear A330
     replace H := Option.bind_eq_some_iff.mp H
     obtain ⟨t527, A340, H⟩ := H
     replace H : (if t527 = true then ((laws_markPuzzle.f kj10 t513 t514 1).bind fun bt528 => (if bt528.1 < 0 then (laws_FnExactSolutions.j1 kj10 t509 t512 t518 true a0_0 l0_1) else ((laws_eqStringS.f kj10 t518 t509).bind fun t530 => (if t530 = true then (laws_FnExactSolutions.j1 kj10 t509 t512 t518 (t521 != t512) a0_0 l0_1) else (laws_FnExactSolutions.j1 kj10 t509 t512 t518 true a0_0 l0_1))))) else (none)) = some r := H
     have A34 := am A340
     clear A340
     by_cases c35 : t527 = true
     ·subst c35
      have H1 : ((laws_markPuzzle.f kj10 t513 t514 1).bind fun bt528 => (if bt528.1 < 0 then (laws_FnExactSolutions.j1 kj10 t509 t512 t518 true a0_0 l0_1) else ((laws_eqStringS.f kj10 t518 t509).bind fun t530 => (if t530 = true then (laws_FnExactSolutions.j1 kj10 t509 t512 t518 (t521 != t512) a0_0 l0_1) else (laws_FnExactSolutions.j1 kj10 t509 t512 t518 true a0_0 l0_1))))) = some r := by rw [if_pos rfl] at H; exact H
      clear H
      have H := H1
      clear H1
      replace H := Option.bind_eq_some_iff.mp H
      obtain ⟨⟨t528, t529⟩, A360, H⟩ := H
      replace H : (if t528 < 0 then (laws_FnExactSolutions.j1 kj10 t509 t512 t518 true a0_0 l0_1) else ((laws_eqStringS.f kj10 t518 t509).bind fun t530 => (if t530 = true then (laws_FnExactSolutions.j1 kj10 t509 t512 t518 (t521 != t512) a0_0 l0_1) else (laws_FnExactSolutions.j1 kj10 t509 t512 t518 true a0_0 l0_1)))) = some r := H
      have A36 := am A360
      clear A360
      have HC37 := am H
      clear H
      try go_wp2
      have n0_ := am (Kd.R_drew HO_4.out)
      have n1_ := am (Kd.R_drew HO_7.out)
      have n2_ := am (Kd.R_drew HO_518001.out)
      have n3_ := am (blk_drew BK503.out)
      have n4_ := am (blk_drew BK517.out)
      have n5_ := am (below_drew1 HB.out)
      clear HO_4
      clear HO_7
      clear HO_518001
      clear BK503
      clear BK517
      clear HB
      have HO_4 := n0_
      have HO_7 := n1_
      have HO_518001 := n2_
      have BK503 := n3_
      have BK517 := n4_
      have HB := n5_
      clear n0_ n1_ n2_ n3_ n4_ n5_
      refine start_ (n := 5) (S := fun w' => w'.cell? ⟨gb517, 0, none⟩ = some (.int .i64 t513) ∧ w'.cell? ⟨gb517, 1, none⟩ = some (.slice Ao24 t514.length co24) ∧ w'.cell? ⟨gb503, 0, none⟩ = some (.int .i64 a0_0) ∧ w'.cell? ⟨gb503, 1, none⟩ = some (.slice A0_1 l0_1.length c0_1)) (ds := []) #[false, false, false, false, false] (by kernel_rfl) rfl rfl ⟨(blk_cell BK517.out 0).trans rfl, (blk_cell BK517.out 1).trans rfl, (blk_cell BK503.out 0).trans rfl, (blk_cell BK503.out 1).trans rfl⟩ (fun hHeld => ?_)
      generalize wc.drew = w38 at HO_4 HO_7 HO_518001 BK503 BK517 HB hHeld ⊢
      refine take_ (i := 0) (N := some 41) (v := ?_) (a' := ?_) #[true, false, false, false, false] rfl rfl (by kernel_rfl) (fun _ _ _ h => h) (Or.inl ⟨by rfl, ?_⟩) hHeld ?_ ?_
      rotate_left
      ·rintro w' ⟨s0, s1, s2, s3⟩
       go_simp
       with_reducible rfl
      rotate_left
      ·simp only [Act.put, List.setIfInBounds_toArray, List.set_cons_zero, List.set_cons_succ, i64_w, i32_w]
       rfl
      refine take_ (i := 1) (N := some 42) (v := ?_) (a' := ?_) #[true, true, false, false, false] rfl rfl (by kernel_rfl) (fun _ _ _ h => h) (Or.inl ⟨by rfl, ?_⟩) hHeld ?_ ?_
      rotate_left
      ·rintro w' ⟨s0, s1, s2, s3⟩
       go_simp
       with_reducible rfl
      rotate_left
      ·simp only [Act.put, List.setIfInBounds_toArray, List.set_cons_zero, List.set_cons_succ, i64_w, i32_w]
       rfl
      refine one_ (i := 2) (N := some 43) #[true, true, true, false, false] rfl rfl (by kernel_rfl) (by decide) (fun K hK => ?_)
      refine goes_ Try.func19 (by kernel_rfl) rfl #[.agg #[.int .i64 a0_0, .slice A0_1 l0_1.length c0_1]] (by rfl) rfl rfl (by (try simp only [List.map_toArray, List.map_cons, List.map_nil]); first | done | rfl | (simp only [List.length_drop, List.length_take]; rfl)) ?_
      with_reducible refine (laws_toPuzzle.calls kj10 a0_0 _ _ l0_1 t523 t524 _ ?side1 ?side2 A33.out).mono ?_
      (case side1 => repeat (first | exact (Kd.C_below HR0_1.out HB.out) | (with_reducible refine Kd.C_alloc ?_ _) | (with_reducible refine Kd.C_drewN ?_ _) | (with_reducible refine Kd.C_drew ?_)))
      (case side2 => exact HC0_1.out)
      rintro e w39 ⟨v525, rfl, ho0, hb⟩
      refine ⟨_, rfl, ?_⟩
      have n0_ := am (Kd.R_below (roS HO_4.out) hb)
      have n1_ := am (Kd.R_below (roS HO_7.out) hb)
      have n2_ := am (Kd.R_elder' (roS HO_518001.out) (Kd.R_base ho0) hb)
      have n3_ := am (Kd.R_lower (Kd.R_new' ho0 (Kd.R_lt (roS HO_518001.out))) (below_size (by repeat (first | (with_reducible first | exact HB.out | apply below_alloc | apply pw_below_drewN | apply below_drew1 | refine below_set ?_ (Aside0.out (by assumption))) | exact HB.out))))
      have n4_ := am (blk_below (bkS BK503.out) hb)
      have n5_ := am (blk_below (bkS BK517.out) hb)
      have n6_ := am (below_step (by repeat (first | (with_reducible first | exact HB.out | apply below_alloc | apply pw_below_drewN | apply below_drew1 | refine below_set ?_ (Aside0.out (by assumption))) | exact HB.out)) hb)
      clear HO_4
      clear HO_7
      clear HO_518001
      clear BK503
      clear BK517
      clear HB
      have HO_4 := n0_
      have HO_7 := n1_
      have HO_518001 := n2_
      have HO526 := n3_
      have BK503 := n4_
      have BK517 := n5_
      have HB := n6_
      clear n0_ n1_ n2_ n3_ n4_ n5_ n6_
      (try clear hb)
      (try clear hb2)
      (try clear hk)
      (try clear hi)
      (try clear ho0)
      obtain ⟨Ao40, co40, eo40⟩ := Kd.R_slice HO526.out
      (first | subst eo40 | (injection eo40 with f1_ f2_ f3_; have f4_ := f1_.symm; have f5_ := f3_.symm; clear f1_ f2_ f3_; subst f4_; subst f5_))
      refine hK.out _ _ ⟨(blk_cell BK517.out 0).trans rfl, (blk_cell BK517.out 1).trans rfl, (blk_cell BK503.out 0).trans rfl, (blk_cell BK503.out 1).trans rfl⟩ (fun hHeld => ?_)
      clear hK K
      refine norm_ (a' := ?_) ?_ ?_
      rotate_left
      ·show Act.put _ (some 43) _ = _
       simp only [Act.put, List.setIfInBounds_toArray, List.set_cons_zero, List.set_cons_succ, i64_w, i32_w]
       rfl
      refine one_ (i := 3) (N := some 44) #[true, true, true, true, false] rfl rfl (by kernel_rfl) (by decide) (fun K hK => ?_)
      refine goes_ Try.func21 (by kernel_rfl) rfl #[.agg #[.int .i64 t513, .slice Ao24 t514.length co24], .agg #[.int .i64 t523, .slice Ao40 t524.length co40]] (by rfl) rfl rfl (by (try simp only [List.map_toArray, List.map_cons, List.map_nil]); first | done | rfl | (simp only [List.length_drop, List.length_take]; rfl)) ?_
      with_reducible refine (laws_eqPuzzle.calls kj10 t513 _ _ t514 t523 _ _ t524 true _ ?side1 ?side2 ?side3 ?side4 A34.out).mono ?_
      (case side1 => repeat (first | exact (Kd.R_reads' HO_518001.out).2.2 | (with_reducible refine Kd.C_alloc ?_ _) | (with_reducible refine Kd.C_drewN ?_ _) | (with_reducible refine Kd.C_drew ?_)))
      (case side2 => exact (Kd.R_reads' HO_518001.out).2.1)
      (case side3 => repeat (first | exact (Kd.R_reads' HO526.out).2.2 | (with_reducible refine Kd.C_alloc ?_ _) | (with_reducible refine Kd.C_drewN ?_ _) | (with_reducible refine Kd.C_drew ?_)))
      (case side4 => exact (Kd.R_reads' HO526.out).2.1)
      rintro e w41 ⟨rfl, hb⟩
      refine ⟨_, rfl, ?_⟩
      have n0_ := am (Kd.R_below (roS HO_4.out) hb)
      have n1_ := am (Kd.R_below (roS HO_7.out) hb)
      have n2_ := am (Kd.R_below (roS HO_518001.out) hb)
      have n3_ := am (Kd.R_below (roS HO526.out) hb)
      have n4_ := am (blk_below (bkS BK503.out) hb)
      have n5_ := am (blk_below (bkS BK517.out) hb)
      have n6_ := am (below_step (by repeat (first | (with_reducible first | exact HB.out | apply below_alloc | apply pw_below_drewN | apply below_drew1 | refine below_set ?_ (Aside0.out (by assumption))) | exact HB.out)) hb)
      clear HO_4
      clear HO_7
      clear HO_518001
      clear HO526
      clear BK503
      clear BK517
      clear HB
      have HO_4 := n0_
      have HO_7 := n1_
      have HO_518001 := n2_
      have HO526 := n3_
      have BK503 := n4_
      have BK517 := n5_
      have HB := n6_
      clear n0_ n1_ n2_ n3_ n4_ n5_ n6_
      (try clear hb)
      (try clear hb2)
      (try clear hk)
      (try clear hi)
      refine hK.out _ _ ⟨(blk_cell BK517.out 0).trans rfl, (blk_cell BK517.out 1).trans rfl, (blk_cell BK503.out 0).trans rfl, (blk_cell BK503.out 1).trans rfl⟩ (fun hHeld => ?_)
      clear hK K
      refine norm_ (a' := ?_) ?_ ?_
      rotate_left
      ·show Act.put _ (some 44) _ = _
       simp only [Act.put, List.setIfInBounds_toArray, List.set_cons_zero, List.set_cons_succ, i64_w, i32_w]
       rfl
      refine pure_ (i := 4) (N := some 45) (v := ?_) (a' := ?_) #[true, true, true, true, true] rfl rfl (by kernel_rfl) (fun _ _ _ h => h) (Or.inl ⟨by rfl, ?_⟩) ?_ ?_
      rotate_left
      ·intro w'
       go_simp
       with_reducible rfl
      rotate_left
      ·simp only [Act.put, List.setIfInBounds_toArray, List.set_cons_zero, List.set_cons_succ, i64_w, i32_w]
       rfl
      refine done_ (by kernel_rfl) ?_
      have hnb42 := NB517_503.out
      have hnc42 := NB503_517.out
      have hcz43_0 : w41.cell? ⟨gb517, 0, none⟩ = some (.int .i64 t513) := (blk_cell BK517.out 0).trans rfl
      have hcz43_1 : w41.cell? ⟨gb517, 1, none⟩ = some (.slice Ao24 t514.length co24) := (blk_cell BK517.out 1).trans rfl
      have hfz43_0 := blk_frozen BK517.out 0
      have hfz43_1 := blk_frozen BK517.out 1
      go_upto_region 14 with (first | ((with_reducible refine gate_callee (f := 24) rfl ?_); refine goesL_ (some 48) rfl rfl Try.func24 (by kernel_rfl) rfl #[.agg #[.int .i64 t513, .slice Ao24 t514.length co24], .int .i64 1] rfl (by (try simp only [List.map_toArray, List.map_cons, List.map_nil]); first | done | rfl | (simp only [List.length_drop, List.length_take]; rfl)) ?_; (with_reducible refine (laws_markPuzzle.calls kj10 t513 (fun k_ => some k_ = (.slice Ao24 t514.length co24 : Value).ownBlock) (.slice Ao24 t514.length co24) t514 1 t528 t529 w _ ?side1 ?side2 A36.out).mono ?_); (case side1 => repeat (first | (with_reducible first | exact HB.out | apply below_alloc | apply pw_below_drewN | apply below_drew1 | refine below_set ?_ (Aside0.out (by assumption))) | exact HB.out)); (case side2 => exact Kd.R_tight rfl HO_518001.out); rintro e w44 ⟨rfl, hy0, hb, hkp⟩; refine ⟨_, rfl, ?_⟩; have n0_ := am (Kd.R_mono (ok' := fun k_ => some k_ ≠ (v519 : Value).ownBlock) (Kd.R_keptB ((Kd.R_apart' HO_4.out (Kd.R_typed HO_518001.out) (by decide))) hkp (fun k_ hk_ hs_ => (hk_.2) hs_)) (fun k_ hk_ => hk_.1.1)); have n1_ := am (Kd.R_mono (ok' := fun k_ => some k_ ≠ (v510 : Value).ownBlock) (Kd.R_keptB ((Kd.R_apart' HO_7.out (Kd.R_typed HO_518001.out) (by decide))) hkp (fun k_ hk_ hs_ => (hk_.2) hs_)) (fun k_ hk_ => hk_.1.1)); have n2_ := am (Kd.R_reok rfl hy0 (fun k_ e_ => HO_518001.out.1 k_ e_)); have n3_ := am (blk_kept (bkS BK503.out) hkp (fun hs_ => (fun e_ => (Kd.R_ne HO_518001.out BK503.out (by decide)) e_) hs_)); have n4_ := am (blk_kept (bkS BK517.out) hkp (fun hs_ => (fun e_ => (Kd.R_ne HO_518001.out BK517.out (by decide)) e_) hs_)); have n5_ := am (Kd.R_mono (ok' := fun k_ => some k_ ≠ (.slice Ao24 t514.length co24 : Value).ownBlock) (Kd.R_keptB (HO526.out) hkp (fun k_ hk_ hs_ => (hk_.2) hs_)) (fun k_ hk_ => hk_.1.2)); have n6_ := am (hb); clear HO_4; clear HO_7; clear HO_518001; clear BK503; clear BK517; clear HO526; clear HB; have HO_4 := n0_; have HO_7 := n1_; have HO_518001 := n2_; have BK503 := n3_; have BK517 := n4_; have HO526 := n5_; have HB := n6_; clear n0_ n1_ n2_ n3_ n4_ n5_ n6_; (try clear hb); (try clear hkp); (try clear hy0)))
      (try simp only [Act.put, List.setIfInBounds_toArray, List.set_cons_zero, List.set_cons_succ])
      go_cut [61] (fun v61 wc => ∃ (kq : Nat) (x61_36 : Bool), v61 = .bool x61_36 ∧ Aside0 (laws_FnExactSolutions.j1 kq t509 t512 t518 x61_36 a0_0 l0_1 = some r) ∧ Aside0 (kq ≤ kj10) ∧ Aside0 (Kd.R Kd.string 9 wc w.heap.size (fun k_ => some k_ ≠ (v519 : Value).ownBlock) v510 t509) ∧ Aside0 (Kd.R Kd.string 9 wc w.heap.size (fun k_ => some k_ ≠ (v510 : Value).ownBlock) v519 t518) ∧ Aside0 (Kd.R k25 25 wc w.heap.size (fun _ => True) (.slice Ao24 t514.length co24) t529) ∧ Aside0 (wc.heap[gb503]? = some (.cells #[.int .i64 a0_0, (.slice A0_1 l0_1.length c0_1)] 30 (0, 0))) ∧ Aside0 (wc.heap[gb517]? = some (.cells #[.int .i64 t513, (.slice Ao24 t514.length co24)] 35 (0, 0))) ∧ Aside0 (Below w.heap.size w wc))
      case first =>
       have H := HC37.out
       clear HC37
       by_cases c45 : t528 < 0
       ·rw [if_pos c45] at H
        have c45b0 : decide (t528 < 0) = true := decide_eq_true c45
        clear c45
        (first | rw [c45b0] | (simp only [i64_w, i32_w]; rw [c45b0]) | skip)
        have H' := am H
        clear H
        go_wp2
        go_meet
        case rel => exact ⟨_, (true), (by first | rfl | (simp; done) | (simp [*]; done)), H', ⟨by have := HJ10.out; first | omega | exact Nat.le_refl _⟩, ⟨roS HO_4.out⟩, ⟨roS HO_7.out⟩, ⟨by (with_reducible repeat (first | apply Kd.R_alloc | apply Kd.R_drewN | apply Kd.R_drew)); exact Kd.R_mono HO_518001.out (fun _ hk => trivial)⟩, ⟨bkS BK503.out⟩, ⟨bkS BK517.out⟩, ⟨by repeat (first | (with_reducible first | exact HB.out | apply below_alloc | apply pw_below_drewN | apply below_drew1 | refine below_set ?_ (Aside0.out (by assumption))) | exact HB.out)⟩⟩
       ·rw [if_neg c45] at H
        have c45b0 : decide (t528 < 0) = false := decide_eq_false c45
        clear c45
        (first | rw [c45b0] | (simp only [i64_w, i32_w]; rw [c45b0]) | skip)
        replace H := Option.bind_eq_some_iff.mp H
        obtain ⟨t530, A460, H⟩ := H
        replace H : (if t530 = true then (laws_FnExactSolutions.j1 kj10 t509 t512 t518 (t521 != t512) a0_0 l0_1) else (laws_FnExactSolutions.j1 kj10 t509 t512 t518 true a0_0 l0_1)) = some r := H
        have A46 := am A460
        clear A460
        by_cases c47 : t530 = true
        ·subst c47
         have H1 : (laws_FnExactSolutions.j1 kj10 t509 t512 t518 (t521 != t512) a0_0 l0_1) = some r := by rw [if_pos rfl] at H; exact H
         clear H
         have H := H1
         clear H1
         have H' := am H
         clear H
         obtain ⟨Ao48, co48, eo48⟩ := Kd.R_slice HO_7.out
         subst eo48
         obtain ⟨Ao49, co49, eo49⟩ := Kd.R_slice HO_4.out
         subst eo49
         go_wp2_with (first | (go_at_call 45; (with_reducible refine (laws_eqStringS.calls kj10 _ _ t518 _ _ t509 true _ ?side1 ?side2 ?side3 ?side4 A46.out).mono ?_); (case side1 => repeat (first | exact (Kd.R_reads' HO_7.out).2.2 | (with_reducible refine Kd.C_alloc ?_ _) | (with_reducible refine Kd.C_drewN ?_ _) | (with_reducible refine Kd.C_drew ?_))); (case side2 => exact (Kd.R_reads' HO_7.out).2.1); (case side3 => repeat (first | exact (Kd.R_reads' HO_4.out).2.2 | (with_reducible refine Kd.C_alloc ?_ _) | (with_reducible refine Kd.C_drewN ?_ _) | (with_reducible refine Kd.C_drew ?_))); (case side4 => exact (Kd.R_reads' HO_4.out).2.1); rintro e w' ⟨rfl, ⟨nd, rfl⟩⟩))
         go_meet
         case rel => exact ⟨_, ((t521 != t512)), (by first | rfl | (simp; done) | (simp [*]; done)), H', ⟨by have := HJ10.out; first | omega | exact Nat.le_refl _⟩, ⟨roS HO_4.out⟩, ⟨roS HO_7.out⟩, ⟨by (with_reducible repeat (first | apply Kd.R_alloc | apply Kd.R_drewN | apply Kd.R_drew)); exact Kd.R_mono HO_518001.out (fun _ hk => trivial)⟩, ⟨bkS BK503.out⟩, ⟨bkS BK517.out⟩, ⟨by repeat (first | (with_reducible first | exact HB.out | apply below_alloc | apply pw_below_drewN | apply below_drew1 | refine below_set ?_ (Aside0.out (by assumption))) | exact HB.out)⟩⟩
        ·replace c47 := Bool.eq_false_iff.mpr c47
         subst c47
         have H1 : (laws_FnExactSolutions.j1 kj10 t509 t512 t518 true a0_0 l0_1) = some r := by rw [if_neg (show ¬ (false = true) by decide)] at H; exact H
         clear H
         have H := H1
         clear H1
         have H' := am H
         clear H
         obtain ⟨Ao50, co50, eo50⟩ := Kd.R_slice HO_7.out
         subst eo50
         obtain ⟨Ao51, co51, eo51⟩ := Kd.R_slice HO_4.out
         subst eo51
         go_wp2_with (first | (go_at_call 45; (with_reducible refine (laws_eqStringS.calls kj10 _ _ t518 _ _ t509 false _ ?side1 ?side2 ?side3 ?side4 A46.out).mono ?_); (case side1 => repeat (first | exact (Kd.R_reads' HO_7.out).2.2 | (with_reducible refine Kd.C_alloc ?_ _) | (with_reducible refine Kd.C_drewN ?_ _) | (with_reducible refine Kd.C_drew ?_))); (case side2 => exact (Kd.R_reads' HO_7.out).2.1); (case side3 => repeat (first | exact (Kd.R_reads' HO_4.out).2.2 | (with_reducible refine Kd.C_alloc ?_ _) | (with_reducible refine Kd.C_drewN ?_ _) | (with_reducible refine Kd.C_drew ?_))); (case side4 => exact (Kd.R_reads' HO_4.out).2.1); rintro e w' ⟨rfl, ⟨nd, rfl⟩⟩))
         go_meet
         case rel => exact ⟨_, (true), (by first | rfl | (simp; done) | (simp [*]; done)), H', ⟨by have := HJ10.out; first | omega | exact Nat.le_refl _⟩, ⟨roS HO_4.out⟩, ⟨roS HO_7.out⟩, ⟨by (with_reducible repeat (first | apply Kd.R_alloc | apply Kd.R_drewN | apply Kd.R_drew)); exact Kd.R_mono HO_518001.out (fun _ hk => trivial)⟩, ⟨bkS BK503.out⟩, ⟨bkS BK517.out⟩, ⟨by repeat (first | (with_reducible first | exact HB.out | apply below_alloc | apply pw_below_drewN | apply below_drew1 | refine below_set ?_ (Aside0.out (by assumption))) | exact HB.out)⟩⟩
      case rest =>
       clear HC37
       try clear c1
       try clear c2
       try clear p2
       try clear c3
       try clear c3b0
       try clear c4
       try clear c13
       try clear c17
       try clear c19
       try clear c21
       try clear c22
       try clear c24
       try clear c27
       try clear c32
       try clear c35
       try clear c42
       try clear c43
       try clear c44
       try clear c45
       try clear c45b0
       try clear c47
       try clear hcz13_0
       try clear hcz13_1
       try clear hcz15_0
       try clear hcz15_1
       try clear hcz19_0
       try clear hcz19_1
       try clear hcz23_0
       try clear hcz23_1
       try clear hcz43_0
       try clear hcz43_1
       try clear hcz5_0
       try clear hcz5_1
       try clear hfz13_0
       try clear hfz13_1
       try clear hfz15_0
       try clear hfz15_1
       try clear hfz19_0
       try clear hfz19_1
       try clear hfz23_0
       try clear hfz23_1
       try clear hfz43_0
       try clear hfz43_1
       try clear hfz5_0
       try clear hfz5_1
       try clear p2
       obtain ⟨kq, x61_36, rfl, HA, HJ36, HO_4, HO_7, HO_518001, BK503, BK517, HB⟩ := hcut
       have hl518001_36 := (Kd.R_reads' HO_518001.out).1
       rw [hl518001_36] at HO_518001
       (try simp only [hl518001_36])
       (try simp only [hl518001_36] at BK503)
       (try simp only [hl518001_36] at BK517)
       (try simp only [hl518001_36] at HO_4)
       (try simp only [hl518001_36] at HO_7)
       cases kq with
       | zero => exact absurd HA.out (by simp [laws_FnExactSolutions.j1])
       | succ kj36 =>
        have H := HA.out
        clear HA
        simp only [laws_FnExactSolutions.j1] at H
        by_cases c52 : x61_36 = true
        ·subst c52
         have H1 : (none) = some r := by rw [if_pos rfl] at H; exact H
         clear H
         have H := H1
         clear H1
         exact absurd H (by simp)
        ·replace c52 := Bool.eq_false_iff.mpr c52
         subst c52
         have H1 : ((laws_markStringS.f kj36 t518 1).bind fun bt531 => ((laws_heldStringS.f kj36 bt531.2 1).bind fun t533 => (if t533 < 0 then (none) else (if t533 = bt531.1 then ((laws_toPuzzle.f kj36 a0_0 l0_1).bind fun bt534 => ((impl_Solutions.f kj36 bt534.1 bt534.2).bind fun bt538 => ((laws_eqStringS.f kj36 bt538.1 t509).bind fun t542 => (if t542 = true then (laws_FnExactSolutions.j2 kj36 bt531.2 bt531.1 (bt538.2 != t512)) else (laws_FnExactSolutions.j2 kj36 bt531.2 bt531.1 true))))) else (none))))) = some r := by rw [if_neg (show ¬ (false = true) by decide)] at H; exact H
         clear H
         have H := H1
         clear H1
         replace H := Option.bind_eq_some_iff.mp H
         obtain ⟨⟨t531, t532⟩, A530, H⟩ := H
         replace H : ((laws_heldStringS.f kj36 t532 1).bind fun t533 => (if t533 < 0 then (none) else (if t533 = t531 then ((laws_toPuzzle.f kj36 a0_0 l0_1).bind fun bt534 => ((impl_Solutions.f kj36 bt534.1 bt534.2).bind fun bt538 => ((laws_eqStringS.f kj36 bt538.1 t509).bind fun t542 => (if t542 = true then (laws_FnExactSolutions.j2 kj36 t532 t531 (bt538.2 != t512)) else (laws_FnExactSolutions.j2 kj36 t532 t531 true))))) else (none)))) = some r := H
         have A53 := am A530
         clear A530
         replace H := Option.bind_eq_some_iff.mp H
         obtain ⟨t533, A540, H⟩ := H
         replace H : (if t533 < 0 then (none) else (if t533 = t531 then ((laws_toPuzzle.f kj36 a0_0 l0_1).bind fun bt534 => ((impl_Solutions.f kj36 bt534.1 bt534.2).bind fun bt538 => ((laws_eqStringS.f kj36 bt538.1 t509).bind fun t542 => (if t542 = true then (laws_FnExactSolutions.j2 kj36 t532 t531 (bt538.2 != t512)) else (laws_FnExactSolutions.j2 kj36 t532 t531 true))))) else (none))) = some r := H
         have A54 := am A540
         clear A540
         by_cases c55 : t533 < 0
         ·rw [if_pos c55] at H
          exact absurd H (by simp)
         ·rw [if_neg c55] at H
          have c55b0 : decide (t533 < 0) = false := decide_eq_false c55
          clear c55
          by_cases c56 : t533 = t531
          ·rw [if_pos c56] at H
           have c56b0 : (t533 == t531) = true := beq_iff_eq.mpr c56
           have c56b1 : (t533 != t531) = false := bne_eq_false_iff_eq.mpr c56
           clear c56
           replace H := Option.bind_eq_some_iff.mp H
           obtain ⟨⟨t534, t535⟩, A570, H⟩ := H
           replace H : ((impl_Solutions.f kj36 t534 t535).bind fun bt538 => ((laws_eqStringS.f kj36 bt538.1 t509).bind fun t542 => (if t542 = true then (laws_FnExactSolutions.j2 kj36 t532 t531 (bt538.2 != t512)) else (laws_FnExactSolutions.j2 kj36 t532 t531 true)))) = some r := H
           have A57 := am A570
           clear A570
           replace H := Option.bind_eq_some_iff.mp H
           obtain ⟨⟨t538, t541⟩, A580, H⟩ := H
           replace H : ((laws_eqStringS.f kj36 t538 t509).bind fun t542 => (if t542 = true then (laws_FnExactSolutions.j2 kj36 t532 t531 (t541 != t512)) else (laws_FnExactSolutions.j2 kj36 t532 t531 true))) = some r := H
           have A58 := am A580
           clear A580
           have HC59 := am H
           clear H
           obtain ⟨Ao60, co60, eo60⟩ := Kd.R_slice HO_7.out
           subst eo60
           go_upto_region 25 with (first | ((with_reducible refine gate_callee (f := 46) rfl ?_); refine goesL_ (some 64) rfl rfl Try.func46 (by kernel_rfl) rfl #[.slice Ao60 t518.length co60, .int .i64 1] rfl (by (try simp only [List.map_toArray, List.map_cons, List.map_nil]); first | done | rfl | (simp only [List.length_drop, List.length_take]; rfl)) ?_; (with_reducible refine (laws_markStringS.calls kj36 (fun k_ => some k_ = (.slice Ao60 t518.length co60 : Value).ownBlock) (.slice Ao60 t518.length co60) t518 1 t531 t532 w _ ?side1 ?side2 A53.out).mono ?_); (case side1 => repeat (first | (with_reducible first | exact HB.out | apply below_alloc | apply pw_below_drewN | apply below_drew1 | refine below_set ?_ (Aside0.out (by assumption))) | exact HB.out)); (case side2 => exact Kd.R_tight rfl HO_7.out); rintro e w61 ⟨rfl, hy0, hb, hkp⟩; refine ⟨_, rfl, ?_⟩; have n0_ := am (Kd.R_mono (ok' := fun k_ => some k_ ≠ (.slice Ao60 t518.length co60 : Value).ownBlock) (Kd.R_keptB (HO_4.out) hkp (fun k_ hk_ hs_ => (hk_) hs_)) (fun k_ hk_ => hk_.1)); have n1_ := am (Kd.R_reok rfl hy0 (fun k_ e_ => HO_7.out.1 k_ e_)); have n2_ := am (Kd.R_mono (ok' := fun k_ => True) (Kd.R_keptB ((Kd.R_apart' HO_518001.out (Kd.R_typed HO_7.out) (by decide))) hkp (fun k_ hk_ hs_ => (hk_.2) hs_)) (fun k_ hk_ => trivial)); have n3_ := am (blk_kept (bkS BK503.out) hkp (fun hs_ => (fun e_ => (Kd.R_ne HO_7.out BK503.out (by decide)) e_) hs_)); have n4_ := am (blk_kept (bkS BK517.out) hkp (fun hs_ => (fun e_ => (Kd.R_ne HO_7.out BK517.out (by decide)) e_) hs_)); have n5_ := am (hb); clear HO_4; clear HO_7; clear HO_518001; clear BK503; clear BK517; clear HB; have HO_4 := n0_; have HO_7 := n1_; have HO_518001 := n2_; have BK503 := n3_; have BK517 := n4_; have HB := n5_; clear n0_ n1_ n2_ n3_ n4_ n5_; (try clear hb); (try clear hkp); (try clear hy0)) | ((with_reducible refine gate_callee (f := 47) rfl ?_); refine goesL_ (some 67) rfl rfl Try.func47 (by kernel_rfl) rfl #[.slice Ao60 t532.length co60, .int .i64 1] rfl (by (try simp only [List.map_toArray, List.map_cons, List.map_nil]); first | done | (rw [show t532.length = t518.length from (Kd.R_reads' HO_7.out).1.symm] <;> rfl) | rfl | (simp only [List.length_drop, List.length_take]; rfl)) ?_; (with_reducible refine (laws_heldStringS.calls kj36 _ _ t532 1 t533 _ ?side1 ?side2 A54.out).mono ?_); (case side1 => repeat (first | exact (Kd.R_reads' HO_7.out).2.2 | (with_reducible refine Kd.C_alloc ?_ _) | (with_reducible refine Kd.C_drewN ?_ _) | (with_reducible refine Kd.C_drew ?_))); (case side2 => rw [show t532.length = t518.length from (Kd.R_reads' HO_7.out).1.symm]; exact (Kd.R_reads' HO_7.out).2.1); rintro e w62 ⟨rfl, hb⟩; refine ⟨_, rfl, ?_⟩; have n0_ := am (Kd.R_below (roS HO_4.out) hb); have n1_ := am (Kd.R_below (roS HO_7.out) hb); have n2_ := am (Kd.R_below (roS HO_518001.out) hb); have n3_ := am (blk_below (bkS BK503.out) hb); have n4_ := am (blk_below (bkS BK517.out) hb); have n5_ := am (below_step (by repeat (first | (with_reducible first | exact HB.out | apply below_alloc | apply pw_below_drewN | apply below_drew1 | refine below_set ?_ (Aside0.out (by assumption))) | exact HB.out)) hb); clear HO_4; clear HO_7; clear HO_518001; clear BK503; clear BK517; clear HB; have HO_4 := n0_; have HO_7 := n1_; have HO_518001 := n2_; have BK503 := n3_; have BK517 := n4_; have HB := n5_; clear n0_ n1_ n2_ n3_ n4_ n5_; (try clear hb); (try clear hb2); (try clear hk); (try clear hi); have hnb63 := NB503_517.out; have hnc63 := NB517_503.out; have hcz64_0 : w62.cell? ⟨gb503, 0, none⟩ = some (.int .i64 a0_0) := (blk_cell BK503.out 0).trans rfl; have hcz64_1 : w62.cell? ⟨gb503, 1, none⟩ = some (.slice A0_1 l0_1.length c0_1) := (blk_cell BK503.out 1).trans rfl; have hfz64_0 := blk_frozen BK503.out 0; have hfz64_1 := blk_frozen BK503.out 1) | ((with_reducible refine gate_callee (f := 19) rfl ?_); refine goesL_ (some 75) rfl rfl Try.func19 (by kernel_rfl) rfl #[.agg #[.int .i64 a0_0, .slice A0_1 l0_1.length c0_1]] rfl (by (try simp only [List.map_toArray, List.map_cons, List.map_nil]); first | done | rfl | (simp only [List.length_drop, List.length_take]; rfl)) ?_; (with_reducible refine (laws_toPuzzle.calls kj36 a0_0 _ _ l0_1 t534 t535 _ ?side1 ?side2 A57.out).mono ?_); (case side1 => repeat (first | exact (Kd.C_below HR0_1.out HB.out) | (with_reducible refine Kd.C_alloc ?_ _) | (with_reducible refine Kd.C_drewN ?_ _) | (with_reducible refine Kd.C_drew ?_))); (case side2 => exact HC0_1.out); rintro e w65 ⟨v536, rfl, ho0, hb⟩; refine ⟨_, rfl, ?_⟩; have n0_ := am (Kd.R_below (roS HO_4.out) hb); have n1_ := am (Kd.R_below (roS HO_7.out) hb); have n2_ := am (Kd.R_elder' (roS HO_518001.out) (Kd.R_base ho0) hb); have n3_ := am (Kd.R_lower (Kd.R_new' ho0 (Kd.R_lt (roS HO_518001.out))) (below_size (by repeat (first | (with_reducible first | exact HB.out | apply below_alloc | apply pw_below_drewN | apply below_drew1 | refine below_set ?_ (Aside0.out (by assumption))) | exact HB.out)))); have n4_ := am (blk_below (bkS BK503.out) hb); have n5_ := am (blk_below (bkS BK517.out) hb); have n6_ := am (below_step (by repeat (first | (with_reducible first | exact HB.out | apply below_alloc | apply pw_below_drewN | apply below_drew1 | refine below_set ?_ (Aside0.out (by assumption))) | exact HB.out)) hb); clear HO_4; clear HO_7; clear HO_518001; clear BK503; clear BK517; clear HB; have HO_4 := n0_; have HO_7 := n1_; have HO_518001 := n2_; have HO537 := n3_; have BK503 := n4_; have BK517 := n5_; have HB := n6_; clear n0_ n1_ n2_ n3_ n4_ n5_ n6_; (try clear hb); (try clear hb2); (try clear hk); (try clear hi); (try clear ho0); obtain ⟨Ao66, co66, eo66⟩ := Kd.R_slice HO537.out; subst eo66) | ((with_reducible refine gate_callee (f := 44) rfl ?_); refine goesL_ (some 76) rfl rfl Try.func44 (by kernel_rfl) rfl #[.agg #[.int .i64 t534, .slice Ao66 t535.length co66]] rfl (by (try simp only [List.map_toArray, List.map_cons, List.map_nil]); first | done | rfl | (simp only [List.length_drop, List.length_take]; rfl)) ?_; (with_reducible refine (impl_Solutions.calls kj36 t534 _ _ t535 t538 t541 _ ?side1 ?side2 A58.out).mono ?_); (case side1 => repeat (first | exact (Kd.R_reads' HO537.out).2.2 | (with_reducible refine Kd.C_alloc ?_ _) | (with_reducible refine Kd.C_drewN ?_ _) | (with_reducible refine Kd.C_drew ?_))); (case side2 => exact (Kd.R_reads' HO537.out).2.1); rintro e w67 ⟨v539, rfl, ho0, hb⟩; refine ⟨_, rfl, ?_⟩; have n0_ := am (Kd.R_elder' (roS HO_4.out) (Kd.R_base ho0) hb); have n1_ := am (Kd.R_elder' (roS HO_7.out) (Kd.R_base ho0) hb); have n2_ := am (Kd.R_below (roS HO_518001.out) hb); have n3_ := am (Kd.R_below (roS HO537.out) hb); have n4_ := am (Kd.R_lower (Kd.R_new' (Kd.R_new' ho0 (Kd.R_lt (roS HO_4.out))) (Kd.R_lt (roS HO_7.out))) (below_size (by repeat (first | (with_reducible first | exact HB.out | apply below_alloc | apply pw_below_drewN | apply below_drew1 | refine below_set ?_ (Aside0.out (by assumption))) | exact HB.out)))); have n5_ := am (blk_below (bkS BK503.out) hb); have n6_ := am (blk_below (bkS BK517.out) hb); have n7_ := am (below_step (by repeat (first | (with_reducible first | exact HB.out | apply below_alloc | apply pw_below_drewN | apply below_drew1 | refine below_set ?_ (Aside0.out (by assumption))) | exact HB.out)) hb); clear HO_4; clear HO_7; clear HO_518001; clear HO537; clear BK503; clear BK517; clear HB; have HO_4 := n0_; have HO_7 := n1_; have HO_518001 := n2_; have HO537 := n3_; have HO540 := n4_; have BK503 := n5_; have BK517 := n6_; have HB := n7_; clear n0_ n1_ n2_ n3_ n4_ n5_ n6_ n7_; (try clear hb); (try clear hb2); (try clear hk); (try clear hi); (try clear ho0)))
           (try simp only [Act.put, List.setIfInBounds_toArray, List.set_cons_zero, List.set_cons_succ])
           go_cut [87] (fun v87 wc => ∃ (kq : Nat) (x87_58 : Bool), v87 = .bool x87_58 ∧ Aside0 (laws_FnExactSolutions.j2 kq t532 t531 x87_58 = some r) ∧ Aside0 (kq ≤ kj36) ∧ Aside0 (Kd.R Kd.string 9 wc w.heap.size (fun _ => True) (.slice Ao60 t518.length co60) t532) ∧ Aside0 (Kd.R k25 25 wc w.heap.size (fun _ => True) (.slice Ao24 t529.length co24) t529) ∧ Aside0 (wc.heap[gb503]? = some (.cells #[.int .i64 a0_0, (.slice A0_1 l0_1.length c0_1)] 30 (0, 0))) ∧ Aside0 (wc.heap[gb517]? = some (.cells #[.int .i64 t513, (.slice Ao24 t529.length co24)] 35 (0, 0))) ∧ Aside0 (Below w.heap.size w wc))
           case first =>
            have H := HC59.out
            clear HC59
            replace H := Option.bind_eq_some_iff.mp H
            obtain ⟨t542, A680, H⟩ := H
            replace H : (if t542 = true then (laws_FnExactSolutions.j2 kj36 t532 t531 (t541 != t512)) else (laws_FnExactSolutions.j2 kj36 t532 t531 true)) = some r := H
            have A68 := am A680
            clear A680
            by_cases c69 : t542 = true
            ·subst c69
             have H1 : (laws_FnExactSolutions.j2 kj36 t532 t531 (t541 != t512)) = some r := by rw [if_pos rfl] at H; exact H
             clear H
             have H := H1
             clear H1
             have H' := am H
             clear H
             obtain ⟨Ao70, co70, eo70⟩ := Kd.R_slice HO540.out
             subst eo70
             obtain ⟨Ao71, co71, eo71⟩ := Kd.R_slice HO_4.out
             subst eo71
             go_wp2_with (first | ((with_reducible refine gate_callee (f := 45) rfl ?_); refine goesL_ (some 81) rfl rfl Try.func45 (by kernel_rfl) rfl #[.slice Ao70 t538.length co70, .slice Ao71 t509.length co71] rfl (by (try simp only [List.map_toArray, List.map_cons, List.map_nil]); first | done | rfl | (simp only [List.length_drop, List.length_take]; rfl)) ?_; (with_reducible refine (laws_eqStringS.calls kj36 _ _ t538 _ _ t509 true _ ?side1 ?side2 ?side3 ?side4 A68.out).mono ?_); (case side1 => repeat (first | exact (Kd.R_reads' HO540.out).2.2 | (with_reducible refine Kd.C_alloc ?_ _) | (with_reducible refine Kd.C_drewN ?_ _) | (with_reducible refine Kd.C_drew ?_))); (case side2 => exact (Kd.R_reads' HO540.out).2.1); (case side3 => repeat (first | exact (Kd.R_reads' HO_4.out).2.2 | (with_reducible refine Kd.C_alloc ?_ _) | (with_reducible refine Kd.C_drewN ?_ _) | (with_reducible refine Kd.C_drew ?_))); (case side4 => exact (Kd.R_reads' HO_4.out).2.1); rintro e w' ⟨rfl, ⟨nd, rfl⟩⟩; refine ⟨_, rfl, ?_⟩))
             go_meet
             case rel => exact ⟨_, ((t541 != t512)), (by first | rfl | (simp; done) | (simp [*]; done)), H', ⟨by have := HJ10.out; have := HJ36.out; first | omega | exact Nat.le_refl _⟩, ⟨by (try simp only [hl518001_36]); (with_reducible repeat (first | apply Kd.R_alloc | apply Kd.R_drewN | apply Kd.R_drew)); exact Kd.R_mono HO_7.out (fun _ hk => trivial)⟩, ⟨by (try simp only [hl518001_36]); (with_reducible repeat (first | apply Kd.R_alloc | apply Kd.R_drewN | apply Kd.R_drew)); exact Kd.R_mono HO_518001.out (fun _ hk => trivial)⟩, ⟨by (try simp only [hl518001_36]); (with_reducible repeat (first | refine blk_drewN ?_ _ | refine blk_drew ?_ | refine blk_alloc ?_ _)); exact BK503.out⟩, ⟨by (try simp only [hl518001_36]); (with_reducible repeat (first | refine blk_drewN ?_ _ | refine blk_drew ?_ | refine blk_alloc ?_ _)); exact BK517.out⟩, ⟨by repeat (first | (with_reducible first | exact HB.out | apply below_alloc | apply pw_below_drewN | apply below_drew1 | refine below_set ?_ (Aside0.out (by assumption))) | exact HB.out)⟩⟩
            ·replace c69 := Bool.eq_false_iff.mpr c69
             subst c69
             have H1 : (laws_FnExactSolutions.j2 kj36 t532 t531 true) = some r := by rw [if_neg (show ¬ (false = true) by decide)] at H; exact H
             clear H
             have H := H1
             clear H1
             have H' := am H
             clear H
             obtain ⟨Ao72, co72, eo72⟩ := Kd.R_slice HO540.out
             subst eo72
             obtain ⟨Ao73, co73, eo73⟩ := Kd.R_slice HO_4.out
             subst eo73
             go_wp2_with (first | ((with_reducible refine gate_callee (f := 45) rfl ?_); refine goesL_ (some 81) rfl rfl Try.func45 (by kernel_rfl) rfl #[.slice Ao72 t538.length co72, .slice Ao73 t509.length co73] rfl (by (try simp only [List.map_toArray, List.map_cons, List.map_nil]); first | done | rfl | (simp only [List.length_drop, List.length_take]; rfl)) ?_; (with_reducible refine (laws_eqStringS.calls kj36 _ _ t538 _ _ t509 false _ ?side1 ?side2 ?side3 ?side4 A68.out).mono ?_); (case side1 => repeat (first | exact (Kd.R_reads' HO540.out).2.2 | (with_reducible refine Kd.C_alloc ?_ _) | (with_reducible refine Kd.C_drewN ?_ _) | (with_reducible refine Kd.C_drew ?_))); (case side2 => exact (Kd.R_reads' HO540.out).2.1); (case side3 => repeat (first | exact (Kd.R_reads' HO_4.out).2.2 | (with_reducible refine Kd.C_alloc ?_ _) | (with_reducible refine Kd.C_drewN ?_ _) | (with_reducible refine Kd.C_drew ?_))); (case side4 => exact (Kd.R_reads' HO_4.out).2.1); rintro e w' ⟨rfl, ⟨nd, rfl⟩⟩; refine ⟨_, rfl, ?_⟩))
             go_meet
             case rel => exact ⟨_, (true), (by first | rfl | (simp; done) | (simp [*]; done)), H', ⟨by have := HJ10.out; have := HJ36.out; first | omega | exact Nat.le_refl _⟩, ⟨by (try simp only [hl518001_36]); (with_reducible repeat (first | apply Kd.R_alloc | apply Kd.R_drewN | apply Kd.R_drew)); exact Kd.R_mono HO_7.out (fun _ hk => trivial)⟩, ⟨by (try simp only [hl518001_36]); (with_reducible repeat (first | apply Kd.R_alloc | apply Kd.R_drewN | apply Kd.R_drew)); exact Kd.R_mono HO_518001.out (fun _ hk => trivial)⟩, ⟨by (try simp only [hl518001_36]); (with_reducible repeat (first | refine blk_drewN ?_ _ | refine blk_drew ?_ | refine blk_alloc ?_ _)); exact BK503.out⟩, ⟨by (try simp only [hl518001_36]); (with_reducible repeat (first | refine blk_drewN ?_ _ | refine blk_drew ?_ | refine blk_alloc ?_ _)); exact BK517.out⟩, ⟨by repeat (first | (with_reducible first | exact HB.out | apply below_alloc | apply pw_below_drewN | apply below_drew1 | refine below_set ?_ (Aside0.out (by assumption))) | exact HB.out)⟩⟩
           case rest =>
            clear HC59
            try clear c1
            try clear c2
            try clear p2
            try clear c3
            try clear c3b0
            try clear c4
            try clear c5
            try clear c6
            try clear c13
            try clear c17
            try clear c19
            try clear c21
            try clear c22
            try clear c24
            try clear c27
            try clear c32
            try clear c35
            try clear c42
            try clear c43
            try clear c44
            try clear c45
            try clear c45b0
            try clear c46
            try clear c47
            try clear c52
            try clear c55
            try clear c55b0
            try clear c56
            try clear c56b0
            try clear c56b1
            try clear c63
            try clear c69
            try clear hcz13_0
            try clear hcz13_1
            try clear hcz15_0
            try clear hcz15_1
            try clear hcz19_0
            try clear hcz19_1
            try clear hcz23_0
            try clear hcz23_1
            try clear hcz43_0
            try clear hcz43_1
            try clear hcz5_0
            try clear hcz5_1
            try clear hcz64_0
            try clear hcz64_1
            try clear hfz13_0
            try clear hfz13_1
            try clear hfz15_0
            try clear hfz15_1
            try clear hfz19_0
            try clear hfz19_1
            try clear hfz23_0
            try clear hfz23_1
            try clear hfz43_0
            try clear hfz43_1
            try clear hfz5_0
            try clear hfz5_1
            try clear hfz64_0
            try clear hfz64_1
            try clear p2
            obtain ⟨kq, x87_58, rfl, HA, HJ58, HO_7, HO_518001, BK503, BK517, HB⟩ := hcut
            have hl7_58 := (Kd.R_reads' HO_7.out).1
            rw [hl7_58] at HO_7
            (try simp only [hl7_58])
            (try simp only [hl7_58] at BK503)
            (try simp only [hl7_58] at BK517)
            (try simp only [hl7_58] at HO_518001)
            cases kq with
            | zero => exact absurd HA.out (by simp [laws_FnExactSolutions.j2])
            | succ kj58 =>
             have H := HA.out
             clear HA
             simp only [laws_FnExactSolutions.j2] at H
             by_cases c74 : x87_58 = true
             ·subst c74
              have H1 : (none) = some r := by rw [if_pos rfl] at H; exact H
              clear H
              have H := H1
              clear H1
              exact absurd H (by simp)
             ·replace c74 := Bool.eq_false_iff.mpr c74
              subst c74
              have H1 : ((laws_heldStringS.f kj58 t532 1).bind fun t543 => (if t543 < 0 then (none) else (if t543 = t531 then (some true) else (none)))) = some r := by rw [if_neg (show ¬ (false = true) by decide)] at H; exact H
              clear H
              have H := H1
              clear H1
              replace H := Option.bind_eq_some_iff.mp H
              obtain ⟨t543, A750, H⟩ := H
              replace H : (if t543 < 0 then (none) else (if t543 = t531 then (some true) else (none))) = some r := H
              have A75 := am A750
              clear A750
              by_cases c76 : t543 < 0
              ·rw [if_pos c76] at H
               exact absurd H (by simp)
              ·rw [if_neg c76] at H
               have c76b0 : decide (t543 < 0) = false := decide_eq_false c76
               clear c76
               by_cases c77 : t543 = t531
               ·rw [if_pos c77] at H
                have c77b0 : (t543 == t531) = true := beq_iff_eq.mpr c77
                have c77b1 : (t543 != t531) = false := bne_eq_false_iff_eq.mpr c77
                clear c77
                obtain rfl := Option.some.inj H
                go_wp2_with (first | ((with_reducible refine gate_callee (f := 47) rfl ?_); refine goesL_ (some 90) rfl rfl Try.func47 (by kernel_rfl) rfl #[.slice Ao60 t532.length co60, .int .i64 1] rfl (by (try simp only [List.map_toArray, List.map_cons, List.map_nil]); first | done | rfl | (simp only [List.length_drop, List.length_take]; rfl)) ?_; (with_reducible refine (laws_heldStringS.calls kj58 _ _ t532 1 t543 _ ?side1 ?side2 A75.out).mono ?_); (case side1 => repeat (first | exact (Kd.R_reads' HO_7.out).2.2 | (with_reducible refine Kd.C_alloc ?_ _) | (with_reducible refine Kd.C_drewN ?_ _) | (with_reducible refine Kd.C_drew ?_))); (case side2 => exact (Kd.R_reads' HO_7.out).2.1); rintro e w78 ⟨rfl, hb⟩; refine ⟨_, rfl, ?_⟩; have n0_ := am (Kd.R_below (roS HO_7.out) hb); have n1_ := am (Kd.R_below (roS HO_518001.out) hb); have n2_ := am (blk_below (bkS BK503.out) hb); have n3_ := am (blk_below (bkS BK517.out) hb); have n4_ := am (below_step (by repeat (first | (with_reducible first | exact HB.out | apply below_alloc | apply pw_below_drewN | apply below_drew1 | refine below_set ?_ (Aside0.out (by assumption))) | exact HB.out)) hb); clear HO_7; clear HO_518001; clear BK503; clear BK517; clear HB; have HO_7 := n0_; have HO_518001 := n1_; have BK503 := n2_; have BK517 := n3_; have HB := n4_; clear n0_ n1_ n2_ n3_ n4_; (try clear hb); (try clear hb2); (try clear hk); (try clear hi)))
                go_ret
                exact ⟨by first | rfl | (simp [errW_none, errW_some] <;> rfl) | (simp [*, errW_none, errW_some] <;> rfl), by repeat (first | (with_reducible first | exact HB.out | apply below_alloc | apply pw_below_drewN | apply below_drew1 | refine below_set ?_ (Aside0.out (by assumption))) | exact HB.out)⟩
               ·rw [if_neg c77] at H
                exact absurd H (by simp)
          ·rw [if_neg c56] at H
           exact absurd H (by simp)
     ·replace c35 := Bool.eq_false_iff.mpr c35
      subst c35
      have H1 : (none) = some r := by rw [if_neg (show ¬ (false = true) by decide)] at H; exact H
      clear H
      have H := H1
      clear H1
      exact absurd H (by simp)
end Go.Proofs.Ytonifgfgeollaaa.X
end
section
-- Written by a program of this session (wip/tools/mp.py) over the kit's print of the translation.
namespace Go.Proofs.Ytonifgfgeollaaa.X
open Go.RowKit Go.Proofs.YtonifgfgeollaaaW.PrintWords Go.Proofs.YtonifgfgeollaaaW.PrintLast Go.Proofs.YtonifgfgeollaaaW.PrintMore
attribute [local go_sem] max2_int min2_int max_two min_two max_three min_three max_four min_four   -- for this text's walks alone
set_option linter.unusedVariables false
set_option linter.unusedSimpArgs false
/-- The pure statement of FnExactSolutions. -/
def laws_FnExactSolutions.Pure : Prop := ∀ (a0_0 : Int) (l0_1 : List (S23)), (Lit.int .i64 a0_0).wf = true → (l0_1.length ≤ maxLen ∧ ∀ y ∈ l0_1, ((Lit.int .i64 y.f0).wf = true ∧ (Lit.int .i64 y.f1).wf = true ∧ (Lit.int .i64 y.f2).wf = true)) → ∃ k, laws_FnExactSolutions.f k a0_0 l0_1 = some true
end Go.Proofs.Ytonifgfgeollaaa.X
end
section
/- Lists of texts: compared, marked and looked at as the laws do. -/
--! needs LBase laws_eqStringS laws_markText laws_markStringS laws_heldStringS
namespace Go.Proofs.Ytonifgfgeollaaa.X
open Go.Proofs.Ytonifgfgeollaaa.Sq Go.RowKit Go.Proofs.YtonifgfgeollaaaW.PrintWords Go.Proofs.YtonifgfgeollaaaW.PrintLast Go.Proofs.YtonifgfgeollaaaW.PrintMore
attribute [local go_sem] max2_int min2_int max_two min_two max_three min_three max_four min_four   -- for this text's walks alone
set_option linter.unusedVariables false
set_option linter.unusedSimpArgs false
theorem eqStringS_l0 (l : List ByteArray) (hl : l.length ≤ 1048576) (e : Nat) : ∀ i : Nat, i + e = l.length → Ev (fun k => laws_eqStringS.l0 k l l (i : Int)) true := by
  induction e with
  | zero =>
    intro i hi
    refine Ev.step (fun k => by rw [laws_eqStringS.l0]) ?_
    exact evNeg (by omega) (evSome rfl)
  | succ e ih =>
    intro i hi
    refine Ev.step (fun k => by rw [laws_eqStringS.l0]) ?_
    rw [show wrap64 ((i : Int) + 1) = ((i + 1 : Nat) : Int) from (w64 (by omega) (by omega)).trans (by omega)]
    exact evPos (by omega) (evPos (by omega) (evPos (by omega) (evPos rfl (ih (i + 1) (by omega)))))
theorem eqStringS_self (l : List ByteArray) (hl : l.length ≤ 1048576) : Ev (fun k => laws_eqStringS.f k l l) true := by
  unfold laws_eqStringS.f
  exact evPos rfl (eqStringS_l0 l hl l.length 0 (Nat.zero_add _))
/-- The mark with a number. -/
def mt (i : Nat) : ByteArray := (laws_markText.f 10 (i : Int)).getD ⟨#[]⟩
theorem mt_all : ((List.range 300).all fun (i : Nat) => (laws_markText.f 10 (i : Int)).isSome) = true := by decide +kernel
theorem mt_ev (i : Nat) (h : i < 300) : Ev (fun k => laws_markText.f k (i : Int)) (mt i) := by
  have h1 := mt_all
  rw [List.all_eq_true] at h1
  have h2 := h1 i (List.mem_range.2 h)
  refine Ev.of (laws_markText.mono _) (k := 10) ?_
  unfold mt
  cases hm : laws_markText.f 10 (i : Int) with
  | none => rw [hm] at h2; cases h2
  | some x => rfl
def mkT (n : Nat) : List ByteArray := (List.range n).map fun (i : Nat) => mt (1 + i)
theorem mkT_len (n : Nat) : (mkT n).length = n := by simp [mkT]
theorem markStringS_l0 (l : List ByteArray) (hm : l.length ≤ 256) (d : Nat) : ∀ i : Nat, i + d = l.length →
    Ev (fun k => laws_markStringS.l0 k ((mkT l.length).take i ++ l.drop i) ((1 + i : Nat) : Int) (i : Int)) (((1 + l.length : Nat) : Int), mkT l.length) := by
  induction d with
  | zero =>
    intro i hi
    refine Ev.step (fun k => by rw [laws_markStringS.l0]) ?_
    have hl := mid_len (mkT l.length) l i (by rw [mkT_len]) (by rw [mkT_len]; omega)
    rw [mkT_len] at hl
    refine evNeg (by rw [hl]; omega) (evSome ?_)
    rw [List.take_of_length_le (by rw [mkT_len]; omega), List.drop_of_length_le (by omega), List.append_nil, show i = l.length by omega]
  | succ d ih =>
    intro i hi
    refine Ev.step (fun k => by rw [laws_markStringS.l0]) ?_
    have hl := mid_len (mkT l.length) l i (by rw [mkT_len]) (by rw [mkT_len]; omega)
    rw [mkT_len] at hl
    rw [show wrap64 (((1 + i : Nat) : Int) + 1) = ((1 + (i + 1) : Nat) : Int) from (w64 (by omega) (by omega)).trans (by omega), w64 (x := (i : Int) + 1) (by omega) (by omega), Int.toNat_natCast]
    refine evPos (by rw [hl]; omega) (Ev.bind (mt_ev (1 + i) (by omega)) (evPos (by omega) ?_))
    have h2 := ih (i + 1) (by omega)
    rw [← set_mid (mkT l.length) l i (by rw [mkT_len]; omega) (by rw [mkT_len])] at h2
    have h3 : (mkT l.length)[i]'(by rw [mkT_len]; omega) = mt (1 + i) := by simp [mkT]
    rw [h3] at h2
    exact h2
theorem markStringS_ev (l : List ByteArray) (hm : l.length ≤ 256) : Ev (fun k => laws_markStringS.f k l 1) (((1 + l.length : Nat) : Int), mkT l.length) := by
  unfold laws_markStringS.f
  have h := markStringS_l0 l hm l.length 0 (Nat.zero_add _)
  simpa using h
theorem heldStringS_l0 (n : Nat) (hn : n ≤ 256) (d : Nat) : ∀ i : Nat, i + d = n → Ev (fun k => laws_heldStringS.l0 k (mkT n) ((1 + i : Nat) : Int) (i : Int)) ((1 + n : Nat) : Int) := by
  induction d with
  | zero =>
    intro i hi
    refine Ev.step (fun k => by rw [laws_heldStringS.l0]) ?_
    refine evNeg (by rw [mkT_len]; omega) (evSome ?_)
    rw [show i = n by omega]
  | succ d ih =>
    intro i hi
    refine Ev.step (fun k => by rw [laws_heldStringS.l0]) ?_
    have h3 : rdOf ByteArray.empty (mkT n) (i : Int) = mt (1 + i) := by
      unfold rdOf mkT
      rw [Int.toNat_natCast]
      exact getD_range_map _ n i _ (by omega)
    rw [show wrap64 (((1 + i : Nat) : Int) + 1) = ((1 + (i + 1) : Nat) : Int) from (w64 (by omega) (by omega)).trans (by omega), w64 (x := (i : Int) + 1) (by omega) (by omega), h3]
    exact evPos (by rw [mkT_len]; omega) (evPos (by omega) (Ev.bind (mt_ev (1 + i) (by omega)) (evPos rfl (ih (i + 1) (by omega)))))
theorem heldStringS_ev (n : Nat) (hn : n ≤ 256) : Ev (fun k => laws_heldStringS.f k (mkT n) 1) ((1 + n : Nat) : Int) := by
  unfold laws_heldStringS.f
  exact heldStringS_l0 n hn n 0 (Nat.zero_add _)
end Go.Proofs.Ytonifgfgeollaaa.X
end
section
/- The program's Solutions and the reference's come to the same, at every input; what is handed back is new. -/
namespace Go.Proofs.Ytonifgfgeollaaa.Pure
open Go.RowKit Go.Proofs.Ytonifgfgeollaaa.X Go.Proofs.YtonifgfgeollaaaW.PrintWords Go.Proofs.YtonifgfgeollaaaW.PrintLast
theorem Solutions_spec (q : Int) (l : List S25) : Ev (fun k => spec_Solutions.f k q l) (solC q l, goodB q l) := by
  unfold spec_Solutions.f
  refine Ev.bind (pzGood_ev q l) ?_
  cases hg : goodB q l with
  | false => exact evNeg (by simp) (evSome (by rw [solC_not q l hg]))
  | true => exact evPos rfl (Ev.bind (all_spec q l hg) (evSome rfl))
theorem FnExactSolutions : laws_FnExactSolutions.Pure := by
  intro p l _ hl
  refine Ev.rounds ?_
  unfold laws_FnExactSolutions.f
  refine evBind0 (szPuzzle_eq p l hl.1) ?_
  by_cases h : 1048576 < l.length
  · rw [if_pos h]
    exact evPos (by omega) (evSome rfl)
  rw [if_neg h]
  refine evNeg (by omega) ?_
  generalize hm0 : l.map cvClue = m
  have hml : m.length ≤ 1048576 := by rw [← hm0]; simp; omega
  have hP : Ev (fun k => laws_toPuzzle.f k p l) (p, m) := by rw [← hm0]; exact toPuzzle_ev p l (by omega)
  have hS := Solutions_spec p m
  have hI := Solutions_impl p m
  have hlen := solC_len p m
  generalize solC p m = s at hS hI hlen
  generalize goodB p m = b at hS hI
  have hE := eqStringS_self s (by omega)
  have hM := markStringS_ev s hlen
  have hH := heldStringS_ev s.length hlen
  refine Ev.bind hP (Ev.bind hS (Ev.bind hP (Ev.bind hI (Ev.bind hE (evPos rfl ?_)))))
  refine Ev.step (fun k => by rw [laws_FnExactSolutions.j0]) ?_
  refine evNeg (by simp) (Ev.bind hP (Ev.bind (eqPuzzle_self p m (by omega)) (evPos rfl ?_)))
  refine Ev.bind (markPuzzle_ev p m (by omega)) (evNeg (by simp; omega) ?_)
  refine Ev.bind hE (evPos rfl ?_)
  refine Ev.step (fun k => by rw [laws_FnExactSolutions.j1]) ?_
  refine evNeg (by simp) (Ev.bind hM (Ev.bind hH (evNeg (by omega) (evPos rfl ?_))))
  refine Ev.bind hP (Ev.bind hI (Ev.bind hE (evPos rfl ?_)))
  refine Ev.step (fun k => by rw [laws_FnExactSolutions.j2]) ?_
  exact evNeg (by simp) (Ev.bind hH (evNeg (by omega) (evPos rfl (evSome rfl))))
end Go.Proofs.Ytonifgfgeollaaa.Pure
end
