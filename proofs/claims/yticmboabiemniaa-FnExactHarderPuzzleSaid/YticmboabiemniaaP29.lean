import Derived.Test.YticmboabiemniaaP4
import Derived.Test.YticmboabiemniaaP20
import Derived.Test.YticmboabiemniaaP28
section
-- Written by a program of this session (wip/tools/mp.py) over the kit's print of the translation.
namespace Go.Proofs.Yticmboabiemniaa.X
open Go.Proofs.Yticmboabiemniaa.Sq Go.RowKit Go.Proofs.YticmboabiemniaaW.PrintWords Go.Proofs.YticmboabiemniaaW.PrintLast Go.Proofs.YticmboabiemniaaW.PrintMore
attribute [local go_sem] max2_int min2_int max_two min_two max_three min_three max_four min_four   -- for this text's walks alone
set_option linter.unusedVariables false
set_option linter.unusedSimpArgs false
/-! ### laws_FnExactHarderPuzzle: function 4 -/
mutual
def laws_FnExactHarderPuzzle.j0 : Nat → Bool → Bool → Bool → Int → List (S61) → Int → List (S55) → Int → List (S55) → Int → List (S55) → Option (Bool)
 | 0, _, _, _, _, _, _, _, _, _, _, _ => none
 | k + 1, x5, x8, x40, x408000, x408001, x419000, x419001, x424000, x424001, x430000, x430001 => if x40 = true then (none) else ((laws_toPuzzle.f k x408000 x408001).bind fun bt431 => ((laws_eqPuzzle.f k x424000 x424001 bt431.1 bt431.2).bind fun t435 => (if t435 = true then ((laws_markPuzzle.f k x424000 x424001 1).bind fun bt436 => (if bt436.1 < 0 then (laws_FnExactHarderPuzzle.j1 k x5 true x408000 x408001 x419000 x419001 x430000 x430001) else ((laws_eqPuzzle.f k x430000 x430001 x419000 x419001).bind fun t438 => (if t438 = true then (laws_FnExactHarderPuzzle.j1 k x5 (x8 != x5) x408000 x408001 x419000 x419001 x430000 x430001) else (laws_FnExactHarderPuzzle.j1 k x5 true x408000 x408001 x419000 x419001 x430000 x430001))))) else (none))))
def laws_FnExactHarderPuzzle.j1 : Nat → Bool → Bool → Int → List (S61) → Int → List (S55) → Int → List (S55) → Option (Bool)
 | 0, _, _, _, _, _, _, _, _ => none
 | k + 1, x5, x61, x408000, x408001, x419000, x419001, x430000, x430001 => if x61 = true then (none) else ((laws_markPuzzle.f k x430000 x430001 1).bind fun bt439 => ((laws_heldPuzzle.f k x430000 bt439.2 1).bind fun t441 => (if t441 < 0 then (none) else (if t441 = bt439.1 then ((laws_toPuzzle.f k x408000 x408001).bind fun bt442 => ((impl_HarderPuzzle.f k bt442.1 bt442.2).bind fun bt446 => ((laws_eqPuzzle.f k bt446.1 bt446.2.1 x419000 x419001).bind fun t452 => (if t452 = true then (laws_FnExactHarderPuzzle.j2 k bt439.1 (bt446.2.2 != x5) x430000 bt439.2) else (laws_FnExactHarderPuzzle.j2 k bt439.1 true x430000 bt439.2))))) else (none)))))
def laws_FnExactHarderPuzzle.j2 : Nat → Int → Bool → Int → List (S55) → Option (Bool)
 | 0, _, _, _, _ => none
 | k + 1, x10, x87, x430000, x430001 => if x87 = true then (none) else ((laws_heldPuzzle.f k x430000 x430001 1).bind fun t453 => (if t453 < 0 then (none) else (if t453 = x10 then (some true) else (none))))
end
def laws_FnExactHarderPuzzle.f (k : Nat) (a0_0 : Int) (l0_1 : List (S61)) : Option (Bool) := (laws_szPuzzle.f a0_0 l0_1 1048576).bind fun t408 => (if t408 < 0 then (some true) else ((laws_toPuzzle.f k a0_0 l0_1).bind fun bt409 => ((spec_HarderPuzzle.f k bt409.1 bt409.2).bind fun bt413 => ((laws_toPuzzle.f k a0_0 l0_1).bind fun bt419 => ((impl_HarderPuzzle.f k bt419.1 bt419.2).bind fun bt424 => ((laws_eqPuzzle.f k bt424.1 bt424.2.1 bt413.1 bt413.2.1).bind fun t430 => (if t430 = true then (laws_FnExactHarderPuzzle.j0 k bt413.2.2 bt424.2.2 (bt424.2.2 != bt413.2.2) a0_0 l0_1 bt413.1 bt413.2.1 bt419.1 bt419.2 bt424.1 bt424.2.1) else (laws_FnExactHarderPuzzle.j0 k bt413.2.2 bt424.2.2 true a0_0 l0_1 bt413.1 bt413.2.1 bt419.1 bt419.2 bt424.1 bt424.2.1))))))))
set_option maxHeartbeats 8000000 in
set_option maxRecDepth 100000 in
theorem laws_FnExactHarderPuzzle.calls (k : Nat) (a0_0 : Int) (A0_1 : Option Addr) (c0_1 : Nat) (l0_1 : List (S61)) (r : Bool) (w : World) (hr0_1 : Kd.C k61 w A0_1 l0_1.length l0_1) (hc0_1 : l0_1.length ≤ c0_1) (h : laws_FnExactHarderPuzzle.f k a0_0 l0_1 = some r) :
  Calls Try.prog 4 #[.agg #[.int .i64 a0_0, .slice A0_1 l0_1.length c0_1]] w fun e w' => e = .returned (.bool r) ∧ Below w.heap.size w w' := by
 have hu24 := Try.underlying24
 have hu31 := Try.underlying31
 have HR0_1 := am hr0_1
 have HC0_1 := am hc0_1
 clear hr0_1 hc0_1
 have HB := am (Below.refl w.heap.size w)
 have H : ((laws_szPuzzle.f a0_0 l0_1 1048576).bind fun t408 => (if t408 < 0 then (some true) else ((laws_toPuzzle.f k a0_0 l0_1).bind fun bt409 => ((spec_HarderPuzzle.f k bt409.1 bt409.2).bind fun bt413 => ((laws_toPuzzle.f k a0_0 l0_1).bind fun bt419 => ((impl_HarderPuzzle.f k bt419.1 bt419.2).bind fun bt424 => ((laws_eqPuzzle.f k bt424.1 bt424.2.1 bt413.1 bt413.2.1).bind fun t430 => (if t430 = true then (laws_FnExactHarderPuzzle.j0 k bt413.2.2 bt424.2.2 (bt424.2.2 != bt413.2.2) a0_0 l0_1 bt413.1 bt413.2.1 bt419.1 bt419.2 bt424.1 bt424.2.1) else (laws_FnExactHarderPuzzle.j0 k bt413.2.2 bt424.2.2 true a0_0 l0_1 bt413.1 bt413.2.1 bt419.1 bt419.2 bt424.1 bt424.2.1))))))))) = some r := h
 clear h
 replace H := Option.bind_eq_some_iff.mp H
 obtain ⟨t408, A20, H⟩ := H
 replace H : (if t408 < 0 then (some true) else ((laws_toPuzzle.f k a0_0 l0_1).bind fun bt409 => ((spec_HarderPuzzle.f k bt409.1 bt409.2).bind fun bt413 => ((laws_toPuzzle.f k a0_0 l0_1).bind fun bt419 => ((impl_HarderPuzzle.f k bt419.1 bt419.2).bind fun bt424 => ((laws_eqPuzzle.f k bt424.1 bt424.2.1 bt413.1 bt413.2.1).bind fun t430 => (if t430 = true then (laws_FnExactHarderPuzzle.j0 k bt413.2.2 bt424.2.2 (bt424.2.2 != bt413.2.2) a0_0 l0_1 bt413.1 bt413.2.1 bt419.1 bt419.2 bt424.1 bt424.2.1) else (laws_FnExactHarderPuzzle.j0 k bt413.2.2 bt424.2.2 true a0_0 l0_1 bt413.1 bt413.2.1 bt419.1 bt419.2 bt424.1 bt424.2.1)))))))) = some r := H
 have A2 := am A20
 clear A20
 by_cases c3 : t408 < 0
 ·rw [if_pos c3] at H
  have c3b0 : decide (t408 < 0) = true := decide_eq_true c3
  clear c3
  obtain rfl := Option.some.inj H
  go_enter Try.func4, Try.ntmps4
  go_wp2_with (first | ((with_reducible refine gate_dst (N := 1) rfl ?_); refine box_event ?hg (N := 1) ?hd (cs := #[.int .i64 a0_0, .slice A0_1 l0_1.length c0_1]) (t := 24) ?hr ?_; (case hd => rfl); (case hg => rfl); (case hr => first | (go_simp; done) | (go_simp; rfl)); intro gb407 hg w4 hbox hb; have n0_ := am (below_step (hbS HB.out) hb); have n1_ := am (hbox); have n2_ := am (gwL (hbS HB.out) hg); have n3_ := n2_; clear HB; have HB := n0_; have BK407 := n1_; have GW407 := n2_; have GE407 := n3_; clear n0_ n1_ n2_ n3_; clear hb hbox hg; have hcz5_0 : w4.cell? ⟨gb407, 0, none⟩ = some (.int .i64 a0_0) := (blk_cell BK407.out 0).trans rfl; have hcz5_1 : w4.cell? ⟨gb407, 1, none⟩ = some (.slice A0_1 l0_1.length c0_1) := (blk_cell BK407.out 1).trans rfl; have hfz5_0 := blk_frozen BK407.out 0; have hfz5_1 := blk_frozen BK407.out 1) | ((with_reducible refine gate_callee (f := 5) rfl ?_); refine goesL_ (some 16) rfl rfl Try.func5 (by kernel_rfl) rfl #[.agg #[.int .i64 a0_0, .slice A0_1 l0_1.length c0_1], .int .i64 1048576] rfl (by (try simp only [List.map_toArray, List.map_cons, List.map_nil]); first | done | rfl | (simp only [List.length_drop, List.length_take]; rfl)) ?_; (with_reducible refine (laws_szPuzzle.calls a0_0 _ _ l0_1 1048576 t408 _ ?side1 ?side2 A2.out).mono ?_); (case side1 => repeat (first | exact (Kd.C_below HR0_1.out HB.out) | (with_reducible refine Kd.C_alloc ?_ _) | (with_reducible refine Kd.C_drewN ?_ _) | (with_reducible refine Kd.C_drew ?_))); (case side2 => exact HC0_1.out); rintro e w6 ⟨rfl, hb⟩; refine ⟨_, rfl, ?_⟩; have n0_ := am (blk_below (bkS BK407.out) hb); have n1_ := am (below_step (by repeat (first | (with_reducible first | exact HB.out | apply below_alloc | apply pw_below_drewN | apply below_drew1 | refine below_set ?_ GE407.out) | exact HB.out)) hb); clear BK407; clear HB; have BK407 := n0_; have HB := n1_; clear n0_ n1_; (try clear hb); (try clear hb2); (try clear hk); (try clear hi)))
  go_ret
  exact ⟨by first | rfl | (simp [errW_none, errW_some] <;> rfl) | (simp [*, errW_none, errW_some] <;> rfl), by repeat (first | (with_reducible first | exact HB.out | apply below_alloc | apply pw_below_drewN | apply below_drew1 | refine below_set ?_ GE407.out) | exact HB.out)⟩
 ·rw [if_neg c3] at H
  have c3b0 : decide (t408 < 0) = false := decide_eq_false c3
  clear c3
  replace H := Option.bind_eq_some_iff.mp H
  obtain ⟨⟨t409, t410⟩, A70, H⟩ := H
  replace H : ((spec_HarderPuzzle.f k t409 t410).bind fun bt413 => ((laws_toPuzzle.f k a0_0 l0_1).bind fun bt419 => ((impl_HarderPuzzle.f k bt419.1 bt419.2).bind fun bt424 => ((laws_eqPuzzle.f k bt424.1 bt424.2.1 bt413.1 bt413.2.1).bind fun t430 => (if t430 = true then (laws_FnExactHarderPuzzle.j0 k bt413.2.2 bt424.2.2 (bt424.2.2 != bt413.2.2) a0_0 l0_1 bt413.1 bt413.2.1 bt419.1 bt419.2 bt424.1 bt424.2.1) else (laws_FnExactHarderPuzzle.j0 k bt413.2.2 bt424.2.2 true a0_0 l0_1 bt413.1 bt413.2.1 bt419.1 bt419.2 bt424.1 bt424.2.1)))))) = some r := H
  have A7 := am A70
  clear A70
  replace H := Option.bind_eq_some_iff.mp H
  obtain ⟨⟨t413, t414, t417⟩, A80, H⟩ := H
  replace H : ((laws_toPuzzle.f k a0_0 l0_1).bind fun bt419 => ((impl_HarderPuzzle.f k bt419.1 bt419.2).bind fun bt424 => ((laws_eqPuzzle.f k bt424.1 bt424.2.1 t413 t414).bind fun t430 => (if t430 = true then (laws_FnExactHarderPuzzle.j0 k t417 bt424.2.2 (bt424.2.2 != t417) a0_0 l0_1 t413 t414 bt419.1 bt419.2 bt424.1 bt424.2.1) else (laws_FnExactHarderPuzzle.j0 k t417 bt424.2.2 true a0_0 l0_1 t413 t414 bt419.1 bt419.2 bt424.1 bt424.2.1))))) = some r := H
  have A8 := am A80
  clear A80
  replace H := Option.bind_eq_some_iff.mp H
  obtain ⟨⟨t419, t420⟩, A90, H⟩ := H
  replace H : ((impl_HarderPuzzle.f k t419 t420).bind fun bt424 => ((laws_eqPuzzle.f k bt424.1 bt424.2.1 t413 t414).bind fun t430 => (if t430 = true then (laws_FnExactHarderPuzzle.j0 k t417 bt424.2.2 (bt424.2.2 != t417) a0_0 l0_1 t413 t414 t419 t420 bt424.1 bt424.2.1) else (laws_FnExactHarderPuzzle.j0 k t417 bt424.2.2 true a0_0 l0_1 t413 t414 t419 t420 bt424.1 bt424.2.1)))) = some r := H
  have A9 := am A90
  clear A90
  replace H := Option.bind_eq_some_iff.mp H
  obtain ⟨⟨t424, t425, t428⟩, A100, H⟩ := H
  replace H : ((laws_eqPuzzle.f k t424 t425 t413 t414).bind fun t430 => (if t430 = true then (laws_FnExactHarderPuzzle.j0 k t417 t428 (t428 != t417) a0_0 l0_1 t413 t414 t419 t420 t424 t425) else (laws_FnExactHarderPuzzle.j0 k t417 t428 true a0_0 l0_1 t413 t414 t419 t420 t424 t425))) = some r := H
  have A10 := am A100
  clear A100
  have HC11 := am H
  clear H
  go_enter Try.func4, Try.ntmps4
  go_upto_region 8 with (first | ((with_reducible refine gate_dst (N := 1) rfl ?_); refine box_event ?hg (N := 1) ?hd (cs := #[.int .i64 a0_0, .slice A0_1 l0_1.length c0_1]) (t := 24) ?hr ?_; (case hd => rfl); (case hg => rfl); (case hr => first | (go_simp; done) | (go_simp; rfl)); intro gb407 hg w12 hbox hb; have n0_ := am (below_step (hbS HB.out) hb); have n1_ := am (hbox); have n2_ := am (gwL (hbS HB.out) hg); have n3_ := n2_; clear HB; have HB := n0_; have BK407 := n1_; have GW407 := n2_; have GE407 := n3_; clear n0_ n1_ n2_ n3_; clear hb hbox hg; have hcz13_0 : w12.cell? ⟨gb407, 0, none⟩ = some (.int .i64 a0_0) := (blk_cell BK407.out 0).trans rfl; have hcz13_1 : w12.cell? ⟨gb407, 1, none⟩ = some (.slice A0_1 l0_1.length c0_1) := (blk_cell BK407.out 1).trans rfl; have hfz13_0 := blk_frozen BK407.out 0; have hfz13_1 := blk_frozen BK407.out 1) | ((with_reducible refine gate_callee (f := 5) rfl ?_); refine goesL_ (some 16) rfl rfl Try.func5 (by kernel_rfl) rfl #[.agg #[.int .i64 a0_0, .slice A0_1 l0_1.length c0_1], .int .i64 1048576] rfl (by (try simp only [List.map_toArray, List.map_cons, List.map_nil]); first | done | rfl | (simp only [List.length_drop, List.length_take]; rfl)) ?_; (with_reducible refine (laws_szPuzzle.calls a0_0 _ _ l0_1 1048576 t408 _ ?side1 ?side2 A2.out).mono ?_); (case side1 => repeat (first | exact (Kd.C_below HR0_1.out HB.out) | (with_reducible refine Kd.C_alloc ?_ _) | (with_reducible refine Kd.C_drewN ?_ _) | (with_reducible refine Kd.C_drew ?_))); (case side2 => exact HC0_1.out); rintro e w14 ⟨rfl, hb⟩; refine ⟨_, rfl, ?_⟩; have n0_ := am (blk_below (bkS BK407.out) hb); have n1_ := am (below_step (by repeat (first | (with_reducible first | exact HB.out | apply below_alloc | apply pw_below_drewN | apply below_drew1 | refine below_set ?_ GE407.out) | exact HB.out)) hb); clear BK407; clear HB; have BK407 := n0_; have HB := n1_; clear n0_ n1_; (try clear hb); (try clear hb2); (try clear hk); (try clear hi); have hcz15_0 : w14.cell? ⟨gb407, 0, none⟩ = some (.int .i64 a0_0) := (blk_cell BK407.out 0).trans rfl; have hcz15_1 : w14.cell? ⟨gb407, 1, none⟩ = some (.slice A0_1 l0_1.length c0_1) := (blk_cell BK407.out 1).trans rfl; have hfz15_0 := blk_frozen BK407.out 0; have hfz15_1 := blk_frozen BK407.out 1) | ((with_reducible refine gate_callee (f := 7) rfl ?_); refine goesL_ (some 21) rfl rfl Try.func7 (by kernel_rfl) rfl #[.agg #[.int .i64 a0_0, .slice A0_1 l0_1.length c0_1]] rfl (by (try simp only [List.map_toArray, List.map_cons, List.map_nil]); first | done | rfl | (simp only [List.length_drop, List.length_take]; rfl)) ?_; (with_reducible refine (laws_toPuzzle.calls k a0_0 _ _ l0_1 t409 t410 _ ?side1 ?side2 A7.out).mono ?_); (case side1 => repeat (first | exact (Kd.C_below HR0_1.out HB.out) | (with_reducible refine Kd.C_alloc ?_ _) | (with_reducible refine Kd.C_drewN ?_ _) | (with_reducible refine Kd.C_drew ?_))); (case side2 => exact HC0_1.out); rintro e w16 ⟨v411, rfl, ho0, hb⟩; refine ⟨_, rfl, ?_⟩; have n0_ := am (Kd.R_lower ho0 (below_size (by repeat (first | (with_reducible first | exact HB.out | apply below_alloc | apply pw_below_drewN | apply below_drew1 | refine below_set ?_ GE407.out) | exact HB.out)))); have n1_ := am (blk_below (bkS BK407.out) hb); have n2_ := am (below_step (by repeat (first | (with_reducible first | exact HB.out | apply below_alloc | apply pw_below_drewN | apply below_drew1 | refine below_set ?_ GE407.out) | exact HB.out)) hb); clear BK407; clear HB; have HO412 := n0_; have BK407 := n1_; have HB := n2_; clear n0_ n1_ n2_; (try clear hb); (try clear hb2); (try clear hk); (try clear hi); (try clear ho0); obtain ⟨Ao17, co17, eo17⟩ := Kd.R_slice HO412.out; subst eo17) | ((with_reducible refine gate_callee (f := 14) rfl ?_); refine goesL_ (some 22) rfl rfl Try.func14 (by kernel_rfl) rfl #[.agg #[.int .i64 t409, .slice Ao17 t410.length co17]] rfl (by (try simp only [List.map_toArray, List.map_cons, List.map_nil]); first | done | rfl | (simp only [List.length_drop, List.length_take]; rfl)) ?_; (with_reducible refine (spec_HarderPuzzle.calls k t409 _ _ t410 t413 t414 t417 _ ?side1 ?side2 A8.out).mono ?_); (case side1 => repeat (first | exact (Kd.R_reads' HO412.out).2.2 | (with_reducible refine Kd.C_alloc ?_ _) | (with_reducible refine Kd.C_drewN ?_ _) | (with_reducible refine Kd.C_drew ?_))); (case side2 => exact (Kd.R_reads' HO412.out).2.1); rintro e w18 ⟨v415, rfl, ho0, hb⟩; refine ⟨_, rfl, ?_⟩; have n0_ := am (Kd.R_elder' (roS HO412.out) (Kd.R_base ho0) hb); have n1_ := am (Kd.R_lower (Kd.R_new' ho0 (Kd.R_lt (roS HO412.out))) (below_size (by repeat (first | (with_reducible first | exact HB.out | apply below_alloc | apply pw_below_drewN | apply below_drew1 | refine below_set ?_ GE407.out) | exact HB.out)))); have n2_ := am (blk_below (bkS BK407.out) hb); have n3_ := am (below_step (by repeat (first | (with_reducible first | exact HB.out | apply below_alloc | apply pw_below_drewN | apply below_drew1 | refine below_set ?_ GE407.out) | exact HB.out)) hb); clear HO412; clear BK407; clear HB; have HO412 := n0_; have HO416 := n1_; have BK407 := n2_; have HB := n3_; clear n0_ n1_ n2_ n3_; (try clear hb); (try clear hb2); (try clear hk); (try clear hi); (try clear ho0)) | ((with_reducible refine gate_dst (N := 4) rfl ?_); refine box_event ?hg (N := 4) ?hd (cs := #[.int .i64 0, .slice none 0 0]) (t := 31) ?hr ?_; (case hd => rfl); (case hg => rfl); (case hr => first | (go_simp; done) | (go_simp; rfl)); intro gb418 hg w19 hbox hb; have n0_ := am (Kd.R_below (roS HO412.out) hb); have n1_ := am (Kd.R_below (roS HO416.out) hb); have n2_ := am (blk_below (bkS BK407.out) hb); have n3_ := am (below_step (by repeat (first | (with_reducible first | exact HB.out | apply below_alloc | apply pw_below_drewN | apply below_drew1 | refine below_set ?_ GE407.out) | exact HB.out)) hb); have n4_ := am (hbox); have n5_ := am (gwL (by repeat (first | (with_reducible first | exact HB.out | apply below_alloc | apply pw_below_drewN | apply below_drew1 | refine below_set ?_ GE407.out) | exact HB.out)) hg); have n6_ := n5_; have n7_ := am (nbL (bkS BK407.out) hg); have n8_ := am (nbG (bkS BK407.out) hg); clear HO412; clear HO416; clear BK407; clear HB; have HO412 := n0_; have HO416 := n1_; have BK407 := n2_; have HB := n3_; have BK418 := n4_; have GW418 := n5_; have GE418 := n6_; have NB407_418 := n7_; have NB418_407 := n8_; clear n0_ n1_ n2_ n3_ n4_ n5_ n6_ n7_ n8_; clear hb hbox hg; have hnb20 := NB418_407.out; have hnc20 := NB407_418.out; have hcz21_0 : w19.cell? ⟨gb418, 0, none⟩ = some (.int .i64 0) := (blk_cell BK418.out 0).trans rfl; have hcz21_1 : w19.cell? ⟨gb418, 1, none⟩ = some (.slice none 0 0) := (blk_cell BK418.out 1).trans rfl; have hfz21_0 := blk_frozen BK418.out 0; have hfz21_1 := blk_frozen BK418.out 1; obtain ⟨Ao22, co22, eo22⟩ := Kd.R_slice HO416.out; subst eo22; have hcz23_0 : w19.cell? ⟨gb407, 0, none⟩ = some (.int .i64 a0_0) := (blk_cell BK407.out 0).trans rfl; have hcz23_1 : w19.cell? ⟨gb407, 1, none⟩ = some (.slice A0_1 l0_1.length c0_1) := (blk_cell BK407.out 1).trans rfl; have hfz23_0 := blk_frozen BK407.out 0; have hfz23_1 := blk_frozen BK407.out 1) | ((with_reducible refine gate_callee (f := 7) rfl ?_); refine goesL_ (some 26) rfl rfl Try.func7 (by kernel_rfl) rfl #[.agg #[.int .i64 a0_0, .slice A0_1 l0_1.length c0_1]] rfl (by (try simp only [List.map_toArray, List.map_cons, List.map_nil]); first | done | rfl | (simp only [List.length_drop, List.length_take]; rfl)) ?_; (with_reducible refine (laws_toPuzzle.calls k a0_0 _ _ l0_1 t419 t420 _ ?side1 ?side2 A9.out).mono ?_); (case side1 => exact Kd.C_below HR0_1.out (by repeat (first | (with_reducible first | exact HB.out | apply below_alloc | apply pw_below_drewN | apply below_drew1 | refine below_set ?_ (Aside0.out (by assumption))) | exact HB.out))); (case side2 => exact HC0_1.out); rintro e w24 ⟨v421, rfl, ho0, hb⟩; refine ⟨_, rfl, ?_⟩; have n0_ := am (Kd.R_elder' (by (with_reducible repeat (first | apply Kd.R_alloc | apply Kd.R_drewN | apply Kd.R_drew)); exact (Kd.R_mono (Kd.R_far (p := ⟨gb418, 1, none⟩) (Kd.R_far (p := ⟨gb418, 0, none⟩) (Kd.R_types HO412.out BK418.out (by decide)) (fun _ hk => hk.2) (.int .i64 t413)) (fun _ hk => hk.2) (.slice Ao22 t414.length co22)) (fun _ h_ => h_.1))) (Kd.R_base ho0) hb); have n1_ := am (Kd.R_elder' (by (with_reducible repeat (first | apply Kd.R_alloc | apply Kd.R_drewN | apply Kd.R_drew)); exact (Kd.R_mono (Kd.R_far (p := ⟨gb418, 1, none⟩) (Kd.R_far (p := ⟨gb418, 0, none⟩) (Kd.R_types HO416.out BK418.out (by decide)) (fun _ hk => hk.2) (.int .i64 t413)) (fun _ hk => hk.2) (.slice Ao22 t414.length co22)) (fun _ h_ => h_.1))) (Kd.R_base ho0) hb); have n2_ := am (Kd.R_lower (Kd.R_new' (Kd.R_new' ho0 (Kd.R_lt (by (with_reducible repeat (first | apply Kd.R_alloc | apply Kd.R_drewN | apply Kd.R_drew)); exact (Kd.R_mono (Kd.R_far (p := ⟨gb418, 1, none⟩) (Kd.R_far (p := ⟨gb418, 0, none⟩) (Kd.R_types HO412.out BK418.out (by decide)) (fun _ hk => hk.2) (.int .i64 t413)) (fun _ hk => hk.2) (.slice Ao22 t414.length co22)) (fun _ h_ => h_.1))))) (Kd.R_lt (by (with_reducible repeat (first | apply Kd.R_alloc | apply Kd.R_drewN | apply Kd.R_drew)); exact (Kd.R_mono (Kd.R_far (p := ⟨gb418, 1, none⟩) (Kd.R_far (p := ⟨gb418, 0, none⟩) (Kd.R_types HO416.out BK418.out (by decide)) (fun _ hk => hk.2) (.int .i64 t413)) (fun _ hk => hk.2) (.slice Ao22 t414.length co22)) (fun _ h_ => h_.1))))) (below_size (by repeat (first | (with_reducible first | exact HB.out | apply below_alloc | apply pw_below_drewN | apply below_drew1 | refine below_set ?_ (Aside0.out (by assumption))) | exact HB.out)))); have n3_ := am (blk_below (g := gb407) (o := .cells #[.int .i64 a0_0, .slice A0_1 l0_1.length c0_1] 24 (0, 0)) (by (with_reducible repeat (first | refine blk_drewN ?_ _ | refine blk_drew ?_ | refine blk_alloc ?_ _)); refine blk_far ?_ NB407_418.out _; (with_reducible repeat (first | refine blk_drewN ?_ _ | refine blk_drew ?_ | refine blk_alloc ?_ _)); refine blk_far ?_ NB407_418.out _; (with_reducible repeat (first | refine blk_drewN ?_ _ | refine blk_drew ?_ | refine blk_alloc ?_ _)); exact BK407.out) hb); have n4_ := am (blk_below (g := gb418) (o := .cells #[.int .i64 t413, .slice Ao22 t414.length co22] 31 (0, 0)) (by (with_reducible repeat (first | refine blk_drewN ?_ _ | refine blk_drew ?_ | refine blk_alloc ?_ _)); refine blk_put (cs := #[.int .i64 t413, .slice none 0 0]) ?_ 1 _ rfl; (with_reducible repeat (first | refine blk_drewN ?_ _ | refine blk_drew ?_ | refine blk_alloc ?_ _)); refine blk_put (cs := #[.int .i64 0, .slice none 0 0]) ?_ 0 _ rfl; (with_reducible repeat (first | refine blk_drewN ?_ _ | refine blk_drew ?_ | refine blk_alloc ?_ _)); exact BK418.out) hb); have n5_ := am (below_step (by repeat (first | (with_reducible first | exact HB.out | apply below_alloc | apply pw_below_drewN | apply below_drew1 | refine below_set ?_ (Aside0.out (by assumption))) | exact HB.out)) hb); clear HO412; clear HO416; clear BK407; clear BK418; clear HB; have HO412 := n0_; have HO416 := n1_; have HO422 := n2_; have BK407 := n3_; have BK418 := n4_; have HB := n5_; clear n0_ n1_ n2_ n3_ n4_ n5_; (try clear hb); (try clear hb2); (try clear hk); (try clear hi); (try clear ho0)) | ((with_reducible refine gate_dst (N := 6) rfl ?_); refine box_event ?hg (N := 6) ?hd (cs := #[.int .i64 0, .slice none 0 0]) (t := 31) ?hr ?_; (case hd => rfl); (case hg => rfl); (case hr => first | (go_simp; done) | (go_simp; rfl)); intro gb423 hg w25 hbox hb; have n0_ := am (Kd.R_below (roS HO412.out) hb); have n1_ := am (Kd.R_below (roS HO416.out) hb); have n2_ := am (Kd.R_below (roS HO422.out) hb); have n3_ := am (blk_below (bkS BK407.out) hb); have n4_ := am (blk_below (bkS BK418.out) hb); have n5_ := am (below_step (by repeat (first | (with_reducible first | exact HB.out | apply below_alloc | apply pw_below_drewN | apply below_drew1 | refine below_set ?_ (Aside0.out (by assumption))) | exact HB.out)) hb); have n6_ := am (hbox); have n7_ := am ((by rw [hg]; exact (below_size (by repeat (first | (with_reducible first | exact HB.out | apply below_alloc | apply pw_below_drewN | apply below_drew1 | refine below_set ?_ (Aside0.out (by assumption))) | exact HB.out))) : w.heap.size ≤ gb423)); have n8_ := am ((by rw [hg]; exact (below_size (by repeat (first | (with_reducible first | exact HB.out | apply below_alloc | apply pw_below_drewN | apply below_drew1 | refine below_set ?_ (Aside0.out (by assumption))) | exact HB.out))) : w.heap.size ≤ gb423)); have n9_ := am (nbL (bkS BK407.out) hg); have n10_ := am (nbG (bkS BK407.out) hg); have n11_ := am (nbL (bkS BK418.out) hg); have n12_ := am (nbG (bkS BK418.out) hg); clear HO412; clear HO416; clear HO422; clear BK407; clear BK418; clear HB; have HO412 := n0_; have HO416 := n1_; have HO422 := n2_; have BK407 := n3_; have BK418 := n4_; have HB := n5_; have BK423 := n6_; have GW423 := n7_; have GE423 := n8_; have NB407_423 := n9_; have NB423_407 := n10_; have NB418_423 := n11_; have NB423_418 := n12_; clear n0_ n1_ n2_ n3_ n4_ n5_ n6_ n7_ n8_ n9_ n10_ n11_ n12_; clear hb hbox hg; have hnb26 := NB423_407.out; have hnc26 := NB407_423.out; have hnb27 := NB423_418.out; have hnc27 := NB418_423.out; have hcz28_0 : w25.cell? ⟨gb423, 0, none⟩ = some (.int .i64 0) := (blk_cell BK423.out 0).trans rfl; have hcz28_1 : w25.cell? ⟨gb423, 1, none⟩ = some (.slice none 0 0) := (blk_cell BK423.out 1).trans rfl; have hfz28_0 := blk_frozen BK423.out 0; have hfz28_1 := blk_frozen BK423.out 1; obtain ⟨Ao29, co29, eo29⟩ := Kd.R_slice HO422.out; subst eo29) | ((with_reducible refine gate_callee (f := 15) rfl ?_); refine goesL_ (some 29) rfl rfl Try.func15 (by kernel_rfl) rfl #[.agg #[.int .i64 t419, .slice Ao29 t420.length co29]] rfl (by (try simp only [List.map_toArray, List.map_cons, List.map_nil]); first | done | rfl | (simp only [List.length_drop, List.length_take]; rfl)) ?_; (with_reducible refine (impl_HarderPuzzle.calls k t419 _ _ t420 t424 t425 t428 _ ?side1 ?side2 A10.out).mono ?_); (case side1 => refine (Kd.R_reads' (e := 55) (base := w.heap.size) (ok := fun k_ => ((True ∧ some k_ ≠ (.slice Ao17 t410.length co17 : Value).ownBlock) ∧ some k_ ≠ (.slice Ao22 t414.length co22 : Value).ownBlock)) (n := t420.length) (c := co29) ?_).2.2; exact (by (with_reducible repeat (first | apply Kd.R_alloc | apply Kd.R_drewN | apply Kd.R_drew)); exact (Kd.R_mono (Kd.R_far (p := ⟨gb423, 1, none⟩) (Kd.R_far (p := ⟨gb423, 0, none⟩) (Kd.R_types HO422.out BK423.out (by decide)) (fun _ hk => hk.2) (.int .i64 t419)) (fun _ hk => hk.2) (.slice Ao29 t420.length co29)) (fun _ h_ => h_.1)))); (case side2 => exact (Kd.R_reads' HO422.out).2.1); rintro e w30 ⟨v426, rfl, ho0, hb⟩; refine ⟨_, rfl, ?_⟩; have n0_ := am (Kd.R_elder' (by (with_reducible repeat (first | apply Kd.R_alloc | apply Kd.R_drewN | apply Kd.R_drew)); exact (Kd.R_mono (Kd.R_far (p := ⟨gb423, 1, none⟩) (Kd.R_far (p := ⟨gb423, 0, none⟩) (Kd.R_types HO412.out BK423.out (by decide)) (fun _ hk => hk.2) (.int .i64 t419)) (fun _ hk => hk.2) (.slice Ao29 t420.length co29)) (fun _ h_ => h_.1))) (Kd.R_base ho0) hb); have n1_ := am (Kd.R_elder' (by (with_reducible repeat (first | apply Kd.R_alloc | apply Kd.R_drewN | apply Kd.R_drew)); exact (Kd.R_mono (Kd.R_far (p := ⟨gb423, 1, none⟩) (Kd.R_far (p := ⟨gb423, 0, none⟩) (Kd.R_types HO416.out BK423.out (by decide)) (fun _ hk => hk.2) (.int .i64 t419)) (fun _ hk => hk.2) (.slice Ao29 t420.length co29)) (fun _ h_ => h_.1))) (Kd.R_base ho0) hb); have n2_ := am (Kd.R_elder' (by (with_reducible repeat (first | apply Kd.R_alloc | apply Kd.R_drewN | apply Kd.R_drew)); exact (Kd.R_mono (Kd.R_far (p := ⟨gb423, 1, none⟩) (Kd.R_far (p := ⟨gb423, 0, none⟩) (Kd.R_types HO422.out BK423.out (by decide)) (fun _ hk => hk.2) (.int .i64 t419)) (fun _ hk => hk.2) (.slice Ao29 t420.length co29)) (fun _ h_ => h_.1))) (Kd.R_base ho0) hb); have n3_ := am (Kd.R_lower (Kd.R_new' (Kd.R_new' (Kd.R_new' ho0 (Kd.R_lt (by (with_reducible repeat (first | apply Kd.R_alloc | apply Kd.R_drewN | apply Kd.R_drew)); exact (Kd.R_mono (Kd.R_far (p := ⟨gb423, 1, none⟩) (Kd.R_far (p := ⟨gb423, 0, none⟩) (Kd.R_types HO412.out BK423.out (by decide)) (fun _ hk => hk.2) (.int .i64 t419)) (fun _ hk => hk.2) (.slice Ao29 t420.length co29)) (fun _ h_ => h_.1))))) (Kd.R_lt (by (with_reducible repeat (first | apply Kd.R_alloc | apply Kd.R_drewN | apply Kd.R_drew)); exact (Kd.R_mono (Kd.R_far (p := ⟨gb423, 1, none⟩) (Kd.R_far (p := ⟨gb423, 0, none⟩) (Kd.R_types HO416.out BK423.out (by decide)) (fun _ hk => hk.2) (.int .i64 t419)) (fun _ hk => hk.2) (.slice Ao29 t420.length co29)) (fun _ h_ => h_.1))))) (Kd.R_lt (by (with_reducible repeat (first | apply Kd.R_alloc | apply Kd.R_drewN | apply Kd.R_drew)); exact (Kd.R_mono (Kd.R_far (p := ⟨gb423, 1, none⟩) (Kd.R_far (p := ⟨gb423, 0, none⟩) (Kd.R_types HO422.out BK423.out (by decide)) (fun _ hk => hk.2) (.int .i64 t419)) (fun _ hk => hk.2) (.slice Ao29 t420.length co29)) (fun _ h_ => h_.1))))) (below_size (by repeat (first | (with_reducible first | exact HB.out | apply below_alloc | apply pw_below_drewN | apply below_drew1 | refine below_set ?_ (Aside0.out (by assumption))) | exact HB.out)))); have n4_ := am (blk_below (g := gb407) (o := .cells #[.int .i64 a0_0, .slice A0_1 l0_1.length c0_1] 24 (0, 0)) (by (with_reducible repeat (first | refine blk_drewN ?_ _ | refine blk_drew ?_ | refine blk_alloc ?_ _)); refine blk_far ?_ NB407_423.out _; (with_reducible repeat (first | refine blk_drewN ?_ _ | refine blk_drew ?_ | refine blk_alloc ?_ _)); refine blk_far ?_ NB407_423.out _; (with_reducible repeat (first | refine blk_drewN ?_ _ | refine blk_drew ?_ | refine blk_alloc ?_ _)); exact BK407.out) hb); have n5_ := am (blk_below (g := gb418) (o := .cells #[.int .i64 t413, .slice Ao22 t414.length co22] 31 (0, 0)) (by (with_reducible repeat (first | refine blk_drewN ?_ _ | refine blk_drew ?_ | refine blk_alloc ?_ _)); refine blk_far ?_ NB418_423.out _; (with_reducible repeat (first | refine blk_drewN ?_ _ | refine blk_drew ?_ | refine blk_alloc ?_ _)); refine blk_far ?_ NB418_423.out _; (with_reducible repeat (first | refine blk_drewN ?_ _ | refine blk_drew ?_ | refine blk_alloc ?_ _)); exact BK418.out) hb); have n6_ := am (blk_below (g := gb423) (o := .cells #[.int .i64 t419, .slice Ao29 t420.length co29] 31 (0, 0)) (by (with_reducible repeat (first | refine blk_drewN ?_ _ | refine blk_drew ?_ | refine blk_alloc ?_ _)); refine blk_put (cs := #[.int .i64 t419, .slice none 0 0]) ?_ 1 _ rfl; (with_reducible repeat (first | refine blk_drewN ?_ _ | refine blk_drew ?_ | refine blk_alloc ?_ _)); refine blk_put (cs := #[.int .i64 0, .slice none 0 0]) ?_ 0 _ rfl; (with_reducible repeat (first | refine blk_drewN ?_ _ | refine blk_drew ?_ | refine blk_alloc ?_ _)); exact BK423.out) hb); have n7_ := am (below_step (by repeat (first | (with_reducible first | exact HB.out | apply below_alloc | apply pw_below_drewN | apply below_drew1 | refine below_set ?_ (Aside0.out (by assumption))) | exact HB.out)) hb); clear HO412; clear HO416; clear HO422; clear BK407; clear BK418; clear BK423; clear HB; have HO412 := n0_; have HO416 := n1_; have HO422 := n2_; have HO427 := n3_; have BK407 := n4_; have BK418 := n5_; have BK423 := n6_; have HB := n7_; clear n0_ n1_ n2_ n3_ n4_ n5_ n6_ n7_; (try clear hb); (try clear hb2); (try clear hk); (try clear hi); (try clear ho0)) | ((with_reducible refine gate_dst (N := 7) rfl ?_); refine box_event ?hg (N := 7) ?hd (cs := #[.int .i64 0, .slice none 0 0]) (t := 31) ?hr ?_; (case hd => rfl); (case hg => rfl); (case hr => first | (go_simp; done) | (go_simp; rfl)); intro gb429 hg w31 hbox hb; have n0_ := am (Kd.R_below (roS HO412.out) hb); have n1_ := am (Kd.R_below (roS HO416.out) hb); have n2_ := am (Kd.R_below (roS HO422.out) hb); have n3_ := am (Kd.R_below (roS HO427.out) hb); have n4_ := am (blk_below (bkS BK407.out) hb); have n5_ := am (blk_below (bkS BK418.out) hb); have n6_ := am (blk_below (bkS BK423.out) hb); have n7_ := am (below_step (by repeat (first | (with_reducible first | exact HB.out | apply below_alloc | apply pw_below_drewN | apply below_drew1 | refine below_set ?_ (Aside0.out (by assumption))) | exact HB.out)) hb); have n8_ := am (hbox); have n9_ := am ((by rw [hg]; exact (below_size (by repeat (first | (with_reducible first | exact HB.out | apply below_alloc | apply pw_below_drewN | apply below_drew1 | refine below_set ?_ (Aside0.out (by assumption))) | exact HB.out))) : w.heap.size ≤ gb429)); have n10_ := am ((by rw [hg]; exact (below_size (by repeat (first | (with_reducible first | exact HB.out | apply below_alloc | apply pw_below_drewN | apply below_drew1 | refine below_set ?_ (Aside0.out (by assumption))) | exact HB.out))) : w.heap.size ≤ gb429)); have n11_ := am (nbL (bkS BK407.out) hg); have n12_ := am (nbG (bkS BK407.out) hg); have n13_ := am (nbL (bkS BK418.out) hg); have n14_ := am (nbG (bkS BK418.out) hg); have n15_ := am (nbL (bkS BK423.out) hg); have n16_ := am (nbG (bkS BK423.out) hg); clear HO412; clear HO416; clear HO422; clear HO427; clear BK407; clear BK418; clear BK423; clear HB; have HO412 := n0_; have HO416 := n1_; have HO422 := n2_; have HO427 := n3_; have BK407 := n4_; have BK418 := n5_; have BK423 := n6_; have HB := n7_; have BK429 := n8_; have GW429 := n9_; have GE429 := n10_; have NB407_429 := n11_; have NB429_407 := n12_; have NB418_429 := n13_; have NB429_418 := n14_; have NB423_429 := n15_; have NB429_423 := n16_; clear n0_ n1_ n2_ n3_ n4_ n5_ n6_ n7_ n8_ n9_ n10_ n11_ n12_ n13_ n14_ n15_ n16_; clear hb hbox hg; have hnb32 := NB429_407.out; have hnc32 := NB407_429.out; have hnb33 := NB429_418.out; have hnc33 := NB418_429.out; have hnb34 := NB429_423.out; have hnc34 := NB423_429.out; have hcz35_0 : w31.cell? ⟨gb429, 0, none⟩ = some (.int .i64 0) := (blk_cell BK429.out 0).trans rfl; have hcz35_1 : w31.cell? ⟨gb429, 1, none⟩ = some (.slice none 0 0) := (blk_cell BK429.out 1).trans rfl; have hfz35_0 := blk_frozen BK429.out 0; have hfz35_1 := blk_frozen BK429.out 1; obtain ⟨Ao36, co36, eo36⟩ := Kd.R_slice HO427.out; subst eo36))
  (try simp only [Act.put, List.setIfInBounds_toArray, List.set_cons_zero, List.set_cons_succ])
  go_cut [40] (fun v40 wc => ∃ (kq : Nat) (x40_10 : Bool), v40 = .bool x40_10 ∧ Aside0 (laws_FnExactHarderPuzzle.j0 kq t417 t428 x40_10 a0_0 l0_1 t413 t414 t419 t420 t424 t425 = some r) ∧ Aside0 (kq ≤ k) ∧ Aside0 (Kd.R k55 55 wc w.heap.size (fun k_ => some k_ ≠ ((.slice Ao29 t420.length co29) : Value).ownBlock ∧ some k_ ≠ ((.slice Ao36 t425.length co36) : Value).ownBlock) (.slice Ao22 t414.length co22) t414) ∧ Aside0 (Kd.R k55 55 wc w.heap.size (fun k_ => some k_ ≠ ((.slice Ao22 t414.length co22) : Value).ownBlock ∧ some k_ ≠ ((.slice Ao36 t425.length co36) : Value).ownBlock) (.slice Ao29 t420.length co29) t420) ∧ Aside0 (Kd.R k55 55 wc w.heap.size (fun k_ => some k_ ≠ ((.slice Ao22 t414.length co22) : Value).ownBlock ∧ some k_ ≠ ((.slice Ao29 t420.length co29) : Value).ownBlock) (.slice Ao36 t425.length co36) t425) ∧ Aside0 (wc.heap[gb407]? = some (.cells #[.int .i64 a0_0, (.slice A0_1 l0_1.length c0_1)] 24 (0, 0))) ∧ Aside0 (wc.heap[gb418]? = some (.cells #[.int .i64 t413, (.slice Ao22 t414.length co22)] 31 (0, 0))) ∧ Aside0 (wc.heap[gb423]? = some (.cells #[.int .i64 t419, (.slice Ao29 t420.length co29)] 31 (0, 0))) ∧ Aside0 (wc.heap[gb429]? = some (.cells #[.int .i64 t424, (.slice Ao36 t425.length co36)] 31 (0, 0))) ∧ Aside0 (Below w.heap.size w wc))
  case first =>
   have H := HC11.out
   clear HC11
   replace H := Option.bind_eq_some_iff.mp H
   obtain ⟨t430, A370, H⟩ := H
   replace H : (if t430 = true then (laws_FnExactHarderPuzzle.j0 k t417 t428 (t428 != t417) a0_0 l0_1 t413 t414 t419 t420 t424 t425) else (laws_FnExactHarderPuzzle.j0 k t417 t428 true a0_0 l0_1 t413 t414 t419 t420 t424 t425)) = some r := H
   have A37 := am A370
   clear A370
   by_cases c38 : t430 = true
   ·subst c38
    have H1 : (laws_FnExactHarderPuzzle.j0 k t417 t428 (t428 != t417) a0_0 l0_1 t413 t414 t419 t420 t424 t425) = some r := by rw [if_pos rfl] at H; exact H
    clear H
    have H := H1
    clear H1
    have H' := am H
    clear H
    have hnb39 := NB429_407.out
    have hnc39 := NB407_429.out
    have hnb40 := NB429_418.out
    have hnc40 := NB418_429.out
    have hnb41 := NB429_423.out
    have hnc41 := NB423_429.out
    have hcz42_0 : w31.cell? ⟨gb429, 0, none⟩ = some (.int .i64 0) := (blk_cell BK429.out 0).trans rfl
    have hcz42_1 : w31.cell? ⟨gb429, 1, none⟩ = some (.slice none 0 0) := (blk_cell BK429.out 1).trans rfl
    have hfz42_0 := blk_frozen BK429.out 0
    have hfz42_1 := blk_frozen BK429.out 1
    have hnb43 := NB418_407.out
    have hnc43 := NB407_418.out
    have hnb44 := NB418_423.out
    have hnc44 := NB423_418.out
    have hcz45_0 : w31.cell? ⟨gb418, 0, none⟩ = some (.int .i64 t413) := (blk_cell BK418.out 0).trans rfl
    have hcz45_1 : w31.cell? ⟨gb418, 1, none⟩ = some (.slice Ao22 t414.length co22) := (blk_cell BK418.out 1).trans rfl
    have hfz45_0 := blk_frozen BK418.out 0
    have hfz45_1 := blk_frozen BK418.out 1
    go_wp2_with (first | ((with_reducible refine gate_callee (f := 10) rfl ?_); refine goesL_ (some 34) rfl rfl Try.func10 (by kernel_rfl) rfl #[.agg #[.int .i64 t424, .slice Ao36 t425.length co36], .agg #[.int .i64 t413, .slice Ao22 t414.length co22]] rfl (by (try simp only [List.map_toArray, List.map_cons, List.map_nil]); first | done | rfl | (simp only [List.length_drop, List.length_take]; rfl)) ?_; (with_reducible refine (laws_eqPuzzle.calls k t424 _ _ t425 t413 _ _ t414 true _ ?side1 ?side2 ?side3 ?side4 A37.out).mono ?_); (case side1 => refine (Kd.R_reads' (e := 55) (base := w.heap.size) (ok := fun k_ => (((True ∧ some k_ ≠ (.slice Ao17 t410.length co17 : Value).ownBlock) ∧ some k_ ≠ (.slice Ao22 t414.length co22 : Value).ownBlock) ∧ some k_ ≠ (.slice Ao29 t420.length co29 : Value).ownBlock)) (n := t425.length) (c := co36) ?_).2.2; exact (by (with_reducible repeat (first | apply Kd.R_alloc | apply Kd.R_drewN | apply Kd.R_drew)); exact (Kd.R_mono (Kd.R_far (p := ⟨gb429, 1, none⟩) (Kd.R_far (p := ⟨gb429, 0, none⟩) (Kd.R_types HO427.out BK429.out (by decide)) (fun _ hk => hk.2) (.int .i64 t424)) (fun _ hk => hk.2) (.slice Ao36 t425.length co36)) (fun _ h_ => h_.1)))); (case side2 => exact (Kd.R_reads' HO427.out).2.1); (case side3 => refine (Kd.R_reads' (e := 55) (base := w.heap.size) (ok := fun k_ => (((True ∧ some k_ ≠ (.slice Ao17 t410.length co17 : Value).ownBlock) ∧ some k_ ≠ (.slice Ao29 t420.length co29 : Value).ownBlock) ∧ some k_ ≠ (.slice Ao36 t425.length co36 : Value).ownBlock)) (n := t414.length) (c := co22) ?_).2.2; exact (by (with_reducible repeat (first | apply Kd.R_alloc | apply Kd.R_drewN | apply Kd.R_drew)); exact (Kd.R_mono (Kd.R_far (p := ⟨gb429, 1, none⟩) (Kd.R_far (p := ⟨gb429, 0, none⟩) (Kd.R_types HO416.out BK429.out (by decide)) (fun _ hk => hk.2) (.int .i64 t424)) (fun _ hk => hk.2) (.slice Ao36 t425.length co36)) (fun _ h_ => h_.1)))); (case side4 => exact (Kd.R_reads' HO416.out).2.1); rintro e w46 ⟨rfl, hb⟩; refine ⟨_, rfl, ?_⟩; have n0_ := am (Kd.R_below (by (with_reducible repeat (first | apply Kd.R_alloc | apply Kd.R_drewN | apply Kd.R_drew)); exact (Kd.R_mono (Kd.R_far (p := ⟨gb429, 1, none⟩) (Kd.R_far (p := ⟨gb429, 0, none⟩) (Kd.R_types HO412.out BK429.out (by decide)) (fun _ hk => hk.2) (.int .i64 t424)) (fun _ hk => hk.2) (.slice Ao36 t425.length co36)) (fun _ h_ => h_.1))) hb); have n1_ := am (Kd.R_below (by (with_reducible repeat (first | apply Kd.R_alloc | apply Kd.R_drewN | apply Kd.R_drew)); exact (Kd.R_mono (Kd.R_far (p := ⟨gb429, 1, none⟩) (Kd.R_far (p := ⟨gb429, 0, none⟩) (Kd.R_types HO416.out BK429.out (by decide)) (fun _ hk => hk.2) (.int .i64 t424)) (fun _ hk => hk.2) (.slice Ao36 t425.length co36)) (fun _ h_ => h_.1))) hb); have n2_ := am (Kd.R_below (by (with_reducible repeat (first | apply Kd.R_alloc | apply Kd.R_drewN | apply Kd.R_drew)); exact (Kd.R_mono (Kd.R_far (p := ⟨gb429, 1, none⟩) (Kd.R_far (p := ⟨gb429, 0, none⟩) (Kd.R_types HO422.out BK429.out (by decide)) (fun _ hk => hk.2) (.int .i64 t424)) (fun _ hk => hk.2) (.slice Ao36 t425.length co36)) (fun _ h_ => h_.1))) hb); have n3_ := am (Kd.R_below (by (with_reducible repeat (first | apply Kd.R_alloc | apply Kd.R_drewN | apply Kd.R_drew)); exact (Kd.R_mono (Kd.R_far (p := ⟨gb429, 1, none⟩) (Kd.R_far (p := ⟨gb429, 0, none⟩) (Kd.R_types HO427.out BK429.out (by decide)) (fun _ hk => hk.2) (.int .i64 t424)) (fun _ hk => hk.2) (.slice Ao36 t425.length co36)) (fun _ h_ => h_.1))) hb); have n4_ := am (blk_below (g := gb407) (o := .cells #[.int .i64 a0_0, .slice A0_1 l0_1.length c0_1] 24 (0, 0)) (by (with_reducible repeat (first | refine blk_drewN ?_ _ | refine blk_drew ?_ | refine blk_alloc ?_ _)); refine blk_far ?_ NB407_429.out _; (with_reducible repeat (first | refine blk_drewN ?_ _ | refine blk_drew ?_ | refine blk_alloc ?_ _)); refine blk_far ?_ NB407_429.out _; (with_reducible repeat (first | refine blk_drewN ?_ _ | refine blk_drew ?_ | refine blk_alloc ?_ _)); exact BK407.out) hb); have n5_ := am (blk_below (g := gb418) (o := .cells #[.int .i64 t413, .slice Ao22 t414.length co22] 31 (0, 0)) (by (with_reducible repeat (first | refine blk_drewN ?_ _ | refine blk_drew ?_ | refine blk_alloc ?_ _)); refine blk_far ?_ NB418_429.out _; (with_reducible repeat (first | refine blk_drewN ?_ _ | refine blk_drew ?_ | refine blk_alloc ?_ _)); refine blk_far ?_ NB418_429.out _; (with_reducible repeat (first | refine blk_drewN ?_ _ | refine blk_drew ?_ | refine blk_alloc ?_ _)); exact BK418.out) hb); have n6_ := am (blk_below (g := gb423) (o := .cells #[.int .i64 t419, .slice Ao29 t420.length co29] 31 (0, 0)) (by (with_reducible repeat (first | refine blk_drewN ?_ _ | refine blk_drew ?_ | refine blk_alloc ?_ _)); refine blk_far ?_ NB423_429.out _; (with_reducible repeat (first | refine blk_drewN ?_ _ | refine blk_drew ?_ | refine blk_alloc ?_ _)); refine blk_far ?_ NB423_429.out _; (with_reducible repeat (first | refine blk_drewN ?_ _ | refine blk_drew ?_ | refine blk_alloc ?_ _)); exact BK423.out) hb); have n7_ := am (blk_below (g := gb429) (o := .cells #[.int .i64 t424, .slice Ao36 t425.length co36] 31 (0, 0)) (by (with_reducible repeat (first | refine blk_drewN ?_ _ | refine blk_drew ?_ | refine blk_alloc ?_ _)); refine blk_put (cs := #[.int .i64 t424, .slice none 0 0]) ?_ 1 _ rfl; (with_reducible repeat (first | refine blk_drewN ?_ _ | refine blk_drew ?_ | refine blk_alloc ?_ _)); refine blk_put (cs := #[.int .i64 0, .slice none 0 0]) ?_ 0 _ rfl; (with_reducible repeat (first | refine blk_drewN ?_ _ | refine blk_drew ?_ | refine blk_alloc ?_ _)); exact BK429.out) hb); have n8_ := am (below_step (by repeat (first | (with_reducible first | exact HB.out | apply below_alloc | apply pw_below_drewN | apply below_drew1 | refine below_set ?_ (Aside0.out (by assumption))) | exact HB.out)) hb); clear HO412; clear HO416; clear HO422; clear HO427; clear BK407; clear BK418; clear BK423; clear BK429; clear HB; have HO412 := n0_; have HO416 := n1_; have HO422 := n2_; have HO427 := n3_; have BK407 := n4_; have BK418 := n5_; have BK423 := n6_; have BK429 := n7_; have HB := n8_; clear n0_ n1_ n2_ n3_ n4_ n5_ n6_ n7_ n8_; (try clear hb); (try clear hb2); (try clear hk); (try clear hi)))
    go_meet
    case rel => exact ⟨_, ((t428 != t417)), (by first | rfl | (simp; done) | (simp [*]; done)), H', ⟨by first | omega | exact Nat.le_refl _⟩, ⟨by (with_reducible repeat (first | apply Kd.R_alloc | apply Kd.R_drewN | apply Kd.R_drew)); exact Kd.R_mono HO416.out (fun _ hk => ⟨hk.1.2, hk.2⟩)⟩, ⟨by (with_reducible repeat (first | apply Kd.R_alloc | apply Kd.R_drewN | apply Kd.R_drew)); exact Kd.R_mono HO422.out (fun _ hk => ⟨hk.1.2, hk.2⟩)⟩, ⟨by (with_reducible repeat (first | apply Kd.R_alloc | apply Kd.R_drewN | apply Kd.R_drew)); exact Kd.R_mono HO427.out (fun _ hk => ⟨hk.1.2, hk.2⟩)⟩, ⟨bkS BK407.out⟩, ⟨bkS BK418.out⟩, ⟨bkS BK423.out⟩, ⟨bkS BK429.out⟩, ⟨by repeat (first | (with_reducible first | exact HB.out | apply below_alloc | apply pw_below_drewN | apply below_drew1 | refine below_set ?_ (Aside0.out (by assumption))) | exact HB.out)⟩⟩
   ·replace c38 := Bool.eq_false_iff.mpr c38
    subst c38
    have H1 : (laws_FnExactHarderPuzzle.j0 k t417 t428 true a0_0 l0_1 t413 t414 t419 t420 t424 t425) = some r := by rw [if_neg (show ¬ (false = true) by decide)] at H; exact H
    clear H
    have H := H1
    clear H1
    have H' := am H
    clear H
    have hnb47 := NB429_407.out
    have hnc47 := NB407_429.out
    have hnb48 := NB429_418.out
    have hnc48 := NB418_429.out
    have hnb49 := NB429_423.out
    have hnc49 := NB423_429.out
    have hcz50_0 : w31.cell? ⟨gb429, 0, none⟩ = some (.int .i64 0) := (blk_cell BK429.out 0).trans rfl
    have hcz50_1 : w31.cell? ⟨gb429, 1, none⟩ = some (.slice none 0 0) := (blk_cell BK429.out 1).trans rfl
    have hfz50_0 := blk_frozen BK429.out 0
    have hfz50_1 := blk_frozen BK429.out 1
    have hnb51 := NB418_407.out
    have hnc51 := NB407_418.out
    have hnb52 := NB418_423.out
    have hnc52 := NB423_418.out
    have hcz53_0 : w31.cell? ⟨gb418, 0, none⟩ = some (.int .i64 t413) := (blk_cell BK418.out 0).trans rfl
    have hcz53_1 : w31.cell? ⟨gb418, 1, none⟩ = some (.slice Ao22 t414.length co22) := (blk_cell BK418.out 1).trans rfl
    have hfz53_0 := blk_frozen BK418.out 0
    have hfz53_1 := blk_frozen BK418.out 1
    go_wp2_with (first | ((with_reducible refine gate_callee (f := 10) rfl ?_); refine goesL_ (some 34) rfl rfl Try.func10 (by kernel_rfl) rfl #[.agg #[.int .i64 t424, .slice Ao36 t425.length co36], .agg #[.int .i64 t413, .slice Ao22 t414.length co22]] rfl (by (try simp only [List.map_toArray, List.map_cons, List.map_nil]); first | done | rfl | (simp only [List.length_drop, List.length_take]; rfl)) ?_; (with_reducible refine (laws_eqPuzzle.calls k t424 _ _ t425 t413 _ _ t414 false _ ?side1 ?side2 ?side3 ?side4 A37.out).mono ?_); (case side1 => refine (Kd.R_reads' (e := 55) (base := w.heap.size) (ok := fun k_ => (((True ∧ some k_ ≠ (.slice Ao17 t410.length co17 : Value).ownBlock) ∧ some k_ ≠ (.slice Ao22 t414.length co22 : Value).ownBlock) ∧ some k_ ≠ (.slice Ao29 t420.length co29 : Value).ownBlock)) (n := t425.length) (c := co36) ?_).2.2; exact (by (with_reducible repeat (first | apply Kd.R_alloc | apply Kd.R_drewN | apply Kd.R_drew)); exact (Kd.R_mono (Kd.R_far (p := ⟨gb429, 1, none⟩) (Kd.R_far (p := ⟨gb429, 0, none⟩) (Kd.R_types HO427.out BK429.out (by decide)) (fun _ hk => hk.2) (.int .i64 t424)) (fun _ hk => hk.2) (.slice Ao36 t425.length co36)) (fun _ h_ => h_.1)))); (case side2 => exact (Kd.R_reads' HO427.out).2.1); (case side3 => refine (Kd.R_reads' (e := 55) (base := w.heap.size) (ok := fun k_ => (((True ∧ some k_ ≠ (.slice Ao17 t410.length co17 : Value).ownBlock) ∧ some k_ ≠ (.slice Ao29 t420.length co29 : Value).ownBlock) ∧ some k_ ≠ (.slice Ao36 t425.length co36 : Value).ownBlock)) (n := t414.length) (c := co22) ?_).2.2; exact (by (with_reducible repeat (first | apply Kd.R_alloc | apply Kd.R_drewN | apply Kd.R_drew)); exact (Kd.R_mono (Kd.R_far (p := ⟨gb429, 1, none⟩) (Kd.R_far (p := ⟨gb429, 0, none⟩) (Kd.R_types HO416.out BK429.out (by decide)) (fun _ hk => hk.2) (.int .i64 t424)) (fun _ hk => hk.2) (.slice Ao36 t425.length co36)) (fun _ h_ => h_.1)))); (case side4 => exact (Kd.R_reads' HO416.out).2.1); rintro e w54 ⟨rfl, hb⟩; refine ⟨_, rfl, ?_⟩; have n0_ := am (Kd.R_below (by (with_reducible repeat (first | apply Kd.R_alloc | apply Kd.R_drewN | apply Kd.R_drew)); exact (Kd.R_mono (Kd.R_far (p := ⟨gb429, 1, none⟩) (Kd.R_far (p := ⟨gb429, 0, none⟩) (Kd.R_types HO412.out BK429.out (by decide)) (fun _ hk => hk.2) (.int .i64 t424)) (fun _ hk => hk.2) (.slice Ao36 t425.length co36)) (fun _ h_ => h_.1))) hb); have n1_ := am (Kd.R_below (by (with_reducible repeat (first | apply Kd.R_alloc | apply Kd.R_drewN | apply Kd.R_drew)); exact (Kd.R_mono (Kd.R_far (p := ⟨gb429, 1, none⟩) (Kd.R_far (p := ⟨gb429, 0, none⟩) (Kd.R_types HO416.out BK429.out (by decide)) (fun _ hk => hk.2) (.int .i64 t424)) (fun _ hk => hk.2) (.slice Ao36 t425.length co36)) (fun _ h_ => h_.1))) hb); have n2_ := am (Kd.R_below (by (with_reducible repeat (first | apply Kd.R_alloc | apply Kd.R_drewN | apply Kd.R_drew)); exact (Kd.R_mono (Kd.R_far (p := ⟨gb429, 1, none⟩) (Kd.R_far (p := ⟨gb429, 0, none⟩) (Kd.R_types HO422.out BK429.out (by decide)) (fun _ hk => hk.2) (.int .i64 t424)) (fun _ hk => hk.2) (.slice Ao36 t425.length co36)) (fun _ h_ => h_.1))) hb); have n3_ := am (Kd.R_below (by (with_reducible repeat (first | apply Kd.R_alloc | apply Kd.R_drewN | apply Kd.R_drew)); exact (Kd.R_mono (Kd.R_far (p := ⟨gb429, 1, none⟩) (Kd.R_far (p := ⟨gb429, 0, none⟩) (Kd.R_types HO427.out BK429.out (by decide)) (fun _ hk => hk.2) (.int .i64 t424)) (fun _ hk => hk.2) (.slice Ao36 t425.length co36)) (fun _ h_ => h_.1))) hb); have n4_ := am (blk_below (g := gb407) (o := .cells #[.int .i64 a0_0, .slice A0_1 l0_1.length c0_1] 24 (0, 0)) (by (with_reducible repeat (first | refine blk_drewN ?_ _ | refine blk_drew ?_ | refine blk_alloc ?_ _)); refine blk_far ?_ NB407_429.out _; (with_reducible repeat (first | refine blk_drewN ?_ _ | refine blk_drew ?_ | refine blk_alloc ?_ _)); refine blk_far ?_ NB407_429.out _; (with_reducible repeat (first | refine blk_drewN ?_ _ | refine blk_drew ?_ | refine blk_alloc ?_ _)); exact BK407.out) hb); have n5_ := am (blk_below (g := gb418) (o := .cells #[.int .i64 t413, .slice Ao22 t414.length co22] 31 (0, 0)) (by (with_reducible repeat (first | refine blk_drewN ?_ _ | refine blk_drew ?_ | refine blk_alloc ?_ _)); refine blk_far ?_ NB418_429.out _; (with_reducible repeat (first | refine blk_drewN ?_ _ | refine blk_drew ?_ | refine blk_alloc ?_ _)); refine blk_far ?_ NB418_429.out _; (with_reducible repeat (first | refine blk_drewN ?_ _ | refine blk_drew ?_ | refine blk_alloc ?_ _)); exact BK418.out) hb); have n6_ := am (blk_below (g := gb423) (o := .cells #[.int .i64 t419, .slice Ao29 t420.length co29] 31 (0, 0)) (by (with_reducible repeat (first | refine blk_drewN ?_ _ | refine blk_drew ?_ | refine blk_alloc ?_ _)); refine blk_far ?_ NB423_429.out _; (with_reducible repeat (first | refine blk_drewN ?_ _ | refine blk_drew ?_ | refine blk_alloc ?_ _)); refine blk_far ?_ NB423_429.out _; (with_reducible repeat (first | refine blk_drewN ?_ _ | refine blk_drew ?_ | refine blk_alloc ?_ _)); exact BK423.out) hb); have n7_ := am (blk_below (g := gb429) (o := .cells #[.int .i64 t424, .slice Ao36 t425.length co36] 31 (0, 0)) (by (with_reducible repeat (first | refine blk_drewN ?_ _ | refine blk_drew ?_ | refine blk_alloc ?_ _)); refine blk_put (cs := #[.int .i64 t424, .slice none 0 0]) ?_ 1 _ rfl; (with_reducible repeat (first | refine blk_drewN ?_ _ | refine blk_drew ?_ | refine blk_alloc ?_ _)); refine blk_put (cs := #[.int .i64 0, .slice none 0 0]) ?_ 0 _ rfl; (with_reducible repeat (first | refine blk_drewN ?_ _ | refine blk_drew ?_ | refine blk_alloc ?_ _)); exact BK429.out) hb); have n8_ := am (below_step (by repeat (first | (with_reducible first | exact HB.out | apply below_alloc | apply pw_below_drewN | apply below_drew1 | refine below_set ?_ (Aside0.out (by assumption))) | exact HB.out)) hb); clear HO412; clear HO416; clear HO422; clear HO427; clear BK407; clear BK418; clear BK423; clear BK429; clear HB; have HO412 := n0_; have HO416 := n1_; have HO422 := n2_; have HO427 := n3_; have BK407 := n4_; have BK418 := n5_; have BK423 := n6_; have BK429 := n7_; have HB := n8_; clear n0_ n1_ n2_ n3_ n4_ n5_ n6_ n7_ n8_; (try clear hb); (try clear hb2); (try clear hk); (try clear hi)))
    go_meet
    case rel => exact ⟨_, (true), (by first | rfl | (simp; done) | (simp [*]; done)), H', ⟨by first | omega | exact Nat.le_refl _⟩, ⟨by (with_reducible repeat (first | apply Kd.R_alloc | apply Kd.R_drewN | apply Kd.R_drew)); exact Kd.R_mono HO416.out (fun _ hk => ⟨hk.1.2, hk.2⟩)⟩, ⟨by (with_reducible repeat (first | apply Kd.R_alloc | apply Kd.R_drewN | apply Kd.R_drew)); exact Kd.R_mono HO422.out (fun _ hk => ⟨hk.1.2, hk.2⟩)⟩, ⟨by (with_reducible repeat (first | apply Kd.R_alloc | apply Kd.R_drewN | apply Kd.R_drew)); exact Kd.R_mono HO427.out (fun _ hk => ⟨hk.1.2, hk.2⟩)⟩, ⟨bkS BK407.out⟩, ⟨bkS BK418.out⟩, ⟨bkS BK423.out⟩, ⟨bkS BK429.out⟩, ⟨by repeat (first | (with_reducible first | exact HB.out | apply below_alloc | apply pw_below_drewN | apply below_drew1 | refine below_set ?_ (Aside0.out (by assumption))) | exact HB.out)⟩⟩
  case rest =>
   clear HC11
   try clear c1
   try clear c2
   try clear p2
   try clear c3
   try clear c3b0
   try clear c4
   try clear c5
   try clear c7
   try clear c10
   try clear c14
   try clear c15
   try clear c20
   try clear c26
   try clear c27
   try clear c32
   try clear c33
   try clear c34
   try clear c38
   try clear c39
   try clear c40
   try clear c41
   try clear c43
   try clear c44
   try clear c47
   try clear c48
   try clear c49
   try clear c51
   try clear c52
   try clear hcz13_0
   try clear hcz13_1
   try clear hcz15_0
   try clear hcz15_1
   try clear hcz21_0
   try clear hcz21_1
   try clear hcz23_0
   try clear hcz23_1
   try clear hcz28_0
   try clear hcz28_1
   try clear hcz35_0
   try clear hcz35_1
   try clear hcz42_0
   try clear hcz42_1
   try clear hcz45_0
   try clear hcz45_1
   try clear hcz50_0
   try clear hcz50_1
   try clear hcz53_0
   try clear hcz53_1
   try clear hcz5_0
   try clear hcz5_1
   try clear hfz13_0
   try clear hfz13_1
   try clear hfz15_0
   try clear hfz15_1
   try clear hfz21_0
   try clear hfz21_1
   try clear hfz23_0
   try clear hfz23_1
   try clear hfz28_0
   try clear hfz28_1
   try clear hfz35_0
   try clear hfz35_1
   try clear hfz42_0
   try clear hfz42_1
   try clear hfz45_0
   try clear hfz45_1
   try clear hfz50_0
   try clear hfz50_1
   try clear hfz53_0
   try clear hfz53_1
   try clear hfz5_0
   try clear hfz5_1
   obtain ⟨kq, x40_10, rfl, HA, HJ10, HO_419001, HO_424001, HO_430001, BK407, BK418, BK423, BK429, HB⟩ := hcut
   cases kq with
   | zero => exact absurd HA.out (by simp [laws_FnExactHarderPuzzle.j0])
   | succ kj10 =>
    have H := HA.out
    clear HA
    simp only [laws_FnExactHarderPuzzle.j0] at H
    by_cases c55 : x40_10 = true
    ·subst c55
     have H1 : (none) = some r := by rw [if_pos rfl] at H; exact H
     clear H
     have H := H1
     clear H1
     exact absurd H (by simp)
    ·replace c55 := Bool.eq_false_iff.mpr c55
     subst c55
     have H1 : ((laws_toPuzzle.f kj10 a0_0 l0_1).bind fun bt431 => ((laws_eqPuzzle.f kj10 t419 t420 bt431.1 bt431.2).bind fun t435 => (if t435 = true then ((laws_markPuzzle.f kj10 t419 t420 1).bind fun bt436 => (if bt436.1 < 0 then (laws_FnExactHarderPuzzle.j1 kj10 t417 true a0_0 l0_1 t413 t414 t424 t425) else ((laws_eqPuzzle.f kj10 t424 t425 t413 t414).bind fun t438 => (if t438 = true then (laws_FnExactHarderPuzzle.j1 kj10 t417 (t428 != t417) a0_0 l0_1 t413 t414 t424 t425) else (laws_FnExactHarderPuzzle.j1 kj10 t417 true a0_0 l0_1 t413 t414 t424 t425))))) else (none)))) = some r := by rw [if_neg (show ¬ (false = true) by decide)] at H; exact H
     clear H
     have H := H1
     clear H1
     replace H := Option.bind_eq_some_iff.mp H
     obtain ⟨⟨t431, t432⟩, A560, H⟩ := H
     replace H : ((laws_eqPuzzle.f kj10 t419 t420 t431 t432).bind fun t435 => (if t435 = true then ((laws_markPuzzle.f kj10 t419 t420 1).bind fun bt436 => (if bt436.1 < 0 then (laws_FnExactHarderPuzzle.j1 kj10 t417 true a0_0 l0_1 t413 t414 t424 t425) else ((laws_eqPuzzle.f kj10 t424 t425 t413 t414).bind fun t438 => (if t438 = true then (laws_FnExactHarderPuzzle.j1 kj10 t417 (t428 != t417) a0_0 l0_1 t413 t414 t424 t425) else (laws_FnExactHarderPuzzle.j1 kj10 t417 true a0_0 l0_1 t413 t414 t424 t425))))) else (none))) = some r := H
     have A56 := am A560
     clear A560
     replace H := Option.bind_eq_some_iff.mp H
     obtain ⟨t435, A570, H⟩ := H
     replace H : (if t435 = true then ((laws_markPuzzle.f kj10 t419 t420 1).bind fun bt436 => (if bt436.1 < 0 then (laws_FnExactHarderPuzzle.j1 kj10 t417 true a0_0 l0_1 t413 t414 t424 t425) else ((laws_eqPuzzle.f kj10 t424 t425 t413 t414).bind fun t438 => (if t438 = true then (laws_FnExactHarderPuzzle.j1 kj10 t417 (t428 != t417) a0_0 l0_1 t413 t414 t424 t425) else (laws_FnExactHarderPuzzle.j1 kj10 t417 true a0_0 l0_1 t413 t414 t424 t425))))) else (none)) = some r := H
     have A57 := am A570
     clear A570
     by_cases c58 : t435 = true
     ·subst c58
      have H1 : ((laws_markPuzzle.f kj10 t419 t420 1).bind fun bt436 => (if bt436.1 < 0 then (laws_FnExactHarderPuzzle.j1 kj10 t417 true a0_0 l0_1 t413 t414 t424 t425) else ((laws_eqPuzzle.f kj10 t424 t425 t413 t414).bind fun t438 => (if t438 = true then (laws_FnExactHarderPuzzle.j1 kj10 t417 (t428 != t417) a0_0 l0_1 t413 t414 t424 t425) else (laws_FnExactHarderPuzzle.j1 kj10 t417 true a0_0 l0_1 t413 t414 t424 t425))))) = some r := by rw [if_pos rfl] at H; exact H
      clear H
      have H := H1
      clear H1
      replace H := Option.bind_eq_some_iff.mp H
      obtain ⟨⟨t436, t437⟩, A590, H⟩ := H
      replace H : (if t436 < 0 then (laws_FnExactHarderPuzzle.j1 kj10 t417 true a0_0 l0_1 t413 t414 t424 t425) else ((laws_eqPuzzle.f kj10 t424 t425 t413 t414).bind fun t438 => (if t438 = true then (laws_FnExactHarderPuzzle.j1 kj10 t417 (t428 != t417) a0_0 l0_1 t413 t414 t424 t425) else (laws_FnExactHarderPuzzle.j1 kj10 t417 true a0_0 l0_1 t413 t414 t424 t425)))) = some r := H
      have A59 := am A590
      clear A590
      have HC60 := am H
      clear H
      try go_wp2
      have n0_ := am (Kd.R_drew HO_419001.out)
      have n1_ := am (Kd.R_drew HO_424001.out)
      have n2_ := am (Kd.R_drew HO_430001.out)
      have n3_ := am (blk_drew BK407.out)
      have n4_ := am (blk_drew BK418.out)
      have n5_ := am (blk_drew BK423.out)
      have n6_ := am (blk_drew BK429.out)
      have n7_ := am (below_drew1 HB.out)
      clear HO_419001
      clear HO_424001
      clear HO_430001
      clear BK407
      clear BK418
      clear BK423
      clear BK429
      clear HB
      have HO_419001 := n0_
      have HO_424001 := n1_
      have HO_430001 := n2_
      have BK407 := n3_
      have BK418 := n4_
      have BK423 := n5_
      have BK429 := n6_
      have HB := n7_
      clear n0_ n1_ n2_ n3_ n4_ n5_ n6_ n7_
      refine start_ (n := 5) (S := fun w' => w'.cell? ⟨gb423, 0, none⟩ = some (.int .i64 t419) ∧ w'.cell? ⟨gb423, 1, none⟩ = some (.slice Ao29 t420.length co29) ∧ w'.cell? ⟨gb407, 0, none⟩ = some (.int .i64 a0_0) ∧ w'.cell? ⟨gb407, 1, none⟩ = some (.slice A0_1 l0_1.length c0_1)) (ds := []) #[false, false, false, false, false] (by kernel_rfl) rfl rfl ⟨(blk_cell BK423.out 0).trans rfl, (blk_cell BK423.out 1).trans rfl, (blk_cell BK407.out 0).trans rfl, (blk_cell BK407.out 1).trans rfl⟩ (fun hHeld => ?_)
      generalize wc.drew = w61 at HO_419001 HO_424001 HO_430001 BK407 BK418 BK423 BK429 HB hHeld ⊢
      refine take_ (i := 0) (N := some 41) (v := ?_) (a' := ?_) #[true, false, false, false, false] rfl rfl (by kernel_rfl) (fun _ _ _ h => h) (Or.inl ⟨by rfl, ?_⟩) hHeld ?_ ?_
      rotate_left
      ·rintro w' ⟨s0, s1, s2, s3⟩
       go_simp
       with_reducible rfl
      rotate_left
      ·simp only [Act.put, List.setIfInBounds_toArray, List.set_cons_zero, List.set_cons_succ, i64_w, i32_w]
       rfl
      refine take_ (i := 1) (N := some 42) (v := ?_) (a' := ?_) #[true, true, false, false, false] rfl rfl (by kernel_rfl) (fun _ _ _ h => h) (Or.inl ⟨by rfl, ?_⟩) hHeld ?_ ?_
      rotate_left
      ·rintro w' ⟨s0, s1, s2, s3⟩
       go_simp
       with_reducible rfl
      rotate_left
      ·simp only [Act.put, List.setIfInBounds_toArray, List.set_cons_zero, List.set_cons_succ, i64_w, i32_w]
       rfl
      refine one_ (i := 2) (N := some 43) #[true, true, true, false, false] rfl rfl (by kernel_rfl) (by decide) (fun K hK => ?_)
      refine goes_ Try.func7 (by kernel_rfl) rfl #[.agg #[.int .i64 a0_0, .slice A0_1 l0_1.length c0_1]] (by rfl) rfl rfl (by (try simp only [List.map_toArray, List.map_cons, List.map_nil]); first | done | rfl | (simp only [List.length_drop, List.length_take]; rfl)) ?_
      with_reducible refine (laws_toPuzzle.calls kj10 a0_0 _ _ l0_1 t431 t432 _ ?side1 ?side2 A56.out).mono ?_
      (case side1 => repeat (first | exact (Kd.C_below HR0_1.out HB.out) | (with_reducible refine Kd.C_alloc ?_ _) | (with_reducible refine Kd.C_drewN ?_ _) | (with_reducible refine Kd.C_drew ?_)))
      (case side2 => exact HC0_1.out)
      rintro e w62 ⟨v433, rfl, ho0, hb⟩
      refine ⟨_, rfl, ?_⟩
      have n0_ := am (Kd.R_elder' (roS HO_419001.out) (Kd.R_base ho0) hb)
      have n1_ := am (Kd.R_elder' (roS HO_424001.out) (Kd.R_base ho0) hb)
      have n2_ := am (Kd.R_elder' (roS HO_430001.out) (Kd.R_base ho0) hb)
      have n3_ := am (Kd.R_lower (Kd.R_new' (Kd.R_new' (Kd.R_new' ho0 (Kd.R_lt (roS HO_419001.out))) (Kd.R_lt (roS HO_424001.out))) (Kd.R_lt (roS HO_430001.out))) (below_size (by repeat (first | (with_reducible first | exact HB.out | apply below_alloc | apply pw_below_drewN | apply below_drew1 | refine below_set ?_ (Aside0.out (by assumption))) | exact HB.out))))
      have n4_ := am (blk_below (bkS BK407.out) hb)
      have n5_ := am (blk_below (bkS BK418.out) hb)
      have n6_ := am (blk_below (bkS BK423.out) hb)
      have n7_ := am (blk_below (bkS BK429.out) hb)
      have n8_ := am (below_step (by repeat (first | (with_reducible first | exact HB.out | apply below_alloc | apply pw_below_drewN | apply below_drew1 | refine below_set ?_ (Aside0.out (by assumption))) | exact HB.out)) hb)
      clear HO_419001
      clear HO_424001
      clear HO_430001
      clear BK407
      clear BK418
      clear BK423
      clear BK429
      clear HB
      have HO_419001 := n0_
      have HO_424001 := n1_
      have HO_430001 := n2_
      have HO434 := n3_
      have BK407 := n4_
      have BK418 := n5_
      have BK423 := n6_
      have BK429 := n7_
      have HB := n8_
      clear n0_ n1_ n2_ n3_ n4_ n5_ n6_ n7_ n8_
      (try clear hb)
      (try clear hb2)
      (try clear hk)
      (try clear hi)
      (try clear ho0)
      obtain ⟨Ao63, co63, eo63⟩ := Kd.R_slice HO434.out
      (first | subst eo63 | (injection eo63 with f1_ f2_ f3_; have f4_ := f1_.symm; have f5_ := f3_.symm; clear f1_ f2_ f3_; subst f4_; subst f5_))
      refine hK.out _ _ ⟨(blk_cell BK423.out 0).trans rfl, (blk_cell BK423.out 1).trans rfl, (blk_cell BK407.out 0).trans rfl, (blk_cell BK407.out 1).trans rfl⟩ (fun hHeld => ?_)
      clear hK K
      refine norm_ (a' := ?_) ?_ ?_
      rotate_left
      ·show Act.put _ (some 43) _ = _
       simp only [Act.put, List.setIfInBounds_toArray, List.set_cons_zero, List.set_cons_succ, i64_w, i32_w]
       rfl
      refine one_ (i := 3) (N := some 44) #[true, true, true, true, false] rfl rfl (by kernel_rfl) (by decide) (fun K hK => ?_)
      refine goes_ Try.func10 (by kernel_rfl) rfl #[.agg #[.int .i64 t419, .slice Ao29 t420.length co29], .agg #[.int .i64 t431, .slice Ao63 t432.length co63]] (by rfl) rfl rfl (by (try simp only [List.map_toArray, List.map_cons, List.map_nil]); first | done | rfl | (simp only [List.length_drop, List.length_take]; rfl)) ?_
      with_reducible refine (laws_eqPuzzle.calls kj10 t419 _ _ t420 t431 _ _ t432 true _ ?side1 ?side2 ?side3 ?side4 A57.out).mono ?_
      (case side1 => repeat (first | exact (Kd.R_reads' HO_424001.out).2.2 | (with_reducible refine Kd.C_alloc ?_ _) | (with_reducible refine Kd.C_drewN ?_ _) | (with_reducible refine Kd.C_drew ?_)))
      (case side2 => exact (Kd.R_reads' HO_424001.out).2.1)
      (case side3 => repeat (first | exact (Kd.R_reads' HO434.out).2.2 | (with_reducible refine Kd.C_alloc ?_ _) | (with_reducible refine Kd.C_drewN ?_ _) | (with_reducible refine Kd.C_drew ?_)))
      (case side4 => exact (Kd.R_reads' HO434.out).2.1)
      rintro e w64 ⟨rfl, hb⟩
      refine ⟨_, rfl, ?_⟩
      have n0_ := am (Kd.R_below (roS HO_419001.out) hb)
      have n1_ := am (Kd.R_below (roS HO_424001.out) hb)
      have n2_ := am (Kd.R_below (roS HO_430001.out) hb)
      have n3_ := am (Kd.R_below (roS HO434.out) hb)
      have n4_ := am (blk_below (bkS BK407.out) hb)
      have n5_ := am (blk_below (bkS BK418.out) hb)
      have n6_ := am (blk_below (bkS BK423.out) hb)
      have n7_ := am (blk_below (bkS BK429.out) hb)
      have n8_ := am (below_step (by repeat (first | (with_reducible first | exact HB.out | apply below_alloc | apply pw_below_drewN | apply below_drew1 | refine below_set ?_ (Aside0.out (by assumption))) | exact HB.out)) hb)
      clear HO_419001
      clear HO_424001
      clear HO_430001
      clear HO434
      clear BK407
      clear BK418
      clear BK423
      clear BK429
      clear HB
      have HO_419001 := n0_
      have HO_424001 := n1_
      have HO_430001 := n2_
      have HO434 := n3_
      have BK407 := n4_
      have BK418 := n5_
      have BK423 := n6_
      have BK429 := n7_
      have HB := n8_
      clear n0_ n1_ n2_ n3_ n4_ n5_ n6_ n7_ n8_
      (try clear hb)
      (try clear hb2)
      (try clear hk)
      (try clear hi)
      refine hK.out _ _ ⟨(blk_cell BK423.out 0).trans rfl, (blk_cell BK423.out 1).trans rfl, (blk_cell BK407.out 0).trans rfl, (blk_cell BK407.out 1).trans rfl⟩ (fun hHeld => ?_)
      clear hK K
      refine norm_ (a' := ?_) ?_ ?_
      rotate_left
      ·show Act.put _ (some 44) _ = _
       simp only [Act.put, List.setIfInBounds_toArray, List.set_cons_zero, List.set_cons_succ, i64_w, i32_w]
       rfl
      refine pure_ (i := 4) (N := some 45) (v := ?_) (a' := ?_) #[true, true, true, true, true] rfl rfl (by kernel_rfl) (fun _ _ _ h => h) (Or.inl ⟨by rfl, ?_⟩) ?_ ?_
      rotate_left
      ·intro w'
       go_simp
       with_reducible rfl
      rotate_left
      ·simp only [Act.put, List.setIfInBounds_toArray, List.set_cons_zero, List.set_cons_succ, i64_w, i32_w]
       rfl
      refine done_ (by kernel_rfl) ?_
      have hnb65 := NB423_407.out
      have hnc65 := NB407_423.out
      have hnb66 := NB423_418.out
      have hnc66 := NB418_423.out
      have hnb67 := NB423_429.out
      have hnc67 := NB429_423.out
      have hcz68_0 : w64.cell? ⟨gb423, 0, none⟩ = some (.int .i64 t419) := (blk_cell BK423.out 0).trans rfl
      have hcz68_1 : w64.cell? ⟨gb423, 1, none⟩ = some (.slice Ao29 t420.length co29) := (blk_cell BK423.out 1).trans rfl
      have hfz68_0 := blk_frozen BK423.out 0
      have hfz68_1 := blk_frozen BK423.out 1
      go_upto_region 14 with (first | ((with_reducible refine gate_callee (f := 11) rfl ?_); refine goesL_ (some 48) rfl rfl Try.func11 (by kernel_rfl) rfl #[.agg #[.int .i64 t419, .slice Ao29 t420.length co29], .int .i64 1] rfl (by (try simp only [List.map_toArray, List.map_cons, List.map_nil]); first | done | rfl | (simp only [List.length_drop, List.length_take]; rfl)) ?_; (with_reducible refine (laws_markPuzzle.calls kj10 t419 (fun k_ => some k_ = (.slice Ao29 t420.length co29 : Value).ownBlock) (.slice Ao29 t420.length co29) t420 1 t436 t437 w _ ?side1 ?side2 A59.out).mono ?_); (case side1 => repeat (first | (with_reducible first | exact HB.out | apply below_alloc | apply pw_below_drewN | apply below_drew1 | refine below_set ?_ (Aside0.out (by assumption))) | exact HB.out)); (case side2 => exact Kd.R_tight rfl HO_424001.out); rintro e w69 ⟨rfl, hy0, hb, hkp⟩; refine ⟨_, rfl, ?_⟩; have n0_ := am (Kd.R_mono (ok' := fun k_ => some k_ ≠ (.slice Ao29 t420.length co29 : Value).ownBlock ∧ some k_ ≠ (.slice Ao36 t425.length co36 : Value).ownBlock ∧ some k_ ≠ (.slice Ao63 t432.length co63 : Value).ownBlock) (Kd.R_keptB (HO_419001.out) hkp (fun k_ hk_ hs_ => (hk_.1.1) hs_)) (fun k_ hk_ => ⟨hk_.1.1.1, hk_.1.1.2, hk_.1.2⟩)); have n1_ := am (Kd.R_reok rfl hy0 (fun k_ e_ => HO_424001.out.1 k_ e_)); have n2_ := am (Kd.R_mono (ok' := fun k_ => some k_ ≠ (.slice Ao22 t414.length co22 : Value).ownBlock ∧ some k_ ≠ (.slice Ao29 t420.length co29 : Value).ownBlock ∧ some k_ ≠ (.slice Ao63 t432.length co63 : Value).ownBlock) (Kd.R_keptB (HO_430001.out) hkp (fun k_ hk_ hs_ => (hk_.1.2) hs_)) (fun k_ hk_ => ⟨hk_.1.1.1, hk_.1.1.2, hk_.1.2⟩)); have n3_ := am (blk_kept (bkS BK407.out) hkp (fun hs_ => (fun e_ => (Kd.R_ne HO_424001.out BK407.out (by decide)) e_) hs_)); have n4_ := am (blk_kept (bkS BK418.out) hkp (fun hs_ => (fun e_ => (Kd.R_ne HO_424001.out BK418.out (by decide)) e_) hs_)); have n5_ := am (blk_kept (bkS BK423.out) hkp (fun hs_ => (fun e_ => (Kd.R_ne HO_424001.out BK423.out (by decide)) e_) hs_)); have n6_ := am (blk_kept (bkS BK429.out) hkp (fun hs_ => (fun e_ => (Kd.R_ne HO_424001.out BK429.out (by decide)) e_) hs_)); have n7_ := am (Kd.R_mono (ok' := fun k_ => some k_ ≠ (.slice Ao22 t414.length co22 : Value).ownBlock ∧ some k_ ≠ (.slice Ao29 t420.length co29 : Value).ownBlock ∧ some k_ ≠ (.slice Ao36 t425.length co36 : Value).ownBlock) (Kd.R_keptB (HO434.out) hkp (fun k_ hk_ hs_ => (hk_.1.2) hs_)) (fun k_ hk_ => ⟨hk_.1.1.1.2, hk_.1.1.2, hk_.1.2⟩)); have n8_ := am (hb); clear HO_419001; clear HO_424001; clear HO_430001; clear BK407; clear BK418; clear BK423; clear BK429; clear HO434; clear HB; have HO_419001 := n0_; have HO_424001 := n1_; have HO_430001 := n2_; have BK407 := n3_; have BK418 := n4_; have BK423 := n5_; have BK429 := n6_; have HO434 := n7_; have HB := n8_; clear n0_ n1_ n2_ n3_ n4_ n5_ n6_ n7_ n8_; (try clear hb); (try clear hkp); (try clear hy0)))
      (try simp only [Act.put, List.setIfInBounds_toArray, List.set_cons_zero, List.set_cons_succ])
      go_cut [61] (fun v61 wc => ∃ (kq : Nat) (x61_59 : Bool), v61 = .bool x61_59 ∧ Aside0 (laws_FnExactHarderPuzzle.j1 kq t417 x61_59 a0_0 l0_1 t413 t414 t424 t425 = some r) ∧ Aside0 (kq ≤ kj10) ∧ Aside0 (Kd.R k55 55 wc w.heap.size (fun k_ => some k_ ≠ ((.slice Ao29 t420.length co29) : Value).ownBlock ∧ some k_ ≠ ((.slice Ao36 t425.length co36) : Value).ownBlock) (.slice Ao22 t414.length co22) t414) ∧ Aside0 (Kd.R k55 55 wc w.heap.size (fun k_ => some k_ ≠ ((.slice Ao22 t414.length co22) : Value).ownBlock ∧ some k_ ≠ ((.slice Ao36 t425.length co36) : Value).ownBlock) (.slice Ao29 t420.length co29) t437) ∧ Aside0 (Kd.R k55 55 wc w.heap.size (fun k_ => some k_ ≠ ((.slice Ao22 t414.length co22) : Value).ownBlock ∧ some k_ ≠ ((.slice Ao29 t420.length co29) : Value).ownBlock) (.slice Ao36 t425.length co36) t425) ∧ Aside0 (wc.heap[gb407]? = some (.cells #[.int .i64 a0_0, (.slice A0_1 l0_1.length c0_1)] 24 (0, 0))) ∧ Aside0 (wc.heap[gb418]? = some (.cells #[.int .i64 t413, (.slice Ao22 t414.length co22)] 31 (0, 0))) ∧ Aside0 (wc.heap[gb423]? = some (.cells #[.int .i64 t419, (.slice Ao29 t420.length co29)] 31 (0, 0))) ∧ Aside0 (wc.heap[gb429]? = some (.cells #[.int .i64 t424, (.slice Ao36 t425.length co36)] 31 (0, 0))) ∧ Aside0 (Below w.heap.size w wc))
      case first =>
       have H := HC60.out
       clear HC60
       by_cases c70 : t436 < 0
       ·rw [if_pos c70] at H
        have c70b0 : decide (t436 < 0) = true := decide_eq_true c70
        clear c70
        (first | rw [c70b0] | (simp only [i64_w, i32_w]; rw [c70b0]) | skip)
        have H' := am H
        clear H
        go_wp2
        go_meet
        case rel => exact ⟨_, (true), (by first | rfl | (simp; done) | (simp [*]; done)), H', ⟨by have := HJ10.out; first | omega | exact Nat.le_refl _⟩, ⟨by (with_reducible repeat (first | apply Kd.R_alloc | apply Kd.R_drewN | apply Kd.R_drew)); exact Kd.R_mono HO_419001.out (fun _ hk => ⟨hk.1, hk.2.1⟩)⟩, ⟨by (with_reducible repeat (first | apply Kd.R_alloc | apply Kd.R_drewN | apply Kd.R_drew)); exact Kd.R_mono HO_424001.out (fun _ hk => ⟨hk.1.1, hk.1.2⟩)⟩, ⟨by (with_reducible repeat (first | apply Kd.R_alloc | apply Kd.R_drewN | apply Kd.R_drew)); exact Kd.R_mono HO_430001.out (fun _ hk => ⟨hk.1, hk.2.1⟩)⟩, ⟨bkS BK407.out⟩, ⟨bkS BK418.out⟩, ⟨bkS BK423.out⟩, ⟨bkS BK429.out⟩, ⟨by repeat (first | (with_reducible first | exact HB.out | apply below_alloc | apply pw_below_drewN | apply below_drew1 | refine below_set ?_ (Aside0.out (by assumption))) | exact HB.out)⟩⟩
       ·rw [if_neg c70] at H
        have c70b0 : decide (t436 < 0) = false := decide_eq_false c70
        clear c70
        (first | rw [c70b0] | (simp only [i64_w, i32_w]; rw [c70b0]) | skip)
        replace H := Option.bind_eq_some_iff.mp H
        obtain ⟨t438, A710, H⟩ := H
        replace H : (if t438 = true then (laws_FnExactHarderPuzzle.j1 kj10 t417 (t428 != t417) a0_0 l0_1 t413 t414 t424 t425) else (laws_FnExactHarderPuzzle.j1 kj10 t417 true a0_0 l0_1 t413 t414 t424 t425)) = some r := H
        have A71 := am A710
        clear A710
        by_cases c72 : t438 = true
        ·subst c72
         have H1 : (laws_FnExactHarderPuzzle.j1 kj10 t417 (t428 != t417) a0_0 l0_1 t413 t414 t424 t425) = some r := by rw [if_pos rfl] at H; exact H
         clear H
         have H := H1
         clear H1
         have H' := am H
         clear H
         have hnb73 := NB429_407.out
         have hnc73 := NB407_429.out
         have hnb74 := NB429_418.out
         have hnc74 := NB418_429.out
         have hnb75 := NB429_423.out
         have hnc75 := NB423_429.out
         have hcz76_0 : w69.cell? ⟨gb429, 0, none⟩ = some (.int .i64 t424) := (blk_cell BK429.out 0).trans rfl
         have hcz76_1 : w69.cell? ⟨gb429, 1, none⟩ = some (.slice Ao36 t425.length co36) := (blk_cell BK429.out 1).trans rfl
         have hfz76_0 := blk_frozen BK429.out 0
         have hfz76_1 := blk_frozen BK429.out 1
         have hnb77 := NB418_407.out
         have hnc77 := NB407_418.out
         have hnb78 := NB418_423.out
         have hnc78 := NB423_418.out
         have hcz79_0 : w69.cell? ⟨gb418, 0, none⟩ = some (.int .i64 t413) := (blk_cell BK418.out 0).trans rfl
         have hcz79_1 : w69.cell? ⟨gb418, 1, none⟩ = some (.slice Ao22 t414.length co22) := (blk_cell BK418.out 1).trans rfl
         have hfz79_0 := blk_frozen BK418.out 0
         have hfz79_1 := blk_frozen BK418.out 1
         go_wp2_with (first | (go_at_call 10; (with_reducible refine (laws_eqPuzzle.calls kj10 t424 _ _ t425 t413 _ _ t414 true _ ?side1 ?side2 ?side3 ?side4 A71.out).mono ?_); (case side1 => repeat (first | exact (Kd.R_reads' HO_430001.out).2.2 | (with_reducible refine Kd.C_alloc ?_ _) | (with_reducible refine Kd.C_drewN ?_ _) | (with_reducible refine Kd.C_drew ?_))); (case side2 => exact (Kd.R_reads' HO_430001.out).2.1); (case side3 => repeat (first | exact (Kd.R_reads' HO_419001.out).2.2 | (with_reducible refine Kd.C_alloc ?_ _) | (with_reducible refine Kd.C_drewN ?_ _) | (with_reducible refine Kd.C_drew ?_))); (case side4 => exact (Kd.R_reads' HO_419001.out).2.1); rintro e w80 ⟨rfl, hb⟩; have n0_ := am (Kd.R_below (roS HO_419001.out) hb); have n1_ := am (Kd.R_below (roS HO_424001.out) hb); have n2_ := am (Kd.R_below (roS HO_430001.out) hb); have n3_ := am (Kd.R_below (roS HO434.out) hb); have n4_ := am (blk_below (bkS BK407.out) hb); have n5_ := am (blk_below (bkS BK418.out) hb); have n6_ := am (blk_below (bkS BK423.out) hb); have n7_ := am (blk_below (bkS BK429.out) hb); have n8_ := am (below_step (by repeat (first | (with_reducible first | exact HB.out | apply below_alloc | apply pw_below_drewN | apply below_drew1 | refine below_set ?_ (Aside0.out (by assumption))) | exact HB.out)) hb); clear HO_419001; clear HO_424001; clear HO_430001; clear HO434; clear BK407; clear BK418; clear BK423; clear BK429; clear HB; have HO_419001 := n0_; have HO_424001 := n1_; have HO_430001 := n2_; have HO434 := n3_; have BK407 := n4_; have BK418 := n5_; have BK423 := n6_; have BK429 := n7_; have HB := n8_; clear n0_ n1_ n2_ n3_ n4_ n5_ n6_ n7_ n8_; (try clear hb); (try clear hb2); (try clear hk); (try clear hi)))
         go_meet
         case rel => exact ⟨_, ((t428 != t417)), (by first | rfl | (simp; done) | (simp [*]; done)), H', ⟨by have := HJ10.out; first | omega | exact Nat.le_refl _⟩, ⟨by (with_reducible repeat (first | apply Kd.R_alloc | apply Kd.R_drewN | apply Kd.R_drew)); exact Kd.R_mono HO_419001.out (fun _ hk => ⟨hk.1, hk.2.1⟩)⟩, ⟨by (with_reducible repeat (first | apply Kd.R_alloc | apply Kd.R_drewN | apply Kd.R_drew)); exact Kd.R_mono HO_424001.out (fun _ hk => ⟨hk.1.1, hk.1.2⟩)⟩, ⟨by (with_reducible repeat (first | apply Kd.R_alloc | apply Kd.R_drewN | apply Kd.R_drew)); exact Kd.R_mono HO_430001.out (fun _ hk => ⟨hk.1, hk.2.1⟩)⟩, ⟨bkS BK407.out⟩, ⟨bkS BK418.out⟩, ⟨bkS BK423.out⟩, ⟨bkS BK429.out⟩, ⟨by repeat (first | (with_reducible first | exact HB.out | apply below_alloc | apply pw_below_drewN | apply below_drew1 | refine below_set ?_ (Aside0.out (by assumption))) | exact HB.out)⟩⟩
        ·replace c72 := Bool.eq_false_iff.mpr c72
         subst c72
         have H1 : (laws_FnExactHarderPuzzle.j1 kj10 t417 true a0_0 l0_1 t413 t414 t424 t425) = some r := by rw [if_neg (show ¬ (false = true) by decide)] at H; exact H
         clear H
         have H := H1
         clear H1
         have H' := am H
         clear H
         have hnb81 := NB429_407.out
         have hnc81 := NB407_429.out
         have hnb82 := NB429_418.out
         have hnc82 := NB418_429.out
         have hnb83 := NB429_423.out
         have hnc83 := NB423_429.out
         have hcz84_0 : w69.cell? ⟨gb429, 0, none⟩ = some (.int .i64 t424) := (blk_cell BK429.out 0).trans rfl
         have hcz84_1 : w69.cell? ⟨gb429, 1, none⟩ = some (.slice Ao36 t425.length co36) := (blk_cell BK429.out 1).trans rfl
         have hfz84_0 := blk_frozen BK429.out 0
         have hfz84_1 := blk_frozen BK429.out 1
         have hnb85 := NB418_407.out
         have hnc85 := NB407_418.out
         have hnb86 := NB418_423.out
         have hnc86 := NB423_418.out
         have hcz87_0 : w69.cell? ⟨gb418, 0, none⟩ = some (.int .i64 t413) := (blk_cell BK418.out 0).trans rfl
         have hcz87_1 : w69.cell? ⟨gb418, 1, none⟩ = some (.slice Ao22 t414.length co22) := (blk_cell BK418.out 1).trans rfl
         have hfz87_0 := blk_frozen BK418.out 0
         have hfz87_1 := blk_frozen BK418.out 1
         go_wp2_with (first | (go_at_call 10; (with_reducible refine (laws_eqPuzzle.calls kj10 t424 _ _ t425 t413 _ _ t414 false _ ?side1 ?side2 ?side3 ?side4 A71.out).mono ?_); (case side1 => repeat (first | exact (Kd.R_reads' HO_430001.out).2.2 | (with_reducible refine Kd.C_alloc ?_ _) | (with_reducible refine Kd.C_drewN ?_ _) | (with_reducible refine Kd.C_drew ?_))); (case side2 => exact (Kd.R_reads' HO_430001.out).2.1); (case side3 => repeat (first | exact (Kd.R_reads' HO_419001.out).2.2 | (with_reducible refine Kd.C_alloc ?_ _) | (with_reducible refine Kd.C_drewN ?_ _) | (with_reducible refine Kd.C_drew ?_))); (case side4 => exact (Kd.R_reads' HO_419001.out).2.1); rintro e w88 ⟨rfl, hb⟩; have n0_ := am (Kd.R_below (roS HO_419001.out) hb); have n1_ := am (Kd.R_below (roS HO_424001.out) hb); have n2_ := am (Kd.R_below (roS HO_430001.out) hb); have n3_ := am (Kd.R_below (roS HO434.out) hb); have n4_ := am (blk_below (bkS BK407.out) hb); have n5_ := am (blk_below (bkS BK418.out) hb); have n6_ := am (blk_below (bkS BK423.out) hb); have n7_ := am (blk_below (bkS BK429.out) hb); have n8_ := am (below_step (by repeat (first | (with_reducible first | exact HB.out | apply below_alloc | apply pw_below_drewN | apply below_drew1 | refine below_set ?_ (Aside0.out (by assumption))) | exact HB.out)) hb); clear HO_419001; clear HO_424001; clear HO_430001; clear HO434; clear BK407; clear BK418; clear BK423; clear BK429; clear HB; have HO_419001 := n0_; have HO_424001 := n1_; have HO_430001 := n2_; have HO434 := n3_; have BK407 := n4_; have BK418 := n5_; have BK423 := n6_; have BK429 := n7_; have HB := n8_; clear n0_ n1_ n2_ n3_ n4_ n5_ n6_ n7_ n8_; (try clear hb); (try clear hb2); (try clear hk); (try clear hi)))
         go_meet
         case rel => exact ⟨_, (true), (by first | rfl | (simp; done) | (simp [*]; done)), H', ⟨by have := HJ10.out; first | omega | exact Nat.le_refl _⟩, ⟨by (with_reducible repeat (first | apply Kd.R_alloc | apply Kd.R_drewN | apply Kd.R_drew)); exact Kd.R_mono HO_419001.out (fun _ hk => ⟨hk.1, hk.2.1⟩)⟩, ⟨by (with_reducible repeat (first | apply Kd.R_alloc | apply Kd.R_drewN | apply Kd.R_drew)); exact Kd.R_mono HO_424001.out (fun _ hk => ⟨hk.1.1, hk.1.2⟩)⟩, ⟨by (with_reducible repeat (first | apply Kd.R_alloc | apply Kd.R_drewN | apply Kd.R_drew)); exact Kd.R_mono HO_430001.out (fun _ hk => ⟨hk.1, hk.2.1⟩)⟩, ⟨bkS BK407.out⟩, ⟨bkS BK418.out⟩, ⟨bkS BK423.out⟩, ⟨bkS BK429.out⟩, ⟨by repeat (first | (with_reducible first | exact HB.out | apply below_alloc | apply pw_below_drewN | apply below_drew1 | refine below_set ?_ (Aside0.out (by assumption))) | exact HB.out)⟩⟩
      case rest =>
       clear HC60
       try clear c1
       try clear c2
       try clear p2
       try clear c3
       try clear c3b0
       try clear c4
       try clear c5
       try clear c6
       try clear c7
       try clear c8
       try clear c10
       try clear c11
       try clear c14
       try clear c15
       try clear c20
       try clear c26
       try clear c27
       try clear c32
       try clear c33
       try clear c34
       try clear c38
       try clear c39
       try clear c40
       try clear c41
       try clear c43
       try clear c44
       try clear c47
       try clear c48
       try clear c49
       try clear c51
       try clear c52
       try clear c55
       try clear c58
       try clear c65
       try clear c66
       try clear c67
       try clear c70
       try clear c70b0
       try clear c72
       try clear c73
       try clear c74
       try clear c75
       try clear c77
       try clear c78
       try clear c81
       try clear c82
       try clear c83
       try clear c85
       try clear c86
       try clear hcz13_0
       try clear hcz13_1
       try clear hcz15_0
       try clear hcz15_1
       try clear hcz21_0
       try clear hcz21_1
       try clear hcz23_0
       try clear hcz23_1
       try clear hcz28_0
       try clear hcz28_1
       try clear hcz35_0
       try clear hcz35_1
       try clear hcz42_0
       try clear hcz42_1
       try clear hcz45_0
       try clear hcz45_1
       try clear hcz50_0
       try clear hcz50_1
       try clear hcz53_0
       try clear hcz53_1
       try clear hcz5_0
       try clear hcz5_1
       try clear hcz68_0
       try clear hcz68_1
       try clear hcz76_0
       try clear hcz76_1
       try clear hcz79_0
       try clear hcz79_1
       try clear hcz84_0
       try clear hcz84_1
       try clear hcz87_0
       try clear hcz87_1
       try clear hfz13_0
       try clear hfz13_1
       try clear hfz15_0
       try clear hfz15_1
       try clear hfz21_0
       try clear hfz21_1
       try clear hfz23_0
       try clear hfz23_1
       try clear hfz28_0
       try clear hfz28_1
       try clear hfz35_0
       try clear hfz35_1
       try clear hfz42_0
       try clear hfz42_1
       try clear hfz45_0
       try clear hfz45_1
       try clear hfz50_0
       try clear hfz50_1
       try clear hfz53_0
       try clear hfz53_1
       try clear hfz5_0
       try clear hfz5_1
       try clear hfz68_0
       try clear hfz68_1
       try clear hfz76_0
       try clear hfz76_1
       try clear hfz79_0
       try clear hfz79_1
       try clear hfz84_0
       try clear hfz84_1
       try clear hfz87_0
       try clear hfz87_1
       try clear p2
       obtain ⟨kq, x61_59, rfl, HA, HJ59, HO_419001, HO_424001, HO_430001, BK407, BK418, BK423, BK429, HB⟩ := hcut
       have hl424001_59 := (Kd.R_reads' HO_424001.out).1
       rw [hl424001_59] at HO_424001
       (try simp only [hl424001_59])
       (try simp only [hl424001_59] at BK407)
       (try simp only [hl424001_59] at BK418)
       (try simp only [hl424001_59] at BK423)
       (try simp only [hl424001_59] at BK429)
       (try simp only [hl424001_59] at HO_419001)
       (try simp only [hl424001_59] at HO_430001)
       cases kq with
       | zero => exact absurd HA.out (by simp [laws_FnExactHarderPuzzle.j1])
       | succ kj59 =>
        have H := HA.out
        clear HA
        simp only [laws_FnExactHarderPuzzle.j1] at H
        by_cases c89 : x61_59 = true
        ·subst c89
         have H1 : (none) = some r := by rw [if_pos rfl] at H; exact H
         clear H
         have H := H1
         clear H1
         exact absurd H (by simp)
        ·replace c89 := Bool.eq_false_iff.mpr c89
         subst c89
         have H1 : ((laws_markPuzzle.f kj59 t424 t425 1).bind fun bt439 => ((laws_heldPuzzle.f kj59 t424 bt439.2 1).bind fun t441 => (if t441 < 0 then (none) else (if t441 = bt439.1 then ((laws_toPuzzle.f kj59 a0_0 l0_1).bind fun bt442 => ((impl_HarderPuzzle.f kj59 bt442.1 bt442.2).bind fun bt446 => ((laws_eqPuzzle.f kj59 bt446.1 bt446.2.1 t413 t414).bind fun t452 => (if t452 = true then (laws_FnExactHarderPuzzle.j2 kj59 bt439.1 (bt446.2.2 != t417) t424 bt439.2) else (laws_FnExactHarderPuzzle.j2 kj59 bt439.1 true t424 bt439.2))))) else (none))))) = some r := by rw [if_neg (show ¬ (false = true) by decide)] at H; exact H
         clear H
         have H := H1
         clear H1
         replace H := Option.bind_eq_some_iff.mp H
         obtain ⟨⟨t439, t440⟩, A900, H⟩ := H
         replace H : ((laws_heldPuzzle.f kj59 t424 t440 1).bind fun t441 => (if t441 < 0 then (none) else (if t441 = t439 then ((laws_toPuzzle.f kj59 a0_0 l0_1).bind fun bt442 => ((impl_HarderPuzzle.f kj59 bt442.1 bt442.2).bind fun bt446 => ((laws_eqPuzzle.f kj59 bt446.1 bt446.2.1 t413 t414).bind fun t452 => (if t452 = true then (laws_FnExactHarderPuzzle.j2 kj59 t439 (bt446.2.2 != t417) t424 t440) else (laws_FnExactHarderPuzzle.j2 kj59 t439 true t424 t440))))) else (none)))) = some r := H
         have A90 := am A900
         clear A900
         replace H := Option.bind_eq_some_iff.mp H
         obtain ⟨t441, A910, H⟩ := H
         replace H : (if t441 < 0 then (none) else (if t441 = t439 then ((laws_toPuzzle.f kj59 a0_0 l0_1).bind fun bt442 => ((impl_HarderPuzzle.f kj59 bt442.1 bt442.2).bind fun bt446 => ((laws_eqPuzzle.f kj59 bt446.1 bt446.2.1 t413 t414).bind fun t452 => (if t452 = true then (laws_FnExactHarderPuzzle.j2 kj59 t439 (bt446.2.2 != t417) t424 t440) else (laws_FnExactHarderPuzzle.j2 kj59 t439 true t424 t440))))) else (none))) = some r := H
         have A91 := am A910
         clear A910
         by_cases c92 : t441 < 0
         ·rw [if_pos c92] at H
          exact absurd H (by simp)
         ·rw [if_neg c92] at H
          have c92b0 : decide (t441 < 0) = false := decide_eq_false c92
          clear c92
          by_cases c93 : t441 = t439
          ·rw [if_pos c93] at H
           have c93b0 : (t441 == t439) = true := beq_iff_eq.mpr c93
           have c93b1 : (t441 != t439) = false := bne_eq_false_iff_eq.mpr c93
           clear c93
           replace H := Option.bind_eq_some_iff.mp H
           obtain ⟨⟨t442, t443⟩, A940, H⟩ := H
           replace H : ((impl_HarderPuzzle.f kj59 t442 t443).bind fun bt446 => ((laws_eqPuzzle.f kj59 bt446.1 bt446.2.1 t413 t414).bind fun t452 => (if t452 = true then (laws_FnExactHarderPuzzle.j2 kj59 t439 (bt446.2.2 != t417) t424 t440) else (laws_FnExactHarderPuzzle.j2 kj59 t439 true t424 t440)))) = some r := H
           have A94 := am A940
           clear A940
           replace H := Option.bind_eq_some_iff.mp H
           obtain ⟨⟨t446, t447, t450⟩, A950, H⟩ := H
           replace H : ((laws_eqPuzzle.f kj59 t446 t447 t413 t414).bind fun t452 => (if t452 = true then (laws_FnExactHarderPuzzle.j2 kj59 t439 (t450 != t417) t424 t440) else (laws_FnExactHarderPuzzle.j2 kj59 t439 true t424 t440))) = some r := H
           have A95 := am A950
           clear A950
           have HC96 := am H
           clear H
           have hnb97 := NB429_407.out
           have hnc97 := NB407_429.out
           have hnb98 := NB429_418.out
           have hnc98 := NB418_429.out
           have hnb99 := NB429_423.out
           have hnc99 := NB423_429.out
           have hcz100_0 : wc.cell? ⟨gb429, 0, none⟩ = some (.int .i64 t424) := (blk_cell BK429.out 0).trans rfl
           have hcz100_1 : wc.cell? ⟨gb429, 1, none⟩ = some (.slice Ao36 t425.length co36) := (blk_cell BK429.out 1).trans rfl
           have hfz100_0 := blk_frozen BK429.out 0
           have hfz100_1 := blk_frozen BK429.out 1
           go_upto_region 25 with (first | ((with_reducible refine gate_callee (f := 11) rfl ?_); refine goesL_ (some 64) rfl rfl Try.func11 (by kernel_rfl) rfl #[.agg #[.int .i64 t424, .slice Ao36 t425.length co36], .int .i64 1] rfl (by (try simp only [List.map_toArray, List.map_cons, List.map_nil]); first | done | rfl | (simp only [List.length_drop, List.length_take]; rfl)) ?_; (with_reducible refine (laws_markPuzzle.calls kj59 t424 (fun k_ => some k_ = (.slice Ao36 t425.length co36 : Value).ownBlock) (.slice Ao36 t425.length co36) t425 1 t439 t440 w _ ?side1 ?side2 A90.out).mono ?_); (case side1 => repeat (first | (with_reducible first | exact HB.out | apply below_alloc | apply pw_below_drewN | apply below_drew1 | refine below_set ?_ (Aside0.out (by assumption))) | exact HB.out)); (case side2 => exact Kd.R_tight rfl HO_430001.out); rintro e w101 ⟨rfl, hy0, hb, hkp⟩; refine ⟨_, rfl, ?_⟩; have n0_ := am (Kd.R_mono (ok' := fun k_ => some k_ ≠ (.slice Ao29 t437.length co29 : Value).ownBlock ∧ some k_ ≠ (.slice Ao36 t425.length co36 : Value).ownBlock) (Kd.R_keptB (HO_419001.out) hkp (fun k_ hk_ hs_ => (hk_.2) hs_)) (fun k_ hk_ => ⟨hk_.1.1, hk_.1.2⟩)); have n1_ := am (Kd.R_mono (ok' := fun k_ => some k_ ≠ (.slice Ao22 t414.length co22 : Value).ownBlock ∧ some k_ ≠ (.slice Ao36 t425.length co36 : Value).ownBlock) (Kd.R_keptB (HO_424001.out) hkp (fun k_ hk_ hs_ => (hk_.2) hs_)) (fun k_ hk_ => ⟨hk_.1.1, hk_.1.2⟩)); have n2_ := am (Kd.R_reok rfl hy0 (fun k_ e_ => HO_430001.out.1 k_ e_)); have n3_ := am (blk_kept (bkS BK407.out) hkp (fun hs_ => (fun e_ => (Kd.R_ne HO_430001.out BK407.out (by decide)) e_) hs_)); have n4_ := am (blk_kept (bkS BK418.out) hkp (fun hs_ => (fun e_ => (Kd.R_ne HO_430001.out BK418.out (by decide)) e_) hs_)); have n5_ := am (blk_kept (bkS BK423.out) hkp (fun hs_ => (fun e_ => (Kd.R_ne HO_430001.out BK423.out (by decide)) e_) hs_)); have n6_ := am (blk_kept (bkS BK429.out) hkp (fun hs_ => (fun e_ => (Kd.R_ne HO_430001.out BK429.out (by decide)) e_) hs_)); have n7_ := am (hb); clear HO_419001; clear HO_424001; clear HO_430001; clear BK407; clear BK418; clear BK423; clear BK429; clear HB; have HO_419001 := n0_; have HO_424001 := n1_; have HO_430001 := n2_; have BK407 := n3_; have BK418 := n4_; have BK423 := n5_; have BK429 := n6_; have HB := n7_; clear n0_ n1_ n2_ n3_ n4_ n5_ n6_ n7_; (try clear hb); (try clear hkp); (try clear hy0); have hcz102_0 : w101.cell? ⟨gb429, 0, none⟩ = some (.int .i64 t424) := (blk_cell BK429.out 0).trans rfl; have hcz102_1 : w101.cell? ⟨gb429, 1, none⟩ = some (.slice Ao36 t425.length co36) := (blk_cell BK429.out 1).trans rfl; have hfz102_0 := blk_frozen BK429.out 0; have hfz102_1 := blk_frozen BK429.out 1) | ((with_reducible refine gate_callee (f := 16) rfl ?_); refine goesL_ (some 67) rfl rfl Try.func16 (by kernel_rfl) rfl #[.agg #[.int .i64 t424, .slice Ao36 t440.length co36], .int .i64 1] rfl (by (try simp only [List.map_toArray, List.map_cons, List.map_nil]); first | done | (rw [show t440.length = t425.length from (Kd.R_reads' HO_430001.out).1.symm] <;> rfl) | rfl | (simp only [List.length_drop, List.length_take]; rfl)) ?_; (with_reducible refine (laws_heldPuzzle.calls kj59 t424 _ _ t440 1 t441 _ ?side1 ?side2 A91.out).mono ?_); (case side1 => repeat (first | exact (Kd.R_reads' HO_430001.out).2.2 | (with_reducible refine Kd.C_alloc ?_ _) | (with_reducible refine Kd.C_drewN ?_ _) | (with_reducible refine Kd.C_drew ?_))); (case side2 => rw [show t440.length = t425.length from (Kd.R_reads' HO_430001.out).1.symm]; exact (Kd.R_reads' HO_430001.out).2.1); rintro e w103 ⟨rfl, hb⟩; refine ⟨_, rfl, ?_⟩; have n0_ := am (Kd.R_below (roS HO_419001.out) hb); have n1_ := am (Kd.R_below (roS HO_424001.out) hb); have n2_ := am (Kd.R_below (roS HO_430001.out) hb); have n3_ := am (blk_below (bkS BK407.out) hb); have n4_ := am (blk_below (bkS BK418.out) hb); have n5_ := am (blk_below (bkS BK423.out) hb); have n6_ := am (blk_below (bkS BK429.out) hb); have n7_ := am (below_step (by repeat (first | (with_reducible first | exact HB.out | apply below_alloc | apply pw_below_drewN | apply below_drew1 | refine below_set ?_ (Aside0.out (by assumption))) | exact HB.out)) hb); clear HO_419001; clear HO_424001; clear HO_430001; clear BK407; clear BK418; clear BK423; clear BK429; clear HB; have HO_419001 := n0_; have HO_424001 := n1_; have HO_430001 := n2_; have BK407 := n3_; have BK418 := n4_; have BK423 := n5_; have BK429 := n6_; have HB := n7_; clear n0_ n1_ n2_ n3_ n4_ n5_ n6_ n7_; (try clear hb); (try clear hb2); (try clear hk); (try clear hi); have hnb104 := NB407_418.out; have hnc104 := NB418_407.out; have hnb105 := NB407_423.out; have hnc105 := NB423_407.out; have hcz106_0 : w103.cell? ⟨gb407, 0, none⟩ = some (.int .i64 a0_0) := (blk_cell BK407.out 0).trans rfl; have hcz106_1 : w103.cell? ⟨gb407, 1, none⟩ = some (.slice A0_1 l0_1.length c0_1) := (blk_cell BK407.out 1).trans rfl; have hfz106_0 := blk_frozen BK407.out 0; have hfz106_1 := blk_frozen BK407.out 1) | ((with_reducible refine gate_callee (f := 7) rfl ?_); refine goesL_ (some 75) rfl rfl Try.func7 (by kernel_rfl) rfl #[.agg #[.int .i64 a0_0, .slice A0_1 l0_1.length c0_1]] rfl (by (try simp only [List.map_toArray, List.map_cons, List.map_nil]); first | done | rfl | (simp only [List.length_drop, List.length_take]; rfl)) ?_; (with_reducible refine (laws_toPuzzle.calls kj59 a0_0 _ _ l0_1 t442 t443 _ ?side1 ?side2 A94.out).mono ?_); (case side1 => repeat (first | exact (Kd.C_below HR0_1.out HB.out) | (with_reducible refine Kd.C_alloc ?_ _) | (with_reducible refine Kd.C_drewN ?_ _) | (with_reducible refine Kd.C_drew ?_))); (case side2 => exact HC0_1.out); rintro e w107 ⟨v444, rfl, ho0, hb⟩; refine ⟨_, rfl, ?_⟩; have n0_ := am (Kd.R_elder' (roS HO_419001.out) (Kd.R_base ho0) hb); have n1_ := am (Kd.R_elder' (roS HO_424001.out) (Kd.R_base ho0) hb); have n2_ := am (Kd.R_elder' (roS HO_430001.out) (Kd.R_base ho0) hb); have n3_ := am (Kd.R_lower (Kd.R_new' (Kd.R_new' (Kd.R_new' ho0 (Kd.R_lt (roS HO_419001.out))) (Kd.R_lt (roS HO_424001.out))) (Kd.R_lt (roS HO_430001.out))) (below_size (by repeat (first | (with_reducible first | exact HB.out | apply below_alloc | apply pw_below_drewN | apply below_drew1 | refine below_set ?_ (Aside0.out (by assumption))) | exact HB.out)))); have n4_ := am (blk_below (bkS BK407.out) hb); have n5_ := am (blk_below (bkS BK418.out) hb); have n6_ := am (blk_below (bkS BK423.out) hb); have n7_ := am (blk_below (bkS BK429.out) hb); have n8_ := am (below_step (by repeat (first | (with_reducible first | exact HB.out | apply below_alloc | apply pw_below_drewN | apply below_drew1 | refine below_set ?_ (Aside0.out (by assumption))) | exact HB.out)) hb); clear HO_419001; clear HO_424001; clear HO_430001; clear BK407; clear BK418; clear BK423; clear BK429; clear HB; have HO_419001 := n0_; have HO_424001 := n1_; have HO_430001 := n2_; have HO445 := n3_; have BK407 := n4_; have BK418 := n5_; have BK423 := n6_; have BK429 := n7_; have HB := n8_; clear n0_ n1_ n2_ n3_ n4_ n5_ n6_ n7_ n8_; (try clear hb); (try clear hb2); (try clear hk); (try clear hi); (try clear ho0); obtain ⟨Ao108, co108, eo108⟩ := Kd.R_slice HO445.out; subst eo108) | ((with_reducible refine gate_callee (f := 15) rfl ?_); refine goesL_ (some 76) rfl rfl Try.func15 (by kernel_rfl) rfl #[.agg #[.int .i64 t442, .slice Ao108 t443.length co108]] rfl (by (try simp only [List.map_toArray, List.map_cons, List.map_nil]); first | done | rfl | (simp only [List.length_drop, List.length_take]; rfl)) ?_; (with_reducible refine (impl_HarderPuzzle.calls kj59 t442 _ _ t443 t446 t447 t450 _ ?side1 ?side2 A95.out).mono ?_); (case side1 => repeat (first | exact (Kd.R_reads' HO445.out).2.2 | (with_reducible refine Kd.C_alloc ?_ _) | (with_reducible refine Kd.C_drewN ?_ _) | (with_reducible refine Kd.C_drew ?_))); (case side2 => exact (Kd.R_reads' HO445.out).2.1); rintro e w109 ⟨v448, rfl, ho0, hb⟩; refine ⟨_, rfl, ?_⟩; have n0_ := am (Kd.R_elder' (roS HO_419001.out) (Kd.R_base ho0) hb); have n1_ := am (Kd.R_elder' (roS HO_424001.out) (Kd.R_base ho0) hb); have n2_ := am (Kd.R_elder' (roS HO_430001.out) (Kd.R_base ho0) hb); have n3_ := am (Kd.R_elder' (roS HO445.out) (Kd.R_base ho0) hb); have n4_ := am (Kd.R_lower (Kd.R_new' (Kd.R_new' (Kd.R_new' (Kd.R_new' ho0 (Kd.R_lt (roS HO_419001.out))) (Kd.R_lt (roS HO_424001.out))) (Kd.R_lt (roS HO_430001.out))) (Kd.R_lt (roS HO445.out))) (below_size (by repeat (first | (with_reducible first | exact HB.out | apply below_alloc | apply pw_below_drewN | apply below_drew1 | refine below_set ?_ (Aside0.out (by assumption))) | exact HB.out)))); have n5_ := am (blk_below (bkS BK407.out) hb); have n6_ := am (blk_below (bkS BK418.out) hb); have n7_ := am (blk_below (bkS BK423.out) hb); have n8_ := am (blk_below (bkS BK429.out) hb); have n9_ := am (below_step (by repeat (first | (with_reducible first | exact HB.out | apply below_alloc | apply pw_below_drewN | apply below_drew1 | refine below_set ?_ (Aside0.out (by assumption))) | exact HB.out)) hb); clear HO_419001; clear HO_424001; clear HO_430001; clear HO445; clear BK407; clear BK418; clear BK423; clear BK429; clear HB; have HO_419001 := n0_; have HO_424001 := n1_; have HO_430001 := n2_; have HO445 := n3_; have HO449 := n4_; have BK407 := n5_; have BK418 := n6_; have BK423 := n7_; have BK429 := n8_; have HB := n9_; clear n0_ n1_ n2_ n3_ n4_ n5_ n6_ n7_ n8_ n9_; (try clear hb); (try clear hb2); (try clear hk); (try clear hi); (try clear ho0)) | ((with_reducible refine gate_dst (N := 12) rfl ?_); refine box_event ?hg (N := 12) ?hd (cs := #[.int .i64 0, .slice none 0 0]) (t := 31) ?hr ?_; (case hd => rfl); (case hg => rfl); (case hr => first | (go_simp; done) | (go_simp; rfl)); intro gb451 hg w110 hbox hb; have n0_ := am (Kd.R_below (roS HO_419001.out) hb); have n1_ := am (Kd.R_below (roS HO_424001.out) hb); have n2_ := am (Kd.R_below (roS HO_430001.out) hb); have n3_ := am (Kd.R_below (roS HO445.out) hb); have n4_ := am (Kd.R_below (roS HO449.out) hb); have n5_ := am (blk_below (bkS BK407.out) hb); have n6_ := am (blk_below (bkS BK418.out) hb); have n7_ := am (blk_below (bkS BK423.out) hb); have n8_ := am (blk_below (bkS BK429.out) hb); have n9_ := am (below_step (by repeat (first | (with_reducible first | exact HB.out | apply below_alloc | apply pw_below_drewN | apply below_drew1 | refine below_set ?_ (Aside0.out (by assumption))) | exact HB.out)) hb); have n10_ := am (hbox); have n11_ := am ((by rw [hg]; exact (below_size (by repeat (first | (with_reducible first | exact HB.out | apply below_alloc | apply pw_below_drewN | apply below_drew1 | refine below_set ?_ (Aside0.out (by assumption))) | exact HB.out))) : w.heap.size ≤ gb451)); have n12_ := am ((by rw [hg]; exact (below_size (by repeat (first | (with_reducible first | exact HB.out | apply below_alloc | apply pw_below_drewN | apply below_drew1 | refine below_set ?_ (Aside0.out (by assumption))) | exact HB.out))) : w.heap.size ≤ gb451)); have n13_ := am (nbL (bkS BK407.out) hg); have n14_ := am (nbG (bkS BK407.out) hg); have n15_ := am (nbL (bkS BK418.out) hg); have n16_ := am (nbG (bkS BK418.out) hg); have n17_ := am (nbL (bkS BK423.out) hg); have n18_ := am (nbG (bkS BK423.out) hg); have n19_ := am (nbL (bkS BK429.out) hg); have n20_ := am (nbG (bkS BK429.out) hg); clear HO_419001; clear HO_424001; clear HO_430001; clear HO445; clear HO449; clear BK407; clear BK418; clear BK423; clear BK429; clear HB; have HO_419001 := n0_; have HO_424001 := n1_; have HO_430001 := n2_; have HO445 := n3_; have HO449 := n4_; have BK407 := n5_; have BK418 := n6_; have BK423 := n7_; have BK429 := n8_; have HB := n9_; have BK451 := n10_; have GW451 := n11_; have GE451 := n12_; have NB407_451 := n13_; have NB451_407 := n14_; have NB418_451 := n15_; have NB451_418 := n16_; have NB423_451 := n17_; have NB451_423 := n18_; have NB429_451 := n19_; have NB451_429 := n20_; clear n0_ n1_ n2_ n3_ n4_ n5_ n6_ n7_ n8_ n9_ n10_ n11_ n12_ n13_ n14_ n15_ n16_ n17_ n18_ n19_ n20_; clear hb hbox hg; have hnb111 := NB451_407.out; have hnc111 := NB407_451.out; have hnb112 := NB451_418.out; have hnc112 := NB418_451.out; have hnb113 := NB451_423.out; have hnc113 := NB423_451.out; have hnb114 := NB451_429.out; have hnc114 := NB429_451.out; have hcz115_0 : w110.cell? ⟨gb451, 0, none⟩ = some (.int .i64 0) := (blk_cell BK451.out 0).trans rfl; have hcz115_1 : w110.cell? ⟨gb451, 1, none⟩ = some (.slice none 0 0) := (blk_cell BK451.out 1).trans rfl; have hfz115_0 := blk_frozen BK451.out 0; have hfz115_1 := blk_frozen BK451.out 1; obtain ⟨Ao116, co116, eo116⟩ := Kd.R_slice HO449.out; subst eo116))
           (try simp only [Act.put, List.setIfInBounds_toArray, List.set_cons_zero, List.set_cons_succ])
           go_cut [87] (fun v87 wc => ∃ (kq : Nat) (x87_95 : Bool), v87 = .bool x87_95 ∧ Aside0 (laws_FnExactHarderPuzzle.j2 kq t439 x87_95 t424 t440 = some r) ∧ Aside0 (kq ≤ kj59) ∧ Aside0 (Kd.R k55 55 wc w.heap.size (fun k_ => some k_ ≠ ((.slice Ao29 t437.length co29) : Value).ownBlock ∧ some k_ ≠ ((.slice Ao36 t425.length co36) : Value).ownBlock ∧ some k_ ≠ ((.slice Ao116 t447.length co116) : Value).ownBlock) (.slice Ao22 t414.length co22) t414) ∧ Aside0 (Kd.R k55 55 wc w.heap.size (fun k_ => some k_ ≠ ((.slice Ao22 t414.length co22) : Value).ownBlock ∧ some k_ ≠ ((.slice Ao36 t425.length co36) : Value).ownBlock ∧ some k_ ≠ ((.slice Ao116 t447.length co116) : Value).ownBlock) (.slice Ao29 t437.length co29) t437) ∧ Aside0 (Kd.R k55 55 wc w.heap.size (fun k_ => some k_ ≠ ((.slice Ao22 t414.length co22) : Value).ownBlock ∧ some k_ ≠ ((.slice Ao29 t437.length co29) : Value).ownBlock ∧ some k_ ≠ ((.slice Ao116 t447.length co116) : Value).ownBlock) (.slice Ao36 t425.length co36) t440) ∧ Aside0 (Kd.R k55 55 wc w.heap.size (fun k_ => some k_ ≠ ((.slice Ao22 t414.length co22) : Value).ownBlock ∧ some k_ ≠ ((.slice Ao29 t437.length co29) : Value).ownBlock ∧ some k_ ≠ ((.slice Ao36 t425.length co36) : Value).ownBlock) (.slice Ao116 t447.length co116) t447) ∧ Aside0 (wc.heap[gb407]? = some (.cells #[.int .i64 a0_0, (.slice A0_1 l0_1.length c0_1)] 24 (0, 0))) ∧ Aside0 (wc.heap[gb418]? = some (.cells #[.int .i64 t413, (.slice Ao22 t414.length co22)] 31 (0, 0))) ∧ Aside0 (wc.heap[gb423]? = some (.cells #[.int .i64 t419, (.slice Ao29 t437.length co29)] 31 (0, 0))) ∧ Aside0 (wc.heap[gb429]? = some (.cells #[.int .i64 t424, (.slice Ao36 t425.length co36)] 31 (0, 0))) ∧ Aside0 (wc.heap[gb451]? = some (.cells #[.int .i64 t446, (.slice Ao116 t447.length co116)] 31 (0, 0))) ∧ Aside0 (Below w.heap.size w wc))
           case first =>
            have H := HC96.out
            clear HC96
            replace H := Option.bind_eq_some_iff.mp H
            obtain ⟨t452, A1170, H⟩ := H
            replace H : (if t452 = true then (laws_FnExactHarderPuzzle.j2 kj59 t439 (t450 != t417) t424 t440) else (laws_FnExactHarderPuzzle.j2 kj59 t439 true t424 t440)) = some r := H
            have A117 := am A1170
            clear A1170
            by_cases c118 : t452 = true
            ·subst c118
             have H1 : (laws_FnExactHarderPuzzle.j2 kj59 t439 (t450 != t417) t424 t440) = some r := by rw [if_pos rfl] at H; exact H
             clear H
             have H := H1
             clear H1
             have H' := am H
             clear H
             have hnb119 := NB451_407.out
             have hnc119 := NB407_451.out
             have hnb120 := NB451_418.out
             have hnc120 := NB418_451.out
             have hnb121 := NB451_423.out
             have hnc121 := NB423_451.out
             have hnb122 := NB451_429.out
             have hnc122 := NB429_451.out
             have hcz123_0 : w110.cell? ⟨gb451, 0, none⟩ = some (.int .i64 0) := (blk_cell BK451.out 0).trans rfl
             have hcz123_1 : w110.cell? ⟨gb451, 1, none⟩ = some (.slice none 0 0) := (blk_cell BK451.out 1).trans rfl
             have hfz123_0 := blk_frozen BK451.out 0
             have hfz123_1 := blk_frozen BK451.out 1
             have hnb124 := NB418_407.out
             have hnc124 := NB407_418.out
             have hnb125 := NB418_423.out
             have hnc125 := NB423_418.out
             have hnb126 := NB418_429.out
             have hnc126 := NB429_418.out
             have hcz127_0 : w110.cell? ⟨gb418, 0, none⟩ = some (.int .i64 t413) := (blk_cell BK418.out 0).trans rfl
             have hcz127_1 : w110.cell? ⟨gb418, 1, none⟩ = some (.slice Ao22 t414.length co22) := (blk_cell BK418.out 1).trans rfl
             have hfz127_0 := blk_frozen BK418.out 0
             have hfz127_1 := blk_frozen BK418.out 1
             go_wp2_with (first | ((with_reducible refine gate_callee (f := 10) rfl ?_); refine goesL_ (some 81) rfl rfl Try.func10 (by kernel_rfl) rfl #[.agg #[.int .i64 t446, .slice Ao116 t447.length co116], .agg #[.int .i64 t413, .slice Ao22 t414.length co22]] rfl (by (try simp only [List.map_toArray, List.map_cons, List.map_nil]); first | done | rfl | (simp only [List.length_drop, List.length_take]; rfl)) ?_; (with_reducible refine (laws_eqPuzzle.calls kj59 t446 _ _ t447 t413 _ _ t414 true _ ?side1 ?side2 ?side3 ?side4 A117.out).mono ?_); (case side1 => refine (Kd.R_reads' (e := 55) (base := w.heap.size) (ok := fun k_ => ((((True ∧ some k_ ≠ (.slice Ao22 t414.length co22 : Value).ownBlock) ∧ some k_ ≠ (.slice Ao29 t437.length co29 : Value).ownBlock) ∧ some k_ ≠ (.slice Ao36 t425.length co36 : Value).ownBlock) ∧ some k_ ≠ (.slice Ao108 t443.length co108 : Value).ownBlock)) (n := t447.length) (c := co116) ?_).2.2; exact (by (with_reducible repeat (first | apply Kd.R_alloc | apply Kd.R_drewN | apply Kd.R_drew)); exact (Kd.R_mono (Kd.R_far (p := ⟨gb451, 1, none⟩) (Kd.R_far (p := ⟨gb451, 0, none⟩) (Kd.R_types HO449.out BK451.out (by decide)) (fun _ hk => hk.2) (.int .i64 t446)) (fun _ hk => hk.2) (.slice Ao116 t447.length co116)) (fun _ h_ => h_.1)))); (case side2 => exact (Kd.R_reads' HO449.out).2.1); (case side3 => refine (Kd.R_reads' (e := 55) (base := w.heap.size) (ok := fun k_ => (((some k_ ≠ (.slice Ao29 t437.length co29 : Value).ownBlock ∧ some k_ ≠ (.slice Ao36 t425.length co36 : Value).ownBlock) ∧ some k_ ≠ (.slice Ao108 t443.length co108 : Value).ownBlock) ∧ some k_ ≠ (.slice Ao116 t447.length co116 : Value).ownBlock)) (n := t414.length) (c := co22) ?_).2.2; exact (by (with_reducible repeat (first | apply Kd.R_alloc | apply Kd.R_drewN | apply Kd.R_drew)); exact (Kd.R_mono (Kd.R_far (p := ⟨gb451, 1, none⟩) (Kd.R_far (p := ⟨gb451, 0, none⟩) (Kd.R_types HO_419001.out BK451.out (by decide)) (fun _ hk => hk.2) (.int .i64 t446)) (fun _ hk => hk.2) (.slice Ao116 t447.length co116)) (fun _ h_ => h_.1)))); (case side4 => exact (Kd.R_reads' HO_419001.out).2.1); rintro e w128 ⟨rfl, hb⟩; refine ⟨_, rfl, ?_⟩; have n0_ := am (Kd.R_below (by (with_reducible repeat (first | apply Kd.R_alloc | apply Kd.R_drewN | apply Kd.R_drew)); exact (Kd.R_mono (Kd.R_far (p := ⟨gb451, 1, none⟩) (Kd.R_far (p := ⟨gb451, 0, none⟩) (Kd.R_types HO_419001.out BK451.out (by decide)) (fun _ hk => hk.2) (.int .i64 t446)) (fun _ hk => hk.2) (.slice Ao116 t447.length co116)) (fun _ h_ => h_.1))) hb); have n1_ := am (Kd.R_below (by (with_reducible repeat (first | apply Kd.R_alloc | apply Kd.R_drewN | apply Kd.R_drew)); exact (Kd.R_mono (Kd.R_far (p := ⟨gb451, 1, none⟩) (Kd.R_far (p := ⟨gb451, 0, none⟩) (Kd.R_types HO_424001.out BK451.out (by decide)) (fun _ hk => hk.2) (.int .i64 t446)) (fun _ hk => hk.2) (.slice Ao116 t447.length co116)) (fun _ h_ => h_.1))) hb); have n2_ := am (Kd.R_below (by (with_reducible repeat (first | apply Kd.R_alloc | apply Kd.R_drewN | apply Kd.R_drew)); exact (Kd.R_mono (Kd.R_far (p := ⟨gb451, 1, none⟩) (Kd.R_far (p := ⟨gb451, 0, none⟩) (Kd.R_types HO_430001.out BK451.out (by decide)) (fun _ hk => hk.2) (.int .i64 t446)) (fun _ hk => hk.2) (.slice Ao116 t447.length co116)) (fun _ h_ => h_.1))) hb); have n3_ := am (Kd.R_below (by (with_reducible repeat (first | apply Kd.R_alloc | apply Kd.R_drewN | apply Kd.R_drew)); exact (Kd.R_mono (Kd.R_far (p := ⟨gb451, 1, none⟩) (Kd.R_far (p := ⟨gb451, 0, none⟩) (Kd.R_types HO445.out BK451.out (by decide)) (fun _ hk => hk.2) (.int .i64 t446)) (fun _ hk => hk.2) (.slice Ao116 t447.length co116)) (fun _ h_ => h_.1))) hb); have n4_ := am (Kd.R_below (by (with_reducible repeat (first | apply Kd.R_alloc | apply Kd.R_drewN | apply Kd.R_drew)); exact (Kd.R_mono (Kd.R_far (p := ⟨gb451, 1, none⟩) (Kd.R_far (p := ⟨gb451, 0, none⟩) (Kd.R_types HO449.out BK451.out (by decide)) (fun _ hk => hk.2) (.int .i64 t446)) (fun _ hk => hk.2) (.slice Ao116 t447.length co116)) (fun _ h_ => h_.1))) hb); have n5_ := am (blk_below (g := gb407) (o := .cells #[.int .i64 a0_0, .slice A0_1 l0_1.length c0_1] 24 (0, 0)) (by (with_reducible repeat (first | refine blk_drewN ?_ _ | refine blk_drew ?_ | refine blk_alloc ?_ _)); refine blk_far ?_ NB407_451.out _; (with_reducible repeat (first | refine blk_drewN ?_ _ | refine blk_drew ?_ | refine blk_alloc ?_ _)); refine blk_far ?_ NB407_451.out _; (with_reducible repeat (first | refine blk_drewN ?_ _ | refine blk_drew ?_ | refine blk_alloc ?_ _)); exact BK407.out) hb); have n6_ := am (blk_below (g := gb418) (o := .cells #[.int .i64 t413, .slice Ao22 t414.length co22] 31 (0, 0)) (by (with_reducible repeat (first | refine blk_drewN ?_ _ | refine blk_drew ?_ | refine blk_alloc ?_ _)); refine blk_far ?_ NB418_451.out _; (with_reducible repeat (first | refine blk_drewN ?_ _ | refine blk_drew ?_ | refine blk_alloc ?_ _)); refine blk_far ?_ NB418_451.out _; (with_reducible repeat (first | refine blk_drewN ?_ _ | refine blk_drew ?_ | refine blk_alloc ?_ _)); exact BK418.out) hb); have n7_ := am (blk_below (g := gb423) (o := .cells #[.int .i64 t419, .slice Ao29 t437.length co29] 31 (0, 0)) (by (with_reducible repeat (first | refine blk_drewN ?_ _ | refine blk_drew ?_ | refine blk_alloc ?_ _)); refine blk_far ?_ NB423_451.out _; (with_reducible repeat (first | refine blk_drewN ?_ _ | refine blk_drew ?_ | refine blk_alloc ?_ _)); refine blk_far ?_ NB423_451.out _; (with_reducible repeat (first | refine blk_drewN ?_ _ | refine blk_drew ?_ | refine blk_alloc ?_ _)); exact BK423.out) hb); have n8_ := am (blk_below (g := gb429) (o := .cells #[.int .i64 t424, .slice Ao36 t425.length co36] 31 (0, 0)) (by (with_reducible repeat (first | refine blk_drewN ?_ _ | refine blk_drew ?_ | refine blk_alloc ?_ _)); refine blk_far ?_ NB429_451.out _; (with_reducible repeat (first | refine blk_drewN ?_ _ | refine blk_drew ?_ | refine blk_alloc ?_ _)); refine blk_far ?_ NB429_451.out _; (with_reducible repeat (first | refine blk_drewN ?_ _ | refine blk_drew ?_ | refine blk_alloc ?_ _)); exact BK429.out) hb); have n9_ := am (blk_below (g := gb451) (o := .cells #[.int .i64 t446, .slice Ao116 t447.length co116] 31 (0, 0)) (by (with_reducible repeat (first | refine blk_drewN ?_ _ | refine blk_drew ?_ | refine blk_alloc ?_ _)); refine blk_put (cs := #[.int .i64 t446, .slice none 0 0]) ?_ 1 _ rfl; (with_reducible repeat (first | refine blk_drewN ?_ _ | refine blk_drew ?_ | refine blk_alloc ?_ _)); refine blk_put (cs := #[.int .i64 0, .slice none 0 0]) ?_ 0 _ rfl; (with_reducible repeat (first | refine blk_drewN ?_ _ | refine blk_drew ?_ | refine blk_alloc ?_ _)); exact BK451.out) hb); have n10_ := am (below_step (by repeat (first | (with_reducible first | exact HB.out | apply below_alloc | apply pw_below_drewN | apply below_drew1 | refine below_set ?_ (Aside0.out (by assumption))) | exact HB.out)) hb); clear HO_419001; clear HO_424001; clear HO_430001; clear HO445; clear HO449; clear BK407; clear BK418; clear BK423; clear BK429; clear BK451; clear HB; have HO_419001 := n0_; have HO_424001 := n1_; have HO_430001 := n2_; have HO445 := n3_; have HO449 := n4_; have BK407 := n5_; have BK418 := n6_; have BK423 := n7_; have BK429 := n8_; have BK451 := n9_; have HB := n10_; clear n0_ n1_ n2_ n3_ n4_ n5_ n6_ n7_ n8_ n9_ n10_; (try clear hb); (try clear hb2); (try clear hk); (try clear hi)))
             go_meet
             case rel => exact ⟨_, ((t450 != t417)), (by first | rfl | (simp; done) | (simp [*]; done)), H', ⟨by have := HJ10.out; have := HJ59.out; first | omega | exact Nat.le_refl _⟩, ⟨by (try simp only [hl424001_59]); (with_reducible repeat (first | apply Kd.R_alloc | apply Kd.R_drewN | apply Kd.R_drew)); exact Kd.R_mono HO_419001.out (fun _ hk => ⟨hk.1.1.1, ⟨hk.1.1.2, hk.2⟩⟩)⟩, ⟨by (try simp only [hl424001_59]); (with_reducible repeat (first | apply Kd.R_alloc | apply Kd.R_drewN | apply Kd.R_drew)); exact Kd.R_mono HO_424001.out (fun _ hk => ⟨hk.1.1.1, ⟨hk.1.1.2, hk.2⟩⟩)⟩, ⟨by (try simp only [hl424001_59]); (with_reducible repeat (first | apply Kd.R_alloc | apply Kd.R_drewN | apply Kd.R_drew)); exact Kd.R_mono HO_430001.out (fun _ hk => ⟨hk.1.1.1, ⟨hk.1.1.2, hk.2⟩⟩)⟩, ⟨by (try simp only [hl424001_59]); (with_reducible repeat (first | apply Kd.R_alloc | apply Kd.R_drewN | apply Kd.R_drew)); exact Kd.R_mono HO449.out (fun _ hk => ⟨hk.1.1.1.2, ⟨hk.1.1.2, hk.1.2⟩⟩)⟩, ⟨by (try simp only [hl424001_59]); (with_reducible repeat (first | refine blk_drewN ?_ _ | refine blk_drew ?_ | refine blk_alloc ?_ _)); exact BK407.out⟩, ⟨by (try simp only [hl424001_59]); (with_reducible repeat (first | refine blk_drewN ?_ _ | refine blk_drew ?_ | refine blk_alloc ?_ _)); exact BK418.out⟩, ⟨by (try simp only [hl424001_59]); (with_reducible repeat (first | refine blk_drewN ?_ _ | refine blk_drew ?_ | refine blk_alloc ?_ _)); exact BK423.out⟩, ⟨by (try simp only [hl424001_59]); (with_reducible repeat (first | refine blk_drewN ?_ _ | refine blk_drew ?_ | refine blk_alloc ?_ _)); exact BK429.out⟩, ⟨by (try simp only [hl424001_59]); (with_reducible repeat (first | refine blk_drewN ?_ _ | refine blk_drew ?_ | refine blk_alloc ?_ _)); exact BK451.out⟩, ⟨by repeat (first | (with_reducible first | exact HB.out | apply below_alloc | apply pw_below_drewN | apply below_drew1 | refine below_set ?_ (Aside0.out (by assumption))) | exact HB.out)⟩⟩
            ·replace c118 := Bool.eq_false_iff.mpr c118
             subst c118
             have H1 : (laws_FnExactHarderPuzzle.j2 kj59 t439 true t424 t440) = some r := by rw [if_neg (show ¬ (false = true) by decide)] at H; exact H
             clear H
             have H := H1
             clear H1
             have H' := am H
             clear H
             have hnb129 := NB451_407.out
             have hnc129 := NB407_451.out
             have hnb130 := NB451_418.out
             have hnc130 := NB418_451.out
             have hnb131 := NB451_423.out
             have hnc131 := NB423_451.out
             have hnb132 := NB451_429.out
             have hnc132 := NB429_451.out
             have hcz133_0 : w110.cell? ⟨gb451, 0, none⟩ = some (.int .i64 0) := (blk_cell BK451.out 0).trans rfl
             have hcz133_1 : w110.cell? ⟨gb451, 1, none⟩ = some (.slice none 0 0) := (blk_cell BK451.out 1).trans rfl
             have hfz133_0 := blk_frozen BK451.out 0
             have hfz133_1 := blk_frozen BK451.out 1
             have hnb134 := NB418_407.out
             have hnc134 := NB407_418.out
             have hnb135 := NB418_423.out
             have hnc135 := NB423_418.out
             have hnb136 := NB418_429.out
             have hnc136 := NB429_418.out
             have hcz137_0 : w110.cell? ⟨gb418, 0, none⟩ = some (.int .i64 t413) := (blk_cell BK418.out 0).trans rfl
             have hcz137_1 : w110.cell? ⟨gb418, 1, none⟩ = some (.slice Ao22 t414.length co22) := (blk_cell BK418.out 1).trans rfl
             have hfz137_0 := blk_frozen BK418.out 0
             have hfz137_1 := blk_frozen BK418.out 1
             go_wp2_with (first | ((with_reducible refine gate_callee (f := 10) rfl ?_); refine goesL_ (some 81) rfl rfl Try.func10 (by kernel_rfl) rfl #[.agg #[.int .i64 t446, .slice Ao116 t447.length co116], .agg #[.int .i64 t413, .slice Ao22 t414.length co22]] rfl (by (try simp only [List.map_toArray, List.map_cons, List.map_nil]); first | done | rfl | (simp only [List.length_drop, List.length_take]; rfl)) ?_; (with_reducible refine (laws_eqPuzzle.calls kj59 t446 _ _ t447 t413 _ _ t414 false _ ?side1 ?side2 ?side3 ?side4 A117.out).mono ?_); (case side1 => refine (Kd.R_reads' (e := 55) (base := w.heap.size) (ok := fun k_ => ((((True ∧ some k_ ≠ (.slice Ao22 t414.length co22 : Value).ownBlock) ∧ some k_ ≠ (.slice Ao29 t437.length co29 : Value).ownBlock) ∧ some k_ ≠ (.slice Ao36 t425.length co36 : Value).ownBlock) ∧ some k_ ≠ (.slice Ao108 t443.length co108 : Value).ownBlock)) (n := t447.length) (c := co116) ?_).2.2; exact (by (with_reducible repeat (first | apply Kd.R_alloc | apply Kd.R_drewN | apply Kd.R_drew)); exact (Kd.R_mono (Kd.R_far (p := ⟨gb451, 1, none⟩) (Kd.R_far (p := ⟨gb451, 0, none⟩) (Kd.R_types HO449.out BK451.out (by decide)) (fun _ hk => hk.2) (.int .i64 t446)) (fun _ hk => hk.2) (.slice Ao116 t447.length co116)) (fun _ h_ => h_.1)))); (case side2 => exact (Kd.R_reads' HO449.out).2.1); (case side3 => refine (Kd.R_reads' (e := 55) (base := w.heap.size) (ok := fun k_ => (((some k_ ≠ (.slice Ao29 t437.length co29 : Value).ownBlock ∧ some k_ ≠ (.slice Ao36 t425.length co36 : Value).ownBlock) ∧ some k_ ≠ (.slice Ao108 t443.length co108 : Value).ownBlock) ∧ some k_ ≠ (.slice Ao116 t447.length co116 : Value).ownBlock)) (n := t414.length) (c := co22) ?_).2.2; exact (by (with_reducible repeat (first | apply Kd.R_alloc | apply Kd.R_drewN | apply Kd.R_drew)); exact (Kd.R_mono (Kd.R_far (p := ⟨gb451, 1, none⟩) (Kd.R_far (p := ⟨gb451, 0, none⟩) (Kd.R_types HO_419001.out BK451.out (by decide)) (fun _ hk => hk.2) (.int .i64 t446)) (fun _ hk => hk.2) (.slice Ao116 t447.length co116)) (fun _ h_ => h_.1)))); (case side4 => exact (Kd.R_reads' HO_419001.out).2.1); rintro e w138 ⟨rfl, hb⟩; refine ⟨_, rfl, ?_⟩; have n0_ := am (Kd.R_below (by (with_reducible repeat (first | apply Kd.R_alloc | apply Kd.R_drewN | apply Kd.R_drew)); exact (Kd.R_mono (Kd.R_far (p := ⟨gb451, 1, none⟩) (Kd.R_far (p := ⟨gb451, 0, none⟩) (Kd.R_types HO_419001.out BK451.out (by decide)) (fun _ hk => hk.2) (.int .i64 t446)) (fun _ hk => hk.2) (.slice Ao116 t447.length co116)) (fun _ h_ => h_.1))) hb); have n1_ := am (Kd.R_below (by (with_reducible repeat (first | apply Kd.R_alloc | apply Kd.R_drewN | apply Kd.R_drew)); exact (Kd.R_mono (Kd.R_far (p := ⟨gb451, 1, none⟩) (Kd.R_far (p := ⟨gb451, 0, none⟩) (Kd.R_types HO_424001.out BK451.out (by decide)) (fun _ hk => hk.2) (.int .i64 t446)) (fun _ hk => hk.2) (.slice Ao116 t447.length co116)) (fun _ h_ => h_.1))) hb); have n2_ := am (Kd.R_below (by (with_reducible repeat (first | apply Kd.R_alloc | apply Kd.R_drewN | apply Kd.R_drew)); exact (Kd.R_mono (Kd.R_far (p := ⟨gb451, 1, none⟩) (Kd.R_far (p := ⟨gb451, 0, none⟩) (Kd.R_types HO_430001.out BK451.out (by decide)) (fun _ hk => hk.2) (.int .i64 t446)) (fun _ hk => hk.2) (.slice Ao116 t447.length co116)) (fun _ h_ => h_.1))) hb); have n3_ := am (Kd.R_below (by (with_reducible repeat (first | apply Kd.R_alloc | apply Kd.R_drewN | apply Kd.R_drew)); exact (Kd.R_mono (Kd.R_far (p := ⟨gb451, 1, none⟩) (Kd.R_far (p := ⟨gb451, 0, none⟩) (Kd.R_types HO445.out BK451.out (by decide)) (fun _ hk => hk.2) (.int .i64 t446)) (fun _ hk => hk.2) (.slice Ao116 t447.length co116)) (fun _ h_ => h_.1))) hb); have n4_ := am (Kd.R_below (by (with_reducible repeat (first | apply Kd.R_alloc | apply Kd.R_drewN | apply Kd.R_drew)); exact (Kd.R_mono (Kd.R_far (p := ⟨gb451, 1, none⟩) (Kd.R_far (p := ⟨gb451, 0, none⟩) (Kd.R_types HO449.out BK451.out (by decide)) (fun _ hk => hk.2) (.int .i64 t446)) (fun _ hk => hk.2) (.slice Ao116 t447.length co116)) (fun _ h_ => h_.1))) hb); have n5_ := am (blk_below (g := gb407) (o := .cells #[.int .i64 a0_0, .slice A0_1 l0_1.length c0_1] 24 (0, 0)) (by (with_reducible repeat (first | refine blk_drewN ?_ _ | refine blk_drew ?_ | refine blk_alloc ?_ _)); refine blk_far ?_ NB407_451.out _; (with_reducible repeat (first | refine blk_drewN ?_ _ | refine blk_drew ?_ | refine blk_alloc ?_ _)); refine blk_far ?_ NB407_451.out _; (with_reducible repeat (first | refine blk_drewN ?_ _ | refine blk_drew ?_ | refine blk_alloc ?_ _)); exact BK407.out) hb); have n6_ := am (blk_below (g := gb418) (o := .cells #[.int .i64 t413, .slice Ao22 t414.length co22] 31 (0, 0)) (by (with_reducible repeat (first | refine blk_drewN ?_ _ | refine blk_drew ?_ | refine blk_alloc ?_ _)); refine blk_far ?_ NB418_451.out _; (with_reducible repeat (first | refine blk_drewN ?_ _ | refine blk_drew ?_ | refine blk_alloc ?_ _)); refine blk_far ?_ NB418_451.out _; (with_reducible repeat (first | refine blk_drewN ?_ _ | refine blk_drew ?_ | refine blk_alloc ?_ _)); exact BK418.out) hb); have n7_ := am (blk_below (g := gb423) (o := .cells #[.int .i64 t419, .slice Ao29 t437.length co29] 31 (0, 0)) (by (with_reducible repeat (first | refine blk_drewN ?_ _ | refine blk_drew ?_ | refine blk_alloc ?_ _)); refine blk_far ?_ NB423_451.out _; (with_reducible repeat (first | refine blk_drewN ?_ _ | refine blk_drew ?_ | refine blk_alloc ?_ _)); refine blk_far ?_ NB423_451.out _; (with_reducible repeat (first | refine blk_drewN ?_ _ | refine blk_drew ?_ | refine blk_alloc ?_ _)); exact BK423.out) hb); have n8_ := am (blk_below (g := gb429) (o := .cells #[.int .i64 t424, .slice Ao36 t425.length co36] 31 (0, 0)) (by (with_reducible repeat (first | refine blk_drewN ?_ _ | refine blk_drew ?_ | refine blk_alloc ?_ _)); refine blk_far ?_ NB429_451.out _; (with_reducible repeat (first | refine blk_drewN ?_ _ | refine blk_drew ?_ | refine blk_alloc ?_ _)); refine blk_far ?_ NB429_451.out _; (with_reducible repeat (first | refine blk_drewN ?_ _ | refine blk_drew ?_ | refine blk_alloc ?_ _)); exact BK429.out) hb); have n9_ := am (blk_below (g := gb451) (o := .cells #[.int .i64 t446, .slice Ao116 t447.length co116] 31 (0, 0)) (by (with_reducible repeat (first | refine blk_drewN ?_ _ | refine blk_drew ?_ | refine blk_alloc ?_ _)); refine blk_put (cs := #[.int .i64 t446, .slice none 0 0]) ?_ 1 _ rfl; (with_reducible repeat (first | refine blk_drewN ?_ _ | refine blk_drew ?_ | refine blk_alloc ?_ _)); refine blk_put (cs := #[.int .i64 0, .slice none 0 0]) ?_ 0 _ rfl; (with_reducible repeat (first | refine blk_drewN ?_ _ | refine blk_drew ?_ | refine blk_alloc ?_ _)); exact BK451.out) hb); have n10_ := am (below_step (by repeat (first | (with_reducible first | exact HB.out | apply below_alloc | apply pw_below_drewN | apply below_drew1 | refine below_set ?_ (Aside0.out (by assumption))) | exact HB.out)) hb); clear HO_419001; clear HO_424001; clear HO_430001; clear HO445; clear HO449; clear BK407; clear BK418; clear BK423; clear BK429; clear BK451; clear HB; have HO_419001 := n0_; have HO_424001 := n1_; have HO_430001 := n2_; have HO445 := n3_; have HO449 := n4_; have BK407 := n5_; have BK418 := n6_; have BK423 := n7_; have BK429 := n8_; have BK451 := n9_; have HB := n10_; clear n0_ n1_ n2_ n3_ n4_ n5_ n6_ n7_ n8_ n9_ n10_; (try clear hb); (try clear hb2); (try clear hk); (try clear hi)))
             go_meet
             case rel => exact ⟨_, (true), (by first | rfl | (simp; done) | (simp [*]; done)), H', ⟨by have := HJ10.out; have := HJ59.out; first | omega | exact Nat.le_refl _⟩, ⟨by (try simp only [hl424001_59]); (with_reducible repeat (first | apply Kd.R_alloc | apply Kd.R_drewN | apply Kd.R_drew)); exact Kd.R_mono HO_419001.out (fun _ hk => ⟨hk.1.1.1, ⟨hk.1.1.2, hk.2⟩⟩)⟩, ⟨by (try simp only [hl424001_59]); (with_reducible repeat (first | apply Kd.R_alloc | apply Kd.R_drewN | apply Kd.R_drew)); exact Kd.R_mono HO_424001.out (fun _ hk => ⟨hk.1.1.1, ⟨hk.1.1.2, hk.2⟩⟩)⟩, ⟨by (try simp only [hl424001_59]); (with_reducible repeat (first | apply Kd.R_alloc | apply Kd.R_drewN | apply Kd.R_drew)); exact Kd.R_mono HO_430001.out (fun _ hk => ⟨hk.1.1.1, ⟨hk.1.1.2, hk.2⟩⟩)⟩, ⟨by (try simp only [hl424001_59]); (with_reducible repeat (first | apply Kd.R_alloc | apply Kd.R_drewN | apply Kd.R_drew)); exact Kd.R_mono HO449.out (fun _ hk => ⟨hk.1.1.1.2, ⟨hk.1.1.2, hk.1.2⟩⟩)⟩, ⟨by (try simp only [hl424001_59]); (with_reducible repeat (first | refine blk_drewN ?_ _ | refine blk_drew ?_ | refine blk_alloc ?_ _)); exact BK407.out⟩, ⟨by (try simp only [hl424001_59]); (with_reducible repeat (first | refine blk_drewN ?_ _ | refine blk_drew ?_ | refine blk_alloc ?_ _)); exact BK418.out⟩, ⟨by (try simp only [hl424001_59]); (with_reducible repeat (first | refine blk_drewN ?_ _ | refine blk_drew ?_ | refine blk_alloc ?_ _)); exact BK423.out⟩, ⟨by (try simp only [hl424001_59]); (with_reducible repeat (first | refine blk_drewN ?_ _ | refine blk_drew ?_ | refine blk_alloc ?_ _)); exact BK429.out⟩, ⟨by (try simp only [hl424001_59]); (with_reducible repeat (first | refine blk_drewN ?_ _ | refine blk_drew ?_ | refine blk_alloc ?_ _)); exact BK451.out⟩, ⟨by repeat (first | (with_reducible first | exact HB.out | apply below_alloc | apply pw_below_drewN | apply below_drew1 | refine below_set ?_ (Aside0.out (by assumption))) | exact HB.out)⟩⟩
           case rest =>
            clear HC96
            try clear c1
            try clear c2
            try clear p2
            try clear c3
            try clear c3b0
            try clear c4
            try clear c5
            try clear c6
            try clear c7
            try clear c8
            try clear c9
            try clear c10
            try clear c11
            try clear c12
            try clear c13
            try clear c14
            try clear c15
            try clear c16
            try clear c20
            try clear c26
            try clear c27
            try clear c32
            try clear c33
            try clear c34
            try clear c38
            try clear c39
            try clear c40
            try clear c41
            try clear c43
            try clear c44
            try clear c47
            try clear c48
            try clear c49
            try clear c51
            try clear c52
            try clear c55
            try clear c58
            try clear c65
            try clear c66
            try clear c67
            try clear c70
            try clear c70b0
            try clear c72
            try clear c73
            try clear c74
            try clear c75
            try clear c77
            try clear c78
            try clear c81
            try clear c82
            try clear c83
            try clear c85
            try clear c86
            try clear c89
            try clear c92
            try clear c92b0
            try clear c93
            try clear c93b0
            try clear c93b1
            try clear c97
            try clear c98
            try clear c99
            try clear c104
            try clear c105
            try clear c111
            try clear c112
            try clear c113
            try clear c114
            try clear c118
            try clear c119
            try clear c120
            try clear c121
            try clear c122
            try clear c124
            try clear c125
            try clear c126
            try clear c129
            try clear c130
            try clear c131
            try clear c132
            try clear c134
            try clear c135
            try clear c136
            try clear hcz100_0
            try clear hcz100_1
            try clear hcz102_0
            try clear hcz102_1
            try clear hcz106_0
            try clear hcz106_1
            try clear hcz115_0
            try clear hcz115_1
            try clear hcz123_0
            try clear hcz123_1
            try clear hcz127_0
            try clear hcz127_1
            try clear hcz133_0
            try clear hcz133_1
            try clear hcz137_0
            try clear hcz137_1
            try clear hcz13_0
            try clear hcz13_1
            try clear hcz15_0
            try clear hcz15_1
            try clear hcz21_0
            try clear hcz21_1
            try clear hcz23_0
            try clear hcz23_1
            try clear hcz28_0
            try clear hcz28_1
            try clear hcz35_0
            try clear hcz35_1
            try clear hcz42_0
            try clear hcz42_1
            try clear hcz45_0
            try clear hcz45_1
            try clear hcz50_0
            try clear hcz50_1
            try clear hcz53_0
            try clear hcz53_1
            try clear hcz5_0
            try clear hcz5_1
            try clear hcz68_0
            try clear hcz68_1
            try clear hcz76_0
            try clear hcz76_1
            try clear hcz79_0
            try clear hcz79_1
            try clear hcz84_0
            try clear hcz84_1
            try clear hcz87_0
            try clear hcz87_1
            try clear hfz100_0
            try clear hfz100_1
            try clear hfz102_0
            try clear hfz102_1
            try clear hfz106_0
            try clear hfz106_1
            try clear hfz115_0
            try clear hfz115_1
            try clear hfz123_0
            try clear hfz123_1
            try clear hfz127_0
            try clear hfz127_1
            try clear hfz133_0
            try clear hfz133_1
            try clear hfz137_0
            try clear hfz137_1
            try clear hfz13_0
            try clear hfz13_1
            try clear hfz15_0
            try clear hfz15_1
            try clear hfz21_0
            try clear hfz21_1
            try clear hfz23_0
            try clear hfz23_1
            try clear hfz28_0
            try clear hfz28_1
            try clear hfz35_0
            try clear hfz35_1
            try clear hfz42_0
            try clear hfz42_1
            try clear hfz45_0
            try clear hfz45_1
            try clear hfz50_0
            try clear hfz50_1
            try clear hfz53_0
            try clear hfz53_1
            try clear hfz5_0
            try clear hfz5_1
            try clear hfz68_0
            try clear hfz68_1
            try clear hfz76_0
            try clear hfz76_1
            try clear hfz79_0
            try clear hfz79_1
            try clear hfz84_0
            try clear hfz84_1
            try clear hfz87_0
            try clear hfz87_1
            try clear p2
            obtain ⟨kq, x87_95, rfl, HA, HJ95, HO_419001, HO_424001, HO_430001, HO_452001, BK407, BK418, BK423, BK429, BK451, HB⟩ := hcut
            have hl430001_95 := (Kd.R_reads' HO_430001.out).1
            rw [hl430001_95] at HO_430001
            (try simp only [hl430001_95])
            (try simp only [hl430001_95] at BK407)
            (try simp only [hl430001_95] at BK418)
            (try simp only [hl430001_95] at BK423)
            (try simp only [hl430001_95] at BK429)
            (try simp only [hl430001_95] at BK451)
            (try simp only [hl430001_95] at HO_419001)
            (try simp only [hl430001_95] at HO_424001)
            (try simp only [hl430001_95] at HO_452001)
            cases kq with
            | zero => exact absurd HA.out (by simp [laws_FnExactHarderPuzzle.j2])
            | succ kj95 =>
             have H := HA.out
             clear HA
             simp only [laws_FnExactHarderPuzzle.j2] at H
             by_cases c139 : x87_95 = true
             ·subst c139
              have H1 : (none) = some r := by rw [if_pos rfl] at H; exact H
              clear H
              have H := H1
              clear H1
              exact absurd H (by simp)
             ·replace c139 := Bool.eq_false_iff.mpr c139
              subst c139
              have H1 : ((laws_heldPuzzle.f kj95 t424 t440 1).bind fun t453 => (if t453 < 0 then (none) else (if t453 = t439 then (some true) else (none)))) = some r := by rw [if_neg (show ¬ (false = true) by decide)] at H; exact H
              clear H
              have H := H1
              clear H1
              replace H := Option.bind_eq_some_iff.mp H
              obtain ⟨t453, A1400, H⟩ := H
              replace H : (if t453 < 0 then (none) else (if t453 = t439 then (some true) else (none))) = some r := H
              have A140 := am A1400
              clear A1400
              by_cases c141 : t453 < 0
              ·rw [if_pos c141] at H
               exact absurd H (by simp)
              ·rw [if_neg c141] at H
               have c141b0 : decide (t453 < 0) = false := decide_eq_false c141
               clear c141
               by_cases c142 : t453 = t439
               ·rw [if_pos c142] at H
                have c142b0 : (t453 == t439) = true := beq_iff_eq.mpr c142
                have c142b1 : (t453 != t439) = false := bne_eq_false_iff_eq.mpr c142
                clear c142
                obtain rfl := Option.some.inj H
                have hnb143 := NB429_407.out
                have hnc143 := NB407_429.out
                have hnb144 := NB429_418.out
                have hnc144 := NB418_429.out
                have hnb145 := NB429_423.out
                have hnc145 := NB423_429.out
                have hnb146 := NB429_451.out
                have hnc146 := NB451_429.out
                have hcz147_0 : wc.cell? ⟨gb429, 0, none⟩ = some (.int .i64 t424) := (blk_cell BK429.out 0).trans rfl
                have hcz147_1 : wc.cell? ⟨gb429, 1, none⟩ = some (.slice Ao36 t440.length co36) := (blk_cell BK429.out 1).trans rfl
                have hfz147_0 := blk_frozen BK429.out 0
                have hfz147_1 := blk_frozen BK429.out 1
                go_wp2_with (first | ((with_reducible refine gate_callee (f := 16) rfl ?_); refine goesL_ (some 90) rfl rfl Try.func16 (by kernel_rfl) rfl #[.agg #[.int .i64 t424, .slice Ao36 t440.length co36], .int .i64 1] rfl (by (try simp only [List.map_toArray, List.map_cons, List.map_nil]); first | done | rfl | (simp only [List.length_drop, List.length_take]; rfl)) ?_; (with_reducible refine (laws_heldPuzzle.calls kj95 t424 _ _ t440 1 t453 _ ?side1 ?side2 A140.out).mono ?_); (case side1 => repeat (first | exact (Kd.R_reads' HO_430001.out).2.2 | (with_reducible refine Kd.C_alloc ?_ _) | (with_reducible refine Kd.C_drewN ?_ _) | (with_reducible refine Kd.C_drew ?_))); (case side2 => exact (Kd.R_reads' HO_430001.out).2.1); rintro e w148 ⟨rfl, hb⟩; refine ⟨_, rfl, ?_⟩; have n0_ := am (Kd.R_below (roS HO_419001.out) hb); have n1_ := am (Kd.R_below (roS HO_424001.out) hb); have n2_ := am (Kd.R_below (roS HO_430001.out) hb); have n3_ := am (Kd.R_below (roS HO_452001.out) hb); have n4_ := am (blk_below (bkS BK407.out) hb); have n5_ := am (blk_below (bkS BK418.out) hb); have n6_ := am (blk_below (bkS BK423.out) hb); have n7_ := am (blk_below (bkS BK429.out) hb); have n8_ := am (blk_below (bkS BK451.out) hb); have n9_ := am (below_step (by repeat (first | (with_reducible first | exact HB.out | apply below_alloc | apply pw_below_drewN | apply below_drew1 | refine below_set ?_ (Aside0.out (by assumption))) | exact HB.out)) hb); clear HO_419001; clear HO_424001; clear HO_430001; clear HO_452001; clear BK407; clear BK418; clear BK423; clear BK429; clear BK451; clear HB; have HO_419001 := n0_; have HO_424001 := n1_; have HO_430001 := n2_; have HO_452001 := n3_; have BK407 := n4_; have BK418 := n5_; have BK423 := n6_; have BK429 := n7_; have BK451 := n8_; have HB := n9_; clear n0_ n1_ n2_ n3_ n4_ n5_ n6_ n7_ n8_ n9_; (try clear hb); (try clear hb2); (try clear hk); (try clear hi)))
                go_ret
                exact ⟨by first | rfl | (simp [errW_none, errW_some] <;> rfl) | (simp [*, errW_none, errW_some] <;> rfl), by repeat (first | (with_reducible first | exact HB.out | apply below_alloc | apply pw_below_drewN | apply below_drew1 | refine below_set ?_ (Aside0.out (by assumption))) | exact HB.out)⟩
               ·rw [if_neg c142] at H
                exact absurd H (by simp)
          ·rw [if_neg c93] at H
           exact absurd H (by simp)
     ·replace c58 := Bool.eq_false_iff.mpr c58
      subst c58
      have H1 : (none) = some r := by rw [if_neg (show ¬ (false = true) by decide)] at H; exact H
      clear H
      have H := H1
      clear H1
      exact absurd H (by simp)
end Go.Proofs.Yticmboabiemniaa.X
end
