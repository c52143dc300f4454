import Derived.Test.YtncdecmcdlfmmaaDoorP5
import Derived.Test.YtncdecmcdlfmmaaDoorP6
import Derived.Test.YtncdecmcdlfmmaaDoorP7
import Derived.Test.YtncdecmcdlfmmaaDoorP8
import Derived.Test.YtncdecmcdlfmmaaDoorP9
import Derived.Test.YtncdecmcdlfmmaaDoorP10
import Derived.Test.YtncdecmcdlfmmaaDoorP11
import Derived.Test.YtncdecmcdlfmmaaDoorP12
section
-- Written by a program of this session (wip/tools/mp.py) over the kit's print of the translation.
namespace Go.Proofs.YtncdecmcdlfmmaaDoor.X
open Go.Proofs.YtncdecmcdlfmmaaDoor.Sq Go.RowKit Go.Proofs.YtncdecmcdlfmmaaDoorW.PrintWords Go.Proofs.YtncdecmcdlfmmaaDoorW.PrintLast Go.Proofs.YtncdecmcdlfmmaaDoorW.PrintMore
attribute [local go_sem] max2_int min2_int max_two min_two max_three min_three max_four min_four   -- for this text's walks alone
set_option linter.unusedVariables false
set_option linter.unusedSimpArgs false
/-! ### laws_FnExactIsDesk: function 3 -/
def laws_FnExactIsDesk.f (k : Nat) (a0_0 : ByteArray) (a0_1 : ByteArray) (a0_2 : Int) (l0_3 : List (S77)) (l0_4 : List Int) : Option (Bool) := (laws_szDesk.f a0_0 a0_1 a0_2 l0_3 l0_4 1048576).bind fun t198 => (if t198 < 0 then (some true) else ((laws_toDesk.f k a0_0 a0_1 a0_2 l0_3 l0_4).bind fun bt199 => ((spec_IsDesk.f k bt199.1 bt199.2.1 bt199.2.2.1 bt199.2.2.2.1 bt199.2.2.2.2).bind fun t208 => ((laws_toDesk.f k a0_0 a0_1 a0_2 l0_3 l0_4).bind fun bt209 => ((impl_IsDesk.f k bt209.1 bt209.2.1 bt209.2.2.1 bt209.2.2.2.1 bt209.2.2.2.2).bind fun t219 => (if (t219 != t208) = true then (none) else ((laws_toDesk.f k a0_0 a0_1 a0_2 l0_3 l0_4).bind fun bt220 => ((laws_eqDesk.f k bt209.1 bt209.2.1 bt209.2.2.1 bt209.2.2.2.1 bt209.2.2.2.2 bt220.1 bt220.2.1 bt220.2.2.1 bt220.2.2.2.1 bt220.2.2.2.2).bind fun t229 => (if t229 = true then (some true) else (none))))))))))
set_option maxHeartbeats 8000000 in
set_option maxRecDepth 100000 in
theorem laws_FnExactIsDesk.calls (k : Nat) (a0_0 : ByteArray) (a0_1 : ByteArray) (a0_2 : Int) (A0_3 : Option Addr) (c0_3 : Nat) (l0_3 : List (S77)) (A0_4 : Option Addr) (c0_4 : Nat) (l0_4 : List Int) (r : Bool) (w : World) (hr0_3 : Kd.C k77 w A0_3 l0_3.length l0_3) (hc0_3 : l0_3.length ≤ c0_3) (hr0_4 : Kd.C (Kd.int .i64) w A0_4 l0_4.length l0_4) (hc0_4 : l0_4.length ≤ c0_4) (h : laws_FnExactIsDesk.f k a0_0 a0_1 a0_2 l0_3 l0_4 = some r) :
  Calls Tryd.prog 3 #[.agg #[.string a0_0, .string a0_1, .int .i64 a0_2, .slice A0_3 l0_3.length c0_3, .slice A0_4 l0_4.length c0_4]] w fun e w' => e = .returned (.bool r) ∧ Below w.heap.size w w' := by
 have hu27 := Tryd.underlying27
 have hu34 := Tryd.underlying34
 have HR0_3 := am hr0_3
 have HC0_3 := am hc0_3
 clear hr0_3 hc0_3
 have HR0_4 := am hr0_4
 have HC0_4 := am hc0_4
 clear hr0_4 hc0_4
 have HB := am (Below.refl w.heap.size w)
 have H : ((laws_szDesk.f a0_0 a0_1 a0_2 l0_3 l0_4 1048576).bind fun t198 => (if t198 < 0 then (some true) else ((laws_toDesk.f k a0_0 a0_1 a0_2 l0_3 l0_4).bind fun bt199 => ((spec_IsDesk.f k bt199.1 bt199.2.1 bt199.2.2.1 bt199.2.2.2.1 bt199.2.2.2.2).bind fun t208 => ((laws_toDesk.f k a0_0 a0_1 a0_2 l0_3 l0_4).bind fun bt209 => ((impl_IsDesk.f k bt209.1 bt209.2.1 bt209.2.2.1 bt209.2.2.2.1 bt209.2.2.2.2).bind fun t219 => (if (t219 != t208) = true then (none) else ((laws_toDesk.f k a0_0 a0_1 a0_2 l0_3 l0_4).bind fun bt220 => ((laws_eqDesk.f k bt209.1 bt209.2.1 bt209.2.2.1 bt209.2.2.2.1 bt209.2.2.2.2 bt220.1 bt220.2.1 bt220.2.2.1 bt220.2.2.2.1 bt220.2.2.2.2).bind fun t229 => (if t229 = true then (some true) else (none))))))))))) = some r := h
 clear h
 replace H := Option.bind_eq_some_iff.mp H
 obtain ⟨t198, A20, H⟩ := H
 replace H : (if t198 < 0 then (some true) else ((laws_toDesk.f k a0_0 a0_1 a0_2 l0_3 l0_4).bind fun bt199 => ((spec_IsDesk.f k bt199.1 bt199.2.1 bt199.2.2.1 bt199.2.2.2.1 bt199.2.2.2.2).bind fun t208 => ((laws_toDesk.f k a0_0 a0_1 a0_2 l0_3 l0_4).bind fun bt209 => ((impl_IsDesk.f k bt209.1 bt209.2.1 bt209.2.2.1 bt209.2.2.2.1 bt209.2.2.2.2).bind fun t219 => (if (t219 != t208) = true then (none) else ((laws_toDesk.f k a0_0 a0_1 a0_2 l0_3 l0_4).bind fun bt220 => ((laws_eqDesk.f k bt209.1 bt209.2.1 bt209.2.2.1 bt209.2.2.2.1 bt209.2.2.2.2 bt220.1 bt220.2.1 bt220.2.2.1 bt220.2.2.2.1 bt220.2.2.2.2).bind fun t229 => (if t229 = true then (some true) else (none)))))))))) = some r := H
 have A2 := am A20
 clear A20
 by_cases c3 : t198 < 0
 ·rw [if_pos c3] at H
  have c3b0 : decide (t198 < 0) = true := decide_eq_true c3
  clear c3
  obtain rfl := Option.some.inj H
  go_enter Tryd.func3, Tryd.ntmps3
  go_wp2_with (first | ((with_reducible refine gate_dst (N := 1) rfl ?_); refine box_event ?hg (N := 1) ?hd (cs := #[.string a0_0, .string a0_1, .int .i64 a0_2, .slice A0_3 l0_3.length c0_3, .slice A0_4 l0_4.length c0_4]) (t := 27) ?hr ?_; (case hd => rfl); (case hg => rfl); (case hr => first | (go_simp; done) | (go_simp; rfl)); intro gb197 hg w4 hbox hb; have n0_ := am (below_step (hbS HB.out) hb); have n1_ := am (hbox); have n2_ := am (gwL (hbS HB.out) hg); have n3_ := n2_; clear HB; have HB := n0_; have BK197 := n1_; have GW197 := n2_; have GE197 := n3_; clear n0_ n1_ n2_ n3_; clear hb hbox hg; have hcz5_0 : w4.cell? ⟨gb197, 0, none⟩ = some (.string a0_0) := (blk_cell BK197.out 0).trans rfl; have hcz5_1 : w4.cell? ⟨gb197, 1, none⟩ = some (.string a0_1) := (blk_cell BK197.out 1).trans rfl; have hcz5_2 : w4.cell? ⟨gb197, 2, none⟩ = some (.int .i64 a0_2) := (blk_cell BK197.out 2).trans rfl; have hcz5_3 : w4.cell? ⟨gb197, 3, none⟩ = some (.slice A0_3 l0_3.length c0_3) := (blk_cell BK197.out 3).trans rfl; have hcz5_4 : w4.cell? ⟨gb197, 4, none⟩ = some (.slice A0_4 l0_4.length c0_4) := (blk_cell BK197.out 4).trans rfl; have hfz5_0 := blk_frozen BK197.out 0; have hfz5_1 := blk_frozen BK197.out 1; have hfz5_2 := blk_frozen BK197.out 2; have hfz5_3 := blk_frozen BK197.out 3; have hfz5_4 := blk_frozen BK197.out 4) | ((with_reducible refine gate_callee (f := 5) rfl ?_); refine goesL_ (some 9) rfl rfl Tryd.func5 (by kernel_rfl) rfl #[.agg #[.string a0_0, .string a0_1, .int .i64 a0_2, .slice A0_3 l0_3.length c0_3, .slice A0_4 l0_4.length c0_4], .int .i64 1048576] rfl (by (try simp only [List.map_toArray, List.map_cons, List.map_nil]); first | done | rfl | (simp only [List.length_drop, List.length_take]; rfl)) ?_; (with_reducible refine (laws_szDesk.calls a0_0 a0_1 a0_2 _ _ l0_3 _ _ l0_4 1048576 t198 _ ?side1 ?side2 ?side3 ?side4 A2.out).mono ?_); (case side1 => repeat (first | exact (Kd.C_below HR0_3.out HB.out) | (with_reducible refine Kd.C_alloc ?_ _) | (with_reducible refine Kd.C_drewN ?_ _) | (with_reducible refine Kd.C_drew ?_))); (case side2 => exact HC0_3.out); (case side3 => repeat (first | exact (Kd.C_below HR0_4.out HB.out) | (with_reducible refine Kd.C_alloc ?_ _) | (with_reducible refine Kd.C_drewN ?_ _) | (with_reducible refine Kd.C_drew ?_))); (case side4 => exact HC0_4.out); rintro e w6 ⟨rfl, hb⟩; refine ⟨_, rfl, ?_⟩; have n0_ := am (blk_below (bkS BK197.out) hb); have n1_ := am (below_step (by repeat (first | (with_reducible first | exact HB.out | apply below_alloc | apply pw_below_drewN | apply below_drew1 | refine below_set ?_ GE197.out) | exact HB.out)) hb); clear BK197; clear HB; have BK197 := n0_; have HB := n1_; clear n0_ n1_; (try clear hb); (try clear hb2); (try clear hk); (try clear hi)))
  go_ret
  exact ⟨by first | rfl | (simp [errW_none, errW_some] <;> rfl) | (simp [*, errW_none, errW_some] <;> rfl), by repeat (first | (with_reducible first | exact HB.out | apply below_alloc | apply pw_below_drewN | apply below_drew1 | refine below_set ?_ GE197.out) | exact HB.out)⟩
 ·rw [if_neg c3] at H
  have c3b0 : decide (t198 < 0) = false := decide_eq_false c3
  clear c3
  replace H := Option.bind_eq_some_iff.mp H
  obtain ⟨⟨t199, t200, t201, t202, t205⟩, A70, H⟩ := H
  replace H : ((spec_IsDesk.f k t199 t200 t201 t202 t205).bind fun t208 => ((laws_toDesk.f k a0_0 a0_1 a0_2 l0_3 l0_4).bind fun bt209 => ((impl_IsDesk.f k bt209.1 bt209.2.1 bt209.2.2.1 bt209.2.2.2.1 bt209.2.2.2.2).bind fun t219 => (if (t219 != t208) = true then (none) else ((laws_toDesk.f k a0_0 a0_1 a0_2 l0_3 l0_4).bind fun bt220 => ((laws_eqDesk.f k bt209.1 bt209.2.1 bt209.2.2.1 bt209.2.2.2.1 bt209.2.2.2.2 bt220.1 bt220.2.1 bt220.2.2.1 bt220.2.2.2.1 bt220.2.2.2.2).bind fun t229 => (if t229 = true then (some true) else (none)))))))) = some r := H
  have A7 := am A70
  clear A70
  replace H := Option.bind_eq_some_iff.mp H
  obtain ⟨t208, A80, H⟩ := H
  replace H : ((laws_toDesk.f k a0_0 a0_1 a0_2 l0_3 l0_4).bind fun bt209 => ((impl_IsDesk.f k bt209.1 bt209.2.1 bt209.2.2.1 bt209.2.2.2.1 bt209.2.2.2.2).bind fun t219 => (if (t219 != t208) = true then (none) else ((laws_toDesk.f k a0_0 a0_1 a0_2 l0_3 l0_4).bind fun bt220 => ((laws_eqDesk.f k bt209.1 bt209.2.1 bt209.2.2.1 bt209.2.2.2.1 bt209.2.2.2.2 bt220.1 bt220.2.1 bt220.2.2.1 bt220.2.2.2.1 bt220.2.2.2.2).bind fun t229 => (if t229 = true then (some true) else (none))))))) = some r := H
  have A8 := am A80
  clear A80
  replace H := Option.bind_eq_some_iff.mp H
  obtain ⟨⟨t209, t210, t211, t212, t215⟩, A90, H⟩ := H
  replace H : ((impl_IsDesk.f k t209 t210 t211 t212 t215).bind fun t219 => (if (t219 != t208) = true then (none) else ((laws_toDesk.f k a0_0 a0_1 a0_2 l0_3 l0_4).bind fun bt220 => ((laws_eqDesk.f k t209 t210 t211 t212 t215 bt220.1 bt220.2.1 bt220.2.2.1 bt220.2.2.2.1 bt220.2.2.2.2).bind fun t229 => (if t229 = true then (some true) else (none)))))) = some r := H
  have A9 := am A90
  clear A90
  replace H := Option.bind_eq_some_iff.mp H
  obtain ⟨t219, A100, H⟩ := H
  replace H : (if (t219 != t208) = true then (none) else ((laws_toDesk.f k a0_0 a0_1 a0_2 l0_3 l0_4).bind fun bt220 => ((laws_eqDesk.f k t209 t210 t211 t212 t215 bt220.1 bt220.2.1 bt220.2.2.1 bt220.2.2.2.1 bt220.2.2.2.2).bind fun t229 => (if t229 = true then (some true) else (none))))) = some r := H
  have A10 := am A100
  clear A100
  by_cases c11 : (t219 != t208) = true
  ·rw [if_pos c11] at H
   exact absurd H (by simp)
  ·rw [if_neg c11] at H
   have c11b0 : (t219 != t208) = false := by simpa using c11
   (try (have c11b1 : decide (t219 = t208) = true := by simpa using c11))
   (try (have c11b2 : (t219 == t208) = true := by simpa using c11))
   clear c11
   replace H := Option.bind_eq_some_iff.mp H
   obtain ⟨⟨t220, t221, t222, t223, t226⟩, A120, H⟩ := H
   replace H : ((laws_eqDesk.f k t209 t210 t211 t212 t215 t220 t221 t222 t223 t226).bind fun t229 => (if t229 = true then (some true) else (none))) = some r := H
   have A12 := am A120
   clear A120
   replace H := Option.bind_eq_some_iff.mp H
   obtain ⟨t229, A130, H⟩ := H
   replace H : (if t229 = true then (some true) else (none)) = some r := H
   have A13 := am A130
   clear A130
   by_cases c14 : t229 = true
   ·subst c14
    have H1 : (some true) = some r := by rw [if_pos rfl] at H; exact H
    clear H
    have H := H1
    clear H1
    obtain rfl := Option.some.inj H
    go_enter Tryd.func3, Tryd.ntmps3
    try go_wp2_with (first | ((with_reducible refine gate_dst (N := 1) rfl ?_); refine box_event ?hg (N := 1) ?hd (cs := #[.string a0_0, .string a0_1, .int .i64 a0_2, .slice A0_3 l0_3.length c0_3, .slice A0_4 l0_4.length c0_4]) (t := 27) ?hr ?_; (case hd => rfl); (case hg => rfl); (case hr => first | (go_simp; done) | (go_simp; rfl)); intro gb197 hg w15 hbox hb; have n0_ := am (below_step (hbS HB.out) hb); have n1_ := am (hbox); have n2_ := am (gwL (hbS HB.out) hg); have n3_ := n2_; clear HB; have HB := n0_; have BK197 := n1_; have GW197 := n2_; have GE197 := n3_; clear n0_ n1_ n2_ n3_; clear hb hbox hg; have hcz16_0 : w15.cell? ⟨gb197, 0, none⟩ = some (.string a0_0) := (blk_cell BK197.out 0).trans rfl; have hcz16_1 : w15.cell? ⟨gb197, 1, none⟩ = some (.string a0_1) := (blk_cell BK197.out 1).trans rfl; have hcz16_2 : w15.cell? ⟨gb197, 2, none⟩ = some (.int .i64 a0_2) := (blk_cell BK197.out 2).trans rfl; have hcz16_3 : w15.cell? ⟨gb197, 3, none⟩ = some (.slice A0_3 l0_3.length c0_3) := (blk_cell BK197.out 3).trans rfl; have hcz16_4 : w15.cell? ⟨gb197, 4, none⟩ = some (.slice A0_4 l0_4.length c0_4) := (blk_cell BK197.out 4).trans rfl; have hfz16_0 := blk_frozen BK197.out 0; have hfz16_1 := blk_frozen BK197.out 1; have hfz16_2 := blk_frozen BK197.out 2; have hfz16_3 := blk_frozen BK197.out 3; have hfz16_4 := blk_frozen BK197.out 4) | ((with_reducible refine gate_callee (f := 5) rfl ?_); refine goesL_ (some 9) rfl rfl Tryd.func5 (by kernel_rfl) rfl #[.agg #[.string a0_0, .string a0_1, .int .i64 a0_2, .slice A0_3 l0_3.length c0_3, .slice A0_4 l0_4.length c0_4], .int .i64 1048576] rfl (by (try simp only [List.map_toArray, List.map_cons, List.map_nil]); first | done | rfl | (simp only [List.length_drop, List.length_take]; rfl)) ?_; (with_reducible refine (laws_szDesk.calls a0_0 a0_1 a0_2 _ _ l0_3 _ _ l0_4 1048576 t198 _ ?side1 ?side2 ?side3 ?side4 A2.out).mono ?_); (case side1 => repeat (first | exact (Kd.C_below HR0_3.out HB.out) | (with_reducible refine Kd.C_alloc ?_ _) | (with_reducible refine Kd.C_drewN ?_ _) | (with_reducible refine Kd.C_drew ?_))); (case side2 => exact HC0_3.out); (case side3 => repeat (first | exact (Kd.C_below HR0_4.out HB.out) | (with_reducible refine Kd.C_alloc ?_ _) | (with_reducible refine Kd.C_drewN ?_ _) | (with_reducible refine Kd.C_drew ?_))); (case side4 => exact HC0_4.out); rintro e w17 ⟨rfl, hb⟩; refine ⟨_, rfl, ?_⟩; have n0_ := am (blk_below (bkS BK197.out) hb); have n1_ := am (below_step (by repeat (first | (with_reducible first | exact HB.out | apply below_alloc | apply pw_below_drewN | apply below_drew1 | refine below_set ?_ GE197.out) | exact HB.out)) hb); clear BK197; clear HB; have BK197 := n0_; have HB := n1_; clear n0_ n1_; (try clear hb); (try clear hb2); (try clear hk); (try clear hi); have hcz18_0 : w17.cell? ⟨gb197, 0, none⟩ = some (.string a0_0) := (blk_cell BK197.out 0).trans rfl; have hcz18_1 : w17.cell? ⟨gb197, 1, none⟩ = some (.string a0_1) := (blk_cell BK197.out 1).trans rfl; have hcz18_2 : w17.cell? ⟨gb197, 2, none⟩ = some (.int .i64 a0_2) := (blk_cell BK197.out 2).trans rfl; have hcz18_3 : w17.cell? ⟨gb197, 3, none⟩ = some (.slice A0_3 l0_3.length c0_3) := (blk_cell BK197.out 3).trans rfl; have hcz18_4 : w17.cell? ⟨gb197, 4, none⟩ = some (.slice A0_4 l0_4.length c0_4) := (blk_cell BK197.out 4).trans rfl; have hfz18_0 := blk_frozen BK197.out 0; have hfz18_1 := blk_frozen BK197.out 1; have hfz18_2 := blk_frozen BK197.out 2; have hfz18_3 := blk_frozen BK197.out 3; have hfz18_4 := blk_frozen BK197.out 4) | ((with_reducible refine gate_callee (f := 7) rfl ?_); refine goesL_ (some 13) rfl rfl Tryd.func7 (by kernel_rfl) rfl #[.agg #[.string a0_0, .string a0_1, .int .i64 a0_2, .slice A0_3 l0_3.length c0_3, .slice A0_4 l0_4.length c0_4]] rfl (by (try simp only [List.map_toArray, List.map_cons, List.map_nil]); first | done | rfl | (simp only [List.length_drop, List.length_take]; rfl)) ?_; (with_reducible refine (laws_toDesk.calls k a0_0 a0_1 a0_2 _ _ l0_3 _ _ l0_4 t199 t200 t201 t202 t205 _ ?side1 ?side2 ?side3 ?side4 A7.out).mono ?_); (case side1 => repeat (first | exact (Kd.C_below HR0_3.out HB.out) | (with_reducible refine Kd.C_alloc ?_ _) | (with_reducible refine Kd.C_drewN ?_ _) | (with_reducible refine Kd.C_drew ?_))); (case side2 => exact HC0_3.out); (case side3 => repeat (first | exact (Kd.C_below HR0_4.out HB.out) | (with_reducible refine Kd.C_alloc ?_ _) | (with_reducible refine Kd.C_drewN ?_ _) | (with_reducible refine Kd.C_drew ?_))); (case side4 => exact HC0_4.out); rintro e w19 ⟨v203, v206, rfl, ho0, ho1, hb⟩; refine ⟨_, rfl, ?_⟩; have n0_ := am (Kd.R_lower ho0 (below_size (by repeat (first | (with_reducible first | exact HB.out | apply below_alloc | apply pw_below_drewN | apply below_drew1 | refine below_set ?_ GE197.out) | exact HB.out)))); have n1_ := am (Kd.R_lower ho1 (below_size (by repeat (first | (with_reducible first | exact HB.out | apply below_alloc | apply pw_below_drewN | apply below_drew1 | refine below_set ?_ GE197.out) | exact HB.out)))); have n2_ := am (blk_below (bkS BK197.out) hb); have n3_ := am (below_step (by repeat (first | (with_reducible first | exact HB.out | apply below_alloc | apply pw_below_drewN | apply below_drew1 | refine below_set ?_ GE197.out) | exact HB.out)) hb); clear BK197; clear HB; have HO204 := n0_; have HO207 := n1_; have BK197 := n2_; have HB := n3_; clear n0_ n1_ n2_ n3_; (try clear hb); (try clear hb2); (try clear hk); (try clear hi); (try clear ho0); (try clear ho1); obtain ⟨Ao20, co20, eo20⟩ := Kd.R_slice HO204.out; subst eo20; obtain ⟨Ao21, co21, eo21⟩ := Kd.R_slice HO207.out; subst eo21) | ((with_reducible refine gate_callee (f := 6) rfl ?_); refine goesL_ (some 14) rfl rfl Tryd.func6 (by kernel_rfl) rfl #[.agg #[.string t199, .string t200, .int .i64 t201, .slice Ao20 t202.length co20, .slice Ao21 t205.length co21]] rfl (by (try simp only [List.map_toArray, List.map_cons, List.map_nil]); first | done | rfl | (simp only [List.length_drop, List.length_take]; rfl)) ?_; (with_reducible refine (spec_IsDesk.calls k t199 t200 t201 _ _ t202 _ _ t205 t208 _ ?side1 ?side2 ?side3 ?side4 A8.out).mono ?_); (case side1 => repeat (first | exact (Kd.R_reads' HO204.out).2.2 | (with_reducible refine Kd.C_alloc ?_ _) | (with_reducible refine Kd.C_drewN ?_ _) | (with_reducible refine Kd.C_drew ?_))); (case side2 => exact (Kd.R_reads' HO204.out).2.1); (case side3 => repeat (first | exact (Kd.R_reads' HO207.out).2.2 | (with_reducible refine Kd.C_alloc ?_ _) | (with_reducible refine Kd.C_drewN ?_ _) | (with_reducible refine Kd.C_drew ?_))); (case side4 => exact (Kd.R_reads' HO207.out).2.1); rintro e w22 ⟨rfl, hb⟩; refine ⟨_, rfl, ?_⟩; have n0_ := am (Kd.R_below (roS HO204.out) hb); have n1_ := am (Kd.R_below (roS HO207.out) hb); have n2_ := am (blk_below (bkS BK197.out) hb); have n3_ := am (below_step (by repeat (first | (with_reducible first | exact HB.out | apply below_alloc | apply pw_below_drewN | apply below_drew1 | refine below_set ?_ GE197.out) | exact HB.out)) hb); clear HO204; clear HO207; clear BK197; clear HB; have HO204 := n0_; have HO207 := n1_; have BK197 := n2_; have HB := n3_; clear n0_ n1_ n2_ n3_; (try clear hb); (try clear hb2); (try clear hk); (try clear hi); have hcz23_0 : w22.cell? ⟨gb197, 0, none⟩ = some (.string a0_0) := (blk_cell BK197.out 0).trans rfl; have hcz23_1 : w22.cell? ⟨gb197, 1, none⟩ = some (.string a0_1) := (blk_cell BK197.out 1).trans rfl; have hcz23_2 : w22.cell? ⟨gb197, 2, none⟩ = some (.int .i64 a0_2) := (blk_cell BK197.out 2).trans rfl; have hcz23_3 : w22.cell? ⟨gb197, 3, none⟩ = some (.slice A0_3 l0_3.length c0_3) := (blk_cell BK197.out 3).trans rfl; have hcz23_4 : w22.cell? ⟨gb197, 4, none⟩ = some (.slice A0_4 l0_4.length c0_4) := (blk_cell BK197.out 4).trans rfl; have hfz23_0 := blk_frozen BK197.out 0; have hfz23_1 := blk_frozen BK197.out 1; have hfz23_2 := blk_frozen BK197.out 2; have hfz23_3 := blk_frozen BK197.out 3; have hfz23_4 := blk_frozen BK197.out 4) | ((with_reducible refine gate_callee (f := 7) rfl ?_); refine goesL_ (some 16) rfl rfl Tryd.func7 (by kernel_rfl) rfl #[.agg #[.string a0_0, .string a0_1, .int .i64 a0_2, .slice A0_3 l0_3.length c0_3, .slice A0_4 l0_4.length c0_4]] rfl (by (try simp only [List.map_toArray, List.map_cons, List.map_nil]); first | done | rfl | (simp only [List.length_drop, List.length_take]; rfl)) ?_; (with_reducible refine (laws_toDesk.calls k a0_0 a0_1 a0_2 _ _ l0_3 _ _ l0_4 t209 t210 t211 t212 t215 _ ?side1 ?side2 ?side3 ?side4 A9.out).mono ?_); (case side1 => repeat (first | exact (Kd.C_below HR0_3.out HB.out) | (with_reducible refine Kd.C_alloc ?_ _) | (with_reducible refine Kd.C_drewN ?_ _) | (with_reducible refine Kd.C_drew ?_))); (case side2 => exact HC0_3.out); (case side3 => repeat (first | exact (Kd.C_below HR0_4.out HB.out) | (with_reducible refine Kd.C_alloc ?_ _) | (with_reducible refine Kd.C_drewN ?_ _) | (with_reducible refine Kd.C_drew ?_))); (case side4 => exact HC0_4.out); rintro e w24 ⟨v213, v216, rfl, ho0, ho1, hb⟩; refine ⟨_, rfl, ?_⟩; have n0_ := am (Kd.R_elder' (roS HO204.out) (Kd.R_base ho0) hb); have n1_ := am (Kd.R_elder' (roS HO207.out) (Kd.R_base ho1) hb); have n2_ := am (Kd.R_lower (Kd.R_new' ho0 (Kd.R_lt (roS HO204.out))) (below_size (by repeat (first | (with_reducible first | exact HB.out | apply below_alloc | apply pw_below_drewN | apply below_drew1 | refine below_set ?_ GE197.out) | exact HB.out)))); have n3_ := am (Kd.R_lower (Kd.R_new' ho1 (Kd.R_lt (roS HO207.out))) (below_size (by repeat (first | (with_reducible first | exact HB.out | apply below_alloc | apply pw_below_drewN | apply below_drew1 | refine below_set ?_ GE197.out) | exact HB.out)))); have n4_ := am (blk_below (bkS BK197.out) hb); have n5_ := am (below_step (by repeat (first | (with_reducible first | exact HB.out | apply below_alloc | apply pw_below_drewN | apply below_drew1 | refine below_set ?_ GE197.out) | exact HB.out)) hb); clear HO204; clear HO207; clear BK197; clear HB; have HO204 := n0_; have HO207 := n1_; have HO214 := n2_; have HO217 := n3_; have BK197 := n4_; have HB := n5_; clear n0_ n1_ n2_ n3_ n4_ n5_; (try clear hb); (try clear hb2); (try clear hk); (try clear hi); (try clear ho0); (try clear ho1)) | ((with_reducible refine gate_dst (N := 5) rfl ?_); refine box_event ?hg (N := 5) ?hd (cs := #[.string (⟨#[]⟩ : ByteArray), .string (⟨#[]⟩ : ByteArray), .int .i64 0, .slice none 0 0, .slice none 0 0]) (t := 34) ?hr ?_; (case hd => rfl); (case hg => rfl); (case hr => first | (go_simp; done) | (go_simp; rfl)); intro gb218 hg w25 hbox hb; have n0_ := am (Kd.R_below (roS HO204.out) hb); have n1_ := am (Kd.R_below (roS HO207.out) hb); have n2_ := am (Kd.R_below (roS HO214.out) hb); have n3_ := am (Kd.R_below (roS HO217.out) hb); have n4_ := am (blk_below (bkS BK197.out) hb); have n5_ := am (below_step (by repeat (first | (with_reducible first | exact HB.out | apply below_alloc | apply pw_below_drewN | apply below_drew1 | refine below_set ?_ GE197.out) | exact HB.out)) hb); have n6_ := am (hbox); have n7_ := am (gwL (by repeat (first | (with_reducible first | exact HB.out | apply below_alloc | apply pw_below_drewN | apply below_drew1 | refine below_set ?_ GE197.out) | exact HB.out)) hg); have n8_ := n7_; have n9_ := am (nbL (bkS BK197.out) hg); have n10_ := am (nbG (bkS BK197.out) hg); clear HO204; clear HO207; clear HO214; clear HO217; clear BK197; clear HB; have HO204 := n0_; have HO207 := n1_; have HO214 := n2_; have HO217 := n3_; have BK197 := n4_; have HB := n5_; have BK218 := n6_; have GW218 := n7_; have GE218 := n8_; have NB197_218 := n9_; have NB218_197 := n10_; clear n0_ n1_ n2_ n3_ n4_ n5_ n6_ n7_ n8_ n9_ n10_; clear hb hbox hg; have hnb26 := NB218_197.out; have hnc26 := NB197_218.out; have hcz27_0 : w25.cell? ⟨gb218, 0, none⟩ = some (.string (⟨#[]⟩ : ByteArray)) := (blk_cell BK218.out 0).trans rfl; have hcz27_1 : w25.cell? ⟨gb218, 1, none⟩ = some (.string (⟨#[]⟩ : ByteArray)) := (blk_cell BK218.out 1).trans rfl; have hcz27_2 : w25.cell? ⟨gb218, 2, none⟩ = some (.int .i64 0) := (blk_cell BK218.out 2).trans rfl; have hcz27_3 : w25.cell? ⟨gb218, 3, none⟩ = some (.slice none 0 0) := (blk_cell BK218.out 3).trans rfl; have hcz27_4 : w25.cell? ⟨gb218, 4, none⟩ = some (.slice none 0 0) := (blk_cell BK218.out 4).trans rfl; have hfz27_0 := blk_frozen BK218.out 0; have hfz27_1 := blk_frozen BK218.out 1; have hfz27_2 := blk_frozen BK218.out 2; have hfz27_3 := blk_frozen BK218.out 3; have hfz27_4 := blk_frozen BK218.out 4; obtain ⟨Ao28, co28, eo28⟩ := Kd.R_slice HO214.out; subst eo28; obtain ⟨Ao29, co29, eo29⟩ := Kd.R_slice HO217.out; subst eo29) | ((with_reducible refine gate_callee (f := 8) rfl ?_); refine goesL_ (some 18) rfl rfl Tryd.func8 (by kernel_rfl) rfl #[.agg #[.string t209, .string t210, .int .i64 t211, .slice Ao28 t212.length co28, .slice Ao29 t215.length co29]] rfl (by (try simp only [List.map_toArray, List.map_cons, List.map_nil]); first | done | rfl | (simp only [List.length_drop, List.length_take]; rfl)) ?_; (with_reducible refine (impl_IsDesk.calls k t209 t210 t211 _ _ t212 _ _ t215 t219 _ ?side1 ?side2 ?side3 ?side4 A10.out).mono ?_); (case side1 => refine (Kd.R_reads' (e := 51) (base := w.heap.size) (ok := fun k_ => (True ∧ some k_ ≠ (.slice Ao20 t202.length co20 : Value).ownBlock)) (n := t212.length) (c := co28) ?_).2.2; exact (by (with_reducible repeat (first | apply Kd.R_alloc | apply Kd.R_drewN | apply Kd.R_drew)); exact (Kd.R_mono (Kd.R_far (p := ⟨gb218, 4, none⟩) (Kd.R_far (p := ⟨gb218, 3, none⟩) (Kd.R_far (p := ⟨gb218, 2, none⟩) (Kd.R_far (p := ⟨gb218, 1, none⟩) (Kd.R_far (p := ⟨gb218, 0, none⟩) (Kd.R_types HO214.out BK218.out (by decide)) (fun _ hk => hk.2) (.string t209)) (fun _ hk => hk.2) (.string t210)) (fun _ hk => hk.2) (.int .i64 t211)) (fun _ hk => hk.2) (.slice Ao28 t212.length co28)) (fun _ hk => hk.2) (.slice Ao29 t215.length co29)) (fun _ h_ => h_.1)))); (case side2 => exact (Kd.R_reads' HO214.out).2.1); (case side3 => refine (Kd.R_reads' (e := 3) (base := w.heap.size) (ok := fun k_ => (True ∧ some k_ ≠ (.slice Ao21 t205.length co21 : Value).ownBlock)) (n := t215.length) (c := co29) ?_).2.2; exact (by (with_reducible repeat (first | apply Kd.R_alloc | apply Kd.R_drewN | apply Kd.R_drew)); exact (Kd.R_mono (Kd.R_far (p := ⟨gb218, 4, none⟩) (Kd.R_far (p := ⟨gb218, 3, none⟩) (Kd.R_far (p := ⟨gb218, 2, none⟩) (Kd.R_far (p := ⟨gb218, 1, none⟩) (Kd.R_far (p := ⟨gb218, 0, none⟩) (Kd.R_types HO217.out BK218.out (by decide)) (fun _ hk => hk.2) (.string t209)) (fun _ hk => hk.2) (.string t210)) (fun _ hk => hk.2) (.int .i64 t211)) (fun _ hk => hk.2) (.slice Ao28 t212.length co28)) (fun _ hk => hk.2) (.slice Ao29 t215.length co29)) (fun _ h_ => h_.1)))); (case side4 => exact (Kd.R_reads' HO217.out).2.1); rintro e w30 ⟨rfl, hb⟩; refine ⟨_, rfl, ?_⟩; have n0_ := am (Kd.R_below (by (with_reducible repeat (first | apply Kd.R_alloc | apply Kd.R_drewN | apply Kd.R_drew)); exact (Kd.R_mono (Kd.R_far (p := ⟨gb218, 4, none⟩) (Kd.R_far (p := ⟨gb218, 3, none⟩) (Kd.R_far (p := ⟨gb218, 2, none⟩) (Kd.R_far (p := ⟨gb218, 1, none⟩) (Kd.R_far (p := ⟨gb218, 0, none⟩) (Kd.R_types HO204.out BK218.out (by decide)) (fun _ hk => hk.2) (.string t209)) (fun _ hk => hk.2) (.string t210)) (fun _ hk => hk.2) (.int .i64 t211)) (fun _ hk => hk.2) (.slice Ao28 t212.length co28)) (fun _ hk => hk.2) (.slice Ao29 t215.length co29)) (fun _ h_ => h_.1))) hb); have n1_ := am (Kd.R_below (by (with_reducible repeat (first | apply Kd.R_alloc | apply Kd.R_drewN | apply Kd.R_drew)); exact (Kd.R_mono (Kd.R_far (p := ⟨gb218, 4, none⟩) (Kd.R_far (p := ⟨gb218, 3, none⟩) (Kd.R_far (p := ⟨gb218, 2, none⟩) (Kd.R_far (p := ⟨gb218, 1, none⟩) (Kd.R_far (p := ⟨gb218, 0, none⟩) (Kd.R_types HO207.out BK218.out (by decide)) (fun _ hk => hk.2) (.string t209)) (fun _ hk => hk.2) (.string t210)) (fun _ hk => hk.2) (.int .i64 t211)) (fun _ hk => hk.2) (.slice Ao28 t212.length co28)) (fun _ hk => hk.2) (.slice Ao29 t215.length co29)) (fun _ h_ => h_.1))) hb); have n2_ := am (Kd.R_below (by (with_reducible repeat (first | apply Kd.R_alloc | apply Kd.R_drewN | apply Kd.R_drew)); exact (Kd.R_mono (Kd.R_far (p := ⟨gb218, 4, none⟩) (Kd.R_far (p := ⟨gb218, 3, none⟩) (Kd.R_far (p := ⟨gb218, 2, none⟩) (Kd.R_far (p := ⟨gb218, 1, none⟩) (Kd.R_far (p := ⟨gb218, 0, none⟩) (Kd.R_types HO214.out BK218.out (by decide)) (fun _ hk => hk.2) (.string t209)) (fun _ hk => hk.2) (.string t210)) (fun _ hk => hk.2) (.int .i64 t211)) (fun _ hk => hk.2) (.slice Ao28 t212.length co28)) (fun _ hk => hk.2) (.slice Ao29 t215.length co29)) (fun _ h_ => h_.1))) hb); have n3_ := am (Kd.R_below (by (with_reducible repeat (first | apply Kd.R_alloc | apply Kd.R_drewN | apply Kd.R_drew)); exact (Kd.R_mono (Kd.R_far (p := ⟨gb218, 4, none⟩) (Kd.R_far (p := ⟨gb218, 3, none⟩) (Kd.R_far (p := ⟨gb218, 2, none⟩) (Kd.R_far (p := ⟨gb218, 1, none⟩) (Kd.R_far (p := ⟨gb218, 0, none⟩) (Kd.R_types HO217.out BK218.out (by decide)) (fun _ hk => hk.2) (.string t209)) (fun _ hk => hk.2) (.string t210)) (fun _ hk => hk.2) (.int .i64 t211)) (fun _ hk => hk.2) (.slice Ao28 t212.length co28)) (fun _ hk => hk.2) (.slice Ao29 t215.length co29)) (fun _ h_ => h_.1))) hb); have n4_ := am (blk_below (g := gb197) (o := .cells #[.string a0_0, .string a0_1, .int .i64 a0_2, .slice A0_3 l0_3.length c0_3, .slice A0_4 l0_4.length c0_4] 27 (0, 0)) (by (with_reducible repeat (first | refine blk_drewN ?_ _ | refine blk_drew ?_ | refine blk_alloc ?_ _)); refine blk_far ?_ NB197_218.out _; (with_reducible repeat (first | refine blk_drewN ?_ _ | refine blk_drew ?_ | refine blk_alloc ?_ _)); refine blk_far ?_ NB197_218.out _; (with_reducible repeat (first | refine blk_drewN ?_ _ | refine blk_drew ?_ | refine blk_alloc ?_ _)); refine blk_far ?_ NB197_218.out _; (with_reducible repeat (first | refine blk_drewN ?_ _ | refine blk_drew ?_ | refine blk_alloc ?_ _)); refine blk_far ?_ NB197_218.out _; (with_reducible repeat (first | refine blk_drewN ?_ _ | refine blk_drew ?_ | refine blk_alloc ?_ _)); refine blk_far ?_ NB197_218.out _; (with_reducible repeat (first | refine blk_drewN ?_ _ | refine blk_drew ?_ | refine blk_alloc ?_ _)); exact BK197.out) hb); have n5_ := am (blk_below (g := gb218) (o := .cells #[.string t209, .string t210, .int .i64 t211, .slice Ao28 t212.length co28, .slice Ao29 t215.length co29] 34 (0, 0)) (by (with_reducible repeat (first | refine blk_drewN ?_ _ | refine blk_drew ?_ | refine blk_alloc ?_ _)); refine blk_put (cs := #[.string t209, .string t210, .int .i64 t211, .slice Ao28 t212.length co28, .slice none 0 0]) ?_ 4 _ rfl; (with_reducible repeat (first | refine blk_drewN ?_ _ | refine blk_drew ?_ | refine blk_alloc ?_ _)); refine blk_put (cs := #[.string t209, .string t210, .int .i64 t211, .slice none 0 0, .slice none 0 0]) ?_ 3 _ rfl; (with_reducible repeat (first | refine blk_drewN ?_ _ | refine blk_drew ?_ | refine blk_alloc ?_ _)); refine blk_put (cs := #[.string t209, .string t210, .int .i64 0, .slice none 0 0, .slice none 0 0]) ?_ 2 _ rfl; (with_reducible repeat (first | refine blk_drewN ?_ _ | refine blk_drew ?_ | refine blk_alloc ?_ _)); refine blk_put (cs := #[.string t209, .string (⟨#[]⟩ : ByteArray), .int .i64 0, .slice none 0 0, .slice none 0 0]) ?_ 1 _ rfl; (with_reducible repeat (first | refine blk_drewN ?_ _ | refine blk_drew ?_ | refine blk_alloc ?_ _)); refine blk_put (cs := #[.string (⟨#[]⟩ : ByteArray), .string (⟨#[]⟩ : ByteArray), .int .i64 0, .slice none 0 0, .slice none 0 0]) ?_ 0 _ rfl; (with_reducible repeat (first | refine blk_drewN ?_ _ | refine blk_drew ?_ | refine blk_alloc ?_ _)); exact BK218.out) hb); have n6_ := am (below_step (by repeat (first | (with_reducible first | exact HB.out | apply below_alloc | apply pw_below_drewN | apply below_drew1 | refine below_set ?_ (Aside0.out (by assumption))) | exact HB.out)) hb); clear HO204; clear HO207; clear HO214; clear HO217; clear BK197; clear BK218; clear HB; have HO204 := n0_; have HO207 := n1_; have HO214 := n2_; have HO217 := n3_; have BK197 := n4_; have BK218 := n5_; have HB := n6_; clear n0_ n1_ n2_ n3_ n4_ n5_ n6_; (try clear hb); (try clear hb2); (try clear hk); (try clear hi)))
    have n0_ := am (Kd.R_drew HO204.out)
    have n1_ := am (Kd.R_drew HO207.out)
    have n2_ := am (Kd.R_drew HO214.out)
    have n3_ := am (Kd.R_drew HO217.out)
    have n4_ := am (blk_drew BK197.out)
    have n5_ := am (blk_drew BK218.out)
    have n6_ := am (below_drew1 HB.out)
    clear HO204
    clear HO207
    clear HO214
    clear HO217
    clear BK197
    clear BK218
    clear HB
    have HO204 := n0_
    have HO207 := n1_
    have HO214 := n2_
    have HO217 := n3_
    have BK197 := n4_
    have BK218 := n5_
    have HB := n6_
    clear n0_ n1_ n2_ n3_ n4_ n5_ n6_
    refine start_ (n := 5) (S := fun w' => w'.cell? ⟨gb218, 0, none⟩ = some (.string t209) ∧ w'.cell? ⟨gb218, 1, none⟩ = some (.string t210) ∧ w'.cell? ⟨gb218, 2, none⟩ = some (.int .i64 t211) ∧ w'.cell? ⟨gb218, 3, none⟩ = some (.slice Ao28 t212.length co28) ∧ w'.cell? ⟨gb218, 4, none⟩ = some (.slice Ao29 t215.length co29) ∧ w'.cell? ⟨gb197, 0, none⟩ = some (.string a0_0) ∧ w'.cell? ⟨gb197, 1, none⟩ = some (.string a0_1) ∧ w'.cell? ⟨gb197, 2, none⟩ = some (.int .i64 a0_2) ∧ w'.cell? ⟨gb197, 3, none⟩ = some (.slice A0_3 l0_3.length c0_3) ∧ w'.cell? ⟨gb197, 4, none⟩ = some (.slice A0_4 l0_4.length c0_4)) (ds := []) #[false, false, false, false, false] (by kernel_rfl) rfl rfl ⟨(blk_cell BK218.out 0).trans rfl, (blk_cell BK218.out 1).trans rfl, (blk_cell BK218.out 2).trans rfl, (blk_cell BK218.out 3).trans rfl, (blk_cell BK218.out 4).trans rfl, (blk_cell BK197.out 0).trans rfl, (blk_cell BK197.out 1).trans rfl, (blk_cell BK197.out 2).trans rfl, (blk_cell BK197.out 3).trans rfl, (blk_cell BK197.out 4).trans rfl⟩ (fun hHeld => ?_)
    generalize w30.drew = w31 at HO204 HO207 HO214 HO217 BK197 BK218 HB hHeld ⊢
    refine take_ (i := 0) (N := some 22) (v := ?_) (a' := ?_) #[true, false, false, false, false] rfl rfl (by kernel_rfl) (fun _ _ _ h => h) (Or.inl ⟨by rfl, ?_⟩) hHeld ?_ ?_
    rotate_left
    ·rintro w' ⟨s0, s1, s2, s3, s4, s5, s6, s7, s8, s9⟩
     go_simp
     with_reducible rfl
    rotate_left
    ·simp only [Act.put, List.setIfInBounds_toArray, List.set_cons_zero, List.set_cons_succ, i64_w, i32_w]
     rfl
    refine take_ (i := 1) (N := some 23) (v := ?_) (a' := ?_) #[true, true, false, false, false] rfl rfl (by kernel_rfl) (fun _ _ _ h => h) (Or.inl ⟨by rfl, ?_⟩) hHeld ?_ ?_
    rotate_left
    ·rintro w' ⟨s0, s1, s2, s3, s4, s5, s6, s7, s8, s9⟩
     go_simp
     with_reducible rfl
    rotate_left
    ·simp only [Act.put, List.setIfInBounds_toArray, List.set_cons_zero, List.set_cons_succ, i64_w, i32_w]
     rfl
    refine one_ (i := 2) (N := some 24) #[true, true, true, false, false] rfl rfl (by kernel_rfl) (by decide) (fun K hK => ?_)
    refine goes_ Tryd.func7 (by kernel_rfl) rfl #[.agg #[.string a0_0, .string a0_1, .int .i64 a0_2, .slice A0_3 l0_3.length c0_3, .slice A0_4 l0_4.length c0_4]] (by rfl) rfl rfl (by (try simp only [List.map_toArray, List.map_cons, List.map_nil]); first | done | rfl | (simp only [List.length_drop, List.length_take]; rfl)) ?_
    with_reducible refine (laws_toDesk.calls k a0_0 a0_1 a0_2 _ _ l0_3 _ _ l0_4 t220 t221 t222 t223 t226 _ ?side1 ?side2 ?side3 ?side4 A12.out).mono ?_
    (case side1 => repeat (first | exact (Kd.C_below HR0_3.out HB.out) | (with_reducible refine Kd.C_alloc ?_ _) | (with_reducible refine Kd.C_drewN ?_ _) | (with_reducible refine Kd.C_drew ?_)))
    (case side2 => exact HC0_3.out)
    (case side3 => repeat (first | exact (Kd.C_below HR0_4.out HB.out) | (with_reducible refine Kd.C_alloc ?_ _) | (with_reducible refine Kd.C_drewN ?_ _) | (with_reducible refine Kd.C_drew ?_)))
    (case side4 => exact HC0_4.out)
    rintro e w32 ⟨v224, v227, rfl, ho0, ho1, hb⟩
    refine ⟨_, rfl, ?_⟩
    have n0_ := am (Kd.R_elder' (roS HO204.out) (Kd.R_base ho0) hb)
    have n1_ := am (Kd.R_elder' (roS HO207.out) (Kd.R_base ho1) hb)
    have n2_ := am (Kd.R_elder' (roS HO214.out) (Kd.R_base ho0) hb)
    have n3_ := am (Kd.R_elder' (roS HO217.out) (Kd.R_base ho1) hb)
    have n4_ := am (Kd.R_lower (Kd.R_new' (Kd.R_new' ho0 (Kd.R_lt (roS HO204.out))) (Kd.R_lt (roS HO214.out))) (below_size (by repeat (first | (with_reducible first | exact HB.out | apply below_alloc | apply pw_below_drewN | apply below_drew1 | refine below_set ?_ (Aside0.out (by assumption))) | exact HB.out))))
    have n5_ := am (Kd.R_lower (Kd.R_new' (Kd.R_new' ho1 (Kd.R_lt (roS HO207.out))) (Kd.R_lt (roS HO217.out))) (below_size (by repeat (first | (with_reducible first | exact HB.out | apply below_alloc | apply pw_below_drewN | apply below_drew1 | refine below_set ?_ (Aside0.out (by assumption))) | exact HB.out))))
    have n6_ := am (blk_below (bkS BK197.out) hb)
    have n7_ := am (blk_below (bkS BK218.out) hb)
    have n8_ := am (below_step (by repeat (first | (with_reducible first | exact HB.out | apply below_alloc | apply pw_below_drewN | apply below_drew1 | refine below_set ?_ (Aside0.out (by assumption))) | exact HB.out)) hb)
    clear HO204
    clear HO207
    clear HO214
    clear HO217
    clear BK197
    clear BK218
    clear HB
    have HO204 := n0_
    have HO207 := n1_
    have HO214 := n2_
    have HO217 := n3_
    have HO225 := n4_
    have HO228 := n5_
    have BK197 := n6_
    have BK218 := n7_
    have HB := n8_
    clear n0_ n1_ n2_ n3_ n4_ n5_ n6_ n7_ n8_
    (try clear hb)
    (try clear hb2)
    (try clear hk)
    (try clear hi)
    (try clear ho0)
    (try clear ho1)
    obtain ⟨Ao33, co33, eo33⟩ := Kd.R_slice HO225.out
    (first | subst eo33 | (injection eo33 with f1_ f2_ f3_; have f4_ := f1_.symm; have f5_ := f3_.symm; clear f1_ f2_ f3_; subst f4_; subst f5_))
    obtain ⟨Ao34, co34, eo34⟩ := Kd.R_slice HO228.out
    (first | subst eo34 | (injection eo34 with f1_ f2_ f3_; have f4_ := f1_.symm; have f5_ := f3_.symm; clear f1_ f2_ f3_; subst f4_; subst f5_))
    refine hK.out _ _ ⟨(blk_cell BK218.out 0).trans rfl, (blk_cell BK218.out 1).trans rfl, (blk_cell BK218.out 2).trans rfl, (blk_cell BK218.out 3).trans rfl, (blk_cell BK218.out 4).trans rfl, (blk_cell BK197.out 0).trans rfl, (blk_cell BK197.out 1).trans rfl, (blk_cell BK197.out 2).trans rfl, (blk_cell BK197.out 3).trans rfl, (blk_cell BK197.out 4).trans rfl⟩ (fun hHeld => ?_)
    clear hK K
    refine norm_ (a' := ?_) ?_ ?_
    rotate_left
    ·show Act.put _ (some 24) _ = _
     simp only [Act.put, List.setIfInBounds_toArray, List.set_cons_zero, List.set_cons_succ, i64_w, i32_w]
     rfl
    refine one_ (i := 3) (N := some 25) #[true, true, true, true, false] rfl rfl (by kernel_rfl) (by decide) (fun K hK => ?_)
    refine goes_ Tryd.func9 (by kernel_rfl) rfl #[.agg #[.string t209, .string t210, .int .i64 t211, .slice Ao28 t212.length co28, .slice Ao29 t215.length co29], .agg #[.string t220, .string t221, .int .i64 t222, .slice Ao33 t223.length co33, .slice Ao34 t226.length co34]] (by rfl) rfl rfl (by (try simp only [List.map_toArray, List.map_cons, List.map_nil]); first | done | rfl | (simp only [List.length_drop, List.length_take]; rfl)) ?_
    with_reducible refine (laws_eqDesk.calls k t209 t210 t211 _ _ t212 _ _ t215 t220 t221 t222 _ _ t223 _ _ t226 true _ ?side1 ?side2 ?side3 ?side4 ?side5 ?side6 ?side7 ?side8 A13.out).mono ?_
    (case side1 => repeat (first | exact (Kd.R_reads' HO214.out).2.2 | (with_reducible refine Kd.C_alloc ?_ _) | (with_reducible refine Kd.C_drewN ?_ _) | (with_reducible refine Kd.C_drew ?_)))
    (case side2 => exact (Kd.R_reads' HO214.out).2.1)
    (case side3 => repeat (first | exact (Kd.R_reads' HO217.out).2.2 | (with_reducible refine Kd.C_alloc ?_ _) | (with_reducible refine Kd.C_drewN ?_ _) | (with_reducible refine Kd.C_drew ?_)))
    (case side4 => exact (Kd.R_reads' HO217.out).2.1)
    (case side5 => repeat (first | exact (Kd.R_reads' HO225.out).2.2 | (with_reducible refine Kd.C_alloc ?_ _) | (with_reducible refine Kd.C_drewN ?_ _) | (with_reducible refine Kd.C_drew ?_)))
    (case side6 => exact (Kd.R_reads' HO225.out).2.1)
    (case side7 => repeat (first | exact (Kd.R_reads' HO228.out).2.2 | (with_reducible refine Kd.C_alloc ?_ _) | (with_reducible refine Kd.C_drewN ?_ _) | (with_reducible refine Kd.C_drew ?_)))
    (case side8 => exact (Kd.R_reads' HO228.out).2.1)
    rintro e w35 ⟨rfl, hb⟩
    refine ⟨_, rfl, ?_⟩
    have n0_ := am (Kd.R_below (roS HO204.out) hb)
    have n1_ := am (Kd.R_below (roS HO207.out) hb)
    have n2_ := am (Kd.R_below (roS HO214.out) hb)
    have n3_ := am (Kd.R_below (roS HO217.out) hb)
    have n4_ := am (Kd.R_below (roS HO225.out) hb)
    have n5_ := am (Kd.R_below (roS HO228.out) hb)
    have n6_ := am (blk_below (bkS BK197.out) hb)
    have n7_ := am (blk_below (bkS BK218.out) hb)
    have n8_ := am (below_step (by repeat (first | (with_reducible first | exact HB.out | apply below_alloc | apply pw_below_drewN | apply below_drew1 | refine below_set ?_ (Aside0.out (by assumption))) | exact HB.out)) hb)
    clear HO204
    clear HO207
    clear HO214
    clear HO217
    clear HO225
    clear HO228
    clear BK197
    clear BK218
    clear HB
    have HO204 := n0_
    have HO207 := n1_
    have HO214 := n2_
    have HO217 := n3_
    have HO225 := n4_
    have HO228 := n5_
    have BK197 := n6_
    have BK218 := n7_
    have HB := n8_
    clear n0_ n1_ n2_ n3_ n4_ n5_ n6_ n7_ n8_
    (try clear hb)
    (try clear hb2)
    (try clear hk)
    (try clear hi)
    refine hK.out _ _ ⟨(blk_cell BK218.out 0).trans rfl, (blk_cell BK218.out 1).trans rfl, (blk_cell BK218.out 2).trans rfl, (blk_cell BK218.out 3).trans rfl, (blk_cell BK218.out 4).trans rfl, (blk_cell BK197.out 0).trans rfl, (blk_cell BK197.out 1).trans rfl, (blk_cell BK197.out 2).trans rfl, (blk_cell BK197.out 3).trans rfl, (blk_cell BK197.out 4).trans rfl⟩ (fun hHeld => ?_)
    clear hK K
    refine norm_ (a' := ?_) ?_ ?_
    rotate_left
    ·show Act.put _ (some 25) _ = _
     simp only [Act.put, List.setIfInBounds_toArray, List.set_cons_zero, List.set_cons_succ, i64_w, i32_w]
     rfl
    refine pure_ (i := 4) (N := some 26) (v := ?_) (a' := ?_) #[true, true, true, true, true] rfl rfl (by kernel_rfl) (fun _ _ _ h => h) (Or.inl ⟨by rfl, ?_⟩) ?_ ?_
    rotate_left
    ·intro w'
     go_simp
     with_reducible rfl
    rotate_left
    ·simp only [Act.put, List.setIfInBounds_toArray, List.set_cons_zero, List.set_cons_succ, i64_w, i32_w]
     rfl
    refine done_ (by kernel_rfl) ?_
    try go_wp2
    go_ret
    exact ⟨by first | rfl | (simp [errW_none, errW_some] <;> rfl) | (simp [*, errW_none, errW_some] <;> rfl), by repeat (first | (with_reducible first | exact HB.out | apply below_alloc | apply pw_below_drewN | apply below_drew1 | refine below_set ?_ (Aside0.out (by assumption))) | exact HB.out)⟩
   ·replace c14 := Bool.eq_false_iff.mpr c14
    subst c14
    have H1 : (none) = some r := by rw [if_neg (show ¬ (false = true) by decide)] at H; exact H
    clear H
    have H := H1
    clear H1
    exact absurd H (by simp)
end Go.Proofs.YtncdecmcdlfmmaaDoor.X
end
section
-- Written by a program of this session (wip/tools/mp.py) over the kit's print of the translation.
namespace Go.Proofs.YtncdecmcdlfmmaaDoor.X
open Go.RowKit Go.Proofs.YtncdecmcdlfmmaaDoorW.PrintWords Go.Proofs.YtncdecmcdlfmmaaDoorW.PrintLast Go.Proofs.YtncdecmcdlfmmaaDoorW.PrintMore
attribute [local go_sem] max2_int min2_int max_two min_two max_three min_three max_four min_four   -- for this text's walks alone
set_option linter.unusedVariables false
set_option linter.unusedSimpArgs false
/-- The pure statement of FnExactIsDesk. -/
def laws_FnExactIsDesk.Pure : Prop := ∀ (a0_0 : ByteArray) (a0_1 : ByteArray) (a0_2_0 : Int) (l0_2_1 : List (S77)) (l0_3 : List Int), a0_0.size ≤ maxLen → a0_1.size ≤ maxLen → (Lit.int .i64 a0_2_0).wf = true → (l0_2_1.length ≤ maxLen ∧ ∀ y ∈ l0_2_1, ((Lit.int .i64 y.f0).wf = true ∧ (Lit.int .i64 y.f1).wf = true ∧ (Lit.int .i64 y.f2).wf = true)) → (l0_3.length ≤ maxLen ∧ ∀ y ∈ l0_3, (Lit.int .i64 y).wf = true) → ∃ k, laws_FnExactIsDesk.f k a0_0 a0_1 a0_2_0 l0_2_1 l0_3 = some true
end Go.Proofs.YtncdecmcdlfmmaaDoor.X
end
section
/- Small words on rounds, numbers and lists. -/
namespace Go.Proofs.YtncdecmcdlfmmaaDoor.X
open Go.Proofs.YtncdecmcdlfmmaaDoor.Sq Go.RowKit Go.Proofs.YtncdecmcdlfmmaaDoorW.PrintWords Go.Proofs.YtncdecmcdlfmmaaDoorW.PrintLast Go.Proofs.YtncdecmcdlfmmaaDoorW.PrintMore
attribute [local go_sem] max2_int min2_int max_two min_two max_three min_three max_four min_four   -- for this text's walks alone
set_option linter.unusedVariables false
set_option linter.unusedSimpArgs false
theorem w64 {x : Int} (h : -9223372036854775808 ≤ x) (h' : x ≤ 9223372036854775807) : wrap64 x = x := by
  unfold wrap64
  omega
theorem evPos {α : Type} {c : Prop} [Decidable c] {g f : Nat → Option α} {r : α} (hc : c) (h : Ev g r) : Ev (fun k => if c then g k else f k) r := by
  obtain ⟨K, hK⟩ := h
  exact ⟨K, fun k hk => (if_pos hc).trans (hK k hk)⟩
theorem evNeg {α : Type} {c : Prop} [Decidable c] {g f : Nat → Option α} {r : α} (hc : ¬ c) (h : Ev f r) : Ev (fun k => if c then g k else f k) r := by
  obtain ⟨K, hK⟩ := h
  exact ⟨K, fun k hk => (if_neg hc).trans (hK k hk)⟩
theorem evSplit {α : Type} {c : Prop} [Decidable c] {g f : Nat → Option α} {r : α} (h : c → Ev g r) (h' : ¬ c → Ev f r) : Ev (fun k => if c then g k else f k) r := by
  by_cases hc : c
  · exact evPos hc (h hc)
  · exact evNeg hc (h' hc)
theorem evBind0 {α β : Type} {o : Option α} {f : Nat → α → Option β} {a : α} {r : β} (h : o = some a) (k : Ev (fun n => f n a) r) : Ev (fun n => o.bind (f n)) r := by
  obtain ⟨K, hK⟩ := k
  exact ⟨K, fun k hk => by rw [h]; exact hK k hk⟩
theorem evEq {α : Type} {g : Nat → Option α} {r r' : α} (h : Ev g r) (e : r = r') : Ev g r' := e ▸ h
theorem evSome {α : Type} {r r' : α} (e : r = r') : Ev (fun _ => some r) r' := ⟨0, fun _ _ => by rw [e]⟩
/-- A list that is filled place by place. -/
theorem set_mid {α : Type} (m z : List α) (i : Nat) (h : i < m.length) (hz : z.length = m.length) : (m.take i ++ z.drop i).set i (m[i]'h) = m.take (i + 1) ++ z.drop (i + 1) := by
  have h1 : (m.take i).length = i := by rw [List.length_take]; omega
  rw [List.set_append_right _ _ (by omega), h1, Nat.sub_self]
  have h2 : z.drop i = (z[i]'(by omega)) :: z.drop (i + 1) := List.drop_eq_getElem_cons (by omega)
  rw [h2, List.set_cons_zero, List.take_succ_eq_append_getElem h, List.append_assoc]
  rfl
theorem mid_len {α : Type} (m z : List α) (i : Nat) (hz : z.length = m.length) (h : i ≤ m.length) : (m.take i ++ z.drop i).length = m.length := by
  rw [List.length_append, List.length_take, List.length_drop]
  omega
theorem getD_drop_cons {α : Type} (l : List α) (i : Nat) (d : α) (h : i < l.length) : l.drop i = l.getD i d :: l.drop (i + 1) := by
  rw [List.drop_eq_getElem_cons h, List.getD_eq_getElem?_getD, List.getElem?_eq_getElem h]
  rfl
theorem getElem_getD {α : Type} (l : List α) (i : Nat) (d : α) (h : i < l.length) : l[i]'h = l.getD i d := by
  rw [List.getD_eq_getElem?_getD, List.getElem?_eq_getElem h]
  rfl
end Go.Proofs.YtncdecmcdlfmmaaDoor.X
end
section
/- Lists of bridges compared with themselves. -/
--! needs LBase laws_eqBridgeS
namespace Go.Proofs.YtncdecmcdlfmmaaDoor.X
open Go.Proofs.YtncdecmcdlfmmaaDoor.Sq Go.RowKit Go.Proofs.YtncdecmcdlfmmaaDoorW.PrintWords Go.Proofs.YtncdecmcdlfmmaaDoorW.PrintLast Go.Proofs.YtncdecmcdlfmmaaDoorW.PrintMore
attribute [local go_sem] max2_int min2_int max_two min_two max_three min_three max_four min_four   -- for this text's walks alone
set_option linter.unusedVariables false
set_option linter.unusedSimpArgs false
theorem eqBridge_eq (a b : S51) : laws_eqBridge.f a.f0 a.f1 a.f2 b.f0 b.f1 b.f2 = some (decide (a.f0 = b.f0 ∧ a.f1 = b.f1 ∧ a.f2 = b.f2)) := by
  unfold laws_eqBridge.f
  by_cases h0 : a.f0 = b.f0 <;> by_cases h1 : a.f1 = b.f1 <;> by_cases h2 : a.f2 = b.f2 <;> simp [h0, h1, h2]
theorem eqBridgeS_l0 (l : List S51) (hl : l.length ≤ 9223372036854775800) (d : Nat) : ∀ i : Nat, i + d = l.length → Ev (fun k => laws_eqBridgeS.l0 k l l (i : Int)) true := by
  induction d with
  | zero =>
    intro i hi
    refine Ev.step (fun k => by rw [laws_eqBridgeS.l0]) ?_
    exact evNeg (by omega) (evSome rfl)
  | succ d ih =>
    intro i hi
    refine Ev.step (fun k => by rw [laws_eqBridgeS.l0]) ?_
    refine evPos (by omega) (evPos (by omega) (evPos (by omega) ?_))
    refine evBind0 (eqBridge_eq _ _) ?_
    refine evPos (by simp) ?_
    rw [w64 (by omega) (by omega)]
    exact ih (i + 1) (by omega)
theorem eqBridgeS_self (l : List S51) (hl : l.length ≤ 9223372036854775800) : Ev (fun k => laws_eqBridgeS.f k l l) true := by
  unfold laws_eqBridgeS.f
  exact evPos rfl (eqBridgeS_l0 l hl l.length 0 (by omega))
end Go.Proofs.YtncdecmcdlfmmaaDoor.X
end
section
/- Lists of bridges turned, as the laws do. -/
--! needs LBase laws_toBridgeS
namespace Go.Proofs.YtncdecmcdlfmmaaDoor.X
open Go.Proofs.YtncdecmcdlfmmaaDoor.Sq Go.RowKit Go.Proofs.YtncdecmcdlfmmaaDoorW.PrintWords Go.Proofs.YtncdecmcdlfmmaaDoorW.PrintLast Go.Proofs.YtncdecmcdlfmmaaDoorW.PrintMore
attribute [local go_sem] max2_int min2_int max_two min_two max_three min_three max_four min_four   -- for this text's walks alone
set_option linter.unusedVariables false
set_option linter.unusedSimpArgs false
def cvBr (x : S77) : S51 := ⟨x.f0, x.f1, x.f2⟩
theorem toBridgeS_l0 (l : List S77) (hl : l.length ≤ 1048576) (z : List S51) (hz : z.length = l.length) (d : Nat) : ∀ i : Nat, i + d = l.length →
    Ev (fun k => laws_toBridgeS.l0 k l ((l.map cvBr).take i ++ z.drop i) (i : Int)) (l.map cvBr) := by
  induction d with
  | zero =>
    intro i hi
    refine Ev.step (fun k => by rw [laws_toBridgeS.l0]) ?_
    refine evNeg (by omega) (evSome ?_)
    rw [List.take_of_length_le (by simp; omega), List.drop_of_length_le (by omega), List.append_nil]
  | succ d ih =>
    intro i hi
    refine Ev.step (fun k => by rw [laws_toBridgeS.l0]) ?_
    refine evPos (by omega) (evPos (by omega) ?_)
    unfold laws_toBridge.f
    refine evBind0 rfl ?_
    refine evPos (by rw [mid_len _ _ _ (by simp; omega) (by simp; omega)]; simp; omega) ?_
    have h1 := set_mid (l.map cvBr) z i (by simp; omega) (by simp; omega)
    rw [w64 (by omega) (by omega)]
    have h2 := ih (i + 1) (by omega)
    rw [← h1] at h2
    have h3 : (l.map cvBr)[i]'(by simp; omega) = ⟨(rd_T77 l i).f0, (rd_T77 l i).f1, (rd_T77 l i).f2⟩ := by
      rw [List.getElem_map, getElem_getD l i z77 (by omega)]; rfl
    rw [h3] at h2
    exact h2
theorem toBridgeS_ev (l : List S77) (hl : l.length ≤ 1048576) : Ev (fun k => laws_toBridgeS.f k l) (l.map cvBr) := by
  unfold laws_toBridgeS.f
  refine evPos (by omega) (evPos (by omega) ?_)
  have h := toBridgeS_l0 l hl (List.replicate ((l.length : Int) : Int).toNat z51) (by simp) l.length 0 (by omega)
  simpa using h
end Go.Proofs.YtncdecmcdlfmmaaDoor.X
end
section
/- Lists of numbers compared with themselves. -/
--! needs LBase laws_eqIntS
namespace Go.Proofs.YtncdecmcdlfmmaaDoor.X
open Go.Proofs.YtncdecmcdlfmmaaDoor.Sq Go.RowKit Go.Proofs.YtncdecmcdlfmmaaDoorW.PrintWords Go.Proofs.YtncdecmcdlfmmaaDoorW.PrintLast Go.Proofs.YtncdecmcdlfmmaaDoorW.PrintMore
attribute [local go_sem] max2_int min2_int max_two min_two max_three min_three max_four min_four   -- for this text's walks alone
set_option linter.unusedVariables false
set_option linter.unusedSimpArgs false
theorem eqIntS_l0 (l : List Int) (hl : l.length ≤ 1048576) (e : Nat) : ∀ i : Nat, i + e = l.length → Ev (fun k => laws_eqIntS.l0 k l l (i : Int)) true := by
  induction e with
  | zero =>
    intro i hi
    refine Ev.step (fun k => by rw [laws_eqIntS.l0]) ?_
    exact evNeg (by omega) (evSome rfl)
  | succ e ih =>
    intro i hi
    refine Ev.step (fun k => by rw [laws_eqIntS.l0]) ?_
    rw [show wrap64 ((i : Int) + 1) = ((i + 1 : Nat) : Int) from (w64 (by omega) (by omega)).trans (by omega)]
    exact evPos (by omega) (evPos (by omega) (evPos (by omega) (evPos rfl (ih (i + 1) (by omega)))))
theorem eqIntS_self (l : List Int) (hl : l.length ≤ 1048576) : Ev (fun k => laws_eqIntS.f k l l) true := by
  unfold laws_eqIntS.f
  exact evPos rfl (eqIntS_l0 l hl l.length 0 (Nat.zero_add _))
end Go.Proofs.YtncdecmcdlfmmaaDoor.X
end
section
/- A number within bounds. -/
--! needs impl_within spec_l1In
namespace Go.Proofs.YtncdecmcdlfmmaaDoor.X
open Go.Proofs.YtncdecmcdlfmmaaDoor.Sq Go.RowKit Go.Proofs.YtncdecmcdlfmmaaDoorW.PrintWords Go.Proofs.YtncdecmcdlfmmaaDoorW.PrintLast Go.Proofs.YtncdecmcdlfmmaaDoorW.PrintMore
attribute [local go_sem] max2_int min2_int max_two min_two max_three min_three max_four min_four   -- for this text's walks alone
set_option linter.unusedVariables false
set_option linter.unusedSimpArgs false
def inB (a l h : Int) : Bool := decide (l ≤ a) && decide (a ≤ h)
theorem within_eq (a l h : Int) : impl_within.f a l h = some (inB a l h) := by
  unfold impl_within.f inB
  by_cases c : l ≤ a <;> simp [c]
theorem l1In_eq (a l h : Int) : spec_l1In.f a l h = some (inB a l h) := by
  unfold spec_l1In.f inB
  by_cases c : l ≤ a
  · rw [if_pos (by omega)]; simp [c]
  · rw [if_neg (by omega)]; simp [c]
end Go.Proofs.YtncdecmcdlfmmaaDoor.X
end
section
/- What makes isles: the program's and the reference's test come to the same. -/
--! needs LBase LIn spec_isGood impl_AreIsles_1 impl_AreIsles
namespace Go.Proofs.YtncdecmcdlfmmaaDoor.X
open Go.Proofs.YtncdecmcdlfmmaaDoor.Sq Go.RowKit Go.Proofs.YtncdecmcdlfmmaaDoorW.PrintWords Go.Proofs.YtncdecmcdlfmmaaDoorW.PrintLast Go.Proofs.YtncdecmcdlfmmaaDoorW.PrintMore
attribute [local go_sem] max2_int min2_int max_two min_two max_three min_three max_four min_four   -- for this text's walks alone
set_option linter.unusedVariables false
set_option linter.unusedSimpArgs false
def okBr (c : Int) (b : S51) : Bool := decide (0 ≤ b.f0 ∧ b.f0 < b.f1 ∧ b.f1 ≤ c - 1 ∧ 0 ≤ b.f2 ∧ b.f2 ≤ 1000)
def islesB (c : Int) (l : List S51) : Bool := inB c 1 7 && decide (l.length ≤ 14) && l.all (okBr c)
theorem isBridge_eq (c : Int) (h1 : 1 ≤ c) (h2 : c ≤ 7) (b : S51) : spec_isBridge.f c b.f0 b.f1 b.f2 = some (okBr c b) := by
  unfold spec_isBridge.f okBr
  rw [w64 (x := c - 1) (by omega) (by omega)]
  simp only [l1In_eq, Option.bind_some]
  unfold inB
  by_cases a1 : 0 ≤ b.f0 <;> by_cases a2 : b.f0 ≤ c - 1 <;> by_cases a3 : 0 ≤ b.f1 <;> by_cases a4 : b.f1 ≤ c - 1 <;> by_cases a5 : b.f0 < b.f1 <;> by_cases a6 : 0 ≤ b.f2 <;> by_cases a7 : b.f2 ≤ 1000 <;> simp [a1, a2, a3, a4, a5, a6, a7] <;> omega
theorem AreIsles_1_eq (c : Int) (h1 : 1 ≤ c) (h2 : c ≤ 7) (b : S51) (l : List S51) : impl_AreIsles_1.f b.f0 b.f1 b.f2 c l = some (!okBr c b) := by
  unfold impl_AreIsles_1.f okBr
  rw [w64 (x := c - 1) (by omega) (by omega)]
  simp only [within_eq, Option.bind_some]
  by_cases hB : 1 ≤ b.f1 ∧ b.f1 ≤ c - 1
  · rw [w64 (x := b.f1 - 1) (by omega) (by omega)]
    unfold inB
    by_cases a1 : 0 ≤ b.f0 <;> by_cases a2 : b.f0 ≤ b.f1 - 1 <;> by_cases a6 : 0 ≤ b.f2 <;> by_cases a7 : b.f2 ≤ 1000 <;> simp [a1, a2, a6, a7, hB.1, hB.2] <;> omega
  · have hb : inB b.f1 1 (c - 1) = false := by
      unfold inB
      by_cases a : 1 ≤ b.f1
      · rw [decide_eq_false (show ¬ b.f1 ≤ c - 1 by omega), Bool.and_false]
      · rw [decide_eq_false a, Bool.false_and]
    rw [hb, decide_eq_false (by omega)]
    split <;> rfl
theorem isGood_l0 (c : Int) (h1 : 1 ≤ c) (h2 : c ≤ 7) (l : List S51) (hl : l.length ≤ 14) (d : Nat) : ∀ i : Nat, i + d = l.length → Ev (fun k => spec_isGood.l0 k l (l.length : Int) (i : Int) c l) ((l.drop i).all (okBr c)) := by
  induction d with
  | zero =>
    intro i hi
    refine Ev.step (fun k => by rw [spec_isGood.l0]) ?_
    refine evNeg (by omega) (evSome ?_)
    rw [List.drop_of_length_le (by omega)]; rfl
  | succ d ih =>
    intro i hi
    refine Ev.step (fun k => by rw [spec_isGood.l0]) ?_
    have hd : l.drop i = rd_T51 l i :: l.drop (i + 1) := getD_drop_cons l i z51 (by omega)
    refine evPos (by omega) (evPos (by omega) (evPos (by omega) (evBind0 (isBridge_eq c h1 h2 _) ?_)))
    rw [hd, List.all_cons]
    cases okBr c (rd_T51 l i) with
    | true =>
      refine evPos rfl ?_
      rw [w64 (by omega) (by omega)]
      exact evEq (ih (i + 1) (by omega)) (Bool.true_and _).symm
    | false => exact evNeg (by simp) (evSome rfl)
theorem isGood_ev (c : Int) (l : List S51) : Ev (fun k => spec_isGood.f k c l) (islesB c l) := by
  unfold spec_isGood.f islesB
  refine evBind0 (l1In_eq c 1 7) ?_
  cases hp : inB c 1 7 with
  | false =>
    refine evNeg (by simp) ?_
    refine Ev.step (fun k => by rw [spec_isGood.j0]) ?_
    exact evPos rfl (evSome rfl)
  | true =>
    have hc := hp
    unfold inB at hc
    simp only [Bool.and_eq_true, decide_eq_true_eq] at hc
    refine evPos rfl ?_
    refine Ev.step (fun k => by rw [spec_isGood.j0]) ?_
    by_cases h : l.length ≤ 14
    · refine evNeg (by simp; omega) ?_
      refine evEq (isGood_l0 c hc.1 hc.2 l h l.length 0 (by omega)) ?_
      simp [h]
    · refine evPos (by simp; omega) (evSome ?_)
      simp [h]
theorem IndexAreIsles_l0 (c : Int) (h1 : 1 ≤ c) (h2 : c ≤ 7) (q l : List S51) (hl : l.length ≤ 14) (d : Nat) : ∀ i : Nat, i + d = l.length →
    ∃ r, Ev (fun k => slices_IndexFunc_Bridge__AreIsles_1.l0 k l (l.length : Int) (i : Int) c q) r ∧ (decide (r ≥ 0) = !(l.drop i).all (okBr c)) := by
  induction d with
  | zero =>
    intro i hi
    refine ⟨-1, ?_, ?_⟩
    · refine Ev.step (fun k => by rw [slices_IndexFunc_Bridge__AreIsles_1.l0]) ?_
      exact evNeg (by omega) (evSome rfl)
    · rw [List.drop_of_length_le (by omega)]; rfl
  | succ d ih =>
    intro i hi
    have hd : l.drop i = rd_T51 l i :: l.drop (i + 1) := getD_drop_cons l i z51 (by omega)
    have hq := AreIsles_1_eq c h1 h2 (rd_T51 l i) q
    cases hb : okBr c (rd_T51 l i) with
    | true =>
      obtain ⟨r, hr, hr2⟩ := ih (i + 1) (by omega)
      rw [hb] at hq
      refine ⟨r, ?_, ?_⟩
      · refine Ev.step (fun k => by rw [slices_IndexFunc_Bridge__AreIsles_1.l0]) ?_
        refine evPos (by omega) (evPos (by omega) (evPos (by omega) ?_))
        refine evBind0 hq ?_
        refine evNeg (by simp) ?_
        rw [w64 (by omega) (by omega)]
        exact hr
      · rw [hr2, hd, List.all_cons, hb]; rfl
    | false =>
      rw [hb] at hq
      refine ⟨(i : Int), ?_, ?_⟩
      · refine Ev.step (fun k => by rw [slices_IndexFunc_Bridge__AreIsles_1.l0]) ?_
        refine evPos (by omega) (evPos (by omega) (evPos (by omega) ?_))
        refine evBind0 hq ?_
        exact evPos (by simp) (evSome rfl)
      · rw [hd, List.all_cons, hb]
        simp
theorem AreIsles_ev (c : Int) (l : List S51) : Ev (fun k => impl_AreIsles.f k c l) (islesB c l) := by
  unfold impl_AreIsles.f islesB
  refine evBind0 (within_eq c 1 7) ?_
  cases hp : inB c 1 7 with
  | false => exact evNeg (by simp) (evSome rfl)
  | true =>
    have hc := hp
    unfold inB at hc
    simp only [Bool.and_eq_true, decide_eq_true_eq] at hc
    refine evPos rfl ?_
    by_cases h : l.length ≤ 14
    · refine evPos (by omega) ?_
      obtain ⟨r, hr, hr2⟩ := IndexAreIsles_l0 c hc.1 hc.2 l l h l.length 0 (by omega)
      unfold slices_ContainsFunc_Bridge__AreIsles_1.f slices_IndexFunc_Bridge__AreIsles_1.f
      refine Ev.bind (Ev.bind hr (evSome rfl)) (evSome ?_)
      rw [hr2]
      simp [h]
    · refine evNeg (by omega) (evSome ?_)
      simp [h]
end Go.Proofs.YtncdecmcdlfmmaaDoor.X
end
section
/- What makes an order: the program and the reference. -/
--! needs LBase impl_IsOrder spec_l1In spec_l1All spec_l1Has spec_ptGood
namespace Go.Proofs.YtncdecmcdlfmmaaDoor.X
open Go.Proofs.YtncdecmcdlfmmaaDoor.Sq Go.RowKit Go.Proofs.YtncdecmcdlfmmaaDoorW.PrintWords Go.Proofs.YtncdecmcdlfmmaaDoorW.PrintLast Go.Proofs.YtncdecmcdlfmmaaDoorW.PrintMore
attribute [local go_sem] max2_int min2_int max_two min_two max_three min_three max_four min_four   -- for this text's walks alone
set_option linter.unusedVariables false
set_option linter.unusedSimpArgs false
open List in
theorem perm_of_len : ∀ (l m : List Int), l.Nodup → (∀ x ∈ l, x ∈ m) → m.length ≤ l.length → l ~ m
 | [], m, _, _, h => by
  obtain rfl : m = [] := List.eq_nil_of_length_eq_zero (by simpa using h)
  exact Perm.refl _
 | a :: l, m, hn, hs, h => by
  have ha : a ∈ m := hs a (List.mem_cons_self ..)
  have hn2 := List.nodup_cons.1 hn
  have hl := perm_of_len l (m.erase a) hn2.2 (fun x hx => by
    have hne : x ≠ a := fun e => hn2.1 (e ▸ hx)
    exact (List.mem_erase_of_ne hne).2 (hs x (List.mem_cons_of_mem _ hx))) (by
    rw [List.length_erase_of_mem ha]
    simp at h
    omega)
  exact (Perm.cons a hl).trans (perm_cons_erase ha).symm
def upL (n : Nat) : List Int := (List.range n).map fun (i : Nat) => (i : Int) + 1
theorem upL_len (n : Nat) : (upL n).length = n := by simp [upL]
theorem upL_mem (n : Nat) (x : Int) : x ∈ upL n ↔ 1 ≤ x ∧ x ≤ n := by
  unfold upL
  simp only [List.mem_map, List.mem_range]
  constructor
  · rintro ⟨i, hi, rfl⟩
    omega
  · intro h
    exact ⟨(x - 1).toNat, by omega, by omega⟩
theorem upL_lt (n : Nat) : (upL n).Pairwise (· < ·) := by
  unfold upL
  rw [List.pairwise_map]
  exact List.pairwise_lt_range.imp (fun h => by omega)
theorem upL_nodup (n : Nat) : (upL n).Nodup := (upL_lt n).imp (fun h => by omega)
theorem isoUp_iff (s : List Int) (n : Nat) (h : s.length = n) : isoUp s n ↔ s = upL n := by
  constructor
  · intro hu
    apply List.ext_getElem
    · rw [h, upL_len]
    · intro i h1 h2
      have := hu i (by omega)
      rw [List.getD_eq_getElem?_getD, List.getElem?_eq_getElem h1] at this
      simp only [Option.getD_some] at this
      rw [this]
      simp [upL]
  · rintro rfl i hi
    rw [List.getD_eq_getElem?_getD, List.getElem?_eq_getElem (by rw [upL_len]; exact hi)]
    simp [upL]
open List in
theorem iso_iff (l : List Int) : isoUp (isoS l) l.length ↔ (∀ x ∈ l, 1 ≤ x ∧ x ≤ (l.length : Int)) ∧ l.Nodup := by
  rw [isoUp_iff _ _ (isoS_len l)]
  have hp : isoS l ~ l := List.mergeSort_perm l _
  constructor
  · intro h
    rw [h] at hp
    exact ⟨fun x hx => (upL_mem _ x).1 (hp.mem_iff.2 hx), hp.nodup (upL_nodup _)⟩
  · rintro ⟨h1, h2⟩
    have hq : l ~ upL l.length := perm_of_len l _ h2 (fun x hx => (upL_mem _ x).2 (h1 x hx)) (by rw [upL_len]; exact Nat.le_refl _)
    have hs : (isoS l).Pairwise (fun a b => a ≤ b) := by
      have := List.pairwise_mergeSort (le := fun (x y : Int) => decide (x ≤ y)) (fun a b c h1 h2 => by simp at *; omega) (fun a b => by simp; omega) l
      exact this.imp (fun h => by simpa using h)
    exact (hp.trans hq).eq_of_pairwise (fun a b _ _ h1 h2 => Int.le_antisymm h1 h2) hs ((upL_lt _).imp (fun h => Int.le_of_lt h))
def ordB (l : List Int) : Bool := decide (isoUp (isoS l) l.length) && decide (1 ≤ l.length ∧ l.length ≤ 8)
theorem IsOrder_eq (l : List Int) (h : l.length ≤ 1000000000000) : impl_IsOrder.f l = some (ordB l) := by
  unfold impl_IsOrder.f
  rw [if_pos h]
  rfl
def inO (a l h : Int) : Bool := decide (l ≤ a) && decide (a ≤ h)
theorem l1In_o (a l h : Int) : spec_l1In.f a l h = some (inO a l h) := by
  unfold spec_l1In.f inO
  by_cases c : l ≤ a
  · rw [if_pos (by omega)]; simp [c]
  · rw [if_neg (by omega)]; simp [c]
theorem i1o (x : Nat) (h : x ≤ 1000) : wrap64 ((x : Int) + 1) = ((x + 1 : Nat) : Int) := (w64 (by omega) (by omega)).trans (by omega)
theorem l1Has_l0 (x : Int) (l : List Int) (hl : l.length ≤ 100) (e : Nat) : ∀ i : Nat, i + e = l.length → Ev (fun k => spec_l1Has.l0 k x l (l.length : Int) (i : Int)) (decide (x ∈ l.drop i)) := by
  induction e with
  | zero =>
    intro i hi
    refine Ev.step (fun k => by rw [spec_l1Has.l0]) ?_
    refine evNeg (by omega) (evSome ?_)
    rw [List.drop_of_length_le (by omega)]
    simp
  | succ e ih =>
    intro i hi
    refine Ev.step (fun k => by rw [spec_l1Has.l0]) ?_
    rw [i1o i (by omega), getD_drop_cons l i 0 (by omega)]
    have hr : rd l (i : Int) = l.getD i 0 := by unfold rd; rw [Int.toNat_natCast]
    rw [hr]
    refine evPos (by omega) (evPos (by omega) (evPos (by omega) (evSplit (fun c => ?_) (fun c => ?_))))
    · exact evSome (by rw [c]; simp)
    · refine evEq (ih (i + 1) (by omega)) ?_
      have : ¬ x = l.getD i 0 := fun e => c e.symm
      simp only [List.mem_cons, this, false_or]
theorem l1Has_ev (x : Int) (l : List Int) (hl : l.length ≤ 100) : Ev (fun k => spec_l1Has.f k l x) (decide (x ∈ l)) := by
  unfold spec_l1Has.f
  have h := l1Has_l0 x l hl l.length 0 (Nat.zero_add _)
  rw [List.drop_zero] at h
  exact h
theorem l1All_l0 (a b : Int) (l : List Int) (hl : l.length ≤ 100) (e : Nat) : ∀ i : Nat, i + e = l.length → Ev (fun k => spec_l1All.l0 k a b l (l.length : Int) (i : Int)) ((l.drop i).all fun x => inO x a b) := by
  induction e with
  | zero =>
    intro i hi
    refine Ev.step (fun k => by rw [spec_l1All.l0]) ?_
    refine evNeg (by omega) (evSome ?_)
    rw [List.drop_of_length_le (by omega)]
    rfl
  | succ e ih =>
    intro i hi
    refine Ev.step (fun k => by rw [spec_l1All.l0]) ?_
    rw [i1o i (by omega), getD_drop_cons l i 0 (by omega), List.all_cons]
    have hr : rd l (i : Int) = l.getD i 0 := by unfold rd; rw [Int.toNat_natCast]
    rw [hr]
    refine evPos (by omega) (evPos (by omega) (evPos (by omega) (evBind0 (l1In_o _ _ _) ?_)))
    cases inO (l.getD i 0) a b with
    | true => exact evPos rfl (by simpa using ih (i + 1) (by omega))
    | false => exact evNeg (by simp) (evSome rfl)
/-- From place i on none comes twice. -/
def freshB (l : List Int) : Nat → Nat → Bool
 | _, 0 => true
 | i, e + 1 => !decide (l.getD i 0 ∈ l.take i) && freshB l (i + 1) e
theorem fresh_iff (l : List Int) (e : Nat) : ∀ i : Nat, i + e = l.length → (l.take i).Nodup → (freshB l i e = true ↔ l.Nodup) := by
  induction e with
  | zero =>
    intro i hi hn
    rw [List.take_of_length_le (by omega)] at hn
    exact ⟨fun _ => hn, fun _ => rfl⟩
  | succ e ih =>
    intro i hi hn
    have ht : l.take (i + 1) = l.take i ++ [l.getD i 0] := by
      rw [List.take_succ_eq_append_getElem (by omega), getElem_getD l i 0 (by omega)]
    show (!decide (l.getD i 0 ∈ l.take i) && freshB l (i + 1) e) = true ↔ _
    by_cases hm : l.getD i 0 ∈ l.take i
    · rw [decide_eq_true hm]
      refine ⟨fun h => by simp at h, fun h => ?_⟩
      have h2 : (l.take (i + 1)).Nodup := h.sublist (List.take_sublist _ _)
      rw [ht, List.nodup_append] at h2
      exact absurd rfl (h2.2.2 _ hm _ (List.mem_singleton.2 rfl))
    · rw [decide_eq_false hm]
      have h2 : (l.take (i + 1)).Nodup := by
        rw [ht, List.nodup_append]
        exact ⟨hn, by simp, fun a ha b hb e => hm (by rw [← List.mem_singleton.1 hb, ← e]; exact ha)⟩
      simpa using ih (i + 1) (by omega) h2
theorem ptGood_l0 (l : List Int) (hl : l.length ≤ 8) (e : Nat) : ∀ i : Nat, i + e = l.length → Ev (fun k => spec_ptGood.l0 k l l (l.length : Int) (i : Int)) (freshB l i e) := by
  induction e with
  | zero =>
    intro i hi
    refine Ev.step (fun k => by rw [spec_ptGood.l0]) ?_
    exact evNeg (by omega) (evSome rfl)
  | succ e ih =>
    intro i hi
    refine Ev.step (fun k => by rw [spec_ptGood.l0]) ?_
    have hr : rd l (i : Int) = l.getD i 0 := by unfold rd; rw [Int.toNat_natCast]
    rw [i1o i (by omega), hr, Int.toNat_natCast]
    refine evPos (by omega) (evPos (by omega) (evPos (by omega) (evPos (by omega) (Ev.bind (l1Has_ev _ _ (by rw [List.length_take]; omega)) ?_))))
    show Ev _ (!decide (l.getD i 0 ∈ l.take i) && freshB l (i + 1) e)
    cases decide (l.getD i 0 ∈ l.take i) with
    | true => exact evPos rfl (evSome rfl)
    | false => exact evNeg (by simp) (by simpa using ih (i + 1) (by omega))
theorem ptGood_ev (l : List Int) : Ev (fun k => spec_ptGood.f k l) (ordB l) := by
  unfold spec_ptGood.f
  refine evBind0 (l1In_o _ _ _) ?_
  by_cases hn : 1 ≤ l.length ∧ l.length ≤ 8
  · have h1 : inO (l.length : Int) 1 8 = true := by unfold inO; rw [decide_eq_true (by omega), decide_eq_true (by omega)]; rfl
    rw [h1]
    have hA := l1All_l0 1 (l.length : Int) l (by omega) l.length 0 (Nat.zero_add _)
    rw [List.drop_zero] at hA
    unfold spec_l1All.f
    refine evPos rfl (Ev.bind hA ?_)
    refine Ev.step (fun k => by rw [spec_ptGood.j0]) ?_
    have hiff := iso_iff l
    have hall : (l.all fun x => inO x 1 (l.length : Int)) = true ↔ ∀ x ∈ l, 1 ≤ x ∧ x ≤ (l.length : Int) := by
      rw [List.all_eq_true]
      exact ⟨fun h x hx => by have := h x hx; unfold inO at this; simpa using this, fun h x hx => by have := h x hx; unfold inO; simpa using this⟩
    have hf := fresh_iff l l.length 0 (Nat.zero_add _) (by simp)
    unfold ordB
    rw [decide_eq_true hn, Bool.and_true]
    cases hb : l.all fun x => inO x 1 (l.length : Int) with
    | false =>
      refine evPos rfl (evSome ?_)
      rw [decide_eq_false (fun h => by have := hall.2 (hiff.1 h).1; rw [hb] at this; cases this)]
    | true =>
      refine evNeg (by simp) (evEq (ptGood_l0 l hn.2 l.length 0 (Nat.zero_add _)) ?_)
      cases hfb : freshB l 0 l.length with
      | true => rw [decide_eq_true (hiff.2 ⟨hall.1 hb, hf.1 hfb⟩)]
      | false => rw [decide_eq_false (fun h => by have := hf.2 (hiff.1 h).2; rw [hfb] at this; cases this)]
  · have h1 : inO (l.length : Int) 1 8 = false := by
      unfold inO
      by_cases h1 : 1 ≤ l.length
      · rw [decide_eq_false (show ¬ (l.length : Int) ≤ 8 by omega), Bool.and_false]
      · rw [decide_eq_false (show ¬ (1 : Int) ≤ (l.length : Int) by omega), Bool.false_and]
    rw [h1]
    refine evNeg (by simp) (Ev.step (fun k => by rw [spec_ptGood.j0]) ?_)
    refine evPos rfl (evSome ?_)
    unfold ordB
    rw [decide_eq_false hn, Bool.and_false]
end Go.Proofs.YtncdecmcdlfmmaaDoor.X
end
section
/- What makes a river: the program and the reference; the hidden ones have numbers. -/
--! needs LBase LIn spec_rvGood strings_Trim impl_IsRiver
namespace Go.Proofs.YtncdecmcdlfmmaaDoor.X
open Go.Proofs.YtncdecmcdlfmmaaDoor.Sq Go.RowKit Go.Proofs.YtncdecmcdlfmmaaDoorW.PrintWords Go.Proofs.YtncdecmcdlfmmaaDoorW.PrintLast Go.Proofs.YtncdecmcdlfmmaaDoorW.PrintMore
attribute [local go_sem] max2_int min2_int max_two min_two max_three min_three max_four min_four   -- for this text's walks alone
set_option linter.unusedVariables false
set_option linter.unusedSimpArgs false
def rvSign (b : UInt8) : Bool := b == 111 || b == 46
def goodL (r : ByteArray) : Bool := inB (r.size : Int) 1 40 && r.data.toList.all rvSign
theorem trimS_nil (l cs : List UInt8) : Lib.trimS l cs = [] ↔ ∀ b ∈ l, cs.contains b = true := by
  have hd : ∀ l : List UInt8, l.dropWhile (cs.contains ·) = [] ↔ ∀ b ∈ l, cs.contains b = true := by
    intro l
    induction l with
    | nil => simp
    | cons a l ih =>
      by_cases h : cs.contains a = true
      · rw [List.dropWhile_cons_of_pos h, ih]
        exact ⟨(fun hl b hb => (List.mem_cons.1 hb).elim (fun e => by rw [e]; exact h) (fun hb => hl b hb)), fun hl b hb => hl b (List.mem_cons_of_mem _ hb)⟩
      · rw [List.dropWhile_cons_of_neg h]
        exact ⟨(fun hl => by cases hl), fun hl => absurd (hl a (List.mem_cons_self ..)) h⟩
  unfold Lib.trimS Lib.trimLeftS Lib.trimRightS
  rw [hd]
  constructor
  · intro h
    by_cases he : l.reverse.dropWhile (cs.contains ·) = []
    · exact fun b hb => (hd _).1 he b (List.mem_reverse.2 hb)
    · exfalso
      have h1 := List.head_mem he
      have h2 := List.head_dropWhile_not (cs.contains ·) he
      have h3 := h _ (List.mem_reverse.2 h1)
      rw [h3] at h2
      cases h2
  · intro h b hb
    have hb2 := List.mem_reverse.1 hb
    exact h b (List.mem_reverse.1 ((List.dropWhile_sublist _).subset hb2))
theorem sign_contains (b : UInt8) : [111, 46].contains b = rvSign b := by
  unfold rvSign
  simp [List.contains_cons]
  rfl
theorem IsRiver_eq (r : ByteArray) (h : r.size ≤ 9223372036854775807) : impl_IsRiver.f r = some (goodL r) := by
  unfold impl_IsRiver.f goodL
  rw [within_eq]
  simp only [Option.bind_some]
  cases inB (r.size : Int) 1 40 with
  | false => rfl
  | true =>
    rw [if_pos rfl, Bool.true_and]
    unfold strings_Trim.f
    rw [if_pos ⟨h, by decide, by decide⟩]
    simp only [Option.bind_some, Option.some.injEq]
    have hl : (⟨(Lib.trimS r.data.toList (⟨#[111, 46]⟩ : ByteArray).data.toList).toArray⟩ : ByteArray).toList = Lib.trimS r.data.toList [111, 46] := by
      rw [ByteArray.toList_eq]
    rw [hl, Bool.eq_iff_iff, beq_iff_eq, trimS_nil, List.all_eq_true]
    exact ⟨fun h b hb => by rw [← sign_contains]; exact h b hb, fun h b hb => by rw [sign_contains]; exact h b hb⟩
theorem bt_drop (r : ByteArray) (i : Nat) (h : i < r.size) : ∃ b : UInt8, bt r (i : Int) = (b.toNat : Int) ∧ r.data.toList.drop i = b :: r.data.toList.drop (i + 1) := by
  refine ⟨r[i], ?_, ?_⟩
  · unfold bt
    rw [dif_pos (by rw [Int.toNat_natCast]; exact h)]
    congr 1
  · rw [List.drop_eq_getElem_cons (by rw [data_length]; exact h)]
    rfl
theorem sign_num (b : UInt8) : rvSign b = (decide ((b.toNat : Int) = 111) || decide ((b.toNat : Int) = 46)) := by
  unfold rvSign
  have h : ∀ c : UInt8, (b == c) = decide ((b.toNat : Int) = (c.toNat : Int)) := by
    intro c
    rw [Bool.eq_iff_iff, beq_iff_eq, decide_eq_true_eq, ← UInt8.toNat_inj]
    omega
  rw [h 111, h 46]
  rfl
theorem rvGood_l0 (r : ByteArray) (hr : r.size ≤ 100) (e : Nat) : ∀ i : Nat, i + e = r.size → Ev (fun k => spec_rvGood.l0 k r (i : Int)) ((r.data.toList.drop i).all rvSign) := by
  induction e with
  | zero =>
    intro i hi
    refine Ev.step (fun k => by rw [spec_rvGood.l0]) ?_
    refine evNeg (by omega) (evSome ?_)
    rw [List.drop_of_length_le (by rw [data_length]; omega)]
    rfl
  | succ e ih =>
    intro i hi
    refine Ev.step (fun k => by rw [spec_rvGood.l0]) ?_
    obtain ⟨b, hb, hd⟩ := bt_drop r i (by omega)
    rw [hb, hd, List.all_cons, sign_num, show wrap64 ((i : Int) + 1) = ((i + 1 : Nat) : Int) from (w64 (by omega) (by omega)).trans (by omega)]
    refine evPos (by omega) (evPos (by omega) (evSplit (fun c => ?_) (fun c => evSplit (fun c2 => ?_) (fun c2 => ?_))))
    · rw [decide_eq_true c]
      simpa using ih (i + 1) (by omega)
    · rw [decide_eq_true c2, Bool.or_true]
      simpa using ih (i + 1) (by omega)
    · rw [decide_eq_false c, decide_eq_false c2]
      exact evSome rfl
theorem rvGood_ev (r : ByteArray) : Ev (fun k => spec_rvGood.f k r) (goodL r) := by
  unfold spec_rvGood.f goodL
  refine evBind0 (l1In_eq _ _ _) ?_
  cases hi : inB (r.size : Int) 1 40 with
  | false => exact evNeg (by simp) (evSome rfl)
  | true =>
    have hr : r.size ≤ 100 := by
      unfold inB at hi
      simp only [Bool.and_eq_true, decide_eq_true_eq] at hi
      omega
    have h := rvGood_l0 r hr r.size 0 (Nat.zero_add _)
    rw [List.drop_zero] at h
    exact evPos rfl (by simpa using h)
end Go.Proofs.YtncdecmcdlfmmaaDoor.X
end
section
/- What makes a pond: the program and the reference. -/
--! needs LBase LIn LRvGood spec_fgGood impl_IsPond
namespace Go.Proofs.YtncdecmcdlfmmaaDoor.X
open Go.Proofs.YtncdecmcdlfmmaaDoor.Sq Go.RowKit Go.Proofs.YtncdecmcdlfmmaaDoorW.PrintWords Go.Proofs.YtncdecmcdlfmmaaDoorW.PrintLast Go.Proofs.YtncdecmcdlfmmaaDoorW.PrintMore
attribute [local go_sem] max2_int min2_int max_two min_two max_three min_three max_four min_four   -- for this text's walks alone
set_option linter.unusedVariables false
set_option linter.unusedSimpArgs false
def fgSign (b : UInt8) : Bool := b == 114 || b == 108 || b == 46
def pondL (r : ByteArray) : Bool := inB (r.size : Int) 1 9 && r.data.toList.all fgSign
theorem fg_contains (b : UInt8) : [114, 108, 46].contains b = fgSign b := by
  unfold fgSign
  simp [List.contains_cons]
  rw [← Bool.or_assoc]
  rfl
theorem IsPond_eq (r : ByteArray) (h : r.size ≤ 9223372036854775807) : impl_IsPond.f r = some (pondL r) := by
  unfold impl_IsPond.f pondL
  rw [within_eq]
  simp only [Option.bind_some]
  cases inB (r.size : Int) 1 9 with
  | false => rfl
  | true =>
    rw [if_pos rfl, Bool.true_and]
    unfold strings_Trim.f
    rw [if_pos ⟨h, by decide, by decide⟩]
    simp only [Option.bind_some, Option.some.injEq]
    have hl : (⟨(Lib.trimS r.data.toList (⟨#[114, 108, 46]⟩ : ByteArray).data.toList).toArray⟩ : ByteArray).toList = Lib.trimS r.data.toList [114, 108, 46] := by
      rw [ByteArray.toList_eq]
    rw [hl, Bool.eq_iff_iff, beq_iff_eq, trimS_nil, List.all_eq_true]
    exact ⟨fun h b hb => by rw [← fg_contains]; exact h b hb, fun h b hb => by rw [fg_contains]; exact h b hb⟩
theorem fg_num (b : UInt8) : fgSign b = (decide ((b.toNat : Int) = 114) || decide ((b.toNat : Int) = 108) || decide ((b.toNat : Int) = 46)) := by
  unfold fgSign
  have h : ∀ c : UInt8, (b == c) = decide ((b.toNat : Int) = (c.toNat : Int)) := by
    intro c
    rw [Bool.eq_iff_iff, beq_iff_eq, decide_eq_true_eq, ← UInt8.toNat_inj]
    omega
  rw [h 114, h 108, h 46]
  rfl
theorem fgGood_l0 (r : ByteArray) (hr : r.size ≤ 100) (e : Nat) : ∀ i : Nat, i + e = r.size → Ev (fun k => spec_fgGood.l0 k r (i : Int)) ((r.data.toList.drop i).all fgSign) := by
  induction e with
  | zero =>
    intro i hi
    refine Ev.step (fun k => by rw [spec_fgGood.l0]) ?_
    refine evNeg (by omega) (evSome ?_)
    rw [List.drop_of_length_le (by rw [data_length]; omega)]
    rfl
  | succ e ih =>
    intro i hi
    refine Ev.step (fun k => by rw [spec_fgGood.l0]) ?_
    obtain ⟨b, hb, hd⟩ := bt_drop r i (by omega)
    rw [hb, hd, List.all_cons, fg_num, show wrap64 ((i : Int) + 1) = ((i + 1 : Nat) : Int) from (w64 (by omega) (by omega)).trans (by omega)]
    refine evPos (by omega) (evPos (by omega) (evSplit (fun c => ?_) (fun c => evSplit (fun c2 => ?_) (fun c2 => evSplit (fun c3 => ?_) (fun c3 => ?_)))))
    · rw [decide_eq_true c]
      simpa using ih (i + 1) (by omega)
    · rw [decide_eq_true c2, Bool.or_true]
      simpa using ih (i + 1) (by omega)
    · rw [decide_eq_true c3, Bool.or_true]
      simpa using ih (i + 1) (by omega)
    · rw [decide_eq_false c, decide_eq_false c2, decide_eq_false c3]
      exact evSome rfl
theorem fgGood_ev (r : ByteArray) : Ev (fun k => spec_fgGood.f k r) (pondL r) := by
  unfold spec_fgGood.f pondL
  refine evBind0 (l1In_eq _ _ _) ?_
  cases hi : inB (r.size : Int) 1 9 with
  | false => exact evNeg (by simp) (evSome rfl)
  | true =>
    have hr : r.size ≤ 100 := by
      unfold inB at hi
      simp only [Bool.and_eq_true, decide_eq_true_eq] at hi
      omega
    have h := fgGood_l0 r hr r.size 0 (Nat.zero_add _)
    rw [List.drop_zero] at h
    exact evPos rfl (by simpa using h)
end Go.Proofs.YtncdecmcdlfmmaaDoor.X
end
section
/- A list of numbers copied, as the laws do. -/
--! needs LBase laws_toIntS
namespace Go.Proofs.YtncdecmcdlfmmaaDoor.X
open Go.Proofs.YtncdecmcdlfmmaaDoor.Sq Go.RowKit Go.Proofs.YtncdecmcdlfmmaaDoorW.PrintWords Go.Proofs.YtncdecmcdlfmmaaDoorW.PrintLast Go.Proofs.YtncdecmcdlfmmaaDoorW.PrintMore
attribute [local go_sem] max2_int min2_int max_two min_two max_three min_three max_four min_four   -- for this text's walks alone
set_option linter.unusedVariables false
set_option linter.unusedSimpArgs false
theorem toIntS_l0 (l : List Int) (hl : l.length ≤ 1048576) (z : List Int) (hz : z.length = l.length) (d : Nat) : ∀ i : Nat, i + d = l.length → Ev (fun k => laws_toIntS.l0 k l (l.take i ++ z.drop i) (i : Int)) l := by
  induction d with
  | zero =>
    intro i hi
    refine Ev.step (fun k => by rw [laws_toIntS.l0]) ?_
    refine evNeg (by omega) (evSome ?_)
    rw [List.take_of_length_le (by omega), List.drop_of_length_le (by omega), List.append_nil]
  | succ d ih =>
    intro i hi
    refine Ev.step (fun k => by rw [laws_toIntS.l0]) ?_
    have hm := mid_len l z i hz (by omega)
    have h2 := ih (i + 1) (by omega)
    rw [← set_mid l z i (by omega) hz] at h2
    have hr : rd l (i : Int) = l[i]'(by omega) := by unfold rd; rw [Int.toNat_natCast, getElem_getD l i 0 (by omega)]
    rw [show wrap64 ((i : Int) + 1) = ((i + 1 : Nat) : Int) from (w64 (by omega) (by omega)).trans (by omega), hr, Int.toNat_natCast]
    exact evPos (by omega) (evPos (by omega) (evPos (by rw [hm]; omega) h2))
theorem toIntS_ev (l : List Int) (hl : l.length ≤ 1048576) : Ev (fun k => laws_toIntS.f k l) l := by
  unfold laws_toIntS.f
  rw [Int.toNat_natCast]
  refine evPos (by omega) (evPos (by omega) ?_)
  have h := toIntS_l0 l hl (List.replicate l.length 0) (by simp) l.length 0 (Nat.zero_add _)
  simpa using h
end Go.Proofs.YtncdecmcdlfmmaaDoor.X
end
section
/- The program's IsDesk and the reference's come to the same, at every input. -/
namespace Go.Proofs.YtncdecmcdlfmmaaDoor.Pure
open Go.RowKit Go.Proofs.YtncdecmcdlfmmaaDoor.X Go.Proofs.YtncdecmcdlfmmaaDoorW.PrintWords Go.Proofs.YtncdecmcdlfmmaaDoorW.PrintLast
theorem szDesk_or (r p : ByteArray) (c : Int) (b : List S77) (o : List Int) (h1 : r.size ≤ maxLen) (h2 : p.size ≤ maxLen) (h3 : b.length ≤ maxLen) (h4 : o.length ≤ maxLen) :
    ∃ z, laws_szDesk.f r p c b o 1048576 = some z ∧ (z < 0 ∨ (r.size ≤ 1048576 ∧ p.size ≤ 1048576 ∧ b.length ≤ 1048576 ∧ o.length ≤ 1048576)) := by
  unfold maxLen at h1 h2 h3 h4
  unfold laws_szDesk.f laws_szIsles.f laws_szBridgeS.f laws_szIntS.f
  rw [w64 (x := 1048576 - (r.size : Int)) (by omega) (by omega)]
  by_cases c1 : (1048576 : Int) - (r.size : Int) < 0
  · rw [if_pos c1]
    exact ⟨-1, rfl, .inl (by omega)⟩
  rw [if_neg c1, w64 (x := 1048576 - (r.size : Int) - (p.size : Int)) (by omega) (by omega)]
  by_cases c2 : (1048576 : Int) - (r.size : Int) - (p.size : Int) < 0
  · rw [if_pos c2]
    exact ⟨-1, rfl, .inl (by omega)⟩
  rw [if_neg c2, w64 (x := 1048576 - (r.size : Int) - (p.size : Int) - (b.length : Int)) (by omega) (by omega)]
  by_cases c3 : (1048576 : Int) - (r.size : Int) - (p.size : Int) - (b.length : Int) < 0
  · rw [if_pos c3]
    exact ⟨-1, rfl, .inl (by omega)⟩
  rw [if_neg c3]
  simp only [Option.bind_some]
  rw [if_neg c3]
  simp only [Option.bind_some]
  rw [if_neg c3, w64 (x := 1048576 - (r.size : Int) - (p.size : Int) - (b.length : Int) - (o.length : Int)) (by omega) (by omega)]
  by_cases c4 : (1048576 : Int) - (r.size : Int) - (p.size : Int) - (b.length : Int) - (o.length : Int) < 0
  · rw [if_pos c4]
    exact ⟨-1, rfl, .inl (by omega)⟩
  rw [if_neg c4]
  simp only [Option.bind_some]
  rw [if_neg c4]
  exact ⟨_, rfl, .inr (by omega)⟩
def deskB (r p : ByteArray) (c : Int) (b : List S51) (o : List Int) : Bool := goodL r && (pondL p && (islesB c b && ordB o))
theorem desk_spec (r p : ByteArray) (c : Int) (b : List S51) (o : List Int) : Ev (fun k => spec_IsDesk.f k r p c b o) (deskB r p c b o) := by
  unfold spec_IsDesk.f spec_coGood.f deskB
  refine Ev.bind (Ev.bind (rvGood_ev r) ?_) (evSome rfl)
  cases goodL r with
  | false => exact evNeg (by simp) (evSome rfl)
  | true =>
    refine evPos rfl (Ev.bind (fgGood_ev p) ?_)
    cases pondL p with
    | false => exact evNeg (by simp) (evSome rfl)
    | true =>
      refine evPos rfl (Ev.bind (isGood_ev c b) ?_)
      cases islesB c b with
      | false => exact evNeg (by simp) (evSome rfl)
      | true => exact evPos rfl (Ev.bind (ptGood_ev o) (evSome rfl))
theorem desk_impl (r p : ByteArray) (c : Int) (b : List S51) (o : List Int) (h1 : r.size ≤ 9223372036854775807) (h2 : p.size ≤ 9223372036854775807) (h4 : o.length ≤ 1000000000000) : Ev (fun k => impl_IsDesk.f k r p c b o) (deskB r p c b o) := by
  unfold impl_IsDesk.f deskB
  refine evBind0 (IsRiver_eq r h1) ?_
  cases goodL r with
  | false => exact evNeg (by simp) (evSome rfl)
  | true =>
    refine evPos rfl (evBind0 (IsPond_eq p h2) ?_)
    cases pondL p with
    | false => exact evNeg (by simp) (evSome rfl)
    | true =>
      refine evPos rfl (Ev.bind (AreIsles_ev c b) ?_)
      cases islesB c b with
      | false => exact evNeg (by simp) (evSome rfl)
      | true => exact evPos rfl (evBind0 (IsOrder_eq o h4) (evSome rfl))
theorem FnExactIsDesk : laws_FnExactIsDesk.Pure := by
  intro r p c b o h1 h2 _ h3 h4
  refine Ev.rounds ?_
  unfold laws_FnExactIsDesk.f
  obtain ⟨z, hz, hor⟩ := szDesk_or r p c b o h1 h2 h3.1 h4.1
  refine evBind0 hz ?_
  rcases hor with hneg | ⟨s1, s2, s3, s4⟩
  · exact evPos hneg (evSome rfl)
  by_cases hneg : z < 0
  · exact evPos hneg (evSome rfl)
  have hT : Ev (fun k => laws_toDesk.f k r p c b o) (r, p, c, b.map cvBr, o) := by
    unfold laws_toDesk.f laws_toIsles.f
    exact Ev.bind (Ev.bind (toBridgeS_ev b s3) (evSome rfl)) (Ev.bind (toIntS_ev o s4) (evSome rfl))
  have hE : Ev (fun k => laws_eqDesk.f k r p c (b.map cvBr) o r p c (b.map cvBr) o) true := by
    unfold laws_eqDesk.f laws_eqIsles.f
    exact evPos rfl (evPos rfl (Ev.bind (evPos rfl (Ev.bind (eqBridgeS_self _ (by simp; omega)) (evPos rfl (evSome rfl)))) (evPos rfl (Ev.bind (eqIntS_self o s4) (evPos rfl (evSome rfl))))))
  have hS := desk_spec r p c (b.map cvBr) o
  have hI := desk_impl r p c (b.map cvBr) o (by omega) (by omega) (by omega)
  exact evNeg hneg (Ev.bind hT (Ev.bind hS (Ev.bind hT (Ev.bind hI (evNeg (by simp) (Ev.bind hT (Ev.bind hE (evPos rfl (evSome rfl)))))))))
end Go.Proofs.YtncdecmcdlfmmaaDoor.Pure
end
