import Derived.Test.YtfegbmlcbdjcgaaDoorP5
import Derived.Test.YtfegbmlcbdjcgaaDoorP6
import Derived.Test.YtfegbmlcbdjcgaaDoorP7
import Derived.Test.YtfegbmlcbdjcgaaDoorP9
import Derived.Test.YtfegbmlcbdjcgaaDoorP10
import Derived.Test.YtfegbmlcbdjcgaaDoorP11
import Derived.Test.YtfegbmlcbdjcgaaDoorP12
section
-- Written by a program of this session (wip/tools/mp.py) over the kit's print of the translation.
namespace Go.Proofs.YtfegbmlcbdjcgaaDoor.X
open Go.Proofs.YtfegbmlcbdjcgaaDoor.Sq Go.RowKit Go.Proofs.YtfegbmlcbdjcgaaDoorW.PrintWords Go.Proofs.YtfegbmlcbdjcgaaDoorW.PrintLast Go.Proofs.YtfegbmlcbdjcgaaDoorW.PrintMore
attribute [local go_sem] max2_int min2_int max_two min_two max_three min_three max_four min_four   -- for this text's walks alone
set_option linter.unusedVariables false
set_option linter.unusedSimpArgs false
/-! ### laws_eqIntS: function 7 -/
def laws_eqIntS.l0 : Nat → List Int → List Int → Int → Option (Bool)
 | 0, _, _, _ => none
 | k + 1, x0, x1, x5 => if x5 < (x0.length : Int) then (if 0 ≤ x5 then (if x5 < (x1.length : Int) then (if (rd x0 x5) = (rd x1 x5) then (laws_eqIntS.l0 k x0 x1 (wrap64 (x5 + 1))) else (some false)) else (none)) else (none)) else (some true)
def laws_eqIntS.f (k : Nat) (l0 : List Int) (l1 : List Int) : Option (Bool) := if (l0.length : Int) = (l1.length : Int) then (laws_eqIntS.l0 k l0 l1 0) else (some false)
set_option maxHeartbeats 8000000 in
set_option maxRecDepth 100000 in
theorem laws_eqIntS.calls (k : Nat) (A0 : Option Addr) (c0 : Nat) (l0 : List Int) (A1 : Option Addr) (c1 : Nat) (l1 : List Int) (r : Bool) (w : World) (hr0 : Kd.C (Kd.int .i64) w A0 l0.length l0) (hc0 : l0.length ≤ c0) (hr1 : Kd.C (Kd.int .i64) w A1 l1.length l1) (hc1 : l1.length ≤ c1) (h : laws_eqIntS.f k l0 l1 = some r) :
  Calls Tryd.prog 7 #[.slice A0 l0.length c0, .slice A1 l1.length c1] w fun e w' => e = .returned (.bool r) ∧ Drawn0 w w' := by
 have HR0 := am hr0
 have HC0 := am hc0
 clear hr0 hc0
 have HR1 := am hr1
 have HC1 := am hc1
 clear hr1 hc1
 have H : (if (l0.length : Int) = (l1.length : Int) then (laws_eqIntS.l0 k l0 l1 0) else (some false)) = some r := h
 clear h
 by_cases c3 : (l0.length : Int) = (l1.length : Int)
 ·rw [if_pos c3] at H
  have c3b0 : ((l0.length : Int) == (l1.length : Int)) = true := beq_iff_eq.mpr c3
  have c3b1 : ((l0.length : Int) != (l1.length : Int)) = false := bne_eq_false_iff_eq.mpr c3
  have c3b2 : (l0.length == l1.length) = true := by first | simpa using c3 | (simp at c3 ⊢; omega)
  clear c3
  have H' := am H
  clear H
  go_enter Tryd.func7, Tryd.ntmps7
  go_wp2
  repeat (go_quiet (fail); try go_wp2)
  go_loopg [5] k (fun kq v5 w' => ∃ (x5_1 : Int), v5 = .int .i64 x5_1 ∧ Aside0 (laws_eqIntS.l0 kq l0 l1 x5_1 = some r) ∧ Aside0 (kq ≤ k) ∧ Drawn0 w w')
  case atStart => exact ⟨(0), (by first | rfl | (simp; done) | (simp [*]; done)), H', ⟨Nat.le_refl _⟩, by repeat (first | exact Drawn0.refl _ | apply Drawn0.step)⟩
  case round =>
   clear H'
   try clear c1
   try clear p2
   try clear c3
   try clear c3b0
   try clear c3b1
   try clear c3b2
   obtain ⟨x5_1, rfl, HA, HK1, ⟨m1, rfl⟩⟩ := hrel
   cases gk with
   | zero => exact absurd HA.out (by simp [laws_eqIntS.l0])
   | succ k1 =>
    have H := HA.out
    clear HA
    simp only [laws_eqIntS.l0] at H
    by_cases c4 : x5_1 < (l0.length : Int)
    ·rw [if_pos c4] at H
     have c4b0 : decide (x5_1 < (l0.length : Int)) = true := decide_eq_true c4
     clear c4
     by_cases c5 : 0 ≤ x5_1
     ·rw [if_pos c5] at H
      have c5b0 : decide (0 ≤ x5_1) = true := decide_eq_true c5
      clear c5
      by_cases c6 : x5_1 < (l1.length : Int)
      ·rw [if_pos c6] at H
       have c6b0 : decide (x5_1 < (l1.length : Int)) = true := decide_eq_true c6
       clear c6
       by_cases c7 : (rd l0 x5_1) = (rd l1 x5_1)
       ·rw [if_pos c7] at H
        have c7b0 : ((rd l0 x5_1) == (rd l1 x5_1)) = true := beq_iff_eq.mpr c7
        have c7b1 : ((rd l0 x5_1) != (rd l1 x5_1)) = false := bne_eq_false_iff_eq.mpr c7
        clear c7
        have H' := am H
        clear H
        have p169 : 0 ≤ (x5_1 : Int) := of_decide_eq_true (by first | (with_reducible assumption) | assumption)
        have q169 : x5_1 < (l0.length : Int) := of_decide_eq_true (by first | (with_reducible assumption) | assumption)
        obtain ⟨ad169, e169, hx169_0⟩ := Kd.at_int HR0.out x5_1 p169 q169
        cases e169
        replace p169 := eq_true p169
        replace q169 := eq_true q169
        have p170 : 0 ≤ (x5_1 : Int) := of_decide_eq_true (by first | (with_reducible assumption) | assumption)
        have q170 : x5_1 < (l1.length : Int) := of_decide_eq_true (by first | (with_reducible assumption) | assumption)
        obtain ⟨ad170, e170, hx170_0⟩ := Kd.at_int HR1.out x5_1 p170 q170
        cases e170
        replace p170 := eq_true p170
        replace q170 := eq_true q170
        go_wp2
        repeat (go_quiet (fail); try go_wp2)
        go_roundg k1
        case measure => have := HK1.out; omega
        case rel => exact ⟨(wrap64 (x5_1 + 1)), (by first | rfl | (simp; done) | (simp [*]; done)), H', ⟨by have := HK1.out; omega⟩, by repeat (first | exact Drawn0.refl _ | apply Drawn0.step)⟩
       ·rw [if_neg c7] at H
        have c7b0 : ((rd l0 x5_1) == (rd l1 x5_1)) = false := beq_eq_false_iff_ne.mpr c7
        have c7b1 : ((rd l0 x5_1) != (rd l1 x5_1)) = true := bne_iff_ne.mpr c7
        obtain rfl := Option.some.inj H
        have p169 : 0 ≤ (x5_1 : Int) := of_decide_eq_true (by first | (with_reducible assumption) | assumption)
        have q169 : x5_1 < (l0.length : Int) := of_decide_eq_true (by first | (with_reducible assumption) | assumption)
        obtain ⟨ad169, e169, hx169_0⟩ := Kd.at_int HR0.out x5_1 p169 q169
        cases e169
        replace p169 := eq_true p169
        replace q169 := eq_true q169
        have p170 : 0 ≤ (x5_1 : Int) := of_decide_eq_true (by first | (with_reducible assumption) | assumption)
        have q170 : x5_1 < (l1.length : Int) := of_decide_eq_true (by first | (with_reducible assumption) | assumption)
        obtain ⟨ad170, e170, hx170_0⟩ := Kd.at_int HR1.out x5_1 p170 q170
        cases e170
        replace p170 := eq_true p170
        replace q170 := eq_true q170
        go_wp2
        repeat (go_quiet (fail); try go_wp2)
        go_ret
        exact ⟨by first | rfl | (simp; done) | (simp [*]; done), by repeat (first | exact Drawn0.refl _ | apply Drawn0.step)⟩
      ·rw [if_neg c6] at H
       exact absurd H (by simp)
     ·rw [if_neg c5] at H
      exact absurd H (by simp)
    ·rw [if_neg c4] at H
     have c4b0 : decide (x5_1 < (l0.length : Int)) = false := decide_eq_false c4
     clear c4
     obtain rfl := Option.some.inj H
     go_wp2
     repeat (go_quiet (fail); try go_wp2)
     go_ret
     exact ⟨by first | rfl | (simp; done) | (simp [*]; done), by repeat (first | exact Drawn0.refl _ | apply Drawn0.step)⟩
 ·rw [if_neg c3] at H
  have c3b0 : ((l0.length : Int) == (l1.length : Int)) = false := beq_eq_false_iff_ne.mpr c3
  have c3b1 : ((l0.length : Int) != (l1.length : Int)) = true := bne_iff_ne.mpr c3
  have c3b2 : (l0.length == l1.length) = false := by first | simpa using c3 | (simp at c3 ⊢; omega)
  obtain rfl := Option.some.inj H
  go_enter Tryd.func7, Tryd.ntmps7
  go_wp2
  repeat (go_quiet (fail); try go_wp2)
  go_ret
  exact ⟨by first | rfl | (simp; done) | (simp [*]; done), by repeat (first | exact Drawn0.refl _ | apply Drawn0.step)⟩
/-! ### laws_FnExactFewestTurns: function 3 -/
def laws_FnExactFewestTurns.j0 : Nat → List Int → List Int → Bool → Option (Bool)
 | 0, _, _, _ => none
 | k + 1, x0, x5, x31 => if x31 = true then (none) else ((laws_toIntS.f k x0).bind fun t181 => ((laws_eqIntS.f k x5 t181).bind fun t184 => (if t184 = true then (some true) else (none))))
noncomputable def laws_FnExactFewestTurns.f (k : Nat) (l0 : List Int) : Option (Bool) := if (l0.length : Int) > 1048576 then (some true) else ((laws_toIntS.f k l0).bind fun t171 => ((spec_FewestTurns.f k t171).bind fun bt174 => ((laws_toIntS.f k l0).bind fun t176 => ((impl_FewestTurns.f k t176).bind fun bt179 => (if bt179.1 = bt174.1 then (laws_FnExactFewestTurns.j0 k l0 t176 (bt179.2 != bt174.2)) else (laws_FnExactFewestTurns.j0 k l0 t176 true))))))
set_option maxHeartbeats 8000000 in
set_option maxRecDepth 100000 in
theorem laws_FnExactFewestTurns.calls (k : Nat) (A0 : Option Addr) (c0 : Nat) (l0 : List Int) (r : Bool) (w : World) (hr0 : Kd.C (Kd.int .i64) w A0 l0.length l0) (hc0 : l0.length ≤ c0) (hT_pow10 : Tab_pow10 w) (h : laws_FnExactFewestTurns.f k l0 = some r) :
  Calls Tryd.prog 3 #[.slice A0 l0.length c0] w fun e w' => e = .returned (.bool r) ∧ Below w.heap.size w w' := by
 have HR0 := am hr0
 have HC0 := am hc0
 clear hr0 hc0
 have HT_pow10 := am hT_pow10
 clear hT_pow10
 have HB := am (Below.refl w.heap.size w)
 have H : (if (l0.length : Int) > 1048576 then (some true) else ((laws_toIntS.f k l0).bind fun t171 => ((spec_FewestTurns.f k t171).bind fun bt174 => ((laws_toIntS.f k l0).bind fun t176 => ((impl_FewestTurns.f k t176).bind fun bt179 => (if bt179.1 = bt174.1 then (laws_FnExactFewestTurns.j0 k l0 t176 (bt179.2 != bt174.2)) else (laws_FnExactFewestTurns.j0 k l0 t176 true))))))) = some r := h
 clear h
 by_cases c2 : (l0.length : Int) > 1048576
 ·rw [if_pos c2] at H
  have c2b0 : decide (1048576 < (l0.length : Int)) = true := decide_eq_true c2
  have c2b1 : decide (1048576 < l0.length) = true := decide_eq_true (by omega)
  clear c2
  obtain rfl := Option.some.inj H
  go_enter Tryd.func3, Tryd.ntmps3
  go_wp2
  go_ret
  exact ⟨by first | rfl | (simp [errW_none, errW_some] <;> rfl) | (simp [*, errW_none, errW_some] <;> rfl), hbS HB.out⟩
 ·rw [if_neg c2] at H
  have c2b0 : decide (1048576 < (l0.length : Int)) = false := decide_eq_false c2
  have c2b1 : decide (1048576 < l0.length) = false := decide_eq_false (by omega)
  clear c2
  replace H := Option.bind_eq_some_iff.mp H
  obtain ⟨t171, A30, H⟩ := H
  replace H : ((spec_FewestTurns.f k t171).bind fun bt174 => ((laws_toIntS.f k l0).bind fun t176 => ((impl_FewestTurns.f k t176).bind fun bt179 => (if bt179.1 = bt174.1 then (laws_FnExactFewestTurns.j0 k l0 t176 (bt179.2 != bt174.2)) else (laws_FnExactFewestTurns.j0 k l0 t176 true))))) = some r := H
  have A3 := am A30
  clear A30
  replace H := Option.bind_eq_some_iff.mp H
  obtain ⟨⟨t174, t175⟩, A40, H⟩ := H
  replace H : ((laws_toIntS.f k l0).bind fun t176 => ((impl_FewestTurns.f k t176).bind fun bt179 => (if bt179.1 = t174 then (laws_FnExactFewestTurns.j0 k l0 t176 (bt179.2 != t175)) else (laws_FnExactFewestTurns.j0 k l0 t176 true)))) = some r := H
  have A4 := am A40
  clear A40
  replace H := Option.bind_eq_some_iff.mp H
  obtain ⟨t176, A50, H⟩ := H
  replace H : ((impl_FewestTurns.f k t176).bind fun bt179 => (if bt179.1 = t174 then (laws_FnExactFewestTurns.j0 k l0 t176 (bt179.2 != t175)) else (laws_FnExactFewestTurns.j0 k l0 t176 true))) = some r := H
  have A5 := am A50
  clear A50
  replace H := Option.bind_eq_some_iff.mp H
  obtain ⟨⟨t179, t180⟩, A60, H⟩ := H
  replace H : (if t179 = t174 then (laws_FnExactFewestTurns.j0 k l0 t176 (t180 != t175)) else (laws_FnExactFewestTurns.j0 k l0 t176 true)) = some r := H
  have A6 := am A60
  clear A60
  have HC7 := am H
  clear H
  go_enter Tryd.func3, Tryd.ntmps3
  go_upto_region 6 with (first | ((with_reducible refine gate_callee (f := 5) rfl ?_); refine goesL_ (some 13) rfl rfl Tryd.func5 (by kernel_rfl) rfl #[.slice A0 l0.length c0] rfl (by (try simp only [List.map_toArray, List.map_cons, List.map_nil]); first | done | rfl | (simp only [List.length_drop, List.length_take]; rfl)) ?_; (with_reducible refine (laws_toIntS.calls k _ _ l0 t171 _ ?side1 ?side2 A3.out).mono ?_); (case side1 => repeat (first | exact HR0.out | (with_reducible refine Kd.C_alloc ?_ _) | (with_reducible refine Kd.C_drewN ?_ _) | (with_reducible refine Kd.C_drew ?_))); (case side2 => exact HC0.out); rintro e w8 ⟨v172, rfl, ho0, hb⟩; refine ⟨_, rfl, ?_⟩; have n0_ := am (Kd.R_lower ho0 (below_size (hbS HB.out))); have n1_ := am (below_step (hbS HB.out) hb); clear HB; have HO173 := n0_; have HB := n1_; clear n0_ n1_; (try clear hb); (try clear hb2); (try clear hk); (try clear hi); (try clear ho0); obtain ⟨Ao9, co9, eo9⟩ := Kd.R_slice HO173.out; subst eo9) | ((with_reducible refine gate_callee (f := 4) rfl ?_); refine goesL_ (some 14) rfl rfl Tryd.func4 (by kernel_rfl) rfl #[.slice Ao9 t171.length co9] rfl (by (try simp only [List.map_toArray, List.map_cons, List.map_nil]); first | done | rfl | (simp only [List.length_drop, List.length_take]; rfl)) ?_; (with_reducible refine (spec_FewestTurns.calls k (fun k_ => some k_ = (.slice Ao9 t171.length co9 : Value).ownBlock) _ _ t171 t174 t175 _ ?side1 A4.out).mono ?_); (case side1 => exact Kd.R_V (Kd.R_tight rfl (HO173.out))); rintro e w10 ⟨rfl, hb⟩; refine ⟨_, rfl, ?_⟩; have n0_ := am (Kd.R_below (roS HO173.out) hb); have n1_ := am (below_step (hbS HB.out) hb); clear HO173; clear HB; have HO173 := n0_; have HB := n1_; clear n0_ n1_; (try clear hb); (try clear hb2); (try clear hk); (try clear hi)) | ((with_reducible refine gate_callee (f := 5) rfl ?_); refine goesL_ (some 18) rfl rfl Tryd.func5 (by kernel_rfl) rfl #[.slice A0 l0.length c0] rfl (by (try simp only [List.map_toArray, List.map_cons, List.map_nil]); first | done | rfl | (simp only [List.length_drop, List.length_take]; rfl)) ?_; (with_reducible refine (laws_toIntS.calls k _ _ l0 t176 _ ?side1 ?side2 A5.out).mono ?_); (case side1 => repeat (first | exact (Kd.C_below HR0.out HB.out) | (with_reducible refine Kd.C_alloc ?_ _) | (with_reducible refine Kd.C_drewN ?_ _) | (with_reducible refine Kd.C_drew ?_))); (case side2 => exact HC0.out); rintro e w11 ⟨v177, rfl, ho0, hb⟩; refine ⟨_, rfl, ?_⟩; have n0_ := am (Kd.R_elder' (roS HO173.out) (Kd.R_base ho0) hb); have n1_ := am (Kd.R_lower (Kd.R_new' ho0 (Kd.R_lt (roS HO173.out))) (below_size (hbS HB.out))); have n2_ := am (below_step (hbS HB.out) hb); clear HO173; clear HB; have HO173 := n0_; have HO178 := n1_; have HB := n2_; clear n0_ n1_ n2_; (try clear hb); (try clear hb2); (try clear hk); (try clear hi); (try clear ho0); obtain ⟨Ao12, co12, eo12⟩ := Kd.R_slice HO178.out; subst eo12) | ((with_reducible refine gate_callee (f := 6) rfl ?_); refine goesL_ (some 21) rfl rfl Tryd.func6 (by kernel_rfl) rfl #[.slice Ao12 t176.length co12] rfl (by (try simp only [List.map_toArray, List.map_cons, List.map_nil]); first | done | rfl | (simp only [List.length_drop, List.length_take]; rfl)) ?_; (with_reducible refine (impl_FewestTurns.calls k _ _ t176 t179 t180 _ ?side1 ?side2 ?side3 A6.out).mono ?_); (case side1 => repeat (first | exact (Kd.R_reads' HO178.out).2.2 | (with_reducible refine Kd.C_alloc ?_ _) | (with_reducible refine Kd.C_drewN ?_ _) | (with_reducible refine Kd.C_drew ?_))); (case side2 => exact (Kd.R_reads' HO178.out).2.1); (case side3 => exact Tab_pow10.below HT_pow10.out (hbS HB.out)); rintro e w13 ⟨rfl, hb⟩; refine ⟨_, rfl, ?_⟩; have n0_ := am (Kd.R_below (roS HO173.out) hb); have n1_ := am (Kd.R_below (roS HO178.out) hb); have n2_ := am (below_step (hbS HB.out) hb); clear HO173; clear HO178; clear HB; have HO173 := n0_; have HO178 := n1_; have HB := n2_; clear n0_ n1_ n2_; (try clear hb); (try clear hb2); (try clear hk); (try clear hi)))
  (try simp only [Act.put, List.setIfInBounds_toArray, List.set_cons_zero, List.set_cons_succ])
  go_cut [31] (fun v31 wc => ∃ (kq : Nat) (x31_6 : Bool), v31 = .bool x31_6 ∧ Aside0 (laws_FnExactFewestTurns.j0 kq l0 t176 x31_6 = some r) ∧ Aside0 (kq ≤ k) ∧ Aside0 (Kd.R (Kd.int .i64) 3 wc w.heap.size (fun _ => True) (.slice Ao12 t176.length co12) t176) ∧ Aside0 (Below w.heap.size w wc))
  case first =>
   have H := HC7.out
   clear HC7
   by_cases c14 : t179 = t174
   ·rw [if_pos c14] at H
    have c14b0 : (t179 == t174) = true := beq_iff_eq.mpr c14
    have c14b1 : (t179 != t174) = false := bne_eq_false_iff_eq.mpr c14
    clear c14
    (first | rw [c14b0] | (simp only [i64_w, i32_w]; rw [c14b0]) | skip)
    have H' := am H
    clear H
    go_wp2
    go_meet
    case rel => exact ⟨_, ((t180 != t175)), (by first | rfl | (simp; done) | (simp [*]; done)), H', ⟨by first | omega | exact Nat.le_refl _⟩, ⟨by (with_reducible repeat (first | apply Kd.R_alloc | apply Kd.R_drewN | apply Kd.R_drew)); exact Kd.R_mono HO178.out (fun _ hk => trivial)⟩, ⟨hbS HB.out⟩⟩
   ·rw [if_neg c14] at H
    have c14b0 : (t179 == t174) = false := beq_eq_false_iff_ne.mpr c14
    have c14b1 : (t179 != t174) = true := bne_iff_ne.mpr c14
    (first | rw [c14b0] | (simp only [i64_w, i32_w]; rw [c14b0]) | skip)
    have H' := am H
    clear H
    go_wp2
    go_meet
    case rel => exact ⟨_, (true), (by first | rfl | (simp; done) | (simp [*]; done)), H', ⟨by first | omega | exact Nat.le_refl _⟩, ⟨by (with_reducible repeat (first | apply Kd.R_alloc | apply Kd.R_drewN | apply Kd.R_drew)); exact Kd.R_mono HO178.out (fun _ hk => trivial)⟩, ⟨hbS HB.out⟩⟩
  case rest =>
   clear HC7
   try clear c1
   try clear c2
   try clear c2b0
   try clear c2b1
   try clear p2
   try clear c3
   try clear c4
   try clear c5
   try clear c6
   try clear c14
   try clear c14b0
   try clear c14b1
   obtain ⟨kq, x31_6, rfl, HA, HJ6, HO_5, HB⟩ := hcut
   cases kq with
   | zero => exact absurd HA.out (by simp [laws_FnExactFewestTurns.j0])
   | succ kj6 =>
    have H := HA.out
    clear HA
    simp only [laws_FnExactFewestTurns.j0] at H
    by_cases c15 : x31_6 = true
    ·subst c15
     have H1 : (none) = some r := by rw [if_pos rfl] at H; exact H
     clear H
     have H := H1
     clear H1
     exact absurd H (by simp)
    ·replace c15 := Bool.eq_false_iff.mpr c15
     subst c15
     have H1 : ((laws_toIntS.f kj6 l0).bind fun t181 => ((laws_eqIntS.f kj6 t176 t181).bind fun t184 => (if t184 = true then (some true) else (none)))) = some r := by rw [if_neg (show ¬ (false = true) by decide)] at H; exact H
     clear H
     have H := H1
     clear H1
     replace H := Option.bind_eq_some_iff.mp H
     obtain ⟨t181, A160, H⟩ := H
     replace H : ((laws_eqIntS.f kj6 t176 t181).bind fun t184 => (if t184 = true then (some true) else (none))) = some r := H
     have A16 := am A160
     clear A160
     replace H := Option.bind_eq_some_iff.mp H
     obtain ⟨t184, A170, H⟩ := H
     replace H : (if t184 = true then (some true) else (none)) = some r := H
     have A17 := am A170
     clear A170
     by_cases c18 : t184 = true
     ·subst c18
      have H1 : (some true) = some r := by rw [if_pos rfl] at H; exact H
      clear H
      have H := H1
      clear H1
      obtain rfl := Option.some.inj H
      go_wp2_with (first | ((with_reducible refine gate_callee (f := 5) rfl ?_); refine goesL_ (some 34) rfl rfl Tryd.func5 (by kernel_rfl) rfl #[.slice A0 l0.length c0] rfl (by (try simp only [List.map_toArray, List.map_cons, List.map_nil]); first | done | rfl | (simp only [List.length_drop, List.length_take]; rfl)) ?_; (with_reducible refine (laws_toIntS.calls kj6 _ _ l0 t181 _ ?side1 ?side2 A16.out).mono ?_); (case side1 => repeat (first | exact (Kd.C_below HR0.out HB.out) | (with_reducible refine Kd.C_alloc ?_ _) | (with_reducible refine Kd.C_drewN ?_ _) | (with_reducible refine Kd.C_drew ?_))); (case side2 => exact HC0.out); rintro e w19 ⟨v182, rfl, ho0, hb⟩; refine ⟨_, rfl, ?_⟩; have n0_ := am (Kd.R_elder' (roS HO_5.out) (Kd.R_base ho0) hb); have n1_ := am (Kd.R_lower (Kd.R_new' ho0 (Kd.R_lt (roS HO_5.out))) (below_size (hbS HB.out))); have n2_ := am (below_step (hbS HB.out) hb); clear HO_5; clear HB; have HO_5 := n0_; have HO183 := n1_; have HB := n2_; clear n0_ n1_ n2_; (try clear hb); (try clear hb2); (try clear hk); (try clear hi); (try clear ho0); obtain ⟨Ao20, co20, eo20⟩ := Kd.R_slice HO183.out; subst eo20) | ((with_reducible refine gate_callee (f := 7) rfl ?_); refine goesL_ (some 35) rfl rfl Tryd.func7 (by kernel_rfl) rfl #[.slice Ao12 t176.length co12, .slice Ao20 t181.length co20] rfl (by (try simp only [List.map_toArray, List.map_cons, List.map_nil]); first | done | rfl | (simp only [List.length_drop, List.length_take]; rfl)) ?_; (with_reducible refine (laws_eqIntS.calls kj6 _ _ t176 _ _ t181 true _ ?side1 ?side2 ?side3 ?side4 A17.out).mono ?_); (case side1 => repeat (first | exact (Kd.R_reads' HO_5.out).2.2 | (with_reducible refine Kd.C_alloc ?_ _) | (with_reducible refine Kd.C_drewN ?_ _) | (with_reducible refine Kd.C_drew ?_))); (case side2 => exact (Kd.R_reads' HO_5.out).2.1); (case side3 => repeat (first | exact (Kd.R_reads' HO183.out).2.2 | (with_reducible refine Kd.C_alloc ?_ _) | (with_reducible refine Kd.C_drewN ?_ _) | (with_reducible refine Kd.C_drew ?_))); (case side4 => exact (Kd.R_reads' HO183.out).2.1); rintro e w' ⟨rfl, ⟨nd, rfl⟩⟩; refine ⟨_, rfl, ?_⟩))
      go_ret
      exact ⟨by first | rfl | (simp [errW_none, errW_some] <;> rfl) | (simp [*, errW_none, errW_some] <;> rfl), hbS HB.out⟩
     ·replace c18 := Bool.eq_false_iff.mpr c18
      subst c18
      have H1 : (none) = some r := by rw [if_neg (show ¬ (false = true) by decide)] at H; exact H
      clear H
      have H := H1
      clear H1
      exact absurd H (by simp)
/-- THE ONE PURE STATEMENT of laws_FnExactFewestTurns: yours. -/
def laws_FnExactFewestTurns.Pure : Prop := ∀ (l0 : List Int), l0.length ≤ maxLen → l0.length * 8 ≤ 140737488351232 → (∀ x ∈ l0, (Lit.int .i64 x).wf = true) → ∃ k, laws_FnExactFewestTurns.f k l0 = some true
end Go.Proofs.YtfegbmlcbdjcgaaDoor.X
end
section
-- Written by a program of this session (wip/tools/mp.py) over the kit's print of the translation.
namespace Go.Proofs.YtfegbmlcbdjcgaaDoor.X
open Go.RowKit Go.Proofs.YtfegbmlcbdjcgaaDoorW.PrintWords Go.Proofs.YtfegbmlcbdjcgaaDoorW.PrintLast Go.Proofs.YtfegbmlcbdjcgaaDoorW.PrintMore
attribute [local go_sem] max2_int min2_int max_two min_two max_three min_three max_four min_four   -- for this text's walks alone
set_option linter.unusedVariables false
set_option linter.unusedSimpArgs false
/-- The pure statement of FnExactFewestTurns. -/
def laws_FnExactFewestTurns.PureQ : Prop := ∀ (l0 : List Int), (l0.length ≤ maxLen ∧ ∀ y ∈ l0, (Lit.int .i64 y).wf = true) → l0.length * 8 ≤ 140737488351232 → ∃ k, laws_FnExactFewestTurns.f k l0 = some true
end Go.Proofs.YtfegbmlcbdjcgaaDoor.X
end
section
/- Small words on rounds, numbers and lists. -/
namespace Go.Proofs.YtfegbmlcbdjcgaaDoor.X
open Go.Proofs.YtfegbmlcbdjcgaaDoor.Sq Go.RowKit Go.Proofs.YtfegbmlcbdjcgaaDoorW.PrintWords Go.Proofs.YtfegbmlcbdjcgaaDoorW.PrintLast Go.Proofs.YtfegbmlcbdjcgaaDoorW.PrintMore
attribute [local go_sem] max2_int min2_int max_two min_two max_three min_three max_four min_four   -- for this text's walks alone
set_option linter.unusedVariables false
set_option linter.unusedSimpArgs false
theorem w64 {x : Int} (h : -9223372036854775808 ≤ x) (h' : x ≤ 9223372036854775807) : wrap64 x = x := by
  unfold wrap64
  omega
theorem evPos {α : Type} {c : Prop} [Decidable c] {g f : Nat → Option α} {r : α} (hc : c) (h : Ev g r) : Ev (fun k => if c then g k else f k) r := by
  obtain ⟨K, hK⟩ := h
  exact ⟨K, fun k hk => (if_pos hc).trans (hK k hk)⟩
theorem evNeg {α : Type} {c : Prop} [Decidable c] {g f : Nat → Option α} {r : α} (hc : ¬ c) (h : Ev f r) : Ev (fun k => if c then g k else f k) r := by
  obtain ⟨K, hK⟩ := h
  exact ⟨K, fun k hk => (if_neg hc).trans (hK k hk)⟩
theorem evSplit {α : Type} {c : Prop} [Decidable c] {g f : Nat → Option α} {r : α} (h : c → Ev g r) (h' : ¬ c → Ev f r) : Ev (fun k => if c then g k else f k) r := by
  by_cases hc : c
  · exact evPos hc (h hc)
  · exact evNeg hc (h' hc)
theorem evBind0 {α β : Type} {o : Option α} {f : Nat → α → Option β} {a : α} {r : β} (h : o = some a) (k : Ev (fun n => f n a) r) : Ev (fun n => o.bind (f n)) r := by
  obtain ⟨K, hK⟩ := k
  exact ⟨K, fun k hk => by rw [h]; exact hK k hk⟩
theorem evEq {α : Type} {g : Nat → Option α} {r r' : α} (h : Ev g r) (e : r = r') : Ev g r' := e ▸ h
theorem evSome {α : Type} {r r' : α} (e : r = r') : Ev (fun _ => some r) r' := ⟨0, fun _ _ => by rw [e]⟩
/-- A list that is filled place by place. -/
theorem set_mid {α : Type} (m z : List α) (i : Nat) (h : i < m.length) (hz : z.length = m.length) : (m.take i ++ z.drop i).set i (m[i]'h) = m.take (i + 1) ++ z.drop (i + 1) := by
  have h1 : (m.take i).length = i := by rw [List.length_take]; omega
  rw [List.set_append_right _ _ (by omega), h1, Nat.sub_self]
  have h2 : z.drop i = (z[i]'(by omega)) :: z.drop (i + 1) := List.drop_eq_getElem_cons (by omega)
  rw [h2, List.set_cons_zero, List.take_succ_eq_append_getElem h, List.append_assoc]
  rfl
theorem mid_len {α : Type} (m z : List α) (i : Nat) (hz : z.length = m.length) (h : i ≤ m.length) : (m.take i ++ z.drop i).length = m.length := by
  rw [List.length_append, List.length_take, List.length_drop]
  omega
theorem getD_drop_cons {α : Type} (l : List α) (i : Nat) (d : α) (h : i < l.length) : l.drop i = l.getD i d :: l.drop (i + 1) := by
  rw [List.drop_eq_getElem_cons h, List.getD_eq_getElem?_getD, List.getElem?_eq_getElem h]
  rfl
theorem getD_map' {α β : Type} (l : List α) (f : α → β) (i : Nat) (d : α) (e : β) (h : i < l.length) : (l.map f).getD i e = f (l.getD i d) := by
  rw [List.getD_eq_getElem?_getD, List.getD_eq_getElem?_getD, List.getElem?_map, List.getElem?_eq_getElem h]
  rfl
theorem getElem_getD {α : Type} (l : List α) (i : Nat) (d : α) (h : i < l.length) : l[i]'h = l.getD i d := by
  rw [List.getD_eq_getElem?_getD, List.getElem?_eq_getElem h]
  rfl
theorem getD_set_same {α : Type} (l : List α) (i : Nat) (a d : α) (h : i < l.length) : (l.set i a).getD i d = a := by
  rw [List.getD_eq_getElem?_getD, List.getElem?_set_self h]
  rfl
end Go.Proofs.YtfegbmlcbdjcgaaDoor.X
end
section
/- Lists of numbers compared with themselves. -/
--! needs LBase laws_eqIntS
namespace Go.Proofs.YtfegbmlcbdjcgaaDoor.X
open Go.Proofs.YtfegbmlcbdjcgaaDoor.Sq Go.RowKit Go.Proofs.YtfegbmlcbdjcgaaDoorW.PrintWords Go.Proofs.YtfegbmlcbdjcgaaDoorW.PrintLast Go.Proofs.YtfegbmlcbdjcgaaDoorW.PrintMore
attribute [local go_sem] max2_int min2_int max_two min_two max_three min_three max_four min_four   -- for this text's walks alone
set_option linter.unusedVariables false
set_option linter.unusedSimpArgs false
theorem eqIntS_l0 (l : List Int) (hl : l.length ≤ 1048576) (e : Nat) : ∀ i : Nat, i + e = l.length → Ev (fun k => laws_eqIntS.l0 k l l (i : Int)) true := by
  induction e with
  | zero =>
    intro i hi
    refine Ev.step (fun k => by rw [laws_eqIntS.l0]) ?_
    exact evNeg (by omega) (evSome rfl)
  | succ e ih =>
    intro i hi
    refine Ev.step (fun k => by rw [laws_eqIntS.l0]) ?_
    rw [show wrap64 ((i : Int) + 1) = ((i + 1 : Nat) : Int) from (w64 (by omega) (by omega)).trans (by omega)]
    exact evPos (by omega) (evPos (by omega) (evPos (by omega) (evPos rfl (ih (i + 1) (by omega)))))
theorem eqIntS_self (l : List Int) (hl : l.length ≤ 1048576) : Ev (fun k => laws_eqIntS.f k l l) true := by
  unfold laws_eqIntS.f
  exact evPos rfl (eqIntS_l0 l hl l.length 0 (Nat.zero_add _))
end Go.Proofs.YtfegbmlcbdjcgaaDoor.X
end
section
/- What makes an order: the program and the reference. -/
--! needs LBase impl_IsOrder spec_l1In spec_l1All spec_l1Has spec_ptGood
namespace Go.Proofs.YtfegbmlcbdjcgaaDoor.X
open Go.Proofs.YtfegbmlcbdjcgaaDoor.Sq Go.RowKit Go.Proofs.YtfegbmlcbdjcgaaDoorW.PrintWords Go.Proofs.YtfegbmlcbdjcgaaDoorW.PrintLast Go.Proofs.YtfegbmlcbdjcgaaDoorW.PrintMore
attribute [local go_sem] max2_int min2_int max_two min_two max_three min_three max_four min_four   -- for this text's walks alone
set_option linter.unusedVariables false
set_option linter.unusedSimpArgs false
open List in
theorem perm_of_len : ∀ (l m : List Int), l.Nodup → (∀ x ∈ l, x ∈ m) → m.length ≤ l.length → l ~ m
 | [], m, _, _, h => by
  obtain rfl : m = [] := List.eq_nil_of_length_eq_zero (by simpa using h)
  exact Perm.refl _
 | a :: l, m, hn, hs, h => by
  have ha : a ∈ m := hs a (List.mem_cons_self ..)
  have hn2 := List.nodup_cons.1 hn
  have hl := perm_of_len l (m.erase a) hn2.2 (fun x hx => by
    have hne : x ≠ a := fun e => hn2.1 (e ▸ hx)
    exact (List.mem_erase_of_ne hne).2 (hs x (List.mem_cons_of_mem _ hx))) (by
    rw [List.length_erase_of_mem ha]
    simp at h
    omega)
  exact (Perm.cons a hl).trans (perm_cons_erase ha).symm
def upL (n : Nat) : List Int := (List.range n).map fun (i : Nat) => (i : Int) + 1
theorem upL_len (n : Nat) : (upL n).length = n := by simp [upL]
theorem upL_mem (n : Nat) (x : Int) : x ∈ upL n ↔ 1 ≤ x ∧ x ≤ n := by
  unfold upL
  simp only [List.mem_map, List.mem_range]
  constructor
  · rintro ⟨i, hi, rfl⟩
    omega
  · intro h
    exact ⟨(x - 1).toNat, by omega, by omega⟩
theorem upL_lt (n : Nat) : (upL n).Pairwise (· < ·) := by
  unfold upL
  rw [List.pairwise_map]
  exact List.pairwise_lt_range.imp (fun h => by omega)
theorem upL_nodup (n : Nat) : (upL n).Nodup := (upL_lt n).imp (fun h => by omega)
theorem isoUp_iff (s : List Int) (n : Nat) (h : s.length = n) : isoUp s n ↔ s = upL n := by
  constructor
  · intro hu
    apply List.ext_getElem
    · rw [h, upL_len]
    · intro i h1 h2
      have := hu i (by omega)
      rw [List.getD_eq_getElem?_getD, List.getElem?_eq_getElem h1] at this
      simp only [Option.getD_some] at this
      rw [this]
      simp [upL]
  · rintro rfl i hi
    rw [List.getD_eq_getElem?_getD, List.getElem?_eq_getElem (by rw [upL_len]; exact hi)]
    simp [upL]
open List in
theorem iso_iff (l : List Int) : isoUp (isoS l) l.length ↔ (∀ x ∈ l, 1 ≤ x ∧ x ≤ (l.length : Int)) ∧ l.Nodup := by
  rw [isoUp_iff _ _ (isoS_len l)]
  have hp : isoS l ~ l := List.mergeSort_perm l _
  constructor
  · intro h
    rw [h] at hp
    exact ⟨fun x hx => (upL_mem _ x).1 (hp.mem_iff.2 hx), hp.nodup (upL_nodup _)⟩
  · rintro ⟨h1, h2⟩
    have hq : l ~ upL l.length := perm_of_len l _ h2 (fun x hx => (upL_mem _ x).2 (h1 x hx)) (by rw [upL_len]; exact Nat.le_refl _)
    have hs : (isoS l).Pairwise (fun a b => a ≤ b) := by
      have := List.pairwise_mergeSort (le := fun (x y : Int) => decide (x ≤ y)) (fun a b c h1 h2 => by simp at *; omega) (fun a b => by simp; omega) l
      exact this.imp (fun h => by simpa using h)
    exact (hp.trans hq).eq_of_pairwise (fun a b _ _ h1 h2 => Int.le_antisymm h1 h2) hs ((upL_lt _).imp (fun h => Int.le_of_lt h))
def ordB (l : List Int) : Bool := decide (isoUp (isoS l) l.length) && decide (1 ≤ l.length ∧ l.length ≤ 8)
theorem IsOrder_eq (l : List Int) (h : l.length ≤ 1000000000000) : impl_IsOrder.f l = some (ordB l) := by
  unfold impl_IsOrder.f
  rw [if_pos h]
  rfl
def inO (a l h : Int) : Bool := decide (l ≤ a) && decide (a ≤ h)
theorem l1In_o (a l h : Int) : spec_l1In.f a l h = some (inO a l h) := by
  unfold spec_l1In.f inO
  by_cases c : l ≤ a
  · rw [if_pos (by omega)]; simp [c]
  · rw [if_neg (by omega)]; simp [c]
theorem i1o (x : Nat) (h : x ≤ 1000) : wrap64 ((x : Int) + 1) = ((x + 1 : Nat) : Int) := (w64 (by omega) (by omega)).trans (by omega)
theorem l1Has_l0 (x : Int) (l : List Int) (hl : l.length ≤ 100) (e : Nat) : ∀ i : Nat, i + e = l.length → Ev (fun k => spec_l1Has.l0 k x l (l.length : Int) (i : Int)) (decide (x ∈ l.drop i)) := by
  induction e with
  | zero =>
    intro i hi
    refine Ev.step (fun k => by rw [spec_l1Has.l0]) ?_
    refine evNeg (by omega) (evSome ?_)
    rw [List.drop_of_length_le (by omega)]
    simp
  | succ e ih =>
    intro i hi
    refine Ev.step (fun k => by rw [spec_l1Has.l0]) ?_
    rw [i1o i (by omega), getD_drop_cons l i 0 (by omega)]
    have hr : rd l (i : Int) = l.getD i 0 := by unfold rd; rw [Int.toNat_natCast]
    rw [hr]
    refine evPos (by omega) (evPos (by omega) (evPos (by omega) (evSplit (fun c => ?_) (fun c => ?_))))
    · exact evSome (by rw [c]; simp)
    · refine evEq (ih (i + 1) (by omega)) ?_
      have : ¬ x = l.getD i 0 := fun e => c e.symm
      simp only [List.mem_cons, this, false_or]
theorem l1Has_ev (x : Int) (l : List Int) (hl : l.length ≤ 100) : Ev (fun k => spec_l1Has.f k l x) (decide (x ∈ l)) := by
  unfold spec_l1Has.f
  have h := l1Has_l0 x l hl l.length 0 (Nat.zero_add _)
  rw [List.drop_zero] at h
  exact h
theorem l1All_l0 (a b : Int) (l : List Int) (hl : l.length ≤ 100) (e : Nat) : ∀ i : Nat, i + e = l.length → Ev (fun k => spec_l1All.l0 k a b l (l.length : Int) (i : Int)) ((l.drop i).all fun x => inO x a b) := by
  induction e with
  | zero =>
    intro i hi
    refine Ev.step (fun k => by rw [spec_l1All.l0]) ?_
    refine evNeg (by omega) (evSome ?_)
    rw [List.drop_of_length_le (by omega)]
    rfl
  | succ e ih =>
    intro i hi
    refine Ev.step (fun k => by rw [spec_l1All.l0]) ?_
    rw [i1o i (by omega), getD_drop_cons l i 0 (by omega), List.all_cons]
    have hr : rd l (i : Int) = l.getD i 0 := by unfold rd; rw [Int.toNat_natCast]
    rw [hr]
    refine evPos (by omega) (evPos (by omega) (evPos (by omega) (evBind0 (l1In_o _ _ _) ?_)))
    cases inO (l.getD i 0) a b with
    | true => exact evPos rfl (by simpa using ih (i + 1) (by omega))
    | false => exact evNeg (by simp) (evSome rfl)
/-- From place i on none comes twice. -/
def freshB (l : List Int) : Nat → Nat → Bool
 | _, 0 => true
 | i, e + 1 => !decide (l.getD i 0 ∈ l.take i) && freshB l (i + 1) e
theorem fresh_iff (l : List Int) (e : Nat) : ∀ i : Nat, i + e = l.length → (l.take i).Nodup → (freshB l i e = true ↔ l.Nodup) := by
  induction e with
  | zero =>
    intro i hi hn
    rw [List.take_of_length_le (by omega)] at hn
    exact ⟨fun _ => hn, fun _ => rfl⟩
  | succ e ih =>
    intro i hi hn
    have ht : l.take (i + 1) = l.take i ++ [l.getD i 0] := by
      rw [List.take_succ_eq_append_getElem (by omega), getElem_getD l i 0 (by omega)]
    show (!decide (l.getD i 0 ∈ l.take i) && freshB l (i + 1) e) = true ↔ _
    by_cases hm : l.getD i 0 ∈ l.take i
    · rw [decide_eq_true hm]
      refine ⟨fun h => by simp at h, fun h => ?_⟩
      have h2 : (l.take (i + 1)).Nodup := h.sublist (List.take_sublist _ _)
      rw [ht, List.nodup_append] at h2
      exact absurd rfl (h2.2.2 _ hm _ (List.mem_singleton.2 rfl))
    · rw [decide_eq_false hm]
      have h2 : (l.take (i + 1)).Nodup := by
        rw [ht, List.nodup_append]
        exact ⟨hn, by simp, fun a ha b hb e => hm (by rw [← List.mem_singleton.1 hb, ← e]; exact ha)⟩
      simpa using ih (i + 1) (by omega) h2
theorem ptGood_l0 (l : List Int) (hl : l.length ≤ 8) (e : Nat) : ∀ i : Nat, i + e = l.length → Ev (fun k => spec_ptGood.l0 k l l (l.length : Int) (i : Int)) (freshB l i e) := by
  induction e with
  | zero =>
    intro i hi
    refine Ev.step (fun k => by rw [spec_ptGood.l0]) ?_
    exact evNeg (by omega) (evSome rfl)
  | succ e ih =>
    intro i hi
    refine Ev.step (fun k => by rw [spec_ptGood.l0]) ?_
    have hr : rd l (i : Int) = l.getD i 0 := by unfold rd; rw [Int.toNat_natCast]
    rw [i1o i (by omega), hr, Int.toNat_natCast]
    refine evPos (by omega) (evPos (by omega) (evPos (by omega) (evPos (by omega) (Ev.bind (l1Has_ev _ _ (by rw [List.length_take]; omega)) ?_))))
    show Ev _ (!decide (l.getD i 0 ∈ l.take i) && freshB l (i + 1) e)
    cases decide (l.getD i 0 ∈ l.take i) with
    | true => exact evPos rfl (evSome rfl)
    | false => exact evNeg (by simp) (by simpa using ih (i + 1) (by omega))
theorem ptGood_ev (l : List Int) : Ev (fun k => spec_ptGood.f k l) (ordB l) := by
  unfold spec_ptGood.f
  refine evBind0 (l1In_o _ _ _) ?_
  by_cases hn : 1 ≤ l.length ∧ l.length ≤ 8
  · have h1 : inO (l.length : Int) 1 8 = true := by unfold inO; rw [decide_eq_true (by omega), decide_eq_true (by omega)]; rfl
    rw [h1]
    have hA := l1All_l0 1 (l.length : Int) l (by omega) l.length 0 (Nat.zero_add _)
    rw [List.drop_zero] at hA
    unfold spec_l1All.f
    refine evPos rfl (Ev.bind hA ?_)
    refine Ev.step (fun k => by rw [spec_ptGood.j0]) ?_
    have hiff := iso_iff l
    have hall : (l.all fun x => inO x 1 (l.length : Int)) = true ↔ ∀ x ∈ l, 1 ≤ x ∧ x ≤ (l.length : Int) := by
      rw [List.all_eq_true]
      exact ⟨fun h x hx => by have := h x hx; unfold inO at this; simpa using this, fun h x hx => by have := h x hx; unfold inO; simpa using this⟩
    have hf := fresh_iff l l.length 0 (Nat.zero_add _) (by simp)
    unfold ordB
    rw [decide_eq_true hn, Bool.and_true]
    cases hb : l.all fun x => inO x 1 (l.length : Int) with
    | false =>
      refine evPos rfl (evSome ?_)
      rw [decide_eq_false (fun h => by have := hall.2 (hiff.1 h).1; rw [hb] at this; cases this)]
    | true =>
      refine evNeg (by simp) (evEq (ptGood_l0 l hn.2 l.length 0 (Nat.zero_add _)) ?_)
      cases hfb : freshB l 0 l.length with
      | true => rw [decide_eq_true (hiff.2 ⟨hall.1 hb, hf.1 hfb⟩)]
      | false => rw [decide_eq_false (fun h => by have := hf.2 (hiff.1 h).2; rw [hfb] at this; cases this)]
  · have h1 : inO (l.length : Int) 1 8 = false := by
      unfold inO
      by_cases h1 : 1 ≤ l.length
      · rw [decide_eq_false (show ¬ (l.length : Int) ≤ 8 by omega), Bool.and_false]
      · rw [decide_eq_false (show ¬ (1 : Int) ≤ (l.length : Int) by omega), Bool.false_and]
    rw [h1]
    refine evNeg (by simp) (Ev.step (fun k => by rw [spec_ptGood.j0]) ?_)
    refine evPos rfl (evSome ?_)
    unfold ordB
    rw [decide_eq_false hn, Bool.and_false]
theorem ordB_len (l : List Int) (h : ordB l = true) : 1 ≤ l.length ∧ l.length ≤ 8 := by
  unfold ordB at h
  simp only [Bool.and_eq_true, decide_eq_true_eq] at h
  exact h.2
end Go.Proofs.YtfegbmlcbdjcgaaDoor.X
end
section
/- Texts of bytes, and numbers told in decimal by the program. -/
--! needs LBase strconv_Itoa
namespace Go.Proofs.YtfegbmlcbdjcgaaDoor.X
open Go.Proofs.YtfegbmlcbdjcgaaDoor.Sq Go.RowKit Go.Proofs.YtfegbmlcbdjcgaaDoorW.PrintWords Go.Proofs.YtfegbmlcbdjcgaaDoorW.PrintLast Go.Proofs.YtfegbmlcbdjcgaaDoorW.PrintMore
attribute [local go_sem] max2_int min2_int max_two min_two max_three min_three max_four min_four   -- for this text's walks alone
set_option linter.unusedVariables false
set_option linter.unusedSimpArgs false
/-- The text with these bytes. -/
def bl (l : List UInt8) : ByteArray := ⟨l.toArray⟩
theorem dec_len (n : Nat) : (Lib.decDigits n).length ≤ n + 1 := by
  induction n using Nat.strongRecOn with
  | ind n ih =>
    rw [Lib.decDigits]
    split
    · simp
    · rename_i h
      have := ih (n / 10) (by omega)
      rw [List.length_append]
      simp only [List.length_cons, List.length_nil]
      omega
theorem Itoa_eq (n : Nat) (h : n ≤ 1000000000000000) : strconv_Itoa.f (n : Int) = some (bl (Lib.decDigits n)) := by
  unfold strconv_Itoa.f
  rw [if_pos (by omega), Lib.itoa_nonneg]
  rfl
end Go.Proofs.YtfegbmlcbdjcgaaDoor.X
end
section
/- Numbers told with a text between them. -/
--! needs LBase LBytes strings_Join impl_joined
namespace Go.Proofs.YtfegbmlcbdjcgaaDoor.X
open Go.Proofs.YtfegbmlcbdjcgaaDoor.Sq Go.RowKit Go.Proofs.YtfegbmlcbdjcgaaDoorW.PrintWords Go.Proofs.YtfegbmlcbdjcgaaDoorW.PrintLast Go.Proofs.YtfegbmlcbdjcgaaDoorW.PrintMore
attribute [local go_sem] max2_int min2_int max_two min_two max_three min_three max_four min_four   -- for this text's walks alone
set_option linter.unusedVariables false
set_option linter.unusedSimpArgs false
def decs (l : List Nat) : List (List UInt8) := l.map Lib.decDigits
theorem Join_eq (l : List (List UInt8)) (sep : ByteArray) (h1 : l.length ≤ 1000000) (h2 : (Lib.join l sep.data.toList).length ≤ 100000000000000) : strings_Join.f (l.map bl) sep = some (bl (Lib.join l sep.data.toList)) := by
  have hm : ((l.map bl).map (fun x : ByteArray => x.data.toList)) = l := by
    rw [List.map_map]
    exact (List.map_congr_left (fun x _ => rfl)).trans (List.map_id _)
  unfold strings_Join.f
  rw [hm, if_pos ⟨by rw [List.length_map]; omega, by omega⟩]
  rfl
theorem join_len (l : List (List UInt8)) (sep : List UInt8) (b : Nat) (hb : ∀ x ∈ l, x.length ≤ b) : (Lib.join l sep).length ≤ l.length * (b + sep.length) := by
  cases l with
  | nil => simp [Lib.join_nil]
  | cons x r =>
    rw [Lib.join_cons, List.length_append, List.length_cons, Nat.add_mul, Nat.one_mul]
    have h1 := hb x (List.mem_cons_self ..)
    have h2 : ∀ r : List (List UInt8), (∀ x ∈ r, x.length ≤ b) → (Lib.joinTail sep r).length ≤ r.length * (b + sep.length) := by
      intro r
      induction r with
      | nil => intro _; simp [Lib.joinTail]
      | cons y r ih =>
        intro hr
        have h3 := ih (fun z hz => hr z (List.mem_cons_of_mem _ hz))
        have h4 := hr y (List.mem_cons_self ..)
        unfold Lib.joinTail at h3 ⊢
        rw [List.map_cons, List.flatten_cons, List.length_append, List.length_append, List.length_cons, Nat.add_mul, Nat.one_mul]
        omega
    have h3 := h2 r (fun z hz => hb z (List.mem_cons_of_mem _ hz))
    omega
theorem joined_l0 (l : List Nat) (hl : l.length ≤ 1000) (hb : ∀ x ∈ l, x ≤ 10000000) (sep : ByteArray) (hs : sep.size ≤ 1000) (L : List Int) (hL : L = l.map (fun (x : Nat) => (x : Int))) (e : Nat) : ∀ i : Nat, i + e = l.length → Ev (fun k => impl_joined.l0 k sep (((decs l).take i).map bl) L (L.length : Int) (i : Int)) (bl (Lib.join (decs l) sep.data.toList)) := by
  have hLl : L.length = l.length := by rw [hL, List.length_map]
  have hdl : (decs l).length = l.length := by unfold decs; rw [List.length_map]
  have hjl : (Lib.join (decs l) sep.data.toList).length ≤ 100000000000000 := by
    have h1 := join_len (decs l) sep.data.toList 10000001 (fun x hx => by
      unfold decs at hx
      obtain ⟨y, hy, rfl⟩ := List.mem_map.1 hx
      have := dec_len y
      have := hb y hy
      omega)
    rw [hdl] at h1
    have h2 : sep.data.toList.length = sep.size := data_length sep
    have h3 : l.length * (10000001 + sep.data.toList.length) ≤ 1000 * (10000001 + 1000) := Nat.mul_le_mul hl (by omega)
    omega
  induction e with
  | zero =>
    intro i hi
    refine Ev.step (fun k => by rw [impl_joined.l0]) ?_
    refine evNeg (by omega) ?_
    rw [List.take_of_length_le (by omega)]
    exact evBind0 (Join_eq (decs l) sep (by omega) hjl) (evSome rfl)
  | succ e ih =>
    intro i hi
    refine Ev.step (fun k => by rw [impl_joined.l0]) ?_
    have hr : rd L (i : Int) = ((l.getD i 0 : Nat) : Int) := by
      unfold rd
      rw [Int.toNat_natCast, hL]
      exact getD_map' l (fun (x : Nat) => (x : Int)) i 0 0 (by omega)
    have hx : l.getD i 0 ≤ 10000000 := by
      rw [← getElem_getD l i 0 (by omega)]
      exact hb _ (List.getElem_mem _)
    have ht : ((decs l).take (i + 1)).map bl = ((decs l).take i).map bl ++ [bl (Lib.decDigits (l.getD i 0))] := by
      rw [List.take_succ_eq_append_getElem (by omega), List.map_append, List.map_cons, List.map_nil]
      congr 2
      unfold decs
      rw [List.getElem_map, getElem_getD l i 0 (by omega)]
    rw [hr, show wrap64 ((i : Int) + 1) = ((i + 1 : Nat) : Int) from (w64 (by omega) (by omega)).trans (by omega)]
    refine evPos (by omega) (evPos (by omega) (evPos (by omega) (evBind0 (Itoa_eq _ (by omega)) (evPos (by rw [List.length_map, List.length_take]; omega) ?_))))
    rw [← ht]
    exact ih (i + 1) (by omega)
theorem joined_ev (l : List Nat) (hl : l.length ≤ 1000) (hb : ∀ x ∈ l, x ≤ 10000000) (sep : ByteArray) (hs : sep.size ≤ 1000) (L : List Int) (hL : L = l.map (fun (x : Nat) => (x : Int))) : Ev (fun k => impl_joined.f k L sep) (bl (Lib.join (decs l) sep.data.toList)) := by
  unfold impl_joined.f
  have h := joined_l0 l hl hb sep hs L hL l.length 0 (Nat.zero_add _)
  simpa using h
end Go.Proofs.YtfegbmlcbdjcgaaDoor.X
end
section
/- Orders with the first boats turned: the search by turns, its layers, and that each order comes home. -/
--! needs LBase LOrd LInvs impl_FewestTurns
namespace Go.Proofs.YtfegbmlcbdjcgaaDoor.X
open Go.Proofs.YtfegbmlcbdjcgaaDoor.Sq Go.RowKit Go.Proofs.YtfegbmlcbdjcgaaDoorW.PrintWords Go.Proofs.YtfegbmlcbdjcgaaDoorW.PrintLast Go.Proofs.YtfegbmlcbdjcgaaDoorW.PrintMore
attribute [local go_sem] max2_int min2_int max_two min_two max_three min_three max_four min_four   -- for this text's walks alone
set_option linter.unusedVariables false
set_option linter.unusedSimpArgs false
theorem turnL_perm (l : List Int) (m : Nat) : (turnL l m).Perm l := by
  unfold turnL
  have h := (List.reverse_perm (l.take m)).append_right (l.drop m)
  rw [List.take_append_drop] at h
  exact h
structure OrdP (n : Nat) (l : List Int) : Prop where
  len : l.length = n
  nodup : l.Nodup
  range : ∀ x ∈ l, 1 ≤ x ∧ x ≤ (n : Int)
theorem OrdP.turn {n : Nat} {l : List Int} (h : OrdP n l) (m : Nat) : OrdP n (turnL l m) :=
  ⟨(turnL_len l m).trans h.len, (turnL_perm l m).nodup_iff.2 h.nodup, fun x hx => h.range x ((turnL_perm l m).mem_iff.1 hx)⟩
theorem OrdP.of_ordB {l : List Int} (h : ordB l = true) : OrdP l.length l := by
  unfold ordB at h
  simp only [Bool.and_eq_true, decide_eq_true_eq] at h
  obtain ⟨h1, h2⟩ := (iso_iff l).1 h.1
  exact ⟨rfl, h2, h1⟩
theorem OrdP.perm {n : Nat} {l : List Int} (h : OrdP n l) : l.Perm (upL n) :=
  perm_of_len l (upL n) h.nodup (fun x hx => (upL_mem n x).2 (h.range x hx)) (by rw [upL_len, h.len]; exact Nat.le_refl _)
/-! ### Each order comes home -/
theorem turn_front (l : List Int) (m : Nat) (h : m < l.length) : (turnL l (m + 1)).getD 0 0 = l.getD m 0 := by
  unfold turnL
  rw [List.take_succ_eq_append_getElem h, List.reverse_append]
  rw [← getElem_getD l m 0 h]
  rfl
theorem turn_at (l : List Int) (m : Nat) (hm : m < l.length) : (turnL l (m + 1)).getD m 0 = l.getD 0 0 := by
  cases l with
  | nil => simp at hm
  | cons a r =>
    unfold turnL
    rw [List.take_succ_cons, List.reverse_cons, List.append_assoc, List.getD_eq_getElem?_getD]
    rw [List.getElem?_append_right (by rw [List.length_reverse, List.length_take]; omega), List.length_reverse, List.length_take]
    simp only [List.length_cons] at hm
    rw [Nat.min_eq_left (by omega), Nat.sub_self]
    rfl
theorem turn_tail (l : List Int) (m j : Nat) (h : m ≤ j) (hm : m ≤ l.length) : (turnL l m).getD j 0 = l.getD j 0 := by
  unfold turnL
  rw [List.getD_eq_getElem?_getD, List.getD_eq_getElem?_getD, List.getElem?_append_right (by rw [List.length_reverse, List.length_take]; omega), List.length_reverse, List.length_take, Nat.min_eq_left hm, List.getElem?_drop]
  congr 2
  omega
theorem turn_one (l : List Int) (m : Nat) (h : m ≤ 1) : turnL l m = l := by
  unfold turnL
  match m, h with
  | 0, _ => rfl
  | 1, _ => cases l <;> rfl
/-- A set of orders that is closed under turns holds, with an order, the right one. -/
theorem home_step (n : Nat) (S : List Int → Prop) (hS : ∀ x, S x → OrdP n x) (hc : ∀ x m, S x → 2 ≤ m → m ≤ n → S (turnL x m)) (hne : ∃ x, S x) : ∀ k, k ≤ n → ∃ x, S x ∧ ∀ j, n - k ≤ j → j < n → x.getD j 0 = (j : Int) + 1 := by
  have hc1 : ∀ x m, S x → m ≤ n → S (turnL x m) := fun x m hx hm => by
    by_cases h : m ≤ 1
    · rw [turn_one x m h]; exact hx
    · exact hc x m hx (by omega) hm
  intro k
  induction k with
  | zero =>
    intro _
    obtain ⟨x, hx⟩ := hne
    exact ⟨x, hx, fun j h1 h2 => by omega⟩
  | succ k ih =>
    intro hk
    obtain ⟨x, hx, ht⟩ := ih (by omega)
    have ho := hS x hx
    have hmem : ((n - k : Nat) : Int) ∈ x := (ho.perm.mem_iff).2 ((upL_mem n _).2 (by omega))
    obtain ⟨i, hi, he⟩ := List.getElem_of_mem hmem
    have hin : i < n - k := by
      rcases Nat.lt_or_ge i (n - k) with h | h
      · exact h
      · have hil : i < n := by rw [← ho.len]; exact hi
        have h1 := ht i h hil
        rw [← getElem_getD x i 0 hi, he] at h1
        omega
    have hil : i < x.length := hi
    have s1 := hc1 x (i + 1) hx (by omega)
    have s2 := hc1 _ (n - k) s1 (by omega)
    have hl1 := turnL_len x (i + 1)
    refine ⟨_, s2, fun j h1 h2 => ?_⟩
    by_cases hj : n - k ≤ j
    · rw [turn_tail _ _ _ hj (by rw [hl1, ho.len]; omega), turn_tail _ _ _ (by omega) (by omega)]
      exact ht j hj h2
    · obtain ⟨q, hq⟩ : ∃ q, n - k = q + 1 := ⟨n - k - 1, by omega⟩
      obtain rfl : j = q := by omega
      rw [hq, turn_at _ _ (by rw [hl1, ho.len]; omega), turn_front x i hil, ← getElem_getD x i 0 hi, he]
      omega
theorem home (n : Nat) (S : List Int → Prop) (hS : ∀ x, S x → OrdP n x) (hc : ∀ x m, S x → 2 ≤ m → m ≤ n → S (turnL x m)) (hne : ∃ x, S x) : S (upL n) := by
  obtain ⟨x, hx, ht⟩ := home_step n S hS hc hne n (Nat.le_refl _)
  have ho := hS x hx
  have e : x = upL n := by
    apply List.ext_getElem
    · rw [ho.len, upL_len]
    · intro j h1 h2
      have h3 := ht j (by omega) (by rw [← ho.len]; exact h1)
      rw [← getElem_getD x j 0 h1] at h3
      rw [h3]
      simp [upL]
  rw [← e]
  exact hx
/-! ### The search -/
theorem hasK_iff (A : Found) (x : List Int) : hasK A x = true ↔ ∃ t, (x, t) ∈ A := by
  unfold hasK
  rw [List.any_eq_true]
  constructor
  · rintro ⟨⟨y, t⟩, h1, h2⟩
    obtain rfl : y = x := of_decide_eq_true h2
    exact ⟨t, h1⟩
  · rintro ⟨t, h⟩
    exact ⟨(x, t), h, decide_eq_true rfl⟩
structure GoodF (n : Nat) (A : Found) : Prop where
  ord : ∀ p ∈ A, OrdP n p.1
  nodup : (A.map Prod.fst).Nodup
theorem addF_good {n : Nat} {A : Found} (h : GoodF n A) {x : List Int} (hx : OrdP n x) (t : Nat) : GoodF n (addF A x t) := by
  unfold addF
  split
  · exact h
  · rename_i hk
    refine ⟨fun p hp => ?_, ?_⟩
    · rcases List.mem_append.1 hp with hp | hp
      · exact h.ord p hp
      · rw [List.mem_singleton.1 hp]; exact hx
    · rw [List.map_append, List.nodup_append]
      refine ⟨h.nodup, by simp, fun a ha b hb e => hk ?_⟩
      simp only [List.map_cons, List.map_nil, List.mem_singleton] at hb
      subst e
      subst hb
      obtain ⟨p, hp, he⟩ := List.mem_map.1 ha
      exact (hasK_iff A _).2 ⟨p.2, by rw [← he]; exact hp⟩
theorem scanF_good {n : Nat} {now : List Int} (hn : OrdP n now) (t : Nat) : ∀ (d m : Nat) (A : Found), GoodF n A → GoodF n (scanF now t d m A)
 | 0, _, _, h => h
 | d + 1, m, A, h => scanF_good hn t d (m + 1) _ (addF_good h (hn.turn m) (t + 1))
theorem addF_has (A : Found) (x : List Int) (t : Nat) : hasK (addF A x t) x = true := by
  unfold addF
  split
  · assumption
  · exact (hasK_iff _ _).2 ⟨t, List.mem_append_right _ (List.mem_singleton_self _)⟩
theorem hasK_mono {A B : Found} {x : List Int} (h : hasK A x = true) : hasK (A ++ B) x = true := by
  obtain ⟨t, ht⟩ := (hasK_iff A x).1 h
  exact (hasK_iff _ x).2 ⟨t, List.mem_append_left _ ht⟩
theorem scanF_has (now : List Int) (t : Nat) : ∀ (d m : Nat) (A : Found) (q : Nat), m ≤ q → q < m + d → hasK (scanF now t d m A) (turnL now q) = true
 | 0, m, A, q, h1, h2 => by omega
 | d + 1, m, A, q, h1, h2 => by
  rw [scanF]
  by_cases h : m = q
  · subst h
    obtain ⟨B, hB, _⟩ := scanF_pre now t d (m + 1) (addF A (turnL now m) (t + 1))
    rw [hB]
    exact hasK_mono (addF_has _ _ _)
  · exact scanF_has now t d (m + 1) _ q (by omega) (by omega)
/-- How many orders there can be. -/
theorem good_bound {n : Nat} {A : Found} (h : GoodF n A) (hn : n ≤ 8) : A.length ≤ 8 ^ 8 := by
  have key : ∀ (n : Nat) (L : List (List Int)), L.Nodup → (∀ l ∈ L, l.length = n ∧ ∀ x ∈ l, 1 ≤ x ∧ x ≤ 8) → L.length ≤ 8 ^ n := by
    intro n
    induction n with
    | zero =>
      intro L h1 h2
      match L, h1, h2 with
      | [], _, _ => simp
      | [a], _, _ => simp
      | a :: b :: r, h1, h2 =>
        exfalso
        have ha := (h2 a (by simp)).1
        have hb := (h2 b (by simp)).1
        rw [List.length_eq_zero_iff] at ha hb
        rw [ha, hb] at h1
        simp at h1
    | succ n ih =>
      intro L h1 h2
      have hsplit : ∀ (ds : List Int), ds.Nodup → (∀ l ∈ L, l.getD 0 0 ∈ ds) → L.length ≤ ds.length * 8 ^ n := by
        intro ds
        induction ds generalizing L with
        | nil =>
          intro _ h3
          cases L with
          | nil => simp
          | cons a r => exact absurd (h3 a (by simp)) (by simp)
        | cons d ds ihd =>
          intro hds h3
          have e : L.length = (L.filter fun l => decide (l.getD 0 0 = d)).length + (L.filter fun l => !decide (l.getD 0 0 = d)).length := by
            rw [← List.countP_eq_length_filter, ← List.countP_eq_length_filter]
            have h9 := List.length_eq_countP_add_countP (fun l : List Int => decide (l.getD 0 0 = d)) (l := L)
            simpa using h9
          have b1 : (L.filter fun l => decide (l.getD 0 0 = d)).length ≤ 8 ^ n := by
            have hinj : ((L.filter fun l => decide (l.getD 0 0 = d)).map List.tail).Nodup := by
              refine List.pairwise_map.2 (List.Pairwise.imp_of_mem ?_ (h1.filter _))
              intro x y hx hy hne hxy
              apply hne
              obtain ⟨hx1, hx2⟩ := List.mem_filter.1 hx
              obtain ⟨hy1, hy2⟩ := List.mem_filter.1 hy
              have lx := (h2 x hx1).1
              have ly := (h2 y hy1).1
              cases x with
              | nil => simp at lx
              | cons a r =>
                cases y with
                | nil => simp at ly
                | cons b s =>
                  have ea : a = d := of_decide_eq_true hx2
                  have eb : b = d := of_decide_eq_true hy2
                  rw [ea, eb]
                  exact congrArg _ hxy
            have := ih _ hinj (fun l hl => by
              obtain ⟨x, hx, rfl⟩ := List.mem_map.1 hl
              obtain ⟨hx1, _⟩ := List.mem_filter.1 hx
              obtain ⟨g1, g2⟩ := h2 x hx1
              exact ⟨by rw [List.length_tail]; omega, fun y hy => g2 y (List.mem_of_mem_tail hy)⟩)
            rw [List.length_map] at this
            exact this
          have b2 := ihd (L.filter fun l => !decide (l.getD 0 0 = d)) (h1.filter _) (fun l hl => h2 l (List.mem_filter.1 hl).1) (List.nodup_cons.1 hds).2 (fun l hl => by
            obtain ⟨g1, g2⟩ := List.mem_filter.1 hl
            rcases List.mem_cons.1 (h3 l g1) with h | h
            · rw [h] at g2
              simp at g2
            · exact h)
          rw [e, List.length_cons, Nat.add_mul, Nat.one_mul]
          omega
      have h8 : ([1, 2, 3, 4, 5, 6, 7, 8] : List Int).Nodup := by decide
      have := hsplit [1, 2, 3, 4, 5, 6, 7, 8] h8 (fun l hl => by
        obtain ⟨g1, g2⟩ := h2 l hl
        cases l with
        | nil => simp at g1
        | cons a r =>
          have := g2 a (by simp)
          show a ∈ _
          simp only [List.mem_cons, List.not_mem_nil, or_false]
          omega)
      rw [Nat.pow_succ, Nat.mul_comm]
      exact this
  have h2 := key n (A.map Prod.fst) h.nodup (fun l hl => by
    obtain ⟨p, hp, rfl⟩ := List.mem_map.1 hl
    have := h.ord p hp
    exact ⟨this.len, fun x hx => by have := this.range x hx; omega⟩)
  rw [List.length_map] at h2
  exact Nat.le_trans h2 (Nat.pow_le_pow_right (by omega) hn)
/-! ### The stages -/
theorem stF_good {n : Nat} {o : List Int} (h : OrdP n o) : ∀ i, GoodF n (stF n o i)
 | 0 => ⟨fun p hp => by rw [List.mem_singleton.1 hp]; exact h, by simp [stF]⟩
 | i + 1 => by
  have ih := stF_good h i
  rw [stF]
  unfold nextF
  split
  · rename_i p hp
    exact scanF_good (ih.ord p (List.mem_of_getElem? hp)) _ _ _ _ ih
  · exact ih
/-- The first stage at which nothing is left. -/
theorem stF_end {n : Nat} {o : List Int} (h : OrdP n o) (hn : n ≤ 8) : ∃ i0, (stF n o i0).length ≤ i0 ∧ i0 ≤ 8 ^ 8 ∧ ∀ i, i < i0 → i < (stF n o i).length := by
  have key : ∀ N, (∀ i, i < N → i < (stF n o i).length) ∨ ∃ i0, i0 < N ∧ (stF n o i0).length ≤ i0 ∧ ∀ i, i < i0 → i < (stF n o i).length := by
    intro N
    induction N with
    | zero => exact .inl (fun i hi => by omega)
    | succ N ih =>
      rcases ih with ih | ⟨i0, h1, h2, h3⟩
      · by_cases hN : N < (stF n o N).length
        · exact .inl (fun i hi => by
            rcases Nat.lt_or_ge i N with h | h
            · exact ih i h
            · obtain rfl : i = N := by omega
              exact hN)
        · exact .inr ⟨N, by omega, by omega, ih⟩
      · exact .inr ⟨i0, by omega, h2, h3⟩
  rcases key (8 ^ 8 + 1) with hk | ⟨i0, h1, h2, h3⟩
  · have := hk (8 ^ 8) (by omega)
    have hb := good_bound (stF_good h (8 ^ 8)) hn
    omega
  · exact ⟨i0, h2, by omega, h3⟩
theorem fin_closed {n : Nat} {o : List Int} (h : OrdP n o) (hn : n ≤ 8) (x : List Int) (hx : hasK (finF n o) x = true) (m : Nat) (h2 : 2 ≤ m) (hm : m ≤ n) : hasK (finF n o) (turnL x m) = true := by
  obtain ⟨i0, e1, e2, e3⟩ := stF_end h hn
  obtain ⟨t, ht⟩ := (hasK_iff _ x).1 hx
  rw [finF_eq e1 e2] at ht
  obtain ⟨j, hj, he⟩ := List.getElem_of_mem ht
  have hji : j < i0 := by omega
  have hlt := e3 j hji
  obtain ⟨d, hd⟩ := Nat.exists_eq_add_of_le (Nat.le_of_lt hji)
  obtain ⟨B, hB⟩ := stF_pre n o j d
  rw [← hd] at hB
  have hat : (stF n o j)[j]? = some (x, t) := by
    have h3 : (stF n o i0)[j]? = some (x, t) := by rw [List.getElem?_eq_getElem hj, he]
    rw [hB, List.getElem?_append_left hlt] at h3
    exact h3
  have hs := stF_at hat
  have hh := scanF_has x t (n - 1) 2 (stF n o j) m h2 (by omega)
  dsimp only at hs
  rw [← hs] at hh
  obtain ⟨C, hC⟩ := fin_pre (n := n) (o := o) (i := j + 1) (by omega)
  rw [hC]
  exact hasK_mono hh
theorem fin_home {n : Nat} {o : List Int} (h : OrdP n o) (hn : n ≤ 8) : hasK (finF n o) (upL n) = true :=
  home n (fun x => hasK (finF n o) x = true) (fun x hx => by
    obtain ⟨t, ht⟩ := (hasK_iff _ x).1 hx
    exact (stF_good h _).ord _ ht) (fun x m hx h2 hm => fin_closed h hn x hx m h2 hm) ⟨o, by
    obtain ⟨B, hB⟩ := fin_pre (n := n) (o := o) (i := 0) (by omega)
    rw [hB]
    exact hasK_mono ((hasK_iff _ _).2 ⟨0, by simp [stF]⟩)⟩
end Go.Proofs.YtfegbmlcbdjcgaaDoor.X
end
section
/- A list of numbers copied, as the laws do. -/
--! needs LBase laws_toIntS
namespace Go.Proofs.YtfegbmlcbdjcgaaDoor.X
open Go.Proofs.YtfegbmlcbdjcgaaDoor.Sq Go.RowKit Go.Proofs.YtfegbmlcbdjcgaaDoorW.PrintWords Go.Proofs.YtfegbmlcbdjcgaaDoorW.PrintLast Go.Proofs.YtfegbmlcbdjcgaaDoorW.PrintMore
attribute [local go_sem] max2_int min2_int max_two min_two max_three min_three max_four min_four   -- for this text's walks alone
set_option linter.unusedVariables false
set_option linter.unusedSimpArgs false
theorem toIntS_l0 (l : List Int) (hl : l.length ≤ 1048576) (z : List Int) (hz : z.length = l.length) (d : Nat) : ∀ i : Nat, i + d = l.length → Ev (fun k => laws_toIntS.l0 k l (l.take i ++ z.drop i) (i : Int)) l := by
  induction d with
  | zero =>
    intro i hi
    refine Ev.step (fun k => by rw [laws_toIntS.l0]) ?_
    refine evNeg (by omega) (evSome ?_)
    rw [List.take_of_length_le (by omega), List.drop_of_length_le (by omega), List.append_nil]
  | succ d ih =>
    intro i hi
    refine Ev.step (fun k => by rw [laws_toIntS.l0]) ?_
    have hm := mid_len l z i hz (by omega)
    have h2 := ih (i + 1) (by omega)
    rw [← set_mid l z i (by omega) hz] at h2
    have hr : rd l (i : Int) = l[i]'(by omega) := by unfold rd; rw [Int.toNat_natCast, getElem_getD l i 0 (by omega)]
    rw [show wrap64 ((i : Int) + 1) = ((i + 1 : Nat) : Int) from (w64 (by omega) (by omega)).trans (by omega), hr, Int.toNat_natCast]
    exact evPos (by omega) (evPos (by omega) (evPos (by rw [hm]; omega) h2))
theorem toIntS_ev (l : List Int) (hl : l.length ≤ 1048576) : Ev (fun k => laws_toIntS.f k l) l := by
  unfold laws_toIntS.f
  rw [Int.toNat_natCast]
  refine evPos (by omega) (evPos (by omega) ?_)
  have h := toIntS_l0 l hl (List.replicate l.length 0) (by simp) l.length 0 (Nat.zero_add _)
  simpa using h
end Go.Proofs.YtfegbmlcbdjcgaaDoor.X
end
section
/- How many two are inverted. -/
--! needs LBase LOrd spec_ptInverted
namespace Go.Proofs.YtfegbmlcbdjcgaaDoor.X
open Go.Proofs.YtfegbmlcbdjcgaaDoor.Sq Go.RowKit Go.Proofs.YtfegbmlcbdjcgaaDoorW.PrintWords Go.Proofs.YtfegbmlcbdjcgaaDoorW.PrintLast Go.Proofs.YtfegbmlcbdjcgaaDoorW.PrintMore
attribute [local go_sem] max2_int min2_int max_two min_two max_three min_three max_four min_four   -- for this text's walks alone
set_option linter.unusedVariables false
set_option linter.unusedSimpArgs false
def invs : List Int → Nat
 | [] => 0
 | a :: l => l.countP (fun b => decide (b < a)) + invs l
theorem rdN (l : List Int) (i : Nat) : rd l (i : Int) = l.getD i 0 := by unfold rd; rw [Int.toNat_natCast]
theorem inv_l1 (l : List Int) (i : Int) (a : Int) (m : List Int) (hm : m.length ≤ 100) (r : Int) (e : Nat) : ∀ (j acc : Nat), j + e = m.length → acc + e ≤ 100000 →
    Ev (fun k => spec_ptInverted.l0 k l ((acc + (m.drop j).countP (fun b => decide (b < a)) : Nat) : Int) l (l.length : Int) (wrap64 (i + 1))) r →
    Ev (fun k => spec_ptInverted.l1 k l (acc : Int) a l (l.length : Int) i m (m.length : Int) (j : Int)) r := by
  induction e with
  | zero =>
    intro j acc hj ha h
    refine Ev.step (fun k => by rw [spec_ptInverted.l1]) ?_
    refine evNeg (by omega) ?_
    rw [List.drop_of_length_le (by omega)] at h
    simpa using h
  | succ e ih =>
    intro j acc hj ha h
    refine Ev.step (fun k => by rw [spec_ptInverted.l1]) ?_
    rw [getD_drop_cons m j 0 (by omega), List.countP_cons] at h
    rw [i1o j (by omega), rdN]
    refine evPos (by omega) (evPos (by omega) (evPos (by omega) (evSplit (fun c => ?_) (fun c => ?_))))
    · rw [if_pos (by simpa using c)] at h
      rw [show wrap64 ((acc : Int) + 1) = ((acc + 1 : Nat) : Int) from (w64 (by omega) (by omega)).trans (by omega)]
      refine ih (j + 1) (acc + 1) (by omega) (by omega) ?_
      rw [show acc + 1 + List.countP (fun b => decide (b < a)) (List.drop (j + 1) m) = acc + (List.countP (fun b => decide (b < a)) (List.drop (j + 1) m) + 1) by omega]
      exact h
    · rw [if_neg (by simpa using c)] at h
      exact ih (j + 1) acc (by omega) (by omega) h
theorem inv_l0 (l : List Int) (hl : l.length ≤ 100) (e : Nat) : ∀ (i acc : Nat), i + e = l.length → acc + e * 100 ≤ 20000 →
    Ev (fun k => spec_ptInverted.l0 k l (acc : Int) l (l.length : Int) (i : Int)) ((acc + invs (l.drop i) : Nat) : Int) := by
  induction e with
  | zero =>
    intro i acc hi ha
    refine Ev.step (fun k => by rw [spec_ptInverted.l0]) ?_
    refine evNeg (by omega) (evSome ?_)
    rw [List.drop_of_length_le (by omega)]
    simp [invs]
  | succ e ih =>
    intro i acc hi ha
    refine Ev.step (fun k => by rw [spec_ptInverted.l0]) ?_
    rw [i1o i (by omega), rdN, Int.toNat_natCast]
    refine evPos (by omega) (evPos (by omega) (evPos (by omega) (evPos (by omega) (evPos (by omega) ?_))))
    refine inv_l1 l (i : Int) (l.getD i 0) (l.drop (i + 1)) (by rw [List.length_drop]; omega) _ (l.drop (i + 1)).length 0 acc (by omega) (by rw [List.length_drop]; omega) ?_
    rw [i1o i (by omega), List.drop_zero]
    have hc : (l.drop (i + 1)).countP (fun b => decide (b < l.getD i 0)) ≤ (l.drop (i + 1)).length := List.countP_le_length
    rw [List.length_drop] at hc
    refine evEq (ih (i + 1) _ (by omega) (by omega)) ?_
    rw [getD_drop_cons l i 0 (by omega)]
    simp only [invs]
    omega
theorem ptInverted_ev (l : List Int) (hl : l.length ≤ 100) : Ev (fun k => spec_ptInverted.f k l) ((invs l : Nat) : Int) := by
  unfold spec_ptInverted.f
  have h := inv_l0 l hl l.length 0 0 (Nat.zero_add _) (by omega)
  simpa using h
end Go.Proofs.YtfegbmlcbdjcgaaDoor.X
end
section
/- The place of an order among all of its length, and the reference's turn. -/
--! needs LBase LOrd LInvs LTurns spec_ptRank spec_ptTurn
namespace Go.Proofs.YtfegbmlcbdjcgaaDoor.X
open Go.Proofs.YtfegbmlcbdjcgaaDoor.Sq Go.RowKit Go.Proofs.YtfegbmlcbdjcgaaDoorW.PrintWords Go.Proofs.YtfegbmlcbdjcgaaDoorW.PrintLast Go.Proofs.YtfegbmlcbdjcgaaDoorW.PrintMore
attribute [local go_sem] max2_int min2_int max_two min_two max_three min_three max_four min_four   -- for this text's walks alone
set_option linter.unusedVariables false
set_option linter.unusedSimpArgs false
def fct : Nat → Nat
 | 0 => 1
 | n + 1 => (n + 1) * fct n
theorem fct_pos : ∀ n, 0 < fct n
 | 0 => by decide
 | n + 1 => by rw [fct]; exact Nat.mul_pos (by omega) (fct_pos n)
def cntL (a : Int) (t : List Int) : Nat := t.countP (fun b => decide (b < a))
def code : List Int → Nat
 | [] => 0
 | a :: t => cntL a t * fct t.length + code t
def rkA (acc : Nat) : List Int → Nat
 | [] => acc
 | a :: t => rkA (acc * (t.length + 1) + cntL a t) t
theorem rkA_eq : ∀ (l : List Int) (acc : Nat), rkA acc l = acc * fct l.length + code l
 | [], acc => by simp [rkA, code, fct]
 | a :: t, acc => by
  rw [rkA, rkA_eq t, code, List.length_cons, fct, Nat.add_mul, Nat.mul_assoc, Nat.add_assoc]
theorem cntL_le (a : Int) (t : List Int) : cntL a t ≤ t.length := List.countP_le_length
theorem code_lt : ∀ l : List Int, code l < fct l.length
 | [] => by decide
 | a :: t => by
  have h1 := code_lt t
  have h2 : (cntL a t + 1) * fct t.length ≤ (t.length + 1) * fct t.length := Nat.mul_le_mul_right _ (Nat.add_le_add_right (cntL_le a t) 1)
  rw [Nat.add_mul, Nat.one_mul] at h2
  rw [code, List.length_cons, fct]
  omega
theorem cntL_mono {a b : Int} (hab : a ≤ b) : ∀ L : List Int, cntL a L ≤ cntL b L
 | [] => Nat.le_refl _
 | c :: L => by
  have ih := cntL_mono hab L
  unfold cntL at *
  rw [List.countP_cons, List.countP_cons]
  by_cases h : c < a
  · rw [if_pos (by simpa using h), if_pos (by simp; omega)]
    omega
  · rw [if_neg (by simpa using h)]
    omega
theorem cntL_lt {a b : Int} (hab : a < b) : ∀ L : List Int, a ∈ L → cntL a L < cntL b L
 | [], h => by cases h
 | c :: L, h => by
  by_cases hc : c = a
  · subst hc
    have ih := cntL_mono (Int.le_of_lt hab) L
    unfold cntL at *
    rw [List.countP_cons, List.countP_cons, if_neg (by simp), if_pos (by simpa using hab)]
    omega
  · have ih := cntL_lt hab L (by rcases List.mem_cons.1 h with h | h; exact absurd h.symm hc; exact h)
    unfold cntL at *
    rw [List.countP_cons, List.countP_cons]
    by_cases h : c < a
    · rw [if_pos (by simpa using h), if_pos (by simp; omega)]
      omega
    · rw [if_neg (by simpa using h)]
      omega
theorem cntL_self (a : Int) (t : List Int) : cntL a (a :: t) = cntL a t := by
  unfold cntL
  rw [List.countP_cons, if_neg (by simp)]
  rfl
theorem code_inj : ∀ (l l' : List Int), l.Perm l' → code l = code l' → l = l'
 | [], l', h, _ => h.nil_eq
 | a :: t, [], h, _ => by have := h.length_eq; simp at this
 | a :: t, b :: u, h, hc => by
  have hl : t.length = u.length := by have := h.length_eq; simpa using this
  have h1 := code_lt t
  have h2 := code_lt u
  rw [code, code, ← hl] at hc
  rw [← hl] at h2
  have hF := fct_pos t.length
  have hd : ∀ c x, x < fct t.length → (c * fct t.length + x) / fct t.length = c := fun c x hx => by
    rw [Nat.add_comm, Nat.add_mul_div_right _ _ hF, Nat.div_eq_of_lt hx, Nat.zero_add]
  have hcc : cntL a t = cntL b u := by
    have h3 := congrArg (fun z => z / fct t.length) hc
    rwa [hd _ _ h1, hd _ _ h2] at h3
  have hco : code t = code u := by rw [hcc] at hc; omega
  have hp : cntL a (b :: u) = cntL b (b :: u) := by
    have e : cntL a (a :: t) = cntL a (b :: u) := h.countP_eq _
    rw [← e, cntL_self, cntL_self, hcc]
  have hab : a = b := by
    rcases Int.lt_trichotomy a b with h3 | h3 | h3
    · have := cntL_lt h3 (b :: u) ((h.mem_iff).1 (List.mem_cons_self ..))
      omega
    · exact h3
    · have := cntL_lt h3 (b :: u) (List.mem_cons_self ..)
      omega
  subst hab
  rw [code_inj t u ((List.perm_cons a).1 h) hco]
theorem code_zero : ∀ l : List Int, invs l = 0 → code l = 0
 | [], _ => rfl
 | a :: t, h => by
  rw [invs] at h
  have h1 : cntL a t = 0 := by unfold cntL; omega
  rw [code, h1, Nat.zero_mul, code_zero t (by omega)]
theorem invs_up : ∀ l : List Int, l.Pairwise (· < ·) → invs l = 0
 | [], _ => rfl
 | a :: t, h => by
  rw [List.pairwise_cons] at h
  rw [invs, invs_up t h.2, Nat.add_zero, List.countP_eq_zero]
  intro x hx
  have := h.1 x hx
  simp
  omega
theorem invs_home {n : Nat} {x : List Int} (h : OrdP n x) : invs x = 0 ↔ x = upL n := by
  constructor
  · intro h0
    exact code_inj x (upL n) h.perm ((code_zero x h0).trans (code_zero _ (invs_up _ (upL_lt n))).symm)
  · rintro rfl
    exact invs_up _ (upL_lt n)
theorem OrdP.code_ne {n : Nat} {x y : List Int} (hx : OrdP n x) (hy : OrdP n y) (h : x ≠ y) : code x ≠ code y := fun e => h (code_inj x y (hx.perm.trans hy.perm.symm) e)
theorem rank_l1 (l : List Int) (A B : Int) (i : Int) (a : Int) (m : List Int) (hm : m.length ≤ 100) (r : Int) (e : Nat) : ∀ (j c : Nat), j + e = m.length → c + e ≤ 100000 →
    Ev (fun k => spec_ptRank.l0 k l (wrap64 ((wrap64 (A * (wrap64 ((l.length : Int) - i)))) + ((c + cntL a (m.drop j) : Nat) : Int))) l (l.length : Int) (wrap64 (B + 1))) r →
    Ev (fun k => spec_ptRank.l1 k l A i a (c : Int) l (l.length : Int) B m (m.length : Int) (j : Int)) r := by
  unfold cntL
  induction e with
  | zero =>
    intro j c hj ha h
    refine Ev.step (fun k => by rw [spec_ptRank.l1]) ?_
    refine evNeg (by omega) ?_
    rw [List.drop_of_length_le (by omega)] at h
    simpa using h
  | succ e ih =>
    intro j c hj ha h
    refine Ev.step (fun k => by rw [spec_ptRank.l1]) ?_
    rw [getD_drop_cons m j 0 (by omega), List.countP_cons] at h
    rw [i1o j (by omega), rdN]
    refine evPos (by omega) (evPos (by omega) (evPos (by omega) (evSplit (fun hc => ?_) (fun hc => ?_))))
    · rw [if_pos (by simpa using hc)] at h
      rw [show wrap64 ((c : Int) + 1) = ((c + 1 : Nat) : Int) from (w64 (by omega) (by omega)).trans (by omega)]
      refine ih (j + 1) (c + 1) (by omega) (by omega) ?_
      rw [show c + 1 + List.countP (fun b => decide (b < a)) (List.drop (j + 1) m) = c + (List.countP (fun b => decide (b < a)) (List.drop (j + 1) m) + 1) by omega]
      exact h
    · rw [if_neg (by simpa using hc)] at h
      exact ih (j + 1) c (by omega) (by omega) h
theorem rank_l0 (l : List Int) (hl : l.length ≤ 8) (e : Nat) : ∀ (i acc : Nat), i + e = l.length → acc + 1 ≤ 8 ^ i →
    Ev (fun k => spec_ptRank.l0 k l (acc : Int) l (l.length : Int) (i : Int)) ((rkA acc (l.drop i) : Nat) : Int) := by
  induction e with
  | zero =>
    intro i acc hi ha
    refine Ev.step (fun k => by rw [spec_ptRank.l0]) ?_
    refine evNeg (by omega) (evSome ?_)
    rw [List.drop_of_length_le (by omega)]
    rfl
  | succ e ih =>
    intro i acc hi ha
    refine Ev.step (fun k => by rw [spec_ptRank.l0]) ?_
    rw [i1o i (by omega), rdN, Int.toNat_natCast]
    refine evPos (by omega) (evPos (by omega) (evPos (by omega) (evPos (by omega) (evPos (by omega) ?_))))
    refine rank_l1 l (acc : Int) (i : Int) (i : Int) (l.getD i 0) (l.drop (i + 1)) (by rw [List.length_drop]; omega) _ (l.drop (i + 1)).length 0 0 (by omega) (by rw [List.length_drop]; omega) ?_
    rw [i1o i (by omega), List.drop_zero, Nat.zero_add]
    have hc := cntL_le (l.getD i 0) (l.drop (i + 1))
    rw [List.length_drop] at hc
    have hp : 8 ^ i ≤ 8 ^ 8 := Nat.pow_le_pow_right (by omega) (by omega)
    have hp8 : (8 : Nat) ^ 8 = 16777216 := by decide
    have hpi : 8 ^ (i + 1) = 8 ^ i * 8 := Nat.pow_succ _ _
    have hm : (acc + 1) * (l.length - i) ≤ 8 ^ i * 8 := Nat.mul_le_mul ha (by omega)
    rw [Nat.add_mul, Nat.one_mul] at hm
    have e1 : wrap64 ((l.length : Int) - (i : Int)) = ((l.length - i : Nat) : Int) := (w64 (by omega) (by omega)).trans (by omega)
    have e2 : (acc : Int) * ((l.length - i : Nat) : Int) = ((acc * (l.length - i) : Nat) : Int) := (Int.natCast_mul _ _).symm
    rw [e1, e2, w64 (x := ((acc * (l.length - i) : Nat) : Int)) (by omega) (by omega), ← Int.natCast_add, w64 (by omega) (by omega)]
    refine evEq (ih (i + 1) _ (by omega) (by omega)) ?_
    rw [getD_drop_cons l i 0 (by omega), rkA, List.length_drop, show l.length - (i + 1) + 1 = l.length - i by omega]
theorem ptRank_ev (l : List Int) (hl : l.length ≤ 8) : Ev (fun k => spec_ptRank.f k l) ((code l : Nat) : Int) := by
  unfold spec_ptRank.f
  have h := rank_l0 l hl l.length 0 0 (Nat.zero_add _) (by decide)
  rw [rkA_eq, Nat.zero_mul, Nat.zero_add, List.drop_zero] at h
  exact h
theorem turn_l0 (x : List Int) (m : Nat) (hm : m ≤ x.length) (hl : x.length ≤ 100) : ∀ (j : Nat) (acc : List Int), j ≤ x.length → acc.length + j ≤ 1000 → Ev (fun k => spec_ptTurn.l0 k x (m : Int) acc ((j : Int) - 1)) (acc ++ (x.take j).reverse ++ x.drop m) := by
  intro j
  induction j with
  | zero =>
    intro acc hj ha
    refine Ev.step (fun k => by rw [spec_ptTurn.l0]) ?_
    refine evNeg (by omega) (evPos (by omega) (evPos (by omega) (evPos (by rw [Int.toNat_natCast, List.length_drop]; omega) (evSome ?_))))
    rw [Int.toNat_natCast]
    simp
  | succ j ih =>
    intro acc hj ha
    refine Ev.step (fun k => by rw [spec_ptTurn.l0]) ?_
    rw [show ((j + 1 : Nat) : Int) - 1 = (j : Int) by omega, w64 (x := (j : Int) - 1) (by omega) (by omega), rdN]
    refine evPos (by omega) (evPos (by omega) (evPos (by omega) (evPos (by omega) ?_)))
    refine evEq (ih (acc ++ [x.getD j 0]) (by omega) (by rw [List.length_append, List.length_cons, List.length_nil]; omega)) ?_
    rw [List.take_succ_eq_append_getElem (by omega), List.reverse_append, getElem_getD x j 0 (by omega)]
    simp
theorem ptTurn_ev (x : List Int) (m : Nat) (h1 : 1 ≤ m) (hm : m ≤ x.length) (hl : x.length ≤ 100) : Ev (fun k => spec_ptTurn.f k x (m : Int)) (turnL x m) := by
  unfold spec_ptTurn.f
  rw [w64 (by omega) (by omega)]
  exact evEq (turn_l0 x m hm hl m [] (by omega) (by simp; omega)) (by unfold turnL; simp)
end Go.Proofs.YtfegbmlcbdjcgaaDoor.X
end
section
/- The reference's layers and the program's one growing list: the same search. -/
--! needs LBase LOrd LInvs LTurns LRank spec_FewestTurns impl_FewestTurns
namespace Go.Proofs.YtfegbmlcbdjcgaaDoor.X
open Go.Proofs.YtfegbmlcbdjcgaaDoor.Sq Go.RowKit Go.Proofs.YtfegbmlcbdjcgaaDoorW.PrintWords Go.Proofs.YtfegbmlcbdjcgaaDoorW.PrintLast Go.Proofs.YtfegbmlcbdjcgaaDoorW.PrintMore
attribute [local go_sem] max2_int min2_int max_two min_two max_three min_three max_four min_four   -- for this text's walks alone
set_option linter.unusedVariables false
set_option linter.unusedSimpArgs false
theorem pow88 : (8 : Nat) ^ 8 = 16777216 := by decide
theorem good_16 {n : Nat} {A : Found} (h : GoodF n A) (hn : n ≤ 8) : A.length ≤ 16777216 := by
  have := good_bound h hn
  rwa [pow88] at this
structure SeenOk (n : Nat) (S : List Bool) (A : Found) : Prop where
  len : S.length = fct n
  at_ : ∀ x, OrdP n x → S.getD (code x) false = hasK A x
theorem hasK_add (A : Found) (y z : List Int) (t : Nat) : hasK (A ++ [(y, t)]) z = (hasK A z || decide (y = z)) := by
  unfold hasK
  rw [List.any_append]
  simp
theorem SeenOk.put {n : Nat} {S : List Bool} {A : Found} (h : SeenOk n S A) {y : List Int} (hy : OrdP n y) (t : Nat) : SeenOk n (S.set (code y) true) (A ++ [(y, t)]) := by
  have hc : code y < S.length := by
    have := code_lt y
    rw [hy.len] at this
    rw [h.len]
    exact this
  refine ⟨by rw [List.length_set]; exact h.len, fun z hz => ?_⟩
  rw [hasK_add]
  by_cases e : y = z
  · subst e
    rw [getD_set_same S (code y) true false hc, decide_eq_true rfl, Bool.or_true]
  · have hne := hy.code_ne hz e
    rw [List.getD_eq_getElem?_getD, List.getElem?_set_ne hne, ← List.getD_eq_getElem?_getD, h.at_ z hz, decide_eq_false e, Bool.or_false]
abbrev toE (d : Nat) (l : List (List Int)) : Found := l.map fun x => (x, d)
theorem toE_fst {d : Nat} : ∀ (B : Found), (∀ p ∈ B, p.2 = d) → B = toE d (B.map Prod.fst)
 | [], _ => rfl
 | p :: B, h => by
  have h1 := h p (List.mem_cons_self ..)
  have h2 := toE_fst B (fun q hq => h q (List.mem_cons_of_mem _ hq))
  have h3 : toE d ((p :: B).map Prod.fst) = (p.1, d) :: toE d (B.map Prod.fst) := rfl
  rw [h3, ← h2, ← h1]
theorem turns_l3 (n : Nat) (hn : n ≤ 7) (x : List Int) (hx : OrdP n x) (t : Nat) (d : Int) (ring : List (List Int)) (idx : Int) (r : Int × Bool) : ∀ (e m : Nat) (A : Found) (F : List (List Int)) (S : List Bool), 1 ≤ m → m + e = n + 1 → SeenOk n S A → GoodF n A → F.length ≤ A.length →
    (∀ S' B, SeenOk n S' (scanF x t e m A) → scanF x t e m A = A ++ B → Ev (fun k => spec_FewestTurns.l2 k S' d (F ++ B.map Prod.fst) ring (ring.length : Int) (wrap64 (idx + 1))) r) →
    Ev (fun k => spec_FewestTurns.l3 k S d F x (m : Int) ring (ring.length : Int) idx) r := by
  intro e
  induction e with
  | zero =>
    intro m A F S h1 hm hS hG hF h
    refine Ev.step (fun k => by rw [spec_FewestTurns.l3]) ?_
    refine evNeg (by have := hx.len; omega) ?_
    have h2 := h S [] hS (by simp [scanF])
    simpa using h2
  | succ e ih =>
    intro m A F S h1 hm hS hG hF h
    refine Ev.step (fun k => by rw [spec_FewestTurns.l3]) ?_
    have hlx := hx.len
    have hy := hx.turn m
    have hly := hy.len
    refine evPos (by omega) (Ev.bind (ptTurn_ev x m h1 (by omega) (by omega)) (Ev.bind (ptRank_ev (turnL x m) (by omega)) ?_))
    have hc := code_lt (turnL x m)
    rw [hly, ← hS.len] at hc
    have hat : rdOf false S ((code (turnL x m) : Nat) : Int) = hasK A (turnL x m) := by
      unfold rdOf
      rw [Int.toNat_natCast]
      exact hS.at_ _ hy
    have hA8 := good_16 hG (by omega)
    rw [hat, i1o m (by omega), Int.toNat_natCast]
    refine evPos (by omega) (evPos (by omega) ?_)
    cases hk : hasK A (turnL x m) with
    | true =>
      refine evPos rfl ?_
      have hadd : addF A (turnL x m) (t + 1) = A := by unfold addF; rw [if_pos hk]
      refine ih (m + 1) A F S (by omega) (by omega) hS hG hF (fun S' B q1 q2 => ?_)
      exact h S' B (by rw [scanF, hadd]; exact q1) (by rw [scanF, hadd]; exact q2)
    | false =>
      refine evNeg (by simp) (evPos (by omega) ?_)
      have hadd : addF A (turnL x m) (t + 1) = A ++ [(turnL x m, t + 1)] := by unfold addF; rw [if_neg (by rw [hk]; decide)]
      have hG2 : GoodF n (A ++ [(turnL x m, t + 1)]) := by rw [← hadd]; exact addF_good hG hy _
      refine ih (m + 1) (A ++ [(turnL x m, t + 1)]) (F ++ [turnL x m]) (S.set (code (turnL x m)) true) (by omega) (by omega) (hS.put hy _) hG2 (by simp; omega) (fun S' B q1 q2 => ?_)
      have h3 := h S' ((turnL x m, t + 1) :: B) (by rw [scanF, hadd]; exact q1) (by rw [scanF, hadd, q2, List.append_assoc]; rfl)
      rw [List.map_cons] at h3
      rw [List.append_assoc]
      exact h3
theorem toE_at {P F : Found} {d : Nat} {R : List (List Int)} {idx : Nat} (h : idx < R.length) : (P ++ toE d R ++ F)[P.length + idx]? = some (R.getD idx [], d) := by
  rw [List.append_assoc, List.getElem?_append_right (by omega), Nat.add_sub_cancel_left, List.getElem?_append_left (by simpa [toE] using h), toE, List.getElem?_map, List.getElem?_eq_getElem h, getElem_getD R idx [] h]
  rfl
theorem turns_l2 (n : Nat) (hn : n ≤ 7) (hn1 : 1 ≤ n) (o : List Int) (ho : OrdP n o) (j tj i0 : Nat) (Fn : Found) (hpre : ∀ i, i < i0 → ∃ B, Fn = stF n o i ++ B) (hnd : (Fn.map Prod.fst).Nodup) (hj : Fn[j]? = some (upL n, tj)) (he2 : i0 ≤ 16777216) (he3 : ∀ i, i < i0 → i < (stF n o i).length) (hji : j < i0) :
    ∀ (e i : Nat) (P : Found) (R F : List (List Int)) (d : Nat) (S : List Bool) (idx : Nat), i + e = j → idx < R.length → i = P.length + idx → stF n o i = P ++ toE d R ++ toE (d + 1) F → SeenOk n S (stF n o i) → d ≤ i →
    Ev (fun k => spec_FewestTurns.l2 k S (d : Int) F R (R.length : Int) (idx : Int)) ((tj : Int), true) := by
  intro e
  induction e with
  | zero =>
    intro i P R F d S idx hi hidx hiP hst hS hd
    obtain rfl : i = j := by omega
    have hat : (stF n o i)[i]? = some (R.getD idx [], d) := by
      have h1 : (P ++ toE d R ++ toE (d + 1) F)[P.length + idx]? = some (R.getD idx [], d) := toE_at hidx
      rw [← hiP] at h1
      rw [hst]
      exact h1
    obtain ⟨B, hB⟩ := hpre i hji
    have hlt := he3 i hji
    rw [hB, List.getElem?_append_left hlt, hat] at hj
    simp only [Option.some.injEq, Prod.mk.injEq] at hj
    refine Ev.step (fun k => by rw [spec_FewestTurns.l2]) ?_
    have hup : rd_L1 R (idx : Int) = upL n := by unfold rd_L1; rw [Int.toNat_natCast]; exact hj.1
    rw [hup]
    refine evPos (by omega) (evPos (by omega) (evPos (by omega) (Ev.bind (ptInverted_ev (upL n) (by rw [upL_len]; omega)) ?_)))
    rw [invs_up _ (upL_lt n)]
    refine evPos rfl (evSome ?_)
    rw [hj.2]
  | succ e ih =>
    intro i P R F d S idx hi hidx hiP hst hS hd
    have hat : (stF n o i)[i]? = some (R.getD idx [], d) := by
      have h1 : (P ++ toE d R ++ toE (d + 1) F)[P.length + idx]? = some (R.getD idx [], d) := toE_at hidx
      rw [← hiP] at h1
      rw [hst]
      exact h1
    have hgood := stF_good ho i
    have hx : OrdP n (R.getD idx []) := hgood.ord _ (List.mem_of_getElem? hat)
    have hx2 : rd_L1 R (idx : Int) = R.getD idx [] := by unfold rd_L1; rw [Int.toNat_natCast]
    obtain ⟨B0, hB0⟩ := hpre i (by omega)
    have hlt := he3 i (by omega)
    have hne : R.getD idx [] ≠ upL n := by
      intro e1
      have hfi : Fn[i]? = some (upL n, d) := by rw [hB0, List.getElem?_append_left hlt, hat, e1]
      obtain ⟨hi1, hi2⟩ := List.getElem?_eq_some_iff.1 hfi
      obtain ⟨hj1, hj2⟩ := List.getElem?_eq_some_iff.1 hj
      have h4 := (List.pairwise_iff_getElem.1 hnd) i j (by rw [List.length_map]; exact hi1) (by rw [List.length_map]; exact hj1) (by omega)
      apply h4
      rw [List.getElem_map, List.getElem_map, hi2, hj2]
    have hinv : invs (R.getD idx []) ≠ 0 := fun h0 => hne ((invs_home hx).1 h0)
    have hA8 := good_16 hgood (by omega)
    have hlen : (stF n o i).length = P.length + R.length + F.length := by rw [hst]; simp only [List.length_append, toE, List.length_map]
    have hsucc : stF n o (i + 1) = scanF (R.getD idx []) d (n - 1) 2 (stF n o i) := stF_at hat
    refine Ev.step (fun k => by rw [spec_FewestTurns.l2]) ?_
    rw [hx2]
    refine evPos (by omega) (evPos (by omega) (evPos (by omega) (Ev.bind (ptInverted_ev (R.getD idx []) (by have := hx.len; omega)) (evNeg (by omega) ?_))))
    refine turns_l3 n hn (R.getD idx []) hx d (d : Int) R (idx : Int) _ (n - 1) 2 (stF n o i) F S (by omega) (by omega) hS hgood (by omega) (fun S' B q1 q2 => ?_)
    rw [← hsucc] at q1 q2
    obtain ⟨B', hB', hB2⟩ := scanF_pre (R.getD idx []) d (n - 1) 2 (stF n o i)
    have hBB : B = B' := by
      rw [← hsucc, q2] at hB'
      exact List.append_cancel_left hB'
    subst hBB
    have hBe := toE_fst B hB2
    have hst2 : stF n o (i + 1) = P ++ toE d R ++ toE (d + 1) (F ++ B.map Prod.fst) := by
      rw [q2, hst, toE, toE, toE, List.map_append]
      conv => lhs; rw [hBe]
      simp only [List.append_assoc, toE]
    rw [show wrap64 ((idx : Int) + 1) = ((idx + 1 : Nat) : Int) from (w64 (by omega) (by omega)).trans (by omega)]
    by_cases hl : idx + 1 < R.length
    · exact ih (i + 1) P R (F ++ B.map Prod.fst) d S' (idx + 1) (by omega) hl (by omega) hst2 q1 (by omega)
    · refine Ev.step (fun k => by rw [spec_FewestTurns.l2]) ?_
      refine evNeg (by omega) ?_
      refine Ev.step (fun k => by rw [spec_FewestTurns.l1]) ?_
      rw [show wrap64 ((d : Int) + 1) = ((d + 1 : Nat) : Int) from (w64 (by omega) (by omega)).trans (by omega)]
      have hlt2 := he3 (i + 1) (by omega)
      have hlen2 : (stF n o (i + 1)).length = P.length + R.length + (F ++ B.map Prod.fst).length := by rw [hst2]; simp only [List.length_append, toE, List.length_map]
      exact ih (i + 1) (P ++ toE d R) (F ++ B.map Prod.fst) [] (d + 1) S' 0 (by omega) (by omega) (by simp only [List.length_append, toE, List.length_map]; omega) (by rw [hst2]; simp only [toE, List.map_nil, List.append_nil]) q1 (by omega)
theorem stF_le (n : Nat) (o : List Int) : ∀ i, ∀ p ∈ stF n o i, p.2 ≤ i
 | 0, p, hp => by rw [List.mem_singleton.1 hp]; exact Nat.le_refl _
 | i + 1, p, hp => by
  rw [stF] at hp
  unfold nextF at hp
  split at hp
  · rename_i q hq
    obtain ⟨B, h1, h2⟩ := scanF_pre q.1 q.2 (n - 1) 2 (stF n o i)
    rw [h1] at hp
    have h3 := stF_le n o i q (List.mem_of_getElem? hq)
    rcases List.mem_append.1 hp with hp | hp
    · have := stF_le n o i p hp
      omega
    · have := h2 p hp
      omega
  · have := stF_le n o i p hp
    omega
theorem fct_7 {n : Nat} (h : n ≤ 7) : fct n ≤ 5040 := by
  match n, h with
  | 0, _ => decide
  | 1, _ => decide
  | 2, _ => decide
  | 3, _ => decide
  | 4, _ => decide
  | 5, _ => decide
  | 6, _ => decide
  | 7, _ => decide
  | n + 8, h => omega
theorem turns_l0 (o : List Int) (hn : o.length ≤ 7) (hn1 : 1 ≤ o.length) (r : Int × Bool) (h : Ev (fun k => spec_FewestTurns.l1 k ((List.replicate (fct o.length) false).set (code o) true) [o] 0) r) : ∀ (e m : Nat), 1 ≤ m → m + e = o.length → Ev (fun k => spec_FewestTurns.l0 k o ((fct m : Nat) : Int) ((m + 1 : Nat) : Int)) r := by
  intro e
  induction e with
  | zero =>
    intro m h1 hm
    refine Ev.step (fun k => by rw [spec_FewestTurns.l0]) ?_
    obtain rfl : m = o.length := by omega
    have hf := fct_7 hn
    have hc := code_lt o
    rw [Int.toNat_natCast]
    refine evNeg (by omega) (evPos (by omega) (evPos (by omega) (evBind0 rfl (Ev.bind (ptRank_ev o (by omega)) (evPos (by omega) (evPos (by rw [List.length_replicate]; omega) ?_))))))
    rw [Int.toNat_natCast]
    exact h
  | succ e ih =>
    intro m h1 hm
    refine Ev.step (fun k => by rw [spec_FewestTurns.l0]) ?_
    refine evPos (by omega) ?_
    have hf := fct_7 (n := m + 1) (by omega)
    have e1 : ((fct m : Nat) : Int) * ((m + 1 : Nat) : Int) = ((fct (m + 1) : Nat) : Int) := by rw [← Int.natCast_mul, Nat.mul_comm]; rfl
    rw [e1, w64 (x := ((fct (m + 1) : Nat) : Int)) (by omega) (by omega), i1o (m + 1) (by omega)]
    exact ih (m + 1) (by omega) (by omega)
theorem spec_turns (o : List Int) (ho : OrdP o.length o) (hn : o.length ≤ 7) (hn1 : 1 ≤ o.length) : Ev (fun k => spec_FewestTurns.l0 k o 1 2) (((lookF (finF o.length o) (upL o.length) : Nat) : Int), true) := by
  obtain ⟨i0, e1, e2, e3⟩ := stF_end ho (by omega)
  obtain ⟨tj, htj⟩ := (hasK_iff _ _).1 (fin_home ho (by omega))
  have hnd : ((finF o.length o).map Prod.fst).Nodup := (stF_good ho _).nodup
  have hlook := lookF_at hnd htj
  obtain ⟨j, hj, hje⟩ := List.getElem_of_mem htj
  have hjl : j < i0 := by
    have h1 := finF_eq e1 e2
    rw [h1] at hj
    omega
  have h0 : SeenOk o.length ((List.replicate (fct o.length) false).set (code o) true) [(o, 0)] := by
    have hb : SeenOk o.length (List.replicate (fct o.length) false) [] := ⟨by rw [List.length_replicate], fun x _ => by
      rw [List.getD_eq_getElem?_getD, List.getElem?_replicate]
      split <;> rfl⟩
    exact hb.put ho 0
  have hjf : (finF o.length o)[j]? = some (upL o.length, tj) := by rw [List.getElem?_eq_getElem hj, hje]
  have hpre : ∀ i, i < i0 → ∃ B, finF o.length o = stF o.length o i ++ B := fun i hi => fin_pre (Nat.le_trans (Nat.le_of_lt hi) e2)
  rw [pow88] at e2
  generalize finF o.length o = Fn at hjf hnd hpre hlook hj ⊢
  have hm := turns_l2 o.length hn hn1 o ho j tj i0 Fn hpre hnd hjf e2 e3 hjl j 0 [] [o] [] 0 _ 0 (by omega) (by simp) rfl rfl h0 (Nat.le_refl _)
  rw [hlook]
  exact turns_l0 o hn hn1 _ (Ev.step (fun k => by rw [spec_FewestTurns.l1]; rfl) hm) (o.length - 1) 1 (by omega) (by omega)
end Go.Proofs.YtfegbmlcbdjcgaaDoor.X
end
