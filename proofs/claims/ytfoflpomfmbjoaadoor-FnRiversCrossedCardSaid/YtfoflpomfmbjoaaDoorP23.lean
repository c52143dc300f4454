import Derived.Test.YtfoflpomfmbjoaaDoorP4
import Derived.Test.YtfoflpomfmbjoaaDoorP6
import Derived.Test.YtfoflpomfmbjoaaDoorP8
import Derived.Test.YtfoflpomfmbjoaaDoorP9
import Derived.Test.YtfoflpomfmbjoaaDoorP10
import Derived.Test.YtfoflpomfmbjoaaDoorP17
import Derived.Test.YtfoflpomfmbjoaaDoorP18
import Derived.Test.YtfoflpomfmbjoaaDoorP19
import Derived.Test.YtfoflpomfmbjoaaDoorP20
import Derived.Test.YtfoflpomfmbjoaaDoorP22
import Derived.Laws.BitsLemmas
import Derived.Laws.Bits64
section
namespace Go.Proofs.YtfoflpomfmbjoaaDoor.X
open Go.Proofs.YtfoflpomfmbjoaaDoor.Sq Go.RowKit Go.Proofs.YtfoflpomfmbjoaaDoorW.PrintWords Go.Proofs.YtfoflpomfmbjoaaDoorW.PrintLast Go.Proofs.YtfoflpomfmbjoaaDoorW.PrintMore
attribute [local go_sem] max2_int min2_int max_two min_two max_three min_three max_four min_four   -- for this text's walks alone
set_option linter.unusedVariables false
set_option linter.unusedSimpArgs false
set_option maxHeartbeats 8000000 in
set_option maxRecDepth 100000 in
theorem laws_FnRiversCrossed.calls (k : Nat) (A0 : Option Addr) (c0 : Nat) (l0 : List Int) (A1 : Option Addr) (c1 : Nat) (l1 : List Int) (r : Bool) (w : World) (hr0 : Kd.C (Kd.int .u8) w A0 l0.length l0) (hc0 : l0.length ≤ c0) (hr1 : Kd.C (Kd.int .u8) w A1 l1.length l1) (hc1 : l1.length ≤ c1) (h : laws_FnRiversCrossed.f k l0 l1 = some r) :
  Calls Tryd.prog 4 #[.slice A0 l0.length c0, .slice A1 l1.length c1] w fun e w' => e = .returned (.bool r) ∧ Below w.heap.size w w' := by
 have HR0 := am hr0; have HC0 := am hc0; clear hr0 hc0; have HR1 := am hr1; have HC1 := am hc1; clear hr1 hc1; have HB := am (Below.refl w.heap.size w); have H : ((laws_big.f l0 l1).bind fun t405 => (if t405 = true then (some true) else ((spec_DrawFirstCrossing.f k l0).bind fun bt420 => ((impl_FirstCrossing.f k bt420.1 bt420.2).bind fun bt422 => ((spec_FirstCrossing.f k bt420.1 bt420.2).bind fun bt426 => ((impl_FewestLeaps.f k bt420.1 bt420.2).bind fun bt430 => ((spec_FewestLeaps.f k bt420.1 bt420.2).bind fun bt432 => ((impl_CanCross.f k bt420.1 bt420.2).bind fun bt434 => ((spec_CanCross.f k bt420.1 bt420.2).bind fun bt436 => ((impl_CountCrossings.f k bt420.1 bt420.2).bind fun bt438 => ((spec_CountCrossings.f k bt420.1 bt420.2).bind fun bt440 => ((impl_ReachOf.f k bt420.1 bt420.2).bind fun bt442 => ((spec_ReachOf.f k bt420.1 bt420.2).bind fun bt444 => ((impl_LeapsLeft.f k bt420.1 bt420.2).bind fun bt446 => ((spec_LeapsLeft.f k bt420.1 bt420.2).bind fun bt450 => ((impl_StonesOf.f k bt420.1).bind fun bt454 => ((spec_StonesOf.f k bt420.1).bind fun bt458 => (if (bt422.2 != bt426.2) = true then (none) else ((laws_dSame.f k bt422.1 bt426.1).bind fun t462 => (if t462 = true then (if (bt430.2 != bt432.2) = true then (none) else (if bt430.1 = bt432.1 then (if (bt434.2 != bt436.2) = true then (none) else (if (bt434.1 != bt436.1) = true then (none) else (if (bt438.2 != bt440.2) = true then (none) else (if bt438.1 = bt440.1 then (if (bt442.2 != bt444.2) = true then (none) else (if bt442.1 = bt444.1 then (if (bt446.2 != bt450.2) = true then (none) else ((laws_dSame.f k bt446.1 bt450.1).bind fun t463 => (if t463 = true then (if (bt454.2 != bt458.2) = true then (none) else ((laws_dSame.f k bt454.1 bt458.1).bind fun t464 => (if t464 = true then ((impl_IsRiver.f bt420.1).bind fun t465 => (if (bt454.2 != t465) = true then (none) else ((impl_IsRiver.f bt420.1).bind fun t466 => ((spec_IsRiver.f k bt420.1).bind fun t467 => (if (t466 != t467) = true then (none) else (if bt434.2 = true then (if (bt422.2 != bt434.1) = true then (none) else (if (bt430.2 != bt422.2) = true then (none) else (if (bt442.2 != bt434.2) = true then (none) else (if (bt446.2 != bt434.2) = true then (none) else (if bt438.2 = true then (laws_FnRiversCrossed.j0 k l1 bt420.1 bt420.2 bt422.1 bt422.2 bt430.1 bt434.1 bt434.2 bt438.1 bt438.2 bt442.1 bt446.1 bt454.1 (!bt454.2)) else (laws_FnRiversCrossed.j0 k l1 bt420.1 bt420.2 bt422.1 bt422.2 bt430.1 bt434.1 bt434.2 bt438.1 bt438.2 bt442.1 bt446.1 bt454.1 (!bt454.2))))))) else (if (bt422.2 != false) = true then (none) else (if (bt430.2 != bt422.2) = true then (none) else (if (bt442.2 != bt434.2) = true then (none) else (if (bt446.2 != bt434.2) = true then (none) else (if bt438.2 = true then (none) else (laws_FnRiversCrossed.j0 k l1 bt420.1 bt420.2 bt422.1 bt422.2 bt430.1 bt434.1 bt434.2 bt438.1 bt438.2 bt442.1 bt446.1 bt454.1 false)))))))))))) else (none)))) else (none)))) else (none))) else (none))))) else (none))) else (none))))))))))))))))))))) = some r := h; clear h; replace H := Option.bind_eq_some_iff.mp H; obtain ⟨t405, A30, H⟩ := H; (try dsimp only at H); have A3 := am A30; clear A30; by_cases c4 : t405 = true
 ·subst c4; rw [if_pos rfl] at H; (try dsimp only at H); obtain rfl := Option.some.inj H; go_enter Tryd.func4, Tryd.ntmps4; (try dsimp only [List.append]); go_wp2_with (first | ((with_reducible refine gate_callee (f := 5) rfl ?_); refine goesL_ (some 67) rfl rfl Tryd.func5 (by kernel_rfl) rfl #[.slice A0 l0.length c0, .slice A1 l1.length c1] rfl (by (try simp only [List.map_toArray, List.map_cons, List.map_nil]); first | done | rfl | (simp only [List.length_drop, List.length_take]; rfl)) ?_; (with_reducible refine (laws_big.calls _ _ l0 _ _ l1 true _ ?side1 ?side2 ?side3 ?side4 A3.out).mono ?_); (case side1 => repeat (first | exact HR0.out | (with_reducible refine Kd.C_alloc ?_ _) | (with_reducible refine Kd.C_drewN ?_ _) | (with_reducible refine Kd.C_drew ?_))); (case side2 => exact HC0.out); (case side3 => repeat (first | exact HR1.out | (with_reducible refine Kd.C_alloc ?_ _) | (with_reducible refine Kd.C_drewN ?_ _) | (with_reducible refine Kd.C_drew ?_))); (case side4 => exact HC1.out); rintro e w' ⟨rfl, ⟨nd, rfl⟩⟩; refine ⟨_, rfl, ?_⟩)); go_ret; exact ⟨by first | rfl | (simp [errW_none, errW_some] <;> rfl) | (simp [*, errW_none, errW_some] <;> rfl), hbS HB.out⟩
 ·replace c4 := Bool.eq_false_iff.mpr c4; subst c4; rw [if_neg (show ¬ (false = true) by decide)] at H; (try dsimp only at H); replace H := Option.bind_eq_some_iff.mp H; obtain ⟨⟨t420, t421⟩, A50, H⟩ := H; (try dsimp only at H); have A5 := am A50; clear A50; replace H := Option.bind_eq_some_iff.mp H; obtain ⟨⟨t422, t423⟩, A60, H⟩ := H; (try dsimp only at H); have A6 := am A60; clear A60; replace H := Option.bind_eq_some_iff.mp H; obtain ⟨⟨t426, t427⟩, A70, H⟩ := H; (try dsimp only at H); have A7 := am A70; clear A70; replace H := Option.bind_eq_some_iff.mp H; obtain ⟨⟨t430, t431⟩, A80, H⟩ := H; (try dsimp only at H); have A8 := am A80; clear A80; replace H := Option.bind_eq_some_iff.mp H; obtain ⟨⟨t432, t433⟩, A90, H⟩ := H; (try dsimp only at H); have A9 := am A90; clear A90; replace H := Option.bind_eq_some_iff.mp H; obtain ⟨⟨t434, t435⟩, A100, H⟩ := H; (try dsimp only at H); have A10 := am A100; clear A100; replace H := Option.bind_eq_some_iff.mp H; obtain ⟨⟨t436, t437⟩, A110, H⟩ := H; (try dsimp only at H); have A11 := am A110; clear A110; replace H := Option.bind_eq_some_iff.mp H; obtain ⟨⟨t438, t439⟩, A120, H⟩ := H; (try dsimp only at H); have A12 := am A120; clear A120; replace H := Option.bind_eq_some_iff.mp H; obtain ⟨⟨t440, t441⟩, A130, H⟩ := H; (try dsimp only at H); have A13 := am A130; clear A130; replace H := Option.bind_eq_some_iff.mp H; obtain ⟨⟨t442, t443⟩, A140, H⟩ := H; (try dsimp only at H); have A14 := am A140; clear A140; replace H := Option.bind_eq_some_iff.mp H; obtain ⟨⟨t444, t445⟩, A150, H⟩ := H; (try dsimp only at H); have A15 := am A150; clear A150; replace H := Option.bind_eq_some_iff.mp H; obtain ⟨⟨t446, t447⟩, A160, H⟩ := H; (try dsimp only at H); have A16 := am A160; clear A160; replace H := Option.bind_eq_some_iff.mp H; obtain ⟨⟨t450, t451⟩, A170, H⟩ := H; (try dsimp only at H); have A17 := am A170; clear A170; replace H := Option.bind_eq_some_iff.mp H; obtain ⟨⟨t454, t457⟩, A180, H⟩ := H; (try dsimp only at H); have A18 := am A180; clear A180; replace H := Option.bind_eq_some_iff.mp H; obtain ⟨⟨t458, t459⟩, A190, H⟩ := H; (try dsimp only at H); have A19 := am A190; clear A190; have HC20 := am H; clear H; go_enter Tryd.func4, Tryd.ntmps4; (try dsimp only [List.append]); go_upto_region 18 with (first | ((with_reducible refine gate_callee (f := 5) rfl ?_); refine goesL_ (some 67) rfl rfl Tryd.func5 (by kernel_rfl) rfl #[.slice A0 l0.length c0, .slice A1 l1.length c1] rfl (by (try simp only [List.map_toArray, List.map_cons, List.map_nil]); first | done | rfl | (simp only [List.length_drop, List.length_take]; rfl)) ?_; (with_reducible refine (laws_big.calls _ _ l0 _ _ l1 false _ ?side1 ?side2 ?side3 ?side4 A3.out).mono ?_); (case side1 => repeat (first | exact HR0.out | (with_reducible refine Kd.C_alloc ?_ _) | (with_reducible refine Kd.C_drewN ?_ _) | (with_reducible refine Kd.C_drew ?_))); (case side2 => exact HC0.out); (case side3 => repeat (first | exact HR1.out | (with_reducible refine Kd.C_alloc ?_ _) | (with_reducible refine Kd.C_drewN ?_ _) | (with_reducible refine Kd.C_drew ?_))); (case side4 => exact HC1.out); rintro e w' ⟨rfl, ⟨nd, rfl⟩⟩; refine ⟨_, rfl, ?_⟩) | ((with_reducible refine gate_callee (f := 36) rfl ?_); refine goesL_ (some 70) rfl rfl Tryd.func36 (by kernel_rfl) rfl #[.slice A0 l0.length c0] rfl (by (try simp only [List.map_toArray, List.map_cons, List.map_nil]); first | done | rfl | (simp only [List.length_drop, List.length_take]; rfl)) ?_; (with_reducible refine (spec_DrawFirstCrossing.calls k _ _ l0 t420 t421 _ ?side1 ?side2 A5.out).mono ?_); (case side1 => repeat (first | exact HR0.out | (with_reducible refine Kd.C_alloc ?_ _) | (with_reducible refine Kd.C_drewN ?_ _) | (with_reducible refine Kd.C_drew ?_))); (case side2 => exact HC0.out); rintro e w21 ⟨rfl, hb⟩; refine ⟨_, rfl, ?_⟩; replace HB := am (below_step (hbS HB.out) hb); (try clear hb); (try clear hk); ) | ((with_reducible refine gate_callee (f := 21) rfl ?_); refine goesL_ (some 76) rfl rfl Tryd.func21 (by kernel_rfl) rfl #[.string t420, .int .i64 t421] rfl (by (try simp only [List.map_toArray, List.map_cons, List.map_nil]); first | done | rfl | (simp only [List.length_drop, List.length_take]; rfl)) ?_; (with_reducible refine (impl_FirstCrossing.calls k t420 t421 t422 t423 _ A6.out).mono ?_); rintro e w22 ⟨v424, rfl, ho0, hb⟩; refine ⟨_, rfl, ?_⟩; replace HO425 := am (Kd.R_lower ho0 (below_size (hbS HB.out))); replace HB := am (below_step (hbS HB.out) hb); (try clear hb); (try clear hk); (try clear ho0)) | ((with_reducible refine gate_callee (f := 37) rfl ?_); refine goesL_ (some 82) rfl rfl Tryd.func37 (by kernel_rfl) rfl #[.string t420, .int .i64 t421] rfl (by (try simp only [List.map_toArray, List.map_cons, List.map_nil]); first | done | rfl | (simp only [List.length_drop, List.length_take]; rfl)) ?_; (with_reducible refine (spec_FirstCrossing.calls k t420 t421 t426 t427 _ A7.out).mono ?_); rintro e w23 ⟨v428, rfl, ho0, hb⟩; refine ⟨_, rfl, ?_⟩; have n0_ := am (Kd.R_elder' (roS HO425.out) (Kd.R_base ho0) hb); have n1_ := am (Kd.R_lower (Kd.R_new' ho0 (Kd.R_lt (roS HO425.out))) (below_size (hbS HB.out))); have n2_ := am (below_step (hbS HB.out) hb); clear HO425; clear HB; have HO425 := n0_; have HO429 := n1_; have HB := n2_; clear n0_ n1_ n2_; (try clear hb); (try clear hk); (try clear ho0)) | ((with_reducible refine gate_callee (f := 38) rfl ?_); refine goesL_ (some 88) rfl rfl Tryd.func38 (by kernel_rfl) rfl #[.string t420, .int .i64 t421] rfl (by (try simp only [List.map_toArray, List.map_cons, List.map_nil]); first | done | rfl | (simp only [List.length_drop, List.length_take]; rfl)) ?_; (with_reducible refine (impl_FewestLeaps.calls k t420 t421 t430 t431 _ A8.out).mono ?_); rintro e w24 ⟨rfl, hb⟩; refine ⟨_, rfl, ?_⟩; replace HO425 := am (Kd.R_below (roS HO425.out) hb); replace HO429 := am (Kd.R_below (roS HO429.out) hb); replace HB := am (below_step (hbS HB.out) hb); (try clear hb); (try clear hk); ) | ((with_reducible refine gate_callee (f := 39) rfl ?_); refine goesL_ (some 94) rfl rfl Tryd.func39 (by kernel_rfl) rfl #[.string t420, .int .i64 t421] rfl (by (try simp only [List.map_toArray, List.map_cons, List.map_nil]); first | done | rfl | (simp only [List.length_drop, List.length_take]; rfl)) ?_; (with_reducible refine (spec_FewestLeaps.calls k t420 t421 t432 t433 _ A9.out).mono ?_); rintro e w25 ⟨rfl, hb⟩; refine ⟨_, rfl, ?_⟩; replace HO425 := am (Kd.R_below (roS HO425.out) hb); replace HO429 := am (Kd.R_below (roS HO429.out) hb); replace HB := am (below_step (hbS HB.out) hb); (try clear hb); (try clear hk); ) | ((with_reducible refine gate_callee (f := 15) rfl ?_); refine goesL_ (some 100) rfl rfl Tryd.func15 (by kernel_rfl) rfl #[.string t420, .int .i64 t421] rfl (by (try simp only [List.map_toArray, List.map_cons, List.map_nil]); first | done | rfl | (simp only [List.length_drop, List.length_take]; rfl)) ?_; (with_reducible refine (impl_CanCross.calls k t420 t421 t434 t435 _ A10.out).mono ?_); rintro e w26 ⟨rfl, hb⟩; refine ⟨_, rfl, ?_⟩; replace HO425 := am (Kd.R_below (roS HO425.out) hb); replace HO429 := am (Kd.R_below (roS HO429.out) hb); replace HB := am (below_step (hbS HB.out) hb); (try clear hb); (try clear hk); ) | ((with_reducible refine gate_callee (f := 40) rfl ?_); refine goesL_ (some 106) rfl rfl Tryd.func40 (by kernel_rfl) rfl #[.string t420, .int .i64 t421] rfl (by (try simp only [List.map_toArray, List.map_cons, List.map_nil]); first | done | rfl | (simp only [List.length_drop, List.length_take]; rfl)) ?_; (with_reducible refine (spec_CanCross.calls k t420 t421 t436 t437 _ A11.out).mono ?_); rintro e w27 ⟨rfl, hb⟩; refine ⟨_, rfl, ?_⟩; replace HO425 := am (Kd.R_below (roS HO425.out) hb); replace HO429 := am (Kd.R_below (roS HO429.out) hb); replace HB := am (below_step (hbS HB.out) hb); (try clear hb); (try clear hk); ) | ((with_reducible refine gate_callee (f := 41) rfl ?_); refine goesL_ (some 112) rfl rfl Tryd.func41 (by kernel_rfl) rfl #[.string t420, .int .i64 t421] rfl (by (try simp only [List.map_toArray, List.map_cons, List.map_nil]); first | done | rfl | (simp only [List.length_drop, List.length_take]; rfl)) ?_; (with_reducible refine (impl_CountCrossings.calls k t420 t421 t438 t439 _ A12.out).mono ?_); rintro e w28 ⟨rfl, hb⟩; refine ⟨_, rfl, ?_⟩; replace HO425 := am (Kd.R_below (roS HO425.out) hb); replace HO429 := am (Kd.R_below (roS HO429.out) hb); replace HB := am (below_step (hbS HB.out) hb); (try clear hb); (try clear hk); ) | ((with_reducible refine gate_callee (f := 42) rfl ?_); refine goesL_ (some 118) rfl rfl Tryd.func42 (by kernel_rfl) rfl #[.string t420, .int .i64 t421] rfl (by (try simp only [List.map_toArray, List.map_cons, List.map_nil]); first | done | rfl | (simp only [List.length_drop, List.length_take]; rfl)) ?_; (with_reducible refine (spec_CountCrossings.calls k t420 t421 t440 t441 _ A13.out).mono ?_); rintro e w29 ⟨rfl, hb⟩; refine ⟨_, rfl, ?_⟩; replace HO425 := am (Kd.R_below (roS HO425.out) hb); replace HO429 := am (Kd.R_below (roS HO429.out) hb); replace HB := am (below_step (hbS HB.out) hb); (try clear hb); (try clear hk); ) | ((with_reducible refine gate_callee (f := 43) rfl ?_); refine goesL_ (some 124) rfl rfl Tryd.func43 (by kernel_rfl) rfl #[.string t420, .int .i64 t421] rfl (by (try simp only [List.map_toArray, List.map_cons, List.map_nil]); first | done | rfl | (simp only [List.length_drop, List.length_take]; rfl)) ?_; (with_reducible refine (impl_ReachOf.calls k t420 t421 t442 t443 _ A14.out).mono ?_); rintro e w30 ⟨rfl, hb⟩; refine ⟨_, rfl, ?_⟩; replace HO425 := am (Kd.R_below (roS HO425.out) hb); replace HO429 := am (Kd.R_below (roS HO429.out) hb); replace HB := am (below_step (hbS HB.out) hb); (try clear hb); (try clear hk); ) | ((with_reducible refine gate_callee (f := 44) rfl ?_); refine goesL_ (some 130) rfl rfl Tryd.func44 (by kernel_rfl) rfl #[.string t420, .int .i64 t421] rfl (by (try simp only [List.map_toArray, List.map_cons, List.map_nil]); first | done | rfl | (simp only [List.length_drop, List.length_take]; rfl)) ?_; (with_reducible refine (spec_ReachOf.calls k t420 t421 t444 t445 _ A15.out).mono ?_); rintro e w31 ⟨rfl, hb⟩; refine ⟨_, rfl, ?_⟩; replace HO425 := am (Kd.R_below (roS HO425.out) hb); replace HO429 := am (Kd.R_below (roS HO429.out) hb); replace HB := am (below_step (hbS HB.out) hb); (try clear hb); (try clear hk); ) | ((with_reducible refine gate_callee (f := 45) rfl ?_); refine goesL_ (some 136) rfl rfl Tryd.func45 (by kernel_rfl) rfl #[.string t420, .int .i64 t421] rfl (by (try simp only [List.map_toArray, List.map_cons, List.map_nil]); first | done | rfl | (simp only [List.length_drop, List.length_take]; rfl)) ?_; (with_reducible refine (impl_LeapsLeft.calls k t420 t421 t446 t447 _ A16.out).mono ?_); rintro e w32 ⟨v448, rfl, ho0, hb⟩; refine ⟨_, rfl, ?_⟩; have n0_ := am (Kd.R_elder' (roS HO425.out) (Kd.R_base ho0) hb); have n1_ := am (Kd.R_elder' (roS HO429.out) (Kd.R_base ho0) hb); have n2_ := am (Kd.R_lower (Kd.R_new' (Kd.R_new' ho0 (Kd.R_lt (roS HO425.out))) (Kd.R_lt (roS HO429.out))) (below_size (hbS HB.out))); have n3_ := am (below_step (hbS HB.out) hb); clear HO425; clear HO429; clear HB; have HO425 := n0_; have HO429 := n1_; have HO449 := n2_; have HB := n3_; clear n0_ n1_ n2_ n3_; (try clear hb); (try clear hk); (try clear ho0)) | ((with_reducible refine gate_callee (f := 46) rfl ?_); refine goesL_ (some 142) rfl rfl Tryd.func46 (by kernel_rfl) rfl #[.string t420, .int .i64 t421] rfl (by (try simp only [List.map_toArray, List.map_cons, List.map_nil]); first | done | rfl | (simp only [List.length_drop, List.length_take]; rfl)) ?_; (with_reducible refine (spec_LeapsLeft.calls k t420 t421 t450 t451 _ A17.out).mono ?_); rintro e w33 ⟨v452, rfl, ho0, hb⟩; refine ⟨_, rfl, ?_⟩; have n0_ := am (Kd.R_elder' (roS HO425.out) (Kd.R_base ho0) hb); have n1_ := am (Kd.R_elder' (roS HO429.out) (Kd.R_base ho0) hb); have n2_ := am (Kd.R_elder' (roS HO449.out) (Kd.R_base ho0) hb); have n3_ := am (Kd.R_lower (Kd.R_new' (Kd.R_new' (Kd.R_new' ho0 (Kd.R_lt (roS HO425.out))) (Kd.R_lt (roS HO429.out))) (Kd.R_lt (roS HO449.out))) (below_size (hbS HB.out))); have n4_ := am (below_step (hbS HB.out) hb); clear HO425; clear HO429; clear HO449; clear HB; have HO425 := n0_; have HO429 := n1_; have HO449 := n2_; have HO453 := n3_; have HB := n4_; clear n0_ n1_ n2_ n3_ n4_; (try clear hb); (try clear hk); (try clear ho0)) | ((with_reducible refine gate_callee (f := 47) rfl ?_); refine goesL_ (some 147) rfl rfl Tryd.func47 (by kernel_rfl) rfl #[.string t420] rfl (by (try simp only [List.map_toArray, List.map_cons, List.map_nil]); first | done | rfl | (simp only [List.length_drop, List.length_take]; rfl)) ?_; (with_reducible refine (impl_StonesOf.calls k t420 t454 t457 _ A18.out).mono ?_); rintro e w34 ⟨v455, rfl, ho0, hb⟩; refine ⟨_, rfl, ?_⟩; have n0_ := am (Kd.R_below (roS HO425.out) hb); have n1_ := am (Kd.R_below (roS HO429.out) hb); have n2_ := am (Kd.R_below (roS HO449.out) hb); have n3_ := am (Kd.R_below (roS HO453.out) hb); have n4_ := am (Kd.V_lower (Kd.V_mono (ok' := fun k_ => some k_ ≠ (v424 : Value).ownBlock ∧ some k_ ≠ (v428 : Value).ownBlock ∧ some k_ ≠ (v448 : Value).ownBlock ∧ some k_ ≠ (v452 : Value).ownBlock) ho0 (fun k_ hk_ => ⟨(Kd.fresh' (Kd.R_lt (roS HO425.out)) k_ hk_), (Kd.fresh' (Kd.R_lt (roS HO429.out)) k_ hk_), (Kd.fresh' (Kd.R_lt (roS HO449.out)) k_ hk_), (Kd.fresh' (Kd.R_lt (roS HO453.out)) k_ hk_)⟩)) (below_size (hbS HB.out))); have n5_ := am (below_step (hbS HB.out) hb); clear HO425; clear HO429; clear HO449; clear HO453; clear HB; have HO425 := n0_; have HO429 := n1_; have HO449 := n2_; have HO453 := n3_; have HO456 := n4_; have HB := n5_; clear n0_ n1_ n2_ n3_ n4_ n5_; (try clear hb); (try clear hk); (try clear ho0)) | ((with_reducible refine gate_callee (f := 48) rfl ?_); refine goesL_ (some 152) rfl rfl Tryd.func48 (by kernel_rfl) rfl #[.string t420] rfl (by (try simp only [List.map_toArray, List.map_cons, List.map_nil]); first | done | rfl | (simp only [List.length_drop, List.length_take]; rfl)) ?_; (with_reducible refine (spec_StonesOf.calls k t420 t458 t459 _ A19.out).mono ?_); rintro e w35 ⟨v460, rfl, ho0, hb⟩; refine ⟨_, rfl, ?_⟩; have n0_ := am (Kd.R_elder' (roS HO425.out) (Kd.R_base ho0) hb); have n1_ := am (Kd.R_elder' (roS HO429.out) (Kd.R_base ho0) hb); have n2_ := am (Kd.R_elder' (roS HO449.out) (Kd.R_base ho0) hb); have n3_ := am (Kd.R_elder' (roS HO453.out) (Kd.R_base ho0) hb); have n4_ := am (Kd.V_elder' (by (with_reducible repeat (first | apply Kd.V_alloc | apply Kd.V_drewN | apply Kd.V_drew)); (first | exact HO456.out | exact Kd.V_mono HO456.out (fun _ hk => ⟨hk.2, hk.1⟩))) (Kd.R_base ho0) hb); have n5_ := am (Kd.R_lower (Kd.R_new' (Kd.R_new' (Kd.R_new' (Kd.R_new' ho0 (Kd.R_lt (roS HO425.out))) (Kd.R_lt (roS HO429.out))) (Kd.R_lt (roS HO449.out))) (Kd.R_lt (roS HO453.out))) (below_size (hbS HB.out))); have n6_ := am (below_step (hbS HB.out) hb); clear HO425; clear HO429; clear HO449; clear HO453; clear HO456; clear HB; have HO425 := n0_; have HO429 := n1_; have HO449 := n2_; have HO453 := n3_; have HO456 := n4_; have HO461 := n5_; have HB := n6_; clear n0_ n1_ n2_ n3_ n4_ n5_ n6_; (try clear hb); (try clear hk); (try clear ho0))); (try simp only [Act.put, List.setIfInBounds_toArray, List.set_cons_zero, List.set_cons_succ]); go_cut [275] from 9999 (fun v275 wc => ∃ (kq : Nat) (x275_19 : Bool), v275 = .bool x275_19 ∧ Aside0 (laws_FnRiversCrossed.j0 kq l1 t420 t421 t422 t423 t430 t434 t435 t438 t439 t442 t446 t454 x275_19 = some r) ∧ Aside0 (kq ≤ k) ∧ Aside0 (Kd.R (Kd.int .i64) 3 wc w.heap.size (fun k_ => some k_ ≠ (v448 : Value).ownBlock) v424 t422) ∧ Aside0 (Kd.R (Kd.int .i64) 3 wc w.heap.size (fun k_ => some k_ ≠ (v424 : Value).ownBlock) v448 t446) ∧ Aside0 (Kd.V (Kd.int .i64) 3 wc w.heap.size (fun k_ => some k_ ≠ (v424 : Value).ownBlock ∧ some k_ ≠ (v448 : Value).ownBlock) v455 t454) ∧ Aside0 (Below w.heap.size w wc))
  case first =>
   have H := HC20.out; clear HC20; obtain ⟨c36, H⟩ := itN H; (have c36b0 : (t423 != t427) = false := by simpa using c36); (try (have c36b1 : decide (t423 = t427) = true := by simpa using c36)); (try (have c36b2 : (t423 == t427) = true := by simpa using c36)); clear c36; (first | rw [c36b0] | (simp only [i64_w, i32_w]; rw [c36b0]) | rw [c36b1] | skip); replace H := Option.bind_eq_some_iff.mp H; obtain ⟨t462, A370, H⟩ := H; (try dsimp only at H); have A37 := am A370; clear A370; by_cases c38 : t462 = true; rotate_left
   ·replace c38 := Bool.eq_false_iff.mpr c38; subst c38; rw [if_neg (show ¬ (false = true) by decide)] at H; (try dsimp only at H); exact absurd H (by simp)
   subst c38; rw [if_pos rfl] at H; (try dsimp only at H); obtain ⟨c39, H⟩ := itN H; (have c39b0 : (t431 != t433) = false := by simpa using c39); (try (have c39b1 : decide (t431 = t433) = true := by simpa using c39)); (try (have c39b2 : (t431 == t433) = true := by simpa using c39)); clear c39; obtain ⟨c40, H⟩ := itP H; have c40b0 : (t430 == t432) = true := beq_iff_eq.mpr c40; have c40b1 : (t430 != t432) = false := bne_eq_false_iff_eq.mpr c40; clear c40; obtain ⟨c41, H⟩ := itN H; (have c41b0 : (t435 != t437) = false := by simpa using c41); (try (have c41b1 : decide (t435 = t437) = true := by simpa using c41)); (try (have c41b2 : (t435 == t437) = true := by simpa using c41)); clear c41; obtain ⟨c42, H⟩ := itN H; (have c42b0 : (t434 != t436) = false := by simpa using c42); (try (have c42b1 : decide (t434 = t436) = true := by simpa using c42)); (try (have c42b2 : (t434 == t436) = true := by simpa using c42)); clear c42; obtain ⟨c43, H⟩ := itN H; (have c43b0 : (t439 != t441) = false := by simpa using c43); (try (have c43b1 : decide (t439 = t441) = true := by simpa using c43)); (try (have c43b2 : (t439 == t441) = true := by simpa using c43)); clear c43; obtain ⟨c44, H⟩ := itP H; have c44b0 : (t438 == t440) = true := beq_iff_eq.mpr c44; have c44b1 : (t438 != t440) = false := bne_eq_false_iff_eq.mpr c44; clear c44; obtain ⟨c45, H⟩ := itN H; (have c45b0 : (t443 != t445) = false := by simpa using c45); (try (have c45b1 : decide (t443 = t445) = true := by simpa using c45)); (try (have c45b2 : (t443 == t445) = true := by simpa using c45)); clear c45; obtain ⟨c46, H⟩ := itP H; have c46b0 : (t442 == t444) = true := beq_iff_eq.mpr c46; have c46b1 : (t442 != t444) = false := bne_eq_false_iff_eq.mpr c46; clear c46; obtain ⟨c47, H⟩ := itN H; (have c47b0 : (t447 != t451) = false := by simpa using c47); (try (have c47b1 : decide (t447 = t451) = true := by simpa using c47)); (try (have c47b2 : (t447 == t451) = true := by simpa using c47)); clear c47; replace H := Option.bind_eq_some_iff.mp H; obtain ⟨t463, A480, H⟩ := H; (try dsimp only at H); have A48 := am A480; clear A480; by_cases c49 : t463 = true; rotate_left
   ·replace c49 := Bool.eq_false_iff.mpr c49; subst c49; rw [if_neg (show ¬ (false = true) by decide)] at H; (try dsimp only at H); exact absurd H (by simp)
   subst c49; rw [if_pos rfl] at H; (try dsimp only at H); obtain ⟨c50, H⟩ := itN H; (have c50b0 : (t457 != t459) = false := by simpa using c50); (try (have c50b1 : decide (t457 = t459) = true := by simpa using c50)); (try (have c50b2 : (t457 == t459) = true := by simpa using c50)); clear c50; replace H := Option.bind_eq_some_iff.mp H; obtain ⟨t464, A510, H⟩ := H; (try dsimp only at H); have A51 := am A510; clear A510; by_cases c52 : t464 = true; rotate_left
   ·replace c52 := Bool.eq_false_iff.mpr c52; subst c52; rw [if_neg (show ¬ (false = true) by decide)] at H; (try dsimp only at H); exact absurd H (by simp)
   subst c52; rw [if_pos rfl] at H; (try dsimp only at H); replace H := Option.bind_eq_some_iff.mp H; obtain ⟨t465, A530, H⟩ := H; (try dsimp only at H); have A53 := am A530; clear A530; obtain ⟨c54, H⟩ := itN H; (have c54b0 : (t457 != t465) = false := by simpa using c54); (try (have c54b1 : decide (t457 = t465) = true := by simpa using c54)); (try (have c54b2 : (t457 == t465) = true := by simpa using c54)); clear c54; replace H := Option.bind_eq_some_iff.mp H; obtain ⟨t466, A550, H⟩ := H; (try dsimp only at H); have A55 := am A550; clear A550; replace H := Option.bind_eq_some_iff.mp H; obtain ⟨t467, A560, H⟩ := H; (try dsimp only at H); have A56 := am A560; clear A560; obtain ⟨c57, H⟩ := itN H; (have c57b0 : (t466 != t467) = false := by simpa using c57); (try (have c57b1 : decide (t466 = t467) = true := by simpa using c57)); (try (have c57b2 : (t466 == t467) = true := by simpa using c57)); (try rw [show t466 = t465 from Option.some.inj (A55.out.symm.trans A53.out)] at c57b0); (try rw [show t466 = t465 from Option.some.inj (A55.out.symm.trans A53.out)] at c57b1); (try rw [show t466 = t465 from Option.some.inj (A55.out.symm.trans A53.out)] at c57b2); clear c57; by_cases c58 : t435 = true
   ·subst c58; rw [if_pos rfl] at H; (try dsimp only at H); obtain ⟨c59, H⟩ := itN H; (have c59b0 : (t423 != t434) = false := by simpa using c59); (try (have c59b1 : decide (t423 = t434) = true := by simpa using c59)); (try (have c59b2 : (t423 == t434) = true := by simpa using c59)); clear c59; obtain ⟨c60, H⟩ := itN H; (have c60b0 : (t431 != t423) = false := by simpa using c60); (try (have c60b1 : decide (t431 = t423) = true := by simpa using c60)); (try (have c60b2 : (t431 == t423) = true := by simpa using c60)); clear c60; obtain ⟨c61, H⟩ := itN H; (have c61b0 : (t443 != true) = false := by simpa using c61); (try (have c61b1 : decide (t443 = true) = true := by simpa using c61)); (try (have c61b2 : (t443 == true) = true := by simpa using c61)); clear c61; obtain ⟨c62, H⟩ := itN H; (have c62b0 : (t447 != true) = false := by simpa using c62); (try (have c62b1 : decide (t447 = true) = true := by simpa using c62)); (try (have c62b2 : (t447 == true) = true := by simpa using c62)); clear c62; by_cases c63 : t439 = true
    ·subst c63; rw [if_pos rfl] at H; (try dsimp only at H); have H' := am H; clear H; obtain ⟨Ao64, co64, eo64⟩ := Kd.R_slice HO425.out; subst eo64; obtain ⟨Ao65, co65, eo65⟩ := Kd.R_slice HO429.out; subst eo65; (try go_wp2_with (first | (go_at_call 16; (with_reducible refine (laws_dSame.calls k _ _ t422 _ _ t426 true _ ?side1 ?side2 ?side3 ?side4 A37.out).mono ?_); (case side1 => repeat (first | exact (Kd.R_reads' HO425.out).2.2 | (with_reducible refine Kd.C_alloc ?_ _) | (with_reducible refine Kd.C_drewN ?_ _) | (with_reducible refine Kd.C_drew ?_))); (case side2 => exact (Kd.R_reads' HO425.out).2.1); (case side3 => repeat (first | exact (Kd.R_reads' HO429.out).2.2 | (with_reducible refine Kd.C_alloc ?_ _) | (with_reducible refine Kd.C_drewN ?_ _) | (with_reducible refine Kd.C_drew ?_))); (case side4 => exact (Kd.R_reads' HO429.out).2.1); rintro e w' ⟨rfl, ⟨nd, rfl⟩⟩; obtain ⟨Ao66, co66, eo66⟩ := Kd.R_slice HO449.out; subst eo66; obtain ⟨Ao67, co67, eo67⟩ := Kd.R_slice HO453.out; subst eo67) | fail)); (try go_wp2_with (first | (go_at_call 16; (with_reducible refine (laws_dSame.calls k _ _ t446 _ _ t450 true _ ?side1 ?side2 ?side3 ?side4 A48.out).mono ?_); (case side1 => repeat (first | exact (Kd.R_reads' HO449.out).2.2 | (with_reducible refine Kd.C_alloc ?_ _) | (with_reducible refine Kd.C_drewN ?_ _) | (with_reducible refine Kd.C_drew ?_))); (case side2 => exact (Kd.R_reads' HO449.out).2.1); (case side3 => repeat (first | exact (Kd.R_reads' HO453.out).2.2 | (with_reducible refine Kd.C_alloc ?_ _) | (with_reducible refine Kd.C_drewN ?_ _) | (with_reducible refine Kd.C_drew ?_))); (case side4 => exact (Kd.R_reads' HO453.out).2.1); rintro e w' ⟨rfl, ⟨nd, rfl⟩⟩; obtain ⟨Ao68, co68, eo68⟩ := Kd.V_slice HO456.out; subst eo68; obtain ⟨Ao69, co69, eo69⟩ := Kd.R_slice HO461.out; subst eo69) | fail)); (try go_wp2_with (first | (go_at_call 16; (with_reducible refine (laws_dSame.calls k _ _ t454 _ _ t458 true _ ?side1 ?side2 ?side3 ?side4 A51.out).mono ?_); (case side1 => repeat (first | exact (Kd.V_reads' HO456.out).2.2 | (with_reducible refine Kd.C_alloc ?_ _) | (with_reducible refine Kd.C_drewN ?_ _) | (with_reducible refine Kd.C_drew ?_))); (case side2 => exact (Kd.V_reads' HO456.out).2.1); (case side3 => repeat (first | exact (Kd.R_reads' HO461.out).2.2 | (with_reducible refine Kd.C_alloc ?_ _) | (with_reducible refine Kd.C_drewN ?_ _) | (with_reducible refine Kd.C_drew ?_))); (case side4 => exact (Kd.R_reads' HO461.out).2.1); rintro e w' ⟨rfl, ⟨nd, rfl⟩⟩) | fail)); (try go_wp2_with (first | (go_at_call 35; (with_reducible refine (impl_IsRiver.calls t420 t465 _ A53.out).mono ?_); rintro e w70 ⟨rfl, hb⟩; replace HO425 := am (Kd.R_below (roS HO425.out) hb); replace HO429 := am (Kd.R_below (roS HO429.out) hb); replace HO449 := am (Kd.R_below (roS HO449.out) hb); replace HO453 := am (Kd.R_below (roS HO453.out) hb); replace HO456 := am (Kd.V_below (by (with_reducible repeat (first | apply Kd.V_alloc | apply Kd.V_drewN | apply Kd.V_drew)); (first | exact HO456.out | exact Kd.V_mono HO456.out (fun _ hk => ⟨hk.2, hk.1⟩))) hb); replace HO461 := am (Kd.R_below (roS HO461.out) hb); replace HB := am (below_step (hbS HB.out) hb); (try clear hb); (try clear hk); ) | fail)); (try go_wp2_with (first | (go_at_call 35; (with_reducible refine (impl_IsRiver.calls t420 t466 _ A55.out).mono ?_); rintro e w71 ⟨rfl, hb⟩; replace HO425 := am (Kd.R_below (roS HO425.out) hb); replace HO429 := am (Kd.R_below (roS HO429.out) hb); replace HO449 := am (Kd.R_below (roS HO449.out) hb); replace HO453 := am (Kd.R_below (roS HO453.out) hb); replace HO456 := am (Kd.V_below (by (with_reducible repeat (first | apply Kd.V_alloc | apply Kd.V_drewN | apply Kd.V_drew)); (first | exact HO456.out | exact Kd.V_mono HO456.out (fun _ hk => ⟨hk.2, hk.1⟩))) hb); replace HO461 := am (Kd.R_below (roS HO461.out) hb); replace HB := am (below_step (hbS HB.out) hb); (try clear hb); (try clear hk); ) | fail)); go_wp2_with (first | (go_at_call 49; (with_reducible refine (spec_IsRiver.calls k t420 t467 _ A56.out).mono ?_); rintro e w' ⟨rfl, ⟨nd, rfl⟩⟩) | fail); go_meet
     case rel => exact ⟨_, (!t457), (by first | rfl | (simp; done) | (simp [*]; done)), H', ⟨by first | omega | exact Nat.le_refl _⟩, ⟨by (with_reducible repeat (first | apply Kd.R_alloc | apply Kd.R_drewN | apply Kd.R_drew)); exact Kd.R_mono HO425.out (fun _ hk => hk.1.1.2)⟩, ⟨by (with_reducible repeat (first | apply Kd.R_alloc | apply Kd.R_drewN | apply Kd.R_drew)); exact Kd.R_mono HO449.out (fun _ hk => hk.1.1.1.2)⟩, ⟨by (with_reducible repeat (first | apply Kd.V_alloc | apply Kd.V_drewN | apply Kd.V_drew)); exact Kd.V_mono HO456.out (fun _ hk => ⟨hk.1.1, hk.1.2.2.1⟩)⟩, ⟨hbS HB.out⟩⟩
    ·replace c63 := Bool.eq_false_iff.mpr c63; subst c63; rw [if_neg (show ¬ (false = true) by decide)] at H; (try dsimp only at H); have H' := am H; clear H; obtain ⟨Ao72, co72, eo72⟩ := Kd.R_slice HO425.out; subst eo72; obtain ⟨Ao73, co73, eo73⟩ := Kd.R_slice HO429.out; subst eo73; (try go_wp2_with (first | (go_at_call 16; (with_reducible refine (laws_dSame.calls k _ _ t422 _ _ t426 true _ ?side1 ?side2 ?side3 ?side4 A37.out).mono ?_); (case side1 => repeat (first | exact (Kd.R_reads' HO425.out).2.2 | (with_reducible refine Kd.C_alloc ?_ _) | (with_reducible refine Kd.C_drewN ?_ _) | (with_reducible refine Kd.C_drew ?_))); (case side2 => exact (Kd.R_reads' HO425.out).2.1); (case side3 => repeat (first | exact (Kd.R_reads' HO429.out).2.2 | (with_reducible refine Kd.C_alloc ?_ _) | (with_reducible refine Kd.C_drewN ?_ _) | (with_reducible refine Kd.C_drew ?_))); (case side4 => exact (Kd.R_reads' HO429.out).2.1); rintro e w' ⟨rfl, ⟨nd, rfl⟩⟩; obtain ⟨Ao74, co74, eo74⟩ := Kd.R_slice HO449.out; subst eo74; obtain ⟨Ao75, co75, eo75⟩ := Kd.R_slice HO453.out; subst eo75) | fail)); (try go_wp2_with (first | (go_at_call 16; (with_reducible refine (laws_dSame.calls k _ _ t446 _ _ t450 true _ ?side1 ?side2 ?side3 ?side4 A48.out).mono ?_); (case side1 => repeat (first | exact (Kd.R_reads' HO449.out).2.2 | (with_reducible refine Kd.C_alloc ?_ _) | (with_reducible refine Kd.C_drewN ?_ _) | (with_reducible refine Kd.C_drew ?_))); (case side2 => exact (Kd.R_reads' HO449.out).2.1); (case side3 => repeat (first | exact (Kd.R_reads' HO453.out).2.2 | (with_reducible refine Kd.C_alloc ?_ _) | (with_reducible refine Kd.C_drewN ?_ _) | (with_reducible refine Kd.C_drew ?_))); (case side4 => exact (Kd.R_reads' HO453.out).2.1); rintro e w' ⟨rfl, ⟨nd, rfl⟩⟩; obtain ⟨Ao76, co76, eo76⟩ := Kd.V_slice HO456.out; subst eo76; obtain ⟨Ao77, co77, eo77⟩ := Kd.R_slice HO461.out; subst eo77) | fail)); (try go_wp2_with (first | (go_at_call 16; (with_reducible refine (laws_dSame.calls k _ _ t454 _ _ t458 true _ ?side1 ?side2 ?side3 ?side4 A51.out).mono ?_); (case side1 => repeat (first | exact (Kd.V_reads' HO456.out).2.2 | (with_reducible refine Kd.C_alloc ?_ _) | (with_reducible refine Kd.C_drewN ?_ _) | (with_reducible refine Kd.C_drew ?_))); (case side2 => exact (Kd.V_reads' HO456.out).2.1); (case side3 => repeat (first | exact (Kd.R_reads' HO461.out).2.2 | (with_reducible refine Kd.C_alloc ?_ _) | (with_reducible refine Kd.C_drewN ?_ _) | (with_reducible refine Kd.C_drew ?_))); (case side4 => exact (Kd.R_reads' HO461.out).2.1); rintro e w' ⟨rfl, ⟨nd, rfl⟩⟩) | fail)); (try go_wp2_with (first | (go_at_call 35; (with_reducible refine (impl_IsRiver.calls t420 t465 _ A53.out).mono ?_); rintro e w78 ⟨rfl, hb⟩; replace HO425 := am (Kd.R_below (roS HO425.out) hb); replace HO429 := am (Kd.R_below (roS HO429.out) hb); replace HO449 := am (Kd.R_below (roS HO449.out) hb); replace HO453 := am (Kd.R_below (roS HO453.out) hb); replace HO456 := am (Kd.V_below (by (with_reducible repeat (first | apply Kd.V_alloc | apply Kd.V_drewN | apply Kd.V_drew)); (first | exact HO456.out | exact Kd.V_mono HO456.out (fun _ hk => ⟨hk.2, hk.1⟩))) hb); replace HO461 := am (Kd.R_below (roS HO461.out) hb); replace HB := am (below_step (hbS HB.out) hb); (try clear hb); (try clear hk); ) | fail)); (try go_wp2_with (first | (go_at_call 35; (with_reducible refine (impl_IsRiver.calls t420 t466 _ A55.out).mono ?_); rintro e w79 ⟨rfl, hb⟩; replace HO425 := am (Kd.R_below (roS HO425.out) hb); replace HO429 := am (Kd.R_below (roS HO429.out) hb); replace HO449 := am (Kd.R_below (roS HO449.out) hb); replace HO453 := am (Kd.R_below (roS HO453.out) hb); replace HO456 := am (Kd.V_below (by (with_reducible repeat (first | apply Kd.V_alloc | apply Kd.V_drewN | apply Kd.V_drew)); (first | exact HO456.out | exact Kd.V_mono HO456.out (fun _ hk => ⟨hk.2, hk.1⟩))) hb); replace HO461 := am (Kd.R_below (roS HO461.out) hb); replace HB := am (below_step (hbS HB.out) hb); (try clear hb); (try clear hk); ) | fail)); go_wp2_with (first | (go_at_call 49; (with_reducible refine (spec_IsRiver.calls k t420 t467 _ A56.out).mono ?_); rintro e w' ⟨rfl, ⟨nd, rfl⟩⟩) | fail); go_meet
     case rel => exact ⟨_, (!t457), (by first | rfl | (simp; done) | (simp [*]; done)), H', ⟨by first | omega | exact Nat.le_refl _⟩, ⟨by (with_reducible repeat (first | apply Kd.R_alloc | apply Kd.R_drewN | apply Kd.R_drew)); exact Kd.R_mono HO425.out (fun _ hk => hk.1.1.2)⟩, ⟨by (with_reducible repeat (first | apply Kd.R_alloc | apply Kd.R_drewN | apply Kd.R_drew)); exact Kd.R_mono HO449.out (fun _ hk => hk.1.1.1.2)⟩, ⟨by (with_reducible repeat (first | apply Kd.V_alloc | apply Kd.V_drewN | apply Kd.V_drew)); exact Kd.V_mono HO456.out (fun _ hk => ⟨hk.1.1, hk.1.2.2.1⟩)⟩, ⟨hbS HB.out⟩⟩
   ·replace c58 := Bool.eq_false_iff.mpr c58; subst c58; rw [if_neg (show ¬ (false = true) by decide)] at H; (try dsimp only at H); obtain ⟨c80, H⟩ := itN H; (have c80b0 : (t423 != false) = false := by simpa using c80); (try (have c80b1 : decide (t423 = false) = true := by simpa using c80)); (try (have c80b2 : (t423 == false) = true := by simpa using c80)); clear c80; obtain ⟨c81, H⟩ := itN H; (have c81b0 : (t431 != t423) = false := by simpa using c81); (try (have c81b1 : decide (t431 = t423) = true := by simpa using c81)); (try (have c81b2 : (t431 == t423) = true := by simpa using c81)); clear c81; obtain ⟨c82, H⟩ := itN H; (have c82b0 : (t443 != false) = false := by simpa using c82); (try (have c82b1 : decide (t443 = false) = true := by simpa using c82)); (try (have c82b2 : (t443 == false) = true := by simpa using c82)); clear c82; obtain ⟨c83, H⟩ := itN H; (have c83b0 : (t447 != false) = false := by simpa using c83); (try (have c83b1 : decide (t447 = false) = true := by simpa using c83)); (try (have c83b2 : (t447 == false) = true := by simpa using c83)); clear c83; by_cases c84 : t439 = true
    ·subst c84; rw [if_pos rfl] at H; (try dsimp only at H); exact absurd H (by simp)
    replace c84 := Bool.eq_false_iff.mpr c84; subst c84; rw [if_neg (show ¬ (false = true) by decide)] at H; (try dsimp only at H); have H' := am H; clear H; obtain ⟨Ao85, co85, eo85⟩ := Kd.R_slice HO425.out; subst eo85; obtain ⟨Ao86, co86, eo86⟩ := Kd.R_slice HO429.out; subst eo86; (try go_wp2_with (first | (go_at_call 16; (with_reducible refine (laws_dSame.calls k _ _ t422 _ _ t426 true _ ?side1 ?side2 ?side3 ?side4 A37.out).mono ?_); (case side1 => repeat (first | exact (Kd.R_reads' HO425.out).2.2 | (with_reducible refine Kd.C_alloc ?_ _) | (with_reducible refine Kd.C_drewN ?_ _) | (with_reducible refine Kd.C_drew ?_))); (case side2 => exact (Kd.R_reads' HO425.out).2.1); (case side3 => repeat (first | exact (Kd.R_reads' HO429.out).2.2 | (with_reducible refine Kd.C_alloc ?_ _) | (with_reducible refine Kd.C_drewN ?_ _) | (with_reducible refine Kd.C_drew ?_))); (case side4 => exact (Kd.R_reads' HO429.out).2.1); rintro e w' ⟨rfl, ⟨nd, rfl⟩⟩; obtain ⟨Ao87, co87, eo87⟩ := Kd.R_slice HO449.out; subst eo87; obtain ⟨Ao88, co88, eo88⟩ := Kd.R_slice HO453.out; subst eo88) | fail)); (try go_wp2_with (first | (go_at_call 16; (with_reducible refine (laws_dSame.calls k _ _ t446 _ _ t450 true _ ?side1 ?side2 ?side3 ?side4 A48.out).mono ?_); (case side1 => repeat (first | exact (Kd.R_reads' HO449.out).2.2 | (with_reducible refine Kd.C_alloc ?_ _) | (with_reducible refine Kd.C_drewN ?_ _) | (with_reducible refine Kd.C_drew ?_))); (case side2 => exact (Kd.R_reads' HO449.out).2.1); (case side3 => repeat (first | exact (Kd.R_reads' HO453.out).2.2 | (with_reducible refine Kd.C_alloc ?_ _) | (with_reducible refine Kd.C_drewN ?_ _) | (with_reducible refine Kd.C_drew ?_))); (case side4 => exact (Kd.R_reads' HO453.out).2.1); rintro e w' ⟨rfl, ⟨nd, rfl⟩⟩; obtain ⟨Ao89, co89, eo89⟩ := Kd.V_slice HO456.out; subst eo89; obtain ⟨Ao90, co90, eo90⟩ := Kd.R_slice HO461.out; subst eo90) | fail)); (try go_wp2_with (first | (go_at_call 16; (with_reducible refine (laws_dSame.calls k _ _ t454 _ _ t458 true _ ?side1 ?side2 ?side3 ?side4 A51.out).mono ?_); (case side1 => repeat (first | exact (Kd.V_reads' HO456.out).2.2 | (with_reducible refine Kd.C_alloc ?_ _) | (with_reducible refine Kd.C_drewN ?_ _) | (with_reducible refine Kd.C_drew ?_))); (case side2 => exact (Kd.V_reads' HO456.out).2.1); (case side3 => repeat (first | exact (Kd.R_reads' HO461.out).2.2 | (with_reducible refine Kd.C_alloc ?_ _) | (with_reducible refine Kd.C_drewN ?_ _) | (with_reducible refine Kd.C_drew ?_))); (case side4 => exact (Kd.R_reads' HO461.out).2.1); rintro e w' ⟨rfl, ⟨nd, rfl⟩⟩) | fail)); (try go_wp2_with (first | (go_at_call 35; (with_reducible refine (impl_IsRiver.calls t420 t465 _ A53.out).mono ?_); rintro e w91 ⟨rfl, hb⟩; replace HO425 := am (Kd.R_below (roS HO425.out) hb); replace HO429 := am (Kd.R_below (roS HO429.out) hb); replace HO449 := am (Kd.R_below (roS HO449.out) hb); replace HO453 := am (Kd.R_below (roS HO453.out) hb); replace HO456 := am (Kd.V_below (by (with_reducible repeat (first | apply Kd.V_alloc | apply Kd.V_drewN | apply Kd.V_drew)); (first | exact HO456.out | exact Kd.V_mono HO456.out (fun _ hk => ⟨hk.2, hk.1⟩))) hb); replace HO461 := am (Kd.R_below (roS HO461.out) hb); replace HB := am (below_step (hbS HB.out) hb); (try clear hb); (try clear hk); ) | fail)); (try go_wp2_with (first | (go_at_call 35; (with_reducible refine (impl_IsRiver.calls t420 t466 _ A55.out).mono ?_); rintro e w92 ⟨rfl, hb⟩; replace HO425 := am (Kd.R_below (roS HO425.out) hb); replace HO429 := am (Kd.R_below (roS HO429.out) hb); replace HO449 := am (Kd.R_below (roS HO449.out) hb); replace HO453 := am (Kd.R_below (roS HO453.out) hb); replace HO456 := am (Kd.V_below (by (with_reducible repeat (first | apply Kd.V_alloc | apply Kd.V_drewN | apply Kd.V_drew)); (first | exact HO456.out | exact Kd.V_mono HO456.out (fun _ hk => ⟨hk.2, hk.1⟩))) hb); replace HO461 := am (Kd.R_below (roS HO461.out) hb); replace HB := am (below_step (hbS HB.out) hb); (try clear hb); (try clear hk); ) | fail)); go_wp2_with (first | (go_at_call 49; (with_reducible refine (spec_IsRiver.calls k t420 t467 _ A56.out).mono ?_); rintro e w' ⟨rfl, ⟨nd, rfl⟩⟩) | fail); go_meet
    case rel => exact ⟨_, (false), (by first | rfl | (simp; done) | (simp [*]; done)), H', ⟨by first | omega | exact Nat.le_refl _⟩, ⟨by (with_reducible repeat (first | apply Kd.R_alloc | apply Kd.R_drewN | apply Kd.R_drew)); exact Kd.R_mono HO425.out (fun _ hk => hk.1.1.2)⟩, ⟨by (with_reducible repeat (first | apply Kd.R_alloc | apply Kd.R_drewN | apply Kd.R_drew)); exact Kd.R_mono HO449.out (fun _ hk => hk.1.1.1.2)⟩, ⟨by (with_reducible repeat (first | apply Kd.V_alloc | apply Kd.V_drewN | apply Kd.V_drew)); exact Kd.V_mono HO456.out (fun _ hk => ⟨hk.1.1, hk.1.2.2.1⟩)⟩, ⟨hbS HB.out⟩⟩
  case rest =>
   clear HC20; (try clear c1); (try clear c4); (try clear c36); (try clear c36b0); (try clear c36b1); (try clear c36b2); (try clear c38); (try clear c39); (try clear c39b0); (try clear c39b1); (try clear c39b2); (try clear c40); (try clear c40b0); (try clear c40b1); (try clear c41); (try clear c41b0); (try clear c41b1); (try clear c41b2); (try clear c42); (try clear c42b0); (try clear c42b1); (try clear c42b2); (try clear c43); (try clear c43b0); (try clear c43b1); (try clear c43b2); (try clear c44); (try clear c44b0); (try clear c44b1); (try clear c45); (try clear c45b0); (try clear c45b1); (try clear c45b2); (try clear c46); (try clear c46b0); (try clear c46b1); (try clear c47); (try clear c47b0); (try clear c47b1); (try clear c47b2); (try clear c49); (try clear c50); (try clear c50b0); (try clear c50b1); (try clear c50b2); (try clear c52); (try clear c54); (try clear c54b0); (try clear c54b1); (try clear c54b2); (try clear c57); (try clear c57b0); (try clear c57b1); (try clear c57b2); (try clear c58); (try clear c59); (try clear c59b0); (try clear c59b1); (try clear c59b2); (try clear c60); (try clear c60b0); (try clear c60b1); (try clear c60b2); (try clear c61); (try clear c61b0); (try clear c61b1); (try clear c61b2); (try clear c62); (try clear c62b0); (try clear c62b1); (try clear c62b2); (try clear c63); (try clear c80); (try clear c80b0); (try clear c80b1); (try clear c80b2); (try clear c81); (try clear c81b0); (try clear c81b1); (try clear c81b2); (try clear c82); (try clear c82b0); (try clear c82b1); (try clear c82b2); (try clear c83); (try clear c83b0); (try clear c83b1); (try clear c83b2); (try clear c84); obtain ⟨kq, x275_19, rfl, HA, HJ19, HO_7, HO_27, HO_31, HB⟩ := hcut
   cases kq with
   | zero => exact absurd HA.out (by simp [laws_FnRiversCrossed.j0])
   | succ kj19 =>
    have H := HA.out; clear HA; simp only [laws_FnRiversCrossed.j0] at H; by_cases c93 : x275_19 = true
    ·subst c93; rw [if_pos rfl] at H; (try dsimp only at H); exact absurd H (by simp)
    replace c93 := Bool.eq_false_iff.mpr c93; subst c93; rw [if_neg (show ¬ (false = true) by decide)] at H; (try dsimp only at H); have HC94 := am H; clear H; go_step; rename_i K_b_ a_b_; exact laws_FnRiversCrossed.part_b (w := w) (nd := nd) HR1 HC1 HO_7 HO_27 HO_31 HB HJ19 HC94 a_b_
def laws_FnRiversCrossed.Pure : Prop := ∀ (l0 : List Int) (l1 : List Int), l0.length ≤ maxLen → l0.length * 1 ≤ 140737488351232 → (∀ x ∈ l0, (Lit.int .u8 x).wf = true) → l1.length ≤ maxLen → l1.length * 1 ≤ 140737488351232 → (∀ x ∈ l1, (Lit.int .u8 x).wf = true) → ∃ k, laws_FnRiversCrossed.f k l0 l1 = some true
end Go.Proofs.YtfoflpomfmbjoaaDoor.X
end
section
namespace Go.Proofs.YtfoflpomfmbjoaaDoor.X
open Go.RowKit Go.Proofs.YtfoflpomfmbjoaaDoorW.PrintWords Go.Proofs.YtfoflpomfmbjoaaDoorW.PrintLast Go.Proofs.YtfoflpomfmbjoaaDoorW.PrintMore
attribute [local go_sem] max2_int min2_int max_two min_two max_three min_three max_four min_four   -- for this text's walks alone
set_option linter.unusedVariables false
set_option linter.unusedSimpArgs false
def laws_FnRiversCrossed.PureQ : Prop := ∀ (l0 : List Int) (l1 : List Int), (l0.length ≤ maxLen ∧ ∀ y ∈ l0, (Lit.int .u8 y).wf = true) → l0.length * 1 ≤ 140737488351232 → (l1.length ≤ maxLen ∧ ∀ y ∈ l1, (Lit.int .u8 y).wf = true) → l1.length * 1 ≤ 140737488351232 → ∃ k, laws_FnRiversCrossed.f k l0 l1 = some true
end Go.Proofs.YtfoflpomfmbjoaaDoor.X
end
section
namespace Go.Proofs.YtfoflpomfmbjoaaDoor.X
open Go.Proofs.YtfoflpomfmbjoaaDoor.Sq Go.RowKit Go.Proofs.YtfoflpomfmbjoaaDoorW.PrintWords Go.Proofs.YtfoflpomfmbjoaaDoorW.PrintLast Go.Proofs.YtfoflpomfmbjoaaDoorW.PrintMore
attribute [local go_sem] max2_int min2_int max_two min_two max_three min_three max_four min_four   -- for this text's walks alone
set_option linter.unusedVariables false
set_option linter.unusedSimpArgs false
theorem w64 {x : Int} (h : -9223372036854775808 ≤ x) (h' : x ≤ 9223372036854775807) : wrap64 x = x := by
  unfold wrap64
  omega
theorem evPos {α : Type} {c : Prop} [Decidable c] {g f : Nat → Option α} {r : α} (hc : c) (h : Ev g r) : Ev (fun k => if c then g k else f k) r := by
  obtain ⟨K, hK⟩ := h
  exact ⟨K, fun k hk => (if_pos hc).trans (hK k hk)⟩
theorem evNeg {α : Type} {c : Prop} [Decidable c] {g f : Nat → Option α} {r : α} (hc : ¬ c) (h : Ev f r) : Ev (fun k => if c then g k else f k) r := by
  obtain ⟨K, hK⟩ := h
  exact ⟨K, fun k hk => (if_neg hc).trans (hK k hk)⟩
theorem evSplit {α : Type} {c : Prop} [Decidable c] {g f : Nat → Option α} {r : α} (h : c → Ev g r) (h' : ¬ c → Ev f r) : Ev (fun k => if c then g k else f k) r := by
  by_cases hc : c
  · exact evPos hc (h hc)
  · exact evNeg hc (h' hc)
theorem evBind0 {α β : Type} {o : Option α} {f : Nat → α → Option β} {a : α} {r : β} (h : o = some a) (k : Ev (fun n => f n a) r) : Ev (fun n => o.bind (f n)) r := by
  obtain ⟨K, hK⟩ := k
  exact ⟨K, fun k hk => by rw [h]; exact hK k hk⟩
theorem evEq {α : Type} {g : Nat → Option α} {r r' : α} (h : Ev g r) (e : r = r') : Ev g r' := e ▸ h
theorem evSome {α : Type} {r r' : α} (e : r = r') : Ev (fun _ => some r) r' := ⟨0, fun _ _ => by rw [e]⟩
theorem getD_drop_cons {α : Type} (l : List α) (i : Nat) (d : α) (h : i < l.length) : l.drop i = l.getD i d :: l.drop (i + 1) := by
  rw [List.drop_eq_getElem_cons h, List.getD_eq_getElem?_getD, List.getElem?_eq_getElem h]
  rfl
theorem getD_map' {α β : Type} (l : List α) (f : α → β) (i : Nat) (d : α) (e : β) (h : i < l.length) : (l.map f).getD i e = f (l.getD i d) := by
  rw [List.getD_eq_getElem?_getD, List.getD_eq_getElem?_getD, List.getElem?_map, List.getElem?_eq_getElem h]
  rfl
theorem getElem_getD {α : Type} (l : List α) (i : Nat) (d : α) (h : i < l.length) : l[i]'h = l.getD i d := by
  rw [List.getD_eq_getElem?_getD, List.getElem?_eq_getElem h]
  rfl
theorem getD_set_same {α : Type} (l : List α) (i : Nat) (a d : α) (h : i < l.length) : (l.set i a).getD i d = a := by
  rw [List.getD_eq_getElem?_getD, List.getElem?_set_self h]
  rfl
theorem getD_range_map {α : Type} (f : Nat → α) (n i : Nat) (d : α) (h : i < n) : ((List.range n).map f).getD i d = f i := by
  rw [List.getD_eq_getElem?_getD, List.getElem?_map, List.getElem?_range h]
  rfl
def bytesOk (c : List Int) : Prop := (∀ x ∈ c, 0 ≤ x ∧ x ≤ 255) ∧ c.length ≤ 1048576
theorem bytesOk_of {c : List Int} (h : ∀ x ∈ c, (Lit.int .u8 x).wf = true) (hl : c.length ≤ 1048576) : bytesOk c := ⟨fun x hx => by
  have h1 := h x hx
  simp only [Lit.wf, Bool.and_eq_true, decide_eq_true_eq] at h1
  exact h1, hl⟩
theorem wraps_u64_63 (n : Int) (h₀ : 0 ≤ n) (h₁ : n < 2 ^ 63) : IntKind.u64.wrap n = n := by rw [IntKind.wrap_u64]; omega
theorem mask8 (n : Int) : ∃ b, wrap64 (Go.bits .and .u64 (IntKind.u64.wrap n / 1099511627776) 255) = b ∧ 0 ≤ b ∧ b ≤ 255 := by
  have e : ((2 : Int) ^ 8 - 1) = 255 := by decide
  have e2 : ((2 : Int) ^ 8) = 256 := by decide
  have h := bits_mask .u64 63 (by decide) wraps_u64_63 8 (by decide) (IntKind.u64.wrap n / 1099511627776) (by rw [IntKind.wrap_u64]; omega) (by rw [IntKind.wrap_u64]; omega)
  rw [e, e2] at h
  refine ⟨_, rfl, ?_, ?_⟩
  · rw [h, w64 (by omega) (by omega)]; omega
  · rw [h, w64 (by omega) (by omega)]; omega
theorem rd_byte {c : List Int} (hc : bytesOk c) (i : Int) (h0 : 0 ≤ i) (h1 : i < (c.length : Int)) : 0 ≤ rd c i ∧ rd c i ≤ 255 := by
  refine hc.1 _ ?_
  unfold rd
  rw [List.getD_eq_getElem?_getD, List.getElem?_eq_getElem (by omega)]
  exact List.getElem_mem _
theorem emod_le' {a b : Int} (h0 : 0 ≤ a) (h1 : 0 < b) : a % b ≤ a := by
  rcases Int.lt_or_le a b with h | h
  · rw [Int.emod_eq_of_lt h0 h]; exact Int.le_refl _
  · exact Int.le_trans (Int.le_of_lt (Int.emod_lt_of_pos a h1)) h
theorem next_ok {c : List Int} (hc : bytesOk c) (i s : Int) (h0 : 0 ≤ i) (hB : i ≤ 1000000000000000) : ∃ b s', spec_l1Cur_next.f c i s = some (b, i + 1, s') ∧ 0 ≤ b ∧ b ≤ 255 := by
  have e1 : wrap64 (i + 1) = i + 1 := w64 (by omega) (by omega)
  have hl := hc.2
  unfold spec_l1Cur_next.f
  rw [e1]
  by_cases c1 : i < (c.length : Int)
  · obtain ⟨b0, b1⟩ := rd_byte hc i h0 c1
    rw [if_pos c1, if_pos h0, if_pos (by omega), w64 (x := rd c i) (by omega) (by omega)]
    exact ⟨_, _, rfl, b0, b1⟩
  · rw [if_neg c1]
    by_cases c2 : i + 1 ≤ (c.length : Int)
    · exact absurd c2 (by omega)
    · rw [if_neg c2]
      obtain ⟨b, e, b0, b1⟩ := mask8 ((IntKind.u64.wrap ((IntKind.u64.wrap (s * 6364136223846793005)))) + 1442695040888963407)
      rw [e]
      exact ⟨_, _, rfl, b0, b1⟩
theorem pick_ok {c : List Int} (hc : bytesOk c) (i s n : Int) (h0 : 0 ≤ i) (hB : i ≤ 1000000000) (hn : n ≤ 1000000000) : ∃ v i' s', spec_l1Cur_pick.f c i s n = some (v, i', s') ∧ 0 ≤ v ∧ (1 ≤ n → v < n) ∧ v ≤ 65535 ∧ i ≤ i' ∧ i' ≤ i + 2 := by
  unfold spec_l1Cur_pick.f
  by_cases c1 : n ≤ 1
  · rw [if_pos c1]
    exact ⟨_, _, _, rfl, by omega, by omega, by omega, by omega, by omega⟩
  · rw [if_neg c1]
    obtain ⟨b, s1, e1, b0, b1⟩ := next_ok hc i s h0 (by omega)
    rw [e1]
    simp only [Option.bind_some]
    by_cases c2 : n > 200
    · rw [if_pos c2]
      obtain ⟨d, s2, e2, d0, d1⟩ := next_ok hc (i + 1) s1 (by omega) (by omega)
      rw [e2]
      simp only [Option.bind_some]
      rw [if_neg (by omega), w64 (x := b * 256) (by omega) (by omega), w64 (x := b * 256 + d) (by omega) (by omega), Int.tmod_eq_emod_of_nonneg (by omega)]
      have m1 := Int.emod_nonneg (b * 256 + d) (b := n) (by omega)
      have m2 := Int.emod_lt_of_pos (b * 256 + d) (b := n) (by omega)
      have m3 : (b * 256 + d) % n ≤ b * 256 + d := emod_le' (by omega) (by omega)
      exact ⟨_, _, _, rfl, m1, fun _ => m2, by omega, by omega, by omega⟩
    · rw [if_neg c2, if_neg (by omega), Int.tmod_eq_emod_of_nonneg b0]
      have m1 := Int.emod_nonneg b (b := n) (by omega)
      have m2 := Int.emod_lt_of_pos b (b := n) (by omega)
      have m3 : b % n ≤ b := emod_le' (by omega) (by omega)
      exact ⟨_, _, _, rfl, m1, fun _ => m2, by omega, by omega, by omega⟩
def pl (r : ByteArray) (p : Nat) : Bool := decide (p = 0) || decide (p = r.size + 1) || (bt r ((p : Int) - 1) == 111)
def ints (l : List Nat) : List Int := l.map (fun (x : Nat) => (x : Int))
def stL (r : ByteArray) : List Nat := (List.range (r.size + 2)).filter (pl r)
theorem rvStand_eq (r : ByteArray) (hr : r.size ≤ 100) (p : Nat) (hp : p ≤ r.size + 1) : spec_rvStand.f r (p : Int) = some (pl r p) := by
  unfold spec_rvStand.f pl
  rw [w64 (x := (r.size : Int) + 1) (by omega) (by omega), w64 (x := (p : Int) - 1) (by omega) (by omega)]
  by_cases h0 : p = 0
  · subst h0
    rw [if_pos (show ((0 : Nat) : Int) = 0 from rfl)]
    simp
  rw [if_neg (by omega)]
  by_cases h1 : p = r.size + 1
  · rw [if_pos (by omega)]
    simp [h1]
  rw [if_neg (by omega), if_pos (by omega), if_pos (by omega)]
  simp [h0, h1]
theorem stand_l0 (r : ByteArray) (hr : r.size ≤ 100) (d : Nat) : ∀ i : Nat, i + d = r.size → Ev (fun k => impl_stand.l0 k r (ints ((List.range (i + 1)).filter (pl r))) (r.size : Int) (i : Int)) (ints (stL r)) := by
  have hlen : ∀ i : Nat, i ≤ r.size → (ints ((List.range (i + 1)).filter (pl r))).length < 17592186044416 := fun i hi => by
    unfold ints
    rw [List.length_map]
    have := List.length_filter_le (pl r) (List.range (i + 1))
    rw [List.length_range] at this
    omega
  induction d with
  | zero =>
    intro i hi
    obtain rfl : i = r.size := by omega
    refine Ev.step (fun k => by rw [impl_stand.l0]) ?_
    refine evNeg (by omega) (evPos (hlen _ (Nat.le_refl _)) (evSome ?_))
    rw [w64 (by omega) (by omega)]
    unfold stL
    rw [List.range_succ (n := r.size + 1), List.filter_append]
    have : pl r (r.size + 1) = true := by simp [pl]
    simp [ints, this]
  | succ d ih =>
    intro i hi
    refine Ev.step (fun k => by rw [impl_stand.l0]) ?_
    refine evPos (by omega) (evPos (by omega) (evPos (by omega) ?_))
    have h2 := ih (i + 1) (by omega)
    have hp : pl r (i + 1) = (bt r (i : Int) == 111) := by
      unfold pl
      have e : ((i + 1 : Nat) : Int) - 1 = (i : Int) := by omega
      rw [e]
      simp
      omega
    rw [List.range_succ (n := i + 1), List.filter_append] at h2
    rw [w64 (x := (i : Int) + 1) (by omega) (by omega)]
    refine evSplit (fun hb => ?_) (fun hb => ?_)
    · refine evPos (hlen _ (by omega)) ?_
      have : pl r (i + 1) = true := by rw [hp, hb]; rfl
      simpa [ints, this] using h2
    · have : pl r (i + 1) = false := by rw [hp]; simpa using hb
      simpa [ints, this] using h2
theorem stand_ev (r : ByteArray) (hr : r.size ≤ 100) : Ev (fun k => impl_stand.f k r) (ints (stL r)) := by
  unfold impl_stand.f
  have h := stand_l0 r hr r.size 0 (by omega)
  have : (ints ((List.range (0 + 1)).filter (pl r))) = [0] := by
    have : pl r 0 = true := by simp [pl]
    simp [ints, List.range_succ, this]
  rw [this] at h
  simpa using h
theorem stL_cons (r : ByteArray) : stL r = 0 :: (List.range' 1 (r.size + 1)).filter (pl r) := by
  unfold stL
  rw [List.range_eq_range', show r.size + 2 = (r.size + 1) + 1 by omega, List.range'_succ]
  have : pl r 0 = true := by simp [pl]
  simp [this]
theorem stL_le (r : ByteArray) (x : Nat) (h : x ∈ stL r) : x ≤ r.size + 1 := by
  unfold stL at h
  have := List.mem_range.1 (List.mem_filter.1 h).1
  omega
def gapOf (m f : Int) (l : Nat) : List Nat → Int × Int
 | [] => (m, f)
 | p :: t => if (p : Int) - (l : Int) > m then gapOf ((p : Int) - (l : Int)) (l : Int) p t else gapOf m f p t
theorem rvGap_l0 (r : ByteArray) (hr : r.size ≤ 100) (d : Nat) : ∀ (p l : Nat) (m f : Int), p + d = r.size + 2 → l ≤ 101 → Ev (fun k => spec_rvGap.l0 k r m f (l : Int) (p : Int)) (gapOf m f l ((List.range' p d).filter (pl r))) := by
  induction d with
  | zero =>
    intro p l m f hp hl
    refine Ev.step (fun k => by rw [spec_rvGap.l0]) ?_
    rw [w64 (x := (r.size : Int) + 1) (by omega) (by omega)]
    exact evNeg (by omega) (evSome rfl)
  | succ d ih =>
    intro p l m f hp hl
    refine Ev.step (fun k => by rw [spec_rvGap.l0]) ?_
    rw [w64 (x := (r.size : Int) + 1) (by omega) (by omega), w64 (x := (p : Int) + 1) (by omega) (by omega), w64 (x := (p : Int) - (l : Int)) (by omega) (by omega)]
    refine evPos (by omega) (evBind0 (rvStand_eq r hr p (by omega)) ?_)
    rw [List.range'_succ]
    cases hs : pl r p with
    | true =>
      rw [List.filter_cons_of_pos hs]
      refine evPos rfl ?_
      unfold gapOf
      by_cases hg : (p : Int) - (l : Int) > m
      · rw [if_pos hg]
        exact evPos hg (ih (p + 1) p _ _ (by omega) (by omega))
      · rw [if_neg hg]
        exact evNeg hg (ih (p + 1) p _ _ (by omega) (by omega))
    | false =>
      rw [List.filter_cons_of_neg (by simp [hs])]
      exact evNeg (by simp) (ih (p + 1) l _ _ (by omega) hl)
theorem rvGap_ev (r : ByteArray) (hr : r.size ≤ 100) : Ev (fun k => spec_rvGap.f k r) (gapOf 0 0 0 ((List.range' 1 (r.size + 1)).filter (pl r))) := by
  unfold spec_rvGap.f
  exact rvGap_l0 r hr (r.size + 1) 1 0 0 0 (by omega) (by omega)
theorem rd_ints (L : List Nat) (i : Nat) (h : i < L.length) : rd (ints L) (i : Int) = ((L.getD i 0 : Nat) : Int) := by
  unfold rd ints
  rw [Int.toNat_natCast]
  exact getD_map' L _ i 0 0 h
theorem longestGap_l0 (L : List Nat) (hL : ∀ x ∈ L, x ≤ 101) (hlen : L.length ≤ 1000) (d : Nat) : ∀ (i : Nat) (m f : Int), i + 1 + d = L.length → Ev (fun k => impl_longestGap.l0 k (ints L) m f ((i + 1 : Nat) : Int)) (gapOf m f (L.getD i 0) (L.drop (i + 1))) := by
  have hl : (ints L).length = L.length := by simp [ints]
  have hle : ∀ i, i < L.length → L.getD i 0 ≤ 101 := fun i hi => by
    rw [← getElem_getD L i 0 hi]
    exact hL _ (List.getElem_mem hi)
  induction d with
  | zero =>
    intro i m f hi
    refine Ev.step (fun k => by rw [impl_longestGap.l0]) ?_
    refine evNeg (by rw [hl]; omega) (evSome ?_)
    rw [List.drop_of_length_le (by omega)]
    rfl
  | succ d ih =>
    intro i m f hi
    refine Ev.step (fun k => by rw [impl_longestGap.l0]) ?_
    have h1 := hle i (by omega)
    have h2 := hle (i + 1) (by omega)
    have e1 : wrap64 (((i + 1 : Nat) : Int) - 1) = (i : Int) := by rw [w64 (by omega) (by omega)]; omega
    have e2 : wrap64 (((i + 1 : Nat) : Int) + 1) = ((i + 1 + 1 : Nat) : Int) := by rw [w64 (by omega) (by omega)]; omega
    rw [e1, e2, rd_ints L (i + 1) (by omega), rd_ints L i (by omega)]
    have e3 : wrap64 (((L.getD (i + 1) 0 : Nat) : Int) - ((L.getD i 0 : Nat) : Int)) = ((L.getD (i + 1) 0 : Nat) : Int) - ((L.getD i 0 : Nat) : Int) := w64 (by omega) (by omega)
    rw [e3]
    refine evPos (by rw [hl]; omega) (evPos (by omega) (evPos (by omega) (evPos (by rw [hl]; omega) ?_)))
    rw [getD_drop_cons L (i + 1) 0 (by omega)]
    unfold gapOf
    by_cases hg : ((L.getD (i + 1) 0 : Nat) : Int) - ((L.getD i 0 : Nat) : Int) > m
    · rw [if_pos hg]
      exact evPos hg (ih (i + 1) _ _ (by omega))
    · rw [if_neg hg]
      exact evNeg hg (ih (i + 1) _ _ (by omega))
theorem longestGap_ev (r : ByteArray) (hr : r.size ≤ 100) : Ev (fun k => impl_longestGap.f k r) (gapOf 0 0 0 ((List.range' 1 (r.size + 1)).filter (pl r))) := by
  unfold impl_longestGap.f
  refine Ev.bind (stand_ev r hr) ?_
  have hc := stL_cons r
  have hlen : (stL r).length ≤ 102 := by
    unfold stL
    have := List.length_filter_le (pl r) (List.range (r.size + 2))
    rw [List.length_range] at this
    omega
  have h := longestGap_l0 (stL r) (fun x hx => by have := stL_le r x hx; omega) (by omega) ((stL r).length - 1) 0 0 0 (by rw [hc]; simp; omega)
  rw [hc] at h
  rw [hc]
  exact h
theorem getD_append_right' {α : Type} (P Q : List α) (i : Nat) (d : α) : (P ++ Q).getD (P.length + i) d = Q.getD i d := by
  rw [List.getD_eq_getElem?_getD, List.getD_eq_getElem?_getD, List.getElem?_append_right (by omega), Nat.add_sub_cancel_left]
theorem rd_right (P Q : List Int) (i : Nat) : rd (P ++ Q) ((P.length + i : Nat) : Int) = rd Q (i : Int) := by
  unfold rd
  rw [Int.toNat_natCast, Int.toNat_natCast]
  exact getD_append_right' P Q i 0
theorem lfStep_right (P Q : List Int) (t : Nat) : lfStep P.length (P.length + t) (P ++ Q) = P ++ lfStep 0 t Q := by
  unfold lfStep
  have h0 := rd_right P Q 0
  rw [Nat.add_zero] at h0
  rw [rd_right P Q t, h0]
  split
  · rw [List.set_append_right _ _ (by omega), Nat.sub_self]
  · rfl
theorem lfIn_right (P Q : List Int) : ∀ d, lfIn P.length (P ++ Q) d = P ++ lfIn 0 Q d
 | 0 => rfl
 | d + 1 => by
  show lfStep P.length (P.length + 1 + d) (lfIn P.length (P ++ Q) d) = P ++ lfStep 0 (0 + 1 + d) (lfIn 0 Q d)
  rw [lfIn_right P Q d, Nat.add_assoc, lfStep_right, Nat.zero_add]
theorem lfStep_len (fr t : Nat) (o : List Int) : (lfStep fr t o).length = o.length := by
  unfold lfStep
  split <;> simp
theorem lfIn_len (fr : Nat) (o : List Int) : ∀ d, (lfIn fr o d).length = o.length
 | 0 => rfl
 | d + 1 => (lfStep_len _ _ _).trans (lfIn_len fr o d)
def lfC (n : Nat) (a : Int) (p : Nat) : Nat := (mn ((p : Int) + a) ((n : Int) + 1) - (p : Int)).toNat
theorem lfC_le (n : Nat) (a : Int) (p : Nat) : lfC n a p ≤ n + 1 - p := by unfold lfC mn; split <;> omega
theorem lfC_lt (n : Nat) (a : Int) (p d : Nat) (h : d < lfC n a p) : ((p + 1 + d : Nat) : Int) ≤ (n : Int) + 1 ∧ ((p + 1 + d : Nat) : Int) ≤ (p : Int) + a := by
  unfold lfC mn at h
  split at h <;> omega
theorem lfC_end (n : Nat) (a : Int) (p : Nat) : ¬ (((p + 1 + lfC n a p : Nat) : Int) ≤ (n : Int) + 1 ∧ ((p + 1 + lfC n a p : Nat) : Int) ≤ (p : Int) + a) := by
  unfold lfC mn
  split <;> omega
def lfT (r : ByteArray) (a : Int) : Nat → List Int
 | 0 => []
 | d + 1 => if d = 0 then [0] else if pl r (r.size + 1 - d) = true then lfIn 0 ((-1) :: lfT r a d) (lfC r.size a (r.size + 1 - d)) else (-1) :: lfT r a d
theorem lfT_len (r : ByteArray) (a : Int) : ∀ d, (lfT r a d).length = d
 | 0 => rfl
 | d + 1 => by
  unfold lfT
  split
  · rename_i h; subst h; rfl
  · split
    · rw [lfIn_len]; simp [lfT_len r a d]
    · simp [lfT_len r a d]
theorem replicate_snoc {α : Type} (n : Nat) (x : α) (l : List α) : List.replicate (n + 1) x ++ l = List.replicate n x ++ (x :: l) := by
  rw [List.replicate_succ', List.append_assoc]
  rfl
theorem lfOut_top (n : Nat) (a : Int) (o : List Int) : lfOut n a (n + 1) o = o := by
  unfold lfOut
  have : (mn (((n + 1 : Nat) : Int) + a) ((n : Int) + 1) - ((n + 1 : Nat) : Int)).toNat = 0 := by unfold mn; split <;> omega
  rw [this]
  rfl
theorem lf_fold (r : ByteArray) (a : Int) : ∀ d, d ≤ r.size + 1 → ((List.range' (r.size + 1 - d) (d + 1)).filter (pl r)).reverse.foldl (fun o fr => lfOut r.size a fr o) (lfStart r.size) = List.replicate (r.size + 1 - d) (-1) ++ lfT r a (d + 1)
 | 0, _ => by
  have hp : pl r (r.size + 1) = true := by simp [pl]
  rw [Nat.sub_zero, List.range'_succ, List.filter_cons_of_pos hp]
  show lfOut r.size a (r.size + 1) (lfStart r.size) = _
  rw [lfOut_top]
  unfold lfStart
  rw [replicate_snoc (r.size + 1) (-1 : Int) [] |>.symm.trans (List.append_nil _) |>.symm, List.set_append_right _ _ (by simp)]
  simp [lfT]
 | d + 1, h => by
  have ih := lf_fold r a d (by omega)
  rw [List.range'_succ, show r.size + 1 - (d + 1) + 1 = r.size + 1 - d by omega]
  have e1 : lfT r a (d + 1 + 1) = if pl r (r.size + 1 - (d + 1)) = true then lfIn 0 ((-1) :: lfT r a (d + 1)) (lfC r.size a (r.size + 1 - (d + 1))) else (-1) :: lfT r a (d + 1) := by
    conv => lhs; unfold lfT
    rw [if_neg (by omega)]
  have e2 : List.replicate (r.size + 1 - d) (-1 : Int) ++ lfT r a (d + 1) = List.replicate (r.size + 1 - (d + 1)) (-1) ++ ((-1) :: lfT r a (d + 1)) := by
    rw [show r.size + 1 - d = r.size + 1 - (d + 1) + 1 by omega, replicate_snoc]
  cases hs : pl r (r.size + 1 - (d + 1)) with
  | true =>
    rw [List.filter_cons_of_pos hs, List.reverse_cons, List.foldl_append, ih, e1, if_pos hs, e2]
    show lfIn _ _ _ = _
    have h3 := lfIn_right (List.replicate (r.size + 1 - (d + 1)) (-1 : Int)) ((-1) :: lfT r a (d + 1)) (lfC r.size a (r.size + 1 - (d + 1)))
    rw [List.length_replicate] at h3
    exact h3
  | false =>
    rw [List.filter_cons_of_neg (by rw [hs]; exact Bool.false_ne_true), ih, e1, if_neg (by rw [hs]; exact Bool.false_ne_true), e2]
theorem leapsLeft_ev (r : ByteArray) (hr : r.size ≤ 100) (a : Int) (h1 : -1000 ≤ a) (h2 : a ≤ 1000) : Ev (fun k => impl_leapsLeft.f k r a) (lfT r a (r.size + 2)) := by
  unfold impl_leapsLeft.f
  refine Ev.bind (stand_ev r hr) ?_
  have hlen : (stL r).length ≤ 102 := by
    unfold stL
    have := List.length_filter_le (pl r) (List.range (r.size + 2))
    rw [List.length_range] at this
    omega
  have hc := stL_cons r
  refine evPos ⟨hr, h1, h2, by simp [ints]; omega, by simp [ints, hc], ?_⟩ (evSome ?_)
  · intro x hx
    unfold ints at hx
    obtain ⟨y, hy, rfl⟩ := List.mem_map.1 hx
    have := stL_le r y hy
    omega
  · have e : (ints (stL r)).reverse.map Int.toNat = (stL r).reverse := by
      unfold ints
      rw [← List.map_reverse, List.map_map]
      have : (Int.toNat ∘ fun (x : Nat) => (x : Int)) = id := by funext x; simp
      rw [this, List.map_id]
    rw [e]
    have h := lf_fold r a (r.size + 1) (Nat.le_refl _)
    rw [Nat.sub_self] at h
    unfold stL
    rw [List.range_eq_range']
    simpa using h
theorem rvLeft_l1 (r : ByteArray) (hr : r.size ≤ 100) (a : Int) (h1 : -1000 ≤ a) (h2 : a ≤ 1000) (p : Nat) (hp : p ≤ r.size) (o : List Int) (ho : o.length = r.size + 2) (x : List Int) (e : Nat) : ∀ d : Nat, d + e = lfC r.size a p →
    Ev (fun k => spec_rvLeft.l0 k r a ((r.size : Int) + 1) (lfIn p o (lfC r.size a p)) ((p : Int) - 1)) x → Ev (fun k => spec_rvLeft.l1 k r a ((r.size : Int) + 1) (lfIn p o d) (p : Int) ((p + 1 + d : Nat) : Int)) x := by
  have hlow := fun d (hd : d < lfC r.size a p) => lfC_lt r.size a p d hd
  have hhi := lfC_end r.size a p
  have hC := lfC_le r.size a p
  induction e with
  | zero =>
    intro d hd hx
    obtain rfl : d = lfC r.size a p := by omega
    refine Ev.step (fun k => by rw [spec_rvLeft.l1]) ?_
    rw [w64 (x := (p : Int) + a) (by omega) (by omega)]
    refine evSplit (fun hc => ?_) (fun hc => ?_)
    · refine Ev.step (fun k => by rw [spec_rvLeft.j2]) ?_
      refine evNeg (fun h => hhi ⟨hc, of_decide_eq_true h⟩) ?_
      rw [w64 (x := (p : Int) - 1) (by omega) (by omega)]
      exact hx
    · refine Ev.step (fun k => by rw [spec_rvLeft.j2]) ?_
      refine evNeg (by simp) ?_
      rw [w64 (x := (p : Int) - 1) (by omega) (by omega)]
      exact hx
  | succ e ih =>
    intro d hd hx
    obtain ⟨h3, h4⟩ := hlow d (by omega)
    have h5 := ih (d + 1) (by omega) hx
    have hl : (lfIn p o d).length = r.size + 2 := by rw [lfIn_len]; exact ho
    have hst : lfIn p o (d + 1) = lfStep p (p + 1 + d) (lfIn p o d) := rfl
    unfold lfStep at hst
    refine Ev.step (fun k => by rw [spec_rvLeft.l1]) ?_
    refine evPos h3 ?_
    refine Ev.step (fun k => by rw [spec_rvLeft.j2]) ?_
    rw [w64 (x := (p : Int) + a) (by omega) (by omega)]
    refine evPos (decide_eq_true h4) (evPos (by omega) (evPos (by omega) ?_))
    rw [show wrap64 (((p + 1 + d : Nat) : Int) + 1) = ((p + 1 + (d + 1) : Nat) : Int) from (w64 (by omega) (by omega)).trans (by omega), Int.toNat_natCast]
    refine evSplit (fun c1 => evPos (by omega) (evPos (by omega) (evSplit (fun c2 => ?_) (fun c2 => evSplit (fun c3 => ?_) (fun c3 => ?_))))) (fun c1 => ?_)
    · rw [if_pos ⟨c1, Or.inl c2⟩] at hst
      rw [hst] at h5
      exact h5
    · rw [if_pos ⟨c1, Or.inr c3⟩] at hst
      rw [hst] at h5
      exact h5
    · rw [if_neg (fun h => h.2.elim c2 c3)] at hst
      rw [hst] at h5
      exact h5
    · rw [if_neg (fun h => c1 h.1)] at hst
      rw [hst] at h5
      exact h5
theorem rvLeft_l0 (r : ByteArray) (hr : r.size ≤ 100) (a : Int) (h1 : -1000 ≤ a) (h2 : a ≤ 1000) : ∀ (p : Nat), p ≤ r.size + 1 →
    Ev (fun k => spec_rvLeft.l0 k r a ((r.size : Int) + 1) (List.replicate p 0 ++ lfT r a (r.size + 2 - p)) ((p : Int) - 1)) (lfT r a (r.size + 2))
 | 0, _ => by
  refine Ev.step (fun k => by rw [spec_rvLeft.l0]) ?_
  exact evNeg (by omega) (evSome (by simp))
 | p + 1, hp => by
  have ih := rvLeft_l0 r hr a h1 h2 p (by omega)
  have hT := lfT_len r a (r.size + 2 - (p + 1))
  have e0 : ((p + 1 : Nat) : Int) - 1 = (p : Int) := by omega
  rw [e0]
  refine Ev.step (fun k => by rw [spec_rvLeft.l0]) ?_
  refine evPos (by omega) (evPos (by omega) (evPos (by rw [List.length_append, List.length_replicate, hT]; omega) ?_))
  refine evBind0 rfl (evBind0 (rvStand_eq r hr p (by omega)) ?_)
  have es : (List.replicate (p + 1) (0 : Int) ++ lfT r a (r.size + 2 - (p + 1))).set ((p : Int)).toNat (-1) = List.replicate p 0 ++ ((-1) :: lfT r a (r.size + 2 - (p + 1))) := by
    rw [replicate_snoc, Int.toNat_natCast, List.set_append_right _ _ (by simp), List.length_replicate, Nat.sub_self]
    rfl
  rw [es]
  have eT : lfT r a (r.size + 2 - p) = if pl r p = true then lfIn 0 ((-1) :: lfT r a (r.size + 2 - (p + 1))) (lfC r.size a p) else (-1) :: lfT r a (r.size + 2 - (p + 1)) := by
    rw [show r.size + 2 - p = (r.size + 2 - (p + 1)) + 1 by omega]
    conv => lhs; unfold lfT
    rw [if_neg (by omega), show r.size + 1 - (r.size + 2 - (p + 1)) = p by omega]
  rw [eT] at ih
  have hw1 : wrap64 ((p : Int) - 1) = (p : Int) - 1 := w64 (by omega) (by omega)
  have hw2 : wrap64 ((p : Int) + 1) = ((p + 1 + 0 : Nat) : Int) := by rw [w64 (by omega) (by omega)]; omega
  cases hs : pl r p with
  | true =>
    rw [if_pos hs] at ih
    refine evPos rfl ?_
    rw [hw2]
    refine rvLeft_l1 r hr a h1 h2 p (by omega) (List.replicate p 0 ++ ((-1) :: lfT r a (r.size + 2 - (p + 1)))) (by rw [List.length_append, List.length_replicate, List.length_cons, hT]; omega) _ (lfC r.size a p) 0 (by omega) ?_
    have h3 := lfIn_right (List.replicate p (0 : Int)) ((-1) :: lfT r a (r.size + 2 - (p + 1))) (lfC r.size a p)
    rw [List.length_replicate] at h3
    rw [h3]
    exact ih
  | false =>
    rw [if_neg (by simp [hs])] at ih
    refine evNeg (by simp) ?_
    rw [hw1]
    exact ih
theorem rvLeft_ev (r : ByteArray) (hr : r.size ≤ 100) (a : Int) (h1 : -1000 ≤ a) (h2 : a ≤ 1000) : Ev (fun k => spec_rvLeft.f k r a) (lfT r a (r.size + 2)) := by
  unfold spec_rvLeft.f
  have e1 : wrap64 ((r.size : Int) + 1) = ((r.size + 1 : Nat) : Int) := by rw [w64 (by omega) (by omega)]; omega
  have e2 : wrap64 (((r.size + 1 : Nat) : Int) + 1) = ((r.size + 2 : Nat) : Int) := by rw [w64 (by omega) (by omega)]; omega
  have e3 : wrap64 (((r.size + 1 : Nat) : Int) - 1) = ((r.size + 1 : Nat) : Int) - 1 := w64 (by omega) (by omega)
  rw [e1, e2, e3, Int.toNat_natCast]
  refine evPos (by omega) (evPos (by omega) ?_)
  have h := rvLeft_l0 r hr a h1 h2 (r.size + 1) (Nat.le_refl _)
  have e4 : lfT r a (r.size + 2 - (r.size + 1)) = [0] := by rw [show r.size + 2 - (r.size + 1) = 1 by omega]; simp [lfT]
  have e5 : List.replicate (r.size + 1) (0 : Int) ++ [0] = List.replicate (r.size + 2) 0 := by rw [List.replicate_succ' (n := r.size + 1)]
  rw [e4, e5] at h
  exact h
def mnS (T : List Int) : Nat → Int
 | 0 => -1
 | c + 1 => if 0 ≤ T.getD c 0 ∧ (mnS T c < 0 ∨ T.getD c 0 + 1 < mnS T c) then T.getD c 0 + 1 else mnS T c
theorem mnS_spec (T : List Int) : ∀ c, (mnS T c = -1 ∧ ∀ i, i < c → T.getD i 0 < 0) ∨ ∃ i, i < c ∧ 0 ≤ T.getD i 0 ∧ mnS T c = T.getD i 0 + 1 ∧ ∀ j, j < c → 0 ≤ T.getD j 0 → T.getD i 0 ≤ T.getD j 0
 | 0 => .inl ⟨rfl, fun i hi => absurd hi (Nat.not_lt_zero _)⟩
 | c + 1 => by
  unfold mnS
  rcases mnS_spec T c with ⟨h1, h2⟩ | ⟨i, h1, h2, h3, h4⟩
  · by_cases h : 0 ≤ T.getD c 0
    · rw [if_pos ⟨h, .inl (by omega)⟩]
      refine .inr ⟨c, by omega, h, rfl, fun j hj hj0 => ?_⟩
      rcases Nat.lt_succ_iff_lt_or_eq.1 hj with hj' | rfl
      · have := h2 j hj'
        omega
      · exact Int.le_refl _
    · rw [if_neg (fun hh => h hh.1)]
      refine .inl ⟨h1, fun j hj => ?_⟩
      rcases Nat.lt_succ_iff_lt_or_eq.1 hj with hj' | rfl
      · exact h2 j hj'
      · omega
  · by_cases h : 0 ≤ T.getD c 0 ∧ T.getD c 0 + 1 < mnS T c
    · rw [if_pos ⟨h.1, .inr h.2⟩]
      refine .inr ⟨c, by omega, h.1, rfl, fun j hj hj0 => ?_⟩
      rcases Nat.lt_succ_iff_lt_or_eq.1 hj with hj' | rfl
      · have := h4 j hj' hj0
        omega
      · exact Int.le_refl _
    · rw [if_neg (fun hh => by
        rcases hh.2 with h5 | h5
        · omega
        · exact h ⟨hh.1, h5⟩)]
      refine .inr ⟨i, by omega, h2, h3, fun j hj hj0 => ?_⟩
      rcases Nat.lt_succ_iff_lt_or_eq.1 hj with hj' | rfl
      · exact h4 j hj' hj0
      · have : ¬ T.getD j 0 + 1 < mnS T j := fun h5 => h ⟨hj0, h5⟩
        omega
theorem mnS_bound (T : List Int) (B : Int) (hB : 0 ≤ B) (h : ∀ t ∈ T, -1 ≤ t ∧ t ≤ B) : ∀ c, c ≤ T.length → -1 ≤ mnS T c ∧ mnS T c ≤ B + 1 := by
  intro c hc
  rcases mnS_spec T c with ⟨h1, _⟩ | ⟨i, h1, h2, h3, _⟩
  · omega
  · have := h (T.getD i 0) (by rw [← getElem_getD T i 0 (by omega)]; exact List.getElem_mem _)
    omega
theorem lfIn_cons (T : List Int) (h : ∀ t ∈ T, -1 ≤ t ∧ t ≤ 100000) : ∀ c, c ≤ T.length → lfIn 0 ((-1) :: T) c = mnS T c :: T
 | 0, _ => rfl
 | c + 1, hc => by
  show lfStep 0 (0 + 1 + c) (lfIn 0 ((-1) :: T) c) = _
  rw [lfIn_cons T h c (by omega)]
  unfold lfStep
  have hb := mnS_bound T 100000 (by omega) h c (by omega)
  have ht := h (T.getD c 0) (by rw [← getElem_getD T c 0 (by omega)]; exact List.getElem_mem _)
  have e1 : rd (mnS T c :: T) ((0 + 1 + c : Nat) : Int) = T.getD c 0 := by
    unfold rd
    rw [Int.toNat_natCast, show 0 + 1 + c = c + 1 by omega]
    rfl
  have e2 : rd (mnS T c :: T) ((0 : Nat) : Int) = mnS T c := rfl
  rw [e1, e2, w64 (x := T.getD c 0 + 1) (by omega) (by omega)]
  conv => rhs; unfold mnS
  split
  · rfl
  · rfl
def hdL (r : ByteArray) (a : Int) : Nat → Int
 | 0 => 0
 | d + 1 => if d = 0 then 0 else if pl r (r.size + 1 - d) = true then mnS (lfT r a d) (lfC r.size a (r.size + 1 - d)) else -1
theorem hdL_succ (r : ByteArray) (a : Int) (d : Nat) (h : d ≠ 0) : hdL r a (d + 1) = if pl r (r.size + 1 - d) = true then mnS (lfT r a d) (lfC r.size a (r.size + 1 - d)) else -1 := if_neg h
theorem lfT_succ (r : ByteArray) (a : Int) (d : Nat) (h : d ≠ 0) : lfT r a (d + 1) = if pl r (r.size + 1 - d) = true then lfIn 0 ((-1) :: lfT r a d) (lfC r.size a (r.size + 1 - d)) else (-1) :: lfT r a d := if_neg h
theorem lfT_all (r : ByteArray) (a : Int) (hr : r.size ≤ 1000) : ∀ d, d ≤ r.size + 1 → lfT r a (d + 1) = hdL r a (d + 1) :: lfT r a d ∧ ∀ t ∈ lfT r a (d + 1), -1 ≤ t ∧ t ≤ (d : Int)
 | 0, _ => by
  refine ⟨rfl, fun t ht => ?_⟩
  have : t = 0 := by simpa [lfT] using ht
  omega
 | d + 1, hd => by
  obtain ⟨_, hb⟩ := lfT_all r a hr d (by omega)
  have hlen := lfT_len r a (d + 1)
  have e : lfT r a (d + 1 + 1) = hdL r a (d + 1 + 1) :: lfT r a (d + 1) := by
    rw [lfT_succ r a (d + 1) (by omega), hdL_succ r a (d + 1) (by omega)]
    split
    · have hc := lfC_le r.size a (r.size + 1 - (d + 1))
      exact lfIn_cons (lfT r a (d + 1)) (fun t ht => by have := hb t ht; omega) _ (by omega)
    · rfl
  refine ⟨e, fun t ht => ?_⟩
  rw [e] at ht
  rcases List.mem_cons.1 ht with rfl | ht
  · rw [hdL_succ r a (d + 1) (by omega)]
    split
    · have hc := lfC_le r.size a (r.size + 1 - (d + 1))
      have := mnS_bound (lfT r a (d + 1)) (d : Int) (by omega) hb (lfC r.size a (r.size + 1 - (d + 1))) (by omega)
      omega
    · omega
  · have := hb t ht
    omega
theorem lfT_getD (r : ByteArray) (a : Int) (hr : r.size ≤ 1000) : ∀ m j, j < m → m ≤ r.size + 2 → (lfT r a m).getD j 0 = hdL r a (m - j)
 | 0, j, h, _ => absurd h (Nat.not_lt_zero _)
 | m + 1, 0, _, hm => by
  rw [(lfT_all r a hr m (by omega)).1]
  rfl
 | m + 1, j + 1, h, hm => by
  rw [(lfT_all r a hr m (by omega)).1, show m + 1 - (j + 1) = m - j by omega]
  exact lfT_getD r a hr m j (by omega) (by omega)
def Lf (r : ByteArray) (a : Int) (p : Nat) : Int := (lfT r a (r.size + 2)).getD p 0
section
variable {r : ByteArray} {a : Int} (hr : r.size ≤ 1000)
theorem Lf_hd (hr : r.size ≤ 1000) (p : Nat) (hp : p ≤ r.size + 1) : Lf r a p = hdL r a (r.size + 2 - p) := lfT_getD r a hr _ p (by omega) (Nat.le_refl _)
theorem Lf_end (hr : r.size ≤ 1000) : Lf r a (r.size + 1) = 0 := by
  rw [Lf_hd hr _ (Nat.le_refl _), show r.size + 2 - (r.size + 1) = 1 by omega]
  rfl
theorem Lf_no (hr : r.size ≤ 1000) {p : Nat} (hp : p ≤ r.size) (h : pl r p = false) : Lf r a p = -1 := by
  rw [Lf_hd hr _ (by omega), show r.size + 2 - p = (r.size + 1 - p) + 1 by omega]
  rw [hdL_succ r a _ (by omega), show r.size + 1 - (r.size + 1 - p) = p by omega, if_neg (by rw [h]; exact Bool.false_ne_true)]
theorem Lf_some (hr : r.size ≤ 1000) {p : Nat} (hp : p ≤ r.size) (h : pl r p = true) : (Lf r a p = -1 ∧ ∀ q : Nat, p < q → q ≤ r.size + 1 → (q : Int) ≤ (p : Int) + a → Lf r a q < 0) ∨
    ∃ q : Nat, p < q ∧ q ≤ r.size + 1 ∧ (q : Int) ≤ (p : Int) + a ∧ 0 ≤ Lf r a q ∧ Lf r a p = Lf r a q + 1 ∧ ∀ q' : Nat, p < q' → q' ≤ r.size + 1 → (q' : Int) ≤ (p : Int) + a → 0 ≤ Lf r a q' → Lf r a q ≤ Lf r a q' := by
  have e : Lf r a p = mnS (lfT r a (r.size + 1 - p)) (lfC r.size a p) := by
    rw [Lf_hd hr _ (by omega), show r.size + 2 - p = (r.size + 1 - p) + 1 by omega]
    rw [hdL_succ r a _ (by omega), show r.size + 1 - (r.size + 1 - p) = p by omega, if_pos h]
  have hg : ∀ i, i < lfC r.size a p → (lfT r a (r.size + 1 - p)).getD i 0 = Lf r a (p + 1 + i) := by
    intro i hi
    have hc := lfC_le r.size a p
    rw [lfT_getD r a hr _ i (by omega) (by omega), Lf_hd hr _ (by omega), show r.size + 2 - (p + 1 + i) = r.size + 1 - p - i by omega]
  have hin : ∀ q : Nat, p < q → q ≤ r.size + 1 → (q : Int) ≤ (p : Int) + a → q - (p + 1) < lfC r.size a p := by
    intro q h1 h2 h3
    unfold lfC mn
    split <;> omega
  rcases mnS_spec (lfT r a (r.size + 1 - p)) (lfC r.size a p) with ⟨h1, h2⟩ | ⟨i, h1, h2, h3, h4⟩
  · refine .inl ⟨e.trans h1, fun q q1 q2 q3 => ?_⟩
    have hi := hin q q1 q2 q3
    have := h2 _ hi
    rw [hg _ hi, show p + 1 + (q - (p + 1)) = q by omega] at this
    exact this
  · have hl := lfC_lt r.size a p i h1
    refine .inr ⟨p + 1 + i, by omega, by omega, by omega, by rw [← hg i h1]; exact h2, by rw [e, h3, hg i h1], fun q q1 q2 q3 q4 => ?_⟩
    have hi := hin q q1 q2 q3
    have := h4 _ hi
    rw [hg _ hi, show p + 1 + (q - (p + 1)) = q by omega, hg i h1] at this
    exact this q4
theorem Lf_bound (hr : r.size ≤ 1000) (p : Nat) (hp : p ≤ r.size + 1) : -1 ≤ Lf r a p ∧ Lf r a p ≤ ((r.size + 1 : Nat) : Int) := by
  have h := (lfT_all r a hr (r.size + 1) (Nat.le_refl _)).2
  exact h _ (by unfold Lf; rw [← getElem_getD _ p 0 (by rw [lfT_len]; omega)]; exact List.getElem_mem _)
def wayN (r : ByteArray) (a : Int) : Nat → Nat → Prop
 | 0, p => p = r.size + 1
 | k + 1, p => p ≤ r.size ∧ pl r p = true ∧ ∃ q : Nat, p < q ∧ q ≤ r.size + 1 ∧ (q : Int) ≤ (p : Int) + a ∧ wayN r a k q
theorem Lf_way (hr : r.size ≤ 1000) : ∀ (d p : Nat), p + d = r.size + 1 → 0 ≤ Lf r a p → wayN r a (Lf r a p).toNat p := by
  intro d
  induction d using Nat.strongRecOn with
  | _ d ih =>
    intro p hp h0
    by_cases he : p = r.size + 1
    · subst he
      rw [Lf_end hr]
      rfl
    · have hpl : pl r p = true := by
        cases hb : pl r p with
        | true => rfl
        | false =>
          have := Lf_no (a := a) hr (by omega) hb
          omega
      rcases Lf_some (a := a) hr (by omega) hpl with ⟨h1, _⟩ | ⟨q, h1, h2, h3, h4, h5, _⟩
      · omega
      · rw [show (Lf r a p).toNat = (Lf r a q).toNat + 1 by omega]
        exact ⟨by omega, hpl, q, h1, h2, h3, ih (r.size + 1 - q) (by omega) q (by omega) h4⟩
theorem way_Lf (hr : r.size ≤ 1000) : ∀ (k p : Nat), wayN r a k p → 0 ≤ Lf r a p ∧ Lf r a p ≤ (k : Int)
 | 0, p, h => by
  have h' : p = r.size + 1 := h
  subst h'
  rw [Lf_end hr]
  omega
 | k + 1, p, h => by
  obtain ⟨h1, h2, q, h3, h4, h5, h6⟩ := h
  obtain ⟨h7, h8⟩ := way_Lf hr k q h6
  rcases Lf_some (a := a) hr h1 h2 with ⟨_, h9⟩ | ⟨q', g1, g2, g3, g4, g5, g6⟩
  · have := h9 q h3 h4 h5
    omega
  · have := g6 q h3 h4 h5 h7
    omega
end
def inB (a l h : Int) : Bool := decide (l ≤ a) && decide (a ≤ h)
theorem within_eq (a l h : Int) : impl_within.f a l h = some (inB a l h) := by
  unfold impl_within.f inB
  by_cases c : l ≤ a <;> simp [c]
theorem l1In_eq (a l h : Int) : spec_l1In.f a l h = some (inB a l h) := by
  unfold spec_l1In.f inB
  by_cases c : l ≤ a
  · rw [if_pos (by omega)]; simp [c]
  · rw [if_neg (by omega)]; simp [c]
end Go.Proofs.YtfoflpomfmbjoaaDoor.X
end
