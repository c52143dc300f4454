import Derived.Test.YtfoflpomfmbjoaaDoorP4
import Derived.Test.YtfoflpomfmbjoaaDoorP6
import Derived.Test.YtfoflpomfmbjoaaDoorP8
import Derived.Test.YtfoflpomfmbjoaaDoorP9
import Derived.Test.YtfoflpomfmbjoaaDoorP10
import Derived.Test.YtfoflpomfmbjoaaDoorP11
import Derived.Test.YtfoflpomfmbjoaaDoorP12
import Derived.Test.YtfoflpomfmbjoaaDoorP17
import Derived.Test.YtfoflpomfmbjoaaDoorP18
import Derived.Test.YtfoflpomfmbjoaaDoorP19
import Derived.Laws.BitsLemmas
import Derived.Laws.Bits64
section
namespace Go.Proofs.YtfoflpomfmbjoaaDoor.X
open Go.Proofs.YtfoflpomfmbjoaaDoor.Sq Go.RowKit Go.Proofs.YtfoflpomfmbjoaaDoorW.PrintWords Go.Proofs.YtfoflpomfmbjoaaDoorW.PrintLast Go.Proofs.YtfoflpomfmbjoaaDoorW.PrintMore
attribute [local go_sem] max2_int min2_int max_two min_two max_three min_three max_four min_four   -- for this text's walks alone
set_option linter.unusedVariables false
set_option linter.unusedSimpArgs false
set_option maxHeartbeats 8000000 in
set_option maxRecDepth 100000 in
theorem laws_FnRiversMended.calls (k : Nat) (A0 : Option Addr) (c0 : Nat) (l0 : List Int) (A1 : Option Addr) (c1 : Nat) (l1 : List Int) (r : Bool) (w : World) (hr0 : Kd.C (Kd.int .u8) w A0 l0.length l0) (hc0 : l0.length ≤ c0) (hr1 : Kd.C (Kd.int .u8) w A1 l1.length l1) (hc1 : l1.length ≤ c1) (h : laws_FnRiversMended.f k l0 l1 = some r) :
  Calls Tryd.prog 3 #[.slice A0 l0.length c0, .slice A1 l1.length c1] w fun e w' => e = .returned (.bool r) ∧ Below w.heap.size w w' := by
 have HR0 := am hr0; have HC0 := am hc0; clear hr0 hc0; have HR1 := am hr1; have HC1 := am hc1; clear hr1 hc1; have HB := am (Below.refl w.heap.size w); have H : ((laws_big.f l0 l1).bind fun t430 => (if t430 = true then (some true) else ((spec_DrawStonesToAdd.f k l0).bind fun bt445 => ((impl_StonesToAdd.f k bt445.1 bt445.2).bind fun bt447 => ((spec_StonesToAdd.f k bt445.1 bt445.2).bind fun bt451 => ((impl_FewestToAdd.f k bt445.1 bt445.2).bind fun bt455 => ((spec_FewestToAdd.f k bt445.1 bt445.2).bind fun bt457 => ((impl_NeededStones.f k bt445.1 bt445.2).bind fun bt459 => ((spec_NeededStones.f k bt445.1 bt445.2).bind fun bt463 => ((impl_IdleStones.f k bt445.1 bt445.2).bind fun bt467 => ((spec_IdleStones.f k bt445.1 bt445.2).bind fun bt471 => ((impl_CanCross.f k bt445.1 bt445.2).bind fun bt475 => (if (bt447.2 != bt451.2) = true then (none) else ((laws_dSame.f k bt447.1 bt451.1).bind fun t477 => (if t477 = true then (if (bt455.2 != bt457.2) = true then (none) else (if bt455.1 = bt457.1 then (if (bt459.2 != bt463.2) = true then (none) else ((laws_dSame.f k bt459.1 bt463.1).bind fun t478 => (if t478 = true then (if (bt467.2 != bt471.2) = true then (none) else ((laws_dSame.f k bt467.1 bt471.1).bind fun t479 => (if t479 = true then (if (bt455.2 != bt447.2) = true then (none) else (if (bt467.2 != bt447.2) = true then (none) else (if (bt475.2 != bt447.2) = true then (none) else (if bt475.2 = true then (laws_FnRiversMended.j0 k l1 bt445.1 bt445.2 bt447.1 bt447.2 bt455.1 bt459.1 bt459.2 bt467.1 bt475.1 (bt459.2 != bt475.1)) else (laws_FnRiversMended.j0 k l1 bt445.1 bt445.2 bt447.1 bt447.2 bt455.1 bt459.1 bt459.2 bt467.1 bt475.1 (bt459.2 != false)))))) else (none)))) else (none)))) else (none))) else (none)))))))))))))))) = some r := h; clear h; replace H := Option.bind_eq_some_iff.mp H; obtain ⟨t430, A30, H⟩ := H; (try dsimp only at H); have A3 := am A30; clear A30; by_cases c4 : t430 = true
 ·subst c4; rw [if_pos rfl] at H; (try dsimp only at H); obtain rfl := Option.some.inj H; go_enter Tryd.func3, Tryd.ntmps3; (try dsimp only [List.append]); go_wp2_with (first | ((with_reducible refine gate_callee (f := 5) rfl ?_); refine goesL_ (some 89) rfl rfl Tryd.func5 (by kernel_rfl) rfl #[.slice A0 l0.length c0, .slice A1 l1.length c1] rfl (by (try simp only [List.map_toArray, List.map_cons, List.map_nil]); first | done | rfl | (simp only [List.length_drop, List.length_take]; rfl)) ?_; (with_reducible refine (laws_big.calls _ _ l0 _ _ l1 true _ ?side1 ?side2 ?side3 ?side4 A3.out).mono ?_); (case side1 => repeat (first | exact HR0.out | (with_reducible refine Kd.C_alloc ?_ _) | (with_reducible refine Kd.C_drewN ?_ _) | (with_reducible refine Kd.C_drew ?_))); (case side2 => exact HC0.out); (case side3 => repeat (first | exact HR1.out | (with_reducible refine Kd.C_alloc ?_ _) | (with_reducible refine Kd.C_drewN ?_ _) | (with_reducible refine Kd.C_drew ?_))); (case side4 => exact HC1.out); rintro e w' ⟨rfl, ⟨nd, rfl⟩⟩; refine ⟨_, rfl, ?_⟩)); go_ret; exact ⟨by first | rfl | (simp [errW_none, errW_some] <;> rfl) | (simp [*, errW_none, errW_some] <;> rfl), hbS HB.out⟩
 ·replace c4 := Bool.eq_false_iff.mpr c4; subst c4; rw [if_neg (show ¬ (false = true) by decide)] at H; (try dsimp only at H); replace H := Option.bind_eq_some_iff.mp H; obtain ⟨⟨t445, t446⟩, A50, H⟩ := H; (try dsimp only at H); have A5 := am A50; clear A50; replace H := Option.bind_eq_some_iff.mp H; obtain ⟨⟨t447, t448⟩, A60, H⟩ := H; (try dsimp only at H); have A6 := am A60; clear A60; replace H := Option.bind_eq_some_iff.mp H; obtain ⟨⟨t451, t452⟩, A70, H⟩ := H; (try dsimp only at H); have A7 := am A70; clear A70; replace H := Option.bind_eq_some_iff.mp H; obtain ⟨⟨t455, t456⟩, A80, H⟩ := H; (try dsimp only at H); have A8 := am A80; clear A80; replace H := Option.bind_eq_some_iff.mp H; obtain ⟨⟨t457, t458⟩, A90, H⟩ := H; (try dsimp only at H); have A9 := am A90; clear A90; replace H := Option.bind_eq_some_iff.mp H; obtain ⟨⟨t459, t460⟩, A100, H⟩ := H; (try dsimp only at H); have A10 := am A100; clear A100; replace H := Option.bind_eq_some_iff.mp H; obtain ⟨⟨t463, t464⟩, A110, H⟩ := H; (try dsimp only at H); have A11 := am A110; clear A110; replace H := Option.bind_eq_some_iff.mp H; obtain ⟨⟨t467, t468⟩, A120, H⟩ := H; (try dsimp only at H); have A12 := am A120; clear A120; replace H := Option.bind_eq_some_iff.mp H; obtain ⟨⟨t471, t472⟩, A130, H⟩ := H; (try dsimp only at H); have A13 := am A130; clear A130; replace H := Option.bind_eq_some_iff.mp H; obtain ⟨⟨t475, t476⟩, A140, H⟩ := H; (try dsimp only at H); have A14 := am A140; clear A140; have HC15 := am H; clear H; go_enter Tryd.func3, Tryd.ntmps3; (try dsimp only [List.append]); go_upto_region 13 with (first | ((with_reducible refine gate_callee (f := 5) rfl ?_); refine goesL_ (some 89) rfl rfl Tryd.func5 (by kernel_rfl) rfl #[.slice A0 l0.length c0, .slice A1 l1.length c1] rfl (by (try simp only [List.map_toArray, List.map_cons, List.map_nil]); first | done | rfl | (simp only [List.length_drop, List.length_take]; rfl)) ?_; (with_reducible refine (laws_big.calls _ _ l0 _ _ l1 false _ ?side1 ?side2 ?side3 ?side4 A3.out).mono ?_); (case side1 => repeat (first | exact HR0.out | (with_reducible refine Kd.C_alloc ?_ _) | (with_reducible refine Kd.C_drewN ?_ _) | (with_reducible refine Kd.C_drew ?_))); (case side2 => exact HC0.out); (case side3 => repeat (first | exact HR1.out | (with_reducible refine Kd.C_alloc ?_ _) | (with_reducible refine Kd.C_drewN ?_ _) | (with_reducible refine Kd.C_drew ?_))); (case side4 => exact HC1.out); rintro e w' ⟨rfl, ⟨nd, rfl⟩⟩; refine ⟨_, rfl, ?_⟩) | ((with_reducible refine gate_callee (f := 6) rfl ?_); refine goesL_ (some 92) rfl rfl Tryd.func6 (by kernel_rfl) rfl #[.slice A0 l0.length c0] rfl (by (try simp only [List.map_toArray, List.map_cons, List.map_nil]); first | done | rfl | (simp only [List.length_drop, List.length_take]; rfl)) ?_; (with_reducible refine (spec_DrawStonesToAdd.calls k _ _ l0 t445 t446 _ ?side1 ?side2 A5.out).mono ?_); (case side1 => repeat (first | exact HR0.out | (with_reducible refine Kd.C_alloc ?_ _) | (with_reducible refine Kd.C_drewN ?_ _) | (with_reducible refine Kd.C_drew ?_))); (case side2 => exact HC0.out); rintro e w16 ⟨rfl, hb⟩; refine ⟨_, rfl, ?_⟩; replace HB := am (below_step (hbS HB.out) hb); (try clear hb); (try clear hk); ) | ((with_reducible refine gate_callee (f := 7) rfl ?_); refine goesL_ (some 98) rfl rfl Tryd.func7 (by kernel_rfl) rfl #[.string t445, .int .i64 t446] rfl (by (try simp only [List.map_toArray, List.map_cons, List.map_nil]); first | done | rfl | (simp only [List.length_drop, List.length_take]; rfl)) ?_; (with_reducible refine (impl_StonesToAdd.calls k t445 t446 t447 t448 _ A6.out).mono ?_); rintro e w17 ⟨v449, rfl, ho0, hb⟩; refine ⟨_, rfl, ?_⟩; replace HO450 := am (Kd.R_lower ho0 (below_size (hbS HB.out))); replace HB := am (below_step (hbS HB.out) hb); (try clear hb); (try clear hk); (try clear ho0)) | ((with_reducible refine gate_callee (f := 8) rfl ?_); refine goesL_ (some 104) rfl rfl Tryd.func8 (by kernel_rfl) rfl #[.string t445, .int .i64 t446] rfl (by (try simp only [List.map_toArray, List.map_cons, List.map_nil]); first | done | rfl | (simp only [List.length_drop, List.length_take]; rfl)) ?_; (with_reducible refine (spec_StonesToAdd.calls k t445 t446 t451 t452 _ A7.out).mono ?_); rintro e w18 ⟨v453, rfl, ho0, hb⟩; refine ⟨_, rfl, ?_⟩; have n0_ := am (Kd.R_elder' (roS HO450.out) (Kd.R_base ho0) hb); have n1_ := am (Kd.R_lower (Kd.R_new' ho0 (Kd.R_lt (roS HO450.out))) (below_size (hbS HB.out))); have n2_ := am (below_step (hbS HB.out) hb); clear HO450; clear HB; have HO450 := n0_; have HO454 := n1_; have HB := n2_; clear n0_ n1_ n2_; (try clear hb); (try clear hk); (try clear ho0)) | ((with_reducible refine gate_callee (f := 9) rfl ?_); refine goesL_ (some 110) rfl rfl Tryd.func9 (by kernel_rfl) rfl #[.string t445, .int .i64 t446] rfl (by (try simp only [List.map_toArray, List.map_cons, List.map_nil]); first | done | rfl | (simp only [List.length_drop, List.length_take]; rfl)) ?_; (with_reducible refine (impl_FewestToAdd.calls k t445 t446 t455 t456 _ A8.out).mono ?_); rintro e w19 ⟨rfl, hb⟩; refine ⟨_, rfl, ?_⟩; replace HO450 := am (Kd.R_below (roS HO450.out) hb); replace HO454 := am (Kd.R_below (roS HO454.out) hb); replace HB := am (below_step (hbS HB.out) hb); (try clear hb); (try clear hk); ) | ((with_reducible refine gate_callee (f := 10) rfl ?_); refine goesL_ (some 116) rfl rfl Tryd.func10 (by kernel_rfl) rfl #[.string t445, .int .i64 t446] rfl (by (try simp only [List.map_toArray, List.map_cons, List.map_nil]); first | done | rfl | (simp only [List.length_drop, List.length_take]; rfl)) ?_; (with_reducible refine (spec_FewestToAdd.calls k t445 t446 t457 t458 _ A9.out).mono ?_); rintro e w20 ⟨rfl, hb⟩; refine ⟨_, rfl, ?_⟩; replace HO450 := am (Kd.R_below (roS HO450.out) hb); replace HO454 := am (Kd.R_below (roS HO454.out) hb); replace HB := am (below_step (hbS HB.out) hb); (try clear hb); (try clear hk); ) | ((with_reducible refine gate_callee (f := 11) rfl ?_); refine goesL_ (some 122) rfl rfl Tryd.func11 (by kernel_rfl) rfl #[.string t445, .int .i64 t446] rfl (by (try simp only [List.map_toArray, List.map_cons, List.map_nil]); first | done | rfl | (simp only [List.length_drop, List.length_take]; rfl)) ?_; (with_reducible refine (impl_NeededStones.calls k t445 t446 t459 t460 _ A10.out).mono ?_); rintro e w21 ⟨v461, rfl, ho0, hb⟩; refine ⟨_, rfl, ?_⟩; have n0_ := am (Kd.R_elder' (roS HO450.out) (Kd.R_base ho0) hb); have n1_ := am (Kd.R_elder' (roS HO454.out) (Kd.R_base ho0) hb); have n2_ := am (Kd.R_lower (Kd.R_new' (Kd.R_new' ho0 (Kd.R_lt (roS HO450.out))) (Kd.R_lt (roS HO454.out))) (below_size (hbS HB.out))); have n3_ := am (below_step (hbS HB.out) hb); clear HO450; clear HO454; clear HB; have HO450 := n0_; have HO454 := n1_; have HO462 := n2_; have HB := n3_; clear n0_ n1_ n2_ n3_; (try clear hb); (try clear hk); (try clear ho0)) | ((with_reducible refine gate_callee (f := 12) rfl ?_); refine goesL_ (some 128) rfl rfl Tryd.func12 (by kernel_rfl) rfl #[.string t445, .int .i64 t446] rfl (by (try simp only [List.map_toArray, List.map_cons, List.map_nil]); first | done | rfl | (simp only [List.length_drop, List.length_take]; rfl)) ?_; (with_reducible refine (spec_NeededStones.calls k t445 t446 t463 t464 _ A11.out).mono ?_); rintro e w22 ⟨v465, rfl, ho0, hb⟩; refine ⟨_, rfl, ?_⟩; have n0_ := am (Kd.R_elder' (roS HO450.out) (Kd.R_base ho0) hb); have n1_ := am (Kd.R_elder' (roS HO454.out) (Kd.R_base ho0) hb); have n2_ := am (Kd.R_elder' (roS HO462.out) (Kd.R_base ho0) hb); have n3_ := am (Kd.R_lower (Kd.R_new' (Kd.R_new' (Kd.R_new' ho0 (Kd.R_lt (roS HO450.out))) (Kd.R_lt (roS HO454.out))) (Kd.R_lt (roS HO462.out))) (below_size (hbS HB.out))); have n4_ := am (below_step (hbS HB.out) hb); clear HO450; clear HO454; clear HO462; clear HB; have HO450 := n0_; have HO454 := n1_; have HO462 := n2_; have HO466 := n3_; have HB := n4_; clear n0_ n1_ n2_ n3_ n4_; (try clear hb); (try clear hk); (try clear ho0)) | ((with_reducible refine gate_callee (f := 13) rfl ?_); refine goesL_ (some 134) rfl rfl Tryd.func13 (by kernel_rfl) rfl #[.string t445, .int .i64 t446] rfl (by (try simp only [List.map_toArray, List.map_cons, List.map_nil]); first | done | rfl | (simp only [List.length_drop, List.length_take]; rfl)) ?_; (with_reducible refine (impl_IdleStones.calls k t445 t446 t467 t468 _ A12.out).mono ?_); rintro e w23 ⟨v469, rfl, ho0, hb⟩; refine ⟨_, rfl, ?_⟩; have n0_ := am (Kd.R_elder' (roS HO450.out) (Kd.R_base ho0) hb); have n1_ := am (Kd.R_elder' (roS HO454.out) (Kd.R_base ho0) hb); have n2_ := am (Kd.R_elder' (roS HO462.out) (Kd.R_base ho0) hb); have n3_ := am (Kd.R_elder' (roS HO466.out) (Kd.R_base ho0) hb); have n4_ := am (Kd.R_lower (Kd.R_new' (Kd.R_new' (Kd.R_new' (Kd.R_new' ho0 (Kd.R_lt (roS HO450.out))) (Kd.R_lt (roS HO454.out))) (Kd.R_lt (roS HO462.out))) (Kd.R_lt (roS HO466.out))) (below_size (hbS HB.out))); have n5_ := am (below_step (hbS HB.out) hb); clear HO450; clear HO454; clear HO462; clear HO466; clear HB; have HO450 := n0_; have HO454 := n1_; have HO462 := n2_; have HO466 := n3_; have HO470 := n4_; have HB := n5_; clear n0_ n1_ n2_ n3_ n4_ n5_; (try clear hb); (try clear hk); (try clear ho0)) | ((with_reducible refine gate_callee (f := 14) rfl ?_); refine goesL_ (some 140) rfl rfl Tryd.func14 (by kernel_rfl) rfl #[.string t445, .int .i64 t446] rfl (by (try simp only [List.map_toArray, List.map_cons, List.map_nil]); first | done | rfl | (simp only [List.length_drop, List.length_take]; rfl)) ?_; (with_reducible refine (spec_IdleStones.calls k t445 t446 t471 t472 _ A13.out).mono ?_); rintro e w24 ⟨v473, rfl, ho0, hb⟩; refine ⟨_, rfl, ?_⟩; have n0_ := am (Kd.R_elder' (roS HO450.out) (Kd.R_base ho0) hb); have n1_ := am (Kd.R_elder' (roS HO454.out) (Kd.R_base ho0) hb); have n2_ := am (Kd.R_elder' (roS HO462.out) (Kd.R_base ho0) hb); have n3_ := am (Kd.R_elder' (roS HO466.out) (Kd.R_base ho0) hb); have n4_ := am (Kd.R_elder' (roS HO470.out) (Kd.R_base ho0) hb); have n5_ := am (Kd.R_lower (Kd.R_new' (Kd.R_new' (Kd.R_new' (Kd.R_new' (Kd.R_new' ho0 (Kd.R_lt (roS HO450.out))) (Kd.R_lt (roS HO454.out))) (Kd.R_lt (roS HO462.out))) (Kd.R_lt (roS HO466.out))) (Kd.R_lt (roS HO470.out))) (below_size (hbS HB.out))); have n6_ := am (below_step (hbS HB.out) hb); clear HO450; clear HO454; clear HO462; clear HO466; clear HO470; clear HB; have HO450 := n0_; have HO454 := n1_; have HO462 := n2_; have HO466 := n3_; have HO470 := n4_; have HO474 := n5_; have HB := n6_; clear n0_ n1_ n2_ n3_ n4_ n5_ n6_; (try clear hb); (try clear hk); (try clear ho0)) | ((with_reducible refine gate_callee (f := 15) rfl ?_); refine goesL_ (some 146) rfl rfl Tryd.func15 (by kernel_rfl) rfl #[.string t445, .int .i64 t446] rfl (by (try simp only [List.map_toArray, List.map_cons, List.map_nil]); first | done | rfl | (simp only [List.length_drop, List.length_take]; rfl)) ?_; (with_reducible refine (impl_CanCross.calls k t445 t446 t475 t476 _ A14.out).mono ?_); rintro e w25 ⟨rfl, hb⟩; refine ⟨_, rfl, ?_⟩; replace HO450 := am (Kd.R_below (roS HO450.out) hb); replace HO454 := am (Kd.R_below (roS HO454.out) hb); replace HO462 := am (Kd.R_below (roS HO462.out) hb); replace HO466 := am (Kd.R_below (roS HO466.out) hb); replace HO470 := am (Kd.R_below (roS HO470.out) hb); replace HO474 := am (Kd.R_below (roS HO474.out) hb); replace HB := am (below_step (hbS HB.out) hb); (try clear hb); (try clear hk); )); (try simp only [Act.put, List.setIfInBounds_toArray, List.set_cons_zero, List.set_cons_succ]); go_cut [212] from 9999 (fun v212 wc => ∃ (kq : Nat) (x212_14 : Bool), v212 = .bool x212_14 ∧ Aside0 (laws_FnRiversMended.j0 kq l1 t445 t446 t447 t448 t455 t459 t460 t467 t475 x212_14 = some r) ∧ Aside0 (kq ≤ k) ∧ Aside0 (Kd.R (Kd.int .i64) 3 wc w.heap.size (fun k_ => some k_ ≠ (v461 : Value).ownBlock ∧ some k_ ≠ (v469 : Value).ownBlock) v449 t447) ∧ Aside0 (Kd.R (Kd.int .i64) 3 wc w.heap.size (fun k_ => some k_ ≠ (v449 : Value).ownBlock ∧ some k_ ≠ (v469 : Value).ownBlock) v461 t459) ∧ Aside0 (Kd.R (Kd.int .i64) 3 wc w.heap.size (fun k_ => some k_ ≠ (v449 : Value).ownBlock ∧ some k_ ≠ (v461 : Value).ownBlock) v469 t467) ∧ Aside0 (Below w.heap.size w wc))
  case first =>
   have H := HC15.out; clear HC15; obtain ⟨c26, H⟩ := itN H; (have c26b0 : (t448 != t452) = false := by simpa using c26); (try (have c26b1 : decide (t448 = t452) = true := by simpa using c26)); (try (have c26b2 : (t448 == t452) = true := by simpa using c26)); clear c26; (first | rw [c26b0] | (simp only [i64_w, i32_w]; rw [c26b0]) | rw [c26b1] | skip); replace H := Option.bind_eq_some_iff.mp H; obtain ⟨t477, A270, H⟩ := H; (try dsimp only at H); have A27 := am A270; clear A270; by_cases c28 : t477 = true; rotate_left
   ·replace c28 := Bool.eq_false_iff.mpr c28; subst c28; rw [if_neg (show ¬ (false = true) by decide)] at H; (try dsimp only at H); exact absurd H (by simp)
   subst c28; rw [if_pos rfl] at H; (try dsimp only at H); obtain ⟨c29, H⟩ := itN H; (have c29b0 : (t456 != t458) = false := by simpa using c29); (try (have c29b1 : decide (t456 = t458) = true := by simpa using c29)); (try (have c29b2 : (t456 == t458) = true := by simpa using c29)); clear c29; obtain ⟨c30, H⟩ := itP H; have c30b0 : (t455 == t457) = true := beq_iff_eq.mpr c30; have c30b1 : (t455 != t457) = false := bne_eq_false_iff_eq.mpr c30; clear c30; obtain ⟨c31, H⟩ := itN H; (have c31b0 : (t460 != t464) = false := by simpa using c31); (try (have c31b1 : decide (t460 = t464) = true := by simpa using c31)); (try (have c31b2 : (t460 == t464) = true := by simpa using c31)); clear c31; replace H := Option.bind_eq_some_iff.mp H; obtain ⟨t478, A320, H⟩ := H; (try dsimp only at H); have A32 := am A320; clear A320; by_cases c33 : t478 = true; rotate_left
   ·replace c33 := Bool.eq_false_iff.mpr c33; subst c33; rw [if_neg (show ¬ (false = true) by decide)] at H; (try dsimp only at H); exact absurd H (by simp)
   subst c33; rw [if_pos rfl] at H; (try dsimp only at H); obtain ⟨c34, H⟩ := itN H; (have c34b0 : (t468 != t472) = false := by simpa using c34); (try (have c34b1 : decide (t468 = t472) = true := by simpa using c34)); (try (have c34b2 : (t468 == t472) = true := by simpa using c34)); clear c34; replace H := Option.bind_eq_some_iff.mp H; obtain ⟨t479, A350, H⟩ := H; (try dsimp only at H); have A35 := am A350; clear A350; by_cases c36 : t479 = true; rotate_left
   ·replace c36 := Bool.eq_false_iff.mpr c36; subst c36; rw [if_neg (show ¬ (false = true) by decide)] at H; (try dsimp only at H); exact absurd H (by simp)
   subst c36; rw [if_pos rfl] at H; (try dsimp only at H); obtain ⟨c37, H⟩ := itN H; (have c37b0 : (t456 != t448) = false := by simpa using c37); (try (have c37b1 : decide (t456 = t448) = true := by simpa using c37)); (try (have c37b2 : (t456 == t448) = true := by simpa using c37)); clear c37; obtain ⟨c38, H⟩ := itN H; (have c38b0 : (t468 != t448) = false := by simpa using c38); (try (have c38b1 : decide (t468 = t448) = true := by simpa using c38)); (try (have c38b2 : (t468 == t448) = true := by simpa using c38)); clear c38; obtain ⟨c39, H⟩ := itN H; (have c39b0 : (t476 != t448) = false := by simpa using c39); (try (have c39b1 : decide (t476 = t448) = true := by simpa using c39)); (try (have c39b2 : (t476 == t448) = true := by simpa using c39)); clear c39; by_cases c40 : t476 = true
   ·subst c40; rw [if_pos rfl] at H; (try dsimp only at H); have H' := am H; clear H; obtain ⟨Ao41, co41, eo41⟩ := Kd.R_slice HO450.out; subst eo41; obtain ⟨Ao42, co42, eo42⟩ := Kd.R_slice HO454.out; subst eo42; (try go_wp2_with (first | (go_at_call 16; (with_reducible refine (laws_dSame.calls k _ _ t447 _ _ t451 true _ ?side1 ?side2 ?side3 ?side4 A27.out).mono ?_); (case side1 => repeat (first | exact (Kd.R_reads' HO450.out).2.2 | (with_reducible refine Kd.C_alloc ?_ _) | (with_reducible refine Kd.C_drewN ?_ _) | (with_reducible refine Kd.C_drew ?_))); (case side2 => exact (Kd.R_reads' HO450.out).2.1); (case side3 => repeat (first | exact (Kd.R_reads' HO454.out).2.2 | (with_reducible refine Kd.C_alloc ?_ _) | (with_reducible refine Kd.C_drewN ?_ _) | (with_reducible refine Kd.C_drew ?_))); (case side4 => exact (Kd.R_reads' HO454.out).2.1); rintro e w' ⟨rfl, ⟨nd, rfl⟩⟩; obtain ⟨Ao43, co43, eo43⟩ := Kd.R_slice HO462.out; subst eo43; obtain ⟨Ao44, co44, eo44⟩ := Kd.R_slice HO466.out; subst eo44) | fail)); (try go_wp2_with (first | (go_at_call 16; (with_reducible refine (laws_dSame.calls k _ _ t459 _ _ t463 true _ ?side1 ?side2 ?side3 ?side4 A32.out).mono ?_); (case side1 => repeat (first | exact (Kd.R_reads' HO462.out).2.2 | (with_reducible refine Kd.C_alloc ?_ _) | (with_reducible refine Kd.C_drewN ?_ _) | (with_reducible refine Kd.C_drew ?_))); (case side2 => exact (Kd.R_reads' HO462.out).2.1); (case side3 => repeat (first | exact (Kd.R_reads' HO466.out).2.2 | (with_reducible refine Kd.C_alloc ?_ _) | (with_reducible refine Kd.C_drewN ?_ _) | (with_reducible refine Kd.C_drew ?_))); (case side4 => exact (Kd.R_reads' HO466.out).2.1); rintro e w' ⟨rfl, ⟨nd, rfl⟩⟩; obtain ⟨Ao45, co45, eo45⟩ := Kd.R_slice HO470.out; subst eo45; obtain ⟨Ao46, co46, eo46⟩ := Kd.R_slice HO474.out; subst eo46) | fail)); go_wp2_with (first | (go_at_call 16; (with_reducible refine (laws_dSame.calls k _ _ t467 _ _ t471 true _ ?side1 ?side2 ?side3 ?side4 A35.out).mono ?_); (case side1 => repeat (first | exact (Kd.R_reads' HO470.out).2.2 | (with_reducible refine Kd.C_alloc ?_ _) | (with_reducible refine Kd.C_drewN ?_ _) | (with_reducible refine Kd.C_drew ?_))); (case side2 => exact (Kd.R_reads' HO470.out).2.1); (case side3 => repeat (first | exact (Kd.R_reads' HO474.out).2.2 | (with_reducible refine Kd.C_alloc ?_ _) | (with_reducible refine Kd.C_drewN ?_ _) | (with_reducible refine Kd.C_drew ?_))); (case side4 => exact (Kd.R_reads' HO474.out).2.1); rintro e w' ⟨rfl, ⟨nd, rfl⟩⟩) | fail); go_meet
    case rel => exact ⟨_, ((t460 != t475)), (by first | rfl | (simp; done) | (simp [*]; done)), H', ⟨by first | omega | exact Nat.le_refl _⟩, ⟨by (with_reducible repeat (first | apply Kd.R_alloc | apply Kd.R_drewN | apply Kd.R_drew)); exact Kd.R_mono HO450.out (fun _ hk => ⟨hk.1.1.1.2, hk.1.2⟩)⟩, ⟨by (with_reducible repeat (first | apply Kd.R_alloc | apply Kd.R_drewN | apply Kd.R_drew)); exact Kd.R_mono HO462.out (fun _ hk => ⟨hk.1.1.1.1.2, hk.1.2⟩)⟩, ⟨by (with_reducible repeat (first | apply Kd.R_alloc | apply Kd.R_drewN | apply Kd.R_drew)); exact Kd.R_mono HO470.out (fun _ hk => ⟨hk.1.1.1.1.2, hk.1.1.2⟩)⟩, ⟨hbS HB.out⟩⟩
   ·replace c40 := Bool.eq_false_iff.mpr c40; subst c40; rw [if_neg (show ¬ (false = true) by decide)] at H; (try dsimp only at H); have H' := am H; clear H; obtain ⟨Ao47, co47, eo47⟩ := Kd.R_slice HO450.out; subst eo47; obtain ⟨Ao48, co48, eo48⟩ := Kd.R_slice HO454.out; subst eo48; (try go_wp2_with (first | (go_at_call 16; (with_reducible refine (laws_dSame.calls k _ _ t447 _ _ t451 true _ ?side1 ?side2 ?side3 ?side4 A27.out).mono ?_); (case side1 => repeat (first | exact (Kd.R_reads' HO450.out).2.2 | (with_reducible refine Kd.C_alloc ?_ _) | (with_reducible refine Kd.C_drewN ?_ _) | (with_reducible refine Kd.C_drew ?_))); (case side2 => exact (Kd.R_reads' HO450.out).2.1); (case side3 => repeat (first | exact (Kd.R_reads' HO454.out).2.2 | (with_reducible refine Kd.C_alloc ?_ _) | (with_reducible refine Kd.C_drewN ?_ _) | (with_reducible refine Kd.C_drew ?_))); (case side4 => exact (Kd.R_reads' HO454.out).2.1); rintro e w' ⟨rfl, ⟨nd, rfl⟩⟩; obtain ⟨Ao49, co49, eo49⟩ := Kd.R_slice HO462.out; subst eo49; obtain ⟨Ao50, co50, eo50⟩ := Kd.R_slice HO466.out; subst eo50) | fail)); (try go_wp2_with (first | (go_at_call 16; (with_reducible refine (laws_dSame.calls k _ _ t459 _ _ t463 true _ ?side1 ?side2 ?side3 ?side4 A32.out).mono ?_); (case side1 => repeat (first | exact (Kd.R_reads' HO462.out).2.2 | (with_reducible refine Kd.C_alloc ?_ _) | (with_reducible refine Kd.C_drewN ?_ _) | (with_reducible refine Kd.C_drew ?_))); (case side2 => exact (Kd.R_reads' HO462.out).2.1); (case side3 => repeat (first | exact (Kd.R_reads' HO466.out).2.2 | (with_reducible refine Kd.C_alloc ?_ _) | (with_reducible refine Kd.C_drewN ?_ _) | (with_reducible refine Kd.C_drew ?_))); (case side4 => exact (Kd.R_reads' HO466.out).2.1); rintro e w' ⟨rfl, ⟨nd, rfl⟩⟩; obtain ⟨Ao51, co51, eo51⟩ := Kd.R_slice HO470.out; subst eo51; obtain ⟨Ao52, co52, eo52⟩ := Kd.R_slice HO474.out; subst eo52) | fail)); go_wp2_with (first | (go_at_call 16; (with_reducible refine (laws_dSame.calls k _ _ t467 _ _ t471 true _ ?side1 ?side2 ?side3 ?side4 A35.out).mono ?_); (case side1 => repeat (first | exact (Kd.R_reads' HO470.out).2.2 | (with_reducible refine Kd.C_alloc ?_ _) | (with_reducible refine Kd.C_drewN ?_ _) | (with_reducible refine Kd.C_drew ?_))); (case side2 => exact (Kd.R_reads' HO470.out).2.1); (case side3 => repeat (first | exact (Kd.R_reads' HO474.out).2.2 | (with_reducible refine Kd.C_alloc ?_ _) | (with_reducible refine Kd.C_drewN ?_ _) | (with_reducible refine Kd.C_drew ?_))); (case side4 => exact (Kd.R_reads' HO474.out).2.1); rintro e w' ⟨rfl, ⟨nd, rfl⟩⟩) | fail); go_meet
    case rel => exact ⟨_, ((t460 != false)), (by first | rfl | (simp; done) | (simp [*]; done)), H', ⟨by first | omega | exact Nat.le_refl _⟩, ⟨by (with_reducible repeat (first | apply Kd.R_alloc | apply Kd.R_drewN | apply Kd.R_drew)); exact Kd.R_mono HO450.out (fun _ hk => ⟨hk.1.1.1.2, hk.1.2⟩)⟩, ⟨by (with_reducible repeat (first | apply Kd.R_alloc | apply Kd.R_drewN | apply Kd.R_drew)); exact Kd.R_mono HO462.out (fun _ hk => ⟨hk.1.1.1.1.2, hk.1.2⟩)⟩, ⟨by (with_reducible repeat (first | apply Kd.R_alloc | apply Kd.R_drewN | apply Kd.R_drew)); exact Kd.R_mono HO470.out (fun _ hk => ⟨hk.1.1.1.1.2, hk.1.1.2⟩)⟩, ⟨hbS HB.out⟩⟩
  case rest =>
   clear HC15; (try clear c1); (try clear c4); (try clear c26); (try clear c26b0); (try clear c26b1); (try clear c26b2); (try clear c28); (try clear c29); (try clear c29b0); (try clear c29b1); (try clear c29b2); (try clear c30); (try clear c30b0); (try clear c30b1); (try clear c31); (try clear c31b0); (try clear c31b1); (try clear c31b2); (try clear c33); (try clear c34); (try clear c34b0); (try clear c34b1); (try clear c34b2); (try clear c36); (try clear c37); (try clear c37b0); (try clear c37b1); (try clear c37b2); (try clear c38); (try clear c38b0); (try clear c38b1); (try clear c38b2); (try clear c39); (try clear c39b0); (try clear c39b1); (try clear c39b2); (try clear c40); obtain ⟨kq, x212_14, rfl, HA, HJ14, HO_7, HO_15, HO_19, HB⟩ := hcut
   cases kq with
   | zero => exact absurd HA.out (by simp [laws_FnRiversMended.j0])
   | succ kj14 =>
    have H := HA.out; clear HA; simp only [laws_FnRiversMended.j0] at H; by_cases c53 : x212_14 = true
    ·subst c53; rw [if_pos rfl] at H; (try dsimp only at H); exact absurd H (by simp)
    replace c53 := Bool.eq_false_iff.mpr c53; subst c53; rw [if_neg (show ¬ (false = true) by decide)] at H; (try dsimp only at H); have HC54 := am H; clear H; go_step; rename_i K_b_ a_b_; exact laws_FnRiversMended.part_b (w := w) (nd := nd) HR1 HC1 HO_7 HO_15 HO_19 HB HJ14 HC54 a_b_
def laws_FnRiversMended.Pure : Prop := ∀ (l0 : List Int) (l1 : List Int), l0.length ≤ maxLen → l0.length * 1 ≤ 140737488351232 → (∀ x ∈ l0, (Lit.int .u8 x).wf = true) → l1.length ≤ maxLen → l1.length * 1 ≤ 140737488351232 → (∀ x ∈ l1, (Lit.int .u8 x).wf = true) → ∃ k, laws_FnRiversMended.f k l0 l1 = some true
end Go.Proofs.YtfoflpomfmbjoaaDoor.X
end
section
namespace Go.Proofs.YtfoflpomfmbjoaaDoor.X
open Go.RowKit Go.Proofs.YtfoflpomfmbjoaaDoorW.PrintWords Go.Proofs.YtfoflpomfmbjoaaDoorW.PrintLast Go.Proofs.YtfoflpomfmbjoaaDoorW.PrintMore
attribute [local go_sem] max2_int min2_int max_two min_two max_three min_three max_four min_four   -- for this text's walks alone
set_option linter.unusedVariables false
set_option linter.unusedSimpArgs false
def laws_FnRiversMended.PureQ : Prop := ∀ (l0 : List Int) (l1 : List Int), (l0.length ≤ maxLen ∧ ∀ y ∈ l0, (Lit.int .u8 y).wf = true) → l0.length * 1 ≤ 140737488351232 → (l1.length ≤ maxLen ∧ ∀ y ∈ l1, (Lit.int .u8 y).wf = true) → l1.length * 1 ≤ 140737488351232 → ∃ k, laws_FnRiversMended.f k l0 l1 = some true
end Go.Proofs.YtfoflpomfmbjoaaDoor.X
end
section
namespace Go.Proofs.YtfoflpomfmbjoaaDoor.X
open Go.Proofs.YtfoflpomfmbjoaaDoor.Sq Go.RowKit Go.Proofs.YtfoflpomfmbjoaaDoorW.PrintWords Go.Proofs.YtfoflpomfmbjoaaDoorW.PrintLast Go.Proofs.YtfoflpomfmbjoaaDoorW.PrintMore
attribute [local go_sem] max2_int min2_int max_two min_two max_three min_three max_four min_four   -- for this text's walks alone
set_option linter.unusedVariables false
set_option linter.unusedSimpArgs false
theorem w64 {x : Int} (h : -9223372036854775808 ≤ x) (h' : x ≤ 9223372036854775807) : wrap64 x = x := by
  unfold wrap64
  omega
theorem evPos {α : Type} {c : Prop} [Decidable c] {g f : Nat → Option α} {r : α} (hc : c) (h : Ev g r) : Ev (fun k => if c then g k else f k) r := by
  obtain ⟨K, hK⟩ := h
  exact ⟨K, fun k hk => (if_pos hc).trans (hK k hk)⟩
theorem evNeg {α : Type} {c : Prop} [Decidable c] {g f : Nat → Option α} {r : α} (hc : ¬ c) (h : Ev f r) : Ev (fun k => if c then g k else f k) r := by
  obtain ⟨K, hK⟩ := h
  exact ⟨K, fun k hk => (if_neg hc).trans (hK k hk)⟩
theorem evSplit {α : Type} {c : Prop} [Decidable c] {g f : Nat → Option α} {r : α} (h : c → Ev g r) (h' : ¬ c → Ev f r) : Ev (fun k => if c then g k else f k) r := by
  by_cases hc : c
  · exact evPos hc (h hc)
  · exact evNeg hc (h' hc)
theorem evBind0 {α β : Type} {o : Option α} {f : Nat → α → Option β} {a : α} {r : β} (h : o = some a) (k : Ev (fun n => f n a) r) : Ev (fun n => o.bind (f n)) r := by
  obtain ⟨K, hK⟩ := k
  exact ⟨K, fun k hk => by rw [h]; exact hK k hk⟩
theorem evEq {α : Type} {g : Nat → Option α} {r r' : α} (h : Ev g r) (e : r = r') : Ev g r' := e ▸ h
theorem evSome {α : Type} {r r' : α} (e : r = r') : Ev (fun _ => some r) r' := ⟨0, fun _ _ => by rw [e]⟩
theorem getD_drop_cons {α : Type} (l : List α) (i : Nat) (d : α) (h : i < l.length) : l.drop i = l.getD i d :: l.drop (i + 1) := by
  rw [List.drop_eq_getElem_cons h, List.getD_eq_getElem?_getD, List.getElem?_eq_getElem h]
  rfl
theorem getD_map' {α β : Type} (l : List α) (f : α → β) (i : Nat) (d : α) (e : β) (h : i < l.length) : (l.map f).getD i e = f (l.getD i d) := by
  rw [List.getD_eq_getElem?_getD, List.getD_eq_getElem?_getD, List.getElem?_map, List.getElem?_eq_getElem h]
  rfl
theorem getElem_getD {α : Type} (l : List α) (i : Nat) (d : α) (h : i < l.length) : l[i]'h = l.getD i d := by
  rw [List.getD_eq_getElem?_getD, List.getElem?_eq_getElem h]
  rfl
theorem getD_set_same {α : Type} (l : List α) (i : Nat) (a d : α) (h : i < l.length) : (l.set i a).getD i d = a := by
  rw [List.getD_eq_getElem?_getD, List.getElem?_set_self h]
  rfl
theorem getD_range_map {α : Type} (f : Nat → α) (n i : Nat) (d : α) (h : i < n) : ((List.range n).map f).getD i d = f i := by
  rw [List.getD_eq_getElem?_getD, List.getElem?_map, List.getElem?_range h]
  rfl
def bytesOk (c : List Int) : Prop := (∀ x ∈ c, 0 ≤ x ∧ x ≤ 255) ∧ c.length ≤ 1048576
theorem bytesOk_of {c : List Int} (h : ∀ x ∈ c, (Lit.int .u8 x).wf = true) (hl : c.length ≤ 1048576) : bytesOk c := ⟨fun x hx => by
  have h1 := h x hx
  simp only [Lit.wf, Bool.and_eq_true, decide_eq_true_eq] at h1
  exact h1, hl⟩
theorem wraps_u64_63 (n : Int) (h₀ : 0 ≤ n) (h₁ : n < 2 ^ 63) : IntKind.u64.wrap n = n := by rw [IntKind.wrap_u64]; omega
theorem mask8 (n : Int) : ∃ b, wrap64 (Go.bits .and .u64 (IntKind.u64.wrap n / 1099511627776) 255) = b ∧ 0 ≤ b ∧ b ≤ 255 := by
  have e : ((2 : Int) ^ 8 - 1) = 255 := by decide
  have e2 : ((2 : Int) ^ 8) = 256 := by decide
  have h := bits_mask .u64 63 (by decide) wraps_u64_63 8 (by decide) (IntKind.u64.wrap n / 1099511627776) (by rw [IntKind.wrap_u64]; omega) (by rw [IntKind.wrap_u64]; omega)
  rw [e, e2] at h
  refine ⟨_, rfl, ?_, ?_⟩
  · rw [h, w64 (by omega) (by omega)]; omega
  · rw [h, w64 (by omega) (by omega)]; omega
theorem rd_byte {c : List Int} (hc : bytesOk c) (i : Int) (h0 : 0 ≤ i) (h1 : i < (c.length : Int)) : 0 ≤ rd c i ∧ rd c i ≤ 255 := by
  refine hc.1 _ ?_
  unfold rd
  rw [List.getD_eq_getElem?_getD, List.getElem?_eq_getElem (by omega)]
  exact List.getElem_mem _
theorem emod_le' {a b : Int} (h0 : 0 ≤ a) (h1 : 0 < b) : a % b ≤ a := by
  rcases Int.lt_or_le a b with h | h
  · rw [Int.emod_eq_of_lt h0 h]; exact Int.le_refl _
  · exact Int.le_trans (Int.le_of_lt (Int.emod_lt_of_pos a h1)) h
theorem next_ok {c : List Int} (hc : bytesOk c) (i s : Int) (h0 : 0 ≤ i) (hB : i ≤ 1000000000000000) : ∃ b s', spec_l1Cur_next.f c i s = some (b, i + 1, s') ∧ 0 ≤ b ∧ b ≤ 255 := by
  have e1 : wrap64 (i + 1) = i + 1 := w64 (by omega) (by omega)
  have hl := hc.2
  unfold spec_l1Cur_next.f
  rw [e1]
  by_cases c1 : i < (c.length : Int)
  · obtain ⟨b0, b1⟩ := rd_byte hc i h0 c1
    rw [if_pos c1, if_pos h0, if_pos (by omega), w64 (x := rd c i) (by omega) (by omega)]
    exact ⟨_, _, rfl, b0, b1⟩
  · rw [if_neg c1]
    by_cases c2 : i + 1 ≤ (c.length : Int)
    · exact absurd c2 (by omega)
    · rw [if_neg c2]
      obtain ⟨b, e, b0, b1⟩ := mask8 ((IntKind.u64.wrap ((IntKind.u64.wrap (s * 6364136223846793005)))) + 1442695040888963407)
      rw [e]
      exact ⟨_, _, rfl, b0, b1⟩
theorem pick_ok {c : List Int} (hc : bytesOk c) (i s n : Int) (h0 : 0 ≤ i) (hB : i ≤ 1000000000) (hn : n ≤ 1000000000) : ∃ v i' s', spec_l1Cur_pick.f c i s n = some (v, i', s') ∧ 0 ≤ v ∧ (1 ≤ n → v < n) ∧ v ≤ 65535 ∧ i ≤ i' ∧ i' ≤ i + 2 := by
  unfold spec_l1Cur_pick.f
  by_cases c1 : n ≤ 1
  · rw [if_pos c1]
    exact ⟨_, _, _, rfl, by omega, by omega, by omega, by omega, by omega⟩
  · rw [if_neg c1]
    obtain ⟨b, s1, e1, b0, b1⟩ := next_ok hc i s h0 (by omega)
    rw [e1]
    simp only [Option.bind_some]
    by_cases c2 : n > 200
    · rw [if_pos c2]
      obtain ⟨d, s2, e2, d0, d1⟩ := next_ok hc (i + 1) s1 (by omega) (by omega)
      rw [e2]
      simp only [Option.bind_some]
      rw [if_neg (by omega), w64 (x := b * 256) (by omega) (by omega), w64 (x := b * 256 + d) (by omega) (by omega), Int.tmod_eq_emod_of_nonneg (by omega)]
      have m1 := Int.emod_nonneg (b * 256 + d) (b := n) (by omega)
      have m2 := Int.emod_lt_of_pos (b * 256 + d) (b := n) (by omega)
      have m3 : (b * 256 + d) % n ≤ b * 256 + d := emod_le' (by omega) (by omega)
      exact ⟨_, _, _, rfl, m1, fun _ => m2, by omega, by omega, by omega⟩
    · rw [if_neg c2, if_neg (by omega), Int.tmod_eq_emod_of_nonneg b0]
      have m1 := Int.emod_nonneg b (b := n) (by omega)
      have m2 := Int.emod_lt_of_pos b (b := n) (by omega)
      have m3 : b % n ≤ b := emod_le' (by omega) (by omega)
      exact ⟨_, _, _, rfl, m1, fun _ => m2, by omega, by omega, by omega⟩
def pl (r : ByteArray) (p : Nat) : Bool := decide (p = 0) || decide (p = r.size + 1) || (bt r ((p : Int) - 1) == 111)
def ints (l : List Nat) : List Int := l.map (fun (x : Nat) => (x : Int))
def stL (r : ByteArray) : List Nat := (List.range (r.size + 2)).filter (pl r)
theorem rvStand_eq (r : ByteArray) (hr : r.size ≤ 100) (p : Nat) (hp : p ≤ r.size + 1) : spec_rvStand.f r (p : Int) = some (pl r p) := by
  unfold spec_rvStand.f pl
  rw [w64 (x := (r.size : Int) + 1) (by omega) (by omega), w64 (x := (p : Int) - 1) (by omega) (by omega)]
  by_cases h0 : p = 0
  · subst h0
    rw [if_pos (show ((0 : Nat) : Int) = 0 from rfl)]
    simp
  rw [if_neg (by omega)]
  by_cases h1 : p = r.size + 1
  · rw [if_pos (by omega)]
    simp [h1]
  rw [if_neg (by omega), if_pos (by omega), if_pos (by omega)]
  simp [h0, h1]
theorem stand_l0 (r : ByteArray) (hr : r.size ≤ 100) (d : Nat) : ∀ i : Nat, i + d = r.size → Ev (fun k => impl_stand.l0 k r (ints ((List.range (i + 1)).filter (pl r))) (r.size : Int) (i : Int)) (ints (stL r)) := by
  have hlen : ∀ i : Nat, i ≤ r.size → (ints ((List.range (i + 1)).filter (pl r))).length < 17592186044416 := fun i hi => by
    unfold ints
    rw [List.length_map]
    have := List.length_filter_le (pl r) (List.range (i + 1))
    rw [List.length_range] at this
    omega
  induction d with
  | zero =>
    intro i hi
    obtain rfl : i = r.size := by omega
    refine Ev.step (fun k => by rw [impl_stand.l0]) ?_
    refine evNeg (by omega) (evPos (hlen _ (Nat.le_refl _)) (evSome ?_))
    rw [w64 (by omega) (by omega)]
    unfold stL
    rw [List.range_succ (n := r.size + 1), List.filter_append]
    have : pl r (r.size + 1) = true := by simp [pl]
    simp [ints, this]
  | succ d ih =>
    intro i hi
    refine Ev.step (fun k => by rw [impl_stand.l0]) ?_
    refine evPos (by omega) (evPos (by omega) (evPos (by omega) ?_))
    have h2 := ih (i + 1) (by omega)
    have hp : pl r (i + 1) = (bt r (i : Int) == 111) := by
      unfold pl
      have e : ((i + 1 : Nat) : Int) - 1 = (i : Int) := by omega
      rw [e]
      simp
      omega
    rw [List.range_succ (n := i + 1), List.filter_append] at h2
    rw [w64 (x := (i : Int) + 1) (by omega) (by omega)]
    refine evSplit (fun hb => ?_) (fun hb => ?_)
    · refine evPos (hlen _ (by omega)) ?_
      have : pl r (i + 1) = true := by rw [hp, hb]; rfl
      simpa [ints, this] using h2
    · have : pl r (i + 1) = false := by rw [hp]; simpa using hb
      simpa [ints, this] using h2
theorem stand_ev (r : ByteArray) (hr : r.size ≤ 100) : Ev (fun k => impl_stand.f k r) (ints (stL r)) := by
  unfold impl_stand.f
  have h := stand_l0 r hr r.size 0 (by omega)
  have : (ints ((List.range (0 + 1)).filter (pl r))) = [0] := by
    have : pl r 0 = true := by simp [pl]
    simp [ints, List.range_succ, this]
  rw [this] at h
  simpa using h
theorem stL_cons (r : ByteArray) : stL r = 0 :: (List.range' 1 (r.size + 1)).filter (pl r) := by
  unfold stL
  rw [List.range_eq_range', show r.size + 2 = (r.size + 1) + 1 by omega, List.range'_succ]
  have : pl r 0 = true := by simp [pl]
  simp [this]
theorem stL_le (r : ByteArray) (x : Nat) (h : x ∈ stL r) : x ≤ r.size + 1 := by
  unfold stL at h
  have := List.mem_range.1 (List.mem_filter.1 h).1
  omega
def gapOf (m f : Int) (l : Nat) : List Nat → Int × Int
 | [] => (m, f)
 | p :: t => if (p : Int) - (l : Int) > m then gapOf ((p : Int) - (l : Int)) (l : Int) p t else gapOf m f p t
theorem rvGap_l0 (r : ByteArray) (hr : r.size ≤ 100) (d : Nat) : ∀ (p l : Nat) (m f : Int), p + d = r.size + 2 → l ≤ 101 → Ev (fun k => spec_rvGap.l0 k r m f (l : Int) (p : Int)) (gapOf m f l ((List.range' p d).filter (pl r))) := by
  induction d with
  | zero =>
    intro p l m f hp hl
    refine Ev.step (fun k => by rw [spec_rvGap.l0]) ?_
    rw [w64 (x := (r.size : Int) + 1) (by omega) (by omega)]
    exact evNeg (by omega) (evSome rfl)
  | succ d ih =>
    intro p l m f hp hl
    refine Ev.step (fun k => by rw [spec_rvGap.l0]) ?_
    rw [w64 (x := (r.size : Int) + 1) (by omega) (by omega), w64 (x := (p : Int) + 1) (by omega) (by omega), w64 (x := (p : Int) - (l : Int)) (by omega) (by omega)]
    refine evPos (by omega) (evBind0 (rvStand_eq r hr p (by omega)) ?_)
    rw [List.range'_succ]
    cases hs : pl r p with
    | true =>
      rw [List.filter_cons_of_pos hs]
      refine evPos rfl ?_
      unfold gapOf
      by_cases hg : (p : Int) - (l : Int) > m
      · rw [if_pos hg]
        exact evPos hg (ih (p + 1) p _ _ (by omega) (by omega))
      · rw [if_neg hg]
        exact evNeg hg (ih (p + 1) p _ _ (by omega) (by omega))
    | false =>
      rw [List.filter_cons_of_neg (by simp [hs])]
      exact evNeg (by simp) (ih (p + 1) l _ _ (by omega) hl)
theorem rvGap_ev (r : ByteArray) (hr : r.size ≤ 100) : Ev (fun k => spec_rvGap.f k r) (gapOf 0 0 0 ((List.range' 1 (r.size + 1)).filter (pl r))) := by
  unfold spec_rvGap.f
  exact rvGap_l0 r hr (r.size + 1) 1 0 0 0 (by omega) (by omega)
theorem rd_ints (L : List Nat) (i : Nat) (h : i < L.length) : rd (ints L) (i : Int) = ((L.getD i 0 : Nat) : Int) := by
  unfold rd ints
  rw [Int.toNat_natCast]
  exact getD_map' L _ i 0 0 h
theorem longestGap_l0 (L : List Nat) (hL : ∀ x ∈ L, x ≤ 101) (hlen : L.length ≤ 1000) (d : Nat) : ∀ (i : Nat) (m f : Int), i + 1 + d = L.length → Ev (fun k => impl_longestGap.l0 k (ints L) m f ((i + 1 : Nat) : Int)) (gapOf m f (L.getD i 0) (L.drop (i + 1))) := by
  have hl : (ints L).length = L.length := by simp [ints]
  have hle : ∀ i, i < L.length → L.getD i 0 ≤ 101 := fun i hi => by
    rw [← getElem_getD L i 0 hi]
    exact hL _ (List.getElem_mem hi)
  induction d with
  | zero =>
    intro i m f hi
    refine Ev.step (fun k => by rw [impl_longestGap.l0]) ?_
    refine evNeg (by rw [hl]; omega) (evSome ?_)
    rw [List.drop_of_length_le (by omega)]
    rfl
  | succ d ih =>
    intro i m f hi
    refine Ev.step (fun k => by rw [impl_longestGap.l0]) ?_
    have h1 := hle i (by omega)
    have h2 := hle (i + 1) (by omega)
    have e1 : wrap64 (((i + 1 : Nat) : Int) - 1) = (i : Int) := by rw [w64 (by omega) (by omega)]; omega
    have e2 : wrap64 (((i + 1 : Nat) : Int) + 1) = ((i + 1 + 1 : Nat) : Int) := by rw [w64 (by omega) (by omega)]; omega
    rw [e1, e2, rd_ints L (i + 1) (by omega), rd_ints L i (by omega)]
    have e3 : wrap64 (((L.getD (i + 1) 0 : Nat) : Int) - ((L.getD i 0 : Nat) : Int)) = ((L.getD (i + 1) 0 : Nat) : Int) - ((L.getD i 0 : Nat) : Int) := w64 (by omega) (by omega)
    rw [e3]
    refine evPos (by rw [hl]; omega) (evPos (by omega) (evPos (by omega) (evPos (by rw [hl]; omega) ?_)))
    rw [getD_drop_cons L (i + 1) 0 (by omega)]
    unfold gapOf
    by_cases hg : ((L.getD (i + 1) 0 : Nat) : Int) - ((L.getD i 0 : Nat) : Int) > m
    · rw [if_pos hg]
      exact evPos hg (ih (i + 1) _ _ (by omega))
    · rw [if_neg hg]
      exact evNeg hg (ih (i + 1) _ _ (by omega))
theorem longestGap_ev (r : ByteArray) (hr : r.size ≤ 100) : Ev (fun k => impl_longestGap.f k r) (gapOf 0 0 0 ((List.range' 1 (r.size + 1)).filter (pl r))) := by
  unfold impl_longestGap.f
  refine Ev.bind (stand_ev r hr) ?_
  have hc := stL_cons r
  have hlen : (stL r).length ≤ 102 := by
    unfold stL
    have := List.length_filter_le (pl r) (List.range (r.size + 2))
    rw [List.length_range] at this
    omega
  have h := longestGap_l0 (stL r) (fun x hx => by have := stL_le r x hx; omega) (by omega) ((stL r).length - 1) 0 0 0 (by rw [hc]; simp; omega)
  rw [hc] at h
  rw [hc]
  exact h
theorem getD_append_right' {α : Type} (P Q : List α) (i : Nat) (d : α) : (P ++ Q).getD (P.length + i) d = Q.getD i d := by
  rw [List.getD_eq_getElem?_getD, List.getD_eq_getElem?_getD, List.getElem?_append_right (by omega), Nat.add_sub_cancel_left]
theorem rd_right (P Q : List Int) (i : Nat) : rd (P ++ Q) ((P.length + i : Nat) : Int) = rd Q (i : Int) := by
  unfold rd
  rw [Int.toNat_natCast, Int.toNat_natCast]
  exact getD_append_right' P Q i 0
theorem lfStep_right (P Q : List Int) (t : Nat) : lfStep P.length (P.length + t) (P ++ Q) = P ++ lfStep 0 t Q := by
  unfold lfStep
  have h0 := rd_right P Q 0
  rw [Nat.add_zero] at h0
  rw [rd_right P Q t, h0]
  split
  · rw [List.set_append_right _ _ (by omega), Nat.sub_self]
  · rfl
theorem lfIn_right (P Q : List Int) : ∀ d, lfIn P.length (P ++ Q) d = P ++ lfIn 0 Q d
 | 0 => rfl
 | d + 1 => by
  show lfStep P.length (P.length + 1 + d) (lfIn P.length (P ++ Q) d) = P ++ lfStep 0 (0 + 1 + d) (lfIn 0 Q d)
  rw [lfIn_right P Q d, Nat.add_assoc, lfStep_right, Nat.zero_add]
theorem lfStep_len (fr t : Nat) (o : List Int) : (lfStep fr t o).length = o.length := by
  unfold lfStep
  split <;> simp
theorem lfIn_len (fr : Nat) (o : List Int) : ∀ d, (lfIn fr o d).length = o.length
 | 0 => rfl
 | d + 1 => (lfStep_len _ _ _).trans (lfIn_len fr o d)
def lfC (n : Nat) (a : Int) (p : Nat) : Nat := (mn ((p : Int) + a) ((n : Int) + 1) - (p : Int)).toNat
theorem lfC_le (n : Nat) (a : Int) (p : Nat) : lfC n a p ≤ n + 1 - p := by unfold lfC mn; split <;> omega
theorem lfC_lt (n : Nat) (a : Int) (p d : Nat) (h : d < lfC n a p) : ((p + 1 + d : Nat) : Int) ≤ (n : Int) + 1 ∧ ((p + 1 + d : Nat) : Int) ≤ (p : Int) + a := by
  unfold lfC mn at h
  split at h <;> omega
theorem lfC_end (n : Nat) (a : Int) (p : Nat) : ¬ (((p + 1 + lfC n a p : Nat) : Int) ≤ (n : Int) + 1 ∧ ((p + 1 + lfC n a p : Nat) : Int) ≤ (p : Int) + a) := by
  unfold lfC mn
  split <;> omega
def lfT (r : ByteArray) (a : Int) : Nat → List Int
 | 0 => []
 | d + 1 => if d = 0 then [0] else if pl r (r.size + 1 - d) = true then lfIn 0 ((-1) :: lfT r a d) (lfC r.size a (r.size + 1 - d)) else (-1) :: lfT r a d
theorem lfT_len (r : ByteArray) (a : Int) : ∀ d, (lfT r a d).length = d
 | 0 => rfl
 | d + 1 => by
  unfold lfT
  split
  · rename_i h; subst h; rfl
  · split
    · rw [lfIn_len]; simp [lfT_len r a d]
    · simp [lfT_len r a d]
theorem replicate_snoc {α : Type} (n : Nat) (x : α) (l : List α) : List.replicate (n + 1) x ++ l = List.replicate n x ++ (x :: l) := by
  rw [List.replicate_succ', List.append_assoc]
  rfl
theorem lfOut_top (n : Nat) (a : Int) (o : List Int) : lfOut n a (n + 1) o = o := by
  unfold lfOut
  have : (mn (((n + 1 : Nat) : Int) + a) ((n : Int) + 1) - ((n + 1 : Nat) : Int)).toNat = 0 := by unfold mn; split <;> omega
  rw [this]
  rfl
theorem lf_fold (r : ByteArray) (a : Int) : ∀ d, d ≤ r.size + 1 → ((List.range' (r.size + 1 - d) (d + 1)).filter (pl r)).reverse.foldl (fun o fr => lfOut r.size a fr o) (lfStart r.size) = List.replicate (r.size + 1 - d) (-1) ++ lfT r a (d + 1)
 | 0, _ => by
  have hp : pl r (r.size + 1) = true := by simp [pl]
  rw [Nat.sub_zero, List.range'_succ, List.filter_cons_of_pos hp]
  show lfOut r.size a (r.size + 1) (lfStart r.size) = _
  rw [lfOut_top]
  unfold lfStart
  rw [replicate_snoc (r.size + 1) (-1 : Int) [] |>.symm.trans (List.append_nil _) |>.symm, List.set_append_right _ _ (by simp)]
  simp [lfT]
 | d + 1, h => by
  have ih := lf_fold r a d (by omega)
  rw [List.range'_succ, show r.size + 1 - (d + 1) + 1 = r.size + 1 - d by omega]
  have e1 : lfT r a (d + 1 + 1) = if pl r (r.size + 1 - (d + 1)) = true then lfIn 0 ((-1) :: lfT r a (d + 1)) (lfC r.size a (r.size + 1 - (d + 1))) else (-1) :: lfT r a (d + 1) := by
    conv => lhs; unfold lfT
    rw [if_neg (by omega)]
  have e2 : List.replicate (r.size + 1 - d) (-1 : Int) ++ lfT r a (d + 1) = List.replicate (r.size + 1 - (d + 1)) (-1) ++ ((-1) :: lfT r a (d + 1)) := by
    rw [show r.size + 1 - d = r.size + 1 - (d + 1) + 1 by omega, replicate_snoc]
  cases hs : pl r (r.size + 1 - (d + 1)) with
  | true =>
    rw [List.filter_cons_of_pos hs, List.reverse_cons, List.foldl_append, ih, e1, if_pos hs, e2]
    show lfIn _ _ _ = _
    have h3 := lfIn_right (List.replicate (r.size + 1 - (d + 1)) (-1 : Int)) ((-1) :: lfT r a (d + 1)) (lfC r.size a (r.size + 1 - (d + 1)))
    rw [List.length_replicate] at h3
    exact h3
  | false =>
    rw [List.filter_cons_of_neg (by rw [hs]; exact Bool.false_ne_true), ih, e1, if_neg (by rw [hs]; exact Bool.false_ne_true), e2]
theorem leapsLeft_ev (r : ByteArray) (hr : r.size ≤ 100) (a : Int) (h1 : -1000 ≤ a) (h2 : a ≤ 1000) : Ev (fun k => impl_leapsLeft.f k r a) (lfT r a (r.size + 2)) := by
  unfold impl_leapsLeft.f
  refine Ev.bind (stand_ev r hr) ?_
  have hlen : (stL r).length ≤ 102 := by
    unfold stL
    have := List.length_filter_le (pl r) (List.range (r.size + 2))
    rw [List.length_range] at this
    omega
  have hc := stL_cons r
  refine evPos ⟨hr, h1, h2, by simp [ints]; omega, by simp [ints, hc], ?_⟩ (evSome ?_)
  · intro x hx
    unfold ints at hx
    obtain ⟨y, hy, rfl⟩ := List.mem_map.1 hx
    have := stL_le r y hy
    omega
  · have e : (ints (stL r)).reverse.map Int.toNat = (stL r).reverse := by
      unfold ints
      rw [← List.map_reverse, List.map_map]
      have : (Int.toNat ∘ fun (x : Nat) => (x : Int)) = id := by funext x; simp
      rw [this, List.map_id]
    rw [e]
    have h := lf_fold r a (r.size + 1) (Nat.le_refl _)
    rw [Nat.sub_self] at h
    unfold stL
    rw [List.range_eq_range']
    simpa using h
theorem rvLeft_l1 (r : ByteArray) (hr : r.size ≤ 100) (a : Int) (h1 : -1000 ≤ a) (h2 : a ≤ 1000) (p : Nat) (hp : p ≤ r.size) (o : List Int) (ho : o.length = r.size + 2) (x : List Int) (e : Nat) : ∀ d : Nat, d + e = lfC r.size a p →
    Ev (fun k => spec_rvLeft.l0 k r a ((r.size : Int) + 1) (lfIn p o (lfC r.size a p)) ((p : Int) - 1)) x → Ev (fun k => spec_rvLeft.l1 k r a ((r.size : Int) + 1) (lfIn p o d) (p : Int) ((p + 1 + d : Nat) : Int)) x := by
  have hlow := fun d (hd : d < lfC r.size a p) => lfC_lt r.size a p d hd
  have hhi := lfC_end r.size a p
  have hC := lfC_le r.size a p
  induction e with
  | zero =>
    intro d hd hx
    obtain rfl : d = lfC r.size a p := by omega
    refine Ev.step (fun k => by rw [spec_rvLeft.l1]) ?_
    rw [w64 (x := (p : Int) + a) (by omega) (by omega)]
    refine evSplit (fun hc => ?_) (fun hc => ?_)
    · refine Ev.step (fun k => by rw [spec_rvLeft.j2]) ?_
      refine evNeg (fun h => hhi ⟨hc, of_decide_eq_true h⟩) ?_
      rw [w64 (x := (p : Int) - 1) (by omega) (by omega)]
      exact hx
    · refine Ev.step (fun k => by rw [spec_rvLeft.j2]) ?_
      refine evNeg (by simp) ?_
      rw [w64 (x := (p : Int) - 1) (by omega) (by omega)]
      exact hx
  | succ e ih =>
    intro d hd hx
    obtain ⟨h3, h4⟩ := hlow d (by omega)
    have h5 := ih (d + 1) (by omega) hx
    have hl : (lfIn p o d).length = r.size + 2 := by rw [lfIn_len]; exact ho
    have hst : lfIn p o (d + 1) = lfStep p (p + 1 + d) (lfIn p o d) := rfl
    unfold lfStep at hst
    refine Ev.step (fun k => by rw [spec_rvLeft.l1]) ?_
    refine evPos h3 ?_
    refine Ev.step (fun k => by rw [spec_rvLeft.j2]) ?_
    rw [w64 (x := (p : Int) + a) (by omega) (by omega)]
    refine evPos (decide_eq_true h4) (evPos (by omega) (evPos (by omega) ?_))
    rw [show wrap64 (((p + 1 + d : Nat) : Int) + 1) = ((p + 1 + (d + 1) : Nat) : Int) from (w64 (by omega) (by omega)).trans (by omega), Int.toNat_natCast]
    refine evSplit (fun c1 => evPos (by omega) (evPos (by omega) (evSplit (fun c2 => ?_) (fun c2 => evSplit (fun c3 => ?_) (fun c3 => ?_))))) (fun c1 => ?_)
    · rw [if_pos ⟨c1, Or.inl c2⟩] at hst
      rw [hst] at h5
      exact h5
    · rw [if_pos ⟨c1, Or.inr c3⟩] at hst
      rw [hst] at h5
      exact h5
    · rw [if_neg (fun h => h.2.elim c2 c3)] at hst
      rw [hst] at h5
      exact h5
    · rw [if_neg (fun h => c1 h.1)] at hst
      rw [hst] at h5
      exact h5
theorem rvLeft_l0 (r : ByteArray) (hr : r.size ≤ 100) (a : Int) (h1 : -1000 ≤ a) (h2 : a ≤ 1000) : ∀ (p : Nat), p ≤ r.size + 1 →
    Ev (fun k => spec_rvLeft.l0 k r a ((r.size : Int) + 1) (List.replicate p 0 ++ lfT r a (r.size + 2 - p)) ((p : Int) - 1)) (lfT r a (r.size + 2))
 | 0, _ => by
  refine Ev.step (fun k => by rw [spec_rvLeft.l0]) ?_
  exact evNeg (by omega) (evSome (by simp))
 | p + 1, hp => by
  have ih := rvLeft_l0 r hr a h1 h2 p (by omega)
  have hT := lfT_len r a (r.size + 2 - (p + 1))
  have e0 : ((p + 1 : Nat) : Int) - 1 = (p : Int) := by omega
  rw [e0]
  refine Ev.step (fun k => by rw [spec_rvLeft.l0]) ?_
  refine evPos (by omega) (evPos (by omega) (evPos (by rw [List.length_append, List.length_replicate, hT]; omega) ?_))
  refine evBind0 rfl (evBind0 (rvStand_eq r hr p (by omega)) ?_)
  have es : (List.replicate (p + 1) (0 : Int) ++ lfT r a (r.size + 2 - (p + 1))).set ((p : Int)).toNat (-1) = List.replicate p 0 ++ ((-1) :: lfT r a (r.size + 2 - (p + 1))) := by
    rw [replicate_snoc, Int.toNat_natCast, List.set_append_right _ _ (by simp), List.length_replicate, Nat.sub_self]
    rfl
  rw [es]
  have eT : lfT r a (r.size + 2 - p) = if pl r p = true then lfIn 0 ((-1) :: lfT r a (r.size + 2 - (p + 1))) (lfC r.size a p) else (-1) :: lfT r a (r.size + 2 - (p + 1)) := by
    rw [show r.size + 2 - p = (r.size + 2 - (p + 1)) + 1 by omega]
    conv => lhs; unfold lfT
    rw [if_neg (by omega), show r.size + 1 - (r.size + 2 - (p + 1)) = p by omega]
  rw [eT] at ih
  have hw1 : wrap64 ((p : Int) - 1) = (p : Int) - 1 := w64 (by omega) (by omega)
  have hw2 : wrap64 ((p : Int) + 1) = ((p + 1 + 0 : Nat) : Int) := by rw [w64 (by omega) (by omega)]; omega
  cases hs : pl r p with
  | true =>
    rw [if_pos hs] at ih
    refine evPos rfl ?_
    rw [hw2]
    refine rvLeft_l1 r hr a h1 h2 p (by omega) (List.replicate p 0 ++ ((-1) :: lfT r a (r.size + 2 - (p + 1)))) (by rw [List.length_append, List.length_replicate, List.length_cons, hT]; omega) _ (lfC r.size a p) 0 (by omega) ?_
    have h3 := lfIn_right (List.replicate p (0 : Int)) ((-1) :: lfT r a (r.size + 2 - (p + 1))) (lfC r.size a p)
    rw [List.length_replicate] at h3
    rw [h3]
    exact ih
  | false =>
    rw [if_neg (by simp [hs])] at ih
    refine evNeg (by simp) ?_
    rw [hw1]
    exact ih
theorem rvLeft_ev (r : ByteArray) (hr : r.size ≤ 100) (a : Int) (h1 : -1000 ≤ a) (h2 : a ≤ 1000) : Ev (fun k => spec_rvLeft.f k r a) (lfT r a (r.size + 2)) := by
  unfold spec_rvLeft.f
  have e1 : wrap64 ((r.size : Int) + 1) = ((r.size + 1 : Nat) : Int) := by rw [w64 (by omega) (by omega)]; omega
  have e2 : wrap64 (((r.size + 1 : Nat) : Int) + 1) = ((r.size + 2 : Nat) : Int) := by rw [w64 (by omega) (by omega)]; omega
  have e3 : wrap64 (((r.size + 1 : Nat) : Int) - 1) = ((r.size + 1 : Nat) : Int) - 1 := w64 (by omega) (by omega)
  rw [e1, e2, e3, Int.toNat_natCast]
  refine evPos (by omega) (evPos (by omega) ?_)
  have h := rvLeft_l0 r hr a h1 h2 (r.size + 1) (Nat.le_refl _)
  have e4 : lfT r a (r.size + 2 - (r.size + 1)) = [0] := by rw [show r.size + 2 - (r.size + 1) = 1 by omega]; simp [lfT]
  have e5 : List.replicate (r.size + 1) (0 : Int) ++ [0] = List.replicate (r.size + 2) 0 := by rw [List.replicate_succ' (n := r.size + 1)]
  rw [e4, e5] at h
  exact h
def mnS (T : List Int) : Nat → Int
 | 0 => -1
 | c + 1 => if 0 ≤ T.getD c 0 ∧ (mnS T c < 0 ∨ T.getD c 0 + 1 < mnS T c) then T.getD c 0 + 1 else mnS T c
theorem mnS_spec (T : List Int) : ∀ c, (mnS T c = -1 ∧ ∀ i, i < c → T.getD i 0 < 0) ∨ ∃ i, i < c ∧ 0 ≤ T.getD i 0 ∧ mnS T c = T.getD i 0 + 1 ∧ ∀ j, j < c → 0 ≤ T.getD j 0 → T.getD i 0 ≤ T.getD j 0
 | 0 => .inl ⟨rfl, fun i hi => absurd hi (Nat.not_lt_zero _)⟩
 | c + 1 => by
  unfold mnS
  rcases mnS_spec T c with ⟨h1, h2⟩ | ⟨i, h1, h2, h3, h4⟩
  · by_cases h : 0 ≤ T.getD c 0
    · rw [if_pos ⟨h, .inl (by omega)⟩]
      refine .inr ⟨c, by omega, h, rfl, fun j hj hj0 => ?_⟩
      rcases Nat.lt_succ_iff_lt_or_eq.1 hj with hj' | rfl
      · have := h2 j hj'
        omega
      · exact Int.le_refl _
    · rw [if_neg (fun hh => h hh.1)]
      refine .inl ⟨h1, fun j hj => ?_⟩
      rcases Nat.lt_succ_iff_lt_or_eq.1 hj with hj' | rfl
      · exact h2 j hj'
      · omega
  · by_cases h : 0 ≤ T.getD c 0 ∧ T.getD c 0 + 1 < mnS T c
    · rw [if_pos ⟨h.1, .inr h.2⟩]
      refine .inr ⟨c, by omega, h.1, rfl, fun j hj hj0 => ?_⟩
      rcases Nat.lt_succ_iff_lt_or_eq.1 hj with hj' | rfl
      · have := h4 j hj' hj0
        omega
      · exact Int.le_refl _
    · rw [if_neg (fun hh => by
        rcases hh.2 with h5 | h5
        · omega
        · exact h ⟨hh.1, h5⟩)]
      refine .inr ⟨i, by omega, h2, h3, fun j hj hj0 => ?_⟩
      rcases Nat.lt_succ_iff_lt_or_eq.1 hj with hj' | rfl
      · exact h4 j hj' hj0
      · have : ¬ T.getD j 0 + 1 < mnS T j := fun h5 => h ⟨hj0, h5⟩
        omega
theorem mnS_bound (T : List Int) (B : Int) (hB : 0 ≤ B) (h : ∀ t ∈ T, -1 ≤ t ∧ t ≤ B) : ∀ c, c ≤ T.length → -1 ≤ mnS T c ∧ mnS T c ≤ B + 1 := by
  intro c hc
  rcases mnS_spec T c with ⟨h1, _⟩ | ⟨i, h1, h2, h3, _⟩
  · omega
  · have := h (T.getD i 0) (by rw [← getElem_getD T i 0 (by omega)]; exact List.getElem_mem _)
    omega
theorem lfIn_cons (T : List Int) (h : ∀ t ∈ T, -1 ≤ t ∧ t ≤ 100000) : ∀ c, c ≤ T.length → lfIn 0 ((-1) :: T) c = mnS T c :: T
 | 0, _ => rfl
 | c + 1, hc => by
  show lfStep 0 (0 + 1 + c) (lfIn 0 ((-1) :: T) c) = _
  rw [lfIn_cons T h c (by omega)]
  unfold lfStep
  have hb := mnS_bound T 100000 (by omega) h c (by omega)
  have ht := h (T.getD c 0) (by rw [← getElem_getD T c 0 (by omega)]; exact List.getElem_mem _)
  have e1 : rd (mnS T c :: T) ((0 + 1 + c : Nat) : Int) = T.getD c 0 := by
    unfold rd
    rw [Int.toNat_natCast, show 0 + 1 + c = c + 1 by omega]
    rfl
  have e2 : rd (mnS T c :: T) ((0 : Nat) : Int) = mnS T c := rfl
  rw [e1, e2, w64 (x := T.getD c 0 + 1) (by omega) (by omega)]
  conv => rhs; unfold mnS
  split
  · rfl
  · rfl
def hdL (r : ByteArray) (a : Int) : Nat → Int
 | 0 => 0
 | d + 1 => if d = 0 then 0 else if pl r (r.size + 1 - d) = true then mnS (lfT r a d) (lfC r.size a (r.size + 1 - d)) else -1
theorem hdL_succ (r : ByteArray) (a : Int) (d : Nat) (h : d ≠ 0) : hdL r a (d + 1) = if pl r (r.size + 1 - d) = true then mnS (lfT r a d) (lfC r.size a (r.size + 1 - d)) else -1 := if_neg h
theorem lfT_succ (r : ByteArray) (a : Int) (d : Nat) (h : d ≠ 0) : lfT r a (d + 1) = if pl r (r.size + 1 - d) = true then lfIn 0 ((-1) :: lfT r a d) (lfC r.size a (r.size + 1 - d)) else (-1) :: lfT r a d := if_neg h
theorem lfT_all (r : ByteArray) (a : Int) (hr : r.size ≤ 1000) : ∀ d, d ≤ r.size + 1 → lfT r a (d + 1) = hdL r a (d + 1) :: lfT r a d ∧ ∀ t ∈ lfT r a (d + 1), -1 ≤ t ∧ t ≤ (d : Int)
 | 0, _ => by
  refine ⟨rfl, fun t ht => ?_⟩
  have : t = 0 := by simpa [lfT] using ht
  omega
 | d + 1, hd => by
  obtain ⟨_, hb⟩ := lfT_all r a hr d (by omega)
  have hlen := lfT_len r a (d + 1)
  have e : lfT r a (d + 1 + 1) = hdL r a (d + 1 + 1) :: lfT r a (d + 1) := by
    rw [lfT_succ r a (d + 1) (by omega), hdL_succ r a (d + 1) (by omega)]
    split
    · have hc := lfC_le r.size a (r.size + 1 - (d + 1))
      exact lfIn_cons (lfT r a (d + 1)) (fun t ht => by have := hb t ht; omega) _ (by omega)
    · rfl
  refine ⟨e, fun t ht => ?_⟩
  rw [e] at ht
  rcases List.mem_cons.1 ht with rfl | ht
  · rw [hdL_succ r a (d + 1) (by omega)]
    split
    · have hc := lfC_le r.size a (r.size + 1 - (d + 1))
      have := mnS_bound (lfT r a (d + 1)) (d : Int) (by omega) hb (lfC r.size a (r.size + 1 - (d + 1))) (by omega)
      omega
    · omega
  · have := hb t ht
    omega
theorem lfT_getD (r : ByteArray) (a : Int) (hr : r.size ≤ 1000) : ∀ m j, j < m → m ≤ r.size + 2 → (lfT r a m).getD j 0 = hdL r a (m - j)
 | 0, j, h, _ => absurd h (Nat.not_lt_zero _)
 | m + 1, 0, _, hm => by
  rw [(lfT_all r a hr m (by omega)).1]
  rfl
 | m + 1, j + 1, h, hm => by
  rw [(lfT_all r a hr m (by omega)).1, show m + 1 - (j + 1) = m - j by omega]
  exact lfT_getD r a hr m j (by omega) (by omega)
def Lf (r : ByteArray) (a : Int) (p : Nat) : Int := (lfT r a (r.size + 2)).getD p 0
section
variable {r : ByteArray} {a : Int} (hr : r.size ≤ 1000)
theorem Lf_hd (hr : r.size ≤ 1000) (p : Nat) (hp : p ≤ r.size + 1) : Lf r a p = hdL r a (r.size + 2 - p) := lfT_getD r a hr _ p (by omega) (Nat.le_refl _)
theorem Lf_end (hr : r.size ≤ 1000) : Lf r a (r.size + 1) = 0 := by
  rw [Lf_hd hr _ (Nat.le_refl _), show r.size + 2 - (r.size + 1) = 1 by omega]
  rfl
theorem Lf_no (hr : r.size ≤ 1000) {p : Nat} (hp : p ≤ r.size) (h : pl r p = false) : Lf r a p = -1 := by
  rw [Lf_hd hr _ (by omega), show r.size + 2 - p = (r.size + 1 - p) + 1 by omega]
  rw [hdL_succ r a _ (by omega), show r.size + 1 - (r.size + 1 - p) = p by omega, if_neg (by rw [h]; exact Bool.false_ne_true)]
theorem Lf_some (hr : r.size ≤ 1000) {p : Nat} (hp : p ≤ r.size) (h : pl r p = true) : (Lf r a p = -1 ∧ ∀ q : Nat, p < q → q ≤ r.size + 1 → (q : Int) ≤ (p : Int) + a → Lf r a q < 0) ∨
    ∃ q : Nat, p < q ∧ q ≤ r.size + 1 ∧ (q : Int) ≤ (p : Int) + a ∧ 0 ≤ Lf r a q ∧ Lf r a p = Lf r a q + 1 ∧ ∀ q' : Nat, p < q' → q' ≤ r.size + 1 → (q' : Int) ≤ (p : Int) + a → 0 ≤ Lf r a q' → Lf r a q ≤ Lf r a q' := by
  have e : Lf r a p = mnS (lfT r a (r.size + 1 - p)) (lfC r.size a p) := by
    rw [Lf_hd hr _ (by omega), show r.size + 2 - p = (r.size + 1 - p) + 1 by omega]
    rw [hdL_succ r a _ (by omega), show r.size + 1 - (r.size + 1 - p) = p by omega, if_pos h]
  have hg : ∀ i, i < lfC r.size a p → (lfT r a (r.size + 1 - p)).getD i 0 = Lf r a (p + 1 + i) := by
    intro i hi
    have hc := lfC_le r.size a p
    rw [lfT_getD r a hr _ i (by omega) (by omega), Lf_hd hr _ (by omega), show r.size + 2 - (p + 1 + i) = r.size + 1 - p - i by omega]
  have hin : ∀ q : Nat, p < q → q ≤ r.size + 1 → (q : Int) ≤ (p : Int) + a → q - (p + 1) < lfC r.size a p := by
    intro q h1 h2 h3
    unfold lfC mn
    split <;> omega
  rcases mnS_spec (lfT r a (r.size + 1 - p)) (lfC r.size a p) with ⟨h1, h2⟩ | ⟨i, h1, h2, h3, h4⟩
  · refine .inl ⟨e.trans h1, fun q q1 q2 q3 => ?_⟩
    have hi := hin q q1 q2 q3
    have := h2 _ hi
    rw [hg _ hi, show p + 1 + (q - (p + 1)) = q by omega] at this
    exact this
  · have hl := lfC_lt r.size a p i h1
    refine .inr ⟨p + 1 + i, by omega, by omega, by omega, by rw [← hg i h1]; exact h2, by rw [e, h3, hg i h1], fun q q1 q2 q3 q4 => ?_⟩
    have hi := hin q q1 q2 q3
    have := h4 _ hi
    rw [hg _ hi, show p + 1 + (q - (p + 1)) = q by omega, hg i h1] at this
    exact this q4
theorem Lf_bound (hr : r.size ≤ 1000) (p : Nat) (hp : p ≤ r.size + 1) : -1 ≤ Lf r a p ∧ Lf r a p ≤ ((r.size + 1 : Nat) : Int) := by
  have h := (lfT_all r a hr (r.size + 1) (Nat.le_refl _)).2
  exact h _ (by unfold Lf; rw [← getElem_getD _ p 0 (by rw [lfT_len]; omega)]; exact List.getElem_mem _)
def wayN (r : ByteArray) (a : Int) : Nat → Nat → Prop
 | 0, p => p = r.size + 1
 | k + 1, p => p ≤ r.size ∧ pl r p = true ∧ ∃ q : Nat, p < q ∧ q ≤ r.size + 1 ∧ (q : Int) ≤ (p : Int) + a ∧ wayN r a k q
theorem Lf_way (hr : r.size ≤ 1000) : ∀ (d p : Nat), p + d = r.size + 1 → 0 ≤ Lf r a p → wayN r a (Lf r a p).toNat p := by
  intro d
  induction d using Nat.strongRecOn with
  | _ d ih =>
    intro p hp h0
    by_cases he : p = r.size + 1
    · subst he
      rw [Lf_end hr]
      rfl
    · have hpl : pl r p = true := by
        cases hb : pl r p with
        | true => rfl
        | false =>
          have := Lf_no (a := a) hr (by omega) hb
          omega
      rcases Lf_some (a := a) hr (by omega) hpl with ⟨h1, _⟩ | ⟨q, h1, h2, h3, h4, h5, _⟩
      · omega
      · rw [show (Lf r a p).toNat = (Lf r a q).toNat + 1 by omega]
        exact ⟨by omega, hpl, q, h1, h2, h3, ih (r.size + 1 - q) (by omega) q (by omega) h4⟩
theorem way_Lf (hr : r.size ≤ 1000) : ∀ (k p : Nat), wayN r a k p → 0 ≤ Lf r a p ∧ Lf r a p ≤ (k : Int)
 | 0, p, h => by
  have h' : p = r.size + 1 := h
  subst h'
  rw [Lf_end hr]
  omega
 | k + 1, p, h => by
  obtain ⟨h1, h2, q, h3, h4, h5, h6⟩ := h
  obtain ⟨h7, h8⟩ := way_Lf hr k q h6
  rcases Lf_some (a := a) hr h1 h2 with ⟨_, h9⟩ | ⟨q', g1, g2, g3, g4, g5, g6⟩
  · have := h9 q h3 h4 h5
    omega
  · have := g6 q h3 h4 h5 h7
    omega
end
def inB (a l h : Int) : Bool := decide (l ≤ a) && decide (a ≤ h)
theorem within_eq (a l h : Int) : impl_within.f a l h = some (inB a l h) := by
  unfold impl_within.f inB
  by_cases c : l ≤ a <;> simp [c]
theorem l1In_eq (a l h : Int) : spec_l1In.f a l h = some (inB a l h) := by
  unfold spec_l1In.f inB
  by_cases c : l ≤ a
  · rw [if_pos (by omega)]; simp [c]
  · rw [if_neg (by omega)]; simp [c]
def rvSign (b : UInt8) : Bool := b == 111 || b == 46
def goodL (r : ByteArray) : Bool := inB (r.size : Int) 1 40 && r.data.toList.all rvSign
theorem trimS_nil (l cs : List UInt8) : Lib.trimS l cs = [] ↔ ∀ b ∈ l, cs.contains b = true := by
  have hd : ∀ l : List UInt8, l.dropWhile (cs.contains ·) = [] ↔ ∀ b ∈ l, cs.contains b = true := by
    intro l
    induction l with
    | nil => simp
    | cons a l ih =>
      by_cases h : cs.contains a = true
      · rw [List.dropWhile_cons_of_pos h, ih]
        exact ⟨(fun hl b hb => (List.mem_cons.1 hb).elim (fun e => by rw [e]; exact h) (fun hb => hl b hb)), fun hl b hb => hl b (List.mem_cons_of_mem _ hb)⟩
      · rw [List.dropWhile_cons_of_neg h]
        exact ⟨(fun hl => by cases hl), fun hl => absurd (hl a (List.mem_cons_self ..)) h⟩
  unfold Lib.trimS Lib.trimLeftS Lib.trimRightS
  rw [hd]
  constructor
  · intro h
    by_cases he : l.reverse.dropWhile (cs.contains ·) = []
    · exact fun b hb => (hd _).1 he b (List.mem_reverse.2 hb)
    · exfalso
      have h1 := List.head_mem he
      have h2 := List.head_dropWhile_not (cs.contains ·) he
      have h3 := h _ (List.mem_reverse.2 h1)
      rw [h3] at h2
      cases h2
  · intro h b hb
    have hb2 := List.mem_reverse.1 hb
    exact h b (List.mem_reverse.1 ((List.dropWhile_sublist _).subset hb2))
theorem sign_contains (b : UInt8) : [111, 46].contains b = rvSign b := by
  unfold rvSign
  simp [List.contains_cons]
  rfl
theorem IsRiver_eq (r : ByteArray) (h : r.size ≤ 9223372036854775807) : impl_IsRiver.f r = some (goodL r) := by
  unfold impl_IsRiver.f goodL
  rw [within_eq]
  simp only [Option.bind_some]
  cases inB (r.size : Int) 1 40 with
  | false => rfl
  | true =>
    rw [if_pos rfl, Bool.true_and]
    unfold strings_Trim.f
    rw [if_pos ⟨h, by decide, by decide⟩]
    simp only [Option.bind_some, Option.some.injEq]
    have hl : (⟨(Lib.trimS r.data.toList (⟨#[111, 46]⟩ : ByteArray).data.toList).toArray⟩ : ByteArray).toList = Lib.trimS r.data.toList [111, 46] := by
      rw [ByteArray.toList_eq]
    rw [hl, Bool.eq_iff_iff, beq_iff_eq, trimS_nil, List.all_eq_true]
    exact ⟨fun h b hb => by rw [← sign_contains]; exact h b hb, fun h b hb => by rw [sign_contains]; exact h b hb⟩
theorem bt_drop (r : ByteArray) (i : Nat) (h : i < r.size) : ∃ b : UInt8, bt r (i : Int) = (b.toNat : Int) ∧ r.data.toList.drop i = b :: r.data.toList.drop (i + 1) := by
  refine ⟨r[i], ?_, ?_⟩
  · unfold bt
    rw [dif_pos (by rw [Int.toNat_natCast]; exact h)]
    congr 1
  · rw [List.drop_eq_getElem_cons (by rw [data_length]; exact h)]
    rfl
theorem sign_num (b : UInt8) : rvSign b = (decide ((b.toNat : Int) = 111) || decide ((b.toNat : Int) = 46)) := by
  unfold rvSign
  have h : ∀ c : UInt8, (b == c) = decide ((b.toNat : Int) = (c.toNat : Int)) := by
    intro c
    rw [Bool.eq_iff_iff, beq_iff_eq, decide_eq_true_eq, ← UInt8.toNat_inj]
    omega
  rw [h 111, h 46]
  rfl
theorem rvGood_l0 (r : ByteArray) (hr : r.size ≤ 100) (e : Nat) : ∀ i : Nat, i + e = r.size → Ev (fun k => spec_rvGood.l0 k r (i : Int)) ((r.data.toList.drop i).all rvSign) := by
  induction e with
  | zero =>
    intro i hi
    refine Ev.step (fun k => by rw [spec_rvGood.l0]) ?_
    refine evNeg (by omega) (evSome ?_)
    rw [List.drop_of_length_le (by rw [data_length]; omega)]
    rfl
  | succ e ih =>
    intro i hi
    refine Ev.step (fun k => by rw [spec_rvGood.l0]) ?_
    obtain ⟨b, hb, hd⟩ := bt_drop r i (by omega)
    rw [hb, hd, List.all_cons, sign_num, show wrap64 ((i : Int) + 1) = ((i + 1 : Nat) : Int) from (w64 (by omega) (by omega)).trans (by omega)]
    refine evPos (by omega) (evPos (by omega) (evSplit (fun c => ?_) (fun c => evSplit (fun c2 => ?_) (fun c2 => ?_))))
    · rw [decide_eq_true c]
      simpa using ih (i + 1) (by omega)
    · rw [decide_eq_true c2, Bool.or_true]
      simpa using ih (i + 1) (by omega)
    · rw [decide_eq_false c, decide_eq_false c2]
      exact evSome rfl
theorem rvGood_ev (r : ByteArray) : Ev (fun k => spec_rvGood.f k r) (goodL r) := by
  unfold spec_rvGood.f goodL
  refine evBind0 (l1In_eq _ _ _) ?_
  cases hi : inB (r.size : Int) 1 40 with
  | false => exact evNeg (by simp) (evSome rfl)
  | true =>
    have hr : r.size ≤ 100 := by
      unfold inB at hi
      simp only [Bool.and_eq_true, decide_eq_true_eq] at hi
      omega
    have h := rvGood_l0 r hr r.size 0 (Nat.zero_add _)
    rw [List.drop_zero] at h
    exact evPos rfl (by simpa using h)
theorem goodL_len (r : ByteArray) (h : goodL r = true) : 1 ≤ r.size ∧ r.size ≤ 40 := by
  unfold goodL inB at h
  simp only [Bool.and_eq_true, decide_eq_true_eq] at h
  omega
theorem first_find (P : Nat → Bool) : ∀ (n s q : Nat), s ≤ q → q < s + n → P q = true → ∃ x, (List.range' s n).find? P = some x ∧ s ≤ x ∧ x ≤ q ∧ P x = true ∧ ∀ j, s ≤ j → j < x → P j = false
 | 0, s, q, h1, h2, _ => by omega
 | n + 1, s, q, h1, h2, h3 => by
  rw [List.range'_succ]
  cases hs : P s with
  | true => exact ⟨s, by simp [List.find?, hs], Nat.le_refl _, h1, hs, fun j h4 h5 => by omega⟩
  | false =>
    have hne : s ≠ q := fun e => by rw [e, h3] at hs; cases hs
    obtain ⟨x, e, h4, h5, h6, h7⟩ := first_find P n (s + 1) q (by omega) (by omega) h3
    refine ⟨x, by rw [List.find?_cons_of_neg (by rw [hs]; exact Bool.false_ne_true)]; exact e, by omega, h5, h6, fun j h8 h9 => ?_⟩
    by_cases hj : j = s
    · rw [hj]; exact hs
    · exact h7 j (by omega) h9
def nxP (r : ByteArray) (a : Int) (m p : Nat) : Nat := ((List.range' (p + 1) (r.size + 1 - p)).find? fun q => Lf r a q == (m : Int)).getD 0
theorem nxP_ok {r : ByteArray} {a : Int} (hr : r.size ≤ 1000) {m p : Nat} (hp : p ≤ r.size + 1) (h : Lf r a p = ((m + 1 : Nat) : Int)) : p < nxP r a m p ∧ nxP r a m p ≤ r.size + 1 ∧ ((nxP r a m p : Nat) : Int) ≤ (p : Int) + a ∧ Lf r a (nxP r a m p) = (m : Int) ∧ ∀ j, p < j → j < nxP r a m p → Lf r a j ≠ (m : Int) := by
  have hpe : p ≠ r.size + 1 := fun e => by rw [e, Lf_end hr] at h; omega
  have hpl : pl r p = true := by
    cases hb : pl r p with
    | true => rfl
    | false =>
      have := Lf_no (a := a) hr (by omega) hb
      omega
  rcases Lf_some (a := a) hr (by omega) hpl with ⟨h1, _⟩ | ⟨q, h1, h2, h3, h4, h5, _⟩
  · omega
  · obtain ⟨x, e, x1, x2, x3, x4⟩ := first_find (fun q => Lf r a q == (m : Int)) (r.size + 1 - p) (p + 1) q (by omega) (by omega) (by rw [beq_iff_eq]; omega)
    have hx : nxP r a m p = x := by unfold nxP; rw [e]; rfl
    rw [hx]
    refine ⟨by omega, by omega, by omega, by simpa using x3, fun j j1 j2 => ?_⟩
    have := x4 j (by omega) j2
    simpa using this
def wayL (r : ByteArray) (a : Int) : Nat → Nat → List Nat
 | 0, _ => []
 | m + 1, p => nxP r a m p :: wayL r a m (nxP r a m p)
theorem wayL_len (r : ByteArray) (a : Int) : ∀ m p, (wayL r a m p).length = m
 | 0, _ => rfl
 | m + 1, p => by rw [wayL, List.length_cons, wayL_len r a m]
theorem rdLf (r : ByteArray) (a : Int) (p : Nat) : rd (lfT r a (r.size + 2)) (p : Int) = Lf r a p := by unfold rd Lf; rw [Int.toNat_natCast]
theorem i1r (x : Nat) (h : x ≤ 100000) : wrap64 ((x : Int) + 1) = ((x + 1 : Nat) : Int) := (w64 (by omega) (by omega)).trans (by omega)
def askB (r : ByteArray) (a : Int) : Bool := goodL r && inB a 1 50
theorem ask_impl (r : ByteArray) (a : Int) (h : r.size ≤ 1000000) : impl_isCrossed.f r a = some (askB r a) := by
  unfold impl_isCrossed.f askB
  rw [IsRiver_eq r (by omega)]
  simp only [Option.bind_some]
  cases goodL r with
  | false => rfl
  | true => rw [if_pos rfl, within_eq]; rfl
theorem ask_spec (r : ByteArray) (a : Int) : Ev (fun k => spec_rvAsked.f k r a) (askB r a) := by
  unfold spec_rvAsked.f askB
  refine Ev.bind (rvGood_ev r) ?_
  cases goodL r with
  | false => exact evNeg (by simp) (evSome rfl)
  | true => exact evPos rfl (evBind0 (l1In_eq _ _ _) (evSome rfl))
theorem askB_facts {r : ByteArray} {a : Int} (h : askB r a = true) : goodL r = true ∧ 1 ≤ r.size ∧ r.size ≤ 40 ∧ 1 ≤ a ∧ a ≤ 50 := by
  unfold askB inB at h
  simp only [Bool.and_eq_true, decide_eq_true_eq] at h
  have := goodL_len r h.1
  exact ⟨h.1, by omega, by omega, by omega, by omega⟩
def canB (r : ByteArray) (a : Int) : Bool := decide (0 ≤ Lf r a 0)
theorem can_impl {r : ByteArray} {a : Int} (h : askB r a = true) : Ev (fun k => impl_canCross.f k r a) (canB r a) := by
  obtain ⟨_, h1, h2, h3, h4⟩ := askB_facts h
  unfold impl_canCross.f
  refine Ev.bind (leapsLeft_ev r (by omega) a (by omega) (by omega)) (evPos (by rw [lfT_len]; omega) (evSome ?_))
  have := rdLf r a 0
  unfold canB
  rw [← this]
  rfl
theorem can_spec {r : ByteArray} {a : Int} (h : askB r a = true) : Ev (fun k => spec_rvCan.f k r a) (canB r a) := by
  obtain ⟨_, h1, h2, h3, h4⟩ := askB_facts h
  unfold spec_rvCan.f
  refine Ev.bind (rvLeft_ev r (by omega) a (by omega) (by omega)) (evPos (by rw [lfT_len]; omega) (evSome ?_))
  have := rdLf r a 0
  unfold canB
  rw [← this]
  rfl
def farN (r : ByteArray) (a : Nat) : Nat → Nat
 | 0 => 0
 | p + 1 => if pl r (p + 1) = true ∧ p + 1 - farN r a p ≤ a then p + 1 else farN r a p
theorem farN_succ (r : ByteArray) (a p : Nat) : farN r a (p + 1) = if pl r (p + 1) = true ∧ p + 1 - farN r a p ≤ a then p + 1 else farN r a p := rfl
theorem farN_le (r : ByteArray) (a : Nat) : ∀ p, farN r a p ≤ p
 | 0 => Nat.le_refl _
 | p + 1 => by
  unfold farN
  have := farN_le r a p
  split <;> omega
theorem farN_mono (r : ByteArray) (a : Nat) (p : Nat) : ∀ d, farN r a p ≤ farN r a (p + d)
 | 0 => Nat.le_refl _
 | d + 1 => by
  have h1 := farN_mono r a p d
  have h2 := farN_le r a (p + d)
  show farN r a p ≤ farN r a (p + d + 1)
  rw [farN_succ]
  split <;> omega
theorem farN_idem (r : ByteArray) (a : Nat) : ∀ p, farN r a (farN r a p) = farN r a p
 | 0 => rfl
 | p + 1 => by
  by_cases h : pl r (p + 1) = true ∧ p + 1 - farN r a p ≤ a
  · have e : farN r a (p + 1) = p + 1 := if_pos h
    rw [e, e]
  · have e : farN r a (p + 1) = farN r a p := if_neg h
    rw [e]
    exact farN_idem r a p
theorem farN_pl (r : ByteArray) (a : Nat) {p : Nat} (h : farN r a p = p) : pl r p = true := by
  cases p with
  | zero => simp [pl]
  | succ p =>
    by_cases h2 : pl r (p + 1) = true ∧ p + 1 - farN r a p ≤ a
    · exact h2.1
    · have e : farN r a (p + 1) = farN r a p := if_neg h2
      have := farN_le r a p
      omega
theorem farN_hit {r : ByteArray} {a p q : Nat} (hp : farN r a p = p) (hpq : p < q) (hqa : q ≤ p + a) (hq : pl r q = true) : farN r a q = q := by
  obtain ⟨d, rfl⟩ : ∃ d, q = p + d + 1 := ⟨q - p - 1, by omega⟩
  have := farN_mono r a p d
  exact if_pos ⟨hq, by omega⟩
theorem way_pl {r : ByteArray} {a : Int} : ∀ {k q : Nat}, wayN r a k q → pl r q = true
 | 0, q, h => by
  have h' : q = r.size + 1 := h
  subst h'
  simp [pl]
 | _ + 1, _, h => h.2.1
theorem way_far {r : ByteArray} {a : Nat} : ∀ (k p : Nat), wayN r (a : Int) k p → farN r a p = p → farN r a (r.size + 1) = r.size + 1
 | 0, p, h, hp => by
  have h' : p = r.size + 1 := h
  subst h'
  exact hp
 | k + 1, p, h, hp => by
  obtain ⟨h1, h2, q, h3, h4, h5, h6⟩ := h
  exact way_far k q h6 (farN_hit hp h3 (by omega) (way_pl h6))
theorem far_way {r : ByteArray} {a : Nat} : ∀ (q k : Nat), q ≤ r.size + 1 → farN r a q = q → wayN r (a : Int) k q → ∃ k', wayN r (a : Int) k' 0 := by
  intro q
  induction q using Nat.strongRecOn with
  | _ q ih =>
    intro k hq hf hw
    cases q with
    | zero => exact ⟨k, hw⟩
    | succ q =>
      have h2 : pl r (q + 1) = true ∧ q + 1 - farN r a q ≤ a := by
        by_cases h2 : pl r (q + 1) = true ∧ q + 1 - farN r a q ≤ a
        · exact h2
        · have e : farN r a (q + 1) = farN r a q := if_neg h2
          have := farN_le r a q
          omega
      have hle := farN_le r a q
      have hid := farN_idem r a q
      exact ih (farN r a q) (by omega) (k + 1) (by omega) hid ⟨by omega, farN_pl r a hid, q + 1, by omega, hq, by omega, hw⟩
theorem can_far {r : ByteArray} (hr : r.size ≤ 1000) (a : Nat) : 0 ≤ Lf r (a : Int) 0 ↔ farN r a (r.size + 1) = r.size + 1 := by
  constructor
  · intro h
    exact way_far _ 0 (Lf_way hr (r.size + 1) 0 (by omega) h) rfl
  · intro h
    obtain ⟨k, hk⟩ := far_way (r.size + 1) 0 (Nat.le_refl _) h (show r.size + 1 = r.size + 1 from rfl)
    exact (way_Lf hr k 0 hk).1
def lastS (r : ByteArray) : Nat → Nat
 | 0 => 0
 | p + 1 => if pl r (p + 1) = true then p + 1 else lastS r p
theorem lastS_succ (r : ByteArray) (p : Nat) : lastS r (p + 1) = if pl r (p + 1) = true then p + 1 else lastS r p := rfl
theorem lastS_le (r : ByteArray) : ∀ p, lastS r p ≤ p
 | 0 => Nat.le_refl _
 | p + 1 => by
  unfold lastS
  have := lastS_le r p
  split <;> omega
theorem far_stuck (r : ByteArray) (a : Nat) (p : Nat) (h : a < lastS r p - farN r a p) : ∀ d, a < lastS r (p + d) - farN r a (p + d)
 | 0 => h
 | d + 1 => by
  have h1 := far_stuck r a p h d
  have h2 := lastS_le r (p + d)
  have h3 := farN_le r a (p + d)
  show a < lastS r (p + d + 1) - farN r a (p + d + 1)
  rw [farN_succ, lastS_succ]
  cases hp : pl r (p + d + 1) with
  | false =>
    rw [if_neg (by exact Bool.false_ne_true), if_neg (fun h => Bool.false_ne_true h.1)]
    exact h1
  | true =>
    rw [if_pos rfl, if_neg (fun hh => by have := hh.2; omega)]
    omega
theorem gapOf_ge : ∀ (L : List Nat) (m f : Int) (l : Nat), m ≤ (gapOf m f l L).1
 | [], m, f, l => Int.le_refl _
 | p :: t, m, f, l => by
  unfold gapOf
  split
  · have := gapOf_ge t ((p : Int) - (l : Int)) (l : Int) p
    omega
  · exact gapOf_ge t m f p
theorem gap_far (r : ByteArray) (a : Nat) : ∀ (d s : Nat) (m f : Int), farN r a s = lastS r s → ((gapOf m f (lastS r s) ((List.range' (s + 1) d).filter (pl r))).1 ≤ (a : Int) ↔ m ≤ (a : Int) ∧ farN r a (s + d) = lastS r (s + d))
 | 0, s, m, f, h => by
  show m ≤ (a : Int) ↔ _
  exact ⟨fun hm => ⟨hm, h⟩, fun hm => hm.1⟩
 | d + 1, s, m, f, h => by
  rw [List.range'_succ]
  have h2 := lastS_le r s
  cases hp : pl r (s + 1) with
  | false =>
    rw [List.filter_cons_of_neg (by rw [hp]; exact Bool.false_ne_true)]
    have e1 : farN r a (s + 1) = farN r a s := if_neg (fun hh => by rw [hp] at hh; exact Bool.false_ne_true hh.1)
    have e2 : lastS r (s + 1) = lastS r s := if_neg (by rw [hp]; exact Bool.false_ne_true)
    have := gap_far r a d (s + 1) m f (by rw [e1, e2, h])
    rw [e2, show s + 1 + d = s + (d + 1) by omega] at this
    exact this
  | true =>
    rw [List.filter_cons_of_pos hp]
    have e2 : lastS r (s + 1) = s + 1 := if_pos hp
    unfold gapOf
    by_cases hg : s + 1 - lastS r s ≤ a
    · have e1 : farN r a (s + 1) = s + 1 := if_pos ⟨hp, by rw [h]; exact hg⟩
      have hn : ∀ m f, ((gapOf m f (s + 1) ((List.range' (s + 1 + 1) d).filter (pl r))).1 ≤ (a : Int) ↔ m ≤ (a : Int) ∧ farN r a (s + (d + 1)) = lastS r (s + (d + 1))) := fun m f => by
        have := gap_far r a d (s + 1) m f (by rw [e1, e2])
        rw [e2, show s + 1 + d = s + (d + 1) by omega] at this
        exact this
      split
      · rw [hn]
        constructor
        · rintro ⟨_, q⟩
          exact ⟨by omega, q⟩
        · rintro ⟨_, q⟩
          exact ⟨by omega, q⟩
      · exact hn m f
    · have e1 : farN r a (s + 1) = lastS r s := by
        rw [← h]
        exact if_neg (fun hh => hg (by rw [← h]; exact hh.2))
      have hst := far_stuck r a (s + 1) (by rw [e1, e2]; omega) d
      rw [show s + 1 + d = s + (d + 1) by omega] at hst
      constructor
      · intro hle
        exfalso
        split at hle
        · have := gapOf_ge ((List.range' (s + 1 + 1) d).filter (pl r)) (((s + 1 : Nat) : Int) - ((lastS r s : Nat) : Int)) ((lastS r s : Nat) : Int) (s + 1)
          omega
        · rename_i hm
          have := gapOf_ge ((List.range' (s + 1 + 1) d).filter (pl r)) m f (s + 1)
          omega
      · rintro ⟨_, q⟩
        exfalso
        omega
theorem last_end (r : ByteArray) : lastS r (r.size + 1) = r.size + 1 := if_pos (by simp [pl])
theorem gap_can {r : ByteArray} (hr : r.size ≤ 1000) (a : Nat) : (gapOf 0 0 0 ((List.range' 1 (r.size + 1)).filter (pl r))).1 ≤ (a : Int) ↔ 0 ≤ Lf r (a : Int) 0 := by
  have := gap_far r a (r.size + 1) 0 0 0 rfl
  rw [Nat.zero_add, Nat.zero_add, last_end] at this
  rw [can_far hr]
  exact this.trans ⟨fun h => h.2, fun h => ⟨by omega, h⟩⟩
def fw (r : ByteArray) (a : Int) : Nat → Nat → Prop
 | 0, q => q = 0
 | k + 1, q => 1 ≤ q ∧ pl r q = true ∧ ∃ p : Nat, p < q ∧ (q : Int) ≤ (p : Int) + a ∧ fw r a k p
theorem fw_way {r : ByteArray} {a : Int} : ∀ (k m q : Nat), q ≤ r.size + 1 → fw r a k q → wayN r a m q → wayN r a (k + m) 0
 | 0, m, q, _, h, hm => by
  obtain rfl : q = 0 := h
  rw [Nat.zero_add]
  exact hm
 | k + 1, m, q, hq, h, hm => by
  obtain ⟨_, hpl, p, h2, h3, h4⟩ := h
  have hp : pl r p = true := by
    cases k with
    | zero =>
      obtain rfl : p = 0 := h4
      simp [pl]
    | succ k => exact h4.2.1
  have := fw_way k (m + 1) p (by omega) h4 ⟨by omega, hp, q, h2, hq, h3, hm⟩
  rw [show k + (m + 1) = k + 1 + m by omega] at this
  exact this
theorem way_fw {r : ByteArray} {a : Int} : ∀ (m k q : Nat), fw r a k q → wayN r a m q → fw r a (k + m) (r.size + 1)
 | 0, k, q, h, hm => by
  obtain rfl : q = r.size + 1 := hm
  exact h
 | m + 1, k, q, h, hm => by
  obtain ⟨h1, h2, p, h3, h4, h5, h6⟩ := hm
  have hp : pl r p = true := by
    cases m with
    | zero =>
      obtain rfl : p = r.size + 1 := h6
      simp [pl]
    | succ m => exact h6.2.1
  have := way_fw m (k + 1) p ⟨by omega, hp, q, h3, h5, h⟩ h6
  rw [show k + 1 + m = k + (m + 1) by omega] at this
  exact this
end Go.Proofs.YtfoflpomfmbjoaaDoor.X
end
