import Derived.Test.YtkokbcnecnpgcaaP4
import Derived.Test.YtkokbcnecnpgcaaP5
import Derived.Test.YtkokbcnecnpgcaaP6
import Derived.Test.YtkokbcnecnpgcaaP7
import Derived.Test.YtkokbcnecnpgcaaP8
import Derived.Test.YtkokbcnecnpgcaaP9
import Derived.Test.YtkokbcnecnpgcaaP10
import Derived.Test.YtkokbcnecnpgcaaP11
import Derived.Test.YtkokbcnecnpgcaaP14
import Derived.Laws.BitsLemmas
import Derived.Laws.Bits64
section
namespace Go.Proofs.Ytkokbcnecnpgcaa.X
open Go.Proofs.Ytkokbcnecnpgcaa.Sq Go.RowKit Go.Proofs.YtkokbcnecnpgcaaW.PrintWords Go.Proofs.YtkokbcnecnpgcaaW.PrintLast Go.Proofs.YtkokbcnecnpgcaaW.PrintMore
attribute [local go_sem] max2_int min2_int max_two min_two max_three min_three max_four min_four   -- for this text's walks alone
set_option linter.unusedVariables false
set_option linter.unusedSimpArgs false
set_option maxHeartbeats 8000000 in
set_option maxRecDepth 100000 in
theorem laws_FnPlanksLean.calls (k : Nat) (A0 : Option Addr) (c0 : Nat) (l0 : List Int) (A1 : Option Addr) (c1 : Nat) (l1 : List Int) (r : Bool) (w : World) (hr0 : Kd.C (Kd.int .u8) w A0 l0.length l0) (hc0 : l0.length ≤ c0) (hr1 : Kd.C (Kd.int .u8) w A1 l1.length l1) (hc1 : l1.length ≤ c1) (h : laws_FnPlanksLean.f k l0 l1 = some r) :
  Calls Try.prog 3 #[.slice A0 l0.length c0, .slice A1 l1.length c1] w fun e w' => e = .returned (.bool r) ∧ Below w.heap.size w w' := by
 have HR0 := am hr0; have HC0 := am hc0; clear hr0 hc0; have HR1 := am hr1; have HC1 := am hc1; clear hr1 hc1
 have HB := am (Below.refl w.heap.size w)
 have H : ((laws_big.f l0 l1).bind fun t347 => (if t347 = true then (some true) else ((spec_DrawWholeLeans.f l0).bind fun t366 => ((impl_WholeLeans.f k t366).bind fun bt367 => ((spec_WholeLeans.f k t366).bind fun bt371 => (if (bt367.2 != bt371.2) = true then (none) else ((laws_kRows.f k bt367.1 bt371.1).bind fun t375 => (if t375 = true then (if bt367.2 = true then (laws_FnPlanksLean.l0 k l1 t366 bt367.1 bt367.1 (bt367.1.length : Int) 0) else (laws_FnPlanksLean.j2 k l1)) else (none))))))))) = some r := h
 clear h; replace H := Option.bind_eq_some_iff.mp H; obtain ⟨t347, A30, H⟩ := H; (try dsimp only at H); have A3 := am A30; clear A30
 by_cases c4 : t347 = true
 ·subst c4
  rw [if_pos rfl] at H
  (try dsimp only at H)
  obtain rfl := Option.some.inj H
  go_enter Try.func3, Try.ntmps3
  (try dsimp only [List.append])
  go_wp2_with (first | (go_at_call 4; (with_reducible refine (laws_big.calls _ _ l0 _ _ l1 true _ ?side1 ?side2 ?side3 ?side4 A3.out).mono ?_); (case side1 => repeat (first | exact HR0.out | (with_reducible refine Kd.C_alloc ?_ _) | (with_reducible refine Kd.C_drewN ?_ _) | (with_reducible refine Kd.C_drew ?_))); (case side2 => exact HC0.out); (case side3 => repeat (first | exact HR1.out | (with_reducible refine Kd.C_alloc ?_ _) | (with_reducible refine Kd.C_drewN ?_ _) | (with_reducible refine Kd.C_drew ?_))); (case side4 => exact HC1.out); rintro e w' ⟨rfl, ⟨nd, rfl⟩⟩; (try first | exact ⟨rfl, _, World.drewN_drewN _ _ _⟩ | exact ⟨rfl, _, Eq.trans (World.drewN_drewN _ _ _) (congrArg (World.drewN _) (Nat.add_assoc _ _ _))⟩)))
  repeat (go_quiet (first | (go_at_call 4; (with_reducible refine (laws_big.calls _ _ l0 _ _ l1 true _ ?side1 ?side2 ?side3 ?side4 A3.out).mono ?_); (case side1 => repeat (first | exact HR0.out | (with_reducible refine Kd.C_alloc ?_ _) | (with_reducible refine Kd.C_drewN ?_ _) | (with_reducible refine Kd.C_drew ?_))); (case side2 => exact HC0.out); (case side3 => repeat (first | exact HR1.out | (with_reducible refine Kd.C_alloc ?_ _) | (with_reducible refine Kd.C_drewN ?_ _) | (with_reducible refine Kd.C_drew ?_))); (case side4 => exact HC1.out); rintro e w' ⟨rfl, ⟨nd, rfl⟩⟩; (try first | exact ⟨rfl, _, World.drewN_drewN _ _ _⟩ | exact ⟨rfl, _, Eq.trans (World.drewN_drewN _ _ _) (congrArg (World.drewN _) (Nat.add_assoc _ _ _))⟩))); try go_wp2_with (first | (go_at_call 4; (with_reducible refine (laws_big.calls _ _ l0 _ _ l1 true _ ?side1 ?side2 ?side3 ?side4 A3.out).mono ?_); (case side1 => repeat (first | exact HR0.out | (with_reducible refine Kd.C_alloc ?_ _) | (with_reducible refine Kd.C_drewN ?_ _) | (with_reducible refine Kd.C_drew ?_))); (case side2 => exact HC0.out); (case side3 => repeat (first | exact HR1.out | (with_reducible refine Kd.C_alloc ?_ _) | (with_reducible refine Kd.C_drewN ?_ _) | (with_reducible refine Kd.C_drew ?_))); (case side4 => exact HC1.out); rintro e w' ⟨rfl, ⟨nd, rfl⟩⟩; (try first | exact ⟨rfl, _, World.drewN_drewN _ _ _⟩ | exact ⟨rfl, _, Eq.trans (World.drewN_drewN _ _ _) (congrArg (World.drewN _) (Nat.add_assoc _ _ _))⟩))))
  go_ret
  exact ⟨by first | rfl | (simp [errW_none, errW_some] <;> rfl) | (simp [*, errW_none, errW_some] <;> rfl), hbS HB.out⟩
 ·replace c4 := Bool.eq_false_iff.mpr c4
  subst c4
  rw [if_neg (show ¬ (false = true) by decide)] at H
  (try dsimp only at H); replace H := Option.bind_eq_some_iff.mp H; obtain ⟨t366, A50, H⟩ := H; (try dsimp only at H); have A5 := am A50; clear A50; replace H := Option.bind_eq_some_iff.mp H; obtain ⟨⟨t367, t370⟩, A60, H⟩ := H; (try dsimp only at H); have A6 := am A60; clear A60; replace H := Option.bind_eq_some_iff.mp H; obtain ⟨⟨t371, t372⟩, A70, H⟩ := H; (try dsimp only at H); have A7 := am A70; clear A70; obtain ⟨c8, H⟩ := itN H
  have c8b0 : (t370 != t372) = false := by simpa using c8
  (try (have c8b1 : decide (t370 = t372) = true := by simpa using c8))
  (try (have c8b2 : (t370 == t372) = true := by simpa using c8))
  clear c8; replace H := Option.bind_eq_some_iff.mp H; obtain ⟨t375, A90, H⟩ := H; (try dsimp only at H); have A9 := am A90; clear A90
  by_cases c10 : t375 = true
  ·subst c10
   rw [if_pos rfl] at H
   (try dsimp only at H); have HC11 := am H; clear H
   go_enter Try.func3, Try.ntmps3
   (try dsimp only [List.append])
   try go_wp2_with (first | (go_at_call 4; (with_reducible refine (laws_big.calls _ _ l0 _ _ l1 false _ ?side1 ?side2 ?side3 ?side4 A3.out).mono ?_); (case side1 => repeat (first | exact HR0.out | (with_reducible refine Kd.C_alloc ?_ _) | (with_reducible refine Kd.C_drewN ?_ _) | (with_reducible refine Kd.C_drew ?_))); (case side2 => exact HC0.out); (case side3 => repeat (first | exact HR1.out | (with_reducible refine Kd.C_alloc ?_ _) | (with_reducible refine Kd.C_drewN ?_ _) | (with_reducible refine Kd.C_drew ?_))); (case side4 => exact HC1.out); rintro e w' ⟨rfl, ⟨nd, rfl⟩⟩; (try first | exact ⟨rfl, _, World.drewN_drewN _ _ _⟩ | exact ⟨rfl, _, Eq.trans (World.drewN_drewN _ _ _) (congrArg (World.drewN _) (Nat.add_assoc _ _ _))⟩)) | fail)
   try go_wp2_with (first | (go_at_call 5; (with_reducible refine (spec_DrawWholeLeans.calls _ _ l0 t366 _ ?side1 ?side2 A5.out).mono ?_); (case side1 => repeat (first | exact HR0.out | (with_reducible refine Kd.C_alloc ?_ _) | (with_reducible refine Kd.C_drewN ?_ _) | (with_reducible refine Kd.C_drew ?_))); (case side2 => exact HC0.out); rintro e w12 ⟨rfl, hb⟩; have n0_ := am (below_step (hbS HB.out) hb); clear HB; have HB := n0_; clear n0_; (try clear hb); (try clear hb2); (try clear hk); (try clear hi)) | fail)
   try go_wp2_with (first | (go_at_call 6; (with_reducible refine (impl_WholeLeans.calls k t366 t367 t370 _ A6.out).mono ?_); rintro e w13 ⟨v368, rfl, ho0, hb⟩; have n0_ := am (Kd.N_lower (Kd.N_mono (ok' := fun k_ => True) ho0 (fun k_ hk_ => trivial)) (below_size (hbS HB.out))); have n1_ := am (below_step (hbS HB.out) hb); clear HB; have HO369 := n0_; have HB := n1_; clear n0_ n1_; (try clear hb); (try clear hb2); (try clear hk); (try clear hi); (try clear ho0)) | fail)
   try go_wp2_with (first | (go_at_call 7; (with_reducible refine (spec_WholeLeans.calls k t366 t371 t372 _ A7.out).mono ?_); rintro e w14 ⟨v373, rfl, ho0, hb⟩; have n0_ := am (Kd.N_elder' (by (with_reducible repeat (first | apply Kd.N_alloc | apply Kd.N_drewN | apply Kd.N_drew)); exact HO369.out) (by first | exact Kd.N_base ho0 | exact Kd.S_base ho0 | exact Kd.R_base ho0) hb); have n1_ := am (Kd.N_lower (Kd.N_mono (ok' := fun k_ => some k_ ≠ (v368 : Value).ownBlock) (Kd.S_N (Kd.S_bound ho0)) (fun k_ hk_ => (Kd.fresh' (Kd.N_lt (by (with_reducible repeat (first | apply Kd.N_alloc | apply Kd.N_drewN | apply Kd.N_drew)); exact HO369.out)) k_ hk_.2.1))) (below_size (hbS HB.out))); have n2_ := am (below_step (hbS HB.out) hb); clear HO369; clear HB; have HO369 := n0_; have HO374 := n1_; have HB := n2_; clear n0_ n1_ n2_; (try clear hb); (try clear hb2); (try clear hk); (try clear hi); (try clear ho0); obtain ⟨Ao15, co15, eo15⟩ := Kd.N_slice HO369.out; subst eo15; obtain ⟨Ao16, co16, eo16⟩ := Kd.N_slice HO374.out; subst eo16) | fail)
   go_upto_if 111 with (first | (go_at_call 8; (with_reducible refine (laws_kRows.calls k _ _ t367 _ _ t371 true _ ?side1 ?side2 ?side3 ?side4 A9.out).mono ?_); (case side1 => repeat (first | exact (Kd.N_reads' HO369.out).2.2 | (with_reducible refine Kd.C_alloc ?_ _) | (with_reducible refine Kd.C_drewN ?_ _) | (with_reducible refine Kd.C_drew ?_))); (case side2 => exact (Kd.N_reads' HO369.out).2.1); (case side3 => repeat (first | exact (Kd.N_reads' HO374.out).2.2 | (with_reducible refine Kd.C_alloc ?_ _) | (with_reducible refine Kd.C_drewN ?_ _) | (with_reducible refine Kd.C_drew ?_))); (case side4 => exact (Kd.N_reads' HO374.out).2.1); rintro e w' ⟨rfl, ⟨nd, rfl⟩⟩; (try first | exact ⟨rfl, _, World.drewN_drewN _ _ _⟩ | exact ⟨rfl, _, Eq.trans (World.drewN_drewN _ _ _) (congrArg (World.drewN _) (Nat.add_assoc _ _ _))⟩)) | fail)
   repeat (go_quiet (fail); go_upto_if 111 with (fail))
   (try simp only [Act.put, List.setIfInBounds_toArray, List.set_cons_zero, List.set_cons_succ])
   go_cut [] from 9999 (fun wc => ∃ (kq : Nat), Aside0 (laws_FnPlanksLean.j2 kq l1 = some r) ∧ Aside0 (kq ≤ k) ∧ Aside0 (Below w.heap.size w wc))
   case first =>
    have H := HC11.out
    clear HC11
    by_cases c17 : t370 = true
    ·subst c17
     rw [if_pos rfl] at H
     (try dsimp only at H)
     have H' := am H
     clear H
     go_wp2
     repeat (go_quiet (fail); try go_wp2)
     go_loopg [114] k (fun kq v114 w' => ∃ (x114_1 : Int), v114 = .int .i64 x114_1 ∧ Aside0 (laws_FnPlanksLean.l0 kq l1 t366 t367 t367 (t367.length : Int) x114_1 = some r) ∧ Aside0 (kq ≤ k) ∧ Aside0 (Kd.N (Kd.slice 3 (Kd.int .i64)) 29 w' w.heap.size (fun _ => True) (.slice Ao15 t367.length co15) t367) ∧ Aside0 (Kd.N (Kd.slice 3 (Kd.int .i64)) 29 w' w.heap.size (fun _ => True) (.slice Ao15 t367.length co15) t367) ∧ Aside0 (Below w.heap.size w w'))
     case atStart => exact ⟨(0), (by first | rfl | (simp; done) | (simp [*]; done)), H', ⟨Nat.le_refl _⟩, ⟨by (with_reducible repeat (first | apply Kd.N_alloc | apply Kd.N_drewN | apply Kd.N_drew)); exact Kd.N_mono HO369.out (fun _ hk => trivial)⟩, ⟨by (with_reducible repeat (first | apply Kd.N_alloc | apply Kd.N_drewN | apply Kd.N_drew)); exact Kd.N_mono HO369.out (fun _ hk => trivial)⟩, ⟨hbS HB.out⟩⟩
     case round =>
      clear H'
      (try clear c1); (try clear p2); (try clear c3); (try clear c4); (try clear c8); (try clear c8b0); (try clear c8b1); (try clear c8b2); (try clear c10); (try clear c17); obtain ⟨x114_1, rfl, HA, HK1, HO_6, HO_112, HB⟩ := hrel
      cases gk with
      | zero => exact absurd HA.out (by simp [laws_FnPlanksLean.l0])
      | succ k1 =>
       have H := HA.out
       clear HA
       simp only [laws_FnPlanksLean.l0] at H
       by_cases c18 : x114_1 < (t367.length : Int)
       ·rw [if_pos c18] at H
        have c18b0 : decide (x114_1 < (t367.length : Int)) = true := decide_eq_true c18; clear c18
        (first | rw [c18b0] | (simp only [i64_w, i32_w]; rw [c18b0]) | skip)
        obtain ⟨c19, H⟩ := itP H; have c19b0 : decide (0 ≤ x114_1) = true := decide_eq_true c19; clear c19; obtain ⟨c20, H⟩ := itP H; have c20b0 : decide (x114_1 < (t367.length : Int)) = true := decide_eq_true c20; clear c20; have HC21 := am H; clear H
        have p390 : 0 ≤ (x114_1 : Int) := of_decide_eq_true (by first | (with_reducible assumption) | assumption)
        have q390 : x114_1 < (t367.length : Int) := of_decide_eq_true (by first | (with_reducible assumption) | assumption)
        obtain ⟨ad390, A390_0, c390_0, e390, hx390_0, hl390_0, hi390_0⟩ := at_L2 (Kd.N_reads' HO_112.out).2.2 x114_1 p390 q390
        cases e390
        obtain ⟨ce390, hce390, hMe390, hcc390⟩ := Kd.N_get HO_112.out [] x114_1 p390 (by first | exact q390 | exact of_decide_eq_true (by first | (with_reducible assumption) | assumption) | (have e_ := (Kd.N_reads' HO_112.out).1; omega))
        obtain ⟨ua390_0, uc390_0, rfl, ul390_0, ge390_0⟩ := Kd.FK_slice_open hMe390
        have hv390_0 := hcc390 0 _ rfl
        rw [Nat.add_zero, show ((Kd.slice 3 (Kd.int .i64))).sz = 1 from rfl, Nat.mul_one] at hv390_0
        replace hv390_0 := Option.some.inj (hv390_0.symm.trans hx390_0)
        injection hv390_0 with hva_ hvn_ hvc_
        rw [hva_] at ge390_0
        rw [hvc_] at ul390_0
        have HL390_0 := am (show Kd.V (Kd.int .i64) 3 _ w.heap.size _ _ (rd_L2 t367 x114_1) from Kd.V_mk ul390_0 ge390_0)
        clear hva_ hvn_ hvc_ ge390_0 ul390_0; clear hcc390 hce390; have HR390_0 := am hi390_0; have HC390_0 := am hl390_0; clear hi390_0 hl390_0; replace p390 := eq_true p390; replace q390 := eq_true q390
        go_upto_region 12 with (fail)
        repeat (go_quiet (fail); go_upto_region 12 with (fail))
        go_cut [174] from 9999 (fun v174 wc => ∃ (kq : Nat) (x174_20 : Bool), v174 = .bool x174_20 ∧ Aside0 (laws_FnPlanksLean.j1 kq l1 t366 t367 (rd_L2 t367 x114_1) t367 (t367.length : Int) x114_1 x174_20 = some r) ∧ Aside0 (kq ≤ k1) ∧ Aside0 (Kd.N (Kd.slice 3 (Kd.int .i64)) 29 wc w.heap.size (fun _ => True) (.slice (some ad390) t367.length co15) t367) ∧ Aside0 (Kd.N (Kd.slice 3 (Kd.int .i64)) 29 wc w.heap.size (fun _ => True) (.slice (some ad390) t367.length co15) t367) ∧ Aside0 (Kd.C (Kd.int .i64) wc A390_0 (rd_L2 t367 x114_1).length (rd_L2 t367 x114_1)) ∧ Aside0 (Below w.heap.size w wc))
        case first =>
         have H := HC21.out
         clear HC21; obtain ⟨c22, H⟩ := itP H
         have c22b0 : (((rd_L2 t367 x114_1).length : Int) == 2) = true := beq_iff_eq.mpr c22
         have c22b1 : (((rd_L2 t367 x114_1).length : Int) != 2) = false := bne_eq_false_iff_eq.mpr c22
         clear c22
         (first | rw [c22b0] | (simp only [i64_w, i32_w]; rw [c22b0]) | skip)
         obtain ⟨c23, H⟩ := itP H; have c23b0 : decide (0 < ((rd_L2 t367 x114_1).length : Int)) = true := decide_eq_true c23
         have c23b1 : decide (0 < (rd_L2 t367 x114_1).length) = true := decide_eq_true (by omega)
         clear c23; obtain ⟨c24, H⟩ := itN H; have c24b0 : decide ((rd (rd_L2 t367 x114_1) 0) < 1) = false := decide_eq_false c24; clear c24; obtain ⟨c25, H⟩ := itP H; have c25b0 : decide (1 < ((rd_L2 t367 x114_1).length : Int)) = true := decide_eq_true c25
         have c25b1 : decide (1 < (rd_L2 t367 x114_1).length) = true := decide_eq_true (by omega)
         clear c25; obtain ⟨c26, H⟩ := itN H; have c26b0 : decide ((rd (rd_L2 t367 x114_1) 1) < (rd (rd_L2 t367 x114_1) 0)) = false := decide_eq_false c26; clear c26; obtain ⟨c27, H⟩ := itP H
         have c27b0 : ((wrap64 ((wrap64 ((rd (rd_L2 t367 x114_1) 0) * (rd (rd_L2 t367 x114_1) 0))) + (wrap64 ((rd (rd_L2 t367 x114_1) 1) * (rd (rd_L2 t367 x114_1) 1))))) == (wrap64 (t366 * t366))) = true := beq_iff_eq.mpr c27
         have c27b1 : ((wrap64 ((wrap64 ((rd (rd_L2 t367 x114_1) 0) * (rd (rd_L2 t367 x114_1) 0))) + (wrap64 ((rd (rd_L2 t367 x114_1) 1) * (rd (rd_L2 t367 x114_1) 1))))) != (wrap64 (t366 * t366))) = false := bne_eq_false_iff_eq.mpr c27
         clear c27
         by_cases c28 : x114_1 > 0
         ·rw [if_pos c28] at H
          have c28b0 : decide (0 < x114_1) = true := decide_eq_true c28; clear c28
          obtain ⟨ji29, hji29⟩ : ∃ j_ : Int, (wrap64 (x114_1 - 1)) = j_ := ⟨_, rfl⟩
          replace H : (if 0 ≤ (ji29) then (if (ji29) < (t367.length : Int) then (if 0 < ((rd_L2 t367 (ji29)).length : Int) then (laws_FnPlanksLean.j1 k1 l1 t366 t367 (rd_L2 t367 x114_1) t367 (t367.length : Int) x114_1 (decide ((rd (rd_L2 t367 (ji29)) 0) ≥ (rd (rd_L2 t367 x114_1) 0)))) else (none)) else (none)) else (none)) = some r := by first | (rw [hji29] at H; exact H) | (simp only [hji29] at H ⊢; exact H)
          have hji29w : (IntKind.i64.wrap (x114_1 - 1)) = ji29 := (i64_w _).trans hji29
          obtain ⟨c30, H⟩ := itP H; have c30b0 : decide (0 ≤ (ji29)) = true := decide_eq_true c30; clear c30; obtain ⟨c31, H⟩ := itP H; have c31b0 : decide ((ji29) < (t367.length : Int)) = true := decide_eq_true c31; clear c31; obtain ⟨c32, H⟩ := itP H; have c32b0 : decide (0 < ((rd_L2 t367 (ji29)).length : Int)) = true := decide_eq_true c32
          have c32b1 : decide (0 < (rd_L2 t367 (ji29)).length) = true := decide_eq_true (by omega)
          clear c32
          have H' := am H
          clear H
          have p391 : 0 ≤ (0 : Int) := (by omega)
          have q391 : 0 < ((rd_L2 t367 x114_1).length : Int) := of_decide_eq_true (by first | (with_reducible assumption) | assumption)
          obtain ⟨ad391, e391, hx391_0⟩ := Kd.at_int (by repeat (first | (with_reducible exact HR390_0.out) | (with_reducible refine Kd.C_alloc ?_ _) | (with_reducible refine Kd.C_drewN ?_ _) | (with_reducible refine Kd.C_drew ?_) | exact HR390_0.out)) 0 p391 q391
          cases e391
          have qi391 : (0 < (rd_L2 t367 x114_1).length) = True := eq_true (by omega)
          (try rw [show ((0 : Int)).toNat = 0 from rfl] at hx391_0)
          (try rw [Addr.add_zero'] at hx391_0)
          replace p391 := eq_true p391; replace q391 := eq_true q391
          have p392 : 0 ≤ (0 : Int) := (by omega)
          have q392 : 0 < ((rd_L2 t367 x114_1).length : Int) := of_decide_eq_true (by first | (with_reducible assumption) | assumption)
          obtain ⟨ad392, e392, hx392_0⟩ := Kd.at_int (by repeat (first | (with_reducible exact HR390_0.out) | (with_reducible refine Kd.C_alloc ?_ _) | (with_reducible refine Kd.C_drewN ?_ _) | (with_reducible refine Kd.C_drew ?_) | exact HR390_0.out)) 0 p392 q392
          obtain rfl : ad391 = ad392 := (by injection e392)
          have qi392 : (0 < (rd_L2 t367 x114_1).length) = True := eq_true (by omega)
          (try rw [show ((0 : Int)).toNat = 0 from rfl] at hx392_0)
          (try rw [Addr.add_zero'] at hx392_0)
          replace p392 := eq_true p392; replace q392 := eq_true q392
          have p393 : 0 ≤ (1 : Int) := (by omega)
          have q393 : 1 < ((rd_L2 t367 x114_1).length : Int) := of_decide_eq_true (by first | (with_reducible assumption) | assumption)
          obtain ⟨ad393, e393, hx393_0⟩ := Kd.at_int (by repeat (first | (with_reducible exact HR390_0.out) | (with_reducible refine Kd.C_alloc ?_ _) | (with_reducible refine Kd.C_drewN ?_ _) | (with_reducible refine Kd.C_drew ?_) | exact HR390_0.out)) 1 p393 q393
          obtain rfl : ad391 = ad393 := (by injection e393)
          (try simp only [show (1 : Int).toNat = 1 from rfl, Nat.reduceMul, Nat.reduceEqDiff, Go.Addr.add, ↓reduceIte] at hx393_0)
          have qi393 : (1 < (rd_L2 t367 x114_1).length) = True := eq_true (by omega)
          (try rw [show ((1 : Int)).toNat = 1 from rfl] at hx393_0)
          replace p393 := eq_true p393; replace q393 := eq_true q393
          have p394 : 0 ≤ (0 : Int) := (by omega)
          have q394 : 0 < ((rd_L2 t367 x114_1).length : Int) := of_decide_eq_true (by first | (with_reducible assumption) | assumption)
          obtain ⟨ad394, e394, hx394_0⟩ := Kd.at_int (by repeat (first | (with_reducible exact HR390_0.out) | (with_reducible refine Kd.C_alloc ?_ _) | (with_reducible refine Kd.C_drewN ?_ _) | (with_reducible refine Kd.C_drew ?_) | exact HR390_0.out)) 0 p394 q394
          obtain rfl : ad391 = ad394 := (by injection e394)
          have qi394 : (0 < (rd_L2 t367 x114_1).length) = True := eq_true (by omega)
          (try rw [show ((0 : Int)).toNat = 0 from rfl] at hx394_0)
          (try rw [Addr.add_zero'] at hx394_0)
          replace p394 := eq_true p394; replace q394 := eq_true q394
          have p395 : 0 ≤ (0 : Int) := (by omega)
          have q395 : 0 < ((rd_L2 t367 x114_1).length : Int) := of_decide_eq_true (by first | (with_reducible assumption) | assumption)
          obtain ⟨ad395, e395, hx395_0⟩ := Kd.at_int (by repeat (first | (with_reducible exact HR390_0.out) | (with_reducible refine Kd.C_alloc ?_ _) | (with_reducible refine Kd.C_drewN ?_ _) | (with_reducible refine Kd.C_drew ?_) | exact HR390_0.out)) 0 p395 q395
          obtain rfl : ad391 = ad395 := (by injection e395)
          have qi395 : (0 < (rd_L2 t367 x114_1).length) = True := eq_true (by omega)
          (try rw [show ((0 : Int)).toNat = 0 from rfl] at hx395_0)
          (try rw [Addr.add_zero'] at hx395_0)
          replace p395 := eq_true p395; replace q395 := eq_true q395
          have p396 : 0 ≤ (1 : Int) := (by omega)
          have q396 : 1 < ((rd_L2 t367 x114_1).length : Int) := of_decide_eq_true (by first | (with_reducible assumption) | assumption)
          obtain ⟨ad396, e396, hx396_0⟩ := Kd.at_int (by repeat (first | (with_reducible exact HR390_0.out) | (with_reducible refine Kd.C_alloc ?_ _) | (with_reducible refine Kd.C_drewN ?_ _) | (with_reducible refine Kd.C_drew ?_) | exact HR390_0.out)) 1 p396 q396
          obtain rfl : ad391 = ad396 := (by injection e396)
          (try simp only [show (1 : Int).toNat = 1 from rfl, Nat.reduceMul, Nat.reduceEqDiff, Go.Addr.add, ↓reduceIte] at hx396_0)
          have qi396 : (1 < (rd_L2 t367 x114_1).length) = True := eq_true (by omega)
          (try rw [show ((1 : Int)).toNat = 1 from rfl] at hx396_0)
          replace p396 := eq_true p396; replace q396 := eq_true q396
          have p397 : 0 ≤ (1 : Int) := (by omega)
          have q397 : 1 < ((rd_L2 t367 x114_1).length : Int) := of_decide_eq_true (by first | (with_reducible assumption) | assumption)
          obtain ⟨ad397, e397, hx397_0⟩ := Kd.at_int (by repeat (first | (with_reducible exact HR390_0.out) | (with_reducible refine Kd.C_alloc ?_ _) | (with_reducible refine Kd.C_drewN ?_ _) | (with_reducible refine Kd.C_drew ?_) | exact HR390_0.out)) 1 p397 q397
          obtain rfl : ad391 = ad397 := (by injection e397)
          (try simp only [show (1 : Int).toNat = 1 from rfl, Nat.reduceMul, Nat.reduceEqDiff, Go.Addr.add, ↓reduceIte] at hx397_0)
          have qi397 : (1 < (rd_L2 t367 x114_1).length) = True := eq_true (by omega)
          (try rw [show ((1 : Int)).toNat = 1 from rfl] at hx397_0)
          replace p397 := eq_true p397; replace q397 := eq_true q397
          have p398 : 0 ≤ ((ji29) : Int) := of_decide_eq_true (by first | (with_reducible assumption) | assumption)
          have q398 : (ji29) < (t367.length : Int) := of_decide_eq_true (by first | (with_reducible assumption) | assumption)
          obtain ⟨ad398, A398_0, c398_0, e398, hx398_0, hl398_0, hi398_0⟩ := at_L2 (Kd.N_reads' HO_6.out).2.2 (ji29) p398 q398
          obtain rfl : ad390 = ad398 := (by injection e398)
          obtain ⟨ce398, hce398, hMe398, hcc398⟩ := Kd.N_get HO_6.out [] (ji29) p398 (by first | exact q398 | exact of_decide_eq_true (by first | (with_reducible assumption) | assumption) | (have e_ := (Kd.N_reads' HO_6.out).1; omega))
          obtain ⟨ua398_0, uc398_0, rfl, ul398_0, ge398_0⟩ := Kd.FK_slice_open hMe398
          have hv398_0 := hcc398 0 _ rfl
          rw [Nat.add_zero, show ((Kd.slice 3 (Kd.int .i64))).sz = 1 from rfl, Nat.mul_one] at hv398_0
          replace hv398_0 := Option.some.inj (hv398_0.symm.trans hx398_0)
          injection hv398_0 with hva_ hvn_ hvc_
          rw [hva_] at ge398_0
          rw [hvc_] at ul398_0
          have HL398_0 := am (show Kd.V (Kd.int .i64) 3 _ w.heap.size _ _ (rd_L2 t367 (ji29)) from Kd.V_mk ul398_0 ge398_0)
          clear hva_ hvn_ hvc_ ge398_0 ul398_0; clear hcc398 hce398; have HR398_0 := am hi398_0; have HC398_0 := am hl398_0; clear hi398_0 hl398_0; replace p398 := eq_true p398; replace q398 := eq_true q398
          have p399 : 0 ≤ (0 : Int) := (by omega)
          have q399 : 0 < ((rd_L2 t367 (ji29)).length : Int) := of_decide_eq_true (by first | (with_reducible assumption) | assumption)
          obtain ⟨ad399, e399, hx399_0⟩ := Kd.at_int (by repeat (first | (with_reducible exact HR398_0.out) | (with_reducible refine Kd.C_alloc ?_ _) | (with_reducible refine Kd.C_drewN ?_ _) | (with_reducible refine Kd.C_drew ?_) | exact HR398_0.out)) 0 p399 q399
          cases e399
          have qi399 : (0 < (rd_L2 t367 (ji29)).length) = True := eq_true (by omega)
          (try rw [show ((0 : Int)).toNat = 0 from rfl] at hx399_0)
          (try rw [Addr.add_zero'] at hx399_0)
          replace p399 := eq_true p399; replace q399 := eq_true q399
          have p400 : 0 ≤ (0 : Int) := (by omega)
          have q400 : 0 < ((rd_L2 t367 x114_1).length : Int) := of_decide_eq_true (by first | (with_reducible assumption) | assumption)
          obtain ⟨ad400, e400, hx400_0⟩ := Kd.at_int (by repeat (first | (with_reducible exact HR390_0.out) | (with_reducible refine Kd.C_alloc ?_ _) | (with_reducible refine Kd.C_drewN ?_ _) | (with_reducible refine Kd.C_drew ?_) | exact HR390_0.out)) 0 p400 q400
          obtain rfl : ad391 = ad400 := (by injection e400)
          have qi400 : (0 < (rd_L2 t367 x114_1).length) = True := eq_true (by omega)
          (try rw [show ((0 : Int)).toNat = 0 from rfl] at hx400_0)
          (try rw [Addr.add_zero'] at hx400_0)
          replace p400 := eq_true p400; replace q400 := eq_true q400
          go_wp2
          repeat (go_quiet (fail); try go_wp2)
          go_meet
          case rel => exact ⟨_, (decide ((rd (rd_L2 t367 (ji29)) 0) ≥ (rd (rd_L2 t367 x114_1) 0))), (by first | rfl | (simp; done) | (simp only [← hji29] <;> (first | rfl | simp)) | (simp [*]; done)), H', ⟨by have := HK1.out; first | omega | exact Nat.le_refl _⟩, ⟨by (with_reducible repeat (first | apply Kd.N_alloc | apply Kd.N_drewN | apply Kd.N_drew)); exact HO_6.out⟩, ⟨by (with_reducible repeat (first | apply Kd.N_alloc | apply Kd.N_drewN | apply Kd.N_drew)); exact HO_112.out⟩, ⟨by repeat (first | (with_reducible exact HR390_0.out) | (with_reducible refine Kd.C_alloc ?_ _) | (with_reducible refine Kd.C_drewN ?_ _) | (with_reducible refine Kd.C_drew ?_) | exact HR390_0.out)⟩, ⟨hbS HB.out⟩⟩
         ·rw [if_neg c28] at H
          have c28b0 : decide (0 < x114_1) = false := decide_eq_false c28; clear c28
          have H' := am H
          clear H
          have p391 : 0 ≤ (0 : Int) := (by omega)
          have q391 : 0 < ((rd_L2 t367 x114_1).length : Int) := of_decide_eq_true (by first | (with_reducible assumption) | assumption)
          obtain ⟨ad391, e391, hx391_0⟩ := Kd.at_int (by repeat (first | (with_reducible exact HR390_0.out) | (with_reducible refine Kd.C_alloc ?_ _) | (with_reducible refine Kd.C_drewN ?_ _) | (with_reducible refine Kd.C_drew ?_) | exact HR390_0.out)) 0 p391 q391
          cases e391
          have qi391 : (0 < (rd_L2 t367 x114_1).length) = True := eq_true (by omega)
          (try rw [show ((0 : Int)).toNat = 0 from rfl] at hx391_0)
          (try rw [Addr.add_zero'] at hx391_0)
          replace p391 := eq_true p391; replace q391 := eq_true q391
          have p392 : 0 ≤ (0 : Int) := (by omega)
          have q392 : 0 < ((rd_L2 t367 x114_1).length : Int) := of_decide_eq_true (by first | (with_reducible assumption) | assumption)
          obtain ⟨ad392, e392, hx392_0⟩ := Kd.at_int (by repeat (first | (with_reducible exact HR390_0.out) | (with_reducible refine Kd.C_alloc ?_ _) | (with_reducible refine Kd.C_drewN ?_ _) | (with_reducible refine Kd.C_drew ?_) | exact HR390_0.out)) 0 p392 q392
          obtain rfl : ad391 = ad392 := (by injection e392)
          have qi392 : (0 < (rd_L2 t367 x114_1).length) = True := eq_true (by omega)
          (try rw [show ((0 : Int)).toNat = 0 from rfl] at hx392_0)
          (try rw [Addr.add_zero'] at hx392_0)
          replace p392 := eq_true p392; replace q392 := eq_true q392
          have p393 : 0 ≤ (1 : Int) := (by omega)
          have q393 : 1 < ((rd_L2 t367 x114_1).length : Int) := of_decide_eq_true (by first | (with_reducible assumption) | assumption)
          obtain ⟨ad393, e393, hx393_0⟩ := Kd.at_int (by repeat (first | (with_reducible exact HR390_0.out) | (with_reducible refine Kd.C_alloc ?_ _) | (with_reducible refine Kd.C_drewN ?_ _) | (with_reducible refine Kd.C_drew ?_) | exact HR390_0.out)) 1 p393 q393
          obtain rfl : ad391 = ad393 := (by injection e393)
          (try simp only [show (1 : Int).toNat = 1 from rfl, Nat.reduceMul, Nat.reduceEqDiff, Go.Addr.add, ↓reduceIte] at hx393_0)
          have qi393 : (1 < (rd_L2 t367 x114_1).length) = True := eq_true (by omega)
          (try rw [show ((1 : Int)).toNat = 1 from rfl] at hx393_0)
          replace p393 := eq_true p393; replace q393 := eq_true q393
          have p394 : 0 ≤ (0 : Int) := (by omega)
          have q394 : 0 < ((rd_L2 t367 x114_1).length : Int) := of_decide_eq_true (by first | (with_reducible assumption) | assumption)
          obtain ⟨ad394, e394, hx394_0⟩ := Kd.at_int (by repeat (first | (with_reducible exact HR390_0.out) | (with_reducible refine Kd.C_alloc ?_ _) | (with_reducible refine Kd.C_drewN ?_ _) | (with_reducible refine Kd.C_drew ?_) | exact HR390_0.out)) 0 p394 q394
          obtain rfl : ad391 = ad394 := (by injection e394)
          have qi394 : (0 < (rd_L2 t367 x114_1).length) = True := eq_true (by omega)
          (try rw [show ((0 : Int)).toNat = 0 from rfl] at hx394_0)
          (try rw [Addr.add_zero'] at hx394_0)
          replace p394 := eq_true p394; replace q394 := eq_true q394
          have p395 : 0 ≤ (0 : Int) := (by omega)
          have q395 : 0 < ((rd_L2 t367 x114_1).length : Int) := of_decide_eq_true (by first | (with_reducible assumption) | assumption)
          obtain ⟨ad395, e395, hx395_0⟩ := Kd.at_int (by repeat (first | (with_reducible exact HR390_0.out) | (with_reducible refine Kd.C_alloc ?_ _) | (with_reducible refine Kd.C_drewN ?_ _) | (with_reducible refine Kd.C_drew ?_) | exact HR390_0.out)) 0 p395 q395
          obtain rfl : ad391 = ad395 := (by injection e395)
          have qi395 : (0 < (rd_L2 t367 x114_1).length) = True := eq_true (by omega)
          (try rw [show ((0 : Int)).toNat = 0 from rfl] at hx395_0)
          (try rw [Addr.add_zero'] at hx395_0)
          replace p395 := eq_true p395; replace q395 := eq_true q395
          have p396 : 0 ≤ (1 : Int) := (by omega)
          have q396 : 1 < ((rd_L2 t367 x114_1).length : Int) := of_decide_eq_true (by first | (with_reducible assumption) | assumption)
          obtain ⟨ad396, e396, hx396_0⟩ := Kd.at_int (by repeat (first | (with_reducible exact HR390_0.out) | (with_reducible refine Kd.C_alloc ?_ _) | (with_reducible refine Kd.C_drewN ?_ _) | (with_reducible refine Kd.C_drew ?_) | exact HR390_0.out)) 1 p396 q396
          obtain rfl : ad391 = ad396 := (by injection e396)
          (try simp only [show (1 : Int).toNat = 1 from rfl, Nat.reduceMul, Nat.reduceEqDiff, Go.Addr.add, ↓reduceIte] at hx396_0)
          have qi396 : (1 < (rd_L2 t367 x114_1).length) = True := eq_true (by omega)
          (try rw [show ((1 : Int)).toNat = 1 from rfl] at hx396_0)
          replace p396 := eq_true p396; replace q396 := eq_true q396
          have p397 : 0 ≤ (1 : Int) := (by omega)
          have q397 : 1 < ((rd_L2 t367 x114_1).length : Int) := of_decide_eq_true (by first | (with_reducible assumption) | assumption)
          obtain ⟨ad397, e397, hx397_0⟩ := Kd.at_int (by repeat (first | (with_reducible exact HR390_0.out) | (with_reducible refine Kd.C_alloc ?_ _) | (with_reducible refine Kd.C_drewN ?_ _) | (with_reducible refine Kd.C_drew ?_) | exact HR390_0.out)) 1 p397 q397
          obtain rfl : ad391 = ad397 := (by injection e397)
          (try simp only [show (1 : Int).toNat = 1 from rfl, Nat.reduceMul, Nat.reduceEqDiff, Go.Addr.add, ↓reduceIte] at hx397_0)
          have qi397 : (1 < (rd_L2 t367 x114_1).length) = True := eq_true (by omega)
          (try rw [show ((1 : Int)).toNat = 1 from rfl] at hx397_0)
          replace p397 := eq_true p397; replace q397 := eq_true q397
          go_wp2
          repeat (go_quiet (fail); try go_wp2)
          go_meet
          case rel => exact ⟨_, (false), (by first | rfl | (simp; done) | (simp [*]; done)), H', ⟨by have := HK1.out; first | omega | exact Nat.le_refl _⟩, ⟨by (with_reducible repeat (first | apply Kd.N_alloc | apply Kd.N_drewN | apply Kd.N_drew)); exact HO_6.out⟩, ⟨by (with_reducible repeat (first | apply Kd.N_alloc | apply Kd.N_drewN | apply Kd.N_drew)); exact HO_112.out⟩, ⟨by repeat (first | (with_reducible exact HR390_0.out) | (with_reducible refine Kd.C_alloc ?_ _) | (with_reducible refine Kd.C_drewN ?_ _) | (with_reducible refine Kd.C_drew ?_) | exact HR390_0.out)⟩, ⟨hbS HB.out⟩⟩
        case rest =>
         clear HC21; (try clear c1); (try clear c2); (try clear p2); (try clear c3); (try clear p3); (try clear q3); (try clear hx3); (try clear qi3); (try clear c4); (try clear p4); (try clear q4); (try clear hx4); (try clear qi4); (try clear p6); (try clear c8); (try clear c8b0); (try clear c8b1); (try clear c8b2); (try clear c10); (try clear c17); (try clear c18); (try clear c18b0); (try clear c19); (try clear c19b0); (try clear c20); (try clear c20b0); (try clear c22); (try clear c22b0); (try clear c22b1); (try clear c23); (try clear c23b0); (try clear c23b1); (try clear c24); (try clear c24b0); (try clear c25); (try clear c25b0); (try clear c25b1); (try clear c26); (try clear c26b0); (try clear c27); (try clear c27b0); (try clear c27b1); (try clear c28); (try clear c28b0); (try clear c30); (try clear c30b0); (try clear c31); (try clear c31b0); (try clear c32); (try clear c32b0); (try clear c32b1); (try clear hx390_0); (try clear hx391_0); (try clear hx392_0); (try clear hx393_0); (try clear hx394_0); (try clear hx395_0); (try clear hx396_0); (try clear hx397_0); (try clear hx398_0); (try clear hx399_0); (try clear hx400_0); (try clear p2); (try clear p390); (try clear p391); (try clear p392); (try clear p393); (try clear p394); (try clear p395); (try clear p396); (try clear p397); (try clear p398); (try clear p399); (try clear p400); (try clear q390); (try clear q391); (try clear q392); (try clear q393); (try clear q394); (try clear q395); (try clear q396); (try clear q397); (try clear q398); (try clear q399); (try clear q400); obtain ⟨kq, x174_20, rfl, HA, HJ20, HO_6, HO_112, HR390_0, HB⟩ := hcut
         cases kq with
         | zero => exact absurd HA.out (by simp [laws_FnPlanksLean.j1])
         | succ kj20 =>
          have H := HA.out
          clear HA
          simp only [laws_FnPlanksLean.j1] at H
          by_cases c33 : x174_20 = true
          ·subst c33
           rw [if_pos rfl] at H
           (try dsimp only at H)
           exact absurd H (by simp)
          replace c33 := Bool.eq_false_iff.mpr c33
          subst c33
          rw [if_neg (show ¬ (false = true) by decide)] at H
          (try dsimp only at H); obtain ⟨c34, H⟩ := itP H; have c34b0 : decide (0 < ((rd_L2 t367 x114_1).length : Int)) = true := decide_eq_true c34
          have c34b1 : decide (0 < (rd_L2 t367 x114_1).length) = true := decide_eq_true (by omega)
          clear c34; replace H := Option.bind_eq_some_iff.mp H; obtain ⟨⟨t412, t413, t414⟩, A350, H⟩ := H; (try dsimp only at H); have A35 := am A350; clear A350
          by_cases c36 : t414 = true
          rotate_left
          ·replace c36 := Bool.eq_false_iff.mpr c36
           subst c36
           rw [if_neg (show ¬ (false = true) by decide)] at H
           (try dsimp only at H)
           exact absurd H (by simp)
          subst c36
          rw [if_pos rfl] at H
          (try dsimp only at H); obtain ⟨c37, H⟩ := itP H; have c37b0 : decide (1 < ((rd_L2 t367 x114_1).length : Int)) = true := decide_eq_true c37
          have c37b1 : decide (1 < (rd_L2 t367 x114_1).length) = true := decide_eq_true (by omega)
          clear c37; obtain ⟨c38, H⟩ := itP H
          have c38b0 : (t412 == (rd (rd_L2 t367 x114_1) 1)) = true := beq_iff_eq.mpr c38
          have c38b1 : (t412 != (rd (rd_L2 t367 x114_1) 1)) = false := bne_eq_false_iff_eq.mpr c38
          clear c38; obtain ⟨c39, H⟩ := itP H
          have c39b0 : (t413 == 0) = true := beq_iff_eq.mpr c39
          have c39b1 : (t413 != 0) = false := bne_eq_false_iff_eq.mpr c39
          clear c39
          have H' := am H
          clear H
          have p411 : 0 ≤ (0 : Int) := (by omega)
          have q411 : 0 < ((rd_L2 t367 x114_1).length : Int) := of_decide_eq_true (by first | (with_reducible assumption) | assumption)
          obtain ⟨ad411, e411, hx411_0⟩ := Kd.at_int (by repeat (first | (with_reducible exact HR390_0.out) | (with_reducible refine Kd.C_alloc ?_ _) | (with_reducible refine Kd.C_drewN ?_ _) | (with_reducible refine Kd.C_drew ?_) | exact HR390_0.out)) 0 p411 q411
          cases e411
          have qi411 : (0 < (rd_L2 t367 x114_1).length) = True := eq_true (by omega)
          (try rw [show ((0 : Int)).toNat = 0 from rfl] at hx411_0)
          (try rw [Addr.add_zero'] at hx411_0)
          replace p411 := eq_true p411; replace q411 := eq_true q411
          go_wp2_with (first | (go_at_call 9; (with_reducible refine (impl_LeanHeight.calls kj20 t366 (rd (rd_L2 t367 x114_1) 0) t412 t413 true _ A35.out).mono ?_); rintro e w' ⟨rfl, ⟨nd, rfl⟩⟩; (try first | exact ⟨rfl, _, World.drewN_drewN _ _ _⟩ | exact ⟨rfl, _, Eq.trans (World.drewN_drewN _ _ _) (congrArg (World.drewN _) (Nat.add_assoc _ _ _))⟩); have p415 : 0 ≤ (1 : Int) := (by omega); have q415 : 1 < ((rd_L2 t367 x114_1).length : Int) := of_decide_eq_true (by first | (with_reducible assumption) | assumption); obtain ⟨ad415, e415, hx415_0⟩ := Kd.at_int (by repeat (first | (with_reducible exact HR390_0.out) | (with_reducible refine Kd.C_alloc ?_ _) | (with_reducible refine Kd.C_drewN ?_ _) | (with_reducible refine Kd.C_drew ?_) | exact HR390_0.out)) 1 p415 q415; obtain rfl : ad411 = ad415 := (by injection e415); (try simp only [show (1 : Int).toNat = 1 from rfl, Nat.reduceMul, Nat.reduceEqDiff, Go.Addr.add, ↓reduceIte] at hx415_0); have qi415 : (1 < (rd_L2 t367 x114_1).length) = True := eq_true (by omega); (try rw [show ((1 : Int)).toNat = 1 from rfl] at hx415_0); replace p415 := eq_true p415; replace q415 := eq_true q415))
          repeat (go_quiet (first | (go_at_call 9; (with_reducible refine (impl_LeanHeight.calls kj20 t366 (rd (rd_L2 t367 x114_1) 0) t412 t413 true _ A35.out).mono ?_); rintro e w' ⟨rfl, ⟨nd, rfl⟩⟩; (try first | exact ⟨rfl, _, World.drewN_drewN _ _ _⟩ | exact ⟨rfl, _, Eq.trans (World.drewN_drewN _ _ _) (congrArg (World.drewN _) (Nat.add_assoc _ _ _))⟩); have p415 : 0 ≤ (1 : Int) := (by omega); have q415 : 1 < ((rd_L2 t367 x114_1).length : Int) := of_decide_eq_true (by first | (with_reducible assumption) | assumption); obtain ⟨ad415, e415, hx415_0⟩ := Kd.at_int (by repeat (first | (with_reducible exact HR390_0.out) | (with_reducible refine Kd.C_alloc ?_ _) | (with_reducible refine Kd.C_drewN ?_ _) | (with_reducible refine Kd.C_drew ?_) | exact HR390_0.out)) 1 p415 q415; obtain rfl : ad411 = ad415 := (by injection e415); (try simp only [show (1 : Int).toNat = 1 from rfl, Nat.reduceMul, Nat.reduceEqDiff, Go.Addr.add, ↓reduceIte] at hx415_0); have qi415 : (1 < (rd_L2 t367 x114_1).length) = True := eq_true (by omega); (try rw [show ((1 : Int)).toNat = 1 from rfl] at hx415_0); replace p415 := eq_true p415; replace q415 := eq_true q415)); try go_wp2_with (first | (go_at_call 9; (with_reducible refine (impl_LeanHeight.calls kj20 t366 (rd (rd_L2 t367 x114_1) 0) t412 t413 true _ A35.out).mono ?_); rintro e w' ⟨rfl, ⟨nd, rfl⟩⟩; (try first | exact ⟨rfl, _, World.drewN_drewN _ _ _⟩ | exact ⟨rfl, _, Eq.trans (World.drewN_drewN _ _ _) (congrArg (World.drewN _) (Nat.add_assoc _ _ _))⟩); have p415 : 0 ≤ (1 : Int) := (by omega); have q415 : 1 < ((rd_L2 t367 x114_1).length : Int) := of_decide_eq_true (by first | (with_reducible assumption) | assumption); obtain ⟨ad415, e415, hx415_0⟩ := Kd.at_int (by repeat (first | (with_reducible exact HR390_0.out) | (with_reducible refine Kd.C_alloc ?_ _) | (with_reducible refine Kd.C_drewN ?_ _) | (with_reducible refine Kd.C_drew ?_) | exact HR390_0.out)) 1 p415 q415; obtain rfl : ad411 = ad415 := (by injection e415); (try simp only [show (1 : Int).toNat = 1 from rfl, Nat.reduceMul, Nat.reduceEqDiff, Go.Addr.add, ↓reduceIte] at hx415_0); have qi415 : (1 < (rd_L2 t367 x114_1).length) = True := eq_true (by omega); (try rw [show ((1 : Int)).toNat = 1 from rfl] at hx415_0); replace p415 := eq_true p415; replace q415 := eq_true q415)))
          go_roundg kj20
          case measure => have := HK1.out; have := HJ20.out; omega
          case rel => exact ⟨(wrap64 (x114_1 + 1)), (by first | rfl | (simp; done) | (simp [*]; done)), H', ⟨by have := HK1.out; have := HJ20.out; omega⟩, ⟨by (with_reducible repeat (first | apply Kd.N_alloc | apply Kd.N_drewN | apply Kd.N_drew)); exact HO_6.out⟩, ⟨by (with_reducible repeat (first | apply Kd.N_alloc | apply Kd.N_drewN | apply Kd.N_drew)); exact HO_112.out⟩, ⟨hbS HB.out⟩⟩
       ·rw [if_neg c18] at H
        have c18b0 : decide (x114_1 < (t367.length : Int)) = false := decide_eq_false c18; clear c18
        (first | rw [c18b0] | (simp only [i64_w, i32_w]; rw [c18b0]) | skip)
        by_cases c40 : (wrap64 (2 * t366)) ≤ 200
        ·rw [if_pos c40] at H
         have c40b0 : decide ((wrap64 (2 * t366)) ≤ 200) = true := decide_eq_true c40; clear c40; replace H := Option.bind_eq_some_iff.mp H; obtain ⟨⟨t420, t423⟩, A410, H⟩ := H; (try dsimp only at H); have A41 := am A410; clear A410
         by_cases c42 : t423 = true
         rotate_left
         ·replace c42 := Bool.eq_false_iff.mpr c42
          subst c42
          rw [if_neg (show ¬ (false = true) by decide)] at H
          (try dsimp only at H)
          exact absurd H (by simp)
         subst c42
         rw [if_pos rfl] at H
         (try dsimp only at H); obtain ⟨c43, H⟩ := itN H; have c43b0 : decide ((t420.length : Int) < (t367.length : Int)) = false := decide_eq_false c43
         have c43b1 : decide (t420.length < t367.length) = false := decide_eq_false (fun h => c43 (Int.ofNat_lt.mpr h))
         clear c43
         have H' := am H
         clear H
         go_wp2_with (first | (go_at_call 6; (with_reducible refine (impl_WholeLeans.calls k1 (wrap64 (2 * t366)) t420 true _ A41.out).mono ?_); rintro e w44 ⟨v421, rfl, ho0, hb⟩; have n0_ := am (Kd.N_elder' (by (with_reducible repeat (first | apply Kd.N_alloc | apply Kd.N_drewN | apply Kd.N_drew)); exact HO_6.out) (by first | exact Kd.N_base ho0 | exact Kd.S_base ho0 | exact Kd.R_base ho0) hb); have n1_ := am (Kd.N_elder' (by (with_reducible repeat (first | apply Kd.N_alloc | apply Kd.N_drewN | apply Kd.N_drew)); exact HO_112.out) (by first | exact Kd.N_base ho0 | exact Kd.S_base ho0 | exact Kd.R_base ho0) hb); have n2_ := am (Kd.N_lower (Kd.N_mono (ok' := fun k_ => some k_ ≠ (.slice Ao15 t367.length co15 : Value).ownBlock ∧ some k_ ≠ (.slice Ao15 t367.length co15 : Value).ownBlock) ho0 (fun k_ hk_ => ⟨(Kd.fresh' (Kd.N_lt (by (with_reducible repeat (first | apply Kd.N_alloc | apply Kd.N_drewN | apply Kd.N_drew)); exact HO_6.out)) k_ hk_), (Kd.fresh' (Kd.N_lt (by (with_reducible repeat (first | apply Kd.N_alloc | apply Kd.N_drewN | apply Kd.N_drew)); exact HO_112.out)) k_ hk_)⟩)) (below_size (hbS HB.out))); have n3_ := am (below_step (hbS HB.out) hb); clear HO_6; clear HO_112; clear HB; have HO_6 := n0_; have HO_112 := n1_; have HO422 := n2_; have HB := n3_; clear n0_ n1_ n2_ n3_; (try clear hb); (try clear hb2); (try clear hk); (try clear hi); (try clear ho0); obtain ⟨Ao45, co45, eo45⟩ := Kd.N_slice HO422.out; subst eo45))
         repeat (go_quiet (first | (go_at_call 6; (with_reducible refine (impl_WholeLeans.calls k1 (wrap64 (2 * t366)) t420 true _ A41.out).mono ?_); rintro e w44 ⟨v421, rfl, ho0, hb⟩; have n0_ := am (Kd.N_elder' (by (with_reducible repeat (first | apply Kd.N_alloc | apply Kd.N_drewN | apply Kd.N_drew)); exact HO_6.out) (by first | exact Kd.N_base ho0 | exact Kd.S_base ho0 | exact Kd.R_base ho0) hb); have n1_ := am (Kd.N_elder' (by (with_reducible repeat (first | apply Kd.N_alloc | apply Kd.N_drewN | apply Kd.N_drew)); exact HO_112.out) (by first | exact Kd.N_base ho0 | exact Kd.S_base ho0 | exact Kd.R_base ho0) hb); have n2_ := am (Kd.N_lower (Kd.N_mono (ok' := fun k_ => some k_ ≠ (.slice Ao15 t367.length co15 : Value).ownBlock ∧ some k_ ≠ (.slice Ao15 t367.length co15 : Value).ownBlock) ho0 (fun k_ hk_ => ⟨(Kd.fresh' (Kd.N_lt (by (with_reducible repeat (first | apply Kd.N_alloc | apply Kd.N_drewN | apply Kd.N_drew)); exact HO_6.out)) k_ hk_), (Kd.fresh' (Kd.N_lt (by (with_reducible repeat (first | apply Kd.N_alloc | apply Kd.N_drewN | apply Kd.N_drew)); exact HO_112.out)) k_ hk_)⟩)) (below_size (hbS HB.out))); have n3_ := am (below_step (hbS HB.out) hb); clear HO_6; clear HO_112; clear HB; have HO_6 := n0_; have HO_112 := n1_; have HO422 := n2_; have HB := n3_; clear n0_ n1_ n2_ n3_; (try clear hb); (try clear hb2); (try clear hk); (try clear hi); (try clear ho0); obtain ⟨Ao45, co45, eo45⟩ := Kd.N_slice HO422.out; subst eo45)); try go_wp2_with (first | (go_at_call 6; (with_reducible refine (impl_WholeLeans.calls k1 (wrap64 (2 * t366)) t420 true _ A41.out).mono ?_); rintro e w44 ⟨v421, rfl, ho0, hb⟩; have n0_ := am (Kd.N_elder' (by (with_reducible repeat (first | apply Kd.N_alloc | apply Kd.N_drewN | apply Kd.N_drew)); exact HO_6.out) (by first | exact Kd.N_base ho0 | exact Kd.S_base ho0 | exact Kd.R_base ho0) hb); have n1_ := am (Kd.N_elder' (by (with_reducible repeat (first | apply Kd.N_alloc | apply Kd.N_drewN | apply Kd.N_drew)); exact HO_112.out) (by first | exact Kd.N_base ho0 | exact Kd.S_base ho0 | exact Kd.R_base ho0) hb); have n2_ := am (Kd.N_lower (Kd.N_mono (ok' := fun k_ => some k_ ≠ (.slice Ao15 t367.length co15 : Value).ownBlock ∧ some k_ ≠ (.slice Ao15 t367.length co15 : Value).ownBlock) ho0 (fun k_ hk_ => ⟨(Kd.fresh' (Kd.N_lt (by (with_reducible repeat (first | apply Kd.N_alloc | apply Kd.N_drewN | apply Kd.N_drew)); exact HO_6.out)) k_ hk_), (Kd.fresh' (Kd.N_lt (by (with_reducible repeat (first | apply Kd.N_alloc | apply Kd.N_drewN | apply Kd.N_drew)); exact HO_112.out)) k_ hk_)⟩)) (below_size (hbS HB.out))); have n3_ := am (below_step (hbS HB.out) hb); clear HO_6; clear HO_112; clear HB; have HO_6 := n0_; have HO_112 := n1_; have HO422 := n2_; have HB := n3_; clear n0_ n1_ n2_ n3_; (try clear hb); (try clear hb2); (try clear hk); (try clear hi); (try clear ho0); obtain ⟨Ao45, co45, eo45⟩ := Kd.N_slice HO422.out; subst eo45)))
         go_meet
         case rel => exact ⟨_, H', ⟨by have := HK1.out; first | omega | exact Nat.le_refl _⟩, ⟨hbS HB.out⟩⟩
        ·rw [if_neg c40] at H
         have c40b0 : decide ((wrap64 (2 * t366)) ≤ 200) = false := decide_eq_false c40; clear c40
         have H' := am H
         clear H
         go_wp2
         repeat (go_quiet (fail); try go_wp2)
         go_meet
         case rel => exact ⟨_, H', ⟨by have := HK1.out; first | omega | exact Nat.le_refl _⟩, ⟨hbS HB.out⟩⟩
    ·replace c17 := Bool.eq_false_iff.mpr c17
     subst c17
     rw [if_neg (show ¬ (false = true) by decide)] at H
     (try dsimp only at H)
     have H' := am H
     clear H
     go_wp2
     repeat (go_quiet (fail); try go_wp2)
     go_meet
     case rel => exact ⟨_, H', ⟨by first | omega | exact Nat.le_refl _⟩, ⟨hbS HB.out⟩⟩
   case rest =>
    clear HC11; (try clear c1); (try clear c2); (try clear p2); (try clear c3); (try clear p3); (try clear q3); (try clear hx3); (try clear qi3); (try clear c4); (try clear p4); (try clear q4); (try clear hx4); (try clear qi4); (try clear p6); (try clear c8); (try clear c8b0); (try clear c8b1); (try clear c8b2); (try clear c10); (try clear c17); (try clear c18); (try clear c18b0); (try clear c19); (try clear c19b0); (try clear c20); (try clear c20b0); (try clear c22); (try clear c22b0); (try clear c22b1); (try clear c23); (try clear c23b0); (try clear c23b1); (try clear c24); (try clear c24b0); (try clear c25); (try clear c25b0); (try clear c25b1); (try clear c26); (try clear c26b0); (try clear c27); (try clear c27b0); (try clear c27b1); (try clear c28); (try clear c28b0); (try clear c30); (try clear c30b0); (try clear c31); (try clear c31b0); (try clear c32); (try clear c32b0); (try clear c32b1); (try clear c33); (try clear c34); (try clear c34b0); (try clear c34b1); (try clear c36); (try clear c37); (try clear c37b0); (try clear c37b1); (try clear c38); (try clear c38b0); (try clear c38b1); (try clear c39); (try clear c39b0); (try clear c39b1); (try clear p39); (try clear q39); (try clear hx39); (try clear qi39); (try clear c40); (try clear c40b0); (try clear p40); (try clear q40); (try clear hx40); (try clear qi40); (try clear p41); (try clear q41); (try clear hx41); (try clear qi41); (try clear c42); (try clear c43); (try clear c43b0); (try clear c43b1); (try clear hx390_0); (try clear hx391_0); (try clear hx392_0); (try clear hx393_0); (try clear hx394_0); (try clear hx395_0); (try clear hx396_0); (try clear hx397_0); (try clear hx398_0); (try clear hx399_0); (try clear hx400_0); (try clear hx411_0); (try clear hx415_0); (try clear p2); (try clear p3); (try clear p390); (try clear p391); (try clear p392); (try clear p393); (try clear p394); (try clear p395); (try clear p396); (try clear p397); (try clear p398); (try clear p399); (try clear p4); (try clear p400); (try clear p411); (try clear p415); (try clear p6); (try clear q3); (try clear q390); (try clear q391); (try clear q392); (try clear q393); (try clear q394); (try clear q395); (try clear q396); (try clear q397); (try clear q398); (try clear q399); (try clear q4); (try clear q400); (try clear q411); (try clear q415); obtain ⟨kq, HA, HJ10, HB⟩ := hcut
    go_step
    exact laws_FnPlanksLean.part2 kq _ A1 c1 l1 r w wc HR1 HC1 HA HJ10 HB
  ·replace c10 := Bool.eq_false_iff.mpr c10
   subst c10
   rw [if_neg (show ¬ (false = true) by decide)] at H
   (try dsimp only at H)
   exact absurd H (by simp)
/-- THE ONE PURE STATEMENT of laws_FnPlanksLean: yours. -/
def laws_FnPlanksLean.Pure : Prop := ∀ (l0 : List Int) (l1 : List Int), l0.length ≤ maxLen → l0.length * 1 ≤ 140737488351232 → (∀ x ∈ l0, (Lit.int .u8 x).wf = true) → l1.length ≤ maxLen → l1.length * 1 ≤ 140737488351232 → (∀ x ∈ l1, (Lit.int .u8 x).wf = true) → ∃ k, laws_FnPlanksLean.f k l0 l1 = some true
end Go.Proofs.Ytkokbcnecnpgcaa.X
end
section
-- Written by a program of this session (wip/tools/mp.py) over the kit's print of the translation.
namespace Go.Proofs.Ytkokbcnecnpgcaa.X
open Go.RowKit Go.Proofs.YtkokbcnecnpgcaaW.PrintWords Go.Proofs.YtkokbcnecnpgcaaW.PrintLast Go.Proofs.YtkokbcnecnpgcaaW.PrintMore
attribute [local go_sem] max2_int min2_int max_two min_two max_three min_three max_four min_four   -- for this text's walks alone
set_option linter.unusedVariables false
set_option linter.unusedSimpArgs false
/-- The pure statement of FnPlanksLean. -/
def laws_FnPlanksLean.PureQ : Prop := ∀ (l0 : List Int) (l1 : List Int), (l0.length ≤ maxLen ∧ ∀ y ∈ l0, (Lit.int .u8 y).wf = true) → l0.length * 1 ≤ 140737488351232 → (l1.length ≤ maxLen ∧ ∀ y ∈ l1, (Lit.int .u8 y).wf = true) → l1.length * 1 ≤ 140737488351232 → ∃ k, laws_FnPlanksLean.f k l0 l1 = some true
end Go.Proofs.Ytkokbcnecnpgcaa.X
end
section
/- Small words on rounds, numbers and lists. -/
namespace Go.Proofs.Ytkokbcnecnpgcaa.X
open Go.Proofs.Ytkokbcnecnpgcaa.Sq Go.RowKit Go.Proofs.YtkokbcnecnpgcaaW.PrintWords Go.Proofs.YtkokbcnecnpgcaaW.PrintLast Go.Proofs.YtkokbcnecnpgcaaW.PrintMore
attribute [local go_sem] max2_int min2_int max_two min_two max_three min_three max_four min_four   -- for this text's walks alone
set_option linter.unusedVariables false
set_option linter.unusedSimpArgs false
theorem w64 {x : Int} (h : -9223372036854775808 ≤ x) (h' : x ≤ 9223372036854775807) : wrap64 x = x := by
  unfold wrap64
  omega
theorem evPos {α : Type} {c : Prop} [Decidable c] {g f : Nat → Option α} {r : α} (hc : c) (h : Ev g r) : Ev (fun k => if c then g k else f k) r := by
  obtain ⟨K, hK⟩ := h
  exact ⟨K, fun k hk => (if_pos hc).trans (hK k hk)⟩
theorem evNeg {α : Type} {c : Prop} [Decidable c] {g f : Nat → Option α} {r : α} (hc : ¬ c) (h : Ev f r) : Ev (fun k => if c then g k else f k) r := by
  obtain ⟨K, hK⟩ := h
  exact ⟨K, fun k hk => (if_neg hc).trans (hK k hk)⟩
theorem evSplit {α : Type} {c : Prop} [Decidable c] {g f : Nat → Option α} {r : α} (h : c → Ev g r) (h' : ¬ c → Ev f r) : Ev (fun k => if c then g k else f k) r := by
  by_cases hc : c
  · exact evPos hc (h hc)
  · exact evNeg hc (h' hc)
theorem evBind0 {α β : Type} {o : Option α} {f : Nat → α → Option β} {a : α} {r : β} (h : o = some a) (k : Ev (fun n => f n a) r) : Ev (fun n => o.bind (f n)) r := by
  obtain ⟨K, hK⟩ := k
  exact ⟨K, fun k hk => by rw [h]; exact hK k hk⟩
theorem evEq {α : Type} {g : Nat → Option α} {r r' : α} (h : Ev g r) (e : r = r') : Ev g r' := e ▸ h
theorem evSome {α : Type} {r r' : α} (e : r = r') : Ev (fun _ => some r) r' := ⟨0, fun _ _ => by rw [e]⟩
theorem evUniq {α : Type} {g : Nat → Option α} {r r' : α} (h : Ev g r) (h' : Ev g r') : r = r' := by
  obtain ⟨K, hK⟩ := h
  obtain ⟨L, hL⟩ := h'
  have a := hK (max K L) (Nat.le_max_left _ _)
  have b := hL (max K L) (Nat.le_max_right _ _)
  rw [a] at b
  exact Option.some.inj b
theorem getD_drop_cons {α : Type} (l : List α) (i : Nat) (d : α) (h : i < l.length) : l.drop i = l.getD i d :: l.drop (i + 1) := by
  rw [List.drop_eq_getElem_cons h, List.getD_eq_getElem?_getD, List.getElem?_eq_getElem h]
  rfl
theorem getD_map' {α β : Type} (l : List α) (f : α → β) (i : Nat) (d : α) (e : β) (h : i < l.length) : (l.map f).getD i e = f (l.getD i d) := by
  rw [List.getD_eq_getElem?_getD, List.getD_eq_getElem?_getD, List.getElem?_map, List.getElem?_eq_getElem h]
  rfl
theorem getElem_getD {α : Type} (l : List α) (i : Nat) (d : α) (h : i < l.length) : l[i]'h = l.getD i d := by
  rw [List.getD_eq_getElem?_getD, List.getElem?_eq_getElem h]
  rfl
end Go.Proofs.Ytkokbcnecnpgcaa.X
end
section
/- Draws: the cursor over the bytes goes on; a pick is below its number. -/
--! needs LBase spec_l1Cur_next spec_l1Cur_pick
namespace Go.Proofs.Ytkokbcnecnpgcaa.X
open Go.Proofs.Ytkokbcnecnpgcaa.Sq Go.RowKit Go.Proofs.YtkokbcnecnpgcaaW.PrintWords Go.Proofs.YtkokbcnecnpgcaaW.PrintLast Go.Proofs.YtkokbcnecnpgcaaW.PrintMore
attribute [local go_sem] max2_int min2_int max_two min_two max_three min_three max_four min_four   -- for this text's walks alone
set_option linter.unusedVariables false
set_option linter.unusedSimpArgs false
def bytesOk (c : List Int) : Prop := (∀ x ∈ c, 0 ≤ x ∧ x ≤ 255) ∧ c.length ≤ 1048576
theorem bytesOk_of {c : List Int} (h : ∀ x ∈ c, (Lit.int .u8 x).wf = true) (hl : c.length ≤ 1048576) : bytesOk c := ⟨fun x hx => by
  have h1 := h x hx
  simp only [Lit.wf, Bool.and_eq_true, decide_eq_true_eq] at h1
  exact h1, hl⟩
theorem wraps_u64_63 (n : Int) (h₀ : 0 ≤ n) (h₁ : n < 2 ^ 63) : IntKind.u64.wrap n = n := by rw [IntKind.wrap_u64]; omega
theorem mask8 (n : Int) : ∃ b, wrap64 (Go.bits .and .u64 (IntKind.u64.wrap n / 1099511627776) 255) = b ∧ 0 ≤ b ∧ b ≤ 255 := by
  have e : ((2 : Int) ^ 8 - 1) = 255 := by decide
  have e2 : ((2 : Int) ^ 8) = 256 := by decide
  have h := bits_mask .u64 63 (by decide) wraps_u64_63 8 (by decide) (IntKind.u64.wrap n / 1099511627776) (by rw [IntKind.wrap_u64]; omega) (by rw [IntKind.wrap_u64]; omega)
  rw [e, e2] at h
  refine ⟨_, rfl, ?_, ?_⟩
  · rw [h, w64 (by omega) (by omega)]; omega
  · rw [h, w64 (by omega) (by omega)]; omega
theorem rd_byte {c : List Int} (hc : bytesOk c) (i : Int) (h0 : 0 ≤ i) (h1 : i < (c.length : Int)) : 0 ≤ rd c i ∧ rd c i ≤ 255 := by
  refine hc.1 _ ?_
  unfold rd
  rw [List.getD_eq_getElem?_getD, List.getElem?_eq_getElem (by omega)]
  exact List.getElem_mem _
theorem emod_le' {a b : Int} (h0 : 0 ≤ a) (h1 : 0 < b) : a % b ≤ a := by
  rcases Int.lt_or_le a b with h | h
  · rw [Int.emod_eq_of_lt h0 h]; exact Int.le_refl _
  · exact Int.le_trans (Int.le_of_lt (Int.emod_lt_of_pos a h1)) h
theorem next_ok {c : List Int} (hc : bytesOk c) (i s : Int) (h0 : 0 ≤ i) (hB : i ≤ 1000000000000000) : ∃ b s', spec_l1Cur_next.f c i s = some (b, i + 1, s') ∧ 0 ≤ b ∧ b ≤ 255 := by
  have e1 : wrap64 (i + 1) = i + 1 := w64 (by omega) (by omega)
  have hl := hc.2
  unfold spec_l1Cur_next.f
  rw [e1]
  by_cases c1 : i < (c.length : Int)
  · obtain ⟨b0, b1⟩ := rd_byte hc i h0 c1
    rw [if_pos c1, if_pos h0, if_pos (by omega), w64 (x := rd c i) (by omega) (by omega)]
    exact ⟨_, _, rfl, b0, b1⟩
  · rw [if_neg c1]
    by_cases c2 : i + 1 ≤ (c.length : Int)
    · exact absurd c2 (by omega)
    · rw [if_neg c2]
      obtain ⟨b, e, b0, b1⟩ := mask8 ((IntKind.u64.wrap ((IntKind.u64.wrap (s * 6364136223846793005)))) + 1442695040888963407)
      rw [e]
      exact ⟨_, _, rfl, b0, b1⟩
/-- A pick: a number from 0 to below n; the cursor goes on by two at most. -/
theorem pick_ok {c : List Int} (hc : bytesOk c) (i s n : Int) (h0 : 0 ≤ i) (hB : i ≤ 1000000000) (hn : n ≤ 1000000000) : ∃ v i' s', spec_l1Cur_pick.f c i s n = some (v, i', s') ∧ 0 ≤ v ∧ (1 ≤ n → v < n) ∧ v ≤ 65535 ∧ i ≤ i' ∧ i' ≤ i + 2 := by
  unfold spec_l1Cur_pick.f
  by_cases c1 : n ≤ 1
  · rw [if_pos c1]
    exact ⟨_, _, _, rfl, by omega, by omega, by omega, by omega, by omega⟩
  · rw [if_neg c1]
    obtain ⟨b, s1, e1, b0, b1⟩ := next_ok hc i s h0 (by omega)
    rw [e1]
    simp only [Option.bind_some]
    by_cases c2 : n > 200
    · rw [if_pos c2]
      obtain ⟨d, s2, e2, d0, d1⟩ := next_ok hc (i + 1) s1 (by omega) (by omega)
      rw [e2]
      simp only [Option.bind_some]
      rw [if_neg (by omega), w64 (x := b * 256) (by omega) (by omega), w64 (x := b * 256 + d) (by omega) (by omega), Int.tmod_eq_emod_of_nonneg (by omega)]
      have m1 := Int.emod_nonneg (b * 256 + d) (b := n) (by omega)
      have m2 := Int.emod_lt_of_pos (b * 256 + d) (b := n) (by omega)
      have m3 : (b * 256 + d) % n ≤ b * 256 + d := emod_le' (by omega) (by omega)
      exact ⟨_, _, _, rfl, m1, fun _ => m2, by omega, by omega, by omega⟩
    · rw [if_neg c2, if_neg (by omega), Int.tmod_eq_emod_of_nonneg b0]
      have m1 := Int.emod_nonneg b (b := n) (by omega)
      have m2 := Int.emod_lt_of_pos b (b := n) (by omega)
      have m3 : b % n ≤ b := emod_le' (by omega) (by omega)
      exact ⟨_, _, _, rfl, m1, fun _ => m2, by omega, by omega, by omega⟩
end Go.Proofs.Ytkokbcnecnpgcaa.X
end
section
/- Leans of a plank: whole roots, and the pairs whose squares come to the plank's. -/
--! needs LBase impl_root impl_leans spec_cnLeans
namespace Go.Proofs.Ytkokbcnecnpgcaa.X
open Go.Proofs.Ytkokbcnecnpgcaa.Sq Go.RowKit Go.Proofs.YtkokbcnecnpgcaaW.PrintWords Go.Proofs.YtkokbcnecnpgcaaW.PrintLast Go.Proofs.YtkokbcnecnpgcaaW.PrintMore
attribute [local go_sem] max2_int min2_int max_two min_two max_three min_three max_four min_four   -- for this text's walks alone
set_option linter.unusedVariables false
set_option linter.unusedSimpArgs false
def rootN : Nat → Nat
 | 0 => 0
 | n + 1 => if (rootN n + 1) * (rootN n + 1) ≤ n + 1 then rootN n + 1 else rootN n
theorem sq_step (r : Nat) : (r + 1) * (r + 1) = r * r + 2 * r + 1 := by
  rw [Nat.add_mul, Nat.mul_add, Nat.mul_one, Nat.one_mul]
  omega
theorem rootN_spec : ∀ n, rootN n * rootN n ≤ n ∧ n < (rootN n + 1) * (rootN n + 1)
 | 0 => by decide
 | n + 1 => by
  obtain ⟨h1, h2⟩ := rootN_spec n
  rw [rootN]
  split
  · rename_i h
    have h3 := sq_step (rootN n + 1)
    exact ⟨h, by omega⟩
  · rename_i h
    exact ⟨by omega, by omega⟩
theorem sq_le {a b : Nat} (h : a ≤ b) : a * a ≤ b * b := Nat.mul_le_mul h h
theorem sq_lt {a b : Nat} (h : a < b) : a * a < b * b := by
  have h1 := sq_le (show a + 1 ≤ b from h)
  have h2 := sq_step a
  omega
theorem rootN_le {n r : Nat} (h : r * r ≤ n) : r ≤ rootN n := by
  rcases Nat.lt_or_ge (rootN n) r with h1 | h1
  · have h2 := sq_le (show rootN n + 1 ≤ r from h1)
    have := (rootN_spec n).2
    omega
  · exact h1
theorem rootN_ge {n r : Nat} (h : n < (r + 1) * (r + 1)) : rootN n ≤ r := by
  rcases Nat.lt_or_ge r (rootN n) with h1 | h1
  · have h2 := sq_le (show r + 1 ≤ rootN n from h1)
    have := (rootN_spec n).1
    omega
  · exact h1
theorem rootN_small {n : Nat} (h : n ≤ 40000) : rootN n ≤ 200 := rootN_ge (by omega)
theorem root_ev (n : Nat) (hn : n ≤ 40000) : Ev (fun k => impl_root.f k (n : Int)) (rootN n : Int) := by
  have h200 := rootN_small hn
  have key : ∀ e i, i + e = rootN n → Ev (fun k => impl_root.l0 k (n : Int) (i : Int)) (rootN n : Int) := by
    intro e
    induction e with
    | zero =>
      intro i hi
      refine Ev.step (fun k => by rw [impl_root.l0]) ?_
      obtain rfl : i = rootN n := by omega
      have h1 := (rootN_spec n).2
      have h2 : (rootN n + 1) * (rootN n + 1) ≤ 201 * 201 := sq_le (by omega)
      rw [show wrap64 ((rootN n : Int) + 1) = ((rootN n + 1 : Nat) : Int) from (w64 (by omega) (by omega)).trans (by omega), ← Int.natCast_mul]
      rw [w64 (x := (((rootN n + 1) * (rootN n + 1) : Nat) : Int)) (by omega) (by omega)]
      exact evNeg (by omega) (evSome rfl)
    | succ e ih =>
      intro i hi
      refine Ev.step (fun k => by rw [impl_root.l0]) ?_
      have h1 := (rootN_spec n).1
      have h2 : (i + 1) * (i + 1) ≤ rootN n * rootN n := sq_le (by omega)
      rw [show wrap64 ((i : Int) + 1) = ((i + 1 : Nat) : Int) from (w64 (by omega) (by omega)).trans (by omega), ← Int.natCast_mul]
      rw [w64 (x := (((i + 1) * (i + 1) : Nat) : Int)) (by omega) (by omega)]
      exact evPos (by omega) (ih (i + 1) (by omega))
  unfold impl_root.f
  exact key (rootN n) 0 (by omega)
/-- The leans whose foot is a or more, e feet in all. -/
def leansF (p : Nat) : Nat → Nat → List (Nat × Nat)
 | 0, _ => []
 | e + 1, a => if a ≤ rootN (p * p - a * a) ∧ a * a + rootN (p * p - a * a) * rootN (p * p - a * a) = p * p then (a, rootN (p * p - a * a)) :: leansF p e (a + 1) else leansF p e (a + 1)
def leansL (p : Nat) : List (Nat × Nat) := leansF p (p - 1) 1
theorem leansF_len (p : Nat) : ∀ e a, (leansF p e a).length ≤ e
 | 0, _ => Nat.le_refl _
 | e + 1, a => by
  have := leansF_len p e (a + 1)
  rw [leansF]
  split
  · rw [List.length_cons]; omega
  · omega
theorem leans_l0 (p : Nat) (hp : p ≤ 200) : ∀ (e a : Nat) (acc : List (List Int)), a + e = p → 1 ≤ a → acc.length + e ≤ 1000000 → Ev (fun k => impl_leans.l0 k (p : Int) acc (a : Int)) (acc ++ (leansF p e a).map fun q => [(q.1 : Int), (q.2 : Int), (p : Int)]) := by
  intro e
  induction e with
  | zero =>
    intro a acc ha h1 hacc
    refine Ev.step (fun k => by rw [impl_leans.l0]) ?_
    exact evNeg (by omega) (evSome (by simp [leansF]))
  | succ e ih =>
    intro a acc ha h1 hacc
    refine Ev.step (fun k => by rw [impl_leans.l0]) ?_
    have hpp : p * p ≤ 200 * 200 := sq_le hp
    have haa : a * a ≤ p * p := sq_le (by omega)
    have hr := root_ev (p * p - a * a) (by omega)
    have hb := rootN_small (n := p * p - a * a) (by omega)
    have hb1 := (rootN_spec (p * p - a * a)).1
    rw [leansF]
    generalize hB : rootN (p * p - a * a) = b at hr hb hb1 ⊢
    rw [← Int.natCast_mul, ← Int.natCast_mul, w64 (x := ((p * p : Nat) : Int)) (by omega) (by omega), w64 (x := ((a * a : Nat) : Int)) (by omega) (by omega), show wrap64 (((p * p : Nat) : Int) - ((a * a : Nat) : Int)) = ((p * p - a * a : Nat) : Int) from (w64 (by omega) (by omega)).trans (by omega)]
    refine evPos (by omega) (Ev.bind hr ?_)
    rw [← Int.natCast_mul, w64 (x := ((b * b : Nat) : Int)) (by omega) (by omega), ← Int.natCast_add, w64 (x := ((a * a + b * b : Nat) : Int)) (by omega) (by omega), show wrap64 ((a : Int) + 1) = ((a + 1 : Nat) : Int) from (w64 (by omega) (by omega)).trans (by omega)]
    refine evSplit (fun c1 => evSplit (fun c2 => ?_) (fun c2 => ?_)) (fun c1 => ?_)
    · rw [if_pos ⟨by omega, by omega⟩]
      refine evPos (by omega) (evEq (ih (a + 1) _ (by omega) (by omega) (by rw [List.length_append, List.length_cons, List.length_nil]; omega)) ?_)
      simp
    · rw [if_neg (fun h => c2 (by omega))]
      exact ih (a + 1) acc (by omega) (by omega) (by omega)
    · rw [if_neg (fun h => c1 (by omega))]
      exact ih (a + 1) acc (by omega) (by omega) (by omega)
theorem leans_ev (p : Nat) (hp : p ≤ 200) (h1 : 1 ≤ p) : Ev (fun k => impl_leans.f k (p : Int)) ((leansL p).map fun q => [(q.1 : Int), (q.2 : Int), (p : Int)]) := by
  unfold impl_leans.f
  have h := leans_l0 p hp (p - 1) 1 [] (by omega) (by omega) (by simp; omega)
  exact h
/-- Two pointers: the reference's way. -/
theorem leansF_none (p : Nat) : ∀ e a, (∀ a', a ≤ a' → rootN (p * p - a' * a') < a') → leansF p e a = []
 | 0, _, _ => rfl
 | e + 1, a, h => by
  rw [leansF, if_neg (fun hc => by have := h a (Nat.le_refl _); omega)]
  exact leansF_none p e (a + 1) (fun a' ha => h a' (by omega))
theorem cnLeans_l1 (p : Nat) (hp : p ≤ 200) (a : Nat) (acc : List (List Int)) (ha : a ≤ p) (r : List (List Int)) (h : Ev (fun k => spec_cnLeans.l1 k (p : Int) acc (rootN (p * p - a * a) : Int) (a : Int)) r) : ∀ e b, rootN (p * p - a * a) + e = b → b ≤ 200 → Ev (fun k => spec_cnLeans.l1 k (p : Int) acc (b : Int) (a : Int)) r := by
  intro e
  induction e with
  | zero =>
    intro b hb _
    obtain rfl : b = rootN (p * p - a * a) := by omega
    exact h
  | succ e ih =>
    intro b hb h200
    refine Ev.step (fun k => by rw [spec_cnLeans.l1]) ?_
    have hpp : p * p ≤ 200 * 200 := sq_le hp
    have haa : a * a ≤ p * p := sq_le ha
    have hbb : b * b ≤ 200 * 200 := sq_le h200
    have h2 := (rootN_spec (p * p - a * a)).2
    have h3 : (rootN (p * p - a * a) + 1) * (rootN (p * p - a * a) + 1) ≤ b * b := sq_le (by omega)
    rw [← Int.natCast_mul, ← Int.natCast_mul, ← Int.natCast_mul, w64 (x := ((p * p : Nat) : Int)) (by omega) (by omega), w64 (x := ((a * a : Nat) : Int)) (by omega) (by omega), w64 (x := ((b * b : Nat) : Int)) (by omega) (by omega), ← Int.natCast_add, w64 (x := ((a * a + b * b : Nat) : Int)) (by omega) (by omega), show wrap64 ((b : Int) - 1) = ((b - 1 : Nat) : Int) from (w64 (by omega) (by omega)).trans (by omega)]
    exact evPos (by omega) (ih (b - 1) (by omega) (by omega))
theorem rootN_mono {m n : Nat} (h : m ≤ n) : rootN m ≤ rootN n := rootN_le (Nat.le_trans (rootN_spec m).1 h)
theorem leansF_last (p : Nat) (hp : 1 ≤ p) : ∀ e a, a + e = p → leansF p (e + 1) a = leansF p e a
 | 0, a, h => by
  obtain rfl : a = p := by omega
  unfold leansF
  rw [Nat.sub_self, if_neg (fun hc => by have : rootN 0 = 0 := rfl; omega)]
  rfl
 | e + 1, a, h => by
  conv => lhs; rw [leansF]
  rw [leansF_last p hp e (a + 1) (by omega)]
  rfl
theorem cnLeans_l0 (p : Nat) (hp : p ≤ 200) : ∀ (e a b : Nat) (acc : List (List Int)), a + e = p + 1 → 1 ≤ a → rootN (p * p - a * a) ≤ b → b ≤ p → acc.length + e ≤ 1000000 → Ev (fun k => spec_cnLeans.l0 k (p : Int) acc (b : Int) (a : Int)) (acc ++ (leansF p e a).map fun q => [(q.1 : Int), (q.2 : Int)]) := by
  intro e
  induction e with
  | zero =>
    intro a b acc ha h1 hr hb hacc
    refine Ev.step (fun k => by rw [spec_cnLeans.l0]) ?_
    exact evNeg (by omega) (evSome (by simp [leansF]))
  | succ e ih =>
    intro a b acc ha h1 hr hb hacc
    refine Ev.step (fun k => by rw [spec_cnLeans.l0]) ?_
    by_cases hab : a ≤ b
    · refine evPos (by omega) (cnLeans_l1 p hp a acc (by omega) _ ?_ (b - rootN (p * p - a * a)) b (by omega) (by omega))
      refine Ev.step (fun k => by rw [spec_cnLeans.l1]) ?_
      have hpp : p * p ≤ 200 * 200 := sq_le hp
      have haa : a * a ≤ p * p := sq_le (by omega)
      have hb1 := (rootN_spec (p * p - a * a)).1
      have hmono : rootN (p * p - (a + 1) * (a + 1)) ≤ rootN (p * p - a * a) := rootN_mono (by have := sq_step a; omega)
      rw [leansF]
      generalize hB : rootN (p * p - a * a) = c at hr hb1 hmono ⊢
      rw [← Int.natCast_mul, ← Int.natCast_mul, ← Int.natCast_mul, w64 (x := ((p * p : Nat) : Int)) (by omega) (by omega), w64 (x := ((a * a : Nat) : Int)) (by omega) (by omega), w64 (x := ((c * c : Nat) : Int)) (by omega) (by omega), ← Int.natCast_add, w64 (x := ((a * a + c * c : Nat) : Int)) (by omega) (by omega), show wrap64 ((a : Int) + 1) = ((a + 1 : Nat) : Int) from (w64 (by omega) (by omega)).trans (by omega)]
      refine evNeg (by omega) (evSplit (fun c1 => evSplit (fun c2 => ?_) (fun c2 => ?_)) (fun c1 => ?_))
      · rw [if_pos ⟨by omega, by omega⟩]
        refine evPos (by omega) (evEq (ih (a + 1) c _ (by omega) (by omega) hmono (by omega) (by rw [List.length_append, List.length_cons, List.length_nil]; omega)) ?_)
        simp
      · rw [if_neg (fun h => c2 (by omega))]
        exact ih (a + 1) c acc (by omega) (by omega) hmono (by omega) (by omega)
      · rw [if_neg (fun h => c1 (by omega))]
        exact ih (a + 1) c acc (by omega) (by omega) hmono (by omega) (by omega)
    · refine evNeg (by omega) (evSome ?_)
      rw [leansF_none p (e + 1) a (fun a' ha' => by
        have h2 := sq_le ha'
        have h3 : rootN (p * p - a' * a') ≤ rootN (p * p - a * a) := rootN_mono (by omega)
        omega)]
      simp
theorem cnLeans_ev (p : Nat) (hp : p ≤ 200) (h1 : 1 ≤ p) : Ev (fun k => spec_cnLeans.f k (p : Int)) ((leansL p).map fun q => [(q.1 : Int), (q.2 : Int)]) := by
  unfold spec_cnLeans.f
  have h := cnLeans_l0 p hp p 1 p [] (by omega) (by omega) (rootN_ge (by have := sq_step p; omega)) (Nat.le_refl _) (by simp; omega)
  have e1 : leansF p p 1 = leansL p := by
    obtain ⟨q, rfl⟩ : ∃ q, p = q + 1 := ⟨p - 1, by omega⟩
    exact leansF_last (q + 1) (by omega) q 1 (by omega)
  rw [e1] at h
  exact h
/-! ### What the pairs are -/
theorem leansF_mem (p : Nat) : ∀ e a (q : Nat × Nat), q ∈ leansF p e a ↔ (a ≤ q.1 ∧ q.1 < a + e ∧ q.1 ≤ q.2 ∧ q.2 = rootN (p * p - q.1 * q.1) ∧ q.1 * q.1 + q.2 * q.2 = p * p)
 | 0, a, q => by simp [leansF]; omega
 | e + 1, a, q => by
  have ih := leansF_mem p e (a + 1) q
  rw [leansF]
  split
  · rename_i h
    rw [List.mem_cons, ih]
    constructor
    · rintro (rfl | h2)
      · exact ⟨Nat.le_refl _, by omega, h.1, rfl, h.2⟩
      · exact ⟨by omega, by omega, h2.2.2⟩
    · rintro ⟨h1, h2, h3, h4, h5⟩
      by_cases ha : q.1 = a
      · left
        obtain ⟨x, y⟩ := q
        dsimp only at ha h4
        subst ha
        rw [h4]
      · exact .inr ⟨by omega, by omega, h3, h4, h5⟩
  · rename_i h
    rw [ih]
    constructor
    · rintro ⟨h1, h2, h3⟩
      exact ⟨by omega, by omega, h3⟩
    · rintro ⟨h1, h2, h3, h4, h5⟩
      have ha : q.1 ≠ a := fun ha => h (by rw [← ha, ← h4]; exact ⟨h3, h5⟩)
      exact ⟨by omega, by omega, h3, h4, h5⟩
theorem leansF_sorted (p : Nat) : ∀ e a, (leansF p e a).Pairwise (fun x y => x.1 < y.1)
 | 0, _ => .nil
 | e + 1, a => by
  have ih := leansF_sorted p e (a + 1)
  rw [leansF]
  split
  · rw [List.pairwise_cons]
    exact ⟨fun y hy => by have := ((leansF_mem p e (a + 1) y).1 hy).1; show a < y.1; omega, ih⟩
  · exact ih
end Go.Proofs.Ytkokbcnecnpgcaa.X
end
section
/- The lists of leans: the program's and the reference's. -/
--! needs LBase LPlank impl_within impl_isPlankLong spec_l1In spec_cnPlank impl_WholeLeans spec_WholeLeans
namespace Go.Proofs.Ytkokbcnecnpgcaa.X
open Go.Proofs.Ytkokbcnecnpgcaa.Sq Go.RowKit Go.Proofs.YtkokbcnecnpgcaaW.PrintWords Go.Proofs.YtkokbcnecnpgcaaW.PrintLast Go.Proofs.YtkokbcnecnpgcaaW.PrintMore
attribute [local go_sem] max2_int min2_int max_two min_two max_three min_three max_four min_four   -- for this text's walks alone
set_option linter.unusedVariables false
set_option linter.unusedSimpArgs false
def plankB (a : Int) : Bool := decide (1 ≤ a ∧ a ≤ 200)
theorem plank_i (a : Int) : impl_isPlankLong.f a = some (plankB a) := by
  unfold impl_isPlankLong.f impl_within.f plankB
  by_cases h : 1 ≤ a
  · rw [if_pos h]
    simp [h]
  · rw [if_neg h]
    simp [h]
theorem plank_s (a : Int) : spec_cnPlank.f a = some (plankB a) := by
  unfold spec_cnPlank.f spec_l1In.f plankB
  by_cases h : 1 ≤ a
  · rw [if_pos h]
    simp [h]
  · rw [if_neg h]
    simp [h]
theorem whole_l0 (L : List (List Int)) (h2 : ∀ x ∈ L, 2 ≤ x.length) (hl : L.length ≤ 100000) : ∀ (e i : Nat) (acc : List (List Int)), i + e = L.length → acc.length + e ≤ 1000000 → Ev (fun k => impl_WholeLeans.l0 k acc L (L.length : Int) (i : Int)) (acc ++ (L.drop i).map (List.take 2), true) := by
  intro e
  induction e with
  | zero =>
    intro i acc hi ha
    refine Ev.step (fun k => by rw [impl_WholeLeans.l0]) ?_
    refine evNeg (by omega) (evSome ?_)
    rw [List.drop_of_length_le (by omega)]
    simp
  | succ e ih =>
    intro i acc hi ha
    refine Ev.step (fun k => by rw [impl_WholeLeans.l0]) ?_
    have hr : rd_L2 L (i : Int) = L.getD i [] := by unfold rd_L2; rw [Int.toNat_natCast]
    have hm : 2 ≤ (L.getD i []).length := by
      rw [← getElem_getD L i [] (by omega)]
      exact h2 _ (List.getElem_mem _)
    rw [hr, show wrap64 ((i : Int) + 1) = ((i + 1 : Nat) : Int) from (w64 (by omega) (by omega)).trans (by omega)]
    refine evPos (by omega) (evPos (by omega) (evPos (by omega) (evPos (by omega) (evPos (by omega) ?_))))
    refine evEq (ih (i + 1) _ (by omega) (by rw [List.length_append, List.length_cons, List.length_nil]; omega)) ?_
    rw [getD_drop_cons L i [] (by omega)]
    simp
def rowsW (p : Nat) : List (List Int) := (leansL p).map fun q => [(q.1 : Int), (q.2 : Int)]
theorem leansL_len (p : Nat) : (leansL p).length ≤ p := Nat.le_trans (leansF_len p (p - 1) 1) (by omega)
theorem whole_i (p : Nat) (h1 : 1 ≤ p) (hp : p ≤ 200) : Ev (fun k => impl_WholeLeans.f k (p : Int)) (rowsW p, true) := by
  unfold impl_WholeLeans.f
  have hl := leansL_len p
  refine evBind0 (plank_i p) (evPos (by unfold plankB; exact decide_eq_true (by omega)) (Ev.bind (leans_ev p hp h1) ?_))
  have h := whole_l0 ((leansL p).map fun q => [(q.1 : Int), (q.2 : Int), (p : Int)]) (fun x hx => by
    obtain ⟨q, _, rfl⟩ := List.mem_map.1 hx
    simp) (by rw [List.length_map]; omega) _ 0 [] (Nat.zero_add _) (by rw [List.length_map]; simp; omega)
  refine evEq h ?_
  unfold rowsW
  simp
theorem whole_s (p : Nat) (h1 : 1 ≤ p) (hp : p ≤ 200) : Ev (fun k => spec_WholeLeans.f k (p : Int)) (rowsW p, true) := by
  unfold spec_WholeLeans.f
  exact evBind0 (plank_s p) (evPos (by unfold plankB; exact decide_eq_true (by omega)) (Ev.bind (cnLeans_ev p hp h1) (evSome rfl)))
theorem whole_no (a : Int) (h : ¬ (1 ≤ a ∧ a ≤ 200)) : Ev (fun k => impl_WholeLeans.f k a) ([], false) ∧ Ev (fun k => spec_WholeLeans.f k a) ([], false) := by
  have hb : plankB a = false := decide_eq_false h
  refine ⟨?_, ?_⟩
  · unfold impl_WholeLeans.f
    exact evBind0 (plank_i a) (evNeg (by rw [hb]; simp) (evSome rfl))
  · unfold spec_WholeLeans.f
    exact evBind0 (plank_s a) (evNeg (by rw [hb]; simp) (evSome rfl))
end Go.Proofs.Ytkokbcnecnpgcaa.X
end
section
/- All leans of planks up to one, and heights: the program's side. -/
--! needs LBase LPlank LPlankW impl_LeansUpTo impl_LeanHeight
namespace Go.Proofs.Ytkokbcnecnpgcaa.X
open Go.Proofs.Ytkokbcnecnpgcaa.Sq Go.RowKit Go.Proofs.YtkokbcnecnpgcaaW.PrintWords Go.Proofs.YtkokbcnecnpgcaaW.PrintLast Go.Proofs.YtkokbcnecnpgcaaW.PrintMore
attribute [local go_sem] max2_int min2_int max_two min_two max_three min_three max_four min_four   -- for this text's walks alone
set_option linter.unusedVariables false
set_option linter.unusedSimpArgs false
def rows3 (p : Nat) : List (List Int) := (leansL p).map fun q => [(q.1 : Int), (q.2 : Int), (p : Int)]
theorem rows3_len (p : Nat) : (rows3 p).length ≤ p := by unfold rows3; rw [List.length_map]; exact leansL_len p
/-- The rows of planks from p on, e planks. -/
def allF : Nat → Nat → List (List Int)
 | 0, _ => []
 | e + 1, p => rows3 p ++ allF e (p + 1)
theorem upto_l0 (most : Nat) (hm : most ≤ 200) : ∀ (e p : Nat) (acc : List (List Int)), p + e = most + 1 → 1 ≤ p → acc.length + e * 200 ≤ 1000000 → Ev (fun k => impl_LeansUpTo.l0 k (most : Int) acc (p : Int)) (acc ++ allF e p, true) := by
  intro e
  induction e with
  | zero =>
    intro p acc hp h1 ha
    refine Ev.step (fun k => by rw [impl_LeansUpTo.l0]) ?_
    exact evNeg (by omega) (evSome (by simp [allF]))
  | succ e ih =>
    intro p acc hp h1 ha
    refine Ev.step (fun k => by rw [impl_LeansUpTo.l0]) ?_
    have hl := rows3_len p
    have hE : Ev (fun k => impl_leans.f k (p : Int)) (rows3 p) := leans_ev p (by omega) h1
    rw [show wrap64 ((p : Int) + 1) = ((p + 1 : Nat) : Int) from (w64 (by omega) (by omega)).trans (by omega)]
    refine evPos (by omega) (Ev.bind hE (evPos (by omega) (evEq (ih (p + 1) (acc ++ rows3 p) (by omega) (by omega) (by rw [List.length_append]; omega)) ?_)))
    rw [allF, List.append_assoc]
theorem upto_i (most : Nat) (h1 : 1 ≤ most) (hm : most ≤ 200) : Ev (fun k => impl_LeansUpTo.f k (most : Int)) (allF most 1, true) := by
  unfold impl_LeansUpTo.f
  refine evBind0 (plank_i most) (evPos (by unfold plankB; exact decide_eq_true (by omega)) ?_)
  exact upto_l0 most hm most 1 [] (by omega) (by omega) (by simp; omega)
theorem upto_no (a : Int) (h : ¬ (1 ≤ a ∧ a ≤ 200)) : Ev (fun k => impl_LeansUpTo.f k a) ([], false) := by
  have hb : plankB a = false := decide_eq_false h
  unfold impl_LeansUpTo.f
  exact evBind0 (plank_i a) (evNeg (by rw [hb]; simp) (evSome rfl))
def hgt (p f : Nat) : Nat := rootN (p * p - f * f)
theorem within_f (a l h : Int) : impl_within.f a l h = some (decide (l ≤ a ∧ a ≤ h)) := by
  unfold impl_within.f
  by_cases c : l ≤ a
  · rw [if_pos c]
    simp [c]
  · rw [if_neg c]
    simp [c]
theorem height_i (p f : Nat) (h1 : 1 ≤ p) (hp : p ≤ 200) (hf : f ≤ p) : Ev (fun k => impl_LeanHeight.f k (p : Int) (f : Int)) ((hgt p f : Int), ((p * p - f * f - hgt p f * hgt p f : Nat) : Int), true) := by
  unfold impl_LeanHeight.f
  have hpp : p * p ≤ 200 * 200 := sq_le hp
  have hff : f * f ≤ p * p := sq_le hf
  have hb1 := (rootN_spec (p * p - f * f)).1
  have hr := root_ev (p * p - f * f) (by omega)
  refine evBind0 (plank_i p) (evPos (by unfold plankB; exact decide_eq_true (by omega)) (evBind0 (within_f f 0 p) (evPos (decide_eq_true (by omega)) ?_)))
  rw [← Int.natCast_mul, ← Int.natCast_mul, w64 (x := ((p * p : Nat) : Int)) (by omega) (by omega), w64 (x := ((f * f : Nat) : Int)) (by omega) (by omega), show wrap64 (((p * p : Nat) : Int) - ((f * f : Nat) : Int)) = ((p * p - f * f : Nat) : Int) from (w64 (by omega) (by omega)).trans (by omega)]
  refine Ev.bind hr (evSome ?_)
  unfold hgt
  rw [← Int.natCast_mul, w64 (x := ((rootN (p * p - f * f) * rootN (p * p - f * f) : Nat) : Int)) (by omega) (by omega), show wrap64 (((p * p - f * f : Nat) : Int) - ((rootN (p * p - f * f) * rootN (p * p - f * f) : Nat) : Int)) = ((p * p - f * f - rootN (p * p - f * f) * rootN (p * p - f * f) : Nat) : Int) from (w64 (by omega) (by omega)).trans (by omega)]
theorem height_no (a b : Int) (h : ¬ (1 ≤ a ∧ a ≤ 200 ∧ 0 ≤ b ∧ b ≤ a)) : Ev (fun k => impl_LeanHeight.f k a b) (0, 0, false) := by
  unfold impl_LeanHeight.f
  refine evBind0 (plank_i a) (evSplit (fun c => ?_) (fun _ => evSome rfl))
  unfold plankB at c
  have c1 := of_decide_eq_true c
  exact evBind0 (within_f b 0 a) (evNeg (by simp; omega) (evSome rfl))
theorem sub_len {α : Type} [DecidableEq α] : ∀ (l m : List α), l.Nodup → (∀ x ∈ l, x ∈ m) → l.length ≤ m.length
 | [], _, _, _ => Nat.zero_le _
 | a :: l, m, hn, hs => by
  rw [List.nodup_cons] at hn
  have ha := hs a (List.mem_cons_self ..)
  have ih := sub_len l (m.erase a) hn.2 (fun x hx => by
    have hne : x ≠ a := fun e => hn.1 (e ▸ hx)
    exact (List.mem_erase_of_ne hne).2 (hs x (List.mem_cons_of_mem _ hx)))
  have hl := List.length_erase_of_mem ha
  have hp := List.length_pos_of_mem ha
  rw [List.length_cons]
  omega
theorem leansL_mem (p : Nat) (q : Nat × Nat) : q ∈ leansL p ↔ (1 ≤ q.1 ∧ q.1 < p ∧ q.1 ≤ q.2 ∧ q.1 * q.1 + q.2 * q.2 = p * p) := by
  unfold leansL
  rw [leansF_mem]
  constructor
  · rintro ⟨h1, h2, h3, h4, h5⟩
    exact ⟨h1, by omega, h3, h5⟩
  · rintro ⟨h1, h2, h3, h5⟩
    refine ⟨h1, by omega, h3, ?_, h5⟩
    have e : p * p - q.1 * q.1 = q.2 * q.2 := by omega
    rw [e]
    exact Nat.le_antisymm (rootN_le (Nat.le_refl _)) (rootN_ge (by have := sq_step q.2; omega))
theorem leansL_twice (p : Nat) : (leansL p).length ≤ (leansL (2 * p)).length := by
  have hs := leansF_sorted p (p - 1) 1
  have h1 : ((leansL p).map fun q => (2 * q.1, 2 * q.2)).Nodup := by
    refine List.pairwise_map.2 (List.Pairwise.imp ?_ hs)
    intro x y hxy he
    have := congrArg Prod.fst he
    dsimp only at this
    omega
  have h2 := sub_len _ (leansL (2 * p)) h1 (fun x hx => by
    obtain ⟨q, hq, rfl⟩ := List.mem_map.1 hx
    obtain ⟨a1, a2, a3, a4⟩ := (leansL_mem p q).1 hq
    refine (leansL_mem (2 * p) _).2 ⟨by dsimp only; omega, by dsimp only; omega, by dsimp only; omega, ?_⟩
    have e : ∀ z : Nat, 2 * z * (2 * z) = 4 * (z * z) := fun z => by
      rw [Nat.mul_assoc, Nat.mul_left_comm z 2 z, ← Nat.mul_assoc]
    dsimp only
    rw [e, e, e]
    omega)
  rw [List.length_map] at h2
  exact h2
end Go.Proofs.Ytkokbcnecnpgcaa.X
end
