-- Written by a program of this session (wip/tools/mp.py) over the kit's print of the translation.
import Derived.Test.YtfegbmlcbdjcgaaX0
import Derived.Test.YtfegbmlcbdjcgaaX2
namespace Go.Proofs.Ytfegbmlcbdjcgaa.X
open Go.Proofs.Ytfegbmlcbdjcgaa.Sq Go.RowKit Go.Proofs.YtfegbmlcbdjcgaaW.PrintWords Go.Proofs.YtfegbmlcbdjcgaaW.PrintLast Go.Proofs.YtfegbmlcbdjcgaaW.PrintMore
attribute [local go_sem] max2_int min2_int max_two min_two max_three min_three max_four min_four   -- for this text's walks alone
set_option linter.unusedVariables false
set_option linter.unusedSimpArgs false

/-! ### spec_ptRising: function 32 -/
mutual
def spec_ptRising.j0 : Nat → List Int → List Int → List Int → Int → Option (List Int)
 | 0, _, _, _, _ => none
 | k + 1, x0, x1, x5, x6 => spec_ptRising.l0 k x0 x1 x5 x6
def spec_ptRising.l0 : Nat → List Int → List Int → List Int → Int → Option (List Int)
 | 0, _, _, _, _ => none
 | k + 1, x0, x1, x5, x8 => if x8 < (x0.length : Int) then (if (x1.length : Int) > 0 then (if 0 ≤ x8 then (if 0 ≤ (wrap64 ((x1.length : Int) - 1)) then (if (wrap64 ((x1.length : Int) - 1)) < (x1.length : Int) then (if 0 ≤ (rd x1 (wrap64 ((x1.length : Int) - 1))) then (if (rd x1 (wrap64 ((x1.length : Int) - 1))) < (x0.length : Int) then (spec_ptRising.j2 k x0 x1 x5 x8 (decide ((rd x0 x8) < (rd x0 (rd x1 (wrap64 ((x1.length : Int) - 1))))))) else (none)) else (none)) else (none)) else (none)) else (none)) else (spec_ptRising.j2 k x0 x1 x5 x8 false)) else (some x5)
def spec_ptRising.j2 : Nat → List Int → List Int → List Int → Int → Bool → Option (List Int)
 | 0, _, _, _, _, _ => none
 | k + 1, x0, x1, x5, x8, x48 => if x48 = true then (spec_ptRising.l0 k x0 x1 x5 (wrap64 (x8 + 1))) else ((spec_l1Own.f x1).bind fun t127 => (if t127.length < 17592186044416 then ((spec_ptRising.f k x0 (t127 ++ [x8])).bind fun t133 => (if (t133.length : Int) > (x5.length : Int) then (spec_ptRising.l0 k x0 x1 t133 (wrap64 (x8 + 1))) else (spec_ptRising.l0 k x0 x1 x5 (wrap64 (x8 + 1))))) else (none)))
def spec_ptRising.f : Nat → List Int → List Int → Option (List Int)
 | 0, _, _ => none
 | k + 1, l0, l1 => (spec_l1Own.f l1).bind fun t120 => (if (l1.length : Int) > 0 then (if 0 ≤ (wrap64 ((l1.length : Int) - 1)) then (if (wrap64 ((l1.length : Int) - 1)) < (l1.length : Int) then (spec_ptRising.j0 k l0 l1 t120 (wrap64 ((rd l1 (wrap64 ((l1.length : Int) - 1))) + 1))) else (none)) else (none)) else (spec_ptRising.j0 k l0 l1 t120 0))
end
theorem spec_ptRising.mono_l : ∀ k, (∀ y0 y1, LeO (spec_ptRising.f k y0 y1) (spec_ptRising.f (k + 1) y0 y1)) ∧ (∀ y0 y1 y2 y3, LeO (spec_ptRising.j0 k y0 y1 y2 y3) (spec_ptRising.j0 (k + 1) y0 y1 y2 y3)) ∧ (∀ y0 y1 y2 y3, LeO (spec_ptRising.l0 k y0 y1 y2 y3) (spec_ptRising.l0 (k + 1) y0 y1 y2 y3)) ∧ (∀ y0 y1 y2 y3 y4, LeO (spec_ptRising.j2 k y0 y1 y2 y3 y4) (spec_ptRising.j2 (k + 1) y0 y1 y2 y3 y4))
 | 0 => ⟨fun _ _ r h => by simp [spec_ptRising.f] at h, fun _ _ _ _ r h => by simp [spec_ptRising.j0] at h, fun _ _ _ _ r h => by simp [spec_ptRising.l0] at h, fun _ _ _ _ _ r h => by simp [spec_ptRising.j2] at h⟩
 | k + 1 => by
  obtain ⟨ih0, ih1, ih2, ih3⟩ := spec_ptRising.mono_l k
  refine ⟨?_, ?_, ?_, ?_⟩
  ·intro y0 y1
   unfold spec_ptRising.f
   repeat' first
   | (with_reducible exact ih0 _ _)
   | (with_reducible exact ih1 _ _ _ _)
   | (with_reducible exact ih2 _ _ _ _)
   | (with_reducible exact ih3 _ _ _ _ _)
   | (with_reducible exact LeO.refl _)
   | (with_reducible exact LeO.none _)
   | (with_reducible refine LeO.ite ?_ ?_)
   | (with_reducible refine LeO.bind ?_ (fun _ => ?_))
   | exact ih0 _ _
   | exact ih1 _ _ _ _
   | exact ih2 _ _ _ _
   | exact ih3 _ _ _ _ _
   | exact LeO.none _
   | refine LeO.ite ?_ ?_
   | refine LeO.bind ?_ (fun _ => ?_)
  ·intro y0 y1 y2 y3
   unfold spec_ptRising.j0
   repeat' first
   | (with_reducible exact ih0 _ _)
   | (with_reducible exact ih1 _ _ _ _)
   | (with_reducible exact ih2 _ _ _ _)
   | (with_reducible exact ih3 _ _ _ _ _)
   | (with_reducible exact LeO.refl _)
   | (with_reducible exact LeO.none _)
   | (with_reducible refine LeO.ite ?_ ?_)
   | (with_reducible refine LeO.bind ?_ (fun _ => ?_))
   | exact ih0 _ _
   | exact ih1 _ _ _ _
   | exact ih2 _ _ _ _
   | exact ih3 _ _ _ _ _
   | exact LeO.none _
   | refine LeO.ite ?_ ?_
   | refine LeO.bind ?_ (fun _ => ?_)
  ·intro y0 y1 y2 y3
   unfold spec_ptRising.l0
   repeat' first
   | (with_reducible exact ih0 _ _)
   | (with_reducible exact ih1 _ _ _ _)
   | (with_reducible exact ih2 _ _ _ _)
   | (with_reducible exact ih3 _ _ _ _ _)
   | (with_reducible exact LeO.refl _)
   | (with_reducible exact LeO.none _)
   | (with_reducible refine LeO.ite ?_ ?_)
   | (with_reducible refine LeO.bind ?_ (fun _ => ?_))
   | exact ih0 _ _
   | exact ih1 _ _ _ _
   | exact ih2 _ _ _ _
   | exact ih3 _ _ _ _ _
   | exact LeO.none _
   | refine LeO.ite ?_ ?_
   | refine LeO.bind ?_ (fun _ => ?_)
  ·intro y0 y1 y2 y3 y4
   unfold spec_ptRising.j2
   repeat' first
   | (with_reducible exact ih0 _ _)
   | (with_reducible exact ih1 _ _ _ _)
   | (with_reducible exact ih2 _ _ _ _)
   | (with_reducible exact ih3 _ _ _ _ _)
   | (with_reducible exact LeO.refl _)
   | (with_reducible exact LeO.none _)
   | (with_reducible refine LeO.ite ?_ ?_)
   | (with_reducible refine LeO.bind ?_ (fun _ => ?_))
   | exact ih0 _ _
   | exact ih1 _ _ _ _
   | exact ih2 _ _ _ _
   | exact ih3 _ _ _ _ _
   | exact LeO.none _
   | refine LeO.ite ?_ ?_
   | refine LeO.bind ?_ (fun _ => ?_)
theorem spec_ptRising.mono : ∀ a0 a1 k, LeO (spec_ptRising.f k a0 a1) (spec_ptRising.f (k + 1) a0 a1) := by
 intro a0 a1 k
 obtain ⟨ih0, ih1, ih2, ih3⟩ := spec_ptRising.mono_l k
 exact ih0 a0 a1
set_option maxHeartbeats 8000000 in
set_option maxRecDepth 100000 in
theorem spec_ptRising.calls (k : Nat) : ∀ (A0 : Option Addr) (c0 : Nat) (l0 : List Int) (A1 : Option Addr) (c1 : Nat) (l1 : List Int) (r : List Int) (w : World) (hr0 : Kd.C (Kd.int .i64) w A0 l0.length l0) (hc0 : l0.length ≤ c0) (hr1 : Kd.C (Kd.int .i64) w A1 l1.length l1) (hc1 : l1.length ≤ c1) (h : spec_ptRising.f k l0 l1 = some r),
  Calls Try.prog 32 #[.slice A0 l0.length c0, .slice A1 l1.length c1] w fun e w' => ∃ v0_ : Value, e = .returned (v0_) ∧ Kd.R (Kd.int .i64) 3 w' w.heap.size (fun _ => True) v0_ r ∧ Below w.heap.size w w' := by
 induction k using Nat.strongRecOn with
 | _ k ih =>
 intro A0 c0 l0 A1 c1 l1 r w hr0 hc0 hr1 hc1 h
 cases k with
 | zero => exact absurd h (by simp [spec_ptRising.f])
 | succ k =>
 simp only [spec_ptRising.f] at h
 have HR0 := am hr0
 have HC0 := am hc0
 clear hr0 hc0
 have HR1 := am hr1
 have HC1 := am hc1
 clear hr1 hc1
 have HB := am (Below.refl w.heap.size w)
 have H : ((spec_l1Own.f l1).bind fun t120 => (if (l1.length : Int) > 0 then (if 0 ≤ (wrap64 ((l1.length : Int) - 1)) then (if (wrap64 ((l1.length : Int) - 1)) < (l1.length : Int) then (spec_ptRising.j0 k l0 l1 t120 (wrap64 ((rd l1 (wrap64 ((l1.length : Int) - 1))) + 1))) else (none)) else (none)) else (spec_ptRising.j0 k l0 l1 t120 0))) = some r := h
 clear h
 replace H := Option.bind_eq_some_iff.mp H
 obtain ⟨t120, A30, H⟩ := H
 replace H : (if (l1.length : Int) > 0 then (if 0 ≤ (wrap64 ((l1.length : Int) - 1)) then (if (wrap64 ((l1.length : Int) - 1)) < (l1.length : Int) then (spec_ptRising.j0 k l0 l1 t120 (wrap64 ((rd l1 (wrap64 ((l1.length : Int) - 1))) + 1))) else (none)) else (none)) else (spec_ptRising.j0 k l0 l1 t120 0)) = some r := H
 have A3 := am A30
 clear A30
 have HC4 := am H
 clear H
 go_enter Try.func32, Try.ntmps32
 go_upto_if 16 with (first | (go_at_call 46; (with_reducible refine (spec_l1Own.calls _ _ l1 t120 _ ?side1 ?side2 A3.out).mono ?_); (case side1 => repeat (first | exact HR1.out | (with_reducible refine Kd.C_alloc ?_ _) | (with_reducible refine Kd.C_drewN ?_ _) | (with_reducible refine Kd.C_drew ?_))); (case side2 => exact HC1.out); rintro e w5 ⟨v121, rfl, ho0, hb⟩; have n0_ := am (Kd.R_lower ho0 (below_size (hbS HB.out))); have n1_ := am (below_step (hbS HB.out) hb); clear HB; have HO122 := n0_; have HB := n1_; clear n0_ n1_; (try clear hb); (try clear hb2); (try clear hk); (try clear hi); (try clear ho0)))
 repeat (go_quiet (first | (go_at_call 46; (with_reducible refine (spec_l1Own.calls _ _ l1 t120 _ ?side1 ?side2 A3.out).mono ?_); (case side1 => repeat (first | exact HR1.out | (with_reducible refine Kd.C_alloc ?_ _) | (with_reducible refine Kd.C_drewN ?_ _) | (with_reducible refine Kd.C_drew ?_))); (case side2 => exact HC1.out); rintro e w5 ⟨v121, rfl, ho0, hb⟩; have n0_ := am (Kd.R_lower ho0 (below_size (hbS HB.out))); have n1_ := am (below_step (hbS HB.out) hb); clear HB; have HO122 := n0_; have HB := n1_; clear n0_ n1_; (try clear hb); (try clear hb2); (try clear hk); (try clear hi); (try clear ho0))); go_upto_if 16 with (first | (go_at_call 46; (with_reducible refine (spec_l1Own.calls _ _ l1 t120 _ ?side1 ?side2 A3.out).mono ?_); (case side1 => repeat (first | exact HR1.out | (with_reducible refine Kd.C_alloc ?_ _) | (with_reducible refine Kd.C_drewN ?_ _) | (with_reducible refine Kd.C_drew ?_))); (case side2 => exact HC1.out); rintro e w5 ⟨v121, rfl, ho0, hb⟩; have n0_ := am (Kd.R_lower ho0 (below_size (hbS HB.out))); have n1_ := am (below_step (hbS HB.out) hb); clear HB; have HO122 := n0_; have HB := n1_; clear n0_ n1_; (try clear hb); (try clear hb2); (try clear hk); (try clear hi); (try clear ho0))))
 (try simp only [Act.put, List.setIfInBounds_toArray, List.set_cons_zero, List.set_cons_succ])
 go_cut [6] (fun v6 wc => ∃ (kq : Nat) (x6_3 : Int), v6 = .int .i64 x6_3 ∧ Aside0 (spec_ptRising.j0 kq l0 l1 t120 x6_3 = some r) ∧ Aside0 (kq ≤ k) ∧ Aside0 (Kd.R (Kd.int .i64) 3 wc w.heap.size (fun _ => True) v121 t120) ∧ Aside0 (Below w.heap.size w wc))
 case first =>
  have H := HC4.out
  clear HC4
  by_cases c6 : (l1.length : Int) > 0
  ·rw [if_pos c6] at H
   have c6b0 : decide (0 < (l1.length : Int)) = true := decide_eq_true c6
   have c6b1 : decide (0 < l1.length) = true := decide_eq_true (by omega)
   clear c6
   (first | rw [c6b0] | (simp only [i64_w, i32_w]; rw [c6b0]) | rw [c6b1] | skip)
   obtain ⟨ji7, hji7⟩ : ∃ j_ : Int, (wrap64 ((l1.length : Int) - 1)) = j_ := ⟨_, rfl⟩
   replace H : (if 0 ≤ (ji7) then (if (ji7) < (l1.length : Int) then (spec_ptRising.j0 k l0 l1 t120 (wrap64 ((rd l1 (ji7)) + 1))) else (none)) else (none)) = some r := by first | (rw [hji7] at H; exact H) | (simp only [hji7] at H ⊢; exact H)
   have hji7w : (IntKind.i64.wrap ((l1.length : Int) - 1)) = ji7 := (i64_w _).trans hji7
   by_cases c8 : 0 ≤ (ji7)
   ·rw [if_pos c8] at H
    have c8b0 : decide (0 ≤ (ji7)) = true := decide_eq_true c8
    clear c8
    by_cases c9 : (ji7) < (l1.length : Int)
    ·rw [if_pos c9] at H
     have c9b0 : decide ((ji7) < (l1.length : Int)) = true := decide_eq_true c9
     clear c9
     have H' := am H
     clear H
     have p123 : 0 ≤ ((ji7) : Int) := of_decide_eq_true (by first | (with_reducible assumption) | assumption)
     have q123 : (ji7) < (l1.length : Int) := of_decide_eq_true (by first | (with_reducible assumption) | assumption)
     obtain ⟨ad123, e123, hx123_0⟩ := Kd.at_int HR1.out (ji7) p123 q123
     cases e123
     (try replace hx123_0 := (HB.out.cell (World.block_lt_of_cell? w _ hx123_0)).trans hx123_0)
     replace p123 := eq_true p123
     replace q123 := eq_true q123
     go_wp2
     repeat (go_quiet (fail); try go_wp2)
     go_meet
     case rel => exact ⟨_, (wrap64 ((rd l1 (ji7)) + 1)), (by first | rfl | (simp; done) | (simp only [← hji7] <;> (first | rfl | simp)) | (simp [*]; done)), H', ⟨by first | omega | exact Nat.le_refl _⟩, ⟨roS HO122.out⟩, ⟨hbS HB.out⟩⟩
    ·rw [if_neg c9] at H
     exact absurd H (by simp)
   ·rw [if_neg c8] at H
    exact absurd H (by simp)
  ·rw [if_neg c6] at H
   have c6b0 : decide (0 < (l1.length : Int)) = false := decide_eq_false c6
   have c6b1 : decide (0 < l1.length) = false := decide_eq_false (by omega)
   clear c6
   (first | rw [c6b0] | (simp only [i64_w, i32_w]; rw [c6b0]) | rw [c6b1] | skip)
   have H' := am H
   clear H
   go_wp2
   repeat (go_quiet (fail); try go_wp2)
   go_meet
   case rel => exact ⟨_, (0), (by first | rfl | (simp; done) | (simp [*]; done)), H', ⟨by first | omega | exact Nat.le_refl _⟩, ⟨roS HO122.out⟩, ⟨hbS HB.out⟩⟩
 case rest =>
  clear HC4
  try clear c1
  try clear p1
  try clear q1
  try clear hx1
  try clear p2
  try clear c3
  try clear c6
  try clear c6b0
  try clear c6b1
  try clear p6
  try clear c8
  try clear c8b0
  try clear c9
  try clear c9b0
  try clear hx123_0
  try clear p123
  try clear q123
  obtain ⟨kq, x6_3, rfl, HA, HJ3, HO_5, HB⟩ := hcut
  cases kq with
  | zero => exact absurd HA.out (by simp [spec_ptRising.j0])
  | succ kj3 =>
   have H := HA.out
   clear HA
   simp only [spec_ptRising.j0] at H
   have H' := am H
   clear H
   go_wp2
   repeat (go_quiet (fail); try go_wp2)
   go_loopg [5, 8] kj3 (fun kq v5 v8 w' => ∃ (x5_2 : List Int) (x8_2 : Int), v8 = .int .i64 x8_2 ∧ Aside0 (spec_ptRising.l0 kq l0 l1 x5_2 x8_2 = some r) ∧ Aside0 (kq ≤ kj3) ∧ Aside0 (Kd.R (Kd.int .i64) 3 w' w.heap.size (fun _ => True) v5 x5_2) ∧ Aside0 (Below w.heap.size w w'))
   case atStart => exact ⟨(t120), (x6_3), (by first | rfl | (simp; done) | (simp [*]; done)), H', ⟨Nat.le_refl _⟩, ⟨roS HO_5.out⟩, ⟨hbS HB.out⟩⟩
   case round =>
    clear H'
    try clear c1
    try clear p1
    try clear q1
    try clear hx1
    try clear p2
    try clear c3
    try clear c6
    try clear c6b0
    try clear c6b1
    try clear p6
    try clear c8
    try clear c8b0
    try clear c9
    try clear c9b0
    try clear hx123_0
    try clear p1
    try clear p123
    try clear p2
    try clear p6
    try clear q1
    try clear q123
    obtain ⟨x5_2, x8_2, rfl, HA, HK2, HO_5, HB⟩ := hrel
    cases gk with
    | zero => exact absurd HA.out (by simp [spec_ptRising.l0])
    | succ k2 =>
     have H := HA.out
     clear HA
     simp only [spec_ptRising.l0] at H
     by_cases c10 : x8_2 < (l0.length : Int)
     ·rw [if_pos c10] at H
      have c10b0 : decide (x8_2 < (l0.length : Int)) = true := decide_eq_true c10
      clear c10
      have HC11 := am H
      clear H
      go_upto_region 10 with (fail)
      repeat (go_quiet (fail); go_upto_region 10 with (fail))
      go_cut [48] (fun v48 wc => ∃ (kq : Nat) (x48_10 : Bool), v48 = .bool x48_10 ∧ Aside0 (spec_ptRising.j2 kq l0 l1 x5_2 x8_2 x48_10 = some r) ∧ Aside0 (kq ≤ k2) ∧ Aside0 (Kd.R (Kd.int .i64) 3 wc w.heap.size (fun _ => True) u5 x5_2) ∧ Aside0 (Below w.heap.size w wc))
      case first =>
       have H := HC11.out
       clear HC11
       by_cases c12 : (l1.length : Int) > 0
       ·rw [if_pos c12] at H
        have c12b0 : decide (0 < (l1.length : Int)) = true := decide_eq_true c12
        have c12b1 : decide (0 < l1.length) = true := decide_eq_true (by omega)
        clear c12
        (first | rw [c12b0] | (simp only [i64_w, i32_w]; rw [c12b0]) | rw [c12b1] | skip)
        by_cases c13 : 0 ≤ x8_2
        ·rw [if_pos c13] at H
         have c13b0 : decide (0 ≤ x8_2) = true := decide_eq_true c13
         clear c13
         obtain ⟨ji14, hji14⟩ : ∃ j_ : Int, (wrap64 ((l1.length : Int) - 1)) = j_ := ⟨_, rfl⟩
         replace H : (if 0 ≤ (ji14) then (if (ji14) < (l1.length : Int) then (if 0 ≤ (rd l1 (ji14)) then (if (rd l1 (ji14)) < (l0.length : Int) then (spec_ptRising.j2 k2 l0 l1 x5_2 x8_2 (decide ((rd l0 x8_2) < (rd l0 (rd l1 (ji14)))))) else (none)) else (none)) else (none)) else (none)) = some r := by first | (rw [hji14] at H; exact H) | (simp only [hji14] at H ⊢; exact H)
         have hji14w : (IntKind.i64.wrap ((l1.length : Int) - 1)) = ji14 := (i64_w _).trans hji14
         by_cases c15 : 0 ≤ (ji14)
         ·rw [if_pos c15] at H
          have c15b0 : decide (0 ≤ (ji14)) = true := decide_eq_true c15
          clear c15
          by_cases c16 : (ji14) < (l1.length : Int)
          ·rw [if_pos c16] at H
           have c16b0 : decide ((ji14) < (l1.length : Int)) = true := decide_eq_true c16
           clear c16
           by_cases c17 : 0 ≤ (rd l1 (ji14))
           ·rw [if_pos c17] at H
            have c17b0 : decide (0 ≤ (rd l1 (ji14))) = true := decide_eq_true c17
            clear c17
            by_cases c18 : (rd l1 (ji14)) < (l0.length : Int)
            ·rw [if_pos c18] at H
             have c18b0 : decide ((rd l1 (ji14)) < (l0.length : Int)) = true := decide_eq_true c18
             clear c18
             have H' := am H
             clear H
             have p124 : 0 ≤ (x8_2 : Int) := of_decide_eq_true (by first | (with_reducible assumption) | assumption)
             have q124 : x8_2 < (l0.length : Int) := of_decide_eq_true (by first | (with_reducible assumption) | assumption)
             obtain ⟨ad124, e124, hx124_0⟩ := Kd.at_int HR0.out x8_2 p124 q124
             cases e124
             (try replace hx124_0 := (HB.out.cell (World.block_lt_of_cell? w _ hx124_0)).trans hx124_0)
             replace p124 := eq_true p124
             replace q124 := eq_true q124
             have p125 : 0 ≤ ((ji14) : Int) := of_decide_eq_true (by first | (with_reducible assumption) | assumption)
             have q125 : (ji14) < (l1.length : Int) := of_decide_eq_true (by first | (with_reducible assumption) | assumption)
             obtain ⟨ad125, e125, hx125_0⟩ := Kd.at_int HR1.out (ji14) p125 q125
             cases e125
             (try replace hx125_0 := (HB.out.cell (World.block_lt_of_cell? w _ hx125_0)).trans hx125_0)
             replace p125 := eq_true p125
             replace q125 := eq_true q125
             have p126 : 0 ≤ ((rd l1 (ji14)) : Int) := of_decide_eq_true (by first | (with_reducible assumption) | assumption)
             have q126 : (rd l1 (ji14)) < (l0.length : Int) := of_decide_eq_true (by first | (with_reducible assumption) | assumption)
             obtain ⟨ad126, e126, hx126_0⟩ := Kd.at_int HR0.out (rd l1 (ji14)) p126 q126
             obtain rfl : ad124 = ad126 := (by injection e126)
             (try replace hx126_0 := (HB.out.cell (World.block_lt_of_cell? w _ hx126_0)).trans hx126_0)
             replace p126 := eq_true p126
             replace q126 := eq_true q126
             go_wp2
             repeat (go_quiet (fail); try go_wp2)
             go_meet
             case rel => exact ⟨_, (decide ((rd l0 x8_2) < (rd l0 (rd l1 (ji14))))), (by first | rfl | (simp; done) | (simp only [← hji14] <;> (first | rfl | simp)) | (simp [*]; done)), H', ⟨by have := HJ3.out; have := HK2.out; first | omega | exact Nat.le_refl _⟩, ⟨roS HO_5.out⟩, ⟨hbS HB.out⟩⟩
            ·rw [if_neg c18] at H
             exact absurd H (by simp)
           ·rw [if_neg c17] at H
            exact absurd H (by simp)
          ·rw [if_neg c16] at H
           exact absurd H (by simp)
         ·rw [if_neg c15] at H
          exact absurd H (by simp)
        ·rw [if_neg c13] at H
         exact absurd H (by simp)
       ·rw [if_neg c12] at H
        have c12b0 : decide (0 < (l1.length : Int)) = false := decide_eq_false c12
        have c12b1 : decide (0 < l1.length) = false := decide_eq_false (by omega)
        clear c12
        (first | rw [c12b0] | (simp only [i64_w, i32_w]; rw [c12b0]) | rw [c12b1] | skip)
        have H' := am H
        clear H
        go_wp2
        repeat (go_quiet (fail); try go_wp2)
        go_meet
        case rel => exact ⟨_, (false), (by first | rfl | (simp; done) | (simp [*]; done)), H', ⟨by have := HJ3.out; have := HK2.out; first | omega | exact Nat.le_refl _⟩, ⟨roS HO_5.out⟩, ⟨hbS HB.out⟩⟩
      case rest =>
       clear HC11
       try clear c1
       try clear p1
       try clear q1
       try clear hx1
       try clear p2
       try clear c3
       try clear c6
       try clear c6b0
       try clear c6b1
       try clear p6
       try clear c8
       try clear c8b0
       try clear c9
       try clear c9b0
       try clear c10
       try clear c10b0
       try clear c12
       try clear c12b0
       try clear c12b1
       try clear p12
       try clear q12
       try clear hx12
       try clear c13
       try clear c13b0
       try clear c15
       try clear c15b0
       try clear c16
       try clear c16b0
       try clear c17
       try clear c17b0
       try clear c18
       try clear c18b0
       try clear hx123_0
       try clear hx124_0
       try clear hx125_0
       try clear hx126_0
       try clear p1
       try clear p123
       try clear p124
       try clear p125
       try clear p126
       try clear p2
       try clear p6
       try clear q1
       try clear q123
       try clear q124
       try clear q125
       try clear q126
       obtain ⟨kq, x48_10, rfl, HA, HJ10, HO_5, HB⟩ := hcut
       cases kq with
       | zero => exact absurd HA.out (by simp [spec_ptRising.j2])
       | succ kj10 =>
        have H := HA.out
        clear HA
        simp only [spec_ptRising.j2] at H
        by_cases c19 : x48_10 = true
        ·subst c19
         have H1 : (spec_ptRising.l0 kj10 l0 l1 x5_2 (wrap64 (x8_2 + 1))) = some r := by rw [if_pos rfl] at H; exact H
         clear H
         have H := H1
         clear H1
         have H' := am H
         clear H
         go_wp2
         repeat (go_quiet (fail); try go_wp2)
         go_roundg kj10
         case measure => have := HJ3.out; have := HK2.out; have := HJ10.out; omega
         case rel => exact ⟨(x5_2), (wrap64 (x8_2 + 1)), (by first | rfl | (simp; done) | (simp [*]; done)), H', ⟨by have := HJ3.out; have := HK2.out; have := HJ10.out; omega⟩, ⟨roS HO_5.out⟩, ⟨hbS HB.out⟩⟩
        ·replace c19 := Bool.eq_false_iff.mpr c19
         subst c19
         have H1 : ((spec_l1Own.f l1).bind fun t127 => (if t127.length < 17592186044416 then ((spec_ptRising.f kj10 l0 (t127 ++ [x8_2])).bind fun t133 => (if (t133.length : Int) > (x5_2.length : Int) then (spec_ptRising.l0 kj10 l0 l1 t133 (wrap64 (x8_2 + 1))) else (spec_ptRising.l0 kj10 l0 l1 x5_2 (wrap64 (x8_2 + 1))))) else (none))) = some r := by rw [if_neg (show ¬ (false = true) by decide)] at H; exact H
         clear H
         have H := H1
         clear H1
         replace H := Option.bind_eq_some_iff.mp H
         obtain ⟨t127, A200, H⟩ := H
         replace H : (if t127.length < 17592186044416 then ((spec_ptRising.f kj10 l0 (t127 ++ [x8_2])).bind fun t133 => (if (t133.length : Int) > (x5_2.length : Int) then (spec_ptRising.l0 kj10 l0 l1 t133 (wrap64 (x8_2 + 1))) else (spec_ptRising.l0 kj10 l0 l1 x5_2 (wrap64 (x8_2 + 1))))) else (none)) = some r := H
         have A20 := am A200
         clear A200
         by_cases c21 : t127.length < 17592186044416
         ·rw [if_pos c21] at H
          have LMc21 := am c21
          clear c21
          obtain ⟨y130, hy130⟩ : ∃ y_ : List Int, y_ = (t127 ++ [x8_2]) := ⟨_, rfl⟩
          replace H : ((spec_ptRising.f kj10 l0 y130).bind fun t133 => (if (t133.length : Int) > (x5_2.length : Int) then (spec_ptRising.l0 kj10 l0 l1 t133 (wrap64 (x8_2 + 1))) else (spec_ptRising.l0 kj10 l0 l1 x5_2 (wrap64 (x8_2 + 1))))) = some r := by first | (rw [hy130]; with_reducible exact H) | (have H2_ := (Option.bind_some _ _).symm.trans H; rw [hy130]; with_reducible exact H2_) | (have H2_ := (Option.bind_some _ _).symm.trans H; with_reducible exact H2_) | with_reducible exact H | (rw [hy130]; exact H) | exact H
          have Ny130 := am hy130
          clear hy130
          replace H := Option.bind_eq_some_iff.mp H
          obtain ⟨t133, A220, H⟩ := H
          replace H : (if (t133.length : Int) > (x5_2.length : Int) then (spec_ptRising.l0 kj10 l0 l1 t133 (wrap64 (x8_2 + 1))) else (spec_ptRising.l0 kj10 l0 l1 x5_2 (wrap64 (x8_2 + 1)))) = some r := H
          have A22 := am A220
          clear A220
          by_cases c23 : (t133.length : Int) > (x5_2.length : Int)
          ·rw [if_pos c23] at H
           have c23b0 : decide ((x5_2.length : Int) < (t133.length : Int)) = true := decide_eq_true c23
           have c23b1 : decide (x5_2.length < t133.length) = true := decide_eq_true (Int.ofNat_lt.mp c23)
           clear c23
           have H' := am H
           clear H
           go_wp2_with (first | (go_at_call 46; (with_reducible refine (spec_l1Own.calls _ _ l1 t127 _ ?side1 ?side2 A20.out).mono ?_); (case side1 => repeat (first | exact (Kd.C_below HR1.out HB.out) | (with_reducible refine Kd.C_alloc ?_ _) | (with_reducible refine Kd.C_drewN ?_ _) | (with_reducible refine Kd.C_drew ?_))); (case side2 => exact HC1.out); rintro e w24 ⟨v128, rfl, ho0, hb⟩; have n0_ := am (Kd.R_elder' (roS HO_5.out) (Kd.R_base ho0) hb); have n1_ := am (Kd.R_lower (Kd.R_new' ho0 (Kd.R_lt (roS HO_5.out))) (below_size (hbS HB.out))); have n2_ := am (below_step (hbS HB.out) hb); clear HO_5; clear HB; have HO_5 := n0_; have HO129 := n1_; have HB := n2_; clear n0_ n1_ n2_; (try clear hb); (try clear hb2); (try clear hk); (try clear hi); (try clear ho0)) | ((with_reducible refine gate_builtin (b := .append) (xs := #[.tmp 51, .tmp 53]) rfl ?_); at_builtin; refine Kd.R_append (Kd.int .i64) (w0 := w) w.heap.size rfl (.tmp 51) (.tmp 53) 22 3 (.int .i64 0) 8 rfl Try.underlying22 info3 rfl (by decide) (by omega) v128 t127 x8_2 [.int .i64 x8_2] (fun k_ => some k_ ≠ (u5 : Value).ownBlock) (fun _ => False) rfl rfl ?aP (fun _ hk => hk.elim) ?aF ?aO ?aB ?aS ?aL ?_; (case aP => exact rfl); (case aB => exact (hbS HB.out)); (case aF => exact (fun k_ hk => Kd.fresh' (Kd.R_lt (roS HO_5.out)) k_ hk)); (case aO => exact (by (with_reducible repeat (first | apply Kd.R_alloc | apply Kd.R_drewN | apply Kd.R_drew)); exact Kd.R_mono HO129.out (fun _ hk => hk.2))); (case aS => exact (below_size (hbS HB.out))); (case aL => have := LMc21.out; omega); intro v131 w25 ho hb hg hat; rw [← Ny130.out] at ho; have n0_ := am (Kd.R_after (ok := (fun _ => True)) (roS HO_5.out) hg hat); have n1_ := am (hb); have n2_ := am (ho); clear HO_5; clear HB; clear HO129; have HO_5 := n0_; have HB := n1_; have HO132 := n2_; clear n0_ n1_ n2_; clear ho hb hg hat; obtain ⟨Ao26, co26, eo26⟩ := Kd.R_slice HO132.out; subst eo26) | (go_at_call 32; (with_reducible refine (ih kj10 (by have := HJ3.out; have := HK2.out; have := HJ10.out; omega) _ _ l0 _ _ y130 t133 _ ?side1 ?side2 ?side3 ?side4 A22.out).mono ?_); (case side1 => repeat (first | exact (Kd.C_below HR0.out HB.out) | (with_reducible refine Kd.C_alloc ?_ _) | (with_reducible refine Kd.C_drewN ?_ _) | (with_reducible refine Kd.C_drew ?_))); (case side2 => exact HC0.out); (case side3 => repeat (first | exact (Kd.R_reads' HO132.out).2.2 | (with_reducible refine Kd.C_alloc ?_ _) | (with_reducible refine Kd.C_drewN ?_ _) | (with_reducible refine Kd.C_drew ?_))); (case side4 => exact (Kd.R_reads' HO132.out).2.1); rintro e w27 ⟨v134, rfl, ho0, hb⟩; have n0_ := am (Kd.R_elder' (roS HO_5.out) (Kd.R_base ho0) hb); have n1_ := am (Kd.R_elder' (roS HO132.out) (Kd.R_base ho0) hb); have n2_ := am (Kd.R_lower (Kd.R_new' (Kd.R_new' ho0 (Kd.R_lt (roS HO_5.out))) (Kd.R_lt (roS HO132.out))) (below_size (hbS HB.out))); have n3_ := am (below_step (hbS HB.out) hb); clear HO_5; clear HO132; clear HB; have HO_5 := n0_; have HO132 := n1_; have HO135 := n2_; have HB := n3_; clear n0_ n1_ n2_ n3_; (try clear hb); (try clear hb2); (try clear hk); (try clear hi); (try clear ho0); obtain ⟨Ao28, co28, eo28⟩ := Kd.R_slice HO135.out; subst eo28; obtain ⟨Ao29, co29, eo29⟩ := Kd.R_slice HO_5.out; subst eo29))
           repeat (go_quiet (first | (go_at_call 46; (with_reducible refine (spec_l1Own.calls _ _ l1 t127 _ ?side1 ?side2 A20.out).mono ?_); (case side1 => repeat (first | exact (Kd.C_below HR1.out HB.out) | (with_reducible refine Kd.C_alloc ?_ _) | (with_reducible refine Kd.C_drewN ?_ _) | (with_reducible refine Kd.C_drew ?_))); (case side2 => exact HC1.out); rintro e w24 ⟨v128, rfl, ho0, hb⟩; have n0_ := am (Kd.R_elder' (roS HO_5.out) (Kd.R_base ho0) hb); have n1_ := am (Kd.R_lower (Kd.R_new' ho0 (Kd.R_lt (roS HO_5.out))) (below_size (hbS HB.out))); have n2_ := am (below_step (hbS HB.out) hb); clear HO_5; clear HB; have HO_5 := n0_; have HO129 := n1_; have HB := n2_; clear n0_ n1_ n2_; (try clear hb); (try clear hb2); (try clear hk); (try clear hi); (try clear ho0)) | ((with_reducible refine gate_builtin (b := .append) (xs := #[.tmp 51, .tmp 53]) rfl ?_); at_builtin; refine Kd.R_append (Kd.int .i64) (w0 := w) w.heap.size rfl (.tmp 51) (.tmp 53) 22 3 (.int .i64 0) 8 rfl Try.underlying22 info3 rfl (by decide) (by omega) v128 t127 x8_2 [.int .i64 x8_2] (fun k_ => some k_ ≠ (u5 : Value).ownBlock) (fun _ => False) rfl rfl ?aP (fun _ hk => hk.elim) ?aF ?aO ?aB ?aS ?aL ?_; (case aP => exact rfl); (case aB => exact (hbS HB.out)); (case aF => exact (fun k_ hk => Kd.fresh' (Kd.R_lt (roS HO_5.out)) k_ hk)); (case aO => exact (by (with_reducible repeat (first | apply Kd.R_alloc | apply Kd.R_drewN | apply Kd.R_drew)); exact Kd.R_mono HO129.out (fun _ hk => hk.2))); (case aS => exact (below_size (hbS HB.out))); (case aL => have := LMc21.out; omega); intro v131 w25 ho hb hg hat; rw [← Ny130.out] at ho; have n0_ := am (Kd.R_after (ok := (fun _ => True)) (roS HO_5.out) hg hat); have n1_ := am (hb); have n2_ := am (ho); clear HO_5; clear HB; clear HO129; have HO_5 := n0_; have HB := n1_; have HO132 := n2_; clear n0_ n1_ n2_; clear ho hb hg hat; obtain ⟨Ao26, co26, eo26⟩ := Kd.R_slice HO132.out; subst eo26) | (go_at_call 32; (with_reducible refine (ih kj10 (by have := HJ3.out; have := HK2.out; have := HJ10.out; omega) _ _ l0 _ _ y130 t133 _ ?side1 ?side2 ?side3 ?side4 A22.out).mono ?_); (case side1 => repeat (first | exact (Kd.C_below HR0.out HB.out) | (with_reducible refine Kd.C_alloc ?_ _) | (with_reducible refine Kd.C_drewN ?_ _) | (with_reducible refine Kd.C_drew ?_))); (case side2 => exact HC0.out); (case side3 => repeat (first | exact (Kd.R_reads' HO132.out).2.2 | (with_reducible refine Kd.C_alloc ?_ _) | (with_reducible refine Kd.C_drewN ?_ _) | (with_reducible refine Kd.C_drew ?_))); (case side4 => exact (Kd.R_reads' HO132.out).2.1); rintro e w27 ⟨v134, rfl, ho0, hb⟩; have n0_ := am (Kd.R_elder' (roS HO_5.out) (Kd.R_base ho0) hb); have n1_ := am (Kd.R_elder' (roS HO132.out) (Kd.R_base ho0) hb); have n2_ := am (Kd.R_lower (Kd.R_new' (Kd.R_new' ho0 (Kd.R_lt (roS HO_5.out))) (Kd.R_lt (roS HO132.out))) (below_size (hbS HB.out))); have n3_ := am (below_step (hbS HB.out) hb); clear HO_5; clear HO132; clear HB; have HO_5 := n0_; have HO132 := n1_; have HO135 := n2_; have HB := n3_; clear n0_ n1_ n2_ n3_; (try clear hb); (try clear hb2); (try clear hk); (try clear hi); (try clear ho0); obtain ⟨Ao28, co28, eo28⟩ := Kd.R_slice HO135.out; subst eo28; obtain ⟨Ao29, co29, eo29⟩ := Kd.R_slice HO_5.out; subst eo29)); try go_wp2_with (first | (go_at_call 46; (with_reducible refine (spec_l1Own.calls _ _ l1 t127 _ ?side1 ?side2 A20.out).mono ?_); (case side1 => repeat (first | exact (Kd.C_below HR1.out HB.out) | (with_reducible refine Kd.C_alloc ?_ _) | (with_reducible refine Kd.C_drewN ?_ _) | (with_reducible refine Kd.C_drew ?_))); (case side2 => exact HC1.out); rintro e w24 ⟨v128, rfl, ho0, hb⟩; have n0_ := am (Kd.R_elder' (roS HO_5.out) (Kd.R_base ho0) hb); have n1_ := am (Kd.R_lower (Kd.R_new' ho0 (Kd.R_lt (roS HO_5.out))) (below_size (hbS HB.out))); have n2_ := am (below_step (hbS HB.out) hb); clear HO_5; clear HB; have HO_5 := n0_; have HO129 := n1_; have HB := n2_; clear n0_ n1_ n2_; (try clear hb); (try clear hb2); (try clear hk); (try clear hi); (try clear ho0)) | ((with_reducible refine gate_builtin (b := .append) (xs := #[.tmp 51, .tmp 53]) rfl ?_); at_builtin; refine Kd.R_append (Kd.int .i64) (w0 := w) w.heap.size rfl (.tmp 51) (.tmp 53) 22 3 (.int .i64 0) 8 rfl Try.underlying22 info3 rfl (by decide) (by omega) v128 t127 x8_2 [.int .i64 x8_2] (fun k_ => some k_ ≠ (u5 : Value).ownBlock) (fun _ => False) rfl rfl ?aP (fun _ hk => hk.elim) ?aF ?aO ?aB ?aS ?aL ?_; (case aP => exact rfl); (case aB => exact (hbS HB.out)); (case aF => exact (fun k_ hk => Kd.fresh' (Kd.R_lt (roS HO_5.out)) k_ hk)); (case aO => exact (by (with_reducible repeat (first | apply Kd.R_alloc | apply Kd.R_drewN | apply Kd.R_drew)); exact Kd.R_mono HO129.out (fun _ hk => hk.2))); (case aS => exact (below_size (hbS HB.out))); (case aL => have := LMc21.out; omega); intro v131 w25 ho hb hg hat; rw [← Ny130.out] at ho; have n0_ := am (Kd.R_after (ok := (fun _ => True)) (roS HO_5.out) hg hat); have n1_ := am (hb); have n2_ := am (ho); clear HO_5; clear HB; clear HO129; have HO_5 := n0_; have HB := n1_; have HO132 := n2_; clear n0_ n1_ n2_; clear ho hb hg hat; obtain ⟨Ao26, co26, eo26⟩ := Kd.R_slice HO132.out; subst eo26) | (go_at_call 32; (with_reducible refine (ih kj10 (by have := HJ3.out; have := HK2.out; have := HJ10.out; omega) _ _ l0 _ _ y130 t133 _ ?side1 ?side2 ?side3 ?side4 A22.out).mono ?_); (case side1 => repeat (first | exact (Kd.C_below HR0.out HB.out) | (with_reducible refine Kd.C_alloc ?_ _) | (with_reducible refine Kd.C_drewN ?_ _) | (with_reducible refine Kd.C_drew ?_))); (case side2 => exact HC0.out); (case side3 => repeat (first | exact (Kd.R_reads' HO132.out).2.2 | (with_reducible refine Kd.C_alloc ?_ _) | (with_reducible refine Kd.C_drewN ?_ _) | (with_reducible refine Kd.C_drew ?_))); (case side4 => exact (Kd.R_reads' HO132.out).2.1); rintro e w27 ⟨v134, rfl, ho0, hb⟩; have n0_ := am (Kd.R_elder' (roS HO_5.out) (Kd.R_base ho0) hb); have n1_ := am (Kd.R_elder' (roS HO132.out) (Kd.R_base ho0) hb); have n2_ := am (Kd.R_lower (Kd.R_new' (Kd.R_new' ho0 (Kd.R_lt (roS HO_5.out))) (Kd.R_lt (roS HO132.out))) (below_size (hbS HB.out))); have n3_ := am (below_step (hbS HB.out) hb); clear HO_5; clear HO132; clear HB; have HO_5 := n0_; have HO132 := n1_; have HO135 := n2_; have HB := n3_; clear n0_ n1_ n2_ n3_; (try clear hb); (try clear hb2); (try clear hk); (try clear hi); (try clear ho0); obtain ⟨Ao28, co28, eo28⟩ := Kd.R_slice HO135.out; subst eo28; obtain ⟨Ao29, co29, eo29⟩ := Kd.R_slice HO_5.out; subst eo29)))
           go_roundg kj10
           case measure => have := HJ3.out; have := HK2.out; have := HJ10.out; omega
           case rel => exact ⟨(t133), (wrap64 (x8_2 + 1)), (by first | rfl | (simp; done) | (simp [*]; done)), H', ⟨by have := HJ3.out; have := HK2.out; have := HJ10.out; omega⟩, ⟨by (with_reducible repeat (first | apply Kd.R_alloc | apply Kd.R_drewN | apply Kd.R_drew)); exact Kd.R_mono HO135.out (fun _ hk => trivial)⟩, ⟨hbS HB.out⟩⟩
          ·rw [if_neg c23] at H
           have c23b0 : decide ((x5_2.length : Int) < (t133.length : Int)) = false := decide_eq_false c23
           have c23b1 : decide (x5_2.length < t133.length) = false := decide_eq_false (fun h => c23 (Int.ofNat_lt.mpr h))
           clear c23
           have H' := am H
           clear H
           go_wp2_with (first | (go_at_call 46; (with_reducible refine (spec_l1Own.calls _ _ l1 t127 _ ?side1 ?side2 A20.out).mono ?_); (case side1 => repeat (first | exact (Kd.C_below HR1.out HB.out) | (with_reducible refine Kd.C_alloc ?_ _) | (with_reducible refine Kd.C_drewN ?_ _) | (with_reducible refine Kd.C_drew ?_))); (case side2 => exact HC1.out); rintro e w30 ⟨v128, rfl, ho0, hb⟩; have n0_ := am (Kd.R_elder' (roS HO_5.out) (Kd.R_base ho0) hb); have n1_ := am (Kd.R_lower (Kd.R_new' ho0 (Kd.R_lt (roS HO_5.out))) (below_size (hbS HB.out))); have n2_ := am (below_step (hbS HB.out) hb); clear HO_5; clear HB; have HO_5 := n0_; have HO129 := n1_; have HB := n2_; clear n0_ n1_ n2_; (try clear hb); (try clear hb2); (try clear hk); (try clear hi); (try clear ho0)) | ((with_reducible refine gate_builtin (b := .append) (xs := #[.tmp 51, .tmp 53]) rfl ?_); at_builtin; refine Kd.R_append (Kd.int .i64) (w0 := w) w.heap.size rfl (.tmp 51) (.tmp 53) 22 3 (.int .i64 0) 8 rfl Try.underlying22 info3 rfl (by decide) (by omega) v128 t127 x8_2 [.int .i64 x8_2] (fun k_ => some k_ ≠ (u5 : Value).ownBlock) (fun _ => False) rfl rfl ?aP (fun _ hk => hk.elim) ?aF ?aO ?aB ?aS ?aL ?_; (case aP => exact rfl); (case aB => exact (hbS HB.out)); (case aF => exact (fun k_ hk => Kd.fresh' (Kd.R_lt (roS HO_5.out)) k_ hk)); (case aO => exact (by (with_reducible repeat (first | apply Kd.R_alloc | apply Kd.R_drewN | apply Kd.R_drew)); exact Kd.R_mono HO129.out (fun _ hk => hk.2))); (case aS => exact (below_size (hbS HB.out))); (case aL => have := LMc21.out; omega); intro v131 w31 ho hb hg hat; rw [← Ny130.out] at ho; have n0_ := am (Kd.R_after (ok := (fun _ => True)) (roS HO_5.out) hg hat); have n1_ := am (hb); have n2_ := am (ho); clear HO_5; clear HB; clear HO129; have HO_5 := n0_; have HB := n1_; have HO132 := n2_; clear n0_ n1_ n2_; clear ho hb hg hat; obtain ⟨Ao32, co32, eo32⟩ := Kd.R_slice HO132.out; subst eo32) | (go_at_call 32; (with_reducible refine (ih kj10 (by have := HJ3.out; have := HK2.out; have := HJ10.out; omega) _ _ l0 _ _ y130 t133 _ ?side1 ?side2 ?side3 ?side4 A22.out).mono ?_); (case side1 => repeat (first | exact (Kd.C_below HR0.out HB.out) | (with_reducible refine Kd.C_alloc ?_ _) | (with_reducible refine Kd.C_drewN ?_ _) | (with_reducible refine Kd.C_drew ?_))); (case side2 => exact HC0.out); (case side3 => repeat (first | exact (Kd.R_reads' HO132.out).2.2 | (with_reducible refine Kd.C_alloc ?_ _) | (with_reducible refine Kd.C_drewN ?_ _) | (with_reducible refine Kd.C_drew ?_))); (case side4 => exact (Kd.R_reads' HO132.out).2.1); rintro e w33 ⟨v134, rfl, ho0, hb⟩; have n0_ := am (Kd.R_elder' (roS HO_5.out) (Kd.R_base ho0) hb); have n1_ := am (Kd.R_elder' (roS HO132.out) (Kd.R_base ho0) hb); have n2_ := am (Kd.R_lower (Kd.R_new' (Kd.R_new' ho0 (Kd.R_lt (roS HO_5.out))) (Kd.R_lt (roS HO132.out))) (below_size (hbS HB.out))); have n3_ := am (below_step (hbS HB.out) hb); clear HO_5; clear HO132; clear HB; have HO_5 := n0_; have HO132 := n1_; have HO135 := n2_; have HB := n3_; clear n0_ n1_ n2_ n3_; (try clear hb); (try clear hb2); (try clear hk); (try clear hi); (try clear ho0); obtain ⟨Ao34, co34, eo34⟩ := Kd.R_slice HO135.out; subst eo34; obtain ⟨Ao35, co35, eo35⟩ := Kd.R_slice HO_5.out; subst eo35))
           repeat (go_quiet (first | (go_at_call 46; (with_reducible refine (spec_l1Own.calls _ _ l1 t127 _ ?side1 ?side2 A20.out).mono ?_); (case side1 => repeat (first | exact (Kd.C_below HR1.out HB.out) | (with_reducible refine Kd.C_alloc ?_ _) | (with_reducible refine Kd.C_drewN ?_ _) | (with_reducible refine Kd.C_drew ?_))); (case side2 => exact HC1.out); rintro e w30 ⟨v128, rfl, ho0, hb⟩; have n0_ := am (Kd.R_elder' (roS HO_5.out) (Kd.R_base ho0) hb); have n1_ := am (Kd.R_lower (Kd.R_new' ho0 (Kd.R_lt (roS HO_5.out))) (below_size (hbS HB.out))); have n2_ := am (below_step (hbS HB.out) hb); clear HO_5; clear HB; have HO_5 := n0_; have HO129 := n1_; have HB := n2_; clear n0_ n1_ n2_; (try clear hb); (try clear hb2); (try clear hk); (try clear hi); (try clear ho0)) | ((with_reducible refine gate_builtin (b := .append) (xs := #[.tmp 51, .tmp 53]) rfl ?_); at_builtin; refine Kd.R_append (Kd.int .i64) (w0 := w) w.heap.size rfl (.tmp 51) (.tmp 53) 22 3 (.int .i64 0) 8 rfl Try.underlying22 info3 rfl (by decide) (by omega) v128 t127 x8_2 [.int .i64 x8_2] (fun k_ => some k_ ≠ (u5 : Value).ownBlock) (fun _ => False) rfl rfl ?aP (fun _ hk => hk.elim) ?aF ?aO ?aB ?aS ?aL ?_; (case aP => exact rfl); (case aB => exact (hbS HB.out)); (case aF => exact (fun k_ hk => Kd.fresh' (Kd.R_lt (roS HO_5.out)) k_ hk)); (case aO => exact (by (with_reducible repeat (first | apply Kd.R_alloc | apply Kd.R_drewN | apply Kd.R_drew)); exact Kd.R_mono HO129.out (fun _ hk => hk.2))); (case aS => exact (below_size (hbS HB.out))); (case aL => have := LMc21.out; omega); intro v131 w31 ho hb hg hat; rw [← Ny130.out] at ho; have n0_ := am (Kd.R_after (ok := (fun _ => True)) (roS HO_5.out) hg hat); have n1_ := am (hb); have n2_ := am (ho); clear HO_5; clear HB; clear HO129; have HO_5 := n0_; have HB := n1_; have HO132 := n2_; clear n0_ n1_ n2_; clear ho hb hg hat; obtain ⟨Ao32, co32, eo32⟩ := Kd.R_slice HO132.out; subst eo32) | (go_at_call 32; (with_reducible refine (ih kj10 (by have := HJ3.out; have := HK2.out; have := HJ10.out; omega) _ _ l0 _ _ y130 t133 _ ?side1 ?side2 ?side3 ?side4 A22.out).mono ?_); (case side1 => repeat (first | exact (Kd.C_below HR0.out HB.out) | (with_reducible refine Kd.C_alloc ?_ _) | (with_reducible refine Kd.C_drewN ?_ _) | (with_reducible refine Kd.C_drew ?_))); (case side2 => exact HC0.out); (case side3 => repeat (first | exact (Kd.R_reads' HO132.out).2.2 | (with_reducible refine Kd.C_alloc ?_ _) | (with_reducible refine Kd.C_drewN ?_ _) | (with_reducible refine Kd.C_drew ?_))); (case side4 => exact (Kd.R_reads' HO132.out).2.1); rintro e w33 ⟨v134, rfl, ho0, hb⟩; have n0_ := am (Kd.R_elder' (roS HO_5.out) (Kd.R_base ho0) hb); have n1_ := am (Kd.R_elder' (roS HO132.out) (Kd.R_base ho0) hb); have n2_ := am (Kd.R_lower (Kd.R_new' (Kd.R_new' ho0 (Kd.R_lt (roS HO_5.out))) (Kd.R_lt (roS HO132.out))) (below_size (hbS HB.out))); have n3_ := am (below_step (hbS HB.out) hb); clear HO_5; clear HO132; clear HB; have HO_5 := n0_; have HO132 := n1_; have HO135 := n2_; have HB := n3_; clear n0_ n1_ n2_ n3_; (try clear hb); (try clear hb2); (try clear hk); (try clear hi); (try clear ho0); obtain ⟨Ao34, co34, eo34⟩ := Kd.R_slice HO135.out; subst eo34; obtain ⟨Ao35, co35, eo35⟩ := Kd.R_slice HO_5.out; subst eo35)); try go_wp2_with (first | (go_at_call 46; (with_reducible refine (spec_l1Own.calls _ _ l1 t127 _ ?side1 ?side2 A20.out).mono ?_); (case side1 => repeat (first | exact (Kd.C_below HR1.out HB.out) | (with_reducible refine Kd.C_alloc ?_ _) | (with_reducible refine Kd.C_drewN ?_ _) | (with_reducible refine Kd.C_drew ?_))); (case side2 => exact HC1.out); rintro e w30 ⟨v128, rfl, ho0, hb⟩; have n0_ := am (Kd.R_elder' (roS HO_5.out) (Kd.R_base ho0) hb); have n1_ := am (Kd.R_lower (Kd.R_new' ho0 (Kd.R_lt (roS HO_5.out))) (below_size (hbS HB.out))); have n2_ := am (below_step (hbS HB.out) hb); clear HO_5; clear HB; have HO_5 := n0_; have HO129 := n1_; have HB := n2_; clear n0_ n1_ n2_; (try clear hb); (try clear hb2); (try clear hk); (try clear hi); (try clear ho0)) | ((with_reducible refine gate_builtin (b := .append) (xs := #[.tmp 51, .tmp 53]) rfl ?_); at_builtin; refine Kd.R_append (Kd.int .i64) (w0 := w) w.heap.size rfl (.tmp 51) (.tmp 53) 22 3 (.int .i64 0) 8 rfl Try.underlying22 info3 rfl (by decide) (by omega) v128 t127 x8_2 [.int .i64 x8_2] (fun k_ => some k_ ≠ (u5 : Value).ownBlock) (fun _ => False) rfl rfl ?aP (fun _ hk => hk.elim) ?aF ?aO ?aB ?aS ?aL ?_; (case aP => exact rfl); (case aB => exact (hbS HB.out)); (case aF => exact (fun k_ hk => Kd.fresh' (Kd.R_lt (roS HO_5.out)) k_ hk)); (case aO => exact (by (with_reducible repeat (first | apply Kd.R_alloc | apply Kd.R_drewN | apply Kd.R_drew)); exact Kd.R_mono HO129.out (fun _ hk => hk.2))); (case aS => exact (below_size (hbS HB.out))); (case aL => have := LMc21.out; omega); intro v131 w31 ho hb hg hat; rw [← Ny130.out] at ho; have n0_ := am (Kd.R_after (ok := (fun _ => True)) (roS HO_5.out) hg hat); have n1_ := am (hb); have n2_ := am (ho); clear HO_5; clear HB; clear HO129; have HO_5 := n0_; have HB := n1_; have HO132 := n2_; clear n0_ n1_ n2_; clear ho hb hg hat; obtain ⟨Ao32, co32, eo32⟩ := Kd.R_slice HO132.out; subst eo32) | (go_at_call 32; (with_reducible refine (ih kj10 (by have := HJ3.out; have := HK2.out; have := HJ10.out; omega) _ _ l0 _ _ y130 t133 _ ?side1 ?side2 ?side3 ?side4 A22.out).mono ?_); (case side1 => repeat (first | exact (Kd.C_below HR0.out HB.out) | (with_reducible refine Kd.C_alloc ?_ _) | (with_reducible refine Kd.C_drewN ?_ _) | (with_reducible refine Kd.C_drew ?_))); (case side2 => exact HC0.out); (case side3 => repeat (first | exact (Kd.R_reads' HO132.out).2.2 | (with_reducible refine Kd.C_alloc ?_ _) | (with_reducible refine Kd.C_drewN ?_ _) | (with_reducible refine Kd.C_drew ?_))); (case side4 => exact (Kd.R_reads' HO132.out).2.1); rintro e w33 ⟨v134, rfl, ho0, hb⟩; have n0_ := am (Kd.R_elder' (roS HO_5.out) (Kd.R_base ho0) hb); have n1_ := am (Kd.R_elder' (roS HO132.out) (Kd.R_base ho0) hb); have n2_ := am (Kd.R_lower (Kd.R_new' (Kd.R_new' ho0 (Kd.R_lt (roS HO_5.out))) (Kd.R_lt (roS HO132.out))) (below_size (hbS HB.out))); have n3_ := am (below_step (hbS HB.out) hb); clear HO_5; clear HO132; clear HB; have HO_5 := n0_; have HO132 := n1_; have HO135 := n2_; have HB := n3_; clear n0_ n1_ n2_ n3_; (try clear hb); (try clear hb2); (try clear hk); (try clear hi); (try clear ho0); obtain ⟨Ao34, co34, eo34⟩ := Kd.R_slice HO135.out; subst eo34; obtain ⟨Ao35, co35, eo35⟩ := Kd.R_slice HO_5.out; subst eo35)))
           go_roundg kj10
           case measure => have := HJ3.out; have := HK2.out; have := HJ10.out; omega
           case rel => exact ⟨(x5_2), (wrap64 (x8_2 + 1)), (by first | rfl | (simp; done) | (simp [*]; done)), H', ⟨by have := HJ3.out; have := HK2.out; have := HJ10.out; omega⟩, ⟨by (with_reducible repeat (first | apply Kd.R_alloc | apply Kd.R_drewN | apply Kd.R_drew)); exact Kd.R_mono HO_5.out (fun _ hk => trivial)⟩, ⟨hbS HB.out⟩⟩
         ·rw [if_neg c21] at H
          exact absurd H (by simp)
     ·rw [if_neg c10] at H
      have c10b0 : decide (x8_2 < (l0.length : Int)) = false := decide_eq_false c10
      clear c10
      obtain rfl := Option.some.inj H
      go_wp2
      repeat (go_quiet (fail); try go_wp2)
      go_ret
      exact ⟨_, by first | rfl | (simp [errW_none, errW_some] <;> rfl) | (simp [*, errW_none, errW_some] <;> rfl), roS HO_5.out, hbS HB.out⟩

end Go.Proofs.Ytfegbmlcbdjcgaa.X
