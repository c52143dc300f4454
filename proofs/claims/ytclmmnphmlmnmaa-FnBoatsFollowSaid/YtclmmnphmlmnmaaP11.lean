import Derived.Test.YtclmmnphmlmnmaaP4
import Derived.Test.YtclmmnphmlmnmaaP10
section
-- Written by a program of this session (wip/tools/mp.py) over the kit's print of the translation.
namespace Go.Proofs.Ytclmmnphmlmnmaa.X
open Go.Proofs.Ytclmmnphmlmnmaa.Sq Go.RowKit Go.Proofs.YtclmmnphmlmnmaaW.PrintWords Go.Proofs.YtclmmnphmlmnmaaW.PrintLast Go.Proofs.YtclmmnphmlmnmaaW.PrintMore
attribute [local go_sem] max2_int min2_int max_two min_two max_three min_three max_four min_four   -- for this text's walks alone
set_option linter.unusedVariables false
set_option linter.unusedSimpArgs false
/-! ### spec_CountWithInverted: function 19 -/
mutual
def spec_CountWithInverted.j0 : Nat → Int → Int → Bool → Option (Int × Bool)
 | 0, _, _, _ => none
 | k + 1, x0, x1, x18 => if x18 = true then (some (0, false)) else (spec_CountWithInverted.l0 k x0 x1 (([1] : List Int)) 2)
def spec_CountWithInverted.l0 : Nat → Int → Int → List Int → Int → Option (Int × Bool)
 | 0, _, _, _, _ => none
 | k + 1, x0, x1, x6, x7 => if x7 ≤ x0 then (if 0 ≤ (wrap64 ((wrap64 ((x6.length : Int) + x7)) - 1)) then (if (wrap64 ((wrap64 ((x6.length : Int) + x7)) - 1) : Int).toNat ≤ 35184372088832 then (spec_CountWithInverted.l1 k x0 x1 x7 (List.replicate (wrap64 ((wrap64 ((x6.length : Int) + x7)) - 1) : Int).toNat 0) x6 (x6.length : Int) 0) else (none)) else (none)) else (if x1 ≥ (x6.length : Int) then (some (0, true)) else (if 0 ≤ x1 then (if x1 < (x6.length : Int) then (some (rd x6 x1, true)) else (none)) else (none)))
def spec_CountWithInverted.l1 : Nat → Int → Int → Int → List Int → List Int → Int → Int → Option (Int × Bool)
 | 0, _, _, _, _, _, _, _ => none
 | k + 1, x0, x1, x7, x8, x31, x32, x33 => if x33 < x32 then (if 0 ≤ x33 then (if x33 < (x31.length : Int) then (spec_CountWithInverted.l2 k x0 x1 x7 x8 x33 (rd x31 x33) 0 x31 x32 x33) else (none)) else (none)) else (spec_CountWithInverted.l0 k x0 x1 x8 (wrap64 (x7 + 1)))
def spec_CountWithInverted.l2 : Nat → Int → Int → Int → List Int → Int → Int → Int → List Int → Int → Int → Option (Int × Bool)
 | 0, _, _, _, _, _, _, _, _, _, _ => none
 | k + 1, x0, x1, x7, x8, x9, x10, x11, x31, x32, x33 => if x11 < x7 then (if 0 ≤ (wrap64 (x9 + x11)) then (if (wrap64 (x9 + x11)) < (x8.length : Int) then (spec_CountWithInverted.l2 k x0 x1 x7 (x8.set ((wrap64 (x9 + x11)) : Int).toNat (wrap64 ((rd x8 (wrap64 (x9 + x11))) + x10))) x9 x10 (wrap64 (x11 + 1)) x31 x32 x33) else (none)) else (none)) else (spec_CountWithInverted.l1 k x0 x1 x7 x8 x31 x32 (wrap64 (x33 + 1)))
end
def spec_CountWithInverted.f (k : Nat) (a0 : Int) (a1 : Int) : Option (Int × Bool) := (spec_ptBoats.f a0).bind fun t332 => (if t332 = true then (spec_CountWithInverted.j0 k a0 a1 (decide (a1 < 0))) else (spec_CountWithInverted.j0 k a0 a1 true))
theorem spec_CountWithInverted.mono_l : ∀ k, (∀ y0 y1 y2, LeO (spec_CountWithInverted.j0 k y0 y1 y2) (spec_CountWithInverted.j0 (k + 1) y0 y1 y2)) ∧ (∀ y0 y1 y2 y3, LeO (spec_CountWithInverted.l0 k y0 y1 y2 y3) (spec_CountWithInverted.l0 (k + 1) y0 y1 y2 y3)) ∧ (∀ y0 y1 y2 y3 y4 y5 y6, LeO (spec_CountWithInverted.l1 k y0 y1 y2 y3 y4 y5 y6) (spec_CountWithInverted.l1 (k + 1) y0 y1 y2 y3 y4 y5 y6)) ∧ (∀ y0 y1 y2 y3 y4 y5 y6 y7 y8 y9, LeO (spec_CountWithInverted.l2 k y0 y1 y2 y3 y4 y5 y6 y7 y8 y9) (spec_CountWithInverted.l2 (k + 1) y0 y1 y2 y3 y4 y5 y6 y7 y8 y9))
 | 0 => ⟨fun _ _ _ r h => by simp [spec_CountWithInverted.j0] at h, fun _ _ _ _ r h => by simp [spec_CountWithInverted.l0] at h, fun _ _ _ _ _ _ _ r h => by simp [spec_CountWithInverted.l1] at h, fun _ _ _ _ _ _ _ _ _ _ r h => by simp [spec_CountWithInverted.l2] at h⟩
 | k + 1 => by
  obtain ⟨ih0, ih1, ih2, ih3⟩ := spec_CountWithInverted.mono_l k
  refine ⟨?_, ?_, ?_, ?_⟩
  ·intro y0 y1 y2
   unfold spec_CountWithInverted.j0
   repeat' first
   | (with_reducible exact ih0 _ _ _)
   | (with_reducible exact ih1 _ _ _ _)
   | (with_reducible exact ih2 _ _ _ _ _ _ _)
   | (with_reducible exact ih3 _ _ _ _ _ _ _ _ _ _)
   | (with_reducible exact LeO.refl _)
   | (with_reducible exact LeO.none _)
   | (with_reducible refine LeO.ite ?_ ?_)
   | (with_reducible refine LeO.bind ?_ (fun _ => ?_))
   | exact ih0 _ _ _
   | exact ih1 _ _ _ _
   | exact ih2 _ _ _ _ _ _ _
   | exact ih3 _ _ _ _ _ _ _ _ _ _
   | exact LeO.none _
   | refine LeO.ite ?_ ?_
   | refine LeO.bind ?_ (fun _ => ?_)
  ·intro y0 y1 y2 y3
   unfold spec_CountWithInverted.l0
   repeat' first
   | (with_reducible exact ih0 _ _ _)
   | (with_reducible exact ih1 _ _ _ _)
   | (with_reducible exact ih2 _ _ _ _ _ _ _)
   | (with_reducible exact ih3 _ _ _ _ _ _ _ _ _ _)
   | (with_reducible exact LeO.refl _)
   | (with_reducible exact LeO.none _)
   | (with_reducible refine LeO.ite ?_ ?_)
   | (with_reducible refine LeO.bind ?_ (fun _ => ?_))
   | exact ih0 _ _ _
   | exact ih1 _ _ _ _
   | exact ih2 _ _ _ _ _ _ _
   | exact ih3 _ _ _ _ _ _ _ _ _ _
   | exact LeO.none _
   | refine LeO.ite ?_ ?_
   | refine LeO.bind ?_ (fun _ => ?_)
  ·intro y0 y1 y2 y3 y4 y5 y6
   unfold spec_CountWithInverted.l1
   repeat' first
   | (with_reducible exact ih0 _ _ _)
   | (with_reducible exact ih1 _ _ _ _)
   | (with_reducible exact ih2 _ _ _ _ _ _ _)
   | (with_reducible exact ih3 _ _ _ _ _ _ _ _ _ _)
   | (with_reducible exact LeO.refl _)
   | (with_reducible exact LeO.none _)
   | (with_reducible refine LeO.ite ?_ ?_)
   | (with_reducible refine LeO.bind ?_ (fun _ => ?_))
   | exact ih0 _ _ _
   | exact ih1 _ _ _ _
   | exact ih2 _ _ _ _ _ _ _
   | exact ih3 _ _ _ _ _ _ _ _ _ _
   | exact LeO.none _
   | refine LeO.ite ?_ ?_
   | refine LeO.bind ?_ (fun _ => ?_)
  ·intro y0 y1 y2 y3 y4 y5 y6 y7 y8 y9
   unfold spec_CountWithInverted.l2
   repeat' first
   | (with_reducible exact ih0 _ _ _)
   | (with_reducible exact ih1 _ _ _ _)
   | (with_reducible exact ih2 _ _ _ _ _ _ _)
   | (with_reducible exact ih3 _ _ _ _ _ _ _ _ _ _)
   | (with_reducible exact LeO.refl _)
   | (with_reducible exact LeO.none _)
   | (with_reducible refine LeO.ite ?_ ?_)
   | (with_reducible refine LeO.bind ?_ (fun _ => ?_))
   | exact ih0 _ _ _
   | exact ih1 _ _ _ _
   | exact ih2 _ _ _ _ _ _ _
   | exact ih3 _ _ _ _ _ _ _ _ _ _
   | exact LeO.none _
   | refine LeO.ite ?_ ?_
   | refine LeO.bind ?_ (fun _ => ?_)
theorem spec_CountWithInverted.mono : ∀ a0 a1 k, LeO (spec_CountWithInverted.f k a0 a1) (spec_CountWithInverted.f (k + 1) a0 a1) := by
 intro a0 a1 k
 obtain ⟨ih0, ih1, ih2, ih3⟩ := spec_CountWithInverted.mono_l k
 unfold spec_CountWithInverted.f
 repeat' first
   | (with_reducible exact ih0 _ _ _)
   | (with_reducible exact ih1 _ _ _ _)
   | (with_reducible exact ih2 _ _ _ _ _ _ _)
   | (with_reducible exact ih3 _ _ _ _ _ _ _ _ _ _)
   | (with_reducible exact LeO.refl _)
   | (with_reducible exact LeO.none _)
   | (with_reducible refine LeO.ite ?_ ?_)
   | (with_reducible refine LeO.bind ?_ (fun _ => ?_))
   | exact ih0 _ _ _
   | exact ih1 _ _ _ _
   | exact ih2 _ _ _ _ _ _ _
   | exact ih3 _ _ _ _ _ _ _ _ _ _
   | exact LeO.none _
   | refine LeO.ite ?_ ?_
   | refine LeO.bind ?_ (fun _ => ?_)
set_option maxHeartbeats 8000000 in
set_option maxRecDepth 100000 in
theorem spec_CountWithInverted.calls (k : Nat) (a0 : Int) (a1 : Int) (r1 : Int) (r2 : Bool) (w : World) (h : spec_CountWithInverted.f k a0 a1 = some (r1, r2)) :
  Calls Try.prog 19 #[.int .i64 a0, .int .i64 a1] w fun e w' => e = .returned (.tuple #[.int .i64 r1, .bool r2]) ∧ Below w.heap.size w w' := by
 have HB := am (Below.refl w.heap.size w)
 have H : ((spec_ptBoats.f a0).bind fun t332 => (if t332 = true then (spec_CountWithInverted.j0 k a0 a1 (decide (a1 < 0))) else (spec_CountWithInverted.j0 k a0 a1 true))) = some (r1, r2) := h
 clear h
 have HC3 := am H
 clear H
 go_enter Try.func19, Try.ntmps19
 go_upto_region 1 with (fail)
 go_cut [18] (fun v18 wc => ∃ (kq : Nat) (x18_2 : Bool), v18 = .bool x18_2 ∧ Aside0 (spec_CountWithInverted.j0 kq a0 a1 x18_2 = some (r1, r2)) ∧ Aside0 (kq ≤ k) ∧ Aside0 (Below w.heap.size w wc))
 case first =>
  have H := HC3.out
  clear HC3
  replace H := Option.bind_eq_some_iff.mp H
  obtain ⟨t332, A40, H⟩ := H
  replace H : (if t332 = true then (spec_CountWithInverted.j0 k a0 a1 (decide (a1 < 0))) else (spec_CountWithInverted.j0 k a0 a1 true)) = some (r1, r2) := H
  have A4 := am A40
  clear A40
  by_cases c5 : t332 = true
  ·subst c5
   have H1 : (spec_CountWithInverted.j0 k a0 a1 (decide (a1 < 0))) = some (r1, r2) := by rw [if_pos rfl] at H; exact H
   clear H
   have H := H1
   clear H1
   have H' := am H
   clear H
   go_wp2_with (first | ((with_reducible refine gate_callee (f := 45) rfl ?_); refine goesL_ (some 13) rfl rfl Try.func45 (by kernel_rfl) rfl #[.int .i64 a0] rfl (by (try simp only [List.map_toArray, List.map_cons, List.map_nil]); first | done | rfl | (simp only [List.length_drop, List.length_take]; rfl)) ?_; (with_reducible refine (spec_ptBoats.calls a0 true _ A4.out).mono ?_); rintro e w' ⟨rfl, ⟨nd, rfl⟩⟩; refine ⟨_, rfl, ?_⟩))
   go_meet
   case rel => exact ⟨_, (decide (a1 < 0)), (by first | rfl | (simp; done) | (simp [*]; done)), H', ⟨by first | omega | exact Nat.le_refl _⟩, ⟨hbS HB.out⟩⟩
  ·replace c5 := Bool.eq_false_iff.mpr c5
   subst c5
   have H1 : (spec_CountWithInverted.j0 k a0 a1 true) = some (r1, r2) := by rw [if_neg (show ¬ (false = true) by decide)] at H; exact H
   clear H
   have H := H1
   clear H1
   have H' := am H
   clear H
   go_wp2_with (first | ((with_reducible refine gate_callee (f := 45) rfl ?_); refine goesL_ (some 13) rfl rfl Try.func45 (by kernel_rfl) rfl #[.int .i64 a0] rfl (by (try simp only [List.map_toArray, List.map_cons, List.map_nil]); first | done | rfl | (simp only [List.length_drop, List.length_take]; rfl)) ?_; (with_reducible refine (spec_ptBoats.calls a0 false _ A4.out).mono ?_); rintro e w' ⟨rfl, ⟨nd, rfl⟩⟩; refine ⟨_, rfl, ?_⟩))
   go_meet
   case rel => exact ⟨_, (true), (by first | rfl | (simp; done) | (simp [*]; done)), H', ⟨by first | omega | exact Nat.le_refl _⟩, ⟨hbS HB.out⟩⟩
 case rest =>
  clear HC3
  try clear c1
  try clear p2
  try clear c4
  try clear c5
  obtain ⟨kq, x18_2, rfl, HA, HJ2, HB⟩ := hcut
  cases kq with
  | zero => exact absurd HA.out (by simp [spec_CountWithInverted.j0])
  | succ kj2 =>
   have H := HA.out
   clear HA
   simp only [spec_CountWithInverted.j0] at H
   by_cases c6 : x18_2 = true
   ·subst c6
    have H1 : (some (0, false)) = some (r1, r2) := by rw [if_pos rfl] at H; exact H
    clear H
    have H := H1
    clear H1
    simp only [Option.some.injEq, Prod.mk.injEq] at H
    obtain ⟨rfl, rfl⟩ := H
    go_wp2
    go_ret2
    exact ⟨by first | rfl | (simp [errW_none, errW_some] <;> rfl) | (simp [*, errW_none, errW_some] <;> rfl), hbS HB.out⟩
   ·replace c6 := Bool.eq_false_iff.mpr c6
    subst c6
    have H1 : (spec_CountWithInverted.l0 kj2 a0 a1 (([1] : List Int)) 2) = some (r1, r2) := by rw [if_neg (show ¬ (false = true) by decide)] at H; exact H
    clear H
    have H := H1
    clear H1
    obtain ⟨y333, hy333⟩ : ∃ y_ : List Int, y_ = (([1] : List Int)) := ⟨_, rfl⟩
    replace H : (spec_CountWithInverted.l0 kj2 a0 a1 y333 2) = some (r1, r2) := by first | (rw [hy333]; with_reducible exact H) | (have H2_ := (Option.bind_some _ _).symm.trans H; rw [hy333]; with_reducible exact H2_) | (have H2_ := (Option.bind_some _ _).symm.trans H; with_reducible exact H2_) | with_reducible exact H | (rw [hy333]; exact H) | exact H
    have Ny333 := am hy333
    clear hy333
    have H' := am H
    clear H
    go_wp2_with (first | ((with_reducible refine gate_dst (N := 19) rfl ?_); refine Kd.R_lit (Kd.int .i64) _ 3 ?hg (N := 19) ?hd (xs := ([1] : List Int)) (inner := [.int .i64 1]) (ok := fun _ => True) (okp := fun _ => True) ?hr ?hp (fun _ hk => hk) trivial (Below.refl _ _) (Nat.le_refl _) (by simp) ?_; (case hd => rfl); (case hg => rfl); (case hr => first | (go_simp; done) | (go_simp; rfl)); (case hp => exact (Reps.one (show Kd.M (Kd.int .i64) _ _ _ 1 [.int .i64 1] from rfl) (Reps.none _ _))); intro v334 w7 ho8 hb hg_ hnew_; clear hg_ hnew_; (first | rw [← Ny333.out] at ho8 | (simp only [Int.reduceToNat] at ho8; rw [← Ny333.out] at ho8)); have n0_ := am (Kd.R_lower ho8 (below_size (hbS HB.out))); have n1_ := am (below_step (hbS HB.out) hb); clear HB; have HO335 := n0_; have HB := n1_; clear n0_ n1_; clear hb ho8))
    go_loopg [6, 7] kj2 (fun kq v6 v7 w' => ∃ (x6_2 : List Int) (x7_2 : Int), v7 = .int .i64 x7_2 ∧ Aside0 (spec_CountWithInverted.l0 kq a0 a1 x6_2 x7_2 = some (r1, r2)) ∧ Aside0 (kq ≤ kj2) ∧ Aside0 (Kd.R (Kd.int .i64) 3 w' w.heap.size (fun _ => True) v6 x6_2) ∧ Aside0 (Below w.heap.size w w'))
    case atStart => exact ⟨(y333), (2), (by first | rfl | (simp; done) | (simp [*]; done)), H', ⟨Nat.le_refl _⟩, ⟨roS HO335.out⟩, ⟨hbS HB.out⟩⟩
    case round =>
     clear H'
     try clear c1
     try clear p2
     try clear c4
     try clear c5
     try clear c6
     try clear p2
     obtain ⟨x6_2, x7_2, rfl, HA, HK2, HO_6, HB⟩ := hrel
     cases gk with
     | zero => exact absurd HA.out (by simp [spec_CountWithInverted.l0])
     | succ k2 =>
      have H := HA.out
      clear HA
      simp only [spec_CountWithInverted.l0] at H
      by_cases c9 : x7_2 ≤ a0
      ·rw [if_pos c9] at H
       have c9b0 : decide (x7_2 ≤ a0) = true := decide_eq_true c9
       clear c9
       obtain ⟨ji10, hji10⟩ : ∃ j_ : Int, (wrap64 ((wrap64 ((x6_2.length : Int) + x7_2)) - 1)) = j_ := ⟨_, rfl⟩
       replace H : (if 0 ≤ (ji10) then (if (ji10 : Int).toNat ≤ 35184372088832 then (spec_CountWithInverted.l1 k2 a0 a1 x7_2 (List.replicate (ji10 : Int).toNat 0) x6_2 (x6_2.length : Int) 0) else (none)) else (none)) = some (r1, r2) := by first | (rw [hji10] at H; exact H) | (simp only [hji10] at H ⊢; exact H)
       have hji10w : (IntKind.i64.wrap ((wrap64 ((x6_2.length : Int) + x7_2)) - 1)) = ji10 := (i64_w _).trans hji10
       by_cases c11 : 0 ≤ (ji10)
       ·rw [if_pos c11] at H
        have c11b0 := eq_true c11
        have c11b1 : decide (0 ≤ (ji10)) = true := decide_eq_true c11
        clear c11
        by_cases c12 : (ji10 : Int).toNat ≤ 35184372088832
        ·rw [if_pos c12] at H
         have c12b0 := eq_true c12
         have c12b1 : decide ((ji10 : Int).toNat ≤ 35184372088832) = true := decide_eq_true c12
         clear c12
         obtain ⟨y337, hy337⟩ : ∃ y_ : List Int, y_ = (List.replicate (ji10 : Int).toNat 0) := ⟨_, rfl⟩
         replace H : (spec_CountWithInverted.l1 k2 a0 a1 x7_2 y337 x6_2 (x6_2.length : Int) 0) = some (r1, r2) := by first | (rw [hy337]; with_reducible exact H) | (have H2_ := (Option.bind_some _ _).symm.trans H; rw [hy337]; with_reducible exact H2_) | (have H2_ := (Option.bind_some _ _).symm.trans H; with_reducible exact H2_) | with_reducible exact H | (rw [hy337]; exact H) | exact H
         have Ny337 := am hy337
         clear hy337
         have H' := am H
         clear H
         obtain ⟨Ao13, co13, eo13⟩ := Kd.R_slice HO_6.out
         subst eo13
         go_wp2_with (first | ((with_reducible refine gate_dst (N := 30) rfl ?_); refine Kd.R_make (Kd.int .i64) _ 3 rfl (N := 30) rfl 24 _ _ rfl ji10 rfl rfl Try.underlying24 (.int .i64 0) 8 info3 rfl (by decide) (by omega) 0 (ok := fun _ => True) (okp := fun _ => True) rfl (fun _ hk => hk) trivial (of_decide_eq_true (by first | (with_reducible assumption) | assumption)) (Nat.le_trans (Nat.mul_le_mul_right _ (of_decide_eq_true (by first | (with_reducible assumption) | assumption) : ji10.toNat ≤ 35184372088832)) (by omega)) (Below.refl _ _) (Nat.le_refl _) ?_; intro v338 w14 ho15 hb hg_ hnew_; clear hg_ hnew_; (first | rw [← Ny337.out] at ho15 | (simp only [Int.reduceToNat] at ho15; rw [← Ny337.out] at ho15)); have n0_ := am (Kd.R_elder' (roS HO_6.out) (Kd.R_base ho15) hb); have n1_ := am (Kd.R_lower (Kd.R_new' ho15 (Kd.R_lt (roS HO_6.out))) (below_size (hbS HB.out))); have n2_ := am (below_step (hbS HB.out) hb); clear HO_6; clear HB; have HO_6 := n0_; have HO339 := n1_; have HB := n2_; clear n0_ n1_ n2_; clear hb ho15))
         go_loopg [33] k2 (fun kq v33 w' => ∃ (x8_3 : List Int) (x33_3 : Int), v33 = .int .i64 x33_3 ∧ Aside0 (spec_CountWithInverted.l1 kq a0 a1 x7_2 x8_3 x6_2 (x6_2.length : Int) x33_3 = some (r1, r2)) ∧ Aside0 (kq ≤ k2) ∧ Aside0 (Kd.R (Kd.int .i64) 3 w' w.heap.size (fun k_ => some k_ ≠ ((.slice Ao13 x6_2.length co13) : Value).ownBlock) v338 x8_3) ∧ Aside0 (Kd.R (Kd.int .i64) 3 w' w.heap.size (fun k_ => some k_ ≠ (v338 : Value).ownBlock) (.slice Ao13 x6_2.length co13) x6_2) ∧ Aside0 (Below w.heap.size w w'))
         case atStart => exact ⟨(y337), (0), (by first | rfl | (simp; done) | (simp [*]; done)), H', ⟨Nat.le_refl _⟩, ⟨by (with_reducible repeat (first | apply Kd.R_alloc | apply Kd.R_drewN | apply Kd.R_drew)); exact Kd.R_mono HO339.out (fun _ hk => hk.2)⟩, ⟨by (with_reducible repeat (first | apply Kd.R_alloc | apply Kd.R_drewN | apply Kd.R_drew)); exact Kd.R_mono HO_6.out (fun _ hk => hk.2)⟩, ⟨hbS HB.out⟩⟩
         case round =>
          clear H'
          try clear c1
          try clear p2
          try clear c4
          try clear c5
          try clear c6
          try clear p6
          try clear c9
          try clear c9b0
          try clear c11
          try clear c11b0
          try clear c11b1
          try clear c12
          try clear c12b0
          try clear c12b1
          try clear p2
          obtain ⟨x8_3, x33_3, rfl, HA, HK3, HO_8, HO_31, HB⟩ := hrel
          cases gk with
          | zero => exact absurd HA.out (by simp [spec_CountWithInverted.l1])
          | succ k3 =>
           have H := HA.out
           clear HA
           simp only [spec_CountWithInverted.l1] at H
           by_cases c16 : x33_3 < (x6_2.length : Int)
           ·rw [if_pos c16] at H
            have c16b0 : decide (x33_3 < (x6_2.length : Int)) = true := decide_eq_true c16
            clear c16
            by_cases c17 : 0 ≤ x33_3
            ·rw [if_pos c17] at H
             have c17b0 : decide (0 ≤ x33_3) = true := decide_eq_true c17
             clear c17
             by_cases c18 : x33_3 < (x6_2.length : Int)
             ·rw [if_pos c18] at H
              have c18b0 : decide (x33_3 < (x6_2.length : Int)) = true := decide_eq_true c18
              clear c18
              have H' := am H
              clear H
              have p340 : 0 ≤ (x33_3 : Int) := of_decide_eq_true (by first | (with_reducible assumption) | assumption)
              have q340 : x33_3 < (x6_2.length : Int) := of_decide_eq_true (by first | (with_reducible assumption) | assumption)
              obtain ⟨ad340, e340, hx340_0⟩ := Kd.at_int (Kd.R_reads' HO_31.out).2.2 x33_3 p340 q340
              cases e340
              replace p340 := eq_true p340
              replace q340 := eq_true q340
              go_wp2
              go_loopg [11] k3 (fun kq v11 w' => ∃ (x8_4 : List Int) (x11_4 : Int), v11 = .int .i64 x11_4 ∧ Aside0 (spec_CountWithInverted.l2 kq a0 a1 x7_2 x8_4 x33_3 (rd x6_2 x33_3) x11_4 x6_2 (x6_2.length : Int) x33_3 = some (r1, r2)) ∧ Aside0 (kq ≤ k3) ∧ Aside0 (Kd.R (Kd.int .i64) 3 w' w.heap.size (fun k_ => some k_ ≠ ((.slice (some ad340) x6_2.length co13) : Value).ownBlock) v338 x8_4) ∧ Aside0 (Kd.R (Kd.int .i64) 3 w' w.heap.size (fun k_ => some k_ ≠ (v338 : Value).ownBlock) (.slice (some ad340) x6_2.length co13) x6_2) ∧ Aside0 (Below w.heap.size w w'))
              case atStart => exact ⟨(x8_3), (0), (by first | rfl | (simp; done) | (simp [*]; done)), H', ⟨Nat.le_refl _⟩, ⟨roS HO_8.out⟩, ⟨roS HO_31.out⟩, ⟨hbS HB.out⟩⟩
              case round =>
               clear H'
               try clear c1
               try clear p2
               try clear p3
               try clear q3
               try clear hx3
               try clear c4
               try clear c5
               try clear c6
               try clear p6
               try clear c9
               try clear c9b0
               try clear c11
               try clear c11b0
               try clear c11b1
               try clear c12
               try clear c12b0
               try clear c12b1
               try clear c16
               try clear c16b0
               try clear c17
               try clear c17b0
               try clear c18
               try clear c18b0
               try clear hx340_0
               try clear p2
               try clear p340
               try clear p6
               try clear q340
               obtain ⟨x8_4, x11_4, rfl, HA, HK4, HO_8, HO_31, HB⟩ := hrel
               cases gk with
               | zero => exact absurd HA.out (by simp [spec_CountWithInverted.l2])
               | succ k4 =>
                have H := HA.out
                clear HA
                simp only [spec_CountWithInverted.l2] at H
                by_cases c19 : x11_4 < x7_2
                ·rw [if_pos c19] at H
                 have c19b0 : decide (x11_4 < x7_2) = true := decide_eq_true c19
                 clear c19
                 obtain ⟨ji20, hji20⟩ : ∃ j_ : Int, (wrap64 (x33_3 + x11_4)) = j_ := ⟨_, rfl⟩
                 replace H : (if 0 ≤ (ji20) then (if (ji20) < (x8_4.length : Int) then (spec_CountWithInverted.l2 k4 a0 a1 x7_2 (x8_4.set ((ji20) : Int).toNat (wrap64 ((rd x8_4 (ji20)) + (rd x6_2 x33_3)))) x33_3 (rd x6_2 x33_3) (wrap64 (x11_4 + 1)) x6_2 (x6_2.length : Int) x33_3) else (none)) else (none)) = some (r1, r2) := by first | (rw [hji20] at H; exact H) | (simp only [hji20] at H ⊢; exact H)
                 have hji20w : (IntKind.i64.wrap (x33_3 + x11_4)) = ji20 := (i64_w _).trans hji20
                 by_cases c21 : 0 ≤ (ji20)
                 ·rw [if_pos c21] at H
                  have c21b0 : decide (0 ≤ (ji20)) = true := decide_eq_true c21
                  clear c21
                  by_cases c22 : (ji20) < (x8_4.length : Int)
                  ·rw [if_pos c22] at H
                   have c22b0 : decide ((ji20) < (x8_4.length : Int)) = true := decide_eq_true c22
                   clear c22
                   obtain ⟨y342, hy342⟩ : ∃ y_ : List Int, y_ = (x8_4.set ((ji20) : Int).toNat (wrap64 ((rd x8_4 (ji20)) + (rd x6_2 x33_3)))) := ⟨_, rfl⟩
                   replace H : (spec_CountWithInverted.l2 k4 a0 a1 x7_2 y342 x33_3 (rd x6_2 x33_3) (wrap64 (x11_4 + 1)) x6_2 (x6_2.length : Int) x33_3) = some (r1, r2) := by first | (rw [hy342]; with_reducible exact H) | (have H2_ := (Option.bind_some _ _).symm.trans H; rw [hy342]; with_reducible exact H2_) | (have H2_ := (Option.bind_some _ _).symm.trans H; with_reducible exact H2_) | with_reducible exact H | (rw [hy342]; exact H) | exact H
                   have Ny342 := am hy342
                   clear hy342
                   have H' := am H
                   clear H
                   obtain ⟨Ao24, co24, eo24⟩ := Kd.R_slice HO_8.out
                   subst eo24
                   have p341 : 0 ≤ ((ji20) : Int) := of_decide_eq_true (by first | (with_reducible assumption) | assumption)
                   have q341 : (ji20) < (x8_4.length : Int) := of_decide_eq_true (by first | (with_reducible assumption) | assumption)
                   obtain ⟨ad341, e341, hx341_0⟩ := Kd.at_int (Kd.R_reads' HO_8.out).2.2 (ji20) p341 q341
                   cases e341
                   replace p341 := eq_true p341
                   replace q341 := eq_true q341
                   have p23 : 0 ≤ ((ji20) : Int) := of_decide_eq_true (by first | (with_reducible assumption) | assumption)
                   have q23 : ((ji20) : Int) < ((x8_4.length : Int) : Int) := of_decide_eq_true (by first | (with_reducible assumption) | assumption)
                   obtain ⟨go23, co23, eo23, gb23, gl23, cl23, HG23⟩ := Kd.R_form HO_8.out (by omega)
                   (first | cases eo23 | (injection eo23 with ea_ en_ ec_; (first | subst ea_ | (injection ea_ with ea_; subst ea_)); subst ec_; clear en_))
                   have GB23 := am gb23
                   have GG23 := am HG23
                   clear gb23 gl23 HG23
                   (first | simp only [add_plain] at hx341_0 | skip)
                   obtain ⟨hx23_0, hf23_0⟩ := Kd.R_celln 0 HO_8.out ((ji20) : Int) p23 q23
                   replace p23 := eq_true p23
                   replace q23 := eq_true q23
                   have HP25 := Kd.R_putg HO_8.out ((ji20) : Int) (wrap64 ((rd x8_4 (ji20)) + (rd x6_2 x33_3)))
                   go_wp2_with (first | ((with_reducible refine gate_store (t := 3) (p := 51) rfl ?_); refine store_event (t := 3) (p := 51) (v := ?vo_w26) (w1 := (wr.setCell ⟨go23, ((ji20) : Int).toNat, none⟩ (.int .i64 (wrap64 ((rd x8_4 (ji20)) + (rd x6_2 x33_3)))))) ?hg ?ho ?hn ?hr ?_; (case ho => rfl); (case hg => rfl); (case hn => rfl); (case hr => first | (go_simp; done) | (go_simp; rfl)); intro w26 hw; have hg : wr.grownBy w26 (some go23) := (by rw [hw]; exact HP25.2); have hp_ : Kd.R (Kd.int .i64) 3 w26 w.heap.size (fun k_ => some k_ ≠ (.slice (some ad340) x6_2.length co13 : Value).ownBlock) (.slice (some ⟨go23, 0, none⟩) x8_4.length co24) y342 := (by rw [hw, Ny342.out]; exact HP25.1); clear HP25; have n0_ := am (hp_); have n1_ := am (Kd.R_after (v := (.slice (some ⟨go23, 0, none⟩) x8_4.length co24)) (v1 := (.slice (some ⟨go23, 0, none⟩) x8_4.length co24)) (ok := (fun _ => True)) (by (with_reducible repeat (first | apply Kd.R_alloc | apply Kd.R_drewN | apply Kd.R_drew)); exact Kd.R_mono HO_31.out (fun _ hk => ⟨trivial, hk⟩)) hg (.inl rfl)); have n2_ := am ((by rw [hw]; exact below_set (HB.out) GB23.out : Below w.heap.size w w26)); clear HO_8; clear HO_31; clear HB; have HO_8 := n0_; have HO_31 := n1_; have HB := n2_; clear n0_ n1_ n2_; clear hg hw hp_))
                   go_roundg k4
                   case measure => have := HJ2.out; have := HK2.out; have := HK3.out; have := HK4.out; omega
                   case rel => exact ⟨(y342), (wrap64 (x11_4 + 1)), (by first | rfl | (simp; done) | (simp [*]; done)), H', ⟨by have := HJ2.out; have := HK2.out; have := HK3.out; have := HK4.out; omega⟩, ⟨roS HO_8.out⟩, ⟨by (with_reducible repeat (first | apply Kd.R_alloc | apply Kd.R_drewN | apply Kd.R_drew)); exact Kd.R_mono HO_31.out (fun _ hk => hk.2)⟩, ⟨hbS HB.out⟩⟩
                  ·rw [if_neg c22] at H
                   exact absurd H (by simp)
                 ·rw [if_neg c21] at H
                  exact absurd H (by simp)
                ·rw [if_neg c19] at H
                 have c19b0 : decide (x11_4 < x7_2) = false := decide_eq_false c19
                 clear c19
                 have H' := am H
                 clear H
                 go_wp2
                 go_roundg k4
                 case measure => have := HJ2.out; have := HK2.out; have := HK3.out; have := HK4.out; omega
                 case rel => exact ⟨(x8_4), (wrap64 (x33_3 + 1)), (by first | rfl | (simp; done) | (simp [*]; done)), H', ⟨by have := HJ2.out; have := HK2.out; have := HK3.out; have := HK4.out; omega⟩, ⟨roS HO_8.out⟩, ⟨roS HO_31.out⟩, ⟨hbS HB.out⟩⟩
             ·rw [if_neg c18] at H
              exact absurd H (by simp)
            ·rw [if_neg c17] at H
             exact absurd H (by simp)
           ·rw [if_neg c16] at H
            have c16b0 : decide (x33_3 < (x6_2.length : Int)) = false := decide_eq_false c16
            clear c16
            have H' := am H
            clear H
            go_wp2
            go_roundg k3
            case measure => have := HJ2.out; have := HK2.out; have := HK3.out; omega
            case rel => exact ⟨(x8_3), (wrap64 (x7_2 + 1)), (by first | rfl | (simp; done) | (simp [*]; done)), H', ⟨by have := HJ2.out; have := HK2.out; have := HK3.out; omega⟩, ⟨by (with_reducible repeat (first | apply Kd.R_alloc | apply Kd.R_drewN | apply Kd.R_drew)); exact Kd.R_mono HO_8.out (fun _ hk => trivial)⟩, ⟨hbS HB.out⟩⟩
        ·rw [if_neg c12] at H
         exact absurd H (by simp)
       ·rw [if_neg c11] at H
        exact absurd H (by simp)
      ·rw [if_neg c9] at H
       have c9b0 : decide (x7_2 ≤ a0) = false := decide_eq_false c9
       clear c9
       by_cases c27 : a1 ≥ (x6_2.length : Int)
       ·rw [if_pos c27] at H
        have c27b0 : decide ((x6_2.length : Int) ≤ a1) = true := decide_eq_true c27
        clear c27
        simp only [Option.some.injEq, Prod.mk.injEq] at H
        obtain ⟨rfl, rfl⟩ := H
        obtain ⟨Ao28, co28, eo28⟩ := Kd.R_slice HO_6.out
        subst eo28
        go_wp2
        go_ret2
        exact ⟨by first | rfl | (simp [errW_none, errW_some] <;> rfl) | (simp [*, errW_none, errW_some] <;> rfl), hbS HB.out⟩
       ·rw [if_neg c27] at H
        have c27b0 : decide ((x6_2.length : Int) ≤ a1) = false := decide_eq_false c27
        clear c27
        by_cases c29 : 0 ≤ a1
        ·rw [if_pos c29] at H
         have c29b0 : decide (0 ≤ a1) = true := decide_eq_true c29
         clear c29
         by_cases c30 : a1 < (x6_2.length : Int)
         ·rw [if_pos c30] at H
          have c30b0 : decide (a1 < (x6_2.length : Int)) = true := decide_eq_true c30
          clear c30
          simp only [Option.some.injEq, Prod.mk.injEq] at H
          obtain ⟨rfl, rfl⟩ := H
          obtain ⟨Ao31, co31, eo31⟩ := Kd.R_slice HO_6.out
          subst eo31
          have p336 : 0 ≤ (a1 : Int) := of_decide_eq_true (by first | (with_reducible assumption) | assumption)
          have q336 : a1 < (x6_2.length : Int) := of_decide_eq_true (by first | (with_reducible assumption) | assumption)
          obtain ⟨ad336, e336, hx336_0⟩ := Kd.at_int (Kd.R_reads' HO_6.out).2.2 a1 p336 q336
          cases e336
          replace p336 := eq_true p336
          replace q336 := eq_true q336
          go_wp2
          go_ret2
          exact ⟨by first | rfl | (simp [errW_none, errW_some] <;> rfl) | (simp [*, errW_none, errW_some] <;> rfl), hbS HB.out⟩
         ·rw [if_neg c30] at H
          exact absurd H (by simp)
        ·rw [if_neg c29] at H
         exact absurd H (by simp)
end Go.Proofs.Ytclmmnphmlmnmaa.X
end
section
-- Written by a program of this session (wip/tools/mp.py) over the kit's print of the translation.
namespace Go.Proofs.Ytclmmnphmlmnmaa.X
open Go.Proofs.Ytclmmnphmlmnmaa.Sq Go.RowKit Go.Proofs.YtclmmnphmlmnmaaW.PrintWords Go.Proofs.YtclmmnphmlmnmaaW.PrintLast Go.Proofs.YtclmmnphmlmnmaaW.PrintMore
attribute [local go_sem] max2_int min2_int max_two min_two max_three min_three max_four min_four   -- for this text's walks alone
set_option linter.unusedVariables false
set_option linter.unusedSimpArgs false
/-! ### spec_DrawCountWithCycles: function 20 -/
def spec_DrawCountWithCycles.f (l0 : List Int) : Option (Int × Int) := (spec_l1Cur_among.f l0 0 0 (([1, 2, 3, 4, 5, 8, 9, 0] : List Int))).bind fun bt347 => ((spec_l1Cur_among.f l0 bt347.2.1 bt347.2.2 (([0, 1, 2, 3, 5, 8, 9, (-1), 4611686018427387904] : List Int))).bind fun bt353 => (some (bt347.1, bt353.1)))
set_option maxHeartbeats 8000000 in
set_option maxRecDepth 100000 in
theorem spec_DrawCountWithCycles.calls (A0 : Option Addr) (c0 : Nat) (l0 : List Int) (r1 : Int) (r2 : Int) (w : World) (hr0 : Kd.C (Kd.int .u8) w A0 l0.length l0) (hc0 : l0.length ≤ c0) (h : spec_DrawCountWithCycles.f l0 = some (r1, r2)) :
  Calls Try.prog 20 #[.slice A0 l0.length c0] w fun e w' => e = .returned (.tuple #[.int .i64 r1, .int .i64 r2]) ∧ Below w.heap.size w w' := by
 have hu42 := Try.underlying42
 have HR0 := am hr0
 have HC0 := am hc0
 clear hr0 hc0
 have HB := am (Below.refl w.heap.size w)
 have H : ((spec_l1Cur_among.f l0 0 0 (([1, 2, 3, 4, 5, 8, 9, 0] : List Int))).bind fun bt347 => ((spec_l1Cur_among.f l0 bt347.2.1 bt347.2.2 (([0, 1, 2, 3, 5, 8, 9, (-1), 4611686018427387904] : List Int))).bind fun bt353 => (some (bt347.1, bt353.1)))) = some (r1, r2) := h
 clear h
 obtain ⟨y344, hy344⟩ : ∃ y_ : List Int, y_ = (([1, 2, 3, 4, 5, 8, 9, 0] : List Int)) := ⟨_, rfl⟩
 replace H : ((spec_l1Cur_among.f l0 0 0 y344).bind fun bt347 => ((spec_l1Cur_among.f l0 bt347.2.1 bt347.2.2 (([0, 1, 2, 3, 5, 8, 9, (-1), 4611686018427387904] : List Int))).bind fun bt353 => (some (bt347.1, bt353.1)))) = some (r1, r2) := by first | (rw [hy344]; with_reducible exact H) | (have H2_ := (Option.bind_some _ _).symm.trans H; rw [hy344]; with_reducible exact H2_) | (have H2_ := (Option.bind_some _ _).symm.trans H; with_reducible exact H2_) | with_reducible exact H | (rw [hy344]; exact H) | exact H
 have Ny344 := am hy344
 clear hy344
 replace H := Option.bind_eq_some_iff.mp H
 obtain ⟨⟨t347, t348, t349⟩, A20, H⟩ := H
 replace H : ((spec_l1Cur_among.f l0 t348 t349 (([0, 1, 2, 3, 5, 8, 9, (-1), 4611686018427387904] : List Int))).bind fun bt353 => (some (t347, bt353.1))) = some (r1, r2) := H
 have A2 := am A20
 clear A20
 obtain ⟨y350, hy350⟩ : ∃ y_ : List Int, y_ = (([0, 1, 2, 3, 5, 8, 9, (-1), 4611686018427387904] : List Int)) := ⟨_, rfl⟩
 replace H : ((spec_l1Cur_among.f l0 t348 t349 y350).bind fun bt353 => (some (t347, bt353.1))) = some (r1, r2) := by first | (rw [hy350]; with_reducible exact H) | (have H2_ := (Option.bind_some _ _).symm.trans H; rw [hy350]; with_reducible exact H2_) | (have H2_ := (Option.bind_some _ _).symm.trans H; with_reducible exact H2_) | with_reducible exact H | (rw [hy350]; exact H) | exact H
 have Ny350 := am hy350
 clear hy350
 replace H := Option.bind_eq_some_iff.mp H
 obtain ⟨⟨t353, t354, t355⟩, A30, H⟩ := H
 replace H : (some (t347, t353)) = some (r1, r2) := H
 have A3 := am A30
 clear A30
 simp only [Option.some.injEq, Prod.mk.injEq] at H
 obtain ⟨rfl, rfl⟩ := H
 go_enter Try.func20, Try.ntmps20
 go_wp2_with (first | ((with_reducible refine gate_dst (N := 7) rfl ?_); refine box_event ?hg (N := 7) ?hd (cs := #[.slice A0 l0.length c0, .int .i64 0, .int .u64 0]) (t := 42) ?hr ?_; (case hd => rfl); (case hg => rfl); (case hr => first | (go_simp; done) | (go_simp; rfl)); intro g343 hg w4 hbox hb; have n0_ := am (below_step (hbS HB.out) hb); have n1_ := am ((⟨A0, c0, hbox, (by rw [hg]; exact (below_size (hbS HB.out))), HR0.out⟩ : IsS42 w w4 g343 l0 0 0)); clear HB; have HB := n0_; have HI343 := n1_; clear n0_ n1_; clear hb hbox hg) | ((with_reducible refine gate_dst (N := 9) rfl ?_); refine Kd.R_lit (Kd.int .i64) _ 3 ?hg (N := 9) ?hd (xs := ([1, 2, 3, 4, 5, 8, 9, 0] : List Int)) (inner := [.int .i64 1, .int .i64 2, .int .i64 3, .int .i64 4, .int .i64 5, .int .i64 8, .int .i64 9, .int .i64 0]) (ok := fun _ => True) (okp := fun _ => True) ?hr ?hp (fun _ hk => hk) trivial (Below.refl _ _) (Nat.le_refl _) (by simp) ?_; (case hd => rfl); (case hg => rfl); (case hr => first | (go_simp; done) | (go_simp; rfl)); (case hp => exact (Reps.one (show Kd.M (Kd.int .i64) _ _ _ 1 [.int .i64 1] from rfl) (Reps.one (show Kd.M (Kd.int .i64) _ _ _ 2 [.int .i64 2] from rfl) (Reps.one (show Kd.M (Kd.int .i64) _ _ _ 3 [.int .i64 3] from rfl) (Reps.one (show Kd.M (Kd.int .i64) _ _ _ 4 [.int .i64 4] from rfl) (Reps.one (show Kd.M (Kd.int .i64) _ _ _ 5 [.int .i64 5] from rfl) (Reps.one (show Kd.M (Kd.int .i64) _ _ _ 8 [.int .i64 8] from rfl) (Reps.one (show Kd.M (Kd.int .i64) _ _ _ 9 [.int .i64 9] from rfl) (Reps.one (show Kd.M (Kd.int .i64) _ _ _ 0 [.int .i64 0] from rfl) (Reps.none _ _)))))))))); intro v345 w5 ho6 hb hg_ hnew_; clear hg_ hnew_; (first | rw [← Ny344.out] at ho6 | (simp only [Int.reduceToNat] at ho6; rw [← Ny344.out] at ho6)); have n0_ := am (Kd.R_lower ho6 (below_size (by repeat (first | (with_reducible first | exact HB.out | apply below_alloc | apply pw_below_drewN | apply below_drew1 | refine below_set ?_ (IsS42.ge HI343.out)) | exact HB.out)))); have n1_ := am (IsS42.below (by repeat (first | (with_reducible first | exact HI343.out | apply IsS42.alloc | apply IsS42.drewN | apply IsS42.drew | apply IsS42.set_1 | apply IsS42.set_2) | exact HI343.out)) hb); have n2_ := am (below_step (by repeat (first | (with_reducible first | exact HB.out | apply below_alloc | apply pw_below_drewN | apply below_drew1 | refine below_set ?_ (IsS42.ge HI343.out)) | exact HB.out)) hb); clear HI343; clear HB; have HO346 := n0_; have HI343 := n1_; have HB := n2_; clear n0_ n1_ n2_; clear hb ho6; obtain ⟨Ao7, co7, eo7⟩ := Kd.R_slice HO346.out; subst eo7) | ((with_reducible refine gate_callee (f := 43) rfl ?_); refine goesL_ (some 10) rfl rfl Try.func43 (by kernel_rfl) rfl #[.pointer (some ⟨g343, 0, none⟩), .slice Ao7 y344.length co7] rfl (by (try simp only [List.map_toArray, List.map_cons, List.map_nil]); first | done | rfl | (simp only [List.length_drop, List.length_take]; rfl)) ?_; (with_reducible refine (spec_l1Cur_among.calls g343 l0 0 0 _ _ y344 t347 t348 t349 w _ ?side1 ?side2 ?side3 ?side4 ?side5 A2.out).mono ?_); (case side1 => repeat (first | (with_reducible first | exact HI343.out | apply IsS42.alloc | apply IsS42.drewN | apply IsS42.drew | apply IsS42.set_1 | apply IsS42.set_2) | exact HI343.out)); (case side2 => repeat (first | (with_reducible first | exact HB.out | apply below_alloc | apply pw_below_drewN | apply below_drew1 | refine below_set ?_ (IsS42.ge HI343.out)) | exact HB.out)); (case side3 => repeat (first | exact (Kd.R_reads' HO346.out).2.2 | (with_reducible refine Kd.C_alloc ?_ _) | (with_reducible refine Kd.C_drewN ?_ _) | (with_reducible refine Kd.C_drew ?_))); (case side4 => exact (Kd.R_reads' HO346.out).2.1); (case side5 => exact far_slice (IsS42.own_ne HI343.out HO346.out (by decide))); rintro e w8 ⟨rfl, hi, hb, hk⟩; refine ⟨_, rfl, ?_⟩; have n0_ := am (Kd.R_mono (Kd.R_keep (IsS42.apart (show IsS42 w _ g343 l0 0 0 from by repeat (first | (with_reducible first | exact HI343.out | apply IsS42.alloc | apply IsS42.drewN | apply IsS42.drew | apply IsS42.set_1 | apply IsS42.set_2) | exact HI343.out)) (roS HO346.out) (by decide)) hk (fun _ h => h.2)) (fun _ h => h.1)); have n1_ := am (hb); have n2_ := am (hi); clear HO346; clear HB; clear HI343; have HO346 := n0_; have HB := n1_; have HI343 := n2_; clear n0_ n1_ n2_; (try clear hb); (try clear hb2); (try clear hk); (try clear hi)) | ((with_reducible refine gate_dst (N := 12) rfl ?_); refine Kd.R_lit (Kd.int .i64) _ 3 ?hg (N := 12) ?hd (xs := ([0, 1, 2, 3, 5, 8, 9, (-1), 4611686018427387904] : List Int)) (inner := [.int .i64 0, .int .i64 1, .int .i64 2, .int .i64 3, .int .i64 5, .int .i64 8, .int .i64 9, .int .i64 (-1), .int .i64 4611686018427387904]) (ok := fun _ => True) (okp := fun _ => True) ?hr ?hp (fun _ hk => hk) trivial (Below.refl _ _) (Nat.le_refl _) (by simp) ?_; (case hd => rfl); (case hg => rfl); (case hr => first | (go_simp; done) | (go_simp; rfl)); (case hp => exact (Reps.one (show Kd.M (Kd.int .i64) _ _ _ 0 [.int .i64 0] from rfl) (Reps.one (show Kd.M (Kd.int .i64) _ _ _ 1 [.int .i64 1] from rfl) (Reps.one (show Kd.M (Kd.int .i64) _ _ _ 2 [.int .i64 2] from rfl) (Reps.one (show Kd.M (Kd.int .i64) _ _ _ 3 [.int .i64 3] from rfl) (Reps.one (show Kd.M (Kd.int .i64) _ _ _ 5 [.int .i64 5] from rfl) (Reps.one (show Kd.M (Kd.int .i64) _ _ _ 8 [.int .i64 8] from rfl) (Reps.one (show Kd.M (Kd.int .i64) _ _ _ 9 [.int .i64 9] from rfl) (Reps.one (show Kd.M (Kd.int .i64) _ _ _ (-1) [.int .i64 (-1)] from rfl) (Reps.one (show Kd.M (Kd.int .i64) _ _ _ 4611686018427387904 [.int .i64 4611686018427387904] from rfl) (Reps.none _ _))))))))))); intro v351 w9 ho10 hb hg_ hnew_; clear hg_ hnew_; (first | rw [← Ny350.out] at ho10 | (simp only [Int.reduceToNat] at ho10; rw [← Ny350.out] at ho10)); have n0_ := am (Kd.R_elder' (roS HO346.out) (Kd.R_base ho10) hb); have n1_ := am (Kd.R_lower (Kd.R_new' ho10 (Kd.R_lt (roS HO346.out))) (below_size (by repeat (first | (with_reducible first | exact HB.out | apply below_alloc | apply pw_below_drewN | apply below_drew1 | refine below_set ?_ (IsS42.ge HI343.out)) | exact HB.out)))); have n2_ := am (IsS42.below (by repeat (first | (with_reducible first | exact HI343.out | apply IsS42.alloc | apply IsS42.drewN | apply IsS42.drew | apply IsS42.set_1 | apply IsS42.set_2) | exact HI343.out)) hb); have n3_ := am (below_step (by repeat (first | (with_reducible first | exact HB.out | apply below_alloc | apply pw_below_drewN | apply below_drew1 | refine below_set ?_ (IsS42.ge HI343.out)) | exact HB.out)) hb); clear HO346; clear HI343; clear HB; have HO346 := n0_; have HO352 := n1_; have HI343 := n2_; have HB := n3_; clear n0_ n1_ n2_ n3_; clear hb ho10; obtain ⟨Ao11, co11, eo11⟩ := Kd.R_slice HO352.out; subst eo11) | ((with_reducible refine gate_callee (f := 43) rfl ?_); refine goesL_ (some 13) rfl rfl Try.func43 (by kernel_rfl) rfl #[.pointer (some ⟨g343, 0, none⟩), .slice Ao11 y350.length co11] rfl (by (try simp only [List.map_toArray, List.map_cons, List.map_nil]); first | done | rfl | (simp only [List.length_drop, List.length_take]; rfl)) ?_; (with_reducible refine (spec_l1Cur_among.calls g343 l0 t348 t349 _ _ y350 t353 t354 t355 w _ ?side1 ?side2 ?side3 ?side4 ?side5 A3.out).mono ?_); (case side1 => repeat (first | (with_reducible first | exact HI343.out | apply IsS42.alloc | apply IsS42.drewN | apply IsS42.drew | apply IsS42.set_1 | apply IsS42.set_2) | exact HI343.out)); (case side2 => repeat (first | (with_reducible first | exact HB.out | apply below_alloc | apply pw_below_drewN | apply below_drew1 | refine below_set ?_ (IsS42.ge HI343.out)) | exact HB.out)); (case side3 => repeat (first | exact (Kd.R_reads' HO352.out).2.2 | (with_reducible refine Kd.C_alloc ?_ _) | (with_reducible refine Kd.C_drewN ?_ _) | (with_reducible refine Kd.C_drew ?_))); (case side4 => exact (Kd.R_reads' HO352.out).2.1); (case side5 => exact far_slice (IsS42.own_ne HI343.out HO352.out (by decide))); rintro e w12 ⟨rfl, hi, hb, hk⟩; refine ⟨_, rfl, ?_⟩; have n0_ := am (Kd.R_mono (Kd.R_keep (IsS42.apart (show IsS42 w _ g343 l0 t348 t349 from by repeat (first | (with_reducible first | exact HI343.out | apply IsS42.alloc | apply IsS42.drewN | apply IsS42.drew | apply IsS42.set_1 | apply IsS42.set_2) | exact HI343.out)) (roS HO346.out) (by decide)) hk (fun _ h => h.2)) (fun _ h => h.1)); have n1_ := am (Kd.R_mono (Kd.R_keep (IsS42.apart (show IsS42 w _ g343 l0 t348 t349 from by repeat (first | (with_reducible first | exact HI343.out | apply IsS42.alloc | apply IsS42.drewN | apply IsS42.drew | apply IsS42.set_1 | apply IsS42.set_2) | exact HI343.out)) (roS HO352.out) (by decide)) hk (fun _ h => h.2)) (fun _ h => h.1)); have n2_ := am (hb); have n3_ := am (hi); clear HO346; clear HO352; clear HB; clear HI343; have HO346 := n0_; have HO352 := n1_; have HB := n2_; have HI343 := n3_; clear n0_ n1_ n2_ n3_; (try clear hb); (try clear hb2); (try clear hk); (try clear hi)))
 go_ret2
 exact ⟨by first | rfl | (simp [errW_none, errW_some] <;> rfl) | (simp [*, errW_none, errW_some] <;> rfl), by repeat (first | (with_reducible first | exact HB.out | apply below_alloc | apply pw_below_drewN | apply below_drew1 | refine below_set ?_ (IsS42.ge HI343.out)) | exact HB.out)⟩
end Go.Proofs.Ytclmmnphmlmnmaa.X
end
section
-- Written by a program of this session (wip/tools/mp.py) over the kit's print of the translation.
namespace Go.Proofs.Ytclmmnphmlmnmaa.X
open Go.Proofs.Ytclmmnphmlmnmaa.Sq Go.RowKit Go.Proofs.YtclmmnphmlmnmaaW.PrintWords Go.Proofs.YtclmmnphmlmnmaaW.PrintLast Go.Proofs.YtclmmnphmlmnmaaW.PrintMore
attribute [local go_sem] max2_int min2_int max_two min_two max_three min_three max_four min_four   -- for this text's walks alone
set_option linter.unusedVariables false
set_option linter.unusedSimpArgs false
/-! ### impl_CountWithCycles: function 21 -/
mutual
def impl_CountWithCycles.j0 : Nat → Int → Int → Bool → Option (Int × Bool)
 | 0, _, _, _ => none
 | k + 1, x0, x1, x17 => if x17 = true then (some (0, false)) else (impl_CountWithCycles.l0 k x1 (([1] : List Int)) x0 0)
def impl_CountWithCycles.l0 : Nat → Int → List Int → Int → Int → Option (Int × Bool)
 | 0, _, _, _, _ => none
 | k + 1, x1, x6, x19, x20 => if x20 < x19 then (if 0 ≤ (wrap64 ((x6.length : Int) + 1)) then (if (wrap64 ((x6.length : Int) + 1) : Int).toNat ≤ 35184372088832 then (impl_CountWithCycles.l1 k x1 x20 (List.replicate (wrap64 ((x6.length : Int) + 1) : Int).toNat 0) x19 x20 x6 (x6.length : Int) 0) else (none)) else (none)) else (if x1 ≥ (x6.length : Int) then (some (0, true)) else (if 0 ≤ x1 then (if x1 < (x6.length : Int) then (some (rd x6 x1, true)) else (none)) else (none)))
def impl_CountWithCycles.l1 : Nat → Int → Int → List Int → Int → Int → List Int → Int → Int → Option (Int × Bool)
 | 0, _, _, _, _, _, _, _, _ => none
 | k + 1, x1, x7, x8, x19, x20, x27, x28, x29 => if x29 < x28 then (if 0 ≤ x29 then (if x29 < (x27.length : Int) then (if x29 < (x8.length : Int) then ((some (x8.set (x29 : Int).toNat (wrap64 ((rd x8 x29) + (wrap64 (x7 * (rd x27 x29))))) : List Int)).bind fun y366 => (if 0 ≤ (wrap64 (x29 + 1)) then (if (wrap64 (x29 + 1)) < (x8.length : Int) then (impl_CountWithCycles.l1 k x1 x7 (y366.set ((wrap64 (x29 + 1)) : Int).toNat (wrap64 ((rd y366 (wrap64 (x29 + 1))) + (rd x27 x29)))) x19 x20 x27 x28 (wrap64 (x29 + 1))) else (none)) else (none))) else (none)) else (none)) else (none)) else (impl_CountWithCycles.l0 k x1 x8 x19 (wrap64 (x20 + 1)))
end
def impl_CountWithCycles.f (k : Nat) (a0 : Int) (a1 : Int) : Option (Int × Bool) := (impl_areBoats.f a0).bind fun t356 => (if t356 = true then (impl_CountWithCycles.j0 k a0 a1 (decide (a1 < 0))) else (impl_CountWithCycles.j0 k a0 a1 true))
theorem impl_CountWithCycles.mono_l : ∀ k, (∀ y0 y1 y2, LeO (impl_CountWithCycles.j0 k y0 y1 y2) (impl_CountWithCycles.j0 (k + 1) y0 y1 y2)) ∧ (∀ y0 y1 y2 y3, LeO (impl_CountWithCycles.l0 k y0 y1 y2 y3) (impl_CountWithCycles.l0 (k + 1) y0 y1 y2 y3)) ∧ (∀ y0 y1 y2 y3 y4 y5 y6 y7, LeO (impl_CountWithCycles.l1 k y0 y1 y2 y3 y4 y5 y6 y7) (impl_CountWithCycles.l1 (k + 1) y0 y1 y2 y3 y4 y5 y6 y7))
 | 0 => ⟨fun _ _ _ r h => by simp [impl_CountWithCycles.j0] at h, fun _ _ _ _ r h => by simp [impl_CountWithCycles.l0] at h, fun _ _ _ _ _ _ _ _ r h => by simp [impl_CountWithCycles.l1] at h⟩
 | k + 1 => by
  obtain ⟨ih0, ih1, ih2⟩ := impl_CountWithCycles.mono_l k
  refine ⟨?_, ?_, ?_⟩
  ·intro y0 y1 y2
   unfold impl_CountWithCycles.j0
   repeat' first
   | (with_reducible exact ih0 _ _ _)
   | (with_reducible exact ih1 _ _ _ _)
   | (with_reducible exact ih2 _ _ _ _ _ _ _ _)
   | (with_reducible exact LeO.refl _)
   | (with_reducible exact LeO.none _)
   | (with_reducible refine LeO.ite ?_ ?_)
   | (with_reducible refine LeO.bind ?_ (fun _ => ?_))
   | exact ih0 _ _ _
   | exact ih1 _ _ _ _
   | exact ih2 _ _ _ _ _ _ _ _
   | exact LeO.none _
   | refine LeO.ite ?_ ?_
   | refine LeO.bind ?_ (fun _ => ?_)
  ·intro y0 y1 y2 y3
   unfold impl_CountWithCycles.l0
   repeat' first
   | (with_reducible exact ih0 _ _ _)
   | (with_reducible exact ih1 _ _ _ _)
   | (with_reducible exact ih2 _ _ _ _ _ _ _ _)
   | (with_reducible exact LeO.refl _)
   | (with_reducible exact LeO.none _)
   | (with_reducible refine LeO.ite ?_ ?_)
   | (with_reducible refine LeO.bind ?_ (fun _ => ?_))
   | exact ih0 _ _ _
   | exact ih1 _ _ _ _
   | exact ih2 _ _ _ _ _ _ _ _
   | exact LeO.none _
   | refine LeO.ite ?_ ?_
   | refine LeO.bind ?_ (fun _ => ?_)
  ·intro y0 y1 y2 y3 y4 y5 y6 y7
   unfold impl_CountWithCycles.l1
   repeat' first
   | (with_reducible exact ih0 _ _ _)
   | (with_reducible exact ih1 _ _ _ _)
   | (with_reducible exact ih2 _ _ _ _ _ _ _ _)
   | (with_reducible exact LeO.refl _)
   | (with_reducible exact LeO.none _)
   | (with_reducible refine LeO.ite ?_ ?_)
   | (with_reducible refine LeO.bind ?_ (fun _ => ?_))
   | exact ih0 _ _ _
   | exact ih1 _ _ _ _
   | exact ih2 _ _ _ _ _ _ _ _
   | exact LeO.none _
   | refine LeO.ite ?_ ?_
   | refine LeO.bind ?_ (fun _ => ?_)
theorem impl_CountWithCycles.mono : ∀ a0 a1 k, LeO (impl_CountWithCycles.f k a0 a1) (impl_CountWithCycles.f (k + 1) a0 a1) := by
 intro a0 a1 k
 obtain ⟨ih0, ih1, ih2⟩ := impl_CountWithCycles.mono_l k
 unfold impl_CountWithCycles.f
 repeat' first
   | (with_reducible exact ih0 _ _ _)
   | (with_reducible exact ih1 _ _ _ _)
   | (with_reducible exact ih2 _ _ _ _ _ _ _ _)
   | (with_reducible exact LeO.refl _)
   | (with_reducible exact LeO.none _)
   | (with_reducible refine LeO.ite ?_ ?_)
   | (with_reducible refine LeO.bind ?_ (fun _ => ?_))
   | exact ih0 _ _ _
   | exact ih1 _ _ _ _
   | exact ih2 _ _ _ _ _ _ _ _
   | exact LeO.none _
   | refine LeO.ite ?_ ?_
   | refine LeO.bind ?_ (fun _ => ?_)
set_option maxHeartbeats 8000000 in
set_option maxRecDepth 100000 in
theorem impl_CountWithCycles.calls (k : Nat) (a0 : Int) (a1 : Int) (r1 : Int) (r2 : Bool) (w : World) (h : impl_CountWithCycles.f k a0 a1 = some (r1, r2)) :
  Calls Try.prog 21 #[.int .i64 a0, .int .i64 a1] w fun e w' => e = .returned (.tuple #[.int .i64 r1, .bool r2]) ∧ Below w.heap.size w w' := by
 have HB := am (Below.refl w.heap.size w)
 have H : ((impl_areBoats.f a0).bind fun t356 => (if t356 = true then (impl_CountWithCycles.j0 k a0 a1 (decide (a1 < 0))) else (impl_CountWithCycles.j0 k a0 a1 true))) = some (r1, r2) := h
 clear h
 have HC3 := am H
 clear H
 go_enter Try.func21, Try.ntmps21
 go_upto_region 1 with (fail)
 go_cut [17] (fun v17 wc => ∃ (kq : Nat) (x17_2 : Bool), v17 = .bool x17_2 ∧ Aside0 (impl_CountWithCycles.j0 kq a0 a1 x17_2 = some (r1, r2)) ∧ Aside0 (kq ≤ k) ∧ Aside0 (Below w.heap.size w wc))
 case first =>
  have H := HC3.out
  clear HC3
  replace H := Option.bind_eq_some_iff.mp H
  obtain ⟨t356, A40, H⟩ := H
  replace H : (if t356 = true then (impl_CountWithCycles.j0 k a0 a1 (decide (a1 < 0))) else (impl_CountWithCycles.j0 k a0 a1 true)) = some (r1, r2) := H
  have A4 := am A40
  clear A40
  by_cases c5 : t356 = true
  ·subst c5
   have H1 : (impl_CountWithCycles.j0 k a0 a1 (decide (a1 < 0))) = some (r1, r2) := by rw [if_pos rfl] at H; exact H
   clear H
   have H := H1
   clear H1
   have H' := am H
   clear H
   go_wp2_with (first | ((with_reducible refine gate_callee (f := 44) rfl ?_); refine goesL_ (some 12) rfl rfl Try.func44 (by kernel_rfl) rfl #[.int .i64 a0] rfl (by (try simp only [List.map_toArray, List.map_cons, List.map_nil]); first | done | rfl | (simp only [List.length_drop, List.length_take]; rfl)) ?_; (with_reducible refine (impl_areBoats.calls a0 true _ A4.out).mono ?_); rintro e w' ⟨rfl, ⟨nd, rfl⟩⟩; refine ⟨_, rfl, ?_⟩))
   go_meet
   case rel => exact ⟨_, (decide (a1 < 0)), (by first | rfl | (simp; done) | (simp [*]; done)), H', ⟨by first | omega | exact Nat.le_refl _⟩, ⟨hbS HB.out⟩⟩
  ·replace c5 := Bool.eq_false_iff.mpr c5
   subst c5
   have H1 : (impl_CountWithCycles.j0 k a0 a1 true) = some (r1, r2) := by rw [if_neg (show ¬ (false = true) by decide)] at H; exact H
   clear H
   have H := H1
   clear H1
   have H' := am H
   clear H
   go_wp2_with (first | ((with_reducible refine gate_callee (f := 44) rfl ?_); refine goesL_ (some 12) rfl rfl Try.func44 (by kernel_rfl) rfl #[.int .i64 a0] rfl (by (try simp only [List.map_toArray, List.map_cons, List.map_nil]); first | done | rfl | (simp only [List.length_drop, List.length_take]; rfl)) ?_; (with_reducible refine (impl_areBoats.calls a0 false _ A4.out).mono ?_); rintro e w' ⟨rfl, ⟨nd, rfl⟩⟩; refine ⟨_, rfl, ?_⟩))
   go_meet
   case rel => exact ⟨_, (true), (by first | rfl | (simp; done) | (simp [*]; done)), H', ⟨by first | omega | exact Nat.le_refl _⟩, ⟨hbS HB.out⟩⟩
 case rest =>
  clear HC3
  try clear c2
  try clear p2
  try clear c4
  try clear c5
  obtain ⟨kq, x17_2, rfl, HA, HJ2, HB⟩ := hcut
  cases kq with
  | zero => exact absurd HA.out (by simp [impl_CountWithCycles.j0])
  | succ kj2 =>
   have H := HA.out
   clear HA
   simp only [impl_CountWithCycles.j0] at H
   by_cases c6 : x17_2 = true
   ·subst c6
    have H1 : (some (0, false)) = some (r1, r2) := by rw [if_pos rfl] at H; exact H
    clear H
    have H := H1
    clear H1
    simp only [Option.some.injEq, Prod.mk.injEq] at H
    obtain ⟨rfl, rfl⟩ := H
    go_wp2
    go_ret2
    exact ⟨by first | rfl | (simp [errW_none, errW_some] <;> rfl) | (simp [*, errW_none, errW_some] <;> rfl), hbS HB.out⟩
   ·replace c6 := Bool.eq_false_iff.mpr c6
    subst c6
    have H1 : (impl_CountWithCycles.l0 kj2 a1 (([1] : List Int)) a0 0) = some (r1, r2) := by rw [if_neg (show ¬ (false = true) by decide)] at H; exact H
    clear H
    have H := H1
    clear H1
    obtain ⟨y357, hy357⟩ : ∃ y_ : List Int, y_ = (([1] : List Int)) := ⟨_, rfl⟩
    replace H : (impl_CountWithCycles.l0 kj2 a1 y357 a0 0) = some (r1, r2) := by first | (rw [hy357]; with_reducible exact H) | (have H2_ := (Option.bind_some _ _).symm.trans H; rw [hy357]; with_reducible exact H2_) | (have H2_ := (Option.bind_some _ _).symm.trans H; with_reducible exact H2_) | with_reducible exact H | (rw [hy357]; exact H) | exact H
    have Ny357 := am hy357
    clear hy357
    have H' := am H
    clear H
    go_wp2_with (first | ((with_reducible refine gate_dst (N := 18) rfl ?_); refine Kd.R_lit (Kd.int .i64) _ 3 ?hg (N := 18) ?hd (xs := ([1] : List Int)) (inner := [.int .i64 1]) (ok := fun _ => True) (okp := fun _ => True) ?hr ?hp (fun _ hk => hk) trivial (Below.refl _ _) (Nat.le_refl _) (by simp) ?_; (case hd => rfl); (case hg => rfl); (case hr => first | (go_simp; done) | (go_simp; rfl)); (case hp => exact (Reps.one (show Kd.M (Kd.int .i64) _ _ _ 1 [.int .i64 1] from rfl) (Reps.none _ _))); intro v358 w7 ho8 hb hg_ hnew_; clear hg_ hnew_; (first | rw [← Ny357.out] at ho8 | (simp only [Int.reduceToNat] at ho8; rw [← Ny357.out] at ho8)); have n0_ := am (Kd.R_lower ho8 (below_size (hbS HB.out))); have n1_ := am (below_step (hbS HB.out) hb); clear HB; have HO359 := n0_; have HB := n1_; clear n0_ n1_; clear hb ho8))
    go_loopg [6, 20] kj2 (fun kq v6 v20 w' => ∃ (x6_2 : List Int) (x20_2 : Int), v20 = .int .i64 x20_2 ∧ Aside0 (impl_CountWithCycles.l0 kq a1 x6_2 a0 x20_2 = some (r1, r2)) ∧ Aside0 (kq ≤ kj2) ∧ Aside0 (Kd.R (Kd.int .i64) 3 w' w.heap.size (fun _ => True) v6 x6_2) ∧ Aside0 (Below w.heap.size w w'))
    case atStart => exact ⟨(y357), (0), (by first | rfl | (simp; done) | (simp [*]; done)), H', ⟨Nat.le_refl _⟩, ⟨roS HO359.out⟩, ⟨hbS HB.out⟩⟩
    case round =>
     clear H'
     try clear c2
     try clear p2
     try clear c4
     try clear c5
     try clear c6
     try clear p2
     obtain ⟨x6_2, x20_2, rfl, HA, HK2, HO_6, HB⟩ := hrel
     cases gk with
     | zero => exact absurd HA.out (by simp [impl_CountWithCycles.l0])
     | succ k2 =>
      have H := HA.out
      clear HA
      simp only [impl_CountWithCycles.l0] at H
      by_cases c9 : x20_2 < a0
      ·rw [if_pos c9] at H
       have c9b0 : decide (x20_2 < a0) = true := decide_eq_true c9
       clear c9
       obtain ⟨ji10, hji10⟩ : ∃ j_ : Int, (wrap64 ((x6_2.length : Int) + 1)) = j_ := ⟨_, rfl⟩
       replace H : (if 0 ≤ (ji10) then (if (ji10 : Int).toNat ≤ 35184372088832 then (impl_CountWithCycles.l1 k2 a1 x20_2 (List.replicate (ji10 : Int).toNat 0) a0 x20_2 x6_2 (x6_2.length : Int) 0) else (none)) else (none)) = some (r1, r2) := by first | (rw [hji10] at H; exact H) | (simp only [hji10] at H ⊢; exact H)
       have hji10w : (IntKind.i64.wrap ((x6_2.length : Int) + 1)) = ji10 := (i64_w _).trans hji10
       by_cases c11 : 0 ≤ (ji10)
       ·rw [if_pos c11] at H
        have c11b0 := eq_true c11
        have c11b1 : decide (0 ≤ (ji10)) = true := decide_eq_true c11
        clear c11
        by_cases c12 : (ji10 : Int).toNat ≤ 35184372088832
        ·rw [if_pos c12] at H
         have c12b0 := eq_true c12
         have c12b1 : decide ((ji10 : Int).toNat ≤ 35184372088832) = true := decide_eq_true c12
         clear c12
         obtain ⟨y361, hy361⟩ : ∃ y_ : List Int, y_ = (List.replicate (ji10 : Int).toNat 0) := ⟨_, rfl⟩
         replace H : (impl_CountWithCycles.l1 k2 a1 x20_2 y361 a0 x20_2 x6_2 (x6_2.length : Int) 0) = some (r1, r2) := by first | (rw [hy361]; with_reducible exact H) | (have H2_ := (Option.bind_some _ _).symm.trans H; rw [hy361]; with_reducible exact H2_) | (have H2_ := (Option.bind_some _ _).symm.trans H; with_reducible exact H2_) | with_reducible exact H | (rw [hy361]; exact H) | exact H
         have Ny361 := am hy361
         clear hy361
         have H' := am H
         clear H
         obtain ⟨Ao13, co13, eo13⟩ := Kd.R_slice HO_6.out
         subst eo13
         go_wp2_with (first | ((with_reducible refine gate_dst (N := 26) rfl ?_); refine Kd.R_make (Kd.int .i64) _ 3 rfl (N := 26) rfl 24 _ _ rfl ji10 rfl rfl Try.underlying24 (.int .i64 0) 8 info3 rfl (by decide) (by omega) 0 (ok := fun _ => True) (okp := fun _ => True) rfl (fun _ hk => hk) trivial (of_decide_eq_true (by first | (with_reducible assumption) | assumption)) (Nat.le_trans (Nat.mul_le_mul_right _ (of_decide_eq_true (by first | (with_reducible assumption) | assumption) : ji10.toNat ≤ 35184372088832)) (by omega)) (Below.refl _ _) (Nat.le_refl _) ?_; intro v362 w14 ho15 hb hg_ hnew_; clear hg_ hnew_; (first | rw [← Ny361.out] at ho15 | (simp only [Int.reduceToNat] at ho15; rw [← Ny361.out] at ho15)); have n0_ := am (Kd.R_elder' (roS HO_6.out) (Kd.R_base ho15) hb); have n1_ := am (Kd.R_lower (Kd.R_new' ho15 (Kd.R_lt (roS HO_6.out))) (below_size (hbS HB.out))); have n2_ := am (below_step (hbS HB.out) hb); clear HO_6; clear HB; have HO_6 := n0_; have HO363 := n1_; have HB := n2_; clear n0_ n1_ n2_; clear hb ho15))
         go_loopg [29] k2 (fun kq v29 w' => ∃ (x8_3 : List Int) (x29_3 : Int), v29 = .int .i64 x29_3 ∧ Aside0 (impl_CountWithCycles.l1 kq a1 x20_2 x8_3 a0 x20_2 x6_2 (x6_2.length : Int) x29_3 = some (r1, r2)) ∧ Aside0 (kq ≤ k2) ∧ Aside0 (Kd.R (Kd.int .i64) 3 w' w.heap.size (fun k_ => some k_ ≠ ((.slice Ao13 x6_2.length co13) : Value).ownBlock) v362 x8_3) ∧ Aside0 (Kd.R (Kd.int .i64) 3 w' w.heap.size (fun k_ => some k_ ≠ (v362 : Value).ownBlock) (.slice Ao13 x6_2.length co13) x6_2) ∧ Aside0 (Below w.heap.size w w'))
         case atStart => exact ⟨(y361), (0), (by first | rfl | (simp; done) | (simp [*]; done)), H', ⟨Nat.le_refl _⟩, ⟨by (with_reducible repeat (first | apply Kd.R_alloc | apply Kd.R_drewN | apply Kd.R_drew)); exact Kd.R_mono HO363.out (fun _ hk => hk.2)⟩, ⟨by (with_reducible repeat (first | apply Kd.R_alloc | apply Kd.R_drewN | apply Kd.R_drew)); exact Kd.R_mono HO_6.out (fun _ hk => hk.2)⟩, ⟨hbS HB.out⟩⟩
         case round =>
          clear H'
          try clear c1
          try clear c2
          try clear p2
          try clear c4
          try clear c5
          try clear c6
          try clear p6
          try clear c9
          try clear c9b0
          try clear c11
          try clear c11b0
          try clear c11b1
          try clear c12
          try clear c12b0
          try clear c12b1
          try clear p2
          obtain ⟨x8_3, x29_3, rfl, HA, HK3, HO_8, HO_27, HB⟩ := hrel
          cases gk with
          | zero => exact absurd HA.out (by simp [impl_CountWithCycles.l1])
          | succ k3 =>
           have H := HA.out
           clear HA
           simp only [impl_CountWithCycles.l1] at H
           by_cases c16 : x29_3 < (x6_2.length : Int)
           ·rw [if_pos c16] at H
            have c16b0 : decide (x29_3 < (x6_2.length : Int)) = true := decide_eq_true c16
            clear c16
            by_cases c17 : 0 ≤ x29_3
            ·rw [if_pos c17] at H
             have c17b0 : decide (0 ≤ x29_3) = true := decide_eq_true c17
             clear c17
             by_cases c18 : x29_3 < (x6_2.length : Int)
             ·rw [if_pos c18] at H
              have c18b0 : decide (x29_3 < (x6_2.length : Int)) = true := decide_eq_true c18
              clear c18
              by_cases c19 : x29_3 < (x8_3.length : Int)
              ·rw [if_pos c19] at H
               have c19b0 : decide (x29_3 < (x8_3.length : Int)) = true := decide_eq_true c19
               clear c19
               obtain ⟨y366, hy366⟩ : ∃ y_ : List Int, y_ = (x8_3.set (x29_3 : Int).toNat (wrap64 ((rd x8_3 x29_3) + (wrap64 (x20_2 * (rd x6_2 x29_3)))))) := ⟨_, rfl⟩
               replace H : (if 0 ≤ (wrap64 (x29_3 + 1)) then (if (wrap64 (x29_3 + 1)) < (x8_3.length : Int) then (impl_CountWithCycles.l1 k3 a1 x20_2 (y366.set ((wrap64 (x29_3 + 1)) : Int).toNat (wrap64 ((rd y366 (wrap64 (x29_3 + 1))) + (rd x6_2 x29_3)))) a0 x20_2 x6_2 (x6_2.length : Int) (wrap64 (x29_3 + 1))) else (none)) else (none)) = some (r1, r2) := by first | (rw [hy366]; with_reducible exact H) | (have H2_ := (Option.bind_some _ _).symm.trans H; rw [hy366]; with_reducible exact H2_) | (have H2_ := (Option.bind_some _ _).symm.trans H; with_reducible exact H2_) | with_reducible exact H | (rw [hy366]; exact H) | exact H
               have Ny366 := am hy366
               clear hy366
               obtain ⟨ji21, hji21⟩ : ∃ j_ : Int, (wrap64 (x29_3 + 1)) = j_ := ⟨_, rfl⟩
               replace H : (if 0 ≤ (ji21) then (if (ji21) < (x8_3.length : Int) then (impl_CountWithCycles.l1 k3 a1 x20_2 (y366.set ((ji21) : Int).toNat (wrap64 ((rd y366 (ji21)) + (rd x6_2 x29_3)))) a0 x20_2 x6_2 (x6_2.length : Int) ji21) else (none)) else (none)) = some (r1, r2) := by first | (rw [hji21] at H; exact H) | (simp only [hji21] at H ⊢; exact H)
               have hji21w : (IntKind.i64.wrap (x29_3 + 1)) = ji21 := (i64_w _).trans hji21
               by_cases c22 : 0 ≤ (ji21)
               ·rw [if_pos c22] at H
                have c22b0 : decide (0 ≤ (ji21)) = true := decide_eq_true c22
                clear c22
                by_cases c23 : (ji21) < (x8_3.length : Int)
                ·rw [if_pos c23] at H
                 have c23b0 : decide ((ji21) < (x8_3.length : Int)) = true := decide_eq_true c23
                 clear c23
                 obtain ⟨y368, hy368⟩ : ∃ y_ : List Int, y_ = (y366.set ((ji21) : Int).toNat (wrap64 ((rd y366 (ji21)) + (rd x6_2 x29_3)))) := ⟨_, rfl⟩
                 replace H : (impl_CountWithCycles.l1 k3 a1 x20_2 y368 a0 x20_2 x6_2 (x6_2.length : Int) ji21) = some (r1, r2) := by first | (rw [hy368]; with_reducible exact H) | (have H2_ := (Option.bind_some _ _).symm.trans H; rw [hy368]; with_reducible exact H2_) | (have H2_ := (Option.bind_some _ _).symm.trans H; with_reducible exact H2_) | with_reducible exact H | (rw [hy368]; exact H) | exact H
                 have Ny368 := am hy368
                 clear hy368
                 have H' := am H
                 clear H
                 have p364 : 0 ≤ (x29_3 : Int) := of_decide_eq_true (by first | (with_reducible assumption) | assumption)
                 have q364 : x29_3 < (x6_2.length : Int) := of_decide_eq_true (by first | (with_reducible assumption) | assumption)
                 obtain ⟨ad364, e364, hx364_0⟩ := Kd.at_int (Kd.R_reads' HO_27.out).2.2 x29_3 p364 q364
                 cases e364
                 replace p364 := eq_true p364
                 replace q364 := eq_true q364
                 obtain ⟨Ao25, co25, eo25⟩ := Kd.R_slice HO_8.out
                 subst eo25
                 have p365 : 0 ≤ (x29_3 : Int) := of_decide_eq_true (by first | (with_reducible assumption) | assumption)
                 have q365 : x29_3 < (x8_3.length : Int) := of_decide_eq_true (by first | (with_reducible assumption) | assumption)
                 obtain ⟨ad365, e365, hx365_0⟩ := Kd.at_int (Kd.R_reads' HO_8.out).2.2 x29_3 p365 q365
                 cases e365
                 replace p365 := eq_true p365
                 replace q365 := eq_true q365
                 have p20 : 0 ≤ (x29_3 : Int) := of_decide_eq_true (by first | (with_reducible assumption) | assumption)
                 have q20 : (x29_3 : Int) < ((x8_3.length : Int) : Int) := of_decide_eq_true (by first | (with_reducible assumption) | assumption)
                 obtain ⟨go20, co20, eo20, gb20, gl20, cl20, HG20⟩ := Kd.R_form HO_8.out (by omega)
                 (first | cases eo20 | (injection eo20 with ea_ en_ ec_; (first | subst ea_ | (injection ea_ with ea_; subst ea_)); subst ec_; clear en_))
                 have GB20 := am gb20
                 have GG20 := am HG20
                 clear gb20 gl20 HG20
                 (first | simp only [add_plain] at hx365_0 | skip)
                 obtain ⟨hx20_0, hf20_0⟩ := Kd.R_celln 0 HO_8.out (x29_3 : Int) p20 q20
                 replace p20 := eq_true p20
                 replace q20 := eq_true q20
                 have HP26 := Kd.R_putg HO_8.out (x29_3 : Int) (wrap64 ((rd x8_3 x29_3) + (wrap64 (x20_2 * (rd x6_2 x29_3)))))
                 go_wp2_with (first | ((with_reducible refine gate_store (t := 3) (p := 42) rfl ?_); refine store_event (t := 3) (p := 42) (v := ?vo_w27) (w1 := (wr.setCell ⟨go20, (x29_3 : Int).toNat, none⟩ (.int .i64 (wrap64 ((rd x8_3 x29_3) + (wrap64 (x20_2 * (rd x6_2 x29_3)))))))) ?hg ?ho ?hn ?hr ?_; (case ho => rfl); (case hg => rfl); (case hn => rfl); (case hr => first | (go_simp; done) | (go_simp; rfl)); intro w27 hw; have hg : wr.grownBy w27 (some go20) := (by rw [hw]; exact HP26.2); have hp_ : Kd.R (Kd.int .i64) 3 w27 w.heap.size (fun k_ => some k_ ≠ (.slice (some ad364) x6_2.length co13 : Value).ownBlock) (.slice (some ⟨go20, 0, none⟩) x8_3.length co25) y366 := (by rw [hw, Ny366.out]; exact HP26.1); clear HP26; have n0_ := am (hp_); have n1_ := am (Kd.R_after (v := (.slice (some ⟨go20, 0, none⟩) x8_3.length co25)) (v1 := (.slice (some ⟨go20, 0, none⟩) x8_3.length co25)) (ok := (fun _ => True)) (by (with_reducible repeat (first | apply Kd.R_alloc | apply Kd.R_drewN | apply Kd.R_drew)); exact Kd.R_mono HO_27.out (fun _ hk => ⟨trivial, hk⟩)) hg (.inl rfl)); have n2_ := am ((by rw [hw]; exact below_set (HB.out) GB20.out : Below w.heap.size w w27)); clear HO_8; clear HO_27; clear HB; have HO_8 := n0_; have HO_27 := n1_; have HB := n2_; clear n0_ n1_ n2_; clear hg hw hp_; have p367 : 0 ≤ ((ji21) : Int) := of_decide_eq_true (by first | (with_reducible assumption) | assumption); have q367 : (ji21) < (y366.length : Int) := (by have h_ : ((ji21) : Int) < ((x8_3.length : Int) : Int) := of_decide_eq_true (by first | (with_reducible assumption) | assumption); first | (have e_ := (Kd.R_reads' HO_8.out).1; omega) | simpa only [Ny366.out, List.length_set] using h_); have ql367 : (((ji21) : Int) < ((x8_3.length : Int) : Int)) = True := eq_true (of_decide_eq_true (by first | (with_reducible assumption) | assumption)); obtain ⟨ad367, e367, hx367_0⟩ := Kd.at_int (Kd.R_reads' HO_8.out).2.2 (ji21) p367 q367; obtain rfl : (⟨go20, 0, none⟩ : Addr) = ad367 := (by injection e367); (first | simp only [add_plain] at hx367_0 | simp only [add_at] at hx367_0 | simp only [Addr.add, Nat.zero_add] at hx367_0 | skip); replace p367 := eq_true p367; replace q367 := eq_true q367; have p24 : 0 ≤ ((ji21) : Int) := of_decide_eq_true (by first | (with_reducible assumption) | assumption); have q24 : ((ji21) : Int) < ((x8_3.length : Int) : Int) := of_decide_eq_true (by first | (with_reducible assumption) | assumption); obtain ⟨hx24_0, hf24_0⟩ := Kd.R_celln 0 HO_8.out ((ji21) : Int) p24 q24; replace p24 := eq_true p24; replace q24 := eq_true q24; obtain ⟨hy28_, hz28_⟩ := Kd.R_celln 0 HO_8.out ((ji21) : Int) (of_decide_eq_true (by first | (with_reducible assumption) | assumption)) (of_decide_eq_true (by first | (with_reducible assumption) | assumption)); have HP28 := Kd.R_putg HO_8.out ((ji21) : Int) (wrap64 ((rd y366 (ji21)) + (rd x6_2 x29_3)))) | ((with_reducible refine gate_store (t := 3) (p := 50) rfl ?_); refine store_event (t := 3) (p := 50) (v := ?vo_w29) (w1 := (w27.setCell ⟨go20, ((ji21) : Int).toNat, none⟩ (.int .i64 (wrap64 ((rd y366 (ji21)) + (rd x6_2 x29_3)))))) ?hg ?ho ?hn ?hr ?_; (case ho => rfl); (case hg => rfl); (case hn => rfl); (case hr => first | (go_simp; done) | (go_simp; rfl)); intro w29 hw; have hg : w27.grownBy w29 (some go20) := (by rw [hw]; exact HP28.2); have hp_ : Kd.R (Kd.int .i64) 3 w29 w.heap.size (fun k_ => some k_ ≠ (.slice (some ad364) x6_2.length co13 : Value).ownBlock) (.slice (some ⟨go20, 0, none⟩) x8_3.length co25) y368 := (by rw [hw, Ny368.out]; exact HP28.1); clear HP28; have n0_ := am (hp_); have n1_ := am (Kd.R_after (v := (.slice (some ⟨go20, 0, none⟩) x8_3.length co25)) (v1 := (.slice (some ⟨go20, 0, none⟩) x8_3.length co25)) (ok := (fun _ => True)) (roS HO_27.out) hg (.inl rfl)); have n2_ := am ((by rw [hw]; exact below_set (HB.out) GB20.out : Below w.heap.size w w29)); clear HO_8; clear HO_27; clear HB; have HO_8 := n0_; have HO_27 := n1_; have HB := n2_; clear n0_ n1_ n2_; clear hg hw hp_))
                 go_roundg k3
                 case measure => have := HJ2.out; have := HK2.out; have := HK3.out; omega
                 case rel => exact ⟨(y368), (ji21), (by first | rfl | (simp; done) | (simp only [← hji21] <;> (first | rfl | simp)) | (simp [*]; done)), H', ⟨by have := HJ2.out; have := HK2.out; have := HK3.out; omega⟩, ⟨roS HO_8.out⟩, ⟨by (with_reducible repeat (first | apply Kd.R_alloc | apply Kd.R_drewN | apply Kd.R_drew)); exact Kd.R_mono HO_27.out (fun _ hk => hk.2)⟩, ⟨hbS HB.out⟩⟩
                ·rw [if_neg c23] at H
                 exact absurd H (by simp)
               ·rw [if_neg c22] at H
                exact absurd H (by simp)
              ·rw [if_neg c19] at H
               exact absurd H (by simp)
             ·rw [if_neg c18] at H
              exact absurd H (by simp)
            ·rw [if_neg c17] at H
             exact absurd H (by simp)
           ·rw [if_neg c16] at H
            have c16b0 : decide (x29_3 < (x6_2.length : Int)) = false := decide_eq_false c16
            clear c16
            have H' := am H
            clear H
            go_wp2
            go_roundg k3
            case measure => have := HJ2.out; have := HK2.out; have := HK3.out; omega
            case rel => exact ⟨(x8_3), (wrap64 (x20_2 + 1)), (by first | rfl | (simp; done) | (simp [*]; done)), H', ⟨by have := HJ2.out; have := HK2.out; have := HK3.out; omega⟩, ⟨by (with_reducible repeat (first | apply Kd.R_alloc | apply Kd.R_drewN | apply Kd.R_drew)); exact Kd.R_mono HO_8.out (fun _ hk => trivial)⟩, ⟨hbS HB.out⟩⟩
        ·rw [if_neg c12] at H
         exact absurd H (by simp)
       ·rw [if_neg c11] at H
        exact absurd H (by simp)
      ·rw [if_neg c9] at H
       have c9b0 : decide (x20_2 < a0) = false := decide_eq_false c9
       clear c9
       by_cases c30 : a1 ≥ (x6_2.length : Int)
       ·rw [if_pos c30] at H
        have c30b0 : decide ((x6_2.length : Int) ≤ a1) = true := decide_eq_true c30
        clear c30
        simp only [Option.some.injEq, Prod.mk.injEq] at H
        obtain ⟨rfl, rfl⟩ := H
        obtain ⟨Ao31, co31, eo31⟩ := Kd.R_slice HO_6.out
        subst eo31
        go_wp2
        go_ret2
        exact ⟨by first | rfl | (simp [errW_none, errW_some] <;> rfl) | (simp [*, errW_none, errW_some] <;> rfl), hbS HB.out⟩
       ·rw [if_neg c30] at H
        have c30b0 : decide ((x6_2.length : Int) ≤ a1) = false := decide_eq_false c30
        clear c30
        by_cases c32 : 0 ≤ a1
        ·rw [if_pos c32] at H
         have c32b0 : decide (0 ≤ a1) = true := decide_eq_true c32
         clear c32
         by_cases c33 : a1 < (x6_2.length : Int)
         ·rw [if_pos c33] at H
          have c33b0 : decide (a1 < (x6_2.length : Int)) = true := decide_eq_true c33
          clear c33
          simp only [Option.some.injEq, Prod.mk.injEq] at H
          obtain ⟨rfl, rfl⟩ := H
          obtain ⟨Ao34, co34, eo34⟩ := Kd.R_slice HO_6.out
          subst eo34
          have p360 : 0 ≤ (a1 : Int) := of_decide_eq_true (by first | (with_reducible assumption) | assumption)
          have q360 : a1 < (x6_2.length : Int) := of_decide_eq_true (by first | (with_reducible assumption) | assumption)
          obtain ⟨ad360, e360, hx360_0⟩ := Kd.at_int (Kd.R_reads' HO_6.out).2.2 a1 p360 q360
          cases e360
          replace p360 := eq_true p360
          replace q360 := eq_true q360
          go_wp2
          go_ret2
          exact ⟨by first | rfl | (simp [errW_none, errW_some] <;> rfl) | (simp [*, errW_none, errW_some] <;> rfl), hbS HB.out⟩
         ·rw [if_neg c33] at H
          exact absurd H (by simp)
        ·rw [if_neg c32] at H
         exact absurd H (by simp)
end Go.Proofs.Ytclmmnphmlmnmaa.X
end
