-- Written by a program of this session (wip/tools/mp.py) over the kit's print of the translation.
import Derived.Test.YtfegbmlcbdjcgaaX0
import Derived.Test.YtfegbmlcbdjcgaaX2
namespace Go.Proofs.Ytfegbmlcbdjcgaa.X
open Go.Proofs.Ytfegbmlcbdjcgaa.Sq Go.RowKit Go.Proofs.YtfegbmlcbdjcgaaW.PrintWords Go.Proofs.YtfegbmlcbdjcgaaW.PrintLast Go.Proofs.YtfegbmlcbdjcgaaW.PrintMore
attribute [local go_sem] max2_int min2_int max_two min_two max_three min_three max_four min_four   -- for this text's walks alone
set_option linter.unusedVariables false
set_option linter.unusedSimpArgs false

/-! ### spec_MoveBoat: function 29 -/
def spec_MoveBoat.j0 : Nat → List Int → Int → Int → Bool → Option (List Int × Bool)
 | 0, _, _, _, _ => none
 | k + 1, x0, x1, x2, x19 => if x19 = true then (some (([] : List Int), false)) else (if 0 ≤ x1 then (if x1 ≤ (x0.length : Int) then ((spec_l1Own.f (x0.take (x1 : Int).toNat)).bind fun t125 => (if 0 ≤ (wrap64 (x1 + 1)) then (if (wrap64 (x1 + 1)) ≤ (x0.length : Int) then (if t125.length + (x0.drop ((wrap64 (x1 + 1)) : Int).toNat).length < 17592186044416 then ((some (t125 ++ (x0.drop ((wrap64 (x1 + 1)) : Int).toNat) : List Int)).bind fun y129 => (if 0 ≤ x2 then (if x2 ≤ (y129.length : Int) then ((spec_l1Own.f (y129.take (x2 : Int).toNat)).bind fun t136 => (if x1 < (x0.length : Int) then ((some (([rd x0 x1] : List Int) : List Int)).bind fun y140 => (if t136.length + y140.length < 17592186044416 then ((some (t136 ++ y140 : List Int)).bind fun y143 => ((some (y129.drop (x2 : Int).toNat : List Int)).bind fun y146 => (if y143.length + y146.length < 17592186044416 then (some ((y143 ++ y146), true)) else (none)))) else (none))) else (none))) else (none)) else (none))) else (none)) else (none)) else (none))) else (none)) else (none))
def spec_MoveBoat.f (k : Nat) (l0 : List Int) (a1 : Int) (a2 : Int) : Option (List Int × Bool) := (spec_ptPlace.f k l0 a1).bind fun t122 => (if t122 = true then ((spec_ptPlace.f k l0 a2).bind fun t123 => (spec_MoveBoat.j0 k l0 a1 a2 (!t123))) else (spec_MoveBoat.j0 k l0 a1 a2 true))
theorem spec_MoveBoat.mono_l : ∀ k, (∀ y0 y1 y2 y3, LeO (spec_MoveBoat.j0 k y0 y1 y2 y3) (spec_MoveBoat.j0 (k + 1) y0 y1 y2 y3))
 | 0 => fun _ _ _ _ r h => by simp [spec_MoveBoat.j0] at h
 | k + 1 => by
  have ih0 := spec_MoveBoat.mono_l k
  ·intro y0 y1 y2 y3
   unfold spec_MoveBoat.j0
   repeat' first
   | (with_reducible exact ih0 _ _ _ _)
   | (with_reducible exact spec_ptPlace.mono _ _ _)
   | (with_reducible exact LeO.refl _)
   | (with_reducible exact LeO.none _)
   | (with_reducible refine LeO.ite ?_ ?_)
   | (with_reducible refine LeO.bind ?_ (fun _ => ?_))
   | exact ih0 _ _ _ _
   | exact spec_ptPlace.mono _ _ _
   | exact LeO.none _
   | refine LeO.ite ?_ ?_
   | refine LeO.bind ?_ (fun _ => ?_)
theorem spec_MoveBoat.mono : ∀ a0 a1 a2 k, LeO (spec_MoveBoat.f k a0 a1 a2) (spec_MoveBoat.f (k + 1) a0 a1 a2) := by
 intro a0 a1 a2 k
 have ih0 := spec_MoveBoat.mono_l k
 unfold spec_MoveBoat.f
 repeat' first
   | (with_reducible exact ih0 _ _ _ _)
   | (with_reducible exact spec_ptPlace.mono _ _ _)
   | (with_reducible exact LeO.refl _)
   | (with_reducible exact LeO.none _)
   | (with_reducible refine LeO.ite ?_ ?_)
   | (with_reducible refine LeO.bind ?_ (fun _ => ?_))
   | exact ih0 _ _ _ _
   | exact spec_ptPlace.mono _ _ _
   | exact LeO.none _
   | refine LeO.ite ?_ ?_
   | refine LeO.bind ?_ (fun _ => ?_)
def spec_MoveBoat.T3 : Bool × List (List Nat × List Nat) := (true, [([], []), ([], []), ([0, 1], [0, 1]), ([2], [2]), ([], []), ([], []), ([5], [5]), ([4, 6], [4, 6]), ([3, 7, 3], [3, 7]), ([8, 8, 0, 1, 2, 3, 4, 5, 6, 7, 8], [8])])
def spec_MoveBoat.B3 : List Nat := [0, 0, 3, 7, 0, 0, 32, 112, 255, 511]
theorem spec_MoveBoat.tab3 : rtab .any (opsOf Try.f29 3) = spec_MoveBoat.T3 := by kernel_rfl
theorem spec_MoveBoat.bits3 : waitsOk spec_MoveBoat.T3.2 spec_MoveBoat.B3 = true := by kernel_rfl
def spec_MoveBoat.T4 : Bool × List (List Nat × List Nat) := (true, [([], []), ([], []), ([0, 1], [0, 1]), ([2], [2]), ([], []), ([], []), ([4, 5], [4, 5]), ([6], [6]), ([7], [7]), ([3, 8, 3], [3, 8]), ([9, 9, 0, 1, 2, 3, 4, 5, 6, 7, 8, 9], [9])])
def spec_MoveBoat.B4 : List Nat := [0, 0, 3, 7, 0, 0, 48, 112, 240, 511, 1023]
theorem spec_MoveBoat.tab4 : rtab .any (opsOf Try.f29 4) = spec_MoveBoat.T4 := by kernel_rfl
theorem spec_MoveBoat.bits4 : waitsOk spec_MoveBoat.T4.2 spec_MoveBoat.B4 = true := by kernel_rfl
set_option maxHeartbeats 8000000 in
set_option maxRecDepth 100000 in
theorem spec_MoveBoat.calls (k : Nat) (A0 : Option Addr) (c0 : Nat) (l0 : List Int) (a1 : Int) (a2 : Int) (r1 : List Int) (r2 : Bool) (w : World) (hr0 : Kd.C (Kd.int .i64) w A0 l0.length l0) (hc0 : l0.length ≤ c0) (h : spec_MoveBoat.f k l0 a1 a2 = some (r1, r2)) :
  Calls Try.prog 29 #[.slice A0 l0.length c0, .int .i64 a1, .int .i64 a2] w fun e w' => ∃ v0_ : Value, e = .returned (.tuple #[v0_, .bool r2]) ∧ Kd.R (Kd.int .i64) 3 w' w.heap.size (fun _ => True) v0_ r1 ∧ Below w.heap.size w w' := by
 have HR0 := am hr0
 have HC0 := am hc0
 clear hr0 hc0
 have HB := am (Below.refl w.heap.size w)
 have H : ((spec_ptPlace.f k l0 a1).bind fun t122 => (if t122 = true then ((spec_ptPlace.f k l0 a2).bind fun t123 => (spec_MoveBoat.j0 k l0 a1 a2 (!t123))) else (spec_MoveBoat.j0 k l0 a1 a2 true))) = some (r1, r2) := h
 clear h
 have HC4 := am H
 clear H
 go_enter Try.func29, Try.ntmps29
 go_upto_region 1 with (fail)
 go_cut [19] (fun v19 wc => ∃ (kq : Nat) (x19_3 : Bool), v19 = .bool x19_3 ∧ Aside0 (spec_MoveBoat.j0 kq l0 a1 a2 x19_3 = some (r1, r2)) ∧ Aside0 (kq ≤ k) ∧ Aside0 (Below w.heap.size w wc))
 case first =>
  have H := HC4.out
  clear HC4
  replace H := Option.bind_eq_some_iff.mp H
  obtain ⟨t122, A50, H⟩ := H
  replace H : (if t122 = true then ((spec_ptPlace.f k l0 a2).bind fun t123 => (spec_MoveBoat.j0 k l0 a1 a2 (!t123))) else (spec_MoveBoat.j0 k l0 a1 a2 true)) = some (r1, r2) := H
  have A5 := am A50
  clear A50
  by_cases c6 : t122 = true
  ·subst c6
   have H1 : ((spec_ptPlace.f k l0 a2).bind fun t123 => (spec_MoveBoat.j0 k l0 a1 a2 (!t123))) = some (r1, r2) := by rw [if_pos rfl] at H; exact H
   clear H
   have H := H1
   clear H1
   replace H := Option.bind_eq_some_iff.mp H
   obtain ⟨t123, A70, H⟩ := H
   replace H : (spec_MoveBoat.j0 k l0 a1 a2 (!t123)) = some (r1, r2) := H
   have A7 := am A70
   clear A70
   have H' := am H
   clear H
   go_wp2_with (first | ((with_reducible refine gate_callee (f := 37) rfl ?_); refine goesL_ (some 12) rfl rfl Try.func37 (by kernel_rfl) rfl #[.slice A0 l0.length c0, .int .i64 a1] rfl (by (try simp only [List.map_toArray, List.map_cons, List.map_nil]); first | done | rfl | (simp only [List.length_drop, List.length_take]; rfl)) ?_; (with_reducible refine (spec_ptPlace.calls k _ _ l0 a1 true _ ?side1 ?side2 A5.out).mono ?_); (case side1 => repeat (first | exact (Kd.C_below HR0.out HB.out) | (with_reducible refine Kd.C_alloc ?_ _) | (with_reducible refine Kd.C_drewN ?_ _) | (with_reducible refine Kd.C_drew ?_))); (case side2 => exact HC0.out); rintro e w' ⟨rfl, ⟨nd, rfl⟩⟩; refine ⟨_, rfl, ?_⟩) | (go_at_call 37; (with_reducible refine (spec_ptPlace.calls k _ _ l0 a2 t123 _ ?side1 ?side2 A7.out).mono ?_); (case side1 => repeat (first | exact (Kd.C_below HR0.out (hbS HB.out)) | (with_reducible refine Kd.C_alloc ?_ _) | (with_reducible refine Kd.C_drewN ?_ _) | (with_reducible refine Kd.C_drew ?_))); (case side2 => exact HC0.out); rintro e w' ⟨rfl, ⟨nd, rfl⟩⟩))
   go_meet
   case rel => exact ⟨_, (!t123), (by first | rfl | (simp; done) | (simp [*]; done)), H', ⟨by first | omega | exact Nat.le_refl _⟩, ⟨hbS HB.out⟩⟩
  ·replace c6 := Bool.eq_false_iff.mpr c6
   subst c6
   have H1 : (spec_MoveBoat.j0 k l0 a1 a2 true) = some (r1, r2) := by rw [if_neg (show ¬ (false = true) by decide)] at H; exact H
   clear H
   have H := H1
   clear H1
   have H' := am H
   clear H
   go_wp2_with (first | ((with_reducible refine gate_callee (f := 37) rfl ?_); refine goesL_ (some 12) rfl rfl Try.func37 (by kernel_rfl) rfl #[.slice A0 l0.length c0, .int .i64 a1] rfl (by (try simp only [List.map_toArray, List.map_cons, List.map_nil]); first | done | rfl | (simp only [List.length_drop, List.length_take]; rfl)) ?_; (with_reducible refine (spec_ptPlace.calls k _ _ l0 a1 false _ ?side1 ?side2 A5.out).mono ?_); (case side1 => repeat (first | exact (Kd.C_below HR0.out HB.out) | (with_reducible refine Kd.C_alloc ?_ _) | (with_reducible refine Kd.C_drewN ?_ _) | (with_reducible refine Kd.C_drew ?_))); (case side2 => exact HC0.out); rintro e w' ⟨rfl, ⟨nd, rfl⟩⟩; refine ⟨_, rfl, ?_⟩))
   go_meet
   case rel => exact ⟨_, (true), (by first | rfl | (simp; done) | (simp [*]; done)), H', ⟨by first | omega | exact Nat.le_refl _⟩, ⟨hbS HB.out⟩⟩
 case rest =>
  clear HC4
  try clear c2
  try clear p2
  try clear c3
  try clear c6
  obtain ⟨kq, x19_3, rfl, HA, HJ3, HB⟩ := hcut
  cases kq with
  | zero => exact absurd HA.out (by simp [spec_MoveBoat.j0])
  | succ kj3 =>
   have H := HA.out
   clear HA
   simp only [spec_MoveBoat.j0] at H
   by_cases c8 : x19_3 = true
   ·subst c8
    have H1 : (some (([] : List Int), false)) = some (r1, r2) := by rw [if_pos rfl] at H; exact H
    clear H
    have H := H1
    clear H1
    simp only [Option.some.injEq, Prod.mk.injEq] at H
    obtain ⟨rfl, rfl⟩ := H
    go_wp2
    go_ret2
    exact ⟨_, by first | rfl | (simp [errW_none, errW_some] <;> rfl) | (simp [*, errW_none, errW_some] <;> rfl), by first | exact Kd.R_nil _ _ _ _ _ | exact Kd.N_nil _ _ _ _ _ | exact Kd.V_nil _ _ _ _ _ | exact Kd.Q_nil _ _ _ _ _ | exact Kd.S_nil _ _ _ _ _, hbS HB.out⟩
   ·replace c8 := Bool.eq_false_iff.mpr c8
    subst c8
    have H1 : (if 0 ≤ a1 then (if a1 ≤ (l0.length : Int) then ((spec_l1Own.f (l0.take (a1 : Int).toNat)).bind fun t125 => (if 0 ≤ (wrap64 (a1 + 1)) then (if (wrap64 (a1 + 1)) ≤ (l0.length : Int) then (if t125.length + (l0.drop ((wrap64 (a1 + 1)) : Int).toNat).length < 17592186044416 then ((some (t125 ++ (l0.drop ((wrap64 (a1 + 1)) : Int).toNat) : List Int)).bind fun y129 => (if 0 ≤ a2 then (if a2 ≤ (y129.length : Int) then ((spec_l1Own.f (y129.take (a2 : Int).toNat)).bind fun t136 => (if a1 < (l0.length : Int) then ((some (([rd l0 a1] : List Int) : List Int)).bind fun y140 => (if t136.length + y140.length < 17592186044416 then ((some (t136 ++ y140 : List Int)).bind fun y143 => ((some (y129.drop (a2 : Int).toNat : List Int)).bind fun y146 => (if y143.length + y146.length < 17592186044416 then (some ((y143 ++ y146), true)) else (none)))) else (none))) else (none))) else (none)) else (none))) else (none)) else (none)) else (none))) else (none)) else (none)) = some (r1, r2) := by rw [if_neg (show ¬ (false = true) by decide)] at H; exact H
    clear H
    have H := H1
    clear H1
    by_cases c9 : 0 ≤ a1
    ·rw [if_pos c9] at H
     have c9b0 := eq_true c9
     have c9b1 : decide (0 ≤ a1) = true := decide_eq_true c9
     clear c9
     by_cases c10 : a1 ≤ (l0.length : Int)
     ·rw [if_pos c10] at H
      have c10b0 := eq_true c10
      have c10b1 : decide (a1 ≤ (l0.length : Int)) = true := decide_eq_true c10
      clear c10
      replace H := Option.bind_eq_some_iff.mp H
      obtain ⟨t125, A110, H⟩ := H
      replace H : (if 0 ≤ (wrap64 (a1 + 1)) then (if (wrap64 (a1 + 1)) ≤ (l0.length : Int) then (if t125.length + (l0.drop ((wrap64 (a1 + 1)) : Int).toNat).length < 17592186044416 then ((some (t125 ++ (l0.drop ((wrap64 (a1 + 1)) : Int).toNat) : List Int)).bind fun y129 => (if 0 ≤ a2 then (if a2 ≤ (y129.length : Int) then ((spec_l1Own.f (y129.take (a2 : Int).toNat)).bind fun t136 => (if a1 < (l0.length : Int) then ((some (([rd l0 a1] : List Int) : List Int)).bind fun y140 => (if t136.length + y140.length < 17592186044416 then ((some (t136 ++ y140 : List Int)).bind fun y143 => ((some (y129.drop (a2 : Int).toNat : List Int)).bind fun y146 => (if y143.length + y146.length < 17592186044416 then (some ((y143 ++ y146), true)) else (none)))) else (none))) else (none))) else (none)) else (none))) else (none)) else (none)) else (none)) = some (r1, r2) := H
      have A11 := am A110
      clear A110
      obtain ⟨ji12, hji12⟩ : ∃ j_ : Int, (wrap64 (a1 + 1)) = j_ := ⟨_, rfl⟩
      replace H : (if 0 ≤ (ji12) then (if (ji12) ≤ (l0.length : Int) then (if t125.length + (l0.drop ((ji12) : Int).toNat).length < 17592186044416 then ((some (t125 ++ (l0.drop ((ji12) : Int).toNat) : List Int)).bind fun y129 => (if 0 ≤ a2 then (if a2 ≤ (y129.length : Int) then ((spec_l1Own.f (y129.take (a2 : Int).toNat)).bind fun t136 => (if a1 < (l0.length : Int) then ((some (([rd l0 a1] : List Int) : List Int)).bind fun y140 => (if t136.length + y140.length < 17592186044416 then ((some (t136 ++ y140 : List Int)).bind fun y143 => ((some (y129.drop (a2 : Int).toNat : List Int)).bind fun y146 => (if y143.length + y146.length < 17592186044416 then (some ((y143 ++ y146), true)) else (none)))) else (none))) else (none))) else (none)) else (none))) else (none)) else (none)) else (none)) = some (r1, r2) := by first | (rw [hji12] at H; exact H) | (simp only [hji12] at H ⊢; exact H)
      (try rw [hji12] at A11)
      have hji12w : (IntKind.i64.wrap (a1 + 1)) = ji12 := (i64_w _).trans hji12
      by_cases c13 : 0 ≤ (ji12)
      ·rw [if_pos c13] at H
       have c13b0 := eq_true c13
       have c13b1 : decide (0 ≤ (ji12)) = true := decide_eq_true c13
       clear c13
       by_cases c14 : (ji12) ≤ (l0.length : Int)
       ·rw [if_pos c14] at H
        have c14b0 := eq_true c14
        have c14b1 : decide ((ji12) ≤ (l0.length : Int)) = true := decide_eq_true c14
        clear c14
        by_cases c15 : t125.length + (l0.drop ((ji12) : Int).toNat).length < 17592186044416
        ·rw [if_pos c15] at H
         have LMc15 := am c15
         clear c15
         obtain ⟨y129, hy129⟩ : ∃ y_ : List Int, y_ = (t125 ++ (l0.drop ((ji12) : Int).toNat)) := ⟨_, rfl⟩
         replace H : (if 0 ≤ a2 then (if a2 ≤ (y129.length : Int) then ((spec_l1Own.f (y129.take (a2 : Int).toNat)).bind fun t136 => (if a1 < (l0.length : Int) then ((some (([rd l0 a1] : List Int) : List Int)).bind fun y140 => (if t136.length + y140.length < 17592186044416 then ((some (t136 ++ y140 : List Int)).bind fun y143 => ((some (y129.drop (a2 : Int).toNat : List Int)).bind fun y146 => (if y143.length + y146.length < 17592186044416 then (some ((y143 ++ y146), true)) else (none)))) else (none))) else (none))) else (none)) else (none)) = some (r1, r2) := by first | (rw [hy129]; with_reducible exact H) | (have H2_ := (Option.bind_some _ _).symm.trans H; rw [hy129]; with_reducible exact H2_) | (have H2_ := (Option.bind_some _ _).symm.trans H; with_reducible exact H2_) | with_reducible exact H | (rw [hy129]; exact H) | exact H
         have Ny129 := am hy129
         clear hy129
         by_cases c16 : 0 ≤ a2
         ·rw [if_pos c16] at H
          have c16b0 := eq_true c16
          have c16b1 : decide (0 ≤ a2) = true := decide_eq_true c16
          clear c16
          by_cases c17 : a2 ≤ (y129.length : Int)
          ·rw [if_pos c17] at H
           have c17b0 := eq_true c17
           have c17b1 : decide (a2 ≤ (y129.length : Int)) = true := decide_eq_true c17
           clear c17
           obtain ⟨y132, hy132⟩ : ∃ y_ : List Int, y_ = (y129.take (a2 : Int).toNat) := ⟨_, rfl⟩
           replace H : ((spec_l1Own.f y132).bind fun t136 => (if a1 < (l0.length : Int) then ((some (([rd l0 a1] : List Int) : List Int)).bind fun y140 => (if t136.length + y140.length < 17592186044416 then ((some (t136 ++ y140 : List Int)).bind fun y143 => ((some (y129.drop (a2 : Int).toNat : List Int)).bind fun y146 => (if y143.length + y146.length < 17592186044416 then (some ((y143 ++ y146), true)) else (none)))) else (none))) else (none))) = some (r1, r2) := by first | (rw [hy132]; with_reducible exact H) | (have H2_ := (Option.bind_some _ _).symm.trans H; rw [hy132]; with_reducible exact H2_) | (have H2_ := (Option.bind_some _ _).symm.trans H; with_reducible exact H2_) | with_reducible exact H | (rw [hy132]; exact H) | exact H
           have Ny132 := am hy132
           clear hy132
           replace H := Option.bind_eq_some_iff.mp H
           obtain ⟨t136, A180, H⟩ := H
           replace H : (if a1 < (l0.length : Int) then ((some (([rd l0 a1] : List Int) : List Int)).bind fun y140 => (if t136.length + y140.length < 17592186044416 then ((some (t136 ++ y140 : List Int)).bind fun y143 => ((some (y129.drop (a2 : Int).toNat : List Int)).bind fun y146 => (if y143.length + y146.length < 17592186044416 then (some ((y143 ++ y146), true)) else (none)))) else (none))) else (none)) = some (r1, r2) := H
           have A18 := am A180
           clear A180
           by_cases c19 : a1 < (l0.length : Int)
           ·rw [if_pos c19] at H
            have c19b0 : decide (a1 < (l0.length : Int)) = true := decide_eq_true c19
            clear c19
            obtain ⟨y140, hy140⟩ : ∃ y_ : List Int, y_ = (([rd l0 a1] : List Int)) := ⟨_, rfl⟩
            replace H : (if t136.length + y140.length < 17592186044416 then ((some (t136 ++ y140 : List Int)).bind fun y143 => ((some (y129.drop (a2 : Int).toNat : List Int)).bind fun y146 => (if y143.length + y146.length < 17592186044416 then (some ((y143 ++ y146), true)) else (none)))) else (none)) = some (r1, r2) := by first | (rw [hy140]; with_reducible exact H) | (have H2_ := (Option.bind_some _ _).symm.trans H; rw [hy140]; with_reducible exact H2_) | (have H2_ := (Option.bind_some _ _).symm.trans H; with_reducible exact H2_) | with_reducible exact H | (rw [hy140]; exact H) | exact H
            have Ny140 := am hy140
            clear hy140
            by_cases c20 : t136.length + y140.length < 17592186044416
            ·rw [if_pos c20] at H
             have LMc20 := am c20
             clear c20
             obtain ⟨y143, hy143⟩ : ∃ y_ : List Int, y_ = (t136 ++ y140) := ⟨_, rfl⟩
             replace H : ((some (y129.drop (a2 : Int).toNat : List Int)).bind fun y146 => (if y143.length + y146.length < 17592186044416 then (some ((y143 ++ y146), true)) else (none))) = some (r1, r2) := by first | (rw [hy143]; with_reducible exact H) | (have H2_ := (Option.bind_some _ _).symm.trans H; rw [hy143]; with_reducible exact H2_) | (have H2_ := (Option.bind_some _ _).symm.trans H; with_reducible exact H2_) | with_reducible exact H | (rw [hy143]; exact H) | exact H
             have Ny143 := am hy143
             clear hy143
             have c21b0 := eq_true (of_decide_eq_true (by first | (with_reducible assumption) | assumption) : 0 ≤ a2)
             have c22b0 := eq_true (of_decide_eq_true (by first | (with_reducible assumption) | assumption) : a2 ≤ (y129.length : Int))
             obtain ⟨y146, hy146⟩ : ∃ y_ : List Int, y_ = (y129.drop (a2 : Int).toNat) := ⟨_, rfl⟩
             replace H : (if y143.length + y146.length < 17592186044416 then (some ((y143 ++ y146), true)) else (none)) = some (r1, r2) := by first | (rw [hy146]; with_reducible exact H) | (have H2_ := (Option.bind_some _ _).symm.trans H; rw [hy146]; with_reducible exact H2_) | (have H2_ := (Option.bind_some _ _).symm.trans H; with_reducible exact H2_) | with_reducible exact H | (rw [hy146]; exact H) | exact H
             have Ny146 := am hy146
             clear hy146
             by_cases c23 : y143.length + y146.length < 17592186044416
             ·rw [if_pos c23] at H
              have LMc23 := am c23
              clear c23
              obtain ⟨y150, hy150⟩ : ∃ y_ : List Int, y_ = (y143 ++ y146) := ⟨_, rfl⟩
              replace H : (some (y150, true)) = some (r1, r2) := by first | (rw [hy150]; with_reducible exact H) | (have H2_ := (Option.bind_some _ _).symm.trans H; rw [hy150]; with_reducible exact H2_) | (have H2_ := (Option.bind_some _ _).symm.trans H; with_reducible exact H2_) | with_reducible exact H | (rw [hy150]; exact H) | exact H
              have Ny150 := am hy150
              clear hy150
              simp only [Option.some.injEq, Prod.mk.injEq] at H
              obtain ⟨rfl, rfl⟩ := H
              try go_wp2
              have n0_ := am (below_drew1 HB.out)
              clear HB
              have HB := n0_
              clear n0_
              obtain ⟨i025, hi025, _, hsz25, _⟩ := info_parts info3
              obtain ⟨hcut25, hA25, hC25⟩ := print_take_of (P := Try.prog) (Value.int .i64) 0 22 3 .i64 Try.underlying22 hi025 hsz25 A0 c0 l0 a1 (of_decide_eq_true (by first | (with_reducible assumption) | assumption)) (of_decide_eq_true (by first | (with_reducible assumption) | assumption)) HC0.out
              have HR124 := am (Kd.C_of_reads (h1 := fun _ => rfl) (hA25 _ (Kd.reads_of_C HR0.out)))
              have HC124 := am hC25
              clear hA25 hC25 hi025 hsz25
              obtain ⟨i026, hi026, _, hsz26, _⟩ := info_parts info3
              obtain ⟨A26, hcut26, hA26, hC26⟩ := print_drop_of (P := Try.prog) (Value.int .i64) 0 22 3 .i64 Try.underlying22 hi026 hsz26 A0 c0 l0 (ji12) (of_decide_eq_true (by first | (with_reducible assumption) | assumption)) (of_decide_eq_true (by first | (with_reducible assumption) | assumption)) HC0.out
              have HR128 := am (Kd.C_of_reads (h1 := fun _ => rfl) (hA26 _ (Kd.reads_of_C HR0.out)))
              have HC128 := am hC26
              clear hA26 hC26 hi026 hsz26
              refine start_ (n := 10) (S := fun w' => True) (ds := []) #[false, false, false, false, false, false, false, false, false, false] (by kernel_rfl) rfl rfl trivial (fun hHeld => ?_); refine with_tabW spec_MoveBoat.tab3 spec_MoveBoat.bits3 (fun HT_ HW_ => ?_)
              generalize wc.drew = w24 at HB HR124 HR128 hHeld ⊢
              refine pure_ (i := 0) (N := some 20) (v := ?_) (a' := ?_) #[true, false, false, false, false, false, false, false, false, false] rfl rfl (any_of HT_.out (by kernel_rfl)) (fun _ _ _ h => h) (Or.inl ⟨by rfl, ?_⟩) ?_ ?_
              rotate_left
              ·intro w'
               go_simp
               with_reducible rfl
              rotate_left
              ·simp only [Act.put, List.setIfInBounds_toArray, List.set_cons_zero, List.set_cons_succ, i64_w, i32_w]
               rfl
              refine pure_ (i := 1) (N := some 21) (v := ?_) (a' := ?_) #[true, true, false, false, false, false, false, false, false, false] rfl rfl (any_of HT_.out (by kernel_rfl)) (fun _ _ _ h => h) (Or.inl ⟨by rfl, ?_⟩) ?_ ?_
              rotate_left
              ·intro w'
               go_simp
               with_reducible rfl
              rotate_left
              ·simp only [Act.put, List.setIfInBounds_toArray, List.set_cons_zero, List.set_cons_succ, i64_w, i32_w]
               rfl
              refine pure_ (i := 2) (N := some 22) (v := ?_) (a' := ?_) #[true, true, true, false, false, false, false, false, false, false] rfl rfl (any_of HT_.out (by kernel_rfl)) (fun _ _ _ h => h) (Or.inl ⟨by rfl, ?_⟩) ?_ ?_
              rotate_left
              ·intro w'
               go_simp
               with_reducible rfl
              rotate_left
              ·simp only [Act.put, List.setIfInBounds_toArray, List.set_cons_zero, List.set_cons_succ, i64_w, i32_w]
               rfl
              refine pure_ (i := 4) (N := some 24) (v := ?_) (a' := ?_) #[true, true, true, false, true, false, false, false, false, false] rfl rfl (any_of HT_.out (by kernel_rfl)) (fun _ _ _ h => h) (Or.inl ⟨by rfl, ?_⟩) ?_ ?_
              rotate_left
              ·intro w'
               go_simp
               with_reducible rfl
              rotate_left
              ·simp only [Act.put, List.setIfInBounds_toArray, List.set_cons_zero, List.set_cons_succ, i64_w, i32_w]
               rfl
              refine pure_ (i := 5) (N := some 25) (v := ?_) (a' := ?_) #[true, true, true, false, true, true, false, false, false, false] rfl rfl (any_of HT_.out (by kernel_rfl)) (fun _ _ _ h => h) (Or.inl ⟨by rfl, ?_⟩) ?_ ?_
              rotate_left
              ·intro w'
               go_simp
               with_reducible rfl
              rotate_left
              ·simp only [Act.put, List.setIfInBounds_toArray, List.set_cons_zero, List.set_cons_succ, i64_w, i32_w]
               rfl
              refine pure_ (i := 6) (N := some 26) (v := ?_) (a' := ?_) #[true, true, true, false, true, true, true, false, false, false] rfl rfl (any_of HT_.out (by kernel_rfl)) (fun _ _ _ h => h) (Or.inl ⟨by rfl, ?_⟩) ?_ ?_
              rotate_left
              ·intro w'
               go_simp
               with_reducible rfl
              rotate_left
              ·simp only [Act.put, List.setIfInBounds_toArray, List.set_cons_zero, List.set_cons_succ, i64_w, i32_w]
               rfl
              refine pure_ (i := 7) (N := some 27) (v := ?_) (a' := ?_) #[true, true, true, false, true, true, true, true, false, false] rfl rfl (any_of HT_.out (by kernel_rfl)) (fun _ _ _ h => h) (Or.inl ⟨by rfl, ?_⟩) ?_ ?_
              rotate_left
              ·intro w'
               go_simp
               with_reducible rfl
              rotate_left
              ·simp only [Act.put, List.setIfInBounds_toArray, List.set_cons_zero, List.set_cons_succ, i64_w, i32_w]
               rfl
              refine one_ (i := 3) (N := some 23) #[true, true, true, true, true, true, true, true, false, false] rfl rfl (one_of HT_.out (by kernel_rfl)) (by decide) (fun K hK => ?_)
              refine goes_ Try.func46 (by kernel_rfl) rfl #[.slice A0 (l0.take (a1 : Int).toNat).length c0] (by rfl) rfl rfl (by (try simp only [List.map_toArray, List.map_cons, List.map_nil]); first | done | (rw [show (l0.take (a1 : Int).toNat).length = a1.toNat from (by rw [List.length_take]; have h_ : (a1 : Int) ≤ (l0.length : Int) := of_decide_eq_true (by first | (with_reducible assumption) | assumption); omega)] <;> rfl) | rfl | (simp only [List.length_drop, List.length_take]; rfl)) ?_
              with_reducible refine (spec_l1Own.calls _ _ (l0.take (a1 : Int).toNat) t125 _ ?side1 ?side2 A11.out).mono ?_
              (case side1 => repeat (first | exact (Kd.C_below HR124.out HB.out) | (with_reducible refine Kd.C_alloc ?_ _) | (with_reducible refine Kd.C_drewN ?_ _) | (with_reducible refine Kd.C_drew ?_)))
              (case side2 => exact HC124.out)
              rintro e w27 ⟨v126, rfl, ho0, hb⟩
              refine ⟨_, rfl, ?_⟩
              have n0_ := am (Kd.R_lower ho0 (below_size (hbS HB.out)))
              have n1_ := am (below_step (hbS HB.out) hb)
              clear HB
              have HO127 := n0_
              have HB := n1_
              clear n0_ n1_
              (try clear hb)
              (try clear hb2)
              (try clear hk)
              (try clear hi)
              (try clear ho0)
              refine hK.out _ _ trivial (fun hHeld => ?_)
              clear hK K
              refine norm_ (a' := ?_) ?_ ?_
              rotate_left
              ·show Act.put _ (some 23) _ = _
               simp only [Act.put, List.setIfInBounds_toArray, List.set_cons_zero, List.set_cons_succ, i64_w, i32_w]
               rfl
              refine one_ (i := 8) (N := some 28) #[true, true, true, true, true, true, true, true, true, false] rfl rfl (one_of HT_.out (by kernel_rfl)) (by decide) (fun K hK => ?_)
              refine Kd.R_append_rows_step (Kd.int .i64) (w0 := w) w.heap.size (by rfl) (.tmp 23) (.tmp 27) 22 3 (.int .i64 0) 8 rfl Try.underlying22 info3 rfl (by decide) (by omega) v126 t125 (l0.drop ((ji12) : Int).toNat) _ _ _ (fun _ => True) (fun _ => False) rfl rfl ?aO ?aR (fun _ _ h => h) (fun _ h => h.elim) ?aF ?aB ?aS ?aL ?_
              (case aR => first | (rw [← show (l0.drop ((ji12) : Int).toNat).length = (l0.length - (ji12).toNat) from List.length_drop]; repeat (first | exact (Kd.C_below HR128.out HB.out) | (with_reducible refine Kd.C_alloc ?_ _) | (with_reducible refine Kd.C_drewN ?_ _) | (with_reducible refine Kd.C_drew ?_))) | (repeat (first | exact (Kd.C_below HR128.out HB.out) | (with_reducible refine Kd.C_alloc ?_ _) | (with_reducible refine Kd.C_drewN ?_ _) | (with_reducible refine Kd.C_drew ?_))))
              (case aB => exact (hbS HB.out))
              (case aF => exact (fun _ _ => trivial))
              (case aO => exact (roS HO127.out))
              (case aS => exact (below_size (hbS HB.out)))
              (case aL => have := LMc15.out; have hlx_ := (show (l0.drop ((ji12) : Int).toNat).length = (l0.length - (ji12).toNat) from List.length_drop); omega)
              intro v130 w28 ho hb hg hat
              rw [← Ny129.out] at ho
              have n0_ := am (hb)
              have n1_ := am (ho)
              clear HB
              clear HO127
              have HB := n0_
              have HO131 := n1_
              clear n0_ n1_
              clear ho hb hg hat
              refine hK.out _ _ trivial (fun hHeld => ?_)
              clear hK K
              refine norm_ (a' := ?_) ?_ ?_
              rotate_left
              ·show Act.put _ (some 28) _ = _
               simp only [Act.put, List.setIfInBounds_toArray, List.set_cons_zero, List.set_cons_succ, i64_w, i32_w]
               rfl
              refine pure_ (i := 9) (N := some 8) (v := ?_) (a' := ?_) #[true, true, true, true, true, true, true, true, true, true] rfl rfl (any_of HT_.out (by kernel_rfl)) (fun _ _ _ h => h) (Or.inl ⟨by rfl, ?_⟩) ?_ ?_
              rotate_left
              ·intro w'
               go_simp
               with_reducible rfl
              rotate_left
              ·simp only [Act.put, List.setIfInBounds_toArray, List.set_cons_zero, List.set_cons_succ, i64_w, i32_w]
               rfl
              refine done_ (done_of HT_.out (by kernel_rfl)) ?_
              try go_wp2
              have n0_ := am (Kd.R_drew HO131.out)
              have n1_ := am (below_drew1 HB.out)
              clear HO131
              clear HB
              have HO131 := n0_
              have HB := n1_
              clear n0_ n1_
              obtain ⟨Ao31, co31, eo31⟩ := Kd.R_slice HO131.out
              (first | subst eo31 | (injection eo31 with f1_ f2_ f3_; have f4_ := f1_.symm; have f5_ := f3_.symm; clear f1_ f2_ f3_; subst f4_; subst f5_))
              have q30 : (a2 : Int) ≤ ((y129.length : Int) : Int) := of_decide_eq_true (by first | (with_reducible assumption) | assumption)
              obtain ⟨i030, hi030, _, hsz30, _⟩ := info_parts info3
              have hroom30 : y129.length ≤ co31 := (Kd.R_reads' HO131.out).2.1
              have hC30 : Kd.C (Kd.int .i64) _ Ao31 y129.length y129 := (Kd.R_reads' HO131.out).2.2
              have hcut30 := cut_to (P := Try.prog) 22 3 .i64 Try.underlying22 hi030 Ao31 y129.length co31 a2 (of_decide_eq_true (by first | (with_reducible assumption) | assumption)) q30 hroom30
              have hr30 := Kd.C_take (m := (a2 : Int).toNat) hC30 (by omega)
              have hy30 : y132.length = (a2 : Int).toNat := (by rw [Ny132.out, List.length_take]; omega)
              rw [← Ny132.out] at hr30
              rw [← hy30] at hcut30
              have HR135 := am hr30
              have HC135 := am (show y132.length ≤ co31 from by omega)
              clear hr30 hC30 hroom30 hi030 hsz30
              have KY30 := am hy30
              clear hy30
              have KL30 := am (show (a2 : Int).toNat ≤ y129.length from by omega)
              replace q30 := eq_true q30
              have p139 : 0 ≤ (a1 : Int) := of_decide_eq_true (by first | (with_reducible assumption) | assumption)
              have q139 : a1 < (l0.length : Int) := of_decide_eq_true (by first | (with_reducible assumption) | assumption)
              obtain ⟨ad139, e139, hx139_0⟩ := Kd.at_int HR0.out a1 p139 q139
              have hw139_0 := hx139_0
              cases e139
              (try replace hx139_0 := (HB.out.cell (World.block_lt_of_cell? w _ hx139_0)).trans hx139_0)
              replace p139 := eq_true p139
              replace q139 := eq_true q139
              refine start_ (n := 11) (S := fun w' => w'.cell? (ad139.add (a1).toNat) = some (.int .i64 (rd l0 a1))) (ds := []) #[false, false, false, false, false, false, false, false, false, false, false] (by kernel_rfl) rfl rfl ((by first | exact hw139_0 | exact (HB.out.cell (World.block_lt_of_cell? w _ hw139_0)).trans hw139_0)) (fun hHeld => ?_); refine with_tabW spec_MoveBoat.tab4 spec_MoveBoat.bits4 (fun HT_ HW_ => ?_)
              generalize w28.drew = w29 at HO131 HB HR135 hx139_0 hHeld ⊢
              refine pure_ (i := 0) (N := some 29) (v := ?_) (a' := ?_) #[true, false, false, false, false, false, false, false, false, false, false] rfl rfl (any_of HT_.out (by kernel_rfl)) (fun _ _ _ h => h) (Or.inl ⟨by rfl, ?_⟩) ?_ ?_
              rotate_left
              ·intro w'
               go_simp
               with_reducible rfl
              rotate_left
              ·simp only [Act.put, List.setIfInBounds_toArray, List.set_cons_zero, List.set_cons_succ, i64_w, i32_w]
               rfl
              refine pure_ (i := 1) (N := some 30) (v := ?_) (a' := ?_) #[true, true, false, false, false, false, false, false, false, false, false] rfl rfl (any_of HT_.out (by kernel_rfl)) (fun _ _ _ h => h) (Or.inl ⟨by rfl, ?_⟩) ?_ ?_
              rotate_left
              ·intro w'
               go_simp
               with_reducible rfl
              rotate_left
              ·simp only [Act.put, List.setIfInBounds_toArray, List.set_cons_zero, List.set_cons_succ, i64_w, i32_w]
               rfl
              refine pure_ (i := 2) (N := some 31) (v := ?_) (a' := ?_) #[true, true, true, false, false, false, false, false, false, false, false] rfl rfl (any_of HT_.out (by kernel_rfl)) (fun _ _ _ h => h) (Or.inl ⟨by rfl, ?_⟩) ?_ ?_
              rotate_left
              ·intro w'
               go_simp
               with_reducible rfl
              rotate_left
              ·simp only [Act.put, List.setIfInBounds_toArray, List.set_cons_zero, List.set_cons_succ, i64_w, i32_w]
               rfl
              refine pure_ (i := 4) (N := some 33) (v := ?_) (a' := ?_) #[true, true, true, false, true, false, false, false, false, false, false] rfl rfl (any_of HT_.out (by kernel_rfl)) (fun _ _ _ h => h) (Or.inl ⟨by rfl, ?_⟩) ?_ ?_
              rotate_left
              ·intro w'
               go_simp
               with_reducible rfl
              rotate_left
              ·simp only [Act.put, List.setIfInBounds_toArray, List.set_cons_zero, List.set_cons_succ, i64_w, i32_w]
               rfl
              refine pure_ (i := 5) (N := some 34) (v := ?_) (a' := ?_) #[true, true, true, false, true, true, false, false, false, false, false] rfl rfl (any_of HT_.out (by kernel_rfl)) (fun _ _ _ h => h) (Or.inl ⟨by rfl, ?_⟩) ?_ ?_
              rotate_left
              ·intro w'
               go_simp
               with_reducible rfl
              rotate_left
              ·simp only [Act.put, List.setIfInBounds_toArray, List.set_cons_zero, List.set_cons_succ, i64_w, i32_w]
               rfl
              refine pure_ (i := 6) (N := some 35) (v := ?_) (a' := ?_) #[true, true, true, false, true, true, true, false, false, false, false] rfl rfl (any_of HT_.out (by kernel_rfl)) (fun _ _ _ h => h) (Or.inl ⟨by rfl, ?_⟩) ?_ ?_
              rotate_left
              ·intro w'
               go_simp
               with_reducible rfl
              rotate_left
              ·simp only [Act.put, List.setIfInBounds_toArray, List.set_cons_zero, List.set_cons_succ, i64_w, i32_w]
               rfl
              refine take_ (i := 7) (N := some 36) (v := ?_) (a' := ?_) #[true, true, true, false, true, true, true, true, false, false, false] rfl rfl (take_ofW HT_.out HW_.out (by kernel_rfl)) (fun _ _ _ h => h) (Or.inl ⟨by rfl, ?_⟩) hHeld ?_ ?_
              rotate_left
              ·intro w' s0
               go_simp
               with_reducible rfl
              rotate_left
              ·simp only [Act.put, List.setIfInBounds_toArray, List.set_cons_zero, List.set_cons_succ, i64_w, i32_w]
               rfl
              refine join_ (σ := Value × Value) 2 #[true, true, true, true, true, true, true, true, true, false, false] (fun s_ => [(32, s_.1), (37, s_.2)]) (fun s_ w' => (w'.cell? (ad139.add (a1).toNat) = some (.int .i64 (rd l0 a1))) ∧ (Kd.R (Kd.int .i64) 3 w' w.heap.size (fun k_ => some k_ ≠ (s_.1 : Value).ownBlock ∧ some k_ ≠ (s_.2 : Value).ownBlock) (.slice Ao31 y129.length co31) y129) ∧ (Kd.R (Kd.int .i64) 3 w' w.heap.size (fun k_ => some k_ ≠ (.slice Ao31 y129.length co31 : Value).ownBlock ∧ some k_ ≠ (s_.2 : Value).ownBlock) s_.1 t136) ∧ (Kd.R (Kd.int .i64) 3 w' w.heap.size (fun k_ => some k_ ≠ (.slice Ao31 y129.length co31 : Value).ownBlock ∧ some k_ ≠ (s_.1 : Value).ownBlock) s_.2 y140) ∧ (Below w.heap.size w w')) ?_ ?_
              rotate_left
              ·intro hCont
               refine two_ (i := 3) (j := 8) (Ni := some 32) (Nj := some 37) #[true, true, true, true, true, true, true, true, false, false, false] #[true, true, true, false, true, true, true, true, true, false, false] rfl rfl rfl rfl (two_of HT_.out (by kernel_rfl)) (by decide) (by decide) (fun K hK => ?_) (fun K hK => ?_)
               ·skip
                refine goes_ Try.func46 (by kernel_rfl) rfl #[.slice Ao31 y132.length co31] (by rfl) rfl rfl (by (try simp only [List.map_toArray, List.map_cons, List.map_nil]); first | done | rfl | (simp only [List.length_drop, List.length_take]; rfl)) ?_
                with_reducible refine (spec_l1Own.calls _ _ y132 t136 _ ?side1 ?side2 A18.out).mono ?_
                (case side1 => repeat (first | exact (by repeat (first | (with_reducible exact HR135.out) | (with_reducible refine Kd.C_alloc ?_ _) | (with_reducible refine Kd.C_drewN ?_ _) | (with_reducible refine Kd.C_drew ?_) | exact HR135.out)) | (with_reducible refine Kd.C_alloc ?_ _) | (with_reducible refine Kd.C_drewN ?_ _) | (with_reducible refine Kd.C_drew ?_)))
                (case side2 => exact HC135.out)
                rintro e w32 ⟨v137, rfl, ho0, hb⟩
                refine ⟨_, rfl, ?_⟩
                have n0_ := am (Kd.R_elder' (roS HO131.out) (Kd.R_base ho0) hb)
                have n1_ := am (Kd.R_lower (Kd.R_new' ho0 (Kd.R_lt (roS HO131.out))) (below_size (hbS HB.out)))
                have n2_ := am (Kd.C_below (by repeat (first | (with_reducible exact HR135.out) | (with_reducible refine Kd.C_alloc ?_ _) | (with_reducible refine Kd.C_drewN ?_ _) | (with_reducible refine Kd.C_drew ?_) | exact HR135.out)) hb)
                have n3_ := am (below_step (hbS HB.out) hb)
                clear HO131
                clear HR135
                clear HB
                have HO131 := n0_
                have HO138 := n1_
                have HR135 := n2_
                have HB := n3_
                clear n0_ n1_ n2_ n3_
                (try clear hb)
                (try clear hb2)
                (try clear hk)
                (try clear hi)
                (try clear ho0)
                refine hK.out _ _ ((by first | exact hw139_0 | exact (HB.out.cell (World.block_lt_of_cell? w _ hw139_0)).trans hw139_0)) (fun hHeld => ?_)
                clear hK K
                refine norm_ (a' := ?_) ?_ ?_
                rotate_left
                ·show Act.put _ (some 32) _ = _
                 simp only [Act.put, List.setIfInBounds_toArray, List.set_cons_zero, List.set_cons_succ, i64_w, i32_w]
                 rfl
                refine one_ (i := 8) (N := some 37) #[true, true, true, true, true, true, true, true, true, false, false] rfl rfl (one_of HT_.out (by kernel_rfl)) (by decide) (fun K hK => ?_)
                refine Kd.R_lit_step (Kd.int .i64) _ 3 ?hg (N := 37) ?hd (xs := ([rd l0 a1] : List Int)) (inner := [.int .i64 (rd l0 a1)]) (ok := fun _ => True) (okp := fun _ => True) ?hr ?hp (fun _ hk => hk) trivial (Below.refl _ _) (Nat.le_refl _) (by simp) ?_; (case hd => rfl); (case hg => rfl); (case hr => first | (go_simp; done) | (go_simp; rfl)); (case hp => exact (Reps.one (show Kd.M (Kd.int .i64) _ _ _ (rd l0 a1) [.int .i64 (rd l0 a1)] from rfl) (Reps.none _ _)))
                intro v141 w33 ho34 hb hg_ hnew_
                clear hg_ hnew_
                (first | rw [← Ny140.out] at ho34 | (simp only [Int.reduceToNat] at ho34; rw [← Ny140.out] at ho34))
                have n0_ := am (Kd.R_elder' (roS HO131.out) (Kd.R_base ho34) hb)
                have n1_ := am (Kd.R_elder' (roS HO138.out) (Kd.R_base ho34) hb)
                have n2_ := am (Kd.R_lower (Kd.R_new' (Kd.R_new' ho34 (Kd.R_lt (roS HO131.out))) (Kd.R_lt (roS HO138.out))) (below_size (hbS HB.out)))
                have n3_ := am (Kd.C_below (by repeat (first | (with_reducible exact HR135.out) | (with_reducible refine Kd.C_alloc ?_ _) | (with_reducible refine Kd.C_drewN ?_ _) | (with_reducible refine Kd.C_drew ?_) | exact HR135.out)) hb)
                have n4_ := am (below_step (hbS HB.out) hb)
                clear HO131
                clear HO138
                clear HR135
                clear HB
                have HO131 := n0_
                have HO138 := n1_
                have HO142 := n2_
                have HR135 := n3_
                have HB := n4_
                clear n0_ n1_ n2_ n3_ n4_
                clear hb ho34
                refine hK.out _ _ ((by first | exact hw139_0 | exact (HB.out.cell (World.block_lt_of_cell? w _ hw139_0)).trans hw139_0)) (fun hHeld => ?_)
                clear hK K
                refine norm_ (a' := ?_) ?_ ?_
                rotate_left
                ·show Act.put _ (some 37) _ = _
                 simp only [Act.put, List.setIfInBounds_toArray, List.set_cons_zero, List.set_cons_succ, i64_w, i32_w]
                 rfl
                exact norm_ (by simp only [putAll, Act.put, List.setIfInBounds_toArray, List.set_cons_zero, List.set_cons_succ]) (hCont (v137, v141) _ ⟨hHeld, (by (with_reducible repeat (first | apply Kd.R_alloc | apply Kd.R_drewN | apply Kd.R_drew)); exact Kd.R_mono HO131.out (fun _ hk => ⟨hk.1.2, hk.2⟩)), (by (with_reducible repeat (first | apply Kd.R_alloc | apply Kd.R_drewN | apply Kd.R_drew)); exact Kd.R_mono HO138.out (fun _ hk => ⟨hk.1.2, hk.2⟩)), (by (with_reducible repeat (first | apply Kd.R_alloc | apply Kd.R_drewN | apply Kd.R_drew)); exact Kd.R_mono HO142.out (fun _ hk => ⟨hk.1.2, hk.2⟩)), (hbS HB.out)⟩)
               ·skip
                refine Kd.R_lit_step (Kd.int .i64) _ 3 ?hg (N := 37) ?hd (xs := ([rd l0 a1] : List Int)) (inner := [.int .i64 (rd l0 a1)]) (ok := fun _ => True) (okp := fun _ => True) ?hr ?hp (fun _ hk => hk) trivial (Below.refl _ _) (Nat.le_refl _) (by simp) ?_; (case hd => rfl); (case hg => rfl); (case hr => first | (go_simp; done) | (go_simp; rfl)); (case hp => exact (Reps.one (show Kd.M (Kd.int .i64) _ _ _ (rd l0 a1) [.int .i64 (rd l0 a1)] from rfl) (Reps.none _ _)))
                intro v141 w32 ho33 hb hg_ hnew_
                clear hg_ hnew_
                (first | rw [← Ny140.out] at ho33 | (simp only [Int.reduceToNat] at ho33; rw [← Ny140.out] at ho33))
                have n0_ := am (Kd.R_elder' (roS HO131.out) (Kd.R_base ho33) hb)
                have n1_ := am (Kd.R_lower (Kd.R_new' ho33 (Kd.R_lt (roS HO131.out))) (below_size (hbS HB.out)))
                have n2_ := am (Kd.C_below (by repeat (first | (with_reducible exact HR135.out) | (with_reducible refine Kd.C_alloc ?_ _) | (with_reducible refine Kd.C_drewN ?_ _) | (with_reducible refine Kd.C_drew ?_) | exact HR135.out)) hb)
                have n3_ := am (below_step (hbS HB.out) hb)
                clear HO131
                clear HR135
                clear HB
                have HO131 := n0_
                have HO142 := n1_
                have HR135 := n2_
                have HB := n3_
                clear n0_ n1_ n2_ n3_
                clear hb ho33
                refine hK.out _ _ ((by first | exact hw139_0 | exact (HB.out.cell (World.block_lt_of_cell? w _ hw139_0)).trans hw139_0)) (fun hHeld => ?_)
                clear hK K
                refine norm_ (a' := ?_) ?_ ?_
                rotate_left
                ·show Act.put _ (some 37) _ = _
                 simp only [Act.put, List.setIfInBounds_toArray, List.set_cons_zero, List.set_cons_succ, i64_w, i32_w]
                 rfl
                refine one_ (i := 3) (N := some 32) #[true, true, true, true, true, true, true, true, true, false, false] rfl rfl (one_of HT_.out (by kernel_rfl)) (by decide) (fun K hK => ?_)
                refine goes_ Try.func46 (by kernel_rfl) rfl #[.slice Ao31 y132.length co31] (by rfl) rfl rfl (by (try simp only [List.map_toArray, List.map_cons, List.map_nil]); first | done | rfl | (simp only [List.length_drop, List.length_take]; rfl)) ?_
                with_reducible refine (spec_l1Own.calls _ _ y132 t136 _ ?side1 ?side2 A18.out).mono ?_
                (case side1 => repeat (first | exact (by repeat (first | (with_reducible exact HR135.out) | (with_reducible refine Kd.C_alloc ?_ _) | (with_reducible refine Kd.C_drewN ?_ _) | (with_reducible refine Kd.C_drew ?_) | exact HR135.out)) | (with_reducible refine Kd.C_alloc ?_ _) | (with_reducible refine Kd.C_drewN ?_ _) | (with_reducible refine Kd.C_drew ?_)))
                (case side2 => exact HC135.out)
                rintro e w34 ⟨v137, rfl, ho0, hb⟩
                refine ⟨_, rfl, ?_⟩
                have n0_ := am (Kd.R_elder' (roS HO131.out) (Kd.R_base ho0) hb)
                have n1_ := am (Kd.R_elder' (roS HO142.out) (Kd.R_base ho0) hb)
                have n2_ := am (Kd.R_lower (Kd.R_new' (Kd.R_new' ho0 (Kd.R_lt (roS HO131.out))) (Kd.R_lt (roS HO142.out))) (below_size (hbS HB.out)))
                have n3_ := am (Kd.C_below (by repeat (first | (with_reducible exact HR135.out) | (with_reducible refine Kd.C_alloc ?_ _) | (with_reducible refine Kd.C_drewN ?_ _) | (with_reducible refine Kd.C_drew ?_) | exact HR135.out)) hb)
                have n4_ := am (below_step (hbS HB.out) hb)
                clear HO131
                clear HO142
                clear HR135
                clear HB
                have HO131 := n0_
                have HO142 := n1_
                have HO138 := n2_
                have HR135 := n3_
                have HB := n4_
                clear n0_ n1_ n2_ n3_ n4_
                (try clear hb)
                (try clear hb2)
                (try clear hk)
                (try clear hi)
                (try clear ho0)
                refine hK.out _ _ ((by first | exact hw139_0 | exact (HB.out.cell (World.block_lt_of_cell? w _ hw139_0)).trans hw139_0)) (fun hHeld => ?_)
                clear hK K
                refine norm_ (a' := ?_) ?_ ?_
                rotate_left
                ·show Act.put _ (some 32) _ = _
                 simp only [Act.put, List.setIfInBounds_toArray, List.set_cons_zero, List.set_cons_succ, i64_w, i32_w]
                 rfl
                exact norm_ (by simp only [putAll, Act.put, List.setIfInBounds_toArray, List.set_cons_zero, List.set_cons_succ]) (hCont (v137, v141) _ ⟨hHeld, (by (with_reducible repeat (first | apply Kd.R_alloc | apply Kd.R_drewN | apply Kd.R_drew)); exact Kd.R_mono HO131.out (fun _ hk => ⟨hk.2, hk.1.2⟩)), (by (with_reducible repeat (first | apply Kd.R_alloc | apply Kd.R_drewN | apply Kd.R_drew)); exact Kd.R_mono HO138.out (fun _ hk => ⟨hk.1.2, hk.2⟩)), (by (with_reducible repeat (first | apply Kd.R_alloc | apply Kd.R_drewN | apply Kd.R_drew)); exact Kd.R_mono HO142.out (fun _ hk => ⟨hk.1.2, hk.2⟩)), (hbS HB.out)⟩)
              rintro ⟨v137, v141⟩ w35 ⟨hS_, h0_, h1_, h2_, h3_⟩
              have n0_ : Aside0 (Kd.R (Kd.int .i64) 3 w35 w.heap.size (fun k_ => some k_ ≠ (v137 : Value).ownBlock ∧ some k_ ≠ (v141 : Value).ownBlock) (.slice Ao31 y129.length co31) y129) := ⟨h0_⟩
              have n1_ : Aside0 (Kd.R (Kd.int .i64) 3 w35 w.heap.size (fun k_ => some k_ ≠ (.slice Ao31 y129.length co31 : Value).ownBlock ∧ some k_ ≠ (v141 : Value).ownBlock) v137 t136) := ⟨h1_⟩
              have n2_ : Aside0 (Kd.R (Kd.int .i64) 3 w35 w.heap.size (fun k_ => some k_ ≠ (.slice Ao31 y129.length co31 : Value).ownBlock ∧ some k_ ≠ (v137 : Value).ownBlock) v141 y140) := ⟨h2_⟩
              have n3_ : Aside0 (Below w.heap.size w w35) := ⟨h3_⟩
              clear HO131
              clear HB
              clear h0_ h1_ h2_ h3_
              have HO131 := n0_
              have HO138 := n1_
              have HO142 := n2_
              have HB := n3_
              clear n0_ n1_ n2_ n3_
              have hHeld : w35.cell? (ad139.add (a1).toNat) = some (.int .i64 (rd l0 a1)) := hS_
              obtain ⟨Ao37, co37, eo37⟩ := Kd.R_slice HO142.out
              (first | subst eo37 | (injection eo37 with f1_ f2_ f3_; have f4_ := f1_.symm; have f5_ := f3_.symm; clear f1_ f2_ f3_; subst f4_; subst f5_))
              refine norm_ (a' := ?_) ?_ ?_
              rotate_left
              ·simp only [putAll, Act.put, List.setIfInBounds_toArray, List.set_cons_zero, List.set_cons_succ]
               rfl
              refine one_ (i := 9) (N := some 38) #[true, true, true, true, true, true, true, true, true, true, false] rfl rfl (one_of HT_.out (by kernel_rfl)) (by decide) (fun K hK => ?_)
              refine Kd.R_append_rows_step (Kd.int .i64) (w0 := w) w.heap.size (by rfl) (.tmp 32) (.tmp 37) 22 3 (.int .i64 0) 8 rfl Try.underlying22 info3 rfl (by decide) (by omega) v137 t136 y140 _ _ _ (fun k_ => some k_ ≠ (.slice Ao31 y129.length co31 : Value).ownBlock ∧ some k_ ≠ (.slice Ao37 y140.length co37 : Value).ownBlock) (fun _ => False) rfl rfl ?aO ?aR (fun _ _ h => h) (fun _ h => h.elim) ?aF ?aB ?aS ?aL ?_
              (case aR => repeat (first | exact (Kd.R_reads' HO142.out).2.2 | (with_reducible refine Kd.C_alloc ?_ _) | (with_reducible refine Kd.C_drewN ?_ _) | (with_reducible refine Kd.C_drew ?_)))
              (case aB => exact (hbS HB.out))
              (case aF => exact (fun k_ hk => ⟨Kd.fresh' (Kd.R_lt (roS HO131.out)) k_ hk, Kd.fresh' (Kd.R_lt (roS HO142.out)) k_ hk⟩))
              (case aO => exact (roS HO138.out))
              (case aS => exact (below_size (hbS HB.out)))
              (case aL => have := LMc20.out; omega)
              intro v144 w36 ho hb hg hat
              rw [← Ny143.out] at ho
              have n0_ := am (Kd.R_after (ok := (fun k_ => some k_ ≠ (.slice Ao37 y140.length co37 : Value).ownBlock)) (by (with_reducible repeat (first | apply Kd.R_alloc | apply Kd.R_drewN | apply Kd.R_drew)); exact Kd.R_mono HO131.out (fun _ hk => ⟨hk.2, hk.1⟩)) hg hat)
              have n1_ := am (Kd.R_after (ok := (fun k_ => some k_ ≠ (.slice Ao31 y129.length co31 : Value).ownBlock)) (roS HO142.out) hg hat)
              have n2_ := am (hb)
              have n3_ := am (ho)
              clear HO131
              clear HO142
              clear HB
              clear HO138
              have HO131 := n0_
              have HO142 := n1_
              have HB := n2_
              have HO145 := n3_
              clear n0_ n1_ n2_ n3_
              clear ho hb hg hat
              refine hK.out _ _ ((by first | exact hw139_0 | exact (HB.out.cell (World.block_lt_of_cell? w _ hw139_0)).trans hw139_0)) (fun hHeld => ?_)
              clear hK K
              refine norm_ (a' := ?_) ?_ ?_
              rotate_left
              ·show Act.put _ (some 38) _ = _
               simp only [Act.put, List.setIfInBounds_toArray, List.set_cons_zero, List.set_cons_succ, i64_w, i32_w]
               rfl
              refine pure_ (i := 10) (N := some 9) (v := ?_) (a' := ?_) #[true, true, true, true, true, true, true, true, true, true, true] rfl rfl (any_of HT_.out (by kernel_rfl)) (fun _ _ _ h => h) (Or.inl ⟨by rfl, ?_⟩) ?_ ?_
              rotate_left
              ·intro w'
               go_simp
               with_reducible rfl
              rotate_left
              ·simp only [Act.put, List.setIfInBounds_toArray, List.set_cons_zero, List.set_cons_succ, i64_w, i32_w]
               rfl
              refine done_ (done_of HT_.out (by kernel_rfl)) ?_
              have q38 : (a2 : Int) ≤ ((y129.length : Int) : Int) := of_decide_eq_true (by first | (with_reducible assumption) | assumption)
              obtain ⟨i038, hi038, _, hsz38, _⟩ := info_parts info3
              have hroom38 : y129.length ≤ co31 := (Kd.R_reads' HO131.out).2.1
              have hC38 : Kd.C (Kd.int .i64) _ Ao31 y129.length y129 := (Kd.R_reads' HO131.out).2.2
              have q038 : (0 : Int) ≤ (a2 : Int) := of_decide_eq_true (by first | (with_reducible assumption) | assumption)
              have hcut38 := cut_from (P := Try.prog) 22 3 .i64 Try.underlying22 hi038 1 hsz38 Ao31 y129.length co31 a2 q038 q38
              have hr38 := Kd.C_drop (m := (a2 : Int).toNat) (c := co31) hC38 (by omega) hroom38
              obtain ⟨A38, hA38⟩ : ∃ A1, A1 = (if co31 = (a2 : Int).toNat then Ao31 else (Ao31 : Option Addr).map (·.add ((a2 : Int).toNat * 1))) := ⟨_, rfl⟩
              obtain ⟨c38, hc38⟩ : ∃ c1, c1 = co31 - (a2 : Int).toNat := ⟨_, rfl⟩
              have hy38 : y146.length = y129.length - (a2 : Int).toNat := (by rw [Ny146.out, List.length_drop] <;> omega)
              rw [show (y129).drop (a2 : Int).toNat = y146 from Ny146.out.symm] at hr38
              replace hr38 : Kd.C (Kd.int .i64) _ A38 y146.length y146 := (by rw [hA38]; exact hr38)
              rw [← hy38, ← hA38, ← hc38] at hcut38
              have HR149 := am hr38
              have HC149 := am (show y146.length ≤ c38 from by rw [hy38, hc38]; exact Nat.sub_le_sub_right hroom38 _)
              clear hr38 hC38 hroom38 hi038 hsz38 hc38
              have KY38 := am hy38
              have KA38 := am hA38
              clear hy38 hA38
              have KL38 := am (show (a2 : Int).toNat ≤ y129.length from by omega)
              replace q38 := eq_true q38
              try go_wp2_with (first | ((with_reducible refine gate_builtin (b := .append) (xs := #[.tmp 39, .tmp 42]) rfl ?_); at_builtin; refine Kd.R_append_rows (Kd.int .i64) (w0 := w) w.heap.size rfl (.tmp 39) (.tmp 42) 22 3 (.int .i64 0) 8 rfl Try.underlying22 info3 rfl (by decide) (by omega) v144 y143 y146 _ _ _ (fun k_ => some k_ ≠ (.slice Ao31 y129.length co31 : Value).ownBlock ∧ some k_ ≠ (.slice Ao37 y140.length co37 : Value).ownBlock) (fun _ => False) rfl rfl ?aO ?aR (fun _ _ h => h) (fun _ h => h.elim) ?aF ?aB ?aS ?aL ?_; (case aR => repeat (first | exact (by repeat (first | (with_reducible exact HR149.out) | (with_reducible refine Kd.C_alloc ?_ _) | (with_reducible refine Kd.C_drewN ?_ _) | (with_reducible refine Kd.C_drew ?_) | exact HR149.out)) | (with_reducible refine Kd.C_alloc ?_ _) | (with_reducible refine Kd.C_drewN ?_ _) | (with_reducible refine Kd.C_drew ?_))); (case aB => exact (hbS HB.out)); (case aF => exact (fun k_ hk => ⟨Kd.fresh' (Kd.R_lt (roS HO131.out)) k_ hk, Kd.fresh' (Kd.R_lt (roS HO142.out)) k_ hk⟩)); (case aO => exact (roS HO145.out)); (case aS => exact (below_size (hbS HB.out))); (case aL => have := LMc23.out; omega); intro v151 w39 ho hb hg hat; rw [← Ny150.out] at ho; have n0_ := am (Kd.R_after (ok := (fun k_ => some k_ ≠ (.slice Ao37 y140.length co37 : Value).ownBlock)) (roS HO131.out) hg hat); have n1_ := am (Kd.R_after (ok := (fun k_ => some k_ ≠ (.slice Ao31 y129.length co31 : Value).ownBlock)) (roS HO142.out) hg hat); have n2_ := am (hb); have n3_ := am ((show Kd.C (Kd.int .i64) w39 A38 y146.length y146 from by rw [Ny146.out, KA38.out]; exact Kd.C_drop (m := (a2 : Int).toNat) (c := co31) ((Kd.R_reads' (Kd.R_after (ok := (fun k_ => some k_ ≠ (.slice Ao37 y140.length co37 : Value).ownBlock)) (roS HO131.out) hg hat)).2.2) KL38.out ((Kd.R_reads' (Kd.R_after (ok := (fun k_ => some k_ ≠ (.slice Ao37 y140.length co37 : Value).ownBlock)) (roS HO131.out) hg hat)).2.1))); have n4_ := am (ho); clear HO131; clear HO142; clear HB; clear HR149; clear HO145; have HO131 := n0_; have HO142 := n1_; have HB := n2_; have HR149 := n3_; have HO152 := n4_; clear n0_ n1_ n2_ n3_ n4_; clear ho hb hg hat))
              go_ret2
              exact ⟨_, by first | rfl | (simp [errW_none, errW_some] <;> rfl) | (simp only [← hji12]; first | rfl | (simp [errW_none, errW_some] <;> rfl)) | (simp [*, errW_none, errW_some] <;> rfl), by (with_reducible repeat (first | apply Kd.R_alloc | apply Kd.R_drewN | apply Kd.R_drew)); exact Kd.R_mono HO152.out (fun _ hk => trivial), hbS HB.out⟩
             ·rw [if_neg c23] at H
              exact absurd H (by simp)
            ·rw [if_neg c20] at H
             exact absurd H (by simp)
           ·rw [if_neg c19] at H
            exact absurd H (by simp)
          ·rw [if_neg c17] at H
           exact absurd H (by simp)
         ·rw [if_neg c16] at H
          exact absurd H (by simp)
        ·rw [if_neg c15] at H
         exact absurd H (by simp)
       ·rw [if_neg c14] at H
        exact absurd H (by simp)
      ·rw [if_neg c13] at H
       exact absurd H (by simp)
     ·rw [if_neg c10] at H
      exact absurd H (by simp)
    ·rw [if_neg c9] at H
     exact absurd H (by simp)

end Go.Proofs.Ytfegbmlcbdjcgaa.X
