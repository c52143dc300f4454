import Derived.Test.YtclmmnphmlmnmaaP4
import Derived.Test.YtclmmnphmlmnmaaP7
import Derived.Test.YtclmmnphmlmnmaaP9
import Derived.Test.YtclmmnphmlmnmaaP10
import Derived.Test.YtclmmnphmlmnmaaP12
import Derived.Test.YtclmmnphmlmnmaaP13
section
-- Written by a program of this session (wip/tools/mp.py) over the kit's print of the translation.
namespace Go.Proofs.Ytclmmnphmlmnmaa.X
open Go.Proofs.Ytclmmnphmlmnmaa.Sq Go.RowKit Go.Proofs.YtclmmnphmlmnmaaW.PrintWords Go.Proofs.YtclmmnphmlmnmaaW.PrintLast Go.Proofs.YtclmmnphmlmnmaaW.PrintMore
attribute [local go_sem] max2_int min2_int max_two min_two max_three min_three max_four min_four   -- for this text's walks alone
set_option linter.unusedVariables false
set_option linter.unusedSimpArgs false
/-! ### impl_OrderOfRank: function 24 -/
mutual
def impl_OrderOfRank.j0 : Nat → Int → Int → Bool → Option (List Int × Bool)
 | 0, _, _, _ => none
 | k + 1, x0, x1, x20 => if x20 = true then (some (([] : List Int), false)) else ((impl_right.f k x0).bind fun t400 => (impl_OrderOfRank.l0 k x1 t400 (([] : List Int))))
def impl_OrderOfRank.l0 : Nat → Int → List Int → List Int → Option (List Int × Bool)
 | 0, _, _, _ => none
 | k + 1, x1, x6, x7 => if (x6.length : Int) > 0 then ((impl_factorial.f k (wrap64 ((x6.length : Int) - 1))).bind fun t406 => (if t406 = 0 then (none) else (if 0 ≤ (wrap64 (Int.tdiv x1 t406)) then (if (wrap64 (Int.tdiv x1 t406)) < (x6.length : Int) then (if x7.length < 17592186044416 then ((slices_Delete_int.f x6 (wrap64 (Int.tdiv x1 t406)) (wrap64 ((wrap64 (Int.tdiv x1 t406)) + 1))).bind fun t411 => (impl_OrderOfRank.l0 k (Int.tmod x1 t406) t411 (x7 ++ [rd x6 (wrap64 (Int.tdiv x1 t406))]))) else (none)) else (none)) else (none)))) else (some (x7, true))
end
def impl_OrderOfRank.f (k : Nat) (a0 : Int) (a1 : Int) : Option (List Int × Bool) := (impl_areBoats.f a0).bind fun t397 => (if t397 = true then ((impl_factorial.f k a0).bind fun t398 => ((impl_within.f a1 0 (wrap64 (t398 - 1))).bind fun t399 => (impl_OrderOfRank.j0 k a0 a1 (!t399)))) else (impl_OrderOfRank.j0 k a0 a1 true))
def impl_OrderOfRank.T7 : Bool × List (List Nat × List Nat) := (true, [([], []), ([], []), ([], []), ([1, 2], [1, 2]), ([3], [3]), ([4], [4]), ([0, 5], [0, 5]), ([], []), ([], []), ([7, 8], [7, 8]), ([6, 6, 0, 1, 2, 3, 4, 5, 6], [0, 6]), ([9, 10, 0, 1, 2, 3, 4, 5, 6, 7, 8, 9, 10], [7, 9])])
def impl_OrderOfRank.B7 : List Nat := [0, 0, 0, 6, 14, 30, 63, 0, 0, 384, 127, 2047]
theorem impl_OrderOfRank.tab7 : rtab .any (opsOf Try.f24 7) = impl_OrderOfRank.T7 := by kernel_rfl
theorem impl_OrderOfRank.bits7 : waitsOk impl_OrderOfRank.T7.2 impl_OrderOfRank.B7 = true := by kernel_rfl
set_option maxHeartbeats 8000000 in
set_option maxRecDepth 100000 in
theorem impl_OrderOfRank.calls (k : Nat) (a0 : Int) (a1 : Int) (r1 : List Int) (r2 : Bool) (w : World) (h : impl_OrderOfRank.f k a0 a1 = some (r1, r2)) :
  Calls Try.prog 24 #[.int .i64 a0, .int .i64 a1] w fun e w' => ∃ v0_ : Value, e = .returned (.tuple #[v0_, .bool r2]) ∧ Kd.R (Kd.int .i64) 3 w' w.heap.size (fun _ => True) v0_ r1 ∧ Below w.heap.size w w' := by
 have HB := am (Below.refl w.heap.size w)
 have H : ((impl_areBoats.f a0).bind fun t397 => (if t397 = true then ((impl_factorial.f k a0).bind fun t398 => ((impl_within.f a1 0 (wrap64 (t398 - 1))).bind fun t399 => (impl_OrderOfRank.j0 k a0 a1 (!t399)))) else (impl_OrderOfRank.j0 k a0 a1 true))) = some (r1, r2) := h
 clear h
 have HC3 := am H
 clear H
 go_enter Try.func24, Try.ntmps24
 go_upto_region 1 with (fail)
 go_cut [20] (fun v20 wc => ∃ (kq : Nat) (x20_2 : Bool), v20 = .bool x20_2 ∧ Aside0 (impl_OrderOfRank.j0 kq a0 a1 x20_2 = some (r1, r2)) ∧ Aside0 (kq ≤ k) ∧ Aside0 (Below w.heap.size w wc))
 case first =>
  have H := HC3.out
  clear HC3
  replace H := Option.bind_eq_some_iff.mp H
  obtain ⟨t397, A40, H⟩ := H
  replace H : (if t397 = true then ((impl_factorial.f k a0).bind fun t398 => ((impl_within.f a1 0 (wrap64 (t398 - 1))).bind fun t399 => (impl_OrderOfRank.j0 k a0 a1 (!t399)))) else (impl_OrderOfRank.j0 k a0 a1 true)) = some (r1, r2) := H
  have A4 := am A40
  clear A40
  by_cases c5 : t397 = true
  ·subst c5
   have H1 : ((impl_factorial.f k a0).bind fun t398 => ((impl_within.f a1 0 (wrap64 (t398 - 1))).bind fun t399 => (impl_OrderOfRank.j0 k a0 a1 (!t399)))) = some (r1, r2) := by rw [if_pos rfl] at H; exact H
   clear H
   have H := H1
   clear H1
   replace H := Option.bind_eq_some_iff.mp H
   obtain ⟨t398, A60, H⟩ := H
   replace H : ((impl_within.f a1 0 (wrap64 (t398 - 1))).bind fun t399 => (impl_OrderOfRank.j0 k a0 a1 (!t399))) = some (r1, r2) := H
   have A6 := am A60
   clear A60
   replace H := Option.bind_eq_some_iff.mp H
   obtain ⟨t399, A70, H⟩ := H
   replace H : (impl_OrderOfRank.j0 k a0 a1 (!t399)) = some (r1, r2) := H
   have A7 := am A70
   clear A70
   have H' := am H
   clear H
   go_wp2_with (first | ((with_reducible refine gate_callee (f := 44) rfl ?_); refine goesL_ (some 11) rfl rfl Try.func44 (by kernel_rfl) rfl #[.int .i64 a0] rfl (by (try simp only [List.map_toArray, List.map_cons, List.map_nil]); first | done | rfl | (simp only [List.length_drop, List.length_take]; rfl)) ?_; (with_reducible refine (impl_areBoats.calls a0 true _ A4.out).mono ?_); rintro e w' ⟨rfl, ⟨nd, rfl⟩⟩; refine ⟨_, rfl, ?_⟩) | (go_at_call 41; (with_reducible refine (impl_factorial.calls k a0 t398 _ A6.out).mono ?_); rintro e w' ⟨rfl, ⟨nd, rfl⟩⟩) | (go_at_call 35; (with_reducible refine (impl_within.calls a1 0 (wrap64 (t398 - 1)) t399 _ A7.out).mono ?_); rintro e w' ⟨rfl, ⟨nd, rfl⟩⟩))
   go_meet
   case rel => exact ⟨_, (!t399), (by first | rfl | (simp; done) | (simp [*]; done)), H', ⟨by first | omega | exact Nat.le_refl _⟩, ⟨hbS HB.out⟩⟩
  ·replace c5 := Bool.eq_false_iff.mpr c5
   subst c5
   have H1 : (impl_OrderOfRank.j0 k a0 a1 true) = some (r1, r2) := by rw [if_neg (show ¬ (false = true) by decide)] at H; exact H
   clear H
   have H := H1
   clear H1
   have H' := am H
   clear H
   go_wp2_with (first | ((with_reducible refine gate_callee (f := 44) rfl ?_); refine goesL_ (some 11) rfl rfl Try.func44 (by kernel_rfl) rfl #[.int .i64 a0] rfl (by (try simp only [List.map_toArray, List.map_cons, List.map_nil]); first | done | rfl | (simp only [List.length_drop, List.length_take]; rfl)) ?_; (with_reducible refine (impl_areBoats.calls a0 false _ A4.out).mono ?_); rintro e w' ⟨rfl, ⟨nd, rfl⟩⟩; refine ⟨_, rfl, ?_⟩))
   go_meet
   case rel => exact ⟨_, (true), (by first | rfl | (simp; done) | (simp [*]; done)), H', ⟨by first | omega | exact Nat.le_refl _⟩, ⟨hbS HB.out⟩⟩
 case rest =>
  clear HC3
  try clear c2
  try clear p2
  try clear c4
  try clear c5
  try clear p6
  obtain ⟨kq, x20_2, rfl, HA, HJ2, HB⟩ := hcut
  cases kq with
  | zero => exact absurd HA.out (by simp [impl_OrderOfRank.j0])
  | succ kj2 =>
   have H := HA.out
   clear HA
   simp only [impl_OrderOfRank.j0] at H
   by_cases c8 : x20_2 = true
   ·subst c8
    have H1 : (some (([] : List Int), false)) = some (r1, r2) := by rw [if_pos rfl] at H; exact H
    clear H
    have H := H1
    clear H1
    simp only [Option.some.injEq, Prod.mk.injEq] at H
    obtain ⟨rfl, rfl⟩ := H
    go_wp2
    go_ret2
    exact ⟨_, by first | rfl | (simp [errW_none, errW_some] <;> rfl) | (simp [*, errW_none, errW_some] <;> rfl), by first | exact Kd.R_nil _ _ _ _ _ | exact Kd.N_nil _ _ _ _ _ | exact Kd.V_nil _ _ _ _ _ | exact Kd.Q_nil _ _ _ _ _ | exact Kd.S_nil _ _ _ _ _, hbS HB.out⟩
   ·replace c8 := Bool.eq_false_iff.mpr c8
    subst c8
    have H1 : ((impl_right.f kj2 a0).bind fun t400 => (impl_OrderOfRank.l0 kj2 a1 t400 (([] : List Int)))) = some (r1, r2) := by rw [if_neg (show ¬ (false = true) by decide)] at H; exact H
    clear H
    have H := H1
    clear H1
    replace H := Option.bind_eq_some_iff.mp H
    obtain ⟨t400, A90, H⟩ := H
    replace H : (impl_OrderOfRank.l0 kj2 a1 t400 (([] : List Int))) = some (r1, r2) := H
    have A9 := am A90
    clear A90
    obtain ⟨y403, hy403⟩ : ∃ y_ : List Int, y_ = (([] : List Int)) := ⟨_, rfl⟩
    replace H : (impl_OrderOfRank.l0 kj2 a1 t400 y403) = some (r1, r2) := by first | (rw [hy403]; with_reducible exact H) | (have H2_ := (Option.bind_some _ _).symm.trans H; rw [hy403]; with_reducible exact H2_) | (have H2_ := (Option.bind_some _ _).symm.trans H; with_reducible exact H2_) | with_reducible exact H | (rw [hy403]; exact H) | exact H
    have Ny403 := am hy403
    clear hy403
    have H' := am H
    clear H
    go_wp2_with (first | ((with_reducible refine gate_callee (f := 46) rfl ?_); refine goesL_ (some 22) rfl rfl Try.func46 (by kernel_rfl) rfl #[.int .i64 a0] rfl (by (try simp only [List.map_toArray, List.map_cons, List.map_nil]); first | done | rfl | (simp only [List.length_drop, List.length_take]; rfl)) ?_; (with_reducible refine (impl_right.calls kj2 a0 t400 _ A9.out).mono ?_); rintro e w10 ⟨v401, rfl, ho0, hb⟩; refine ⟨_, rfl, ?_⟩; have n0_ := am (Kd.R_lower ho0 (below_size (hbS HB.out))); have n1_ := am (below_step (hbS HB.out) hb); clear HB; have HO402 := n0_; have HB := n1_; clear n0_ n1_; (try clear hb); (try clear hb2); (try clear hk); (try clear hi); (try clear ho0)) | ((with_reducible refine gate_dst (N := 23) rfl ?_); refine Kd.R_lit (Kd.int .i64) _ 3 ?hg (N := 23) ?hd (xs := ([] : List Int)) (inner := []) (ok := fun _ => True) (okp := fun _ => True) ?hr ?hp (fun _ hk => hk) trivial (Below.refl _ _) (Nat.le_refl _) (by simp) ?_; (case hd => rfl); (case hg => rfl); (case hr => first | (go_simp; done) | (go_simp; rfl)); (case hp => exact (Reps.none _ _)); intro v404 w11 ho12 hb hg_ hnew_; clear hg_ hnew_; (first | rw [← Ny403.out] at ho12 | (simp only [Int.reduceToNat] at ho12; rw [← Ny403.out] at ho12)); have n0_ := am (Kd.R_elder' (roS HO402.out) (Kd.R_base ho12) hb); have n1_ := am (Kd.R_lower (Kd.R_new' ho12 (Kd.R_lt (roS HO402.out))) (below_size (hbS HB.out))); have n2_ := am (below_step (hbS HB.out) hb); clear HO402; clear HB; have HO402 := n0_; have HO405 := n1_; have HB := n2_; clear n0_ n1_ n2_; clear hb ho12))
    go_loopg [1, 6, 7] kj2 (fun kq v1 v6 v7 w' => ∃ (x1_2 : Int) (x6_2 : List Int) (x7_2 : List Int), v1 = .int .i64 x1_2 ∧ Aside0 (impl_OrderOfRank.l0 kq x1_2 x6_2 x7_2 = some (r1, r2)) ∧ Aside0 (kq ≤ kj2) ∧ Aside0 (Kd.R (Kd.int .i64) 3 w' w.heap.size (fun k_ => some k_ ≠ (v7 : Value).ownBlock) v6 x6_2) ∧ Aside0 (Kd.R (Kd.int .i64) 3 w' w.heap.size (fun k_ => some k_ ≠ (v6 : Value).ownBlock) v7 x7_2) ∧ Aside0 (Below w.heap.size w w'))
    case atStart => exact ⟨(a1), (t400), (y403), (by first | rfl | (simp; done) | (simp [*]; done)), H', ⟨Nat.le_refl _⟩, ⟨by (with_reducible repeat (first | apply Kd.R_alloc | apply Kd.R_drewN | apply Kd.R_drew)); exact Kd.R_mono HO402.out (fun _ hk => hk.2)⟩, ⟨by (with_reducible repeat (first | apply Kd.R_alloc | apply Kd.R_drewN | apply Kd.R_drew)); exact Kd.R_mono HO405.out (fun _ hk => hk.2)⟩, ⟨hbS HB.out⟩⟩
    case round =>
     clear H'
     try clear c2
     try clear p2
     try clear c4
     try clear c5
     try clear p6
     try clear c8
     try clear p2
     try clear p6
     obtain ⟨x1_2, x6_2, x7_2, rfl, HA, HK2, HO_6, HO_7, HB⟩ := hrel
     cases gk with
     | zero => exact absurd HA.out (by simp [impl_OrderOfRank.l0])
     | succ k2 =>
      have H := HA.out
      clear HA
      simp only [impl_OrderOfRank.l0] at H
      by_cases c13 : (x6_2.length : Int) > 0
      ·rw [if_pos c13] at H
       have c13b0 : decide (0 < (x6_2.length : Int)) = true := decide_eq_true c13
       have c13b1 : decide (0 < x6_2.length) = true := decide_eq_true (by omega)
       clear c13
       replace H := Option.bind_eq_some_iff.mp H
       obtain ⟨t406, A140, H⟩ := H
       replace H : (if t406 = 0 then (none) else (if 0 ≤ (wrap64 (Int.tdiv x1_2 t406)) then (if (wrap64 (Int.tdiv x1_2 t406)) < (x6_2.length : Int) then (if x7_2.length < 17592186044416 then ((slices_Delete_int.f x6_2 (wrap64 (Int.tdiv x1_2 t406)) (wrap64 ((wrap64 (Int.tdiv x1_2 t406)) + 1))).bind fun t411 => (impl_OrderOfRank.l0 k2 (Int.tmod x1_2 t406) t411 (x7_2 ++ [rd x6_2 (wrap64 (Int.tdiv x1_2 t406))]))) else (none)) else (none)) else (none))) = some (r1, r2) := H
       have A14 := am A140
       clear A140
       by_cases c15 : t406 = 0
       ·rw [if_pos c15] at H
        exact absurd H (by simp)
       ·rw [if_neg c15] at H
        have c15b0 : (t406 == 0) = false := beq_eq_false_iff_ne.mpr c15
        have c15b1 : (t406 != 0) = true := bne_iff_ne.mpr c15
        obtain ⟨ji16, hji16⟩ : ∃ j_ : Int, (wrap64 (Int.tdiv x1_2 t406)) = j_ := ⟨_, rfl⟩
        replace H : (if 0 ≤ (ji16) then (if (ji16) < (x6_2.length : Int) then (if x7_2.length < 17592186044416 then ((slices_Delete_int.f x6_2 (ji16) (wrap64 ((ji16) + 1))).bind fun t411 => (impl_OrderOfRank.l0 k2 (Int.tmod x1_2 t406) t411 (x7_2 ++ [rd x6_2 (ji16)]))) else (none)) else (none)) else (none)) = some (r1, r2) := by first | (rw [hji16] at H; exact H) | (simp only [hji16] at H ⊢; exact H)
        (try rw [hji16] at A14)
        have hji16w : (IntKind.i64.wrap (Int.tdiv x1_2 t406)) = ji16 := (i64_w _).trans hji16
        by_cases c17 : 0 ≤ (ji16)
        ·rw [if_pos c17] at H
         have c17b0 : decide (0 ≤ (ji16)) = true := decide_eq_true c17
         clear c17
         by_cases c18 : (ji16) < (x6_2.length : Int)
         ·rw [if_pos c18] at H
          have c18b0 : decide ((ji16) < (x6_2.length : Int)) = true := decide_eq_true c18
          clear c18
          by_cases c19 : x7_2.length < 17592186044416
          ·rw [if_pos c19] at H
           have LMc19 := am c19
           clear c19
           obtain ⟨y408, hy408⟩ : ∃ y_ : List Int, y_ = (x7_2 ++ [rd x6_2 (ji16)]) := ⟨_, rfl⟩
           replace H : ((slices_Delete_int.f x6_2 (ji16) (wrap64 ((ji16) + 1))).bind fun t411 => (impl_OrderOfRank.l0 k2 (Int.tmod x1_2 t406) t411 y408)) = some (r1, r2) := by first | (rw [hy408]; with_reducible exact H) | (have H2_ := (Option.bind_some _ _).symm.trans H; rw [hy408]; with_reducible exact H2_) | (have H2_ := (Option.bind_some _ _).symm.trans H; with_reducible exact H2_) | with_reducible exact H | (rw [hy408]; exact H) | exact H
           have Ny408 := am hy408
           clear hy408
           replace H := Option.bind_eq_some_iff.mp H
           obtain ⟨t411, A200, H⟩ := H
           replace H : (impl_OrderOfRank.l0 k2 (Int.tmod x1_2 t406) t411 y408) = some (r1, r2) := H
           have A20 := am A200
           clear A200
           have H' := am H
           clear H
           obtain ⟨Ao21, co21, eo21⟩ := Kd.R_slice HO_6.out
           subst eo21
           try go_wp2_with (first | ((with_reducible refine gate_callee (f := 41) rfl ?_); refine goesL_ (some 30) rfl rfl Try.func41 (by kernel_rfl) rfl #[.int .i64 (wrap64 ((x6_2.length : Int) - 1))] rfl (by (try simp only [List.map_toArray, List.map_cons, List.map_nil]); first | done | rfl | (simp only [List.length_drop, List.length_take]; rfl)) ?_; (with_reducible refine (impl_factorial.calls k2 (wrap64 ((x6_2.length : Int) - 1)) t406 _ A14.out).mono ?_); rintro e w' ⟨rfl, ⟨nd, rfl⟩⟩; refine ⟨_, rfl, ?_⟩))
           (try (rw [drewN_self wr]; generalize hq_ : World.drewN wr _ = wr; have n0_ : Aside0 (Kd.R (Kd.int .i64) 3 wr w.heap.size (fun k_ => some k_ ≠ (u7 : Value).ownBlock) (.slice Ao21 x6_2.length co21) x6_2) := ⟨by rw [← hq_]; exact (roS HO_6.out)⟩; have n1_ : Aside0 (Kd.R (Kd.int .i64) 3 wr w.heap.size (fun k_ => some k_ ≠ (.slice Ao21 x6_2.length co21 : Value).ownBlock) u7 x7_2) := ⟨by rw [← hq_]; exact (roS HO_7.out)⟩; have n2_ : Aside0 (Below w.heap.size w wr) := ⟨by rw [← hq_]; exact (hbS HB.out)⟩; clear HO_6 HO_7 HB hq_; have HO_6 := n0_; have HO_7 := n1_; have HB := n2_; clear n0_ n1_ n2_))
           have n0_ := am (Kd.R_drew HO_6.out)
           have n1_ := am (Kd.R_drew HO_7.out)
           have n2_ := am (below_drew1 HB.out)
           clear HO_6
           clear HO_7
           clear HB
           have HO_6 := n0_
           have HO_7 := n1_
           have HB := n2_
           clear n0_ n1_ n2_
           have p407 : 0 ≤ ((ji16) : Int) := of_decide_eq_true (by first | (with_reducible assumption) | assumption)
           have q407 : (ji16) < (x6_2.length : Int) := of_decide_eq_true (by first | (with_reducible assumption) | assumption)
           obtain ⟨ad407, e407, hx407_0⟩ := Kd.at_int (Kd.R_reads' HO_6.out).2.2 (ji16) p407 q407
           cases e407
           replace p407 := eq_true p407
           replace q407 := eq_true q407
           refine start_ (n := 12) (S := fun w' => w'.cell? (ad407.add ((ji16)).toNat) = some (.int .i64 (rd x6_2 (ji16)))) (ds := [5, 6]) #[false, false, false, false, false, false, false, false, false, false, false, false] (by kernel_rfl) rfl rfl (hx407_0) (fun hHeld => ?_); refine with_tabW impl_OrderOfRank.tab7 impl_OrderOfRank.bits7 (fun HT_ HW_ => ?_)
           generalize wr.drew = w22 at HO_6 HO_7 HB hx407_0 hHeld ⊢
           refine pure_ (i := 0) (N := some 34) (v := ?_) (a' := ?_) #[true, false, false, false, false, false, false, false, false, false, false, false] rfl rfl (any_of HT_.out (by kernel_rfl)) (fun _ _ _ h => h) (Or.inl ⟨by rfl, ?_⟩) ?_ ?_
           rotate_left
           ·intro w'
            go_simp
            with_reducible rfl
           rotate_left
           ·simp only [Act.put, List.setIfInBounds_toArray, List.set_cons_zero, List.set_cons_succ, i64_w, i32_w]
            rfl
           refine pure_ (i := 1) (N := some 35) (v := ?_) (a' := ?_) #[true, true, false, false, false, false, false, false, false, false, false, false] rfl rfl (any_of HT_.out (by kernel_rfl)) (fun _ _ _ h => h) (Or.inl ⟨by rfl, ?_⟩) ?_ ?_
           rotate_left
           ·intro w'
            go_simp
            with_reducible rfl
           rotate_left
           ·simp only [Act.put, List.setIfInBounds_toArray, List.set_cons_zero, List.set_cons_succ, i64_w, i32_w]
            rfl
           refine pure_ (i := 2) (N := some 36) (v := ?_) (a' := ?_) #[true, true, true, false, false, false, false, false, false, false, false, false] rfl rfl (any_of HT_.out (by kernel_rfl)) (fun _ _ _ h => h) (Or.inl ⟨by rfl, ?_⟩) ?_ ?_
           rotate_left
           ·intro w'
            go_simp
            with_reducible rfl
           rotate_left
           ·simp only [Act.put, List.setIfInBounds_toArray, List.set_cons_zero, List.set_cons_succ, i64_w, i32_w]
            rfl
           refine pure_ (i := 3) (N := some 37) (v := ?_) (a' := ?_) #[true, true, true, true, false, false, false, false, false, false, false, false] rfl rfl (any_of HT_.out (by kernel_rfl)) (fun _ _ _ h => h) (Or.inl ⟨by rfl, ?_⟩) ?_ ?_
           rotate_left
           ·intro w'
            go_simp
            with_reducible rfl
           rotate_left
           ·simp only [Act.put, List.setIfInBounds_toArray, List.set_cons_zero, List.set_cons_succ, i64_w, i32_w]
            rfl
           refine pure_ (i := 7) (N := some 41) (v := ?_) (a' := ?_) #[true, true, true, true, false, false, false, true, false, false, false, false] rfl rfl (any_of HT_.out (by kernel_rfl)) (fun _ _ _ h => h) (Or.inl ⟨by rfl, ?_⟩) ?_ ?_
           rotate_left
           ·intro w'
            go_simp
            with_reducible rfl
           rotate_left
           ·simp only [Act.put, List.setIfInBounds_toArray, List.set_cons_zero, List.set_cons_succ, i64_w, i32_w]
            rfl
           refine pure_ (i := 8) (N := some 42) (v := ?_) (a' := ?_) #[true, true, true, true, false, false, false, true, true, false, false, false] rfl rfl (any_of HT_.out (by kernel_rfl)) (fun _ _ _ h => h) (Or.inl ⟨by rfl, ?_⟩) ?_ ?_
           rotate_left
           ·intro w'
            go_simp
            with_reducible rfl
           rotate_left
           ·simp only [Act.put, List.setIfInBounds_toArray, List.set_cons_zero, List.set_cons_succ, i64_w, i32_w]
            rfl
           refine pure_ (i := 9) (N := some 43) (v := ?_) (a' := ?_) #[true, true, true, true, false, false, false, true, true, true, false, false] rfl rfl (any_of HT_.out (by kernel_rfl)) (fun _ _ _ h => h) (Or.inl ⟨by rfl, ?_⟩) ?_ ?_
           rotate_left
           ·intro w'
            go_simp
            with_reducible rfl
           rotate_left
           ·simp only [Act.put, List.setIfInBounds_toArray, List.set_cons_zero, List.set_cons_succ, i64_w, i32_w]
            rfl
           refine take_ (i := 4) (N := some 38) (v := ?_) (a' := ?_) #[true, true, true, true, true, false, false, true, true, true, false, false] rfl rfl (take_ofW HT_.out HW_.out (by kernel_rfl)) (fun _ _ _ h => h) (Or.inl ⟨by rfl, ?_⟩) hHeld ?_ ?_
           rotate_left
           ·intro w' s0
            go_simp
            with_reducible rfl
           rotate_left
           ·simp only [Act.put, List.setIfInBounds_toArray, List.set_cons_zero, List.set_cons_succ, i64_w, i32_w]
            rfl
           refine last_ (i := 5) (N := some 39) #[true, true, true, true, true, true, false, true, true, true, false, false] rfl rfl (one_of HT_.out (by kernel_rfl)) (by decide) (fun K hK => ?_)
           refine value_ (w1 := ?_) (v := ?_) (by rfl) rfl ?_ ?_
           rotate_left 2
           ·go_simp
            constructor
            ·rfl
            ·rfl
           refine hK.out _ _ ?_
           clear hK K
           refine norm_ (a' := ?_) ?_ ?_
           rotate_left
           ·show Act.put _ (some 39) _ = _
            simp only [Act.put, List.setIfInBounds_toArray, List.set_cons_zero, List.set_cons_succ, i64_w, i32_w]
            rfl
           refine last_ (i := 6) (N := some 40) #[true, true, true, true, true, true, true, true, true, true, false, false] rfl rfl (one_of HT_.out (by kernel_rfl)) (by decide) (fun K hK => ?_)
           refine Kd.R_append_step (Kd.int .i64) (w0 := w) w.heap.size (by rfl) (.tmp 34) (.tmp 39) 24 3 (.int .i64 0) 8 rfl Try.underlying24 info3 rfl (by decide) (by omega) u7 x7_2 (rd x6_2 (ji16)) [.int .i64 (rd x6_2 (ji16))] (fun k_ => some k_ ≠ (.slice (some ad407) x6_2.length co21 : Value).ownBlock) (fun _ => False) rfl rfl ?aP (fun _ hk => hk.elim) ?aF ?aO ?aB ?aS ?aL ?_
           (case aP => exact rfl)
           (case aB => exact (hbS HB.out))
           (case aF => exact (fun k_ hk => Kd.fresh' (Kd.R_lt (roS HO_6.out)) k_ hk))
           (case aO => exact (roS HO_7.out))
           (case aS => exact (below_size (hbS HB.out)))
           (case aL => have := LMc19.out; omega)
           intro v409 w23 ho hb hg hat
           rw [← Ny408.out] at ho
           have n0_ := am (Kd.R_after (ok := (fun _ => True)) (by (with_reducible repeat (first | apply Kd.R_alloc | apply Kd.R_drewN | apply Kd.R_drew)); exact Kd.R_mono HO_6.out (fun _ hk => ⟨trivial, hk⟩)) hg hat)
           have n1_ := am (hb)
           have n2_ := am (ho)
           clear HO_6
           clear HB
           clear HO_7
           have HO_6 := n0_
           have HB := n1_
           have HO410 := n2_
           clear n0_ n1_ n2_
           clear ho hb hg hat
           refine hK.out _ _ ?_
           clear hK K
           refine norm_ (a' := ?_) ?_ ?_
           rotate_left
           ·show Act.put _ (some 40) _ = _
            simp only [Act.put, List.setIfInBounds_toArray, List.set_cons_zero, List.set_cons_succ, i64_w, i32_w]
            rfl
           refine pure_ (i := 10) (N := some 7) (v := ?_) (a' := ?_) #[true, true, true, true, true, true, true, true, true, true, true, false] rfl rfl (any_of HT_.out (by kernel_rfl)) (fun _ _ _ h => h) (Or.inl ⟨by rfl, ?_⟩) ?_ ?_
           rotate_left
           ·intro w'
            go_simp
            with_reducible rfl
           rotate_left
           ·simp only [Act.put, List.setIfInBounds_toArray, List.set_cons_zero, List.set_cons_succ, i64_w, i32_w]
            rfl
           refine pure_ (i := 11) (N := some 1) (v := ?_) (a' := ?_) #[true, true, true, true, true, true, true, true, true, true, true, true] rfl rfl (any_of HT_.out (by kernel_rfl)) (fun _ _ _ h => h) (Or.inl ⟨by rfl, ?_⟩) ?_ ?_
           rotate_left
           ·intro w'
            go_simp
            with_reducible rfl
           rotate_left
           ·simp only [Act.put, List.setIfInBounds_toArray, List.set_cons_zero, List.set_cons_succ, i64_w, i32_w]
            rfl
           refine done_ (done_of HT_.out (by kernel_rfl)) ?_
           try go_wp2_with (first | ((with_reducible refine gate_callee (f := 47) rfl ?_); refine goesL_ (some 48) rfl rfl Try.func47 (by kernel_rfl) rfl #[.slice (some ad407) x6_2.length co21, .int .i64 ji16, .int .i64 (wrap64 ((ji16) + 1))] rfl (by (try simp only [List.map_toArray, List.map_cons, List.map_nil]); first | done | (simp only [hji16]; rfl) | rfl | (simp only [List.length_drop, List.length_take]; rfl)) ?_; (with_reducible refine (slices_Delete_int.calls (fun k_ => some k_ = (.slice (some ad407) x6_2.length co21 : Value).ownBlock) (.slice (some ad407) x6_2.length co21) x6_2 ji16 (wrap64 ((ji16) + 1)) t411 w _ ?side1 ?side2 A20.out).mono ?_); (case side1 => repeat (first | (with_reducible first | exact HB.out | apply below_alloc | apply pw_below_drewN | apply below_drew1) | exact HB.out)); (case side2 => exact Kd.R_tight rfl HO_6.out); rintro e w24 ⟨v412, rfl, ho0, hb, hkp⟩; refine ⟨_, rfl, ?_⟩; have n0_ := am (Kd.R_mono (ok' := fun k_ => some k_ ≠ (v412 : Value).ownBlock) (Kd.R_keptB (HO410.out) hkp (fun k_ hk_ hs_ => (hk_) hs_)) (fun k_ hk_ => fun e_ => Or.elim (ho0.1 k_ e_.symm) (fun hs_ => hk_.2.1 hs_) (fun hn_ => Nat.not_le.2 hk_.2.2 hn_))); have n1_ := am (Kd.R_mono (ok' := fun k_ => some k_ ≠ (v409 : Value).ownBlock) ho0 (fun k_ hk_ => Or.elim hk_ (fun hs_ => fun e_ => (((HO410.out).1 k_ e_.symm)) hs_) (fun hn_ => (Kd.fresh' (Kd.R_lt (roS HO410.out)) k_ hn_)))); have n2_ := am (hb); clear HO410; clear HB; clear HO_6; have HO410 := n0_; have HO413 := n1_; have HB := n2_; clear n0_ n1_ n2_; (try clear hb); (try clear hkp); (try clear ho0)))
           go_roundg k2
           case measure => have := HJ2.out; have := HK2.out; omega
           case rel => exact ⟨(Int.tmod x1_2 t406), (t411), (y408), (by first | rfl | (simp; done) | (simp [*]; done)), H', ⟨by have := HJ2.out; have := HK2.out; omega⟩, ⟨roS HO413.out⟩, ⟨roS HO410.out⟩, ⟨hbS HB.out⟩⟩
          ·rw [if_neg c19] at H
           exact absurd H (by simp)
         ·rw [if_neg c18] at H
          exact absurd H (by simp)
        ·rw [if_neg c17] at H
         exact absurd H (by simp)
      ·rw [if_neg c13] at H
       have c13b0 : decide (0 < (x6_2.length : Int)) = false := decide_eq_false c13
       have c13b1 : decide (0 < x6_2.length) = false := decide_eq_false (by omega)
       clear c13
       simp only [Option.some.injEq, Prod.mk.injEq] at H
       obtain ⟨rfl, rfl⟩ := H
       obtain ⟨Ao25, co25, eo25⟩ := Kd.R_slice HO_6.out
       subst eo25
       go_wp2
       go_ret2
       exact ⟨_, by first | rfl | (simp [errW_none, errW_some] <;> rfl) | (simp [*, errW_none, errW_some] <;> rfl), by (with_reducible repeat (first | apply Kd.R_alloc | apply Kd.R_drewN | apply Kd.R_drew)); exact Kd.R_mono HO_7.out (fun _ hk => trivial), hbS HB.out⟩
end Go.Proofs.Ytclmmnphmlmnmaa.X
end
section
-- Written by a program of this session (wip/tools/mp.py) over the kit's print of the translation.
namespace Go.Proofs.Ytclmmnphmlmnmaa.X
open Go.Proofs.Ytclmmnphmlmnmaa.Sq Go.RowKit Go.Proofs.YtclmmnphmlmnmaaW.PrintWords Go.Proofs.YtclmmnphmlmnmaaW.PrintLast Go.Proofs.YtclmmnphmlmnmaaW.PrintMore
attribute [local go_sem] max2_int min2_int max_two min_two max_three min_three max_four min_four   -- for this text's walks alone
set_option linter.unusedVariables false
set_option linter.unusedSimpArgs false
/-! ### spec_OrderOfRank: function 25 -/
mutual
def spec_OrderOfRank.j0 : Nat → Int → Int → Bool → Option (List Int × Bool)
 | 0, _, _, _ => none
 | k + 1, x0, x1, x18 => if x18 = true then (some (([] : List Int), false)) else (spec_OrderOfRank.l0 k x0 x1 1 ([] : List Int) 1)
def spec_OrderOfRank.l0 : Nat → Int → Int → Int → List Int → Int → Option (List Int × Bool)
 | 0, _, _, _, _, _ => none
 | k + 1, x0, x1, x6, x7, x8 => if x8 ≤ x0 then (if x7.length < 17592186044416 then (spec_OrderOfRank.l0 k x0 x1 (wrap64 (x6 * x8)) (x7 ++ [x8]) (wrap64 (x8 + 1))) else (none)) else (if x1 ≥ x6 then (some (([] : List Int), false)) else (spec_OrderOfRank.l1 k x1 x6 x7 ([] : List Int) x0))
def spec_OrderOfRank.l1 : Nat → Int → Int → List Int → List Int → Int → Option (List Int × Bool)
 | 0, _, _, _, _, _ => none
 | k + 1, x1, x6, x7, x9, x10 => if x10 > 0 then (if x10 = 0 then (none) else (if (wrap64 (Int.tdiv x6 x10)) = 0 then (none) else (if 0 ≤ (wrap64 (Int.tdiv x1 (wrap64 (Int.tdiv x6 x10)))) then (if (wrap64 (Int.tdiv x1 (wrap64 (Int.tdiv x6 x10)))) < (x7.length : Int) then (if x9.length < 17592186044416 then (if (wrap64 (Int.tdiv x1 (wrap64 (Int.tdiv x6 x10)))) ≤ (x7.length : Int) then ((spec_l1Own.f (x7.take ((wrap64 (Int.tdiv x1 (wrap64 (Int.tdiv x6 x10)))) : Int).toNat)).bind fun t426 => (if 0 ≤ (wrap64 ((wrap64 (Int.tdiv x1 (wrap64 (Int.tdiv x6 x10)))) + 1)) then (if (wrap64 ((wrap64 (Int.tdiv x1 (wrap64 (Int.tdiv x6 x10)))) + 1)) ≤ (x7.length : Int) then ((some (x7.drop ((wrap64 ((wrap64 (Int.tdiv x1 (wrap64 (Int.tdiv x6 x10)))) + 1)) : Int).toNat : List Int)).bind fun y429 => (if t426.length + y429.length < 17592186044416 then (spec_OrderOfRank.l1 k (Int.tmod x1 (wrap64 (Int.tdiv x6 x10))) (wrap64 (Int.tdiv x6 x10)) (t426 ++ y429) (x9 ++ [rd x7 (wrap64 (Int.tdiv x1 (wrap64 (Int.tdiv x6 x10))))]) (wrap64 (x10 - 1))) else (none))) else (none)) else (none))) else (none)) else (none)) else (none)) else (none)))) else (some (x9, true))
end
def spec_OrderOfRank.f (k : Nat) (a0 : Int) (a1 : Int) : Option (List Int × Bool) := (spec_ptBoats.f a0).bind fun t414 => (if t414 = true then (spec_OrderOfRank.j0 k a0 a1 (decide (a1 < 0))) else (spec_OrderOfRank.j0 k a0 a1 true))
theorem spec_OrderOfRank.mono_l : ∀ k, (∀ y0 y1 y2, LeO (spec_OrderOfRank.j0 k y0 y1 y2) (spec_OrderOfRank.j0 (k + 1) y0 y1 y2)) ∧ (∀ y0 y1 y2 y3 y4, LeO (spec_OrderOfRank.l0 k y0 y1 y2 y3 y4) (spec_OrderOfRank.l0 (k + 1) y0 y1 y2 y3 y4)) ∧ (∀ y0 y1 y2 y3 y4, LeO (spec_OrderOfRank.l1 k y0 y1 y2 y3 y4) (spec_OrderOfRank.l1 (k + 1) y0 y1 y2 y3 y4))
 | 0 => ⟨fun _ _ _ r h => by simp [spec_OrderOfRank.j0] at h, fun _ _ _ _ _ r h => by simp [spec_OrderOfRank.l0] at h, fun _ _ _ _ _ r h => by simp [spec_OrderOfRank.l1] at h⟩
 | k + 1 => by
  obtain ⟨ih0, ih1, ih2⟩ := spec_OrderOfRank.mono_l k
  refine ⟨?_, ?_, ?_⟩
  ·intro y0 y1 y2
   unfold spec_OrderOfRank.j0
   repeat' first
   | (with_reducible exact ih0 _ _ _)
   | (with_reducible exact ih1 _ _ _ _ _)
   | (with_reducible exact ih2 _ _ _ _ _)
   | (with_reducible exact LeO.refl _)
   | (with_reducible exact LeO.none _)
   | (with_reducible refine LeO.ite ?_ ?_)
   | (with_reducible refine LeO.bind ?_ (fun _ => ?_))
   | exact ih0 _ _ _
   | exact ih1 _ _ _ _ _
   | exact ih2 _ _ _ _ _
   | exact LeO.none _
   | refine LeO.ite ?_ ?_
   | refine LeO.bind ?_ (fun _ => ?_)
  ·intro y0 y1 y2 y3 y4
   unfold spec_OrderOfRank.l0
   repeat' first
   | (with_reducible exact ih0 _ _ _)
   | (with_reducible exact ih1 _ _ _ _ _)
   | (with_reducible exact ih2 _ _ _ _ _)
   | (with_reducible exact LeO.refl _)
   | (with_reducible exact LeO.none _)
   | (with_reducible refine LeO.ite ?_ ?_)
   | (with_reducible refine LeO.bind ?_ (fun _ => ?_))
   | exact ih0 _ _ _
   | exact ih1 _ _ _ _ _
   | exact ih2 _ _ _ _ _
   | exact LeO.none _
   | refine LeO.ite ?_ ?_
   | refine LeO.bind ?_ (fun _ => ?_)
  ·intro y0 y1 y2 y3 y4
   unfold spec_OrderOfRank.l1
   repeat' first
   | (with_reducible exact ih0 _ _ _)
   | (with_reducible exact ih1 _ _ _ _ _)
   | (with_reducible exact ih2 _ _ _ _ _)
   | (with_reducible exact LeO.refl _)
   | (with_reducible exact LeO.none _)
   | (with_reducible refine LeO.ite ?_ ?_)
   | (with_reducible refine LeO.bind ?_ (fun _ => ?_))
   | exact ih0 _ _ _
   | exact ih1 _ _ _ _ _
   | exact ih2 _ _ _ _ _
   | exact LeO.none _
   | refine LeO.ite ?_ ?_
   | refine LeO.bind ?_ (fun _ => ?_)
theorem spec_OrderOfRank.mono : ∀ a0 a1 k, LeO (spec_OrderOfRank.f k a0 a1) (spec_OrderOfRank.f (k + 1) a0 a1) := by
 intro a0 a1 k
 obtain ⟨ih0, ih1, ih2⟩ := spec_OrderOfRank.mono_l k
 unfold spec_OrderOfRank.f
 repeat' first
   | (with_reducible exact ih0 _ _ _)
   | (with_reducible exact ih1 _ _ _ _ _)
   | (with_reducible exact ih2 _ _ _ _ _)
   | (with_reducible exact LeO.refl _)
   | (with_reducible exact LeO.none _)
   | (with_reducible refine LeO.ite ?_ ?_)
   | (with_reducible refine LeO.bind ?_ (fun _ => ?_))
   | exact ih0 _ _ _
   | exact ih1 _ _ _ _ _
   | exact ih2 _ _ _ _ _
   | exact LeO.none _
   | refine LeO.ite ?_ ?_
   | refine LeO.bind ?_ (fun _ => ?_)
def spec_OrderOfRank.T20 : Bool × List (List Nat × List Nat) := (true, [([], []), ([], []), ([0, 1], [0, 1]), ([2], [2]), ([], []), ([], []), ([5], [5]), ([4, 6], [4, 6]), ([3, 7, 3], [3, 7]), ([8, 8, 0, 1, 2, 3, 4, 5, 6, 7, 8], [0, 4, 8])])
def spec_OrderOfRank.B20 : List Nat := [0, 0, 3, 7, 0, 0, 32, 112, 255, 511]
theorem spec_OrderOfRank.tab20 : rtab .any (opsOf Try.f25 20) = spec_OrderOfRank.T20 := by kernel_rfl
theorem spec_OrderOfRank.bits20 : waitsOk spec_OrderOfRank.T20.2 spec_OrderOfRank.B20 = true := by kernel_rfl
set_option maxHeartbeats 8000000 in
set_option maxRecDepth 100000 in
theorem spec_OrderOfRank.calls (k : Nat) (a0 : Int) (a1 : Int) (r1 : List Int) (r2 : Bool) (w : World) (h : spec_OrderOfRank.f k a0 a1 = some (r1, r2)) :
  Calls Try.prog 25 #[.int .i64 a0, .int .i64 a1] w fun e w' => ∃ v0_ : Value, e = .returned (.tuple #[v0_, .bool r2]) ∧ Kd.R (Kd.int .i64) 3 w' w.heap.size (fun _ => True) v0_ r1 ∧ Below w.heap.size w w' := by
 have HB := am (Below.refl w.heap.size w)
 have H : ((spec_ptBoats.f a0).bind fun t414 => (if t414 = true then (spec_OrderOfRank.j0 k a0 a1 (decide (a1 < 0))) else (spec_OrderOfRank.j0 k a0 a1 true))) = some (r1, r2) := h
 clear h
 have HC3 := am H
 clear H
 go_enter Try.func25, Try.ntmps25
 go_upto_region 1 with (fail)
 go_cut [18] (fun v18 wc => ∃ (kq : Nat) (x18_2 : Bool), v18 = .bool x18_2 ∧ Aside0 (spec_OrderOfRank.j0 kq a0 a1 x18_2 = some (r1, r2)) ∧ Aside0 (kq ≤ k) ∧ Aside0 (Below w.heap.size w wc))
 case first =>
  have H := HC3.out
  clear HC3
  replace H := Option.bind_eq_some_iff.mp H
  obtain ⟨t414, A40, H⟩ := H
  replace H : (if t414 = true then (spec_OrderOfRank.j0 k a0 a1 (decide (a1 < 0))) else (spec_OrderOfRank.j0 k a0 a1 true)) = some (r1, r2) := H
  have A4 := am A40
  clear A40
  by_cases c5 : t414 = true
  ·subst c5
   have H1 : (spec_OrderOfRank.j0 k a0 a1 (decide (a1 < 0))) = some (r1, r2) := by rw [if_pos rfl] at H; exact H
   clear H
   have H := H1
   clear H1
   have H' := am H
   clear H
   go_wp2_with (first | ((with_reducible refine gate_callee (f := 45) rfl ?_); refine goesL_ (some 13) rfl rfl Try.func45 (by kernel_rfl) rfl #[.int .i64 a0] rfl (by (try simp only [List.map_toArray, List.map_cons, List.map_nil]); first | done | rfl | (simp only [List.length_drop, List.length_take]; rfl)) ?_; (with_reducible refine (spec_ptBoats.calls a0 true _ A4.out).mono ?_); rintro e w' ⟨rfl, ⟨nd, rfl⟩⟩; refine ⟨_, rfl, ?_⟩))
   go_meet
   case rel => exact ⟨_, (decide (a1 < 0)), (by first | rfl | (simp; done) | (simp [*]; done)), H', ⟨by first | omega | exact Nat.le_refl _⟩, ⟨hbS HB.out⟩⟩
  ·replace c5 := Bool.eq_false_iff.mpr c5
   subst c5
   have H1 : (spec_OrderOfRank.j0 k a0 a1 true) = some (r1, r2) := by rw [if_neg (show ¬ (false = true) by decide)] at H; exact H
   clear H
   have H := H1
   clear H1
   have H' := am H
   clear H
   go_wp2_with (first | ((with_reducible refine gate_callee (f := 45) rfl ?_); refine goesL_ (some 13) rfl rfl Try.func45 (by kernel_rfl) rfl #[.int .i64 a0] rfl (by (try simp only [List.map_toArray, List.map_cons, List.map_nil]); first | done | rfl | (simp only [List.length_drop, List.length_take]; rfl)) ?_; (with_reducible refine (spec_ptBoats.calls a0 false _ A4.out).mono ?_); rintro e w' ⟨rfl, ⟨nd, rfl⟩⟩; refine ⟨_, rfl, ?_⟩))
   go_meet
   case rel => exact ⟨_, (true), (by first | rfl | (simp; done) | (simp [*]; done)), H', ⟨by first | omega | exact Nat.le_refl _⟩, ⟨hbS HB.out⟩⟩
 case rest =>
  clear HC3
  try clear c2
  try clear p2
  try clear c4
  try clear c5
  obtain ⟨kq, x18_2, rfl, HA, HJ2, HB⟩ := hcut
  cases kq with
  | zero => exact absurd HA.out (by simp [spec_OrderOfRank.j0])
  | succ kj2 =>
   have H := HA.out
   clear HA
   simp only [spec_OrderOfRank.j0] at H
   by_cases c6 : x18_2 = true
   ·subst c6
    have H1 : (some (([] : List Int), false)) = some (r1, r2) := by rw [if_pos rfl] at H; exact H
    clear H
    have H := H1
    clear H1
    simp only [Option.some.injEq, Prod.mk.injEq] at H
    obtain ⟨rfl, rfl⟩ := H
    go_wp2
    go_ret2
    exact ⟨_, by first | rfl | (simp [errW_none, errW_some] <;> rfl) | (simp [*, errW_none, errW_some] <;> rfl), by first | exact Kd.R_nil _ _ _ _ _ | exact Kd.N_nil _ _ _ _ _ | exact Kd.V_nil _ _ _ _ _ | exact Kd.Q_nil _ _ _ _ _ | exact Kd.S_nil _ _ _ _ _, hbS HB.out⟩
   ·replace c6 := Bool.eq_false_iff.mpr c6
    subst c6
    have H1 : (spec_OrderOfRank.l0 kj2 a0 a1 1 ([] : List Int) 1) = some (r1, r2) := by rw [if_neg (show ¬ (false = true) by decide)] at H; exact H
    clear H
    have H := H1
    clear H1
    have H' := am H
    clear H
    go_wp2
    go_loopg [6, 7, 8] kj2 (fun kq v6 v7 v8 w' => ∃ (x6_2 : Int) (x7_2 : List Int) (x8_2 : Int), v6 = .int .i64 x6_2 ∧ v8 = .int .i64 x8_2 ∧ Aside0 (spec_OrderOfRank.l0 kq a0 a1 x6_2 x7_2 x8_2 = some (r1, r2)) ∧ Aside0 (kq ≤ kj2) ∧ Aside0 (Kd.R (Kd.int .i64) 3 w' w.heap.size (fun _ => True) v7 x7_2) ∧ Aside0 (Below w.heap.size w w'))
    case atStart => exact ⟨(1), (([] : List Int)), (1), (by first | rfl | (simp; done) | (simp [*]; done)), (by first | rfl | (simp; done) | (simp [*]; done)), H', ⟨Nat.le_refl _⟩, ⟨by first | exact Kd.R_nil _ _ _ _ _ | exact Kd.N_nil _ _ _ _ _ | exact Kd.V_nil _ _ _ _ _ | exact Kd.Q_nil _ _ _ _ _ | exact Kd.S_nil _ _ _ _ _⟩, ⟨hbS HB.out⟩⟩
    case round =>
     clear H'
     try clear c2
     try clear p2
     try clear c4
     try clear c5
     try clear c6
     try clear p2
     obtain ⟨x6_2, x7_2, x8_2, rfl, rfl, HA, HK2, HO_7, HB⟩ := hrel
     cases gk with
     | zero => exact absurd HA.out (by simp [spec_OrderOfRank.l0])
     | succ k2 =>
      have H := HA.out
      clear HA
      simp only [spec_OrderOfRank.l0] at H
      by_cases c7 : x8_2 ≤ a0
      ·rw [if_pos c7] at H
       have c7b0 : decide (x8_2 ≤ a0) = true := decide_eq_true c7
       clear c7
       by_cases c8 : x7_2.length < 17592186044416
       ·rw [if_pos c8] at H
        have LMc8 := am c8
        clear c8
        obtain ⟨y415, hy415⟩ : ∃ y_ : List Int, y_ = (x7_2 ++ [x8_2]) := ⟨_, rfl⟩
        replace H : (spec_OrderOfRank.l0 k2 a0 a1 (wrap64 (x6_2 * x8_2)) y415 (wrap64 (x8_2 + 1))) = some (r1, r2) := by first | (rw [hy415]; with_reducible exact H) | (have H2_ := (Option.bind_some _ _).symm.trans H; rw [hy415]; with_reducible exact H2_) | (have H2_ := (Option.bind_some _ _).symm.trans H; with_reducible exact H2_) | with_reducible exact H | (rw [hy415]; exact H) | exact H
        have Ny415 := am hy415
        clear hy415
        have H' := am H
        clear H
        go_wp2_with (first | ((with_reducible refine gate_builtin (b := .append) (xs := #[.tmp 27, .tmp 29]) rfl ?_); at_builtin; refine Kd.R_append (Kd.int .i64) (w0 := w) w.heap.size rfl (.tmp 27) (.tmp 29) 24 3 (.int .i64 0) 8 rfl Try.underlying24 info3 rfl (by decide) (by omega) u7 x7_2 x8_2 [.int .i64 x8_2] (fun _ => True) (fun _ => False) rfl rfl ?aP (fun _ hk => hk.elim) ?aF ?aO ?aB ?aS ?aL ?_; (case aP => exact rfl); (case aB => exact (hbS HB.out)); (case aF => exact (fun _ _ => trivial)); (case aO => exact (roS HO_7.out)); (case aS => exact (below_size (hbS HB.out))); (case aL => have := LMc8.out; omega); intro v416 w9 ho hb hg hat; rw [← Ny415.out] at ho; have n0_ := am (hb); have n1_ := am (ho); clear HB; clear HO_7; have HB := n0_; have HO417 := n1_; clear n0_ n1_; clear ho hb hg hat))
        go_roundg k2
        case measure => have := HJ2.out; have := HK2.out; omega
        case rel => exact ⟨(wrap64 (x6_2 * x8_2)), (y415), (wrap64 (x8_2 + 1)), (by first | rfl | (simp; done) | (simp [*]; done)), (by first | rfl | (simp; done) | (simp [*]; done)), H', ⟨by have := HJ2.out; have := HK2.out; omega⟩, ⟨roS HO417.out⟩, ⟨hbS HB.out⟩⟩
       ·rw [if_neg c8] at H
        exact absurd H (by simp)
      ·rw [if_neg c7] at H
       have c7b0 : decide (x8_2 ≤ a0) = false := decide_eq_false c7
       clear c7
       by_cases c10 : a1 ≥ x6_2
       ·rw [if_pos c10] at H
        have c10b0 : decide (x6_2 ≤ a1) = true := decide_eq_true c10
        clear c10
        simp only [Option.some.injEq, Prod.mk.injEq] at H
        obtain ⟨rfl, rfl⟩ := H
        go_wp2
        go_ret2
        exact ⟨_, by first | rfl | (simp [errW_none, errW_some] <;> rfl) | (simp [*, errW_none, errW_some] <;> rfl), by first | exact Kd.R_nil _ _ _ _ _ | exact Kd.N_nil _ _ _ _ _ | exact Kd.V_nil _ _ _ _ _ | exact Kd.Q_nil _ _ _ _ _ | exact Kd.S_nil _ _ _ _ _, hbS HB.out⟩
       ·rw [if_neg c10] at H
        have c10b0 : decide (x6_2 ≤ a1) = false := decide_eq_false c10
        clear c10
        have H' := am H
        clear H
        go_wp2
        go_loopg [1, 6, 7, 9, 10] k2 (fun kq v1 v6 v7 v9 v10 w' => ∃ (x1_3 : Int) (x6_3 : Int) (x7_3 : List Int) (x9_3 : List Int) (x10_3 : Int), v1 = .int .i64 x1_3 ∧ v6 = .int .i64 x6_3 ∧ v10 = .int .i64 x10_3 ∧ Aside0 (spec_OrderOfRank.l1 kq x1_3 x6_3 x7_3 x9_3 x10_3 = some (r1, r2)) ∧ Aside0 (kq ≤ k2) ∧ Aside0 (Kd.R (Kd.int .i64) 3 w' w.heap.size (fun k_ => some k_ ≠ (v9 : Value).ownBlock) v7 x7_3) ∧ Aside0 (Kd.R (Kd.int .i64) 3 w' w.heap.size (fun k_ => some k_ ≠ (v7 : Value).ownBlock) v9 x9_3) ∧ Aside0 (Below w.heap.size w w'))
        case atStart => exact ⟨(a1), (x6_2), (x7_2), (([] : List Int)), (a0), (by first | rfl | (simp; done) | (simp [*]; done)), (by first | rfl | (simp; done) | (simp [*]; done)), (by first | rfl | (simp; done) | (simp [*]; done)), H', ⟨Nat.le_refl _⟩, ⟨by (with_reducible repeat (first | apply Kd.R_alloc | apply Kd.R_drewN | apply Kd.R_drew)); exact Kd.R_mono HO_7.out (fun _ hk => (by simp [Value.ownBlock]))⟩, ⟨by first | exact Kd.R_nil _ _ _ _ _ | exact Kd.N_nil _ _ _ _ _ | exact Kd.V_nil _ _ _ _ _ | exact Kd.Q_nil _ _ _ _ _ | exact Kd.S_nil _ _ _ _ _⟩, ⟨hbS HB.out⟩⟩
        case round =>
         clear H'
         try clear c1
         try clear c2
         try clear p2
         try clear c4
         try clear c5
         try clear c6
         try clear p6
         try clear c7
         try clear c7b0
         try clear c8
         try clear c10
         try clear c10b0
         try clear p2
         obtain ⟨x1_3, x6_3, x7_3, x9_3, x10_3, rfl, rfl, rfl, HA, HK3, HO_7, HO_9, HB⟩ := hrel
         cases gk with
         | zero => exact absurd HA.out (by simp [spec_OrderOfRank.l1])
         | succ k3 =>
          have H := HA.out
          clear HA
          simp only [spec_OrderOfRank.l1] at H
          by_cases c11 : x10_3 > 0
          ·rw [if_pos c11] at H
           have c11b0 : decide (0 < x10_3) = true := decide_eq_true c11
           clear c11
           by_cases c12 : x10_3 = 0
           ·rw [if_pos c12] at H
            exact absurd H (by simp)
           ·rw [if_neg c12] at H
            have c12b0 : (x10_3 == 0) = false := beq_eq_false_iff_ne.mpr c12
            have c12b1 : (x10_3 != 0) = true := bne_iff_ne.mpr c12
            by_cases c13 : (wrap64 (Int.tdiv x6_3 x10_3)) = 0
            ·rw [if_pos c13] at H
             exact absurd H (by simp)
            ·rw [if_neg c13] at H
             have c13b0 : ((wrap64 (Int.tdiv x6_3 x10_3)) == 0) = false := beq_eq_false_iff_ne.mpr c13
             have c13b1 : ((wrap64 (Int.tdiv x6_3 x10_3)) != 0) = true := bne_iff_ne.mpr c13
             obtain ⟨ji14, hji14⟩ : ∃ j_ : Int, (wrap64 (Int.tdiv x1_3 (wrap64 (Int.tdiv x6_3 x10_3)))) = j_ := ⟨_, rfl⟩
             replace H : (if 0 ≤ (ji14) then (if (ji14) < (x7_3.length : Int) then (if x9_3.length < 17592186044416 then (if (ji14) ≤ (x7_3.length : Int) then ((spec_l1Own.f (x7_3.take ((ji14) : Int).toNat)).bind fun t426 => (if 0 ≤ (wrap64 ((ji14) + 1)) then (if (wrap64 ((ji14) + 1)) ≤ (x7_3.length : Int) then ((some (x7_3.drop ((wrap64 ((ji14) + 1)) : Int).toNat : List Int)).bind fun y429 => (if t426.length + y429.length < 17592186044416 then (spec_OrderOfRank.l1 k3 (Int.tmod x1_3 (wrap64 (Int.tdiv x6_3 x10_3))) (wrap64 (Int.tdiv x6_3 x10_3)) (t426 ++ y429) (x9_3 ++ [rd x7_3 (ji14)]) (wrap64 (x10_3 - 1))) else (none))) else (none)) else (none))) else (none)) else (none)) else (none)) else (none)) = some (r1, r2) := by first | (rw [hji14] at H; exact H) | (simp only [hji14] at H ⊢; exact H)
             have hji14w : (IntKind.i64.wrap (Int.tdiv x1_3 (wrap64 (Int.tdiv x6_3 x10_3)))) = ji14 := (i64_w _).trans hji14
             by_cases c15 : 0 ≤ (ji14)
             ·rw [if_pos c15] at H
              have c15b0 : decide (0 ≤ (ji14)) = true := decide_eq_true c15
              clear c15
              by_cases c16 : (ji14) < (x7_3.length : Int)
              ·rw [if_pos c16] at H
               have c16b0 : decide ((ji14) < (x7_3.length : Int)) = true := decide_eq_true c16
               clear c16
               by_cases c17 : x9_3.length < 17592186044416
               ·rw [if_pos c17] at H
                have LMc17 := am c17
                clear c17
                obtain ⟨y419, hy419⟩ : ∃ y_ : List Int, y_ = (x9_3 ++ [rd x7_3 (ji14)]) := ⟨_, rfl⟩
                replace H : (if (ji14) ≤ (x7_3.length : Int) then ((spec_l1Own.f (x7_3.take ((ji14) : Int).toNat)).bind fun t426 => (if 0 ≤ (wrap64 ((ji14) + 1)) then (if (wrap64 ((ji14) + 1)) ≤ (x7_3.length : Int) then ((some (x7_3.drop ((wrap64 ((ji14) + 1)) : Int).toNat : List Int)).bind fun y429 => (if t426.length + y429.length < 17592186044416 then (spec_OrderOfRank.l1 k3 (Int.tmod x1_3 (wrap64 (Int.tdiv x6_3 x10_3))) (wrap64 (Int.tdiv x6_3 x10_3)) (t426 ++ y429) y419 (wrap64 (x10_3 - 1))) else (none))) else (none)) else (none))) else (none)) = some (r1, r2) := by first | (rw [hy419]; with_reducible exact H) | (have H2_ := (Option.bind_some _ _).symm.trans H; rw [hy419]; with_reducible exact H2_) | (have H2_ := (Option.bind_some _ _).symm.trans H; with_reducible exact H2_) | with_reducible exact H | (rw [hy419]; exact H) | exact H
                have Ny419 := am hy419
                clear hy419
                have c18b0 := eq_true (of_decide_eq_true (by first | (with_reducible assumption) | assumption) : 0 ≤ (ji14))
                by_cases c19 : (ji14) ≤ (x7_3.length : Int)
                ·rw [if_pos c19] at H
                 have c19b0 := eq_true c19
                 have c19b1 : decide ((ji14) ≤ (x7_3.length : Int)) = true := decide_eq_true c19
                 clear c19
                 obtain ⟨y422, hy422⟩ : ∃ y_ : List Int, y_ = (x7_3.take ((ji14) : Int).toNat) := ⟨_, rfl⟩
                 replace H : ((spec_l1Own.f y422).bind fun t426 => (if 0 ≤ (wrap64 ((ji14) + 1)) then (if (wrap64 ((ji14) + 1)) ≤ (x7_3.length : Int) then ((some (x7_3.drop ((wrap64 ((ji14) + 1)) : Int).toNat : List Int)).bind fun y429 => (if t426.length + y429.length < 17592186044416 then (spec_OrderOfRank.l1 k3 (Int.tmod x1_3 (wrap64 (Int.tdiv x6_3 x10_3))) (wrap64 (Int.tdiv x6_3 x10_3)) (t426 ++ y429) y419 (wrap64 (x10_3 - 1))) else (none))) else (none)) else (none))) = some (r1, r2) := by first | (rw [hy422]; with_reducible exact H) | (have H2_ := (Option.bind_some _ _).symm.trans H; rw [hy422]; with_reducible exact H2_) | (have H2_ := (Option.bind_some _ _).symm.trans H; with_reducible exact H2_) | with_reducible exact H | (rw [hy422]; exact H) | exact H
                 have Ny422 := am hy422
                 clear hy422
                 replace H := Option.bind_eq_some_iff.mp H
                 obtain ⟨t426, A200, H⟩ := H
                 replace H : (if 0 ≤ (wrap64 ((ji14) + 1)) then (if (wrap64 ((ji14) + 1)) ≤ (x7_3.length : Int) then ((some (x7_3.drop ((wrap64 ((ji14) + 1)) : Int).toNat : List Int)).bind fun y429 => (if t426.length + y429.length < 17592186044416 then (spec_OrderOfRank.l1 k3 (Int.tmod x1_3 (wrap64 (Int.tdiv x6_3 x10_3))) (wrap64 (Int.tdiv x6_3 x10_3)) (t426 ++ y429) y419 (wrap64 (x10_3 - 1))) else (none))) else (none)) else (none)) = some (r1, r2) := H
                 have A20 := am A200
                 clear A200
                 obtain ⟨ji21, hji21⟩ : ∃ j_ : Int, (wrap64 ((ji14) + 1)) = j_ := ⟨_, rfl⟩
                 replace H : (if 0 ≤ (ji21) then (if (ji21) ≤ (x7_3.length : Int) then ((some (x7_3.drop ((ji21) : Int).toNat : List Int)).bind fun y429 => (if t426.length + y429.length < 17592186044416 then (spec_OrderOfRank.l1 k3 (Int.tmod x1_3 (wrap64 (Int.tdiv x6_3 x10_3))) (wrap64 (Int.tdiv x6_3 x10_3)) (t426 ++ y429) y419 (wrap64 (x10_3 - 1))) else (none))) else (none)) else (none)) = some (r1, r2) := by first | (rw [hji21] at H; exact H) | (simp only [hji21] at H ⊢; exact H)
                 (try rw [hji21] at A20)
                 have hji21w : (IntKind.i64.wrap ((ji14) + 1)) = ji21 := (i64_w _).trans hji21
                 by_cases c22 : 0 ≤ (ji21)
                 ·rw [if_pos c22] at H
                  have c22b0 := eq_true c22
                  have c22b1 : decide (0 ≤ (ji21)) = true := decide_eq_true c22
                  clear c22
                  by_cases c23 : (ji21) ≤ (x7_3.length : Int)
                  ·rw [if_pos c23] at H
                   have c23b0 := eq_true c23
                   have c23b1 : decide ((ji21) ≤ (x7_3.length : Int)) = true := decide_eq_true c23
                   clear c23
                   obtain ⟨y429, hy429⟩ : ∃ y_ : List Int, y_ = (x7_3.drop ((ji21) : Int).toNat) := ⟨_, rfl⟩
                   replace H : (if t426.length + y429.length < 17592186044416 then (spec_OrderOfRank.l1 k3 (Int.tmod x1_3 (wrap64 (Int.tdiv x6_3 x10_3))) (wrap64 (Int.tdiv x6_3 x10_3)) (t426 ++ y429) y419 (wrap64 (x10_3 - 1))) else (none)) = some (r1, r2) := by first | (rw [hy429]; with_reducible exact H) | (have H2_ := (Option.bind_some _ _).symm.trans H; rw [hy429]; with_reducible exact H2_) | (have H2_ := (Option.bind_some _ _).symm.trans H; with_reducible exact H2_) | with_reducible exact H | (rw [hy429]; exact H) | exact H
                   have Ny429 := am hy429
                   clear hy429
                   by_cases c24 : t426.length + y429.length < 17592186044416
                   ·rw [if_pos c24] at H
                    have LMc24 := am c24
                    clear c24
                    obtain ⟨y433, hy433⟩ : ∃ y_ : List Int, y_ = (t426 ++ y429) := ⟨_, rfl⟩
                    replace H : (spec_OrderOfRank.l1 k3 (Int.tmod x1_3 (wrap64 (Int.tdiv x6_3 x10_3))) (wrap64 (Int.tdiv x6_3 x10_3)) y433 y419 (wrap64 (x10_3 - 1))) = some (r1, r2) := by first | (rw [hy433]; with_reducible exact H) | (have H2_ := (Option.bind_some _ _).symm.trans H; rw [hy433]; with_reducible exact H2_) | (have H2_ := (Option.bind_some _ _).symm.trans H; with_reducible exact H2_) | with_reducible exact H | (rw [hy433]; exact H) | exact H
                    have Ny433 := am hy433
                    clear hy433
                    have H' := am H
                    clear H
                    obtain ⟨Ao25, co25, eo25⟩ := Kd.R_slice HO_7.out
                    subst eo25
                    have p418 : 0 ≤ ((ji14) : Int) := of_decide_eq_true (by first | (with_reducible assumption) | assumption)
                    have q418 : (ji14) < (x7_3.length : Int) := of_decide_eq_true (by first | (with_reducible assumption) | assumption)
                    obtain ⟨ad418, e418, hx418_0⟩ := Kd.at_int (Kd.R_reads' HO_7.out).2.2 (ji14) p418 q418
                    cases e418
                    replace p418 := eq_true p418
                    replace q418 := eq_true q418
                    try go_wp2_with (first | ((with_reducible refine gate_builtin (b := .append) (xs := #[.tmp 48, .tmp 53]) rfl ?_); at_builtin; refine Kd.R_append (Kd.int .i64) (w0 := w) w.heap.size rfl (.tmp 48) (.tmp 53) 24 3 (.int .i64 0) 8 rfl Try.underlying24 info3 rfl (by decide) (by omega) u9 x9_3 (rd x7_3 (ji14)) [.int .i64 (rd x7_3 (ji14))] (fun k_ => some k_ ≠ (.slice (some ad418) x7_3.length co25 : Value).ownBlock) (fun _ => False) rfl rfl ?aP (fun _ hk => hk.elim) ?aF ?aO ?aB ?aS ?aL ?_; (case aP => exact rfl); (case aB => exact (hbS HB.out)); (case aF => exact (fun k_ hk => Kd.fresh' (Kd.R_lt (roS HO_7.out)) k_ hk)); (case aO => exact (roS HO_9.out)); (case aS => exact (below_size (hbS HB.out))); (case aL => have := LMc17.out; omega); intro v420 w26 ho hb hg hat; rw [← Ny419.out] at ho; have n0_ := am (Kd.R_after (ok := (fun _ => True)) (by (with_reducible repeat (first | apply Kd.R_alloc | apply Kd.R_drewN | apply Kd.R_drew)); exact Kd.R_mono HO_7.out (fun _ hk => ⟨trivial, hk⟩)) hg hat); have n1_ := am (hb); have n2_ := am (ho); clear HO_7; clear HB; clear HO_9; have HO_7 := n0_; have HB := n1_; have HO421 := n2_; clear n0_ n1_ n2_; clear ho hb hg hat))
                    have n0_ := am (Kd.R_drew HO_7.out)
                    have n1_ := am (Kd.R_drew HO421.out)
                    have n2_ := am (below_drew1 HB.out)
                    clear HO_7
                    clear HO421
                    clear HB
                    have HO_7 := n0_
                    have HO421 := n1_
                    have HB := n2_
                    clear n0_ n1_ n2_
                    have q28 : ((ji14) : Int) ≤ ((x7_3.length : Int) : Int) := of_decide_eq_true (by first | (with_reducible assumption) | assumption)
                    obtain ⟨i028, hi028, _, hsz28, _⟩ := info_parts info3
                    have hroom28 : x7_3.length ≤ co25 := (Kd.R_reads' HO_7.out).2.1
                    have hC28 : Kd.C (Kd.int .i64) _ (some ad418) x7_3.length x7_3 := (Kd.R_reads' HO_7.out).2.2
                    have hcut28 := cut_to (P := Try.prog) 24 3 .i64 Try.underlying24 hi028 (some ad418) x7_3.length co25 (ji14) (of_decide_eq_true (by first | (with_reducible assumption) | assumption)) q28 hroom28
                    have hr28 := Kd.C_take (m := ((ji14) : Int).toNat) hC28 (by omega)
                    have hy28 : y422.length = ((ji14) : Int).toNat := (by rw [Ny422.out, List.length_take]; omega)
                    rw [← Ny422.out] at hr28
                    rw [← hy28] at hcut28
                    have HR425 := am hr28
                    have HC425 := am (show y422.length ≤ co25 from by omega)
                    clear hr28 hC28 hroom28 hi028 hsz28
                    have KY28 := am hy28
                    clear hy28
                    have KL28 := am (show ((ji14) : Int).toNat ≤ x7_3.length from by omega)
                    replace q28 := eq_true q28
                    have q29 : ((ji21) : Int) ≤ ((x7_3.length : Int) : Int) := of_decide_eq_true (by first | (with_reducible assumption) | assumption)
                    obtain ⟨i029, hi029, _, hsz29, _⟩ := info_parts info3
                    have hroom29 : x7_3.length ≤ co25 := (Kd.R_reads' HO_7.out).2.1
                    have hC29 : Kd.C (Kd.int .i64) _ (some ad418) x7_3.length x7_3 := (Kd.R_reads' HO_7.out).2.2
                    have q029 : (0 : Int) ≤ ((ji21) : Int) := of_decide_eq_true (by first | (with_reducible assumption) | assumption)
                    have hcut29 := cut_from (P := Try.prog) 24 3 .i64 Try.underlying24 hi029 1 hsz29 (some ad418) x7_3.length co25 (ji21) q029 q29
                    have hr29 := Kd.C_drop (m := ((ji21) : Int).toNat) (c := co25) hC29 (by omega) hroom29
                    obtain ⟨A29, hA29⟩ : ∃ A1, A1 = (if co25 = ((ji21) : Int).toNat then (some ad418) else ((some ad418) : Option Addr).map (·.add (((ji21) : Int).toNat * 1))) := ⟨_, rfl⟩
                    obtain ⟨c29, hc29⟩ : ∃ c1, c1 = co25 - ((ji21) : Int).toNat := ⟨_, rfl⟩
                    have hy29 : y429.length = x7_3.length - ((ji21) : Int).toNat := (by rw [Ny429.out, List.length_drop] <;> omega)
                    rw [show (x7_3).drop ((ji21) : Int).toNat = y429 from Ny429.out.symm] at hr29
                    replace hr29 : Kd.C (Kd.int .i64) _ A29 y429.length y429 := (by rw [hA29]; exact hr29)
                    rw [← hy29, ← hA29, ← hc29] at hcut29
                    have HR432 := am hr29
                    have HC432 := am (show y429.length ≤ c29 from by rw [hy29, hc29]; exact Nat.sub_le_sub_right hroom29 _)
                    clear hr29 hC29 hroom29 hi029 hsz29 hc29
                    have KY29 := am hy29
                    have KA29 := am hA29
                    clear hy29 hA29
                    have KL29 := am (show ((ji21) : Int).toNat ≤ x7_3.length from by omega)
                    replace q29 := eq_true q29
                    refine start_ (n := 10) (S := fun w' => True) (ds := []) #[false, false, false, false, false, false, false, false, false, false] (by kernel_rfl) rfl rfl trivial (fun hHeld => ?_); refine with_tabW spec_OrderOfRank.tab20 spec_OrderOfRank.bits20 (fun HT_ HW_ => ?_)
                    generalize w26.drew = w27 at HO_7 HO421 HB HR425 HR432 hHeld ⊢
                    refine pure_ (i := 0) (N := some 55) (v := ?_) (a' := ?_) #[true, false, false, false, false, false, false, false, false, false] rfl rfl (any_of HT_.out (by kernel_rfl)) (fun _ _ _ h => h) (Or.inl ⟨by rfl, ?_⟩) ?_ ?_
                    rotate_left
                    ·intro w'
                     go_simp
                     with_reducible rfl
                    rotate_left
                    ·simp only [Act.put, List.setIfInBounds_toArray, List.set_cons_zero, List.set_cons_succ, i64_w, i32_w]
                     rfl
                    refine pure_ (i := 1) (N := some 56) (v := ?_) (a' := ?_) #[true, true, false, false, false, false, false, false, false, false] rfl rfl (any_of HT_.out (by kernel_rfl)) (fun _ _ _ h => h) (Or.inl ⟨by rfl, ?_⟩) ?_ ?_
                    rotate_left
                    ·intro w'
                     go_simp
                     with_reducible rfl
                    rotate_left
                    ·simp only [Act.put, List.setIfInBounds_toArray, List.set_cons_zero, List.set_cons_succ, i64_w, i32_w]
                     rfl
                    refine pure_ (i := 2) (N := some 57) (v := ?_) (a' := ?_) #[true, true, true, false, false, false, false, false, false, false] rfl rfl (any_of HT_.out (by kernel_rfl)) (fun _ _ _ h => h) (Or.inl ⟨by rfl, ?_⟩) ?_ ?_
                    rotate_left
                    ·intro w'
                     go_simp
                     with_reducible rfl
                    rotate_left
                    ·simp only [Act.put, List.setIfInBounds_toArray, List.set_cons_zero, List.set_cons_succ, i64_w, i32_w]
                     rfl
                    refine pure_ (i := 4) (N := some 59) (v := ?_) (a' := ?_) #[true, true, true, false, true, false, false, false, false, false] rfl rfl (any_of HT_.out (by kernel_rfl)) (fun _ _ _ h => h) (Or.inl ⟨by rfl, ?_⟩) ?_ ?_
                    rotate_left
                    ·intro w'
                     go_simp
                     with_reducible rfl
                    rotate_left
                    ·simp only [Act.put, List.setIfInBounds_toArray, List.set_cons_zero, List.set_cons_succ, i64_w, i32_w]
                     rfl
                    refine pure_ (i := 5) (N := some 60) (v := ?_) (a' := ?_) #[true, true, true, false, true, true, false, false, false, false] rfl rfl (any_of HT_.out (by kernel_rfl)) (fun _ _ _ h => h) (Or.inl ⟨by rfl, ?_⟩) ?_ ?_
                    rotate_left
                    ·intro w'
                     go_simp
                     with_reducible rfl
                    rotate_left
                    ·simp only [Act.put, List.setIfInBounds_toArray, List.set_cons_zero, List.set_cons_succ, i64_w, i32_w]
                     rfl
                    refine pure_ (i := 6) (N := some 61) (v := ?_) (a' := ?_) #[true, true, true, false, true, true, true, false, false, false] rfl rfl (any_of HT_.out (by kernel_rfl)) (fun _ _ _ h => h) (Or.inl ⟨by rfl, ?_⟩) ?_ ?_
                    rotate_left
                    ·intro w'
                     go_simp
                     with_reducible rfl
                    rotate_left
                    ·simp only [Act.put, List.setIfInBounds_toArray, List.set_cons_zero, List.set_cons_succ, i64_w, i32_w]
                     rfl
                    refine pure_ (i := 7) (N := some 62) (v := ?_) (a' := ?_) #[true, true, true, false, true, true, true, true, false, false] rfl rfl (any_of HT_.out (by kernel_rfl)) (fun _ _ _ h => h) (Or.inl ⟨by rfl, ?_⟩) ?_ ?_
                    rotate_left
                    ·intro w'
                     go_simp
                     with_reducible rfl
                    rotate_left
                    ·simp only [Act.put, List.setIfInBounds_toArray, List.set_cons_zero, List.set_cons_succ, i64_w, i32_w]
                     rfl
                    refine one_ (i := 3) (N := some 58) #[true, true, true, true, true, true, true, true, false, false] rfl rfl (one_of HT_.out (by kernel_rfl)) (by decide) (fun K hK => ?_)
                    refine goes_ Try.func31 (by kernel_rfl) rfl #[.slice (some ad418) y422.length co25] (by rfl) rfl rfl (by (try simp only [List.map_toArray, List.map_cons, List.map_nil]); first | done | rfl | (simp only [List.length_drop, List.length_take]; rfl)) ?_
                    with_reducible refine (spec_l1Own.calls _ _ y422 t426 _ ?side1 ?side2 A20.out).mono ?_
                    (case side1 => repeat (first | exact (by repeat (first | (with_reducible exact HR425.out) | (with_reducible refine Kd.C_alloc ?_ _) | (with_reducible refine Kd.C_drewN ?_ _) | (with_reducible refine Kd.C_drew ?_) | exact HR425.out)) | (with_reducible refine Kd.C_alloc ?_ _) | (with_reducible refine Kd.C_drewN ?_ _) | (with_reducible refine Kd.C_drew ?_)))
                    (case side2 => exact HC425.out)
                    rintro e w30 ⟨v427, rfl, ho0, hb⟩
                    refine ⟨_, rfl, ?_⟩
                    have n0_ := am (Kd.R_elder' (roS HO_7.out) (Kd.R_base ho0) hb)
                    have n1_ := am (Kd.R_elder' (roS HO421.out) (Kd.R_base ho0) hb)
                    have n2_ := am (Kd.R_lower (Kd.R_new' (Kd.R_new' ho0 (Kd.R_lt (roS HO_7.out))) (Kd.R_lt (roS HO421.out))) (below_size (hbS HB.out)))
                    have n3_ := am (Kd.C_below (by repeat (first | (with_reducible exact HR425.out) | (with_reducible refine Kd.C_alloc ?_ _) | (with_reducible refine Kd.C_drewN ?_ _) | (with_reducible refine Kd.C_drew ?_) | exact HR425.out)) hb)
                    have n4_ := am (Kd.C_below (by repeat (first | (with_reducible exact HR432.out) | (with_reducible refine Kd.C_alloc ?_ _) | (with_reducible refine Kd.C_drewN ?_ _) | (with_reducible refine Kd.C_drew ?_) | exact HR432.out)) hb)
                    have n5_ := am (below_step (hbS HB.out) hb)
                    clear HO_7
                    clear HO421
                    clear HR425
                    clear HR432
                    clear HB
                    have HO_7 := n0_
                    have HO421 := n1_
                    have HO428 := n2_
                    have HR425 := n3_
                    have HR432 := n4_
                    have HB := n5_
                    clear n0_ n1_ n2_ n3_ n4_ n5_
                    (try clear hb)
                    (try clear hb2)
                    (try clear hk)
                    (try clear hi)
                    (try clear ho0)
                    refine hK.out _ _ trivial (fun hHeld => ?_)
                    clear hK K
                    refine norm_ (a' := ?_) ?_ ?_
                    rotate_left
                    ·show Act.put _ (some 58) _ = _
                     simp only [Act.put, List.setIfInBounds_toArray, List.set_cons_zero, List.set_cons_succ, i64_w, i32_w]
                     rfl
                    refine one_ (i := 8) (N := some 63) #[true, true, true, true, true, true, true, true, true, false] rfl rfl (one_of HT_.out (by kernel_rfl)) (by decide) (fun K hK => ?_)
                    refine Kd.R_append_rows_step (Kd.int .i64) (w0 := w) w.heap.size (by rfl) (.tmp 58) (.tmp 62) 24 3 (.int .i64 0) 8 rfl Try.underlying24 info3 rfl (by decide) (by omega) v427 t426 y429 _ _ _ (fun k_ => some k_ ≠ (.slice (some ad418) x7_3.length co25 : Value).ownBlock ∧ some k_ ≠ (v420 : Value).ownBlock) (fun _ => False) rfl rfl ?aO ?aR (fun _ _ h => h) (fun _ h => h.elim) ?aF ?aB ?aS ?aL ?_
                    (case aR => repeat (first | exact (by repeat (first | (with_reducible exact HR432.out) | (with_reducible refine Kd.C_alloc ?_ _) | (with_reducible refine Kd.C_drewN ?_ _) | (with_reducible refine Kd.C_drew ?_) | exact HR432.out)) | (with_reducible refine Kd.C_alloc ?_ _) | (with_reducible refine Kd.C_drewN ?_ _) | (with_reducible refine Kd.C_drew ?_)))
                    (case aB => exact (hbS HB.out))
                    (case aF => exact (fun k_ hk => ⟨Kd.fresh' (Kd.R_lt (roS HO_7.out)) k_ hk, Kd.fresh' (Kd.R_lt (roS HO421.out)) k_ hk⟩))
                    (case aO => exact (by (with_reducible repeat (first | apply Kd.R_alloc | apply Kd.R_drewN | apply Kd.R_drew)); exact Kd.R_mono HO428.out (fun _ hk => ⟨hk.1.2, hk.2⟩)))
                    (case aS => exact (below_size (hbS HB.out)))
                    (case aL => have := LMc24.out; omega)
                    intro v434 w31 ho hb hg hat
                    rw [← Ny433.out] at ho
                    have n0_ := am (Kd.R_after (ok := (fun k_ => some k_ ≠ (v420 : Value).ownBlock)) (by (with_reducible repeat (first | apply Kd.R_alloc | apply Kd.R_drewN | apply Kd.R_drew)); exact Kd.R_mono HO_7.out (fun _ hk => ⟨hk.1.2, hk.2⟩)) hg hat)
                    have n1_ := am (Kd.R_after (ok := (fun k_ => some k_ ≠ (.slice (some ad418) x7_3.length co25 : Value).ownBlock)) (roS HO421.out) hg hat)
                    have n2_ := am (hb)
                    have n3_ := am ((show Kd.C (Kd.int .i64) w31 (some ad418) y422.length y422 from by rw [Ny422.out]; exact Kd.C_take (m := ((ji14) : Int).toNat) ((Kd.R_reads' (Kd.R_after (ok := (fun k_ => some k_ ≠ (v420 : Value).ownBlock)) (by (with_reducible repeat (first | apply Kd.R_alloc | apply Kd.R_drewN | apply Kd.R_drew)); exact Kd.R_mono HO_7.out (fun _ hk => ⟨hk.1.2, hk.2⟩)) hg hat)).2.2) KL28.out))
                    have n4_ := am ((show Kd.C (Kd.int .i64) w31 A29 y429.length y429 from by rw [Ny429.out, KA29.out]; exact Kd.C_drop (m := ((ji21) : Int).toNat) (c := co25) ((Kd.R_reads' (Kd.R_after (ok := (fun k_ => some k_ ≠ (v420 : Value).ownBlock)) (by (with_reducible repeat (first | apply Kd.R_alloc | apply Kd.R_drewN | apply Kd.R_drew)); exact Kd.R_mono HO_7.out (fun _ hk => ⟨hk.1.2, hk.2⟩)) hg hat)).2.2) KL29.out ((Kd.R_reads' (Kd.R_after (ok := (fun k_ => some k_ ≠ (v420 : Value).ownBlock)) (by (with_reducible repeat (first | apply Kd.R_alloc | apply Kd.R_drewN | apply Kd.R_drew)); exact Kd.R_mono HO_7.out (fun _ hk => ⟨hk.1.2, hk.2⟩)) hg hat)).2.1)))
                    have n5_ := am (ho)
                    clear HO_7
                    clear HO421
                    clear HB
                    clear HR425
                    clear HR432
                    clear HO428
                    have HO_7 := n0_
                    have HO421 := n1_
                    have HB := n2_
                    have HR425 := n3_
                    have HR432 := n4_
                    have HO435 := n5_
                    clear n0_ n1_ n2_ n3_ n4_ n5_
                    clear ho hb hg hat
                    refine hK.out _ _ trivial (fun hHeld => ?_)
                    clear hK K
                    refine norm_ (a' := ?_) ?_ ?_
                    rotate_left
                    ·show Act.put _ (some 63) _ = _
                     simp only [Act.put, List.setIfInBounds_toArray, List.set_cons_zero, List.set_cons_succ, i64_w, i32_w]
                     rfl
                    refine pure_ (i := 9) (N := some 7) (v := ?_) (a' := ?_) #[true, true, true, true, true, true, true, true, true, true] rfl rfl (any_of HT_.out (by kernel_rfl)) (fun _ _ _ h => h) (Or.inl ⟨by rfl, ?_⟩) ?_ ?_
                    rotate_left
                    ·intro w'
                     go_simp
                     with_reducible rfl
                    rotate_left
                    ·simp only [Act.put, List.setIfInBounds_toArray, List.set_cons_zero, List.set_cons_succ, i64_w, i32_w]
                     rfl
                    refine done_ (done_of HT_.out (by kernel_rfl)) ?_
                    try go_wp2
                    go_roundg k3
                    case measure => have := HJ2.out; have := HK2.out; have := HK3.out; omega
                    case rel => exact ⟨(Int.tmod x1_3 (wrap64 (Int.tdiv x6_3 x10_3))), (wrap64 (Int.tdiv x6_3 x10_3)), (y433), (y419), (wrap64 (x10_3 - 1)), (by first | rfl | (simp; done) | (simp [*]; done)), (by first | rfl | (simp; done) | (simp [*]; done)), (by first | rfl | (simp; done) | (simp [*]; done)), H', ⟨by have := HJ2.out; have := HK2.out; have := HK3.out; omega⟩, ⟨by (with_reducible repeat (first | apply Kd.R_alloc | apply Kd.R_drewN | apply Kd.R_drew)); exact Kd.R_mono HO435.out (fun _ hk => hk.2)⟩, ⟨by (with_reducible repeat (first | apply Kd.R_alloc | apply Kd.R_drewN | apply Kd.R_drew)); exact Kd.R_mono HO421.out (fun _ hk => hk.2)⟩, ⟨hbS HB.out⟩⟩
                   ·rw [if_neg c24] at H
                    exact absurd H (by simp)
                  ·rw [if_neg c23] at H
                   exact absurd H (by simp)
                 ·rw [if_neg c22] at H
                  exact absurd H (by simp)
                ·rw [if_neg c19] at H
                 exact absurd H (by simp)
               ·rw [if_neg c17] at H
                exact absurd H (by simp)
              ·rw [if_neg c16] at H
               exact absurd H (by simp)
             ·rw [if_neg c15] at H
              exact absurd H (by simp)
          ·rw [if_neg c11] at H
           have c11b0 : decide (0 < x10_3) = false := decide_eq_false c11
           clear c11
           simp only [Option.some.injEq, Prod.mk.injEq] at H
           obtain ⟨rfl, rfl⟩ := H
           go_wp2
           go_ret2
           exact ⟨_, by first | rfl | (simp [errW_none, errW_some] <;> rfl) | (simp [*, errW_none, errW_some] <;> rfl), by (with_reducible repeat (first | apply Kd.R_alloc | apply Kd.R_drewN | apply Kd.R_drew)); exact Kd.R_mono HO_9.out (fun _ hk => trivial), hbS HB.out⟩
end Go.Proofs.Ytclmmnphmlmnmaa.X
end
section
-- Written by a program of this session (wip/tools/mp.py) over the kit's print of the translation.
namespace Go.Proofs.Ytclmmnphmlmnmaa.X
open Go.Proofs.Ytclmmnphmlmnmaa.Sq Go.RowKit Go.Proofs.YtclmmnphmlmnmaaW.PrintWords Go.Proofs.YtclmmnphmlmnmaaW.PrintLast Go.Proofs.YtclmmnphmlmnmaaW.PrintMore
attribute [local go_sem] max2_int min2_int max_two min_two max_three min_three max_four min_four   -- for this text's walks alone
set_option linter.unusedVariables false
set_option linter.unusedSimpArgs false
/-! ### impl_inverted: function 48 -/
mutual
def impl_inverted.l0 : Nat → List Int → Int → List Int → Int → Int → Option (Int)
 | 0, _, _, _, _, _ => none
 | k + 1, x0, x3, x8, x9, x10 => if x10 < x9 then (if 0 ≤ x10 then (if x10 < (x8.length : Int) then (if 0 ≤ (wrap64 (x10 + 1)) then (if (wrap64 (x10 + 1)) ≤ (x0.length : Int) then (impl_inverted.l1 k x0 x3 (rd x8 x10) x8 x9 x10 (x0.drop ((wrap64 (x10 + 1)) : Int).toNat) ((x0.drop ((wrap64 (x10 + 1)) : Int).toNat).length : Int) 0) else (none)) else (none)) else (none)) else (none)) else (some x3)
def impl_inverted.l1 : Nat → List Int → Int → Int → List Int → Int → Int → List Int → Int → Int → Option (Int)
 | 0, _, _, _, _, _, _, _, _, _ => none
 | k + 1, x0, x3, x5, x8, x9, x10, x18, x19, x20 => if x20 < x19 then (if 0 ≤ x20 then (if x20 < (x18.length : Int) then ((impl_bit.f (decide (x5 > (rd x18 x20)))).bind fun t439 => (impl_inverted.l1 k x0 (wrap64 (x3 + t439)) x5 x8 x9 x10 x18 x19 (wrap64 (x20 + 1)))) else (none)) else (none)) else (impl_inverted.l0 k x0 x3 x8 x9 (wrap64 (x10 + 1)))
end
def impl_inverted.f (k : Nat) (l0 : List Int) : Option (Int) := impl_inverted.l0 k l0 0 l0 (l0.length : Int) 0
set_option maxHeartbeats 8000000 in
set_option maxRecDepth 100000 in
theorem impl_inverted.calls (k : Nat) (A0 : Option Addr) (c0 : Nat) (l0 : List Int) (r : Int) (w : World) (hr0 : Kd.C (Kd.int .i64) w A0 l0.length l0) (hc0 : l0.length ≤ c0) (h : impl_inverted.f k l0 = some r) :
  Calls Try.prog 48 #[.slice A0 l0.length c0] w fun e w' => e = .returned (.int .i64 r) ∧ Drawn0 w w' := by
 have HR0 := am hr0
 have HC0 := am hc0
 clear hr0 hc0
 have H : (impl_inverted.l0 k l0 0 l0 (l0.length : Int) 0) = some r := h
 clear h
 have H' := am H
 clear H
 go_enter Try.func48, Try.ntmps48
 go_wp2
 go_loopg [3, 10] k (fun kq v3 v10 w' => ∃ (x3_1 : Int) (x10_1 : Int), v3 = .int .i64 x3_1 ∧ v10 = .int .i64 x10_1 ∧ Aside0 (impl_inverted.l0 kq l0 x3_1 l0 (l0.length : Int) x10_1 = some r) ∧ Aside0 (kq ≤ k) ∧ Drawn0 w w')
 case atStart => exact ⟨(0), (0), (by first | rfl | (simp; done) | (simp [*]; done)), (by first | rfl | (simp; done) | (simp [*]; done)), H', ⟨Nat.le_refl _⟩, by repeat (first | exact Drawn0.refl _ | apply Drawn0.step)⟩
 case round =>
  clear H'
  obtain ⟨x3_1, x10_1, rfl, rfl, HA, HK1, ⟨m1, rfl⟩⟩ := hrel
  cases gk with
  | zero => exact absurd HA.out (by simp [impl_inverted.l0])
  | succ k1 =>
   have H := HA.out
   clear HA
   simp only [impl_inverted.l0] at H
   by_cases c2 : x10_1 < (l0.length : Int)
   ·rw [if_pos c2] at H
    have c2b0 : decide (x10_1 < (l0.length : Int)) = true := decide_eq_true c2
    clear c2
    by_cases c3 : 0 ≤ x10_1
    ·rw [if_pos c3] at H
     have c3b0 : decide (0 ≤ x10_1) = true := decide_eq_true c3
     clear c3
     by_cases c4 : x10_1 < (l0.length : Int)
     ·rw [if_pos c4] at H
      have c4b0 : decide (x10_1 < (l0.length : Int)) = true := decide_eq_true c4
      clear c4
      obtain ⟨ji5, hji5⟩ : ∃ j_ : Int, (wrap64 (x10_1 + 1)) = j_ := ⟨_, rfl⟩
      replace H : (if 0 ≤ (ji5) then (if (ji5) ≤ (l0.length : Int) then (impl_inverted.l1 k1 l0 x3_1 (rd l0 x10_1) l0 (l0.length : Int) x10_1 (l0.drop ((ji5) : Int).toNat) ((l0.drop ((ji5) : Int).toNat).length : Int) 0) else (none)) else (none)) = some r := by first | (rw [hji5] at H; exact H) | (simp only [hji5] at H ⊢; exact H)
      have hji5w : (IntKind.i64.wrap (x10_1 + 1)) = ji5 := (i64_w _).trans hji5
      by_cases c6 : 0 ≤ (ji5)
      ·rw [if_pos c6] at H
       have c6b0 := eq_true c6
       have c6b1 : decide (0 ≤ (ji5)) = true := decide_eq_true c6
       clear c6
       by_cases c7 : (ji5) ≤ (l0.length : Int)
       ·rw [if_pos c7] at H
        have c7b0 := eq_true c7
        have c7b1 : decide ((ji5) ≤ (l0.length : Int)) = true := decide_eq_true c7
        clear c7
        have H' := am H
        clear H
        have p436 : 0 ≤ (x10_1 : Int) := of_decide_eq_true (by first | (with_reducible assumption) | assumption)
        have q436 : x10_1 < (l0.length : Int) := of_decide_eq_true (by first | (with_reducible assumption) | assumption)
        obtain ⟨ad436, e436, hx436_0⟩ := Kd.at_int HR0.out x10_1 p436 q436
        cases e436
        replace p436 := eq_true p436
        replace q436 := eq_true q436
        obtain ⟨i08, hi08, _, hsz8, _⟩ := info_parts info3
        obtain ⟨A8, hcut8, hA8, hC8⟩ := print_drop_of (P := Try.prog) (Value.int .i64) 0 24 3 .i64 Try.underlying24 hi08 hsz8 (some ad436) c0 l0 (ji5) (of_decide_eq_true (by first | (with_reducible assumption) | assumption)) (of_decide_eq_true (by first | (with_reducible assumption) | assumption)) HC0.out
        have HR437 := am (Kd.C_of_reads (h1 := fun _ => rfl) (hA8 _ (Kd.reads_of_C HR0.out)))
        have HC437 := am hC8
        clear hA8 hC8 hi08 hsz8
        generalize (l0.drop ((ji5) : Int).toNat) = m437 at H' HR437 HC437 hcut8
        go_wp2
        go_loopg [3, 20] k1 (fun kq v3 v20 w' => ∃ (x3_2 : Int) (x20_2 : Int), v3 = .int .i64 x3_2 ∧ v20 = .int .i64 x20_2 ∧ Aside0 (impl_inverted.l1 kq l0 x3_2 (rd l0 x10_1) l0 (l0.length : Int) x10_1 m437 (m437.length : Int) x20_2 = some r) ∧ Aside0 (kq ≤ k1) ∧ Drawn0 w w')
        case atStart => exact ⟨(x3_1), (0), (by first | rfl | (simp; done) | (simp [*]; done)), (by first | rfl | (simp; done) | (simp [*]; done)), H', ⟨Nat.le_refl _⟩, by repeat (first | exact Drawn0.refl _ | apply Drawn0.step)⟩
        case round =>
         clear H'
         try clear c2
         try clear c2b0
         try clear p2
         try clear c3
         try clear c3b0
         try clear c4
         try clear c4b0
         try clear p4
         try clear q4
         try clear hx4
         try clear c6
         try clear c6b0
         try clear c6b1
         try clear p6
         try clear c7
         try clear c7b0
         try clear c7b1
         try clear hx436_0
         try clear p436
         try clear q436
         obtain ⟨x3_2, x20_2, rfl, rfl, HA, HK2, ⟨m2, rfl⟩⟩ := hrel
         cases gk with
         | zero => exact absurd HA.out (by simp [impl_inverted.l1])
         | succ k2 =>
          have H := HA.out
          clear HA
          simp only [impl_inverted.l1] at H
          by_cases c9 : x20_2 < (m437.length : Int)
          ·rw [if_pos c9] at H
           have c9b0 : decide (x20_2 < (m437.length : Int)) = true := decide_eq_true c9
           clear c9
           by_cases c10 : 0 ≤ x20_2
           ·rw [if_pos c10] at H
            have c10b0 : decide (0 ≤ x20_2) = true := decide_eq_true c10
            clear c10
            by_cases c11 : x20_2 < (m437.length : Int)
            ·rw [if_pos c11] at H
             have c11b0 : decide (x20_2 < (m437.length : Int)) = true := decide_eq_true c11
             clear c11
             replace H := Option.bind_eq_some_iff.mp H
             obtain ⟨t439, A120, H⟩ := H
             replace H : (impl_inverted.l1 k2 l0 (wrap64 (x3_2 + t439)) (rd l0 x10_1) l0 (l0.length : Int) x10_1 m437 (m437.length : Int) (wrap64 (x20_2 + 1))) = some r := H
             have A12 := am A120
             clear A120
             have H' := am H
             clear H
             have p438 : 0 ≤ (x20_2 : Int) := of_decide_eq_true (by first | (with_reducible assumption) | assumption)
             have q438 : x20_2 < (m437.length : Int) := of_decide_eq_true (by first | (with_reducible assumption) | assumption)
             obtain ⟨ad438, e438, hx438_0⟩ := Kd.at_int HR437.out x20_2 p438 q438
             cases e438
             replace p438 := eq_true p438
             replace q438 := eq_true q438
             go_wp2_with (first | ((with_reducible refine gate_callee (f := 40) rfl ?_); refine goesL_ (some 28) rfl rfl Try.func40 (by kernel_rfl) rfl #[.bool (decide ((rd l0 x10_1) > (rd m437 x20_2)))] rfl (by (try simp only [List.map_toArray, List.map_cons, List.map_nil]); first | done | (simp only [hji5]; rfl) | rfl | (simp only [List.length_drop, List.length_take]; rfl)) ?_; (with_reducible refine (impl_bit.calls (decide ((rd l0 x10_1) > (rd m437 x20_2))) t439 _ A12.out).mono ?_); rintro e w' ⟨rfl, ⟨nd, rfl⟩⟩; refine ⟨_, rfl, ?_⟩))
             go_roundg k2
             case measure => have := HK1.out; have := HK2.out; omega
             case rel => exact ⟨(wrap64 (x3_2 + t439)), (wrap64 (x20_2 + 1)), (by first | rfl | (simp; done) | (simp [*]; done)), (by first | rfl | (simp; done) | (simp [*]; done)), H', ⟨by have := HK1.out; have := HK2.out; omega⟩, by repeat (first | exact Drawn0.refl _ | apply Drawn0.step)⟩
            ·rw [if_neg c11] at H
             exact absurd H (by simp)
           ·rw [if_neg c10] at H
            exact absurd H (by simp)
          ·rw [if_neg c9] at H
           have c9b0 : decide (x20_2 < (m437.length : Int)) = false := decide_eq_false c9
           clear c9
           have H' := am H
           clear H
           go_wp2
           go_roundg k2
           case measure => have := HK1.out; have := HK2.out; omega
           case rel => exact ⟨(x3_2), (wrap64 (x10_1 + 1)), (by first | rfl | (simp; done) | (simp [*]; done)), (by first | rfl | (simp; done) | (simp [*]; done)), H', ⟨by have := HK1.out; have := HK2.out; omega⟩, by repeat (first | exact Drawn0.refl _ | apply Drawn0.step)⟩
       ·rw [if_neg c7] at H
        exact absurd H (by simp)
      ·rw [if_neg c6] at H
       exact absurd H (by simp)
     ·rw [if_neg c4] at H
      exact absurd H (by simp)
    ·rw [if_neg c3] at H
     exact absurd H (by simp)
   ·rw [if_neg c2] at H
    have c2b0 : decide (x10_1 < (l0.length : Int)) = false := decide_eq_false c2
    clear c2
    obtain rfl := Option.some.inj H
    go_wp2
    go_ret
    exact ⟨by first | rfl | (simp; done) | (simp [*]; done), by repeat (first | exact Drawn0.refl _ | apply Drawn0.step)⟩
/-! ### impl_CountInverted: function 26 -/
def impl_CountInverted.f (k : Nat) (l0 : List Int) : Option (Int × Bool) := (impl_IsOrder.f l0).bind fun t440 => (if t440 = true then ((impl_inverted.f k l0).bind fun t441 => (some (t441, true))) else (some (0, false)))
set_option maxHeartbeats 8000000 in
set_option maxRecDepth 100000 in
theorem impl_CountInverted.calls (k : Nat) (A0 : Option Addr) (c0 : Nat) (l0 : List Int) (r1 : Int) (r2 : Bool) (w : World) (hr0 : Kd.C (Kd.int .i64) w A0 l0.length l0) (hc0 : l0.length ≤ c0) (h : impl_CountInverted.f k l0 = some (r1, r2)) :
  Calls Try.prog 26 #[.slice A0 l0.length c0] w fun e w' => e = .returned (.tuple #[.int .i64 r1, .bool r2]) ∧ Below w.heap.size w w' := by
 have HR0 := am hr0
 have HC0 := am hc0
 clear hr0 hc0
 have HB := am (Below.refl w.heap.size w)
 have H : ((impl_IsOrder.f l0).bind fun t440 => (if t440 = true then ((impl_inverted.f k l0).bind fun t441 => (some (t441, true))) else (some (0, false)))) = some (r1, r2) := h
 clear h
 replace H := Option.bind_eq_some_iff.mp H
 obtain ⟨t440, A20, H⟩ := H
 replace H : (if t440 = true then ((impl_inverted.f k l0).bind fun t441 => (some (t441, true))) else (some (0, false))) = some (r1, r2) := H
 have A2 := am A20
 clear A20
 by_cases c3 : t440 = true
 ·subst c3
  have H1 : ((impl_inverted.f k l0).bind fun t441 => (some (t441, true))) = some (r1, r2) := by rw [if_pos rfl] at H; exact H
  clear H
  have H := H1
  clear H1
  replace H := Option.bind_eq_some_iff.mp H
  obtain ⟨t441, A40, H⟩ := H
  replace H : (some (t441, true)) = some (r1, r2) := H
  have A4 := am A40
  clear A40
  simp only [Option.some.injEq, Prod.mk.injEq] at H
  obtain ⟨rfl, rfl⟩ := H
  go_enter Try.func26, Try.ntmps26
  go_wp2_with (first | ((with_reducible refine gate_callee (f := 10) rfl ?_); refine goesL_ (some 5) rfl rfl Try.func10 (by kernel_rfl) rfl #[.slice A0 l0.length c0] rfl (by (try simp only [List.map_toArray, List.map_cons, List.map_nil]); first | done | rfl | (simp only [List.length_drop, List.length_take]; rfl)) ?_; (with_reducible refine (impl_IsOrder.calls _ _ l0 true _ ?side1 ?side2 A2.out).mono ?_); (case side1 => repeat (first | exact HR0.out | (with_reducible refine Kd.C_alloc ?_ _) | (with_reducible refine Kd.C_drewN ?_ _) | (with_reducible refine Kd.C_drew ?_))); (case side2 => exact HC0.out); rintro e w5 ⟨rfl, hb⟩; refine ⟨_, rfl, ?_⟩; have n0_ := am (below_step (hbS HB.out) hb); clear HB; have HB := n0_; clear n0_; (try clear hb); (try clear hb2); (try clear hk); (try clear hi)) | ((with_reducible refine gate_callee (f := 48) rfl ?_); refine goesL_ (some 8) rfl rfl Try.func48 (by kernel_rfl) rfl #[.slice A0 l0.length c0] rfl (by (try simp only [List.map_toArray, List.map_cons, List.map_nil]); first | done | rfl | (simp only [List.length_drop, List.length_take]; rfl)) ?_; (with_reducible refine (impl_inverted.calls k _ _ l0 t441 _ ?side1 ?side2 A4.out).mono ?_); (case side1 => repeat (first | exact (Kd.C_below HR0.out HB.out) | (with_reducible refine Kd.C_alloc ?_ _) | (with_reducible refine Kd.C_drewN ?_ _) | (with_reducible refine Kd.C_drew ?_))); (case side2 => exact HC0.out); rintro e w' ⟨rfl, ⟨nd, rfl⟩⟩; refine ⟨_, rfl, ?_⟩))
  go_ret2
  exact ⟨by first | rfl | (simp [errW_none, errW_some] <;> rfl) | (simp [*, errW_none, errW_some] <;> rfl), hbS HB.out⟩
 ·replace c3 := Bool.eq_false_iff.mpr c3
  subst c3
  have H1 : (some (0, false)) = some (r1, r2) := by rw [if_neg (show ¬ (false = true) by decide)] at H; exact H
  clear H
  have H := H1
  clear H1
  simp only [Option.some.injEq, Prod.mk.injEq] at H
  obtain ⟨rfl, rfl⟩ := H
  go_enter Try.func26, Try.ntmps26
  go_wp2_with (first | ((with_reducible refine gate_callee (f := 10) rfl ?_); refine goesL_ (some 5) rfl rfl Try.func10 (by kernel_rfl) rfl #[.slice A0 l0.length c0] rfl (by (try simp only [List.map_toArray, List.map_cons, List.map_nil]); first | done | rfl | (simp only [List.length_drop, List.length_take]; rfl)) ?_; (with_reducible refine (impl_IsOrder.calls _ _ l0 false _ ?side1 ?side2 A2.out).mono ?_); (case side1 => repeat (first | exact HR0.out | (with_reducible refine Kd.C_alloc ?_ _) | (with_reducible refine Kd.C_drewN ?_ _) | (with_reducible refine Kd.C_drew ?_))); (case side2 => exact HC0.out); rintro e w6 ⟨rfl, hb⟩; refine ⟨_, rfl, ?_⟩; have n0_ := am (below_step (hbS HB.out) hb); clear HB; have HB := n0_; clear n0_; (try clear hb); (try clear hb2); (try clear hk); (try clear hi)))
  go_ret2
  exact ⟨by first | rfl | (simp [errW_none, errW_some] <;> rfl) | (simp [*, errW_none, errW_some] <;> rfl), hbS HB.out⟩
end Go.Proofs.Ytclmmnphmlmnmaa.X
end
