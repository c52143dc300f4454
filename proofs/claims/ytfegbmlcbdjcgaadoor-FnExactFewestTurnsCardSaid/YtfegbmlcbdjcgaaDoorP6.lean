import Derived.Test.YtfegbmlcbdjcgaaDoorP5
import Derived.Shelf.SortM.Plain
import Derived.Shelf.SortM.SortNone
import Derived.Ground.SlgmProg
import Derived.Shelf.Strconv.Itoa3
import Derived.Ground.NamesProg
import Derived.Shelf.Strings.OnBuilder
import Derived.Shelf.Slices.Reverse
import Derived.Test.YtfegbmlcbdjcgaaDoorProg
section
-- Written by a program of this session (wip/tools/mp.py) over the kit's print of the translation.
namespace Go.Proofs.YtfegbmlcbdjcgaaDoor.X
open Go.Proofs.YtfegbmlcbdjcgaaDoor.Sq Go.RowKit Go.Proofs.YtfegbmlcbdjcgaaDoorW.PrintWords Go.Proofs.YtfegbmlcbdjcgaaDoorW.PrintLast Go.Proofs.YtfegbmlcbdjcgaaDoorW.PrintMore
attribute [local go_sem] max2_int min2_int max_two min_two max_three min_three max_four min_four   -- for this text's walks alone
set_option linter.unusedVariables false
set_option linter.unusedSimpArgs false
/-! ### spec_FewestTurns: function 4 -/
mutual
def spec_FewestTurns.j0 : Nat → List Int → Bool → Option (Int × Bool)
 | 0, _, _ => none
 | k + 1, x0, x22 => if x22 = true then (some (0, false)) else (spec_FewestTurns.l0 k x0 1 2)
def spec_FewestTurns.l0 : Nat → List Int → Int → Int → Option (Int × Bool)
 | 0, _, _, _ => none
 | k + 1, x0, x4, x5 => if x5 ≤ (x0.length : Int) then (spec_FewestTurns.l0 k x0 (wrap64 (x4 * x5)) (wrap64 (x5 + 1))) else (if 0 ≤ x4 then (if (x4 : Int).toNat ≤ 281474976710656 then ((some (List.replicate (x4 : Int).toNat false : List Bool)).bind fun y129 => ((spec_ptRank.f k x0).bind fun t132 => (if 0 ≤ t132 then (if t132 < (y129.length : Int) then (spec_FewestTurns.l1 k (y129.set (t132 : Int).toNat true) (([x0] : List (List Int))) 0) else (none)) else (none)))) else (none)) else (none))
def spec_FewestTurns.l1 : Nat → List Bool → List (List Int) → Int → Option (Int × Bool)
 | 0, _, _, _ => none
 | k + 1, x6, x7, x8 => spec_FewestTurns.l2 k x6 x8 ([] : List (List Int)) x7 (x7.length : Int) 0
def spec_FewestTurns.l2 : Nat → List Bool → Int → List (List Int) → List (List Int) → Int → Int → Option (Int × Bool)
 | 0, _, _, _, _, _, _ => none
 | k + 1, x6, x8, x9, x42, x43, x44 => if x44 < x43 then (if 0 ≤ x44 then (if x44 < (x42.length : Int) then ((spec_ptInverted.f k (rd_L1 x42 x44)).bind fun t138 => (if t138 = 0 then (some (x8, true)) else (spec_FewestTurns.l3 k x6 x8 x9 (rd_L1 x42 x44) 2 x42 x43 x44))) else (none)) else (none)) else (spec_FewestTurns.l1 k x6 x9 (wrap64 (x8 + 1)))
def spec_FewestTurns.l3 : Nat → List Bool → Int → List (List Int) → List Int → Int → List (List Int) → Int → Int → Option (Int × Bool)
 | 0, _, _, _, _, _, _, _, _ => none
 | k + 1, x6, x8, x9, x11, x12, x42, x43, x44 => if x12 ≤ (x11.length : Int) then ((spec_ptTurn.f k x11 x12).bind fun t139 => ((spec_ptRank.f k t139).bind fun t142 => (if 0 ≤ t142 then (if t142 < (x6.length : Int) then (if rdOf false x6 t142 = true then (spec_FewestTurns.l3 k x6 x8 x9 x11 (wrap64 (x12 + 1)) x42 x43 x44) else (if x9.length < 5864062014805 then (spec_FewestTurns.l3 k (x6.set (t142 : Int).toNat true) x8 (x9 ++ [t139]) x11 (wrap64 (x12 + 1)) x42 x43 x44) else (none))) else (none)) else (none)))) else (spec_FewestTurns.l2 k x6 x8 x9 x42 x43 (wrap64 (x44 + 1)))
end
def spec_FewestTurns.f (k : Nat) (l0 : List Int) : Option (Int × Bool) := (spec_ptGood.f k l0).bind fun t128 => (if t128 = true then (spec_FewestTurns.j0 k l0 (decide ((l0.length : Int) > 7))) else (spec_FewestTurns.j0 k l0 true))
set_option maxHeartbeats 8000000 in
set_option maxRecDepth 100000 in
theorem spec_FewestTurns.calls (k : Nat) (P0_ : Nat → Prop) (A0 : Option Addr) (c0 : Nat) (l0 : List Int) (r1 : Int) (r2 : Bool) (w : World) (hs0 : Kd.V (Kd.int .i64) 3 w w.heap.size (fun k_ => P0_ k_) (.slice A0 l0.length c0) l0) (h : spec_FewestTurns.f k l0 = some (r1, r2)) :
  Calls Tryd.prog 4 #[.slice A0 l0.length c0] w fun e w' => e = .returned (.tuple #[.int .i64 r1, .bool r2]) ∧ Below w.heap.size w w' := by
 have HO0 := am (show Kd.V (Kd.int .i64) 3 w w.heap.size (fun k_ => (P0_ k_ ∨ w.heap.size ≤ k_)) (.slice A0 l0.length c0) l0 from Kd.V_mono hs0 (fun k_ hk => .inl hk))
 have HB := am (Below.refl w.heap.size w)
 have H : ((spec_ptGood.f k l0).bind fun t128 => (if t128 = true then (spec_FewestTurns.j0 k l0 (decide ((l0.length : Int) > 7))) else (spec_FewestTurns.j0 k l0 true))) = some (r1, r2) := h
 clear h
 have HC2 := am H
 clear H
 go_enter Tryd.func4, Tryd.ntmps4
 go_upto_region 1 with (fail)
 go_cut [22] (fun v22 wc => ∃ (kq : Nat) (x22_1 : Bool), v22 = .bool x22_1 ∧ Aside0 (spec_FewestTurns.j0 kq l0 x22_1 = some (r1, r2)) ∧ Aside0 (kq ≤ k) ∧ Aside0 (Kd.V (Kd.int .i64) 3 wc w.heap.size (fun k_ => (P0_ k_ ∨ w.heap.size ≤ k_)) (.slice A0 l0.length c0) l0) ∧ Aside0 (Below w.heap.size w wc))
 case first =>
  have H := HC2.out
  clear HC2
  replace H := Option.bind_eq_some_iff.mp H
  obtain ⟨t128, A30, H⟩ := H
  replace H : (if t128 = true then (spec_FewestTurns.j0 k l0 (decide ((l0.length : Int) > 7))) else (spec_FewestTurns.j0 k l0 true)) = some (r1, r2) := H
  have A3 := am A30
  clear A30
  by_cases c4 : t128 = true
  ·subst c4
   have H1 : (spec_FewestTurns.j0 k l0 (decide ((l0.length : Int) > 7))) = some (r1, r2) := by rw [if_pos rfl] at H; exact H
   clear H
   have H := H1
   clear H1
   have H' := am H
   clear H
   go_wp2_with (first | ((with_reducible refine gate_callee (f := 8) rfl ?_); refine goesL_ (some 16) rfl rfl Tryd.func8 (by kernel_rfl) rfl #[.slice A0 l0.length c0] rfl (by (try simp only [List.map_toArray, List.map_cons, List.map_nil]); first | done | rfl | (simp only [List.length_drop, List.length_take]; rfl)) ?_; (with_reducible refine (spec_ptGood.calls k _ _ l0 true _ ?side1 ?side2 A3.out).mono ?_); (case side1 => repeat (first | exact (Kd.V_reads' HO0.out).2.2 | (with_reducible refine Kd.C_alloc ?_ _) | (with_reducible refine Kd.C_drewN ?_ _) | (with_reducible refine Kd.C_drew ?_))); (case side2 => exact (Kd.V_reads' HO0.out).2.1); rintro e w' ⟨rfl, ⟨nd, rfl⟩⟩; refine ⟨_, rfl, ?_⟩))
   go_meet
   case rel => exact ⟨_, (decide ((l0.length : Int) > 7)), (by first | rfl | (simp; done) | (simp [*]; done)), H', ⟨by first | omega | exact Nat.le_refl _⟩, ⟨by (with_reducible repeat (first | apply Kd.V_alloc | apply Kd.V_drewN | apply Kd.V_drew)); exact HO0.out⟩, ⟨hbS HB.out⟩⟩
  ·replace c4 := Bool.eq_false_iff.mpr c4
   subst c4
   have H1 : (spec_FewestTurns.j0 k l0 true) = some (r1, r2) := by rw [if_neg (show ¬ (false = true) by decide)] at H; exact H
   clear H
   have H := H1
   clear H1
   have H' := am H
   clear H
   go_wp2_with (first | ((with_reducible refine gate_callee (f := 8) rfl ?_); refine goesL_ (some 16) rfl rfl Tryd.func8 (by kernel_rfl) rfl #[.slice A0 l0.length c0] rfl (by (try simp only [List.map_toArray, List.map_cons, List.map_nil]); first | done | rfl | (simp only [List.length_drop, List.length_take]; rfl)) ?_; (with_reducible refine (spec_ptGood.calls k _ _ l0 false _ ?side1 ?side2 A3.out).mono ?_); (case side1 => repeat (first | exact (Kd.V_reads' HO0.out).2.2 | (with_reducible refine Kd.C_alloc ?_ _) | (with_reducible refine Kd.C_drewN ?_ _) | (with_reducible refine Kd.C_drew ?_))); (case side2 => exact (Kd.V_reads' HO0.out).2.1); rintro e w' ⟨rfl, ⟨nd, rfl⟩⟩; refine ⟨_, rfl, ?_⟩))
   go_meet
   case rel => exact ⟨_, (true), (by first | rfl | (simp; done) | (simp [*]; done)), H', ⟨by first | omega | exact Nat.le_refl _⟩, ⟨by (with_reducible repeat (first | apply Kd.V_alloc | apply Kd.V_drewN | apply Kd.V_drew)); exact HO0.out⟩, ⟨hbS HB.out⟩⟩
 case rest =>
  clear HC2
  try clear p2
  try clear c4
  obtain ⟨kq, x22_1, rfl, HA, HJ1, HO_0, HB⟩ := hcut
  cases kq with
  | zero => exact absurd HA.out (by simp [spec_FewestTurns.j0])
  | succ kj1 =>
   have H := HA.out
   clear HA
   simp only [spec_FewestTurns.j0] at H
   by_cases c5 : x22_1 = true
   ·subst c5
    have H1 : (some (0, false)) = some (r1, r2) := by rw [if_pos rfl] at H; exact H
    clear H
    have H := H1
    clear H1
    simp only [Option.some.injEq, Prod.mk.injEq] at H
    obtain ⟨rfl, rfl⟩ := H
    go_wp2
    go_ret2
    exact ⟨by first | rfl | (simp [errW_none, errW_some] <;> rfl) | (simp [*, errW_none, errW_some] <;> rfl), hbS HB.out⟩
   ·replace c5 := Bool.eq_false_iff.mpr c5
    subst c5
    have H1 : (spec_FewestTurns.l0 kj1 l0 1 2) = some (r1, r2) := by rw [if_neg (show ¬ (false = true) by decide)] at H; exact H
    clear H
    have H := H1
    clear H1
    have H' := am H
    clear H
    go_wp2
    go_loopg [4, 5] kj1 (fun kq v4 v5 w' => ∃ (x4_2 : Int) (x5_2 : Int), v4 = .int .i64 x4_2 ∧ v5 = .int .i64 x5_2 ∧ Aside0 (spec_FewestTurns.l0 kq l0 x4_2 x5_2 = some (r1, r2)) ∧ Aside0 (kq ≤ kj1) ∧ Aside0 (Kd.V (Kd.int .i64) 3 w' w.heap.size (fun k_ => (P0_ k_ ∨ w.heap.size ≤ k_)) (.slice A0 l0.length c0) l0) ∧ Aside0 (Below w.heap.size w w'))
    case atStart => exact ⟨(1), (2), (by first | rfl | (simp; done) | (simp [*]; done)), (by first | rfl | (simp; done) | (simp [*]; done)), H', ⟨Nat.le_refl _⟩, ⟨by (with_reducible repeat (first | apply Kd.V_alloc | apply Kd.V_drewN | apply Kd.V_drew)); exact HO_0.out⟩, ⟨hbS HB.out⟩⟩
    case round =>
     clear H'
     try clear p2
     try clear c4
     try clear c5
     try clear p2
     obtain ⟨x4_2, x5_2, rfl, rfl, HA, HK2, HO_0, HB⟩ := hrel
     cases gk with
     | zero => exact absurd HA.out (by simp [spec_FewestTurns.l0])
     | succ k2 =>
      have H := HA.out
      clear HA
      simp only [spec_FewestTurns.l0] at H
      by_cases c6 : x5_2 ≤ (l0.length : Int)
      ·rw [if_pos c6] at H
       have c6b0 : decide (x5_2 ≤ (l0.length : Int)) = true := decide_eq_true c6
       clear c6
       have H' := am H
       clear H
       go_wp2
       go_roundg k2
       case measure => have := HJ1.out; have := HK2.out; omega
       case rel => exact ⟨(wrap64 (x4_2 * x5_2)), (wrap64 (x5_2 + 1)), (by first | rfl | (simp; done) | (simp [*]; done)), (by first | rfl | (simp; done) | (simp [*]; done)), H', ⟨by have := HJ1.out; have := HK2.out; omega⟩, ⟨by (with_reducible repeat (first | apply Kd.V_alloc | apply Kd.V_drewN | apply Kd.V_drew)); exact HO_0.out⟩, ⟨hbS HB.out⟩⟩
      ·rw [if_neg c6] at H
       have c6b0 : decide (x5_2 ≤ (l0.length : Int)) = false := decide_eq_false c6
       clear c6
       by_cases c7 : 0 ≤ x4_2
       ·rw [if_pos c7] at H
        have c7b0 := eq_true c7
        have c7b1 : decide (0 ≤ x4_2) = true := decide_eq_true c7
        clear c7
        by_cases c8 : (x4_2 : Int).toNat ≤ 281474976710656
        ·rw [if_pos c8] at H
         have c8b0 := eq_true c8
         have c8b1 : decide ((x4_2 : Int).toNat ≤ 281474976710656) = true := decide_eq_true c8
         clear c8
         obtain ⟨y129, hy129⟩ : ∃ y_ : List Bool, y_ = (List.replicate (x4_2 : Int).toNat false) := ⟨_, rfl⟩
         replace H : ((spec_ptRank.f k2 l0).bind fun t132 => (if 0 ≤ t132 then (if t132 < (y129.length : Int) then (spec_FewestTurns.l1 k2 (y129.set (t132 : Int).toNat true) (([l0] : List (List Int))) 0) else (none)) else (none))) = some (r1, r2) := by first | (rw [hy129]; with_reducible exact H) | (have H2_ := (Option.bind_some _ _).symm.trans H; rw [hy129]; with_reducible exact H2_) | (have H2_ := (Option.bind_some _ _).symm.trans H; with_reducible exact H2_) | with_reducible exact H | (rw [hy129]; exact H) | exact H
         have Ny129 := am hy129
         clear hy129
         replace H := Option.bind_eq_some_iff.mp H
         obtain ⟨t132, A90, H⟩ := H
         replace H : (if 0 ≤ t132 then (if t132 < (y129.length : Int) then (spec_FewestTurns.l1 k2 (y129.set (t132 : Int).toNat true) (([l0] : List (List Int))) 0) else (none)) else (none)) = some (r1, r2) := H
         have A9 := am A90
         clear A90
         by_cases c10 : 0 ≤ t132
         ·rw [if_pos c10] at H
          have c10b0 : decide (0 ≤ t132) = true := decide_eq_true c10
          clear c10
          by_cases c11 : t132 < (y129.length : Int)
          ·rw [if_pos c11] at H
           have c11b0 : decide (t132 < (y129.length : Int)) = true := decide_eq_true c11
           clear c11
           obtain ⟨y133, hy133⟩ : ∃ y_ : List Bool, y_ = (y129.set (t132 : Int).toNat true) := ⟨_, rfl⟩
           replace H : (spec_FewestTurns.l1 k2 y133 (([l0] : List (List Int))) 0) = some (r1, r2) := by first | (rw [hy133]; with_reducible exact H) | (have H2_ := (Option.bind_some _ _).symm.trans H; rw [hy133]; with_reducible exact H2_) | (have H2_ := (Option.bind_some _ _).symm.trans H; with_reducible exact H2_) | with_reducible exact H | (rw [hy133]; exact H) | exact H
           have Ny133 := am hy133
           clear hy133
           obtain ⟨y134, hy134⟩ : ∃ y_ : List (List Int), y_ = (([l0] : List (List Int))) := ⟨_, rfl⟩
           replace H : (spec_FewestTurns.l1 k2 y133 y134 0) = some (r1, r2) := by first | (rw [hy134]; with_reducible exact H) | (have H2_ := (Option.bind_some _ _).symm.trans H; rw [hy134]; with_reducible exact H2_) | (have H2_ := (Option.bind_some _ _).symm.trans H; with_reducible exact H2_) | with_reducible exact H | (rw [hy134]; exact H) | exact H
           have Ny134 := am hy134
           clear hy134
           have H' := am H
           clear H
           go_wp2_with (first | ((with_reducible refine gate_dst (N := 33) rfl ?_); (try (refine gate_guard (by rfl) ?_; dsimp only)); refine Kd.R_make Kd.bool _ 4 rfl (N := 33) rfl 28 _ _ rfl x4_2 rfl rfl Tryd.underlying28 (.bool false) 1 info4 rfl (by decide) (by omega) false (ok := fun _ => True) (okp := fun _ => True) rfl (fun _ hk => hk) trivial (of_decide_eq_true (by first | (with_reducible assumption) | assumption)) (Nat.le_trans (Nat.mul_le_mul_right _ (of_decide_eq_true (by first | (with_reducible assumption) | assumption) : x4_2.toNat ≤ 281474976710656)) (by omega)) (Below.refl _ _) (Nat.le_refl _) ?_; intro v130 w13 ho14 hb hg_ hnew_; clear hg_ hnew_; (first | rw [← Ny129.out] at ho14 | (simp only [Int.reduceToNat] at ho14; rw [← Ny129.out] at ho14)); have n0_ := am (Kd.V_elder' (by (with_reducible repeat (first | apply Kd.V_alloc | apply Kd.V_drewN | apply Kd.V_drew)); exact HO_0.out) (Kd.R_base ho14) hb); have n1_ := am (Kd.R_lower (Kd.R_newM (M := fun k_ => (w.heap.size ≤ k_)) ho14 (below_size (hbS HB.out)) (fun k_ h_ => h_)) (below_size (hbS HB.out))); have n2_ := am (below_step (hbS HB.out) hb); clear HO_0; clear HB; have HO_0 := n0_; have HO131 := n1_; have HB := n2_; clear n0_ n1_ n2_; clear hb ho14) | ((with_reducible refine gate_callee (f := 9) rfl ?_); refine goesL_ (some 36) rfl rfl Tryd.func9 (by kernel_rfl) rfl #[.slice A0 l0.length c0] rfl (by (try simp only [List.map_toArray, List.map_cons, List.map_nil]); first | done | rfl | (simp only [List.length_drop, List.length_take]; rfl)) ?_; (with_reducible refine (spec_ptRank.calls k2 _ _ l0 t132 _ ?side1 ?side2 A9.out).mono ?_); (case side1 => repeat (first | exact (Kd.V_reads' HO_0.out).2.2 | (with_reducible refine Kd.C_alloc ?_ _) | (with_reducible refine Kd.C_drewN ?_ _) | (with_reducible refine Kd.C_drew ?_))); (case side2 => exact (Kd.V_reads' HO_0.out).2.1); rintro e w' ⟨rfl, ⟨nd, rfl⟩⟩; refine ⟨_, rfl, ?_⟩; (try (rw [drewN_self w13]; generalize hq_ : World.drewN w13 _ = w13; have n0_ : Aside0 (Kd.R Kd.bool 4 w13 w.heap.size (fun k_ => (w.heap.size ≤ k_)) v130 y129) := ⟨by rw [← hq_]; exact (by (with_reducible repeat (first | apply Kd.R_alloc | apply Kd.R_drewN | apply Kd.R_drew)); exact Kd.R_mono HO131.out (fun _ hk => by first | exact hk.1 | exact hk))⟩; have n1_ : Aside0 (Kd.V (Kd.int .i64) 3 w13 w.heap.size (fun k_ => (P0_ k_ ∨ w.heap.size ≤ k_) ∧ some k_ ≠ (v130 : Value).ownBlock) (.slice A0 l0.length c0) l0) := ⟨by rw [← hq_]; exact (by (with_reducible repeat (first | apply Kd.V_alloc | apply Kd.V_drewN | apply Kd.V_drew)); exact HO_0.out)⟩; have n2_ : Aside0 (Below w.heap.size w w13) := ⟨by rw [← hq_]; exact (hbS HB.out)⟩; clear HO131 HO_0 HB hq_; have HO131 := n0_; have HO_0 := n1_; have HB := n2_; clear n0_ n1_ n2_)); have p12 : 0 ≤ (t132 : Int) := of_decide_eq_true (by first | (with_reducible assumption) | assumption); have q12 : (t132 : Int) < ((y129.length : Int) : Int) := of_decide_eq_true (by first | (with_reducible assumption) | assumption); obtain ⟨go12, co12, eo12, gb12, gl12, cl12, HG12⟩ := Kd.R_form HO131.out (by omega); (first | cases eo12 | (injection eo12 with ea_ en_ ec_; (first | subst ea_ | (injection ea_ with ea_; subst ea_)); subst ec_; clear en_)); have GB12 := am gb12; have GG12 := am HG12; clear gb12 gl12 HG12; obtain ⟨hx12_0, hf12_0⟩ := Kd.R_celln false HO131.out (t132 : Int) p12 q12; replace p12 := eq_true p12; replace q12 := eq_true q12; have n_ := am (Kd.R_mono (ok' := (fun k_ => (w.heap.size ≤ k_))) HO131.out (fun k_ hk => by first | exact hk.1 | exact hk)); clear HO131; have HO131 := n_; clear n_; obtain ⟨hy15_, hz15_⟩ := Kd.R_celln false HO131.out (t132 : Int) (of_decide_eq_true (by first | (with_reducible assumption) | assumption)) (of_decide_eq_true (by first | (with_reducible assumption) | assumption)); have HP15 := Kd.R_putg HO131.out (t132 : Int) true) | ((with_reducible refine gate_store (t := 4) (p := 37) rfl ?_); refine store_event (t := 4) (p := 37) (v := ?vo_w16) (w1 := (w13.setCell ⟨go12, (t132 : Int).toNat, none⟩ (.bool true))) ?hg ?ho ?hn ?hr ?_; (case ho => rfl); (case hg => rfl); (case hn => rfl); (case hr => first | (go_simp; done) | (go_simp; rfl)); intro w16 hw; have hg : w13.grownBy w16 (some go12) := (by rw [hw]; exact HP15.2); have hp_ : Kd.R Kd.bool 4 w16 w.heap.size (fun k_ => (w.heap.size ≤ k_)) (.slice (some ⟨go12, 0, none⟩) y129.length co12) y133 := (by rw [hw, Ny133.out]; exact HP15.1); clear HP15; have n0_ := am (Kd.V_afterv (v := (.slice (some ⟨go12, 0, none⟩) y129.length co12)) (v1 := (.slice (some ⟨go12, 0, none⟩) y129.length co12)) (ok := (fun k_ => (P0_ k_ ∨ w.heap.size ≤ k_))) (by (with_reducible repeat (first | apply Kd.V_alloc | apply Kd.V_drewN | apply Kd.V_drew)); exact HO_0.out) hg (.inl rfl)); have n1_ := am (hp_); have n2_ := am ((by rw [hw]; exact below_set (HB.out) GB12.out : Below w.heap.size w w16)); clear HO_0; clear HO131; clear HB; have HO_0 := n0_; have HO131 := n1_; have HB := n2_; clear n0_ n1_ n2_; clear hg hw hp_) | ((with_reducible refine gate_dst (N := 39) rfl ?_); (try (refine gate_guard (by rfl) ?_; dsimp only)); refine Kd.N_lit (Kd.slice 3 (Kd.int .i64)) _ 22 ?hg (N' := 39) ?hd (xs := ([l0] : List (List Int))) (inner := [.slice A0 l0.length c0]) (ok := (fun k_ => (P0_ k_ ∨ w.heap.size ≤ k_) ∧ some k_ ≠ (.slice (some ⟨go12, 0, none⟩) y129.length co12 : Value).ownBlock)) (okp := (fun k_ => (P0_ k_ ∨ w.heap.size ≤ k_) ∧ some k_ ≠ (.slice (some ⟨go12, 0, none⟩) y129.length co12 : Value).ownBlock)) ?hr ?hp (fun _ hk => hk) ((show ∀ k_, w16.heap.size ≤ k_ → (fun k_ => (P0_ k_ ∨ w.heap.size ≤ k_) ∧ some k_ ≠ (.slice (some ⟨go12, 0, none⟩) y129.length co12 : Value).ownBlock) k_ from fun k_ hk => ⟨(.inr (Nat.le_trans (below_size (hbS HB.out)) hk)), Kd.fresh' (Kd.R_lt (roS HO131.out)) k_ hk⟩) _ (Nat.le_refl _)) (Below.refl _ _) (Nat.le_refl _) (by simp) ?_; (case hd => rfl); (case hg => rfl); (case hr => first | (go_simp; done) | (go_simp; rfl)); (case hp => exact (Reps.one (show Kd.FK (Kd.slice 3 (Kd.int .i64)) _ _ l0 [.slice A0 l0.length c0] from (Kd.FK_slice_mk (Kd.V_reads' (Kd.V_mono (ok' := (fun k_ => (P0_ k_ ∨ w.heap.size ≤ k_) ∧ some k_ ≠ (.slice (some ⟨go12, 0, none⟩) y129.length co12 : Value).ownBlock)) (HO_0.out) (fun k_ hk => ⟨hk.1, hk.2⟩))).2.1 (Kd.V_F (Kd.V_mono (ok' := (fun k_ => (P0_ k_ ∨ w.heap.size ≤ k_) ∧ some k_ ≠ (.slice (some ⟨go12, 0, none⟩) y129.length co12 : Value).ownBlock)) (HO_0.out) (fun k_ hk => ⟨hk.1, hk.2⟩))))) (Reps.none _ _))); intro v135 w17 ho18 hb hg_ hnew_; clear hg_ hnew_; (first | rw [← Ny134.out] at ho18 | (simp only [Int.reduceToNat] at ho18; rw [← Ny134.out] at ho18)); have n0_ := am (Kd.V_elder' (by (with_reducible repeat (first | apply Kd.V_alloc | apply Kd.V_drewN | apply Kd.V_drew)); exact HO_0.out) (by first | exact Kd.N_base ho18 | exact Kd.S_base ho18 | exact Kd.R_base ho18) hb); have n1_ := am (Kd.R_below (roS HO131.out) hb); have n2_ := am (Kd.N_lower ho18 (below_size (hbS HB.out))); have n3_ := am (below_step (hbS HB.out) hb); clear HO_0; clear HO131; clear HB; have HO_0 := n0_; have HO131 := n1_; have HO136 := n2_; have HB := n3_; clear n0_ n1_ n2_ n3_; clear hb ho18))
           go_loopg [7, 8] k2 (fun kq v7 v8 w' => ∃ (x6_3 : List Bool) (x7_3 : List (List Int)) (x8_3 : Int), v8 = .int .i64 x8_3 ∧ Aside0 (spec_FewestTurns.l1 kq x6_3 x7_3 x8_3 = some (r1, r2)) ∧ Aside0 (kq ≤ k2) ∧ Aside0 (Kd.R Kd.bool 4 w' w.heap.size (fun k_ => (w.heap.size ≤ k_)) (.slice (some ⟨go12, 0, none⟩) y129.length co12) x6_3) ∧ Aside0 (Kd.N (Kd.slice 3 (Kd.int .i64)) 22 w' w.heap.size (fun k_ => (P0_ k_ ∨ w.heap.size ≤ k_) ∧ some k_ ≠ ((.slice (some ⟨go12, 0, none⟩) y129.length co12) : Value).ownBlock) v7 x7_3) ∧ Aside0 (Below w.heap.size w w'))
           case atStart => exact ⟨(y133), (y134), (0), (by first | rfl | (simp; done) | (simp [*]; done)), H', ⟨Nat.le_refl _⟩, ⟨roS HO131.out⟩, ⟨by (with_reducible repeat (first | apply Kd.N_alloc | apply Kd.N_drewN | apply Kd.N_drew)); exact HO136.out⟩, ⟨hbS HB.out⟩⟩
           case round =>
            clear H'
            try clear c1
            try clear p1
            try clear q1
            try clear hx1
            try clear hf1
            try clear p2
            try clear c4
            try clear c5
            try clear c6
            try clear c6b0
            try clear p6
            try clear c7
            try clear c7b0
            try clear c7b1
            try clear c8
            try clear c8b0
            try clear c8b1
            try clear c9
            try clear c10
            try clear c10b0
            try clear c11
            try clear c11b0
            try clear p12
            try clear q12
            try clear hx12
            try clear hf12
            try clear hx12_0
            try clear p12
            try clear p2
            try clear q12
            obtain ⟨x6_3, x7_3, x8_3, rfl, HA, HK3, HO_6, HO_7, HB⟩ := hrel
            have hl6_3 := (Kd.R_reads' HO_6.out).1
            rw [hl6_3] at HO_6
            (try simp only [hl6_3])
            (try simp only [hl6_3] at HO_7)
            cases gk with
            | zero => exact absurd HA.out (by simp [spec_FewestTurns.l1])
            | succ k3 =>
             have H := HA.out
             clear HA
             simp only [spec_FewestTurns.l1] at H
             have H' := am H
             clear H
             obtain ⟨Ao19, co19, eo19⟩ := Kd.N_slice HO_7.out
             subst eo19
             go_wp2
             go_loopg [9, 44] k3 (fun kq v9 v44 w' => ∃ (x6_4 : List Bool) (x9_4 : List (List Int)) (x44_4 : Int), v44 = .int .i64 x44_4 ∧ Aside0 (spec_FewestTurns.l2 kq x6_4 x8_3 x9_4 x7_3 (x7_3.length : Int) x44_4 = some (r1, r2)) ∧ Aside0 (kq ≤ k3) ∧ Aside0 (Kd.R Kd.bool 4 w' w.heap.size (fun k_ => (w.heap.size ≤ k_)) (.slice (some ⟨go12, 0, none⟩) x6_3.length co12) x6_4) ∧ Aside0 (Kd.N (Kd.slice 3 (Kd.int .i64)) 22 w' w.heap.size (fun k_ => (P0_ k_ ∨ w.heap.size ≤ k_) ∧ some k_ ≠ ((.slice (some ⟨go12, 0, none⟩) x6_3.length co12) : Value).ownBlock ∧ some k_ ≠ ((.slice Ao19 x7_3.length co19) : Value).ownBlock) v9 x9_4) ∧ Aside0 (Kd.N (Kd.slice 3 (Kd.int .i64)) 22 w' w.heap.size (fun k_ => (P0_ k_ ∨ w.heap.size ≤ k_) ∧ some k_ ≠ ((.slice (some ⟨go12, 0, none⟩) x6_3.length co12) : Value).ownBlock ∧ some k_ ≠ (v9 : Value).ownBlock) (.slice Ao19 x7_3.length co19) x7_3) ∧ Aside0 (Below w.heap.size w w'))
             case atStart => exact ⟨(x6_3), (([] : List (List Int))), (0), (by first | rfl | (simp; done) | (simp [*]; done)), H', ⟨Nat.le_refl _⟩, ⟨by (try simp only [hl6_3]); (with_reducible repeat (first | apply Kd.R_alloc | apply Kd.R_drewN | apply Kd.R_drew)); exact HO_6.out⟩, ⟨by (try simp only [hl6_3]); first | exact Kd.S_nil _ _ _ _ _ | exact Kd.N_nil _ _ _ _ _ | exact Kd.V_nil _ _ _ _ _ | exact Kd.Q_nil _ _ _ _ _ | exact Kd.R_nil _ _ _ _ _⟩, ⟨by (try simp only [hl6_3]); (with_reducible repeat (first | apply Kd.N_alloc | apply Kd.N_drewN | apply Kd.N_drew)); exact Kd.N_mono HO_7.out (fun _ hk => ⟨hk.1, ⟨hk.2, (by simp [Value.ownBlock])⟩⟩)⟩, ⟨hbS HB.out⟩⟩
             case round =>
              clear H'
              try clear c1
              try clear p1
              try clear q1
              try clear hx1
              try clear hf1
              try clear p2
              try clear c4
              try clear c5
              try clear c6
              try clear c6b0
              try clear p6
              try clear c7
              try clear c7b0
              try clear c7b1
              try clear c8
              try clear c8b0
              try clear c8b1
              try clear c9
              try clear c10
              try clear c10b0
              try clear c11
              try clear c11b0
              try clear p12
              try clear q12
              try clear hx12
              try clear hf12
              try clear hx12_0
              try clear p1
              try clear p12
              try clear p2
              try clear p6
              try clear q1
              try clear q12
              obtain ⟨x6_4, x9_4, x44_4, rfl, HA, HK4, HO_6, HO_9, HO_42, HB⟩ := hrel
              have hl6_4 := (Kd.R_reads' HO_6.out).1
              rw [hl6_4] at HO_6
              (try simp only [hl6_4])
              (try simp only [hl6_4] at HO_9)
              (try simp only [hl6_4] at HO_42)
              cases gk with
              | zero => exact absurd HA.out (by simp [spec_FewestTurns.l2])
              | succ k4 =>
               have H := HA.out
               clear HA
               simp only [spec_FewestTurns.l2] at H
               by_cases c20 : x44_4 < (x7_3.length : Int)
               ·rw [if_pos c20] at H
                have c20b0 : decide (x44_4 < (x7_3.length : Int)) = true := decide_eq_true c20
                clear c20
                by_cases c21 : 0 ≤ x44_4
                ·rw [if_pos c21] at H
                 have c21b0 : decide (0 ≤ x44_4) = true := decide_eq_true c21
                 clear c21
                 by_cases c22 : x44_4 < (x7_3.length : Int)
                 ·rw [if_pos c22] at H
                  have c22b0 : decide (x44_4 < (x7_3.length : Int)) = true := decide_eq_true c22
                  clear c22
                  replace H := Option.bind_eq_some_iff.mp H
                  obtain ⟨t138, A230, H⟩ := H
                  replace H : (if t138 = 0 then (some (x8_3, true)) else (spec_FewestTurns.l3 k4 x6_4 x8_3 x9_4 (rd_L1 x7_3 x44_4) 2 x7_3 (x7_3.length : Int) x44_4)) = some (r1, r2) := H
                  have A23 := am A230
                  clear A230
                  by_cases c24 : t138 = 0
                  ·rw [if_pos c24] at H
                   have c24b0 : (t138 == 0) = true := beq_iff_eq.mpr c24
                   have c24b1 : (t138 != 0) = false := bne_eq_false_iff_eq.mpr c24
                   clear c24
                   simp only [Option.some.injEq, Prod.mk.injEq] at H
                   obtain ⟨rfl, rfl⟩ := H
                   have p137 : 0 ≤ (x44_4 : Int) := of_decide_eq_true (by first | (with_reducible assumption) | assumption)
                   have q137 : x44_4 < (x7_3.length : Int) := of_decide_eq_true (by first | (with_reducible assumption) | assumption)
                   obtain ⟨ad137, A137_0, c137_0, e137, hx137_0, hl137_0, hi137_0⟩ := at_L1 (Kd.N_reads' HO_42.out).2.2 x44_4 p137 q137
                   cases e137
                   obtain ⟨ce137, hce137, hMe137, hcc137⟩ := Kd.N_get HO_42.out [] x44_4 p137 (by first | exact q137 | exact of_decide_eq_true (by first | (with_reducible assumption) | assumption) | (have e_ := (Kd.N_reads' HO_42.out).1; omega))
                   obtain ⟨ua137_0, uc137_0, rfl, ul137_0, ge137_0⟩ := Kd.FK_slice_open hMe137
                   have hv137_0 := hcc137 0 _ rfl
                   rw [Nat.add_zero, show ((Kd.slice 3 (Kd.int .i64))).sz = 1 from rfl, Nat.mul_one] at hv137_0
                   replace hv137_0 := Option.some.inj (hv137_0.symm.trans hx137_0)
                   injection hv137_0 with hva_ hvn_ hvc_
                   rw [hva_] at ge137_0
                   rw [hvc_] at ul137_0
                   have HL137_0 := am (show Kd.V (Kd.int .i64) 3 _ w.heap.size _ _ (rd_L1 x7_3 x44_4) from Kd.V_mk ul137_0 ge137_0)
                   clear hva_ hvn_ hvc_ ge137_0 ul137_0
                   clear hcc137 hce137
                   have HR137_0 := am hi137_0
                   have HC137_0 := am hl137_0
                   clear hi137_0 hl137_0
                   replace p137 := eq_true p137
                   replace q137 := eq_true q137
                   go_wp2_with (first | ((with_reducible refine gate_callee (f := 10) rfl ?_); refine goesL_ (some 49) rfl rfl Tryd.func10 (by kernel_rfl) rfl #[.slice A137_0 (rd_L1 x7_3 x44_4).length c137_0] rfl (by (try simp only [List.map_toArray, List.map_cons, List.map_nil]); first | done | rfl | (simp only [List.length_drop, List.length_take]; rfl)) ?_; (with_reducible refine (spec_ptInverted.calls k4 _ _ (rd_L1 x7_3 x44_4) t138 _ ?side1 ?side2 A23.out).mono ?_); (case side1 => repeat (first | exact (by repeat (first | (with_reducible exact HR137_0.out) | (with_reducible refine Kd.C_alloc ?_ _) | (with_reducible refine Kd.C_drewN ?_ _) | (with_reducible refine Kd.C_drew ?_) | exact HR137_0.out)) | (with_reducible refine Kd.C_alloc ?_ _) | (with_reducible refine Kd.C_drewN ?_ _) | (with_reducible refine Kd.C_drew ?_))); (case side2 => exact HC137_0.out); rintro e w' ⟨rfl, ⟨nd, rfl⟩⟩; refine ⟨_, rfl, ?_⟩))
                   go_ret2
                   exact ⟨by first | rfl | (simp [errW_none, errW_some] <;> rfl) | (simp [*, errW_none, errW_some] <;> rfl), hbS HB.out⟩
                  ·rw [if_neg c24] at H
                   have c24b0 : (t138 == 0) = false := beq_eq_false_iff_ne.mpr c24
                   have c24b1 : (t138 != 0) = true := bne_iff_ne.mpr c24
                   have H' := am H
                   clear H
                   have p137 : 0 ≤ (x44_4 : Int) := of_decide_eq_true (by first | (with_reducible assumption) | assumption)
                   have q137 : x44_4 < (x7_3.length : Int) := of_decide_eq_true (by first | (with_reducible assumption) | assumption)
                   obtain ⟨ad137, A137_0, c137_0, e137, hx137_0, hl137_0, hi137_0⟩ := at_L1 (Kd.N_reads' HO_42.out).2.2 x44_4 p137 q137
                   cases e137
                   obtain ⟨ce137, hce137, hMe137, hcc137⟩ := Kd.N_get HO_42.out [] x44_4 p137 (by first | exact q137 | exact of_decide_eq_true (by first | (with_reducible assumption) | assumption) | (have e_ := (Kd.N_reads' HO_42.out).1; omega))
                   obtain ⟨ua137_0, uc137_0, rfl, ul137_0, ge137_0⟩ := Kd.FK_slice_open hMe137
                   have hv137_0 := hcc137 0 _ rfl
                   rw [Nat.add_zero, show ((Kd.slice 3 (Kd.int .i64))).sz = 1 from rfl, Nat.mul_one] at hv137_0
                   replace hv137_0 := Option.some.inj (hv137_0.symm.trans hx137_0)
                   injection hv137_0 with hva_ hvn_ hvc_
                   rw [hva_] at ge137_0
                   rw [hvc_] at ul137_0
                   have HL137_0 := am (show Kd.V (Kd.int .i64) 3 _ w.heap.size _ _ (rd_L1 x7_3 x44_4) from Kd.V_mk ul137_0 ge137_0)
                   clear hva_ hvn_ hvc_ ge137_0 ul137_0
                   clear hcc137 hce137
                   have HR137_0 := am hi137_0
                   have HC137_0 := am hl137_0
                   clear hi137_0 hl137_0
                   replace p137 := eq_true p137
                   replace q137 := eq_true q137
                   go_wp2_with (first | ((with_reducible refine gate_callee (f := 10) rfl ?_); refine goesL_ (some 49) rfl rfl Tryd.func10 (by kernel_rfl) rfl #[.slice A137_0 (rd_L1 x7_3 x44_4).length c137_0] rfl (by (try simp only [List.map_toArray, List.map_cons, List.map_nil]); first | done | rfl | (simp only [List.length_drop, List.length_take]; rfl)) ?_; (with_reducible refine (spec_ptInverted.calls k4 _ _ (rd_L1 x7_3 x44_4) t138 _ ?side1 ?side2 A23.out).mono ?_); (case side1 => repeat (first | exact (by repeat (first | (with_reducible exact HR137_0.out) | (with_reducible refine Kd.C_alloc ?_ _) | (with_reducible refine Kd.C_drewN ?_ _) | (with_reducible refine Kd.C_drew ?_) | exact HR137_0.out)) | (with_reducible refine Kd.C_alloc ?_ _) | (with_reducible refine Kd.C_drewN ?_ _) | (with_reducible refine Kd.C_drew ?_))); (case side2 => exact HC137_0.out); rintro e w' ⟨rfl, ⟨nd, rfl⟩⟩; refine ⟨_, rfl, ?_⟩))
                   go_loopg [9, 12] k4 (fun kq v9 v12 w' => ∃ (x6_5 : List Bool) (x9_5 : List (List Int)) (x12_5 : Int), v12 = .int .i64 x12_5 ∧ Aside0 (spec_FewestTurns.l3 kq x6_5 x8_3 x9_5 (rd_L1 x7_3 x44_4) x12_5 x7_3 (x7_3.length : Int) x44_4 = some (r1, r2)) ∧ Aside0 (kq ≤ k4) ∧ Aside0 (Kd.R Kd.bool 4 w' w.heap.size (fun k_ => (w.heap.size ≤ k_)) (.slice (some ⟨go12, 0, none⟩) x6_4.length co12) x6_5) ∧ Aside0 (Kd.N (Kd.slice 3 (Kd.int .i64)) 22 w' w.heap.size (fun k_ => (P0_ k_ ∨ w.heap.size ≤ k_) ∧ some k_ ≠ ((.slice (some ⟨go12, 0, none⟩) x6_4.length co12) : Value).ownBlock ∧ some k_ ≠ ((.slice (some ad137) x7_3.length co19) : Value).ownBlock) v9 x9_5) ∧ Aside0 (Kd.N (Kd.slice 3 (Kd.int .i64)) 22 w' w.heap.size (fun k_ => (P0_ k_ ∨ w.heap.size ≤ k_) ∧ some k_ ≠ ((.slice (some ⟨go12, 0, none⟩) x6_4.length co12) : Value).ownBlock ∧ some k_ ≠ (v9 : Value).ownBlock) (.slice (some ad137) x7_3.length co19) x7_3) ∧ Aside0 (Kd.V (Kd.int .i64) 3 w' w.heap.size (fun k_ => (P0_ k_ ∨ w.heap.size ≤ k_) ∧ some k_ ≠ ((.slice (some ⟨go12, 0, none⟩) x6_4.length co12) : Value).ownBlock ∧ some k_ ≠ (v9 : Value).ownBlock) (.slice A137_0 (rd_L1 x7_3 x44_4).length c137_0) (rd_L1 x7_3 x44_4)) ∧ Aside0 (Below w.heap.size w w'))
                   case atStart => exact ⟨(x6_4), (x9_4), (2), (by first | rfl | (simp; done) | (simp [*]; done)), H', ⟨Nat.le_refl _⟩, ⟨by (try simp only [hl6_3]); (try simp only [hl6_4]); (with_reducible repeat (first | apply Kd.R_alloc | apply Kd.R_drewN | apply Kd.R_drew)); exact HO_6.out⟩, ⟨by (try simp only [hl6_3]); (try simp only [hl6_4]); (with_reducible repeat (first | apply Kd.N_alloc | apply Kd.N_drewN | apply Kd.N_drew)); exact HO_9.out⟩, ⟨by (try simp only [hl6_3]); (try simp only [hl6_4]); (with_reducible repeat (first | apply Kd.N_alloc | apply Kd.N_drewN | apply Kd.N_drew)); exact HO_42.out⟩, ⟨by (try simp only [hl6_3]); (try simp only [hl6_4]); (with_reducible repeat (first | apply Kd.V_alloc | apply Kd.V_drewN | apply Kd.V_drew)); exact Kd.V_mono HL137_0.out (fun _ hk => hk.1)⟩, ⟨hbS HB.out⟩⟩
                   case round =>
                    clear H'
                    try clear c1
                    try clear p1
                    try clear q1
                    try clear hx1
                    try clear hf1
                    try clear c2
                    try clear p2
                    try clear c4
                    try clear c5
                    try clear c6
                    try clear c6b0
                    try clear p6
                    try clear c7
                    try clear c7b0
                    try clear c7b1
                    try clear c8
                    try clear c8b0
                    try clear c8b1
                    try clear c9
                    try clear c10
                    try clear c10b0
                    try clear c11
                    try clear c11b0
                    try clear p12
                    try clear q12
                    try clear hx12
                    try clear hf12
                    try clear c13
                    try clear p13
                    try clear q13
                    try clear hx13
                    try clear c20
                    try clear c20b0
                    try clear c21
                    try clear c21b0
                    try clear c22
                    try clear c22b0
                    try clear c24
                    try clear c24b0
                    try clear c24b1
                    try clear hx12_0
                    try clear hx137_0
                    try clear p1
                    try clear p12
                    try clear p137
                    try clear p2
                    try clear p6
                    try clear q1
                    try clear q12
                    try clear q137
                    obtain ⟨x6_5, x9_5, x12_5, rfl, HA, HK5, HO_6, HO_9, HO_42, HVN, HB⟩ := hrel
                    have hl6_5 := (Kd.R_reads' HO_6.out).1
                    rw [hl6_5] at HO_6
                    (try simp only [hl6_5])
                    (try simp only [hl6_5] at HO_9)
                    (try simp only [hl6_5] at HO_42)
                    (try simp only [hl6_5] at HVN)
                    cases gk with
                    | zero => exact absurd HA.out (by simp [spec_FewestTurns.l3])
                    | succ k5 =>
                     have H := HA.out
                     clear HA
                     simp only [spec_FewestTurns.l3] at H
                     by_cases c25 : x12_5 ≤ ((rd_L1 x7_3 x44_4).length : Int)
                     ·rw [if_pos c25] at H
                      have c25b0 : decide (x12_5 ≤ ((rd_L1 x7_3 x44_4).length : Int)) = true := decide_eq_true c25
                      clear c25
                      replace H := Option.bind_eq_some_iff.mp H
                      obtain ⟨t139, A260, H⟩ := H
                      replace H : ((spec_ptRank.f k5 t139).bind fun t142 => (if 0 ≤ t142 then (if t142 < (x6_5.length : Int) then (if rdOf false x6_5 t142 = true then (spec_FewestTurns.l3 k5 x6_5 x8_3 x9_5 (rd_L1 x7_3 x44_4) (wrap64 (x12_5 + 1)) x7_3 (x7_3.length : Int) x44_4) else (if x9_5.length < 5864062014805 then (spec_FewestTurns.l3 k5 (x6_5.set (t142 : Int).toNat true) x8_3 (x9_5 ++ [t139]) (rd_L1 x7_3 x44_4) (wrap64 (x12_5 + 1)) x7_3 (x7_3.length : Int) x44_4) else (none))) else (none)) else (none))) = some (r1, r2) := H
                      have A26 := am A260
                      clear A260
                      replace H := Option.bind_eq_some_iff.mp H
                      obtain ⟨t142, A270, H⟩ := H
                      replace H : (if 0 ≤ t142 then (if t142 < (x6_5.length : Int) then (if rdOf false x6_5 t142 = true then (spec_FewestTurns.l3 k5 x6_5 x8_3 x9_5 (rd_L1 x7_3 x44_4) (wrap64 (x12_5 + 1)) x7_3 (x7_3.length : Int) x44_4) else (if x9_5.length < 5864062014805 then (spec_FewestTurns.l3 k5 (x6_5.set (t142 : Int).toNat true) x8_3 (x9_5 ++ [t139]) (rd_L1 x7_3 x44_4) (wrap64 (x12_5 + 1)) x7_3 (x7_3.length : Int) x44_4) else (none))) else (none)) else (none)) = some (r1, r2) := H
                      have A27 := am A270
                      clear A270
                      by_cases c28 : 0 ≤ t142
                      ·rw [if_pos c28] at H
                       have c28b0 : decide (0 ≤ t142) = true := decide_eq_true c28
                       clear c28
                       by_cases c29 : t142 < (x6_5.length : Int)
                       ·rw [if_pos c29] at H
                        have c29b0 : decide (t142 < (x6_5.length : Int)) = true := decide_eq_true c29
                        clear c29
                        obtain ⟨bq30, hbq30⟩ : ∃ b_ : Bool, b_ = (rdOf false x6_5 t142) := ⟨_, rfl⟩
                        replace H : (if bq30 = true then (spec_FewestTurns.l3 k5 x6_5 x8_3 x9_5 (rd_L1 x7_3 x44_4) (wrap64 (x12_5 + 1)) x7_3 (x7_3.length : Int) x44_4) else (if x9_5.length < 5864062014805 then (spec_FewestTurns.l3 k5 (x6_5.set (t142 : Int).toNat true) x8_3 (x9_5 ++ [t139]) (rd_L1 x7_3 x44_4) (wrap64 (x12_5 + 1)) x7_3 (x7_3.length : Int) x44_4) else (none))) = some (r1, r2) := by rw [← hbq30] at H; exact H
                        have Nbq30 := am hbq30
                        clear hbq30
                        by_cases c31 : bq30 = true
                        ·subst c31
                         have H1 : (spec_FewestTurns.l3 k5 x6_5 x8_3 x9_5 (rd_L1 x7_3 x44_4) (wrap64 (x12_5 + 1)) x7_3 (x7_3.length : Int) x44_4) = some (r1, r2) := by rw [if_pos rfl] at H; exact H
                         clear H
                         have H := H1
                         clear H1
                         have H' := am H
                         clear H
                         go_wp2_with (first | ((with_reducible refine gate_callee (f := 11) rfl ?_); refine goesL_ (some 60) rfl rfl Tryd.func11 (by kernel_rfl) rfl #[.slice A137_0 (rd_L1 x7_3 x44_4).length c137_0, .int .i64 x12_5] rfl (by (try simp only [List.map_toArray, List.map_cons, List.map_nil]); first | done | rfl | (simp only [List.length_drop, List.length_take]; rfl)) ?_; (with_reducible refine (spec_ptTurn.calls k5 _ _ (rd_L1 x7_3 x44_4) x12_5 t139 _ ?side1 ?side2 A26.out).mono ?_); (case side1 => repeat (first | exact (Kd.V_reads' HVN.out).2.2 | (with_reducible refine Kd.C_alloc ?_ _) | (with_reducible refine Kd.C_drewN ?_ _) | (with_reducible refine Kd.C_drew ?_))); (case side2 => exact HC137_0.out); rintro e w32 ⟨v140, rfl, ho0, hb⟩; refine ⟨_, rfl, ?_⟩; have n0_ := am (Kd.R_below (roS HO_6.out) hb); have n1_ := am (Kd.N_elder' (by (with_reducible repeat (first | apply Kd.N_alloc | apply Kd.N_drewN | apply Kd.N_drew)); exact HO_9.out) (Kd.R_base ho0) hb); have n2_ := am (Kd.N_elder' (by (with_reducible repeat (first | apply Kd.N_alloc | apply Kd.N_drewN | apply Kd.N_drew)); exact HO_42.out) (Kd.R_base ho0) hb); replace HVN := am (Kd.V_elder' (by (with_reducible repeat (first | apply Kd.V_alloc | apply Kd.V_drewN | apply Kd.V_drew)); exact HVN.out) (Kd.R_base ho0) hb); have n3_ := am (Kd.R_lower (Kd.R_newM (M := fun k_ => (w.heap.size ≤ k_)) ho0 (below_size (hbS HB.out)) (fun k_ h_ => h_)) (below_size (hbS HB.out))); have n4_ := am (below_step (hbS HB.out) hb); clear HO_6; clear HO_9; clear HO_42; clear HB; have HO_6 := n0_; have HO_9 := n1_; have HO_42 := n2_; have HO141 := n3_; have HB := n4_; clear n0_ n1_ n2_ n3_ n4_; (try clear hb); (try clear hb2); (try clear hk); (try clear hi); (try clear ho0); obtain ⟨Ao33, co33, eo33⟩ := Kd.R_slice HO141.out; subst eo33) | ((with_reducible refine gate_callee (f := 9) rfl ?_); refine goesL_ (some 62) rfl rfl Tryd.func9 (by kernel_rfl) rfl #[.slice Ao33 t139.length co33] rfl (by (try simp only [List.map_toArray, List.map_cons, List.map_nil]); first | done | rfl | (simp only [List.length_drop, List.length_take]; rfl)) ?_; (with_reducible refine (spec_ptRank.calls k5 _ _ t139 t142 _ ?side1 ?side2 A27.out).mono ?_); (case side1 => repeat (first | exact (Kd.R_reads' HO141.out).2.2 | (with_reducible refine Kd.C_alloc ?_ _) | (with_reducible refine Kd.C_drewN ?_ _) | (with_reducible refine Kd.C_drew ?_))); (case side2 => exact (Kd.R_reads' HO141.out).2.1); rintro e w' ⟨rfl, ⟨nd, rfl⟩⟩; refine ⟨_, rfl, ?_⟩; have p143 : 0 ≤ (t142 : Int) := of_decide_eq_true (by first | (with_reducible assumption) | assumption); have q143 : t142 < (x6_5.length : Int) := of_decide_eq_true (by first | (with_reducible assumption) | assumption); obtain ⟨ad143, e143, hx143_0⟩ := Kd.at_bool (Kd.R_reads' HO_6.out).2.2 t142 p143 q143; (try rw [← Nbq30.out] at hx143_0); obtain rfl : (⟨go12, 0, none⟩ : Addr) = ad143 := (by injection e143); (first | simp only [add_plain] at hx143_0 | simp only [add_at] at hx143_0 | simp only [Addr.add, Nat.zero_add] at hx143_0 | skip); replace p143 := eq_true p143; replace q143 := eq_true q143))
                         (try simp only [← hl6_5])
                         go_roundg k5
                         case measure => have := HJ1.out; have := HK2.out; have := HK3.out; have := HK4.out; have := HK5.out; omega
                         case rel => exact ⟨(x6_5), (x9_5), (wrap64 (x12_5 + 1)), (by first | rfl | (simp; done) | (simp [*]; done)), H', ⟨by have := HJ1.out; have := HK2.out; have := HK3.out; have := HK4.out; have := HK5.out; omega⟩, ⟨by (try simp only [hl6_3]); (try simp only [hl6_4]); (try simp only [hl6_5]); (with_reducible repeat (first | apply Kd.R_alloc | apply Kd.R_drewN | apply Kd.R_drew)); exact HO_6.out⟩, ⟨by (try simp only [hl6_3]); (try simp only [hl6_4]); (try simp only [hl6_5]); (with_reducible repeat (first | apply Kd.N_alloc | apply Kd.N_drewN | apply Kd.N_drew)); exact Kd.N_mono HO_9.out (fun _ hk => by repeat' (first | (with_reducible exact hk.1) | (with_reducible exact hk.2) | (with_reducible exact hk.1.1) | (with_reducible exact hk.1.2) | (with_reducible exact hk.1.2.1) | (with_reducible exact hk.1.2.2) | (with_reducible exact hk.2.1) | (with_reducible exact hk.2.2) | (with_reducible exact hk.2.2.1) | (with_reducible exact hk.2.2.2) | (with_reducible exact hk.1.1.1) | (with_reducible exact hk.1.1.2) | (with_reducible exact hk.2.2.2.1) | (with_reducible exact hk.2.2.2.2) | (with_reducible refine And.intro ?_ ?_)))⟩, ⟨by (try simp only [hl6_3]); (try simp only [hl6_4]); (try simp only [hl6_5]); (with_reducible repeat (first | apply Kd.N_alloc | apply Kd.N_drewN | apply Kd.N_drew)); exact Kd.N_mono HO_42.out (fun _ hk => by repeat' (first | (with_reducible exact hk.1) | (with_reducible exact hk.2) | (with_reducible exact hk.1.1) | (with_reducible exact hk.1.2) | (with_reducible exact hk.1.2.1) | (with_reducible exact hk.1.2.2) | (with_reducible exact hk.2.1) | (with_reducible exact hk.2.2) | (with_reducible exact hk.2.2.1) | (with_reducible exact hk.2.2.2) | (with_reducible exact hk.1.1.1) | (with_reducible exact hk.1.1.2) | (with_reducible exact hk.2.2.2.1) | (with_reducible exact hk.2.2.2.2) | (with_reducible refine And.intro ?_ ?_)))⟩, ⟨by (try simp only [hl6_3]); (try simp only [hl6_4]); (try simp only [hl6_5]); (with_reducible repeat (first | apply Kd.V_alloc | apply Kd.V_drewN | apply Kd.V_drew)); exact Kd.V_mono HVN.out (fun _ hk => by repeat' (first | (with_reducible exact hk.1) | (with_reducible exact hk.2) | (with_reducible exact hk.1.1) | (with_reducible exact hk.1.2) | (with_reducible exact hk.1.2.1) | (with_reducible exact hk.1.2.2) | (with_reducible exact hk.2.1) | (with_reducible exact hk.2.2) | (with_reducible exact hk.2.2.1) | (with_reducible exact hk.2.2.2) | (with_reducible exact hk.1.1.1) | (with_reducible exact hk.1.1.2) | (with_reducible exact hk.2.2.2.1) | (with_reducible exact hk.2.2.2.2) | (with_reducible refine And.intro ?_ ?_)))⟩, ⟨hbS HB.out⟩⟩
                        ·replace c31 := Bool.eq_false_iff.mpr c31
                         subst c31
                         have H1 : (if x9_5.length < 5864062014805 then (spec_FewestTurns.l3 k5 (x6_5.set (t142 : Int).toNat true) x8_3 (x9_5 ++ [t139]) (rd_L1 x7_3 x44_4) (wrap64 (x12_5 + 1)) x7_3 (x7_3.length : Int) x44_4) else (none)) = some (r1, r2) := by rw [if_neg (show ¬ (false = true) by decide)] at H; exact H
                         clear H
                         have H := H1
                         clear H1
                         obtain ⟨y144, hy144⟩ : ∃ y_ : List Bool, y_ = (x6_5.set (t142 : Int).toNat true) := ⟨_, rfl⟩
                         replace H : (if x9_5.length < 5864062014805 then (spec_FewestTurns.l3 k5 y144 x8_3 (x9_5 ++ [t139]) (rd_L1 x7_3 x44_4) (wrap64 (x12_5 + 1)) x7_3 (x7_3.length : Int) x44_4) else (none)) = some (r1, r2) := by first | (rw [hy144]; with_reducible exact H) | (have H2_ := (Option.bind_some _ _).symm.trans H; rw [hy144]; with_reducible exact H2_) | (have H2_ := (Option.bind_some _ _).symm.trans H; with_reducible exact H2_) | with_reducible exact H | (rw [hy144]; exact H) | exact H
                         have Ny144 := am hy144
                         clear hy144
                         by_cases c35 : x9_5.length < 5864062014805
                         ·rw [if_pos c35] at H
                          have LMc35 := am c35
                          clear c35
                          obtain ⟨y145, hy145⟩ : ∃ y_ : List (List Int), y_ = (x9_5 ++ [t139]) := ⟨_, rfl⟩
                          replace H : (spec_FewestTurns.l3 k5 y144 x8_3 y145 (rd_L1 x7_3 x44_4) (wrap64 (x12_5 + 1)) x7_3 (x7_3.length : Int) x44_4) = some (r1, r2) := by first | (rw [hy145]; with_reducible exact H) | (have H2_ := (Option.bind_some _ _).symm.trans H; rw [hy145]; with_reducible exact H2_) | (have H2_ := (Option.bind_some _ _).symm.trans H; with_reducible exact H2_) | with_reducible exact H | (rw [hy145]; exact H) | exact H
                          have Ny145 := am hy145
                          clear hy145
                          have H' := am H
                          clear H
                          go_wp2_with (first | ((with_reducible refine gate_callee (f := 11) rfl ?_); refine goesL_ (some 60) rfl rfl Tryd.func11 (by kernel_rfl) rfl #[.slice A137_0 (rd_L1 x7_3 x44_4).length c137_0, .int .i64 x12_5] rfl (by (try simp only [List.map_toArray, List.map_cons, List.map_nil]); first | done | rfl | (simp only [List.length_drop, List.length_take]; rfl)) ?_; (with_reducible refine (spec_ptTurn.calls k5 _ _ (rd_L1 x7_3 x44_4) x12_5 t139 _ ?side1 ?side2 A26.out).mono ?_); (case side1 => repeat (first | exact (Kd.V_reads' HVN.out).2.2 | (with_reducible refine Kd.C_alloc ?_ _) | (with_reducible refine Kd.C_drewN ?_ _) | (with_reducible refine Kd.C_drew ?_))); (case side2 => exact HC137_0.out); rintro e w36 ⟨v140, rfl, ho0, hb⟩; refine ⟨_, rfl, ?_⟩; have n0_ := am (Kd.R_below (roS HO_6.out) hb); have n1_ := am (Kd.N_elder' (by (with_reducible repeat (first | apply Kd.N_alloc | apply Kd.N_drewN | apply Kd.N_drew)); exact HO_9.out) (Kd.R_base ho0) hb); have n2_ := am (Kd.N_elder' (by (with_reducible repeat (first | apply Kd.N_alloc | apply Kd.N_drewN | apply Kd.N_drew)); exact HO_42.out) (Kd.R_base ho0) hb); replace HVN := am (Kd.V_elder' (by (with_reducible repeat (first | apply Kd.V_alloc | apply Kd.V_drewN | apply Kd.V_drew)); exact HVN.out) (Kd.R_base ho0) hb); have n3_ := am (Kd.R_lower (Kd.R_newM (M := fun k_ => (w.heap.size ≤ k_)) ho0 (below_size (hbS HB.out)) (fun k_ h_ => h_)) (below_size (hbS HB.out))); have n4_ := am (below_step (hbS HB.out) hb); clear HO_6; clear HO_9; clear HO_42; clear HB; have HO_6 := n0_; have HO_9 := n1_; have HO_42 := n2_; have HO141 := n3_; have HB := n4_; clear n0_ n1_ n2_ n3_ n4_; (try clear hb); (try clear hb2); (try clear hk); (try clear hi); (try clear ho0); obtain ⟨Ao37, co37, eo37⟩ := Kd.R_slice HO141.out; subst eo37) | ((with_reducible refine gate_callee (f := 9) rfl ?_); refine goesL_ (some 62) rfl rfl Tryd.func9 (by kernel_rfl) rfl #[.slice Ao37 t139.length co37] rfl (by (try simp only [List.map_toArray, List.map_cons, List.map_nil]); first | done | rfl | (simp only [List.length_drop, List.length_take]; rfl)) ?_; (with_reducible refine (spec_ptRank.calls k5 _ _ t139 t142 _ ?side1 ?side2 A27.out).mono ?_); (case side1 => repeat (first | exact (Kd.R_reads' HO141.out).2.2 | (with_reducible refine Kd.C_alloc ?_ _) | (with_reducible refine Kd.C_drewN ?_ _) | (with_reducible refine Kd.C_drew ?_))); (case side2 => exact (Kd.R_reads' HO141.out).2.1); rintro e w' ⟨rfl, ⟨nd, rfl⟩⟩; refine ⟨_, rfl, ?_⟩; (try (rw [drewN_self w36]; generalize hq_ : World.drewN w36 _ = w36; have n0_ : Aside0 (Kd.R (Kd.int .i64) 3 w36 w.heap.size (fun k_ => (w.heap.size ≤ k_)) (.slice Ao37 t139.length co37) t139) := ⟨by rw [← hq_]; exact (by (with_reducible repeat (first | apply Kd.R_alloc | apply Kd.R_drewN | apply Kd.R_drew)); exact Kd.R_mono HO141.out (fun _ hk => by first | exact hk.1 | exact hk))⟩; have n1_ : Aside0 (Kd.N (Kd.slice 3 (Kd.int .i64)) 22 w36 w.heap.size (fun k_ => (P0_ k_ ∨ w.heap.size ≤ k_) ∧ some k_ ≠ (.slice Ao37 t139.length co37 : Value).ownBlock ∧ some k_ ≠ (.slice (some ⟨go12, 0, none⟩) x6_5.length co12 : Value).ownBlock ∧ some k_ ≠ (u9 : Value).ownBlock) (.slice (some ad137) x7_3.length co19) x7_3) := ⟨by rw [← hq_]; exact (by (with_reducible repeat (first | apply Kd.N_alloc | apply Kd.N_drewN | apply Kd.N_drew)); exact Kd.N_mono HO_42.out (fun _ hk => by repeat' (first | (with_reducible exact hk.1) | (with_reducible exact hk.2) | (with_reducible exact hk.1.1) | (with_reducible exact hk.1.2) | (with_reducible exact hk.1.2.1) | (with_reducible exact hk.1.2.2) | (with_reducible exact hk.2.1) | (with_reducible exact hk.2.2) | (with_reducible exact hk.2.2.1) | (with_reducible exact hk.2.2.2) | (with_reducible exact hk.1.1.1) | (with_reducible exact hk.1.1.2) | (with_reducible exact hk.2.2.2.1) | (with_reducible exact hk.2.2.2.2) | (with_reducible refine And.intro ?_ ?_))))⟩; replace HVN : Aside0 (Kd.V (Kd.int .i64) 3 w36 w.heap.size (fun k_ => (P0_ k_ ∨ w.heap.size ≤ k_) ∧ some k_ ≠ (.slice Ao37 t139.length co37 : Value).ownBlock ∧ some k_ ≠ (.slice (some ⟨go12, 0, none⟩) x6_5.length co12 : Value).ownBlock ∧ some k_ ≠ (u9 : Value).ownBlock) (.slice A137_0 (rd_L1 x7_3 x44_4).length c137_0) (rd_L1 x7_3 x44_4)) := ⟨by rw [← hq_]; exact (by (with_reducible repeat (first | apply Kd.V_alloc | apply Kd.V_drewN | apply Kd.V_drew)); exact Kd.V_mono HVN.out (fun _ hk => by repeat' (first | (with_reducible exact hk.1) | (with_reducible exact hk.2) | (with_reducible exact hk.1.1) | (with_reducible exact hk.1.2) | (with_reducible exact hk.1.2.1) | (with_reducible exact hk.1.2.2) | (with_reducible exact hk.2.1) | (with_reducible exact hk.2.2) | (with_reducible exact hk.2.2.1) | (with_reducible exact hk.2.2.2) | (with_reducible exact hk.1.1.1) | (with_reducible exact hk.1.1.2) | (with_reducible exact hk.2.2.2.1) | (with_reducible exact hk.2.2.2.2) | (with_reducible refine And.intro ?_ ?_))))⟩; have n2_ : Aside0 (Kd.R Kd.bool 4 w36 w.heap.size (fun k_ => (w.heap.size ≤ k_)) (.slice (some ⟨go12, 0, none⟩) x6_5.length co12) x6_5) := ⟨by rw [← hq_]; exact (roS HO_6.out)⟩; have n3_ : Aside0 (Kd.N (Kd.slice 3 (Kd.int .i64)) 22 w36 w.heap.size (fun k_ => (P0_ k_ ∨ w.heap.size ≤ k_) ∧ some k_ ≠ (.slice Ao37 t139.length co37 : Value).ownBlock ∧ some k_ ≠ (.slice (some ad137) x7_3.length co19 : Value).ownBlock ∧ some k_ ≠ (.slice (some ⟨go12, 0, none⟩) x6_5.length co12 : Value).ownBlock) u9 x9_5) := ⟨by rw [← hq_]; exact (by (with_reducible repeat (first | apply Kd.N_alloc | apply Kd.N_drewN | apply Kd.N_drew)); exact Kd.N_mono HO_9.out (fun _ hk => by repeat' (first | (with_reducible exact hk.1) | (with_reducible exact hk.2) | (with_reducible exact hk.1.1) | (with_reducible exact hk.1.2) | (with_reducible exact hk.1.2.1) | (with_reducible exact hk.1.2.2) | (with_reducible exact hk.2.1) | (with_reducible exact hk.2.2) | (with_reducible exact hk.2.2.1) | (with_reducible exact hk.2.2.2) | (with_reducible exact hk.1.1.1) | (with_reducible exact hk.1.1.2) | (with_reducible exact hk.2.2.2.1) | (with_reducible exact hk.2.2.2.2) | (with_reducible refine And.intro ?_ ?_))))⟩; have n4_ : Aside0 (Below w.heap.size w w36) := ⟨by rw [← hq_]; exact (hbS HB.out)⟩; clear HO141 HO_42 HO_6 HO_9 HB hq_; have HO141 := n0_; have HO_42 := n1_; have HO_6 := n2_; have HO_9 := n3_; have HB := n4_; clear n0_ n1_ n2_ n3_ n4_)); have p143 : 0 ≤ (t142 : Int) := of_decide_eq_true (by first | (with_reducible assumption) | assumption); have q143 : t142 < (x6_5.length : Int) := of_decide_eq_true (by first | (with_reducible assumption) | assumption); obtain ⟨ad143, e143, hx143_0⟩ := Kd.at_bool (Kd.R_reads' HO_6.out).2.2 t142 p143 q143; (try rw [← Nbq30.out] at hx143_0); obtain rfl : (⟨go12, 0, none⟩ : Addr) = ad143 := (by injection e143); (first | simp only [add_plain] at hx143_0 | simp only [add_at] at hx143_0 | simp only [Addr.add, Nat.zero_add] at hx143_0 | skip); replace p143 := eq_true p143; replace q143 := eq_true q143; have p34 : 0 ≤ (t142 : Int) := of_decide_eq_true (by first | (with_reducible assumption) | assumption); have q34 : (t142 : Int) < ((x6_5.length : Int) : Int) := of_decide_eq_true (by first | (with_reducible assumption) | assumption); obtain ⟨hx34_0, hf34_0⟩ := Kd.R_celln false HO_6.out (t142 : Int) p34 q34; replace p34 := eq_true p34; replace q34 := eq_true q34; obtain ⟨hy38_, hz38_⟩ := Kd.R_celln false HO_6.out (t142 : Int) (of_decide_eq_true (by first | (with_reducible assumption) | assumption)) (of_decide_eq_true (by first | (with_reducible assumption) | assumption)); have HP38 := Kd.R_putg HO_6.out (t142 : Int) true) | ((with_reducible refine gate_store (t := 4) (p := 70) rfl ?_); refine store_event (t := 4) (p := 70) (v := ?vo_w39) (w1 := (w36.setCell ⟨go12, (t142 : Int).toNat, none⟩ (.bool true))) ?hg ?ho ?hn ?hr ?_; (case ho => rfl); (case hg => rfl); (case hn => rfl); (case hr => first | (go_simp; done) | (go_simp; rfl)); intro w39 hw; have hg : w36.grownBy w39 (some go12) := (by rw [hw]; exact HP38.2); have hp_ : Kd.R Kd.bool 4 w39 w.heap.size (fun k_ => (w.heap.size ≤ k_)) (.slice (some ⟨go12, 0, none⟩) x6_5.length co12) y144 := (by rw [hw, Ny144.out]; exact HP38.1); clear HP38; have n0_ := am (hp_); have n1_ := am (Kd.N_afterv (v := (.slice (some ⟨go12, 0, none⟩) x6_5.length co12)) (v1 := (.slice (some ⟨go12, 0, none⟩) x6_5.length co12)) (ok := (fun k_ => (P0_ k_ ∨ w.heap.size ≤ k_) ∧ some k_ ≠ (.slice (some ad137) x7_3.length co19 : Value).ownBlock ∧ some k_ ≠ (.slice Ao37 t139.length co37 : Value).ownBlock)) (by (with_reducible repeat (first | apply Kd.N_alloc | apply Kd.N_drewN | apply Kd.N_drew)); exact Kd.N_mono HO_9.out (fun _ hk => by repeat' (first | (with_reducible exact hk.1) | (with_reducible exact hk.2) | (with_reducible exact hk.1.1) | (with_reducible exact hk.1.2) | (with_reducible exact hk.1.2.1) | (with_reducible exact hk.1.2.2) | (with_reducible exact hk.2.1) | (with_reducible exact hk.2.2) | (with_reducible exact hk.2.2.1) | (with_reducible exact hk.2.2.2) | (with_reducible exact hk.1.1.1) | (with_reducible exact hk.1.1.2) | (with_reducible exact hk.2.2.2.1) | (with_reducible exact hk.2.2.2.2) | (with_reducible refine And.intro ?_ ?_)))) hg (.inl rfl)); have n2_ := am (Kd.N_afterv (v := (.slice (some ⟨go12, 0, none⟩) x6_5.length co12)) (v1 := (.slice (some ⟨go12, 0, none⟩) x6_5.length co12)) (ok := (fun k_ => (P0_ k_ ∨ w.heap.size ≤ k_) ∧ some k_ ≠ (u9 : Value).ownBlock ∧ some k_ ≠ (.slice Ao37 t139.length co37 : Value).ownBlock)) (by (with_reducible repeat (first | apply Kd.N_alloc | apply Kd.N_drewN | apply Kd.N_drew)); exact Kd.N_mono HO_42.out (fun _ hk => by repeat' (first | (with_reducible exact hk.1) | (with_reducible exact hk.2) | (with_reducible exact hk.1.1) | (with_reducible exact hk.1.2) | (with_reducible exact hk.1.2.1) | (with_reducible exact hk.1.2.2) | (with_reducible exact hk.2.1) | (with_reducible exact hk.2.2) | (with_reducible exact hk.2.2.1) | (with_reducible exact hk.2.2.2) | (with_reducible exact hk.1.1.1) | (with_reducible exact hk.1.1.2) | (with_reducible exact hk.2.2.2.1) | (with_reducible exact hk.2.2.2.2) | (with_reducible refine And.intro ?_ ?_)))) hg (.inl rfl)); replace HVN := am (Kd.V_afterv (v := (.slice (some ⟨go12, 0, none⟩) x6_5.length co12)) (v1 := (.slice (some ⟨go12, 0, none⟩) x6_5.length co12)) (ok := (fun k_ => (P0_ k_ ∨ w.heap.size ≤ k_) ∧ some k_ ≠ (u9 : Value).ownBlock ∧ some k_ ≠ (.slice Ao37 t139.length co37 : Value).ownBlock)) (by (with_reducible repeat (first | apply Kd.V_alloc | apply Kd.V_drewN | apply Kd.V_drew)); exact Kd.V_mono HVN.out (fun _ hk => by repeat' (first | (with_reducible exact hk.1) | (with_reducible exact hk.2) | (with_reducible exact hk.1.1) | (with_reducible exact hk.1.2) | (with_reducible exact hk.1.2.1) | (with_reducible exact hk.1.2.2) | (with_reducible exact hk.2.1) | (with_reducible exact hk.2.2) | (with_reducible exact hk.2.2.1) | (with_reducible exact hk.2.2.2) | (with_reducible exact hk.1.1.1) | (with_reducible exact hk.1.1.2) | (with_reducible exact hk.2.2.2.1) | (with_reducible exact hk.2.2.2.2) | (with_reducible refine And.intro ?_ ?_)))) hg (.inl rfl)); have n3_ := am (Kd.R_over' (v := (.slice (some ⟨go12, 0, none⟩) x6_5.length co12)) (roS HO141.out) (Kd.R_typed HO_6.out) (by decide) hg); have n4_ := am ((by rw [hw]; exact below_set (HB.out) GB12.out : Below w.heap.size w w39)); clear HO_6; clear HO_9; clear HO_42; clear HO141; clear HB; have HO_6 := n0_; have HO_9 := n1_; have HO_42 := n2_; have HO141 := n3_; have HB := n4_; clear n0_ n1_ n2_ n3_ n4_; clear hg hw hp_) | ((with_reducible refine gate_builtin (b := .append) (xs := #[.tmp 71, .tmp 73]) rfl ?_); (try (refine gate_guard (by rfl) ?_; dsimp only)); at_builtin; refine Kd.N_append (Kd.slice 3 (Kd.int .i64)) (w0 := w) w.heap.size rfl (.tmp 71) (.tmp 73) 30 22 (.slice none 0 0) 24 rfl Tryd.underlying30 info22 rfl (by decide) (by omega) u9 x9_5 t139 [.slice Ao37 t139.length co37] (fun k_ => (P0_ k_ ∨ w.heap.size ≤ k_) ∧ some k_ ≠ (.slice (some ⟨go12, 0, none⟩) x6_5.length co12 : Value).ownBlock ∧ some k_ ≠ (.slice (some ad137) x7_3.length co19 : Value).ownBlock) (fun k_ => ((fun k_ => (P0_ k_ ∨ w.heap.size ≤ k_) ∧ some k_ ≠ (.slice (some ⟨go12, 0, none⟩) x6_5.length co12 : Value).ownBlock ∧ some k_ ≠ (.slice (some ad137) x7_3.length co19 : Value).ownBlock)) k_ ∧ some k_ ≠ (u9 : Value).ownBlock) rfl rfl ?aP (fun _ hk => hk) ?aF ?aO ?aB ?aS ?aL ?_; (case aP => exact (Kd.FK_slice_mk (Kd.R_reads' (Kd.R_mono (ok' := (fun k_ => ((fun k_ => (P0_ k_ ∨ w.heap.size ≤ k_) ∧ some k_ ≠ (.slice (some ⟨go12, 0, none⟩) x6_5.length co12 : Value).ownBlock ∧ some k_ ≠ (.slice (some ad137) x7_3.length co19 : Value).ownBlock)) k_ ∧ some k_ ≠ (u9 : Value).ownBlock)) (Kd.R_apart' (Kd.R_apart' (Kd.R_apart' (HO141.out) (Kd.R_typed HO_6.out) (by decide)) (Kd.N_typed HO_42.out) (by decide)) (Kd.N_typed HO_9.out) (by decide)) (fun k_ hk => ⟨⟨(.inr (by first | exact hk.1.1.1.1 | exact hk.1.1.1)), ⟨hk.1.1.2, hk.1.2⟩⟩, hk.2⟩))).2.1 (Kd.R_F (Kd.R_mono (ok' := (fun k_ => ((fun k_ => (P0_ k_ ∨ w.heap.size ≤ k_) ∧ some k_ ≠ (.slice (some ⟨go12, 0, none⟩) x6_5.length co12 : Value).ownBlock ∧ some k_ ≠ (.slice (some ad137) x7_3.length co19 : Value).ownBlock)) k_ ∧ some k_ ≠ (u9 : Value).ownBlock)) (Kd.R_apart' (Kd.R_apart' (Kd.R_apart' (HO141.out) (Kd.R_typed HO_6.out) (by decide)) (Kd.N_typed HO_42.out) (by decide)) (Kd.N_typed HO_9.out) (by decide)) (fun k_ hk => ⟨⟨(.inr (by first | exact hk.1.1.1.1 | exact hk.1.1.1)), ⟨hk.1.1.2, hk.1.2⟩⟩, hk.2⟩))))); (case aB => exact (hbS HB.out)); (case aF => exact (fun k_ hk => ⟨(.inr (Nat.le_trans (below_size (hbS HB.out)) hk)), Kd.fresh' (Kd.R_lt (roS HO_6.out)) k_ hk, Kd.fresh' (Kd.N_lt (by (with_reducible repeat (first | apply Kd.N_alloc | apply Kd.N_drewN | apply Kd.N_drew)); exact HO_42.out)) k_ hk⟩)); (case aO => exact (by (with_reducible repeat (first | apply Kd.N_alloc | apply Kd.N_drewN | apply Kd.N_drew)); exact Kd.N_mono HO_9.out (fun _ hk => by repeat' (first | (with_reducible exact hk.1) | (with_reducible exact hk.2) | (with_reducible exact hk.1.1) | (with_reducible exact hk.1.2) | (with_reducible exact hk.1.2.1) | (with_reducible exact hk.1.2.2) | (with_reducible exact hk.2.1) | (with_reducible exact hk.2.2) | (with_reducible exact hk.2.2.1) | (with_reducible exact hk.2.2.2) | (with_reducible exact hk.1.1.1) | (with_reducible exact hk.1.1.2) | (with_reducible exact hk.2.2.2.1) | (with_reducible exact hk.2.2.2.2) | (with_reducible refine And.intro ?_ ?_))))); (case aS => exact (below_size (hbS HB.out))); (case aL => have := LMc35.out; omega); intro v146 w40 ho hb hg hat; rw [← Ny145.out] at ho; have n0_ := am (Kd.R_over' (roS HO_6.out) (Kd.N_typed (by (with_reducible repeat (first | apply Kd.N_alloc | apply Kd.N_drewN | apply Kd.N_drew)); exact HO_9.out)) (by decide) hg); have n1_ := am (Kd.N_afterv (ok := (fun k_ => (P0_ k_ ∨ w.heap.size ≤ k_) ∧ some k_ ≠ (.slice (some ⟨go12, 0, none⟩) x6_5.length co12 : Value).ownBlock ∧ some k_ ≠ (.slice Ao37 t139.length co37 : Value).ownBlock)) (by (with_reducible repeat (first | apply Kd.N_alloc | apply Kd.N_drewN | apply Kd.N_drew)); exact Kd.N_mono HO_42.out (fun _ hk => by repeat' (first | (with_reducible exact hk.1) | (with_reducible exact hk.2) | (with_reducible exact hk.1.1) | (with_reducible exact hk.1.2) | (with_reducible exact hk.1.2.1) | (with_reducible exact hk.1.2.2) | (with_reducible exact hk.2.1) | (with_reducible exact hk.2.2) | (with_reducible exact hk.2.2.1) | (with_reducible exact hk.2.2.2) | (with_reducible exact hk.1.1.1) | (with_reducible exact hk.1.1.2) | (with_reducible exact hk.2.2.2.1) | (with_reducible exact hk.2.2.2.2) | (with_reducible refine And.intro ?_ ?_)))) hg hat); replace HVN := am (Kd.V_afterv (ok := (fun k_ => (P0_ k_ ∨ w.heap.size ≤ k_) ∧ some k_ ≠ (.slice (some ⟨go12, 0, none⟩) x6_5.length co12 : Value).ownBlock ∧ some k_ ≠ (.slice Ao37 t139.length co37 : Value).ownBlock)) (by (with_reducible repeat (first | apply Kd.V_alloc | apply Kd.V_drewN | apply Kd.V_drew)); exact Kd.V_mono HVN.out (fun _ hk => by repeat' (first | (with_reducible exact hk.1) | (with_reducible exact hk.2) | (with_reducible exact hk.1.1) | (with_reducible exact hk.1.2) | (with_reducible exact hk.1.2.1) | (with_reducible exact hk.1.2.2) | (with_reducible exact hk.2.1) | (with_reducible exact hk.2.2) | (with_reducible exact hk.2.2.1) | (with_reducible exact hk.2.2.2) | (with_reducible exact hk.1.1.1) | (with_reducible exact hk.1.1.2) | (with_reducible exact hk.2.2.2.1) | (with_reducible exact hk.2.2.2.2) | (with_reducible refine And.intro ?_ ?_)))) hg hat); have n2_ := am (hb); have n3_ := am (ho); clear HO_6; clear HO_42; clear HB; clear HO_9; clear HO141; have HO_6 := n0_; have HO_42 := n1_; have HB := n2_; have HO147 := n3_; clear n0_ n1_ n2_ n3_; clear ho hb hg hat))
                          (try simp only [← hl6_5])
                          go_roundg k5
                          case measure => have := HJ1.out; have := HK2.out; have := HK3.out; have := HK4.out; have := HK5.out; omega
                          case rel => exact ⟨(y144), (y145), (wrap64 (x12_5 + 1)), (by first | rfl | (simp; done) | (simp [*]; done)), H', ⟨by have := HJ1.out; have := HK2.out; have := HK3.out; have := HK4.out; have := HK5.out; omega⟩, ⟨by (try simp only [hl6_3]); (try simp only [hl6_4]); (try simp only [hl6_5]); (with_reducible repeat (first | apply Kd.R_alloc | apply Kd.R_drewN | apply Kd.R_drew)); exact HO_6.out⟩, ⟨by (try simp only [hl6_3]); (try simp only [hl6_4]); (try simp only [hl6_5]); (with_reducible repeat (first | apply Kd.N_alloc | apply Kd.N_drewN | apply Kd.N_drew)); exact HO147.out⟩, ⟨by (try simp only [hl6_3]); (try simp only [hl6_4]); (try simp only [hl6_5]); (with_reducible repeat (first | apply Kd.N_alloc | apply Kd.N_drewN | apply Kd.N_drew)); exact Kd.N_mono HO_42.out (fun _ hk => by repeat' (first | (with_reducible exact hk.1) | (with_reducible exact hk.2) | (with_reducible exact hk.1.1) | (with_reducible exact hk.1.2) | (with_reducible exact hk.1.2.1) | (with_reducible exact hk.1.2.2) | (with_reducible exact hk.2.1) | (with_reducible exact hk.2.2) | (with_reducible exact hk.2.2.1) | (with_reducible exact hk.2.2.2) | (with_reducible exact hk.1.1.1) | (with_reducible exact hk.1.1.2) | (with_reducible exact hk.2.2.2.1) | (with_reducible exact hk.2.2.2.2) | (with_reducible refine And.intro ?_ ?_)))⟩, ⟨by (try simp only [hl6_3]); (try simp only [hl6_4]); (try simp only [hl6_5]); (with_reducible repeat (first | apply Kd.V_alloc | apply Kd.V_drewN | apply Kd.V_drew)); exact Kd.V_mono HVN.out (fun _ hk => by repeat' (first | (with_reducible exact hk.1) | (with_reducible exact hk.2) | (with_reducible exact hk.1.1) | (with_reducible exact hk.1.2) | (with_reducible exact hk.1.2.1) | (with_reducible exact hk.1.2.2) | (with_reducible exact hk.2.1) | (with_reducible exact hk.2.2) | (with_reducible exact hk.2.2.1) | (with_reducible exact hk.2.2.2) | (with_reducible exact hk.1.1.1) | (with_reducible exact hk.1.1.2) | (with_reducible exact hk.2.2.2.1) | (with_reducible exact hk.2.2.2.2) | (with_reducible refine And.intro ?_ ?_)))⟩, ⟨hbS HB.out⟩⟩
                         ·rw [if_neg c35] at H
                          exact absurd H (by simp)
                       ·rw [if_neg c29] at H
                        exact absurd H (by simp)
                      ·rw [if_neg c28] at H
                       exact absurd H (by simp)
                     ·rw [if_neg c25] at H
                      have c25b0 : decide (x12_5 ≤ ((rd_L1 x7_3 x44_4).length : Int)) = false := decide_eq_false c25
                      clear c25
                      have H' := am H
                      clear H
                      go_wp2
                      (try simp only [← hl6_4, ← hl6_5])
                      go_roundg k5
                      case measure => have := HJ1.out; have := HK2.out; have := HK3.out; have := HK4.out; have := HK5.out; omega
                      case rel => exact ⟨(x6_5), (x9_5), (wrap64 (x44_4 + 1)), (by first | rfl | (simp; done) | (simp [*]; done)), H', ⟨by have := HJ1.out; have := HK2.out; have := HK3.out; have := HK4.out; have := HK5.out; omega⟩, ⟨by (try simp only [hl6_3]); (try simp only [hl6_4]); (try simp only [hl6_5]); (with_reducible repeat (first | apply Kd.R_alloc | apply Kd.R_drewN | apply Kd.R_drew)); exact HO_6.out⟩, ⟨by (try simp only [hl6_3]); (try simp only [hl6_4]); (try simp only [hl6_5]); (with_reducible repeat (first | apply Kd.N_alloc | apply Kd.N_drewN | apply Kd.N_drew)); exact HO_9.out⟩, ⟨by (try simp only [hl6_3]); (try simp only [hl6_4]); (try simp only [hl6_5]); (with_reducible repeat (first | apply Kd.N_alloc | apply Kd.N_drewN | apply Kd.N_drew)); exact HO_42.out⟩, ⟨hbS HB.out⟩⟩
                 ·rw [if_neg c22] at H
                  exact absurd H (by simp)
                ·rw [if_neg c21] at H
                 exact absurd H (by simp)
               ·rw [if_neg c20] at H
                have c20b0 : decide (x44_4 < (x7_3.length : Int)) = false := decide_eq_false c20
                clear c20
                have H' := am H
                clear H
                go_wp2
                (try simp only [← hl6_3, ← hl6_4])
                go_roundg k4
                case measure => have := HJ1.out; have := HK2.out; have := HK3.out; have := HK4.out; omega
                case rel => exact ⟨(x6_4), (x9_4), (wrap64 (x8_3 + 1)), (by first | rfl | (simp; done) | (simp [*]; done)), H', ⟨by have := HJ1.out; have := HK2.out; have := HK3.out; have := HK4.out; omega⟩, ⟨by (try simp only [hl6_3]); (try simp only [hl6_4]); (with_reducible repeat (first | apply Kd.R_alloc | apply Kd.R_drewN | apply Kd.R_drew)); exact HO_6.out⟩, ⟨by (try simp only [hl6_3]); (try simp only [hl6_4]); (with_reducible repeat (first | apply Kd.N_alloc | apply Kd.N_drewN | apply Kd.N_drew)); exact Kd.N_mono HO_9.out (fun _ hk => by repeat' (first | (with_reducible exact hk.1) | (with_reducible exact hk.2) | (with_reducible exact hk.1.1) | (with_reducible exact hk.1.2) | (with_reducible exact hk.1.2.1) | (with_reducible exact hk.1.2.2) | (with_reducible exact hk.2.1) | (with_reducible exact hk.2.2) | (with_reducible exact hk.2.2.1) | (with_reducible exact hk.2.2.2) | (with_reducible exact hk.1.1.1) | (with_reducible exact hk.1.1.2) | (with_reducible exact hk.2.2.2.1) | (with_reducible exact hk.2.2.2.2) | (with_reducible refine And.intro ?_ ?_)))⟩, ⟨hbS HB.out⟩⟩
          ·rw [if_neg c11] at H
           exact absurd H (by simp)
         ·rw [if_neg c10] at H
          exact absurd H (by simp)
        ·rw [if_neg c8] at H
         exact absurd H (by simp)
       ·rw [if_neg c7] at H
        exact absurd H (by simp)
end Go.Proofs.YtfegbmlcbdjcgaaDoor.X
end
section
-- Written by a program of this session (wip/tools/mp.py) over the kit's print of the translation.
namespace Go.Proofs.YtfegbmlcbdjcgaaDoor.X
open Go.Proofs Go.Shelf
def isoSort_ren : Go.Shelf.Ren := ⟨fun | 5 => 27 | 8 => 35 | 7 => 34 | 19 => 48 | 20 => 49 | 10 => 39 | 11 => 40 | 12 => 41 | 13 => 42 | 14 => 43 | 15 => 44 | 16 => 45 | 17 => 46 | 18 => 47 | 30 => 56 | 31 => 57 | 32 => 58 | 33 => 59 | 34 => 60 | 35 => 61 | 40 => 66 | n => n, fun | 23 => 22 | 25 => 3 | 3 => 3 | 32 => 60 | 22 => 22 | 0 => 0 | 44 => 71 | 46 => 73 | 4 => 4 | 36 => 65 | 35 => 64 | 41 => 23 | 5 => 5 | 9 => 9 | 53 => 81 | 57 => 85 | 63 => 91 | 64 => 92 | n => n, fun | n => n⟩
theorem isoSort : Go.Proofs.SlLaysM.n5 Tryd.prog isoSort_ren := {
  mixed := by kernel_rfl
  f5 := ⟨Tryd.f27.name, by decide, Tryd.func27.trans (congrArg some (by kernel_rfl))⟩
  f7 := ⟨Tryd.f34.name, by decide, Tryd.func34.trans (congrArg some (by kernel_rfl))⟩
  f8 := Tryd.func35.trans (congrArg some (by kernel_rfl))
  f10 := ⟨Tryd.f39.name, by decide, Tryd.func39.trans (congrArg some (by kernel_rfl))⟩
  f11 := ⟨Tryd.f40.name, by decide, Tryd.func40.trans (congrArg some (by kernel_rfl))⟩
  f12 := ⟨Tryd.f41.name, by decide, Tryd.func41.trans (congrArg some (by kernel_rfl))⟩
  f13 := ⟨Tryd.f42.name, by decide, Tryd.func42.trans (congrArg some (by kernel_rfl))⟩
  f14 := ⟨Tryd.f43.name, by decide, Tryd.func43.trans (congrArg some (by kernel_rfl))⟩
  f15 := ⟨Tryd.f44.name, by decide, Tryd.func44.trans (congrArg some (by kernel_rfl))⟩
  f16 := ⟨Tryd.f45.name, by decide, Tryd.func45.trans (congrArg some (by kernel_rfl))⟩
  f17 := ⟨Tryd.f46.name, by decide, Tryd.func46.trans (congrArg some (by kernel_rfl))⟩
  f18 := ⟨Tryd.f47.name, by decide, Tryd.func47.trans (congrArg some (by kernel_rfl))⟩
  f19 := Tryd.func48.trans (congrArg some (by kernel_rfl))
  f20 := Tryd.func49.trans (congrArg some (by kernel_rfl))
  f30 := ⟨Tryd.f56.name, by decide, Tryd.func56.trans (congrArg some (by kernel_rfl))⟩
  f31 := Tryd.func57.trans (congrArg some (by kernel_rfl))
  f32 := Tryd.func58.trans (congrArg some (by kernel_rfl))
  f33 := ⟨Tryd.f59.name, by decide, Tryd.func59.trans (congrArg some (by kernel_rfl))⟩
  f34 := ⟨Tryd.f60.name, by decide, Tryd.func60.trans (congrArg some (by kernel_rfl))⟩
  f35 := ⟨Tryd.f61.name, by decide, Tryd.func61.trans (congrArg some (by kernel_rfl))⟩
  f40 := ⟨Tryd.f66.name, by decide, Tryd.func66.trans (congrArg some (by kernel_rfl))⟩
  t0 := Tryd.underlying0
  a0 := Tryd.isAgg0
  z0 := Tryd.sizeOf0
  v0 := Tryd.zeroValue0
  t3 := Tryd.underlying3
  a3 := Tryd.isAgg3
  z3 := Tryd.sizeOf3
  v3 := Tryd.zeroValue3
  t4 := Tryd.underlying4
  a4 := Tryd.isAgg4
  z4 := Tryd.sizeOf4
  v4 := Tryd.zeroValue4
  t5 := Tryd.underlying5
  a5 := Tryd.isAgg5
  z5 := Tryd.sizeOf5
  v5 := Tryd.zeroValue5
  t9 := Tryd.underlying9
  a9 := Tryd.isAgg9
  z9 := Tryd.sizeOf9
  v9 := Tryd.zeroValue9
  t22 := Tryd.underlying22
  a22 := Tryd.isAgg22
  z22 := Tryd.sizeOf22
  v22 := Tryd.zeroValue22
  t23 := Tryd.underlying22
  a23 := Tryd.isAgg22
  z23 := Tryd.sizeOf22
  v23 := Tryd.zeroValue22
  t25 := Tryd.underlying3
  a25 := Tryd.isAgg3
  z25 := Tryd.sizeOf3
  v25 := Tryd.zeroValue3
  t32 := Tryd.underlying60
  a32 := Tryd.isAgg60
  z32 := Tryd.sizeOf60
  v32 := Tryd.zeroValue60
  t35 := Tryd.underlying64
  a35 := Tryd.isAgg64
  z35 := Tryd.sizeOf64
  v35 := Tryd.zeroValue64
  t36 := Tryd.underlying65
  a36 := Tryd.isAgg65
  z36 := Tryd.sizeOf65
  v36 := Tryd.zeroValue65
  t41 := Tryd.underlying23
  a41 := Tryd.isAgg23
  z41 := Tryd.sizeOf23
  v41 := Tryd.zeroValue23
  t44 := Tryd.underlying71
  a44 := Tryd.isAgg71
  z44 := Tryd.sizeOf71
  v44 := Tryd.zeroValue71
  t46 := Tryd.underlying73
  a46 := Tryd.isAgg73
  z46 := Tryd.sizeOf73
  v46 := Tryd.zeroValue73
  t53 := Tryd.underlying81
  a53 := Tryd.isAgg81
  z53 := Tryd.sizeOf81
  v53 := Tryd.zeroValue81
  t57 := Tryd.underlying85
  a57 := Tryd.isAgg85
  z57 := Tryd.sizeOf85
  v57 := Tryd.zeroValue85
  t63 := Tryd.underlying91
  a63 := Tryd.isAgg91
  z63 := Tryd.sizeOf91
  v63 := Tryd.zeroValue91
  t64 := Tryd.underlying92
  a64 := Tryd.isAgg92
  z64 := Tryd.sizeOf92
  v64 := Tryd.zeroValue92 }
def layItoa_ren : Go.Shelf.Ren := ⟨fun | 171 => 22 | 243 => 29 | 246 => 36 | 283 => 50 | 284 => 51 | 285 => 52 | 286 => 53 | 129 => 49 | 317 => 62 | 318 => 63 | 319 => 64 | 320 => 65 | 337 => 67 | 338 => 68 | n => n, fun | 3 => 3 | 9 => 9 | 2 => 2 | 4 => 4 | 171 => 74 | 0 => 0 | 53 => 73 | 37 => 48 | 5 => 5 | 173 => 76 | 212 => 89 | 51 => 71 | 20 => 20 | 213 => 90 | 46 => 60 | 232 => 94 | 233 => 95 | n => n, fun | 17 => 0 | 18 => 2 | 19 => 3 | n => n⟩
theorem layItoa : Go.Proofs.LaysM.n171 Tryd.prog layItoa_ren := {
  mixed := by kernel_rfl
  f129 := Tryd.func49.trans (congrArg some (by kernel_rfl))
  f171 := Tryd.func22.trans (congrArg some (by kernel_rfl))
  f243 := Tryd.func29.trans (congrArg some (by kernel_rfl))
  f246 := Tryd.func36.trans (congrArg some (by kernel_rfl))
  f283 := Tryd.func50.trans (congrArg some (by kernel_rfl))
  f284 := Tryd.func51.trans (congrArg some (by kernel_rfl))
  f285 := Tryd.func52.trans (congrArg some (by kernel_rfl))
  f286 := Tryd.func53.trans (congrArg some (by kernel_rfl))
  f317 := Tryd.func62.trans (congrArg some (by kernel_rfl))
  f318 := Tryd.func63.trans (congrArg some (by kernel_rfl))
  f319 := Tryd.func64.trans (congrArg some (by kernel_rfl))
  f320 := Tryd.func65.trans (congrArg some (by kernel_rfl))
  f337 := Tryd.func67.trans (congrArg some (by kernel_rfl))
  f338 := Tryd.func68.trans (congrArg some (by kernel_rfl))
  t0 := Tryd.underlying0
  a0 := Tryd.isAgg0
  z0 := Tryd.sizeOf0
  v0 := Tryd.zeroValue0
  t2 := Tryd.underlying2
  a2 := Tryd.isAgg2
  z2 := Tryd.sizeOf2
  v2 := Tryd.zeroValue2
  t3 := Tryd.underlying3
  a3 := Tryd.isAgg3
  z3 := Tryd.sizeOf3
  v3 := Tryd.zeroValue3
  t4 := Tryd.underlying4
  a4 := Tryd.isAgg4
  z4 := Tryd.sizeOf4
  v4 := Tryd.zeroValue4
  t5 := Tryd.underlying5
  a5 := Tryd.isAgg5
  z5 := Tryd.sizeOf5
  v5 := Tryd.zeroValue5
  t9 := Tryd.underlying9
  a9 := Tryd.isAgg9
  z9 := Tryd.sizeOf9
  v9 := Tryd.zeroValue9
  t20 := Tryd.underlying20
  a20 := Tryd.isAgg20
  z20 := Tryd.sizeOf20
  v20 := Tryd.zeroValue20
  t37 := Tryd.underlying48
  a37 := Tryd.isAgg48
  z37 := Tryd.sizeOf48
  v37 := Tryd.zeroValue48
  t46 := Tryd.underlying60
  a46 := Tryd.isAgg60
  z46 := Tryd.sizeOf60
  v46 := Tryd.zeroValue60
  t51 := Tryd.underlying71
  a51 := Tryd.isAgg71
  z51 := Tryd.sizeOf71
  v51 := Tryd.zeroValue71
  t53 := Tryd.underlying73
  a53 := Tryd.isAgg73
  z53 := Tryd.sizeOf73
  v53 := Tryd.zeroValue73
  t171 := Tryd.underlying74
  a171 := Tryd.isAgg74
  z171 := Tryd.sizeOf74
  v171 := Tryd.zeroValue74
  t173 := Tryd.underlying76
  a173 := Tryd.isAgg76
  z173 := Tryd.sizeOf76
  v173 := Tryd.zeroValue76
  t212 := Tryd.underlying89
  a212 := Tryd.isAgg89
  z212 := Tryd.sizeOf89
  v212 := Tryd.zeroValue89
  t213 := Tryd.underlying90
  a213 := Tryd.isAgg90
  z213 := Tryd.sizeOf90
  t232 := Tryd.underlying94
  a232 := Tryd.isAgg94
  z232 := Tryd.sizeOf94
  v232 := Tryd.zeroValue94
  t233 := Tryd.underlying95
  a233 := Tryd.isAgg95
  z233 := Tryd.sizeOf95
  v233 := Tryd.zeroValue95
  g17 := by kernel_rfl
  g18 := by kernel_rfl
  g19 := by kernel_rfl
  i0 := by kernel_rfl
  i2 := by kernel_rfl
  i3 := by kernel_rfl
  i4 := by kernel_rfl
  i5 := by kernel_rfl
  i9 := by kernel_rfl
  i20 := by kernel_rfl
  i37 := by kernel_rfl
  i46 := by kernel_rfl
  i51 := by kernel_rfl
  i53 := by kernel_rfl
  i171 := by kernel_rfl
  i173 := by kernel_rfl
  i212 := by kernel_rfl
  i232 := by kernel_rfl
  i233 := by kernel_rfl
  m17 := by kernel_rfl
  m18 := by kernel_rfl
  m19 := by kernel_rfl }
def layJoin_ren : Go.Shelf.Ren := ⟨fun | 156 => 23 | 165 => 30 | 166 => 31 | 169 => 32 | 240 => 37 | 241 => 38 | 276 => 54 | 277 => 55 | n => n, fun | 31 => 42 | 9 => 9 | 3 => 3 | 4 => 4 | 0 => 0 | 20 => 20 | 72 => 50 | 76 => 54 | 70 => 47 | 37 => 48 | 75 => 53 | 127 => 62 | 164 => 78 | 5 => 5 | 80 => 56 | n => n, fun | n => n⟩
theorem layJoin : Go.Proofs.Lays.n156 Tryd.prog layJoin_ren := {
  mixed := by kernel_rfl
  f156 := Tryd.func23.trans (congrArg some (by kernel_rfl))
  f165 := Tryd.func30.trans (congrArg some (by kernel_rfl))
  f166 := Tryd.func31.trans (congrArg some (by kernel_rfl))
  f169 := Tryd.func32.trans (congrArg some (by kernel_rfl))
  f240 := Tryd.func37.trans (congrArg some (by kernel_rfl))
  f241 := Tryd.func38.trans (congrArg some (by kernel_rfl))
  f276 := Tryd.func54.trans (congrArg some (by kernel_rfl))
  f277 := Tryd.func55.trans (congrArg some (by kernel_rfl))
  t0 := Tryd.underlying0
  a0 := Tryd.isAgg0
  z0 := Tryd.sizeOf0
  v0 := Tryd.zeroValue0
  t3 := Tryd.underlying3
  a3 := Tryd.isAgg3
  z3 := Tryd.sizeOf3
  v3 := Tryd.zeroValue3
  t4 := Tryd.underlying4
  a4 := Tryd.isAgg4
  z4 := Tryd.sizeOf4
  v4 := Tryd.zeroValue4
  t9 := Tryd.underlying9
  a9 := Tryd.isAgg9
  z9 := Tryd.sizeOf9
  v9 := Tryd.zeroValue9
  t20 := Tryd.underlying20
  a20 := Tryd.isAgg20
  z20 := Tryd.sizeOf20
  v20 := Tryd.zeroValue20
  t31 := Tryd.underlying42
  a31 := Tryd.isAgg42
  z31 := Tryd.sizeOf42
  v31 := Tryd.zeroValue42
  t37 := Tryd.underlying48
  a37 := Tryd.isAgg48
  z37 := Tryd.sizeOf48
  v37 := Tryd.zeroValue48
  t70 := Tryd.underlying47
  a70 := Tryd.isAgg47
  z70 := Tryd.sizeOf47
  v70 := Tryd.zeroValue47
  t72 := Tryd.underlying50
  a72 := Tryd.isAgg50
  z72 := Tryd.sizeOf50
  v72 := Tryd.zeroValue50
  t75 := Tryd.underlying53
  a75 := Tryd.isAgg53
  z75 := Tryd.sizeOf53
  v75 := Tryd.zeroValue53
  t76 := Tryd.underlying54
  a76 := Tryd.isAgg54
  z76 := Tryd.sizeOf54
  v76 := Tryd.zeroValue54
  t127 := Tryd.underlying62
  a127 := Tryd.isAgg62
  z127 := Tryd.sizeOf62
  v127 := Tryd.zeroValue62
  t164 := Tryd.underlying78
  a164 := Tryd.isAgg78
  z164 := Tryd.sizeOf78
  v164 := Tryd.zeroValue78 }
def ftRev_ren : Go.Shelf.Ren := ⟨fun | 112 => 25 | n => n, fun | 28 => 22 | 3 => 3 | 4 => 4 | 0 => 0 | n => n, fun | n => n⟩
theorem ftRev : Go.Proofs.Lays.n112 Tryd.prog ftRev_ren := {
  mixed := by kernel_rfl
  f112 := Tryd.func25.trans (congrArg some (by kernel_rfl))
  t0 := Tryd.underlying0
  a0 := Tryd.isAgg0
  z0 := Tryd.sizeOf0
  v0 := Tryd.zeroValue0
  t3 := Tryd.underlying3
  a3 := Tryd.isAgg3
  z3 := Tryd.sizeOf3
  v3 := Tryd.zeroValue3
  t4 := Tryd.underlying4
  a4 := Tryd.isAgg4
  z4 := Tryd.sizeOf4
  v4 := Tryd.zeroValue4
  t28 := Tryd.underlying22
  a28 := Tryd.isAgg22
  z28 := Tryd.sizeOf22
  v28 := Tryd.zeroValue22 }
theorem layJoinX : Builder.Extra Tryd.prog layJoin_ren := {
  sizeBuilder := by kernel_rfl
  liesBuilder := by kernel_rfl
  t5 := Tryd.underlying5
  a5 := Tryd.isAgg5
  z5 := Tryd.sizeOf5
  v5 := Tryd.zeroValue5
  infoByte := by kernel_rfl
  cellsByte := by kernel_rfl
  sizeByte := by kernel_rfl
  neB5 := by decide }
end Go.Proofs.YtfegbmlcbdjcgaaDoor.X
end
