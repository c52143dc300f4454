import Derived.Test.YticmboabiemniaaDoorP4
import Derived.Test.YticmboabiemniaaDoorP5
import Derived.Test.YticmboabiemniaaDoorP7
import Derived.Test.YticmboabiemniaaDoorP9
import Derived.Test.YticmboabiemniaaDoorP10
import Derived.Test.YticmboabiemniaaDoorP11
import Derived.Test.YticmboabiemniaaDoorP12
import Derived.Test.YticmboabiemniaaDoorP13
section
-- Written by a program of this session (wip/tools/mp.py) over the kit's print of the translation.
namespace Go.Proofs.YticmboabiemniaaDoor.X
open Go.Proofs.YticmboabiemniaaDoor.Sq Go.RowKit Go.Proofs.YticmboabiemniaaDoorW.PrintWords Go.Proofs.YticmboabiemniaaDoorW.PrintLast Go.Proofs.YticmboabiemniaaDoorW.PrintMore
attribute [local go_sem] max2_int min2_int max_two min_two max_three min_three max_four min_four   -- for this text's walks alone
set_option linter.unusedVariables false
set_option linter.unusedSimpArgs false
/-! ### impl_sum: function 44 -/
def impl_sum.l0 : Nat → Int → List Int → Int → Int → Option (Int)
 | 0, _, _, _, _ => none
 | k + 1, x3, x6, x7, x8 => if x8 < x7 then (if 0 ≤ x8 then (if x8 < (x6.length : Int) then (impl_sum.l0 k (wrap64 (x3 + (rd x6 x8))) x6 x7 (wrap64 (x8 + 1))) else (none)) else (none)) else (some x3)
def impl_sum.f (k : Nat) (l0 : List Int) : Option (Int) := impl_sum.l0 k 0 l0 (l0.length : Int) 0
set_option maxHeartbeats 8000000 in
set_option maxRecDepth 100000 in
theorem impl_sum.calls (k : Nat) (A0 : Option Addr) (c0 : Nat) (l0 : List Int) (r : Int) (w : World) (hr0 : Kd.C (Kd.int .i64) w A0 l0.length l0) (hc0 : l0.length ≤ c0) (h : impl_sum.f k l0 = some r) :
  Calls Tryd.prog 44 #[.slice A0 l0.length c0] w fun e w' => e = .returned (.int .i64 r) ∧ Drawn0 w w' := by
 have HR0 := am hr0
 have HC0 := am hc0
 clear hr0 hc0
 have H : (impl_sum.l0 k 0 l0 (l0.length : Int) 0) = some r := h
 clear h
 have H' := am H
 clear H
 go_enter Tryd.func44, Tryd.ntmps44
 go_wp2
 go_loopg [3, 8] k (fun kq v3 v8 w' => ∃ (x3_1 : Int) (x8_1 : Int), v3 = .int .i64 x3_1 ∧ v8 = .int .i64 x8_1 ∧ Aside0 (impl_sum.l0 kq x3_1 l0 (l0.length : Int) x8_1 = some r) ∧ Aside0 (kq ≤ k) ∧ Drawn0 w w')
 case atStart => exact ⟨(0), (0), (by first | rfl | (simp; done) | (simp [*]; done)), (by first | rfl | (simp; done) | (simp [*]; done)), H', ⟨Nat.le_refl _⟩, by repeat (first | exact Drawn0.refl _ | apply Drawn0.step)⟩
 case round =>
  clear H'
  obtain ⟨x3_1, x8_1, rfl, rfl, HA, HK1, ⟨m1, rfl⟩⟩ := hrel
  cases gk with
  | zero => exact absurd HA.out (by simp [impl_sum.l0])
  | succ k1 =>
   have H := HA.out
   clear HA
   simp only [impl_sum.l0] at H
   by_cases c2 : x8_1 < (l0.length : Int)
   ·rw [if_pos c2] at H
    have c2b0 : decide (x8_1 < (l0.length : Int)) = true := decide_eq_true c2
    clear c2
    by_cases c3 : 0 ≤ x8_1
    ·rw [if_pos c3] at H
     have c3b0 : decide (0 ≤ x8_1) = true := decide_eq_true c3
     clear c3
     by_cases c4 : x8_1 < (l0.length : Int)
     ·rw [if_pos c4] at H
      have c4b0 : decide (x8_1 < (l0.length : Int)) = true := decide_eq_true c4
      clear c4
      have H' := am H
      clear H
      have p181 : 0 ≤ (x8_1 : Int) := of_decide_eq_true (by first | (with_reducible assumption) | assumption)
      have q181 : x8_1 < (l0.length : Int) := of_decide_eq_true (by first | (with_reducible assumption) | assumption)
      obtain ⟨ad181, e181, hx181_0⟩ := Kd.at_int HR0.out x8_1 p181 q181
      cases e181
      replace p181 := eq_true p181
      replace q181 := eq_true q181
      go_wp2
      go_roundg k1
      case measure => have := HK1.out; omega
      case rel => exact ⟨(wrap64 (x3_1 + (rd l0 x8_1))), (wrap64 (x8_1 + 1)), (by first | rfl | (simp; done) | (simp [*]; done)), (by first | rfl | (simp; done) | (simp [*]; done)), H', ⟨by have := HK1.out; omega⟩, by repeat (first | exact Drawn0.refl _ | apply Drawn0.step)⟩
     ·rw [if_neg c4] at H
      exact absurd H (by simp)
    ·rw [if_neg c3] at H
     exact absurd H (by simp)
   ·rw [if_neg c2] at H
    have c2b0 : decide (x8_1 < (l0.length : Int)) = false := decide_eq_false c2
    clear c2
    obtain rfl := Option.some.inj H
    go_wp2
    go_ret
    exact ⟨by first | rfl | (simp; done) | (simp [*]; done), by repeat (first | exact Drawn0.refl _ | apply Drawn0.step)⟩
/-! ### impl_told: function 27 -/
def impl_told.f (k : Nat) (a0 : Int) (a1 : Int) (a2 : ByteArray) : Option (Int) := (impl_longestGap.f k a2).bind fun bt182 => (if a0 = 0 then ((strings_Count.f a2 (⟨#[111]⟩ : ByteArray)).bind fun t184 => (some t184)) else (if a0 = 1 then (if 0 ≤ (wrap64 (a1 - 1)) then (if (wrap64 (a1 - 1)) < (a2.size : Int) then ((impl_bit.f ((bt a2 (wrap64 (a1 - 1))) == 111)).bind fun t185 => (some t185)) else (none)) else (none)) else (if a0 = 2 then ((impl_leapsLeft.f k a2 a1).bind fun t186 => (if 0 < (t186.length : Int) then (some (mx 0 (rd t186 0))) else (none))) else (if a0 = 3 then (some bt182.1) else (if a0 = 4 then ((impl_countBy.f k a2 a1).bind fun t190 => ((impl_sum.f k t190).bind fun t193 => (some t193))) else (some bt182.2))))))
set_option maxHeartbeats 8000000 in
set_option maxRecDepth 100000 in
theorem impl_told.calls (k : Nat) (a0 : Int) (a1 : Int) (a2 : ByteArray) (r : Int) (w : World) (h : impl_told.f k a0 a1 a2 = some r) :
  Calls Tryd.prog 27 #[.int .i64 a0, .int .i64 a1, .string a2] w fun e w' => e = .returned (.int .i64 r) ∧ Below w.heap.size w w' := by
 have HB := am (Below.refl w.heap.size w)
 have H : ((impl_longestGap.f k a2).bind fun bt182 => (if a0 = 0 then ((strings_Count.f a2 (⟨#[111]⟩ : ByteArray)).bind fun t184 => (some t184)) else (if a0 = 1 then (if 0 ≤ (wrap64 (a1 - 1)) then (if (wrap64 (a1 - 1)) < (a2.size : Int) then ((impl_bit.f ((bt a2 (wrap64 (a1 - 1))) == 111)).bind fun t185 => (some t185)) else (none)) else (none)) else (if a0 = 2 then ((impl_leapsLeft.f k a2 a1).bind fun t186 => (if 0 < (t186.length : Int) then (some (mx 0 (rd t186 0))) else (none))) else (if a0 = 3 then (some bt182.1) else (if a0 = 4 then ((impl_countBy.f k a2 a1).bind fun t190 => ((impl_sum.f k t190).bind fun t193 => (some t193))) else (some bt182.2))))))) = some r := h
 clear h
 replace H := Option.bind_eq_some_iff.mp H
 obtain ⟨⟨t182, t183⟩, A40, H⟩ := H
 replace H : (if a0 = 0 then ((strings_Count.f a2 (⟨#[111]⟩ : ByteArray)).bind fun t184 => (some t184)) else (if a0 = 1 then (if 0 ≤ (wrap64 (a1 - 1)) then (if (wrap64 (a1 - 1)) < (a2.size : Int) then ((impl_bit.f ((bt a2 (wrap64 (a1 - 1))) == 111)).bind fun t185 => (some t185)) else (none)) else (none)) else (if a0 = 2 then ((impl_leapsLeft.f k a2 a1).bind fun t186 => (if 0 < (t186.length : Int) then (some (mx 0 (rd t186 0))) else (none))) else (if a0 = 3 then (some t182) else (if a0 = 4 then ((impl_countBy.f k a2 a1).bind fun t190 => ((impl_sum.f k t190).bind fun t193 => (some t193))) else (some t183)))))) = some r := H
 have A4 := am A40
 clear A40
 by_cases c5 : a0 = 0
 ·rw [if_pos c5] at H
  have c5b0 : (a0 == 0) = true := beq_iff_eq.mpr c5
  have c5b1 : (a0 != 0) = false := bne_eq_false_iff_eq.mpr c5
  clear c5
  replace H := Option.bind_eq_some_iff.mp H
  obtain ⟨t184, A60, H⟩ := H
  replace H : (some t184) = some r := H
  have A6 := am A60
  clear A60
  obtain rfl := Option.some.inj H
  go_enter Tryd.func27, Tryd.ntmps27
  go_wp2_with (first | ((with_reducible refine gate_callee (f := 40) rfl ?_); refine goesL_ (some 11) rfl rfl Tryd.func40 (by kernel_rfl) rfl #[.string a2] rfl (by (try simp only [List.map_toArray, List.map_cons, List.map_nil]); first | done | rfl | (simp only [List.length_drop, List.length_take]; rfl)) ?_; (with_reducible refine (impl_longestGap.calls k a2 t182 t183 _ A4.out).mono ?_); rintro e w7 ⟨rfl, hb⟩; refine ⟨_, rfl, ?_⟩; have n0_ := am (below_step (hbS HB.out) hb); clear HB; have HB := n0_; clear n0_; (try clear hb); (try clear hb2); (try clear hk); (try clear hi)) | ((with_reducible refine gate_callee (f := 41) rfl ?_); refine goesL_ (some 18) rfl rfl Tryd.func41 (by kernel_rfl) rfl #[.string a2, .string (⟨#[111]⟩ : ByteArray)] rfl (by (try simp only [List.map_toArray, List.map_cons, List.map_nil]); first | done | rfl | (simp only [List.length_drop, List.length_take]; rfl)) ?_; (with_reducible refine (strings_Count.calls a2 (⟨#[111]⟩ : ByteArray) t184 _ A6.out).mono ?_); rintro e w' ⟨rfl, ⟨nd, rfl⟩⟩; refine ⟨_, rfl, ?_⟩))
  go_ret
  exact ⟨by first | rfl | (simp [errW_none, errW_some] <;> rfl) | (simp [*, errW_none, errW_some] <;> rfl), hbS HB.out⟩
 ·rw [if_neg c5] at H
  have c5b0 : (a0 == 0) = false := beq_eq_false_iff_ne.mpr c5
  have c5b1 : (a0 != 0) = true := bne_iff_ne.mpr c5
  by_cases c8 : a0 = 1
  ·rw [if_pos c8] at H
   have c8b0 : (a0 == 1) = true := beq_iff_eq.mpr c8
   have c8b1 : (a0 != 1) = false := bne_eq_false_iff_eq.mpr c8
   clear c8
   obtain ⟨ji9, hji9⟩ : ∃ j_ : Int, (wrap64 (a1 - 1)) = j_ := ⟨_, rfl⟩
   replace H : (if 0 ≤ (ji9) then (if (ji9) < (a2.size : Int) then ((impl_bit.f ((bt a2 (ji9)) == 111)).bind fun t185 => (some t185)) else (none)) else (none)) = some r := by first | (rw [hji9] at H; exact H) | (simp only [hji9] at H ⊢; exact H)
   (try rw [hji9] at A4)
   have hji9w : (IntKind.i64.wrap (a1 - 1)) = ji9 := (i64_w _).trans hji9
   by_cases c10 : 0 ≤ (ji9)
   ·rw [if_pos c10] at H
    have c10b0 : decide (0 ≤ (ji9)) = true := decide_eq_true c10
    clear c10
    by_cases c11 : (ji9) < (a2.size : Int)
    ·rw [if_pos c11] at H
     have c11b0 : decide ((ji9) < (a2.size : Int)) = true := decide_eq_true c11
     clear c11
     replace H := Option.bind_eq_some_iff.mp H
     obtain ⟨t185, A130, H⟩ := H
     replace H : (some t185) = some r := H
     have A13 := am A130
     clear A130
     obtain rfl := Option.some.inj H
     go_enter Tryd.func27, Tryd.ntmps27
     go_wp2_with (first | ((with_reducible refine gate_callee (f := 40) rfl ?_); refine goesL_ (some 11) rfl rfl Tryd.func40 (by kernel_rfl) rfl #[.string a2] rfl (by (try simp only [List.map_toArray, List.map_cons, List.map_nil]); first | done | rfl | (simp only [List.length_drop, List.length_take]; rfl)) ?_; (with_reducible refine (impl_longestGap.calls k a2 t182 t183 _ A4.out).mono ?_); rintro e w14 ⟨rfl, hb⟩; refine ⟨_, rfl, ?_⟩; have n0_ := am (below_step (hbS HB.out) hb); clear HB; have HB := n0_; clear n0_; (try clear hb); (try clear hb2); (try clear hk); (try clear hi); have p12 : 0 ≤ ((ji9) : Int) := of_decide_eq_true (by first | (with_reducible assumption) | assumption); have q12 : (ji9) < (a2.size : Int) := of_decide_eq_true (by first | (with_reducible assumption) | assumption); have hx12 := bt_at a2 (ji9); replace p12 := eq_true p12; replace q12 := eq_true q12) | ((with_reducible refine gate_callee (f := 42) rfl ?_); refine goesL_ (some 26) rfl rfl Tryd.func42 (by kernel_rfl) rfl #[.bool ((bt a2 (ji9)) == 111)] rfl (by (try simp only [List.map_toArray, List.map_cons, List.map_nil]); first | done | (simp only [hji9]; rfl) | rfl | (simp only [List.length_drop, List.length_take]; rfl)) ?_; (with_reducible refine (impl_bit.calls ((bt a2 (ji9)) == 111) t185 _ A13.out).mono ?_); rintro e w' ⟨rfl, ⟨nd, rfl⟩⟩; refine ⟨_, rfl, ?_⟩))
     go_ret
     exact ⟨by first | rfl | (simp [errW_none, errW_some] <;> rfl) | (simp only [← hji9]; first | rfl | (simp [errW_none, errW_some] <;> rfl)) | (simp [*, errW_none, errW_some] <;> rfl), hbS HB.out⟩
    ·rw [if_neg c11] at H
     exact absurd H (by simp)
   ·rw [if_neg c10] at H
    exact absurd H (by simp)
  ·rw [if_neg c8] at H
   have c8b0 : (a0 == 1) = false := beq_eq_false_iff_ne.mpr c8
   have c8b1 : (a0 != 1) = true := bne_iff_ne.mpr c8
   by_cases c15 : a0 = 2
   ·rw [if_pos c15] at H
    have c15b0 : (a0 == 2) = true := beq_iff_eq.mpr c15
    have c15b1 : (a0 != 2) = false := bne_eq_false_iff_eq.mpr c15
    clear c15
    replace H := Option.bind_eq_some_iff.mp H
    obtain ⟨t186, A160, H⟩ := H
    replace H : (if 0 < (t186.length : Int) then (some (mx 0 (rd t186 0))) else (none)) = some r := H
    have A16 := am A160
    clear A160
    by_cases c17 : 0 < (t186.length : Int)
    ·rw [if_pos c17] at H
     have c17b0 : decide (0 < (t186.length : Int)) = true := decide_eq_true c17
     have c17b1 : decide (0 < t186.length) = true := decide_eq_true (by omega)
     clear c17
     obtain ⟨ji18, hji18⟩ : ∃ j_ : Int, (mx 0 (rd t186 0)) = j_ := ⟨_, rfl⟩
     replace H : (some ji18) = some r := by first | (rw [hji18] at H; exact H) | (simp only [hji18] at H ⊢; exact H)
     (try rw [hji18] at A4)
     (try rw [hji18] at A16)
     (try (have hji18l : 0 ≤ ji18 := by (rw [← hji18]; unfold mx; (repeat' split) <;> omega)))
     (try (have hji18m : 0 ≤ ji18 := by omega))
     have hji18_ : (if 0 < (rd t186 0) then (rd t186 0) else 0) = ji18 := hji18
     obtain rfl := Option.some.inj H
     go_enter Tryd.func27, Tryd.ntmps27
     go_wp2_with (first | ((with_reducible refine gate_callee (f := 40) rfl ?_); refine goesL_ (some 11) rfl rfl Tryd.func40 (by kernel_rfl) rfl #[.string a2] rfl (by (try simp only [List.map_toArray, List.map_cons, List.map_nil]); first | done | rfl | (simp only [List.length_drop, List.length_take]; rfl)) ?_; (with_reducible refine (impl_longestGap.calls k a2 t182 t183 _ A4.out).mono ?_); rintro e w19 ⟨rfl, hb⟩; refine ⟨_, rfl, ?_⟩; have n0_ := am (below_step (hbS HB.out) hb); clear HB; have HB := n0_; clear n0_; (try clear hb); (try clear hb2); (try clear hk); (try clear hi)) | ((with_reducible refine gate_callee (f := 43) rfl ?_); refine goesL_ (some 31) rfl rfl Tryd.func43 (by kernel_rfl) rfl #[.string a2, .int .i64 a1] rfl (by (try simp only [List.map_toArray, List.map_cons, List.map_nil]); first | done | rfl | (simp only [List.length_drop, List.length_take]; rfl)) ?_; (with_reducible refine (impl_leapsLeft.calls k a2 a1 t186 _ A16.out).mono ?_); rintro e w20 ⟨v187, rfl, ho0, hb⟩; refine ⟨_, rfl, ?_⟩; have n0_ := am (Kd.R_lower ho0 (below_size (hbS HB.out))); have n1_ := am (below_step (hbS HB.out) hb); clear HB; have HO188 := n0_; have HB := n1_; clear n0_ n1_; (try clear hb); (try clear hb2); (try clear hk); (try clear hi); (try clear ho0); obtain ⟨Ao21, co21, eo21⟩ := Kd.R_slice HO188.out; subst eo21; have p189 : 0 ≤ (0 : Int) := (by omega); have q189 : 0 < (t186.length : Int) := of_decide_eq_true (by first | (with_reducible assumption) | assumption); obtain ⟨ad189, e189, hx189_0⟩ := Kd.at_int (Kd.R_reads' HO188.out).2.2 0 p189 q189; cases e189; have qi189 : (0 < t186.length) = True := eq_true (by omega); (try rw [show ((0 : Int)).toNat = 0 from rfl] at hx189_0); (try rw [Addr.add_zero'] at hx189_0); replace p189 := eq_true p189; replace q189 := eq_true q189))
     go_ret
     exact ⟨by first | rfl | (simp [errW_none, errW_some] <;> rfl) | (simp only [← hji18]; first | rfl | (simp [errW_none, errW_some] <;> rfl)) | (simp [*, errW_none, errW_some] <;> rfl), hbS HB.out⟩
    ·rw [if_neg c17] at H
     exact absurd H (by simp)
   ·rw [if_neg c15] at H
    have c15b0 : (a0 == 2) = false := beq_eq_false_iff_ne.mpr c15
    have c15b1 : (a0 != 2) = true := bne_iff_ne.mpr c15
    by_cases c22 : a0 = 3
    ·rw [if_pos c22] at H
     have c22b0 : (a0 == 3) = true := beq_iff_eq.mpr c22
     have c22b1 : (a0 != 3) = false := bne_eq_false_iff_eq.mpr c22
     clear c22
     obtain rfl := Option.some.inj H
     go_enter Tryd.func27, Tryd.ntmps27
     go_wp2_with (first | ((with_reducible refine gate_callee (f := 40) rfl ?_); refine goesL_ (some 11) rfl rfl Tryd.func40 (by kernel_rfl) rfl #[.string a2] rfl (by (try simp only [List.map_toArray, List.map_cons, List.map_nil]); first | done | rfl | (simp only [List.length_drop, List.length_take]; rfl)) ?_; (with_reducible refine (impl_longestGap.calls k a2 t182 t183 _ A4.out).mono ?_); rintro e w23 ⟨rfl, hb⟩; refine ⟨_, rfl, ?_⟩; have n0_ := am (below_step (hbS HB.out) hb); clear HB; have HB := n0_; clear n0_; (try clear hb); (try clear hb2); (try clear hk); (try clear hi)))
     go_ret
     exact ⟨by first | rfl | (simp [errW_none, errW_some] <;> rfl) | (simp [*, errW_none, errW_some] <;> rfl), hbS HB.out⟩
    ·rw [if_neg c22] at H
     have c22b0 : (a0 == 3) = false := beq_eq_false_iff_ne.mpr c22
     have c22b1 : (a0 != 3) = true := bne_iff_ne.mpr c22
     by_cases c24 : a0 = 4
     ·rw [if_pos c24] at H
      have c24b0 : (a0 == 4) = true := beq_iff_eq.mpr c24
      have c24b1 : (a0 != 4) = false := bne_eq_false_iff_eq.mpr c24
      clear c24
      replace H := Option.bind_eq_some_iff.mp H
      obtain ⟨t190, A250, H⟩ := H
      replace H : ((impl_sum.f k t190).bind fun t193 => (some t193)) = some r := H
      have A25 := am A250
      clear A250
      replace H := Option.bind_eq_some_iff.mp H
      obtain ⟨t193, A260, H⟩ := H
      replace H : (some t193) = some r := H
      have A26 := am A260
      clear A260
      obtain rfl := Option.some.inj H
      go_enter Tryd.func27, Tryd.ntmps27
      go_wp2_with (first | ((with_reducible refine gate_callee (f := 40) rfl ?_); refine goesL_ (some 11) rfl rfl Tryd.func40 (by kernel_rfl) rfl #[.string a2] rfl (by (try simp only [List.map_toArray, List.map_cons, List.map_nil]); first | done | rfl | (simp only [List.length_drop, List.length_take]; rfl)) ?_; (with_reducible refine (impl_longestGap.calls k a2 t182 t183 _ A4.out).mono ?_); rintro e w27 ⟨rfl, hb⟩; refine ⟨_, rfl, ?_⟩; have n0_ := am (below_step (hbS HB.out) hb); clear HB; have HB := n0_; clear n0_; (try clear hb); (try clear hb2); (try clear hk); (try clear hi)) | ((with_reducible refine gate_callee (f := 45) rfl ?_); refine goesL_ (some 42) rfl rfl Tryd.func45 (by kernel_rfl) rfl #[.string a2, .int .i64 a1] rfl (by (try simp only [List.map_toArray, List.map_cons, List.map_nil]); first | done | rfl | (simp only [List.length_drop, List.length_take]; rfl)) ?_; (with_reducible refine (impl_countBy.calls k a2 a1 t190 _ A25.out).mono ?_); rintro e w28 ⟨v191, rfl, ho0, hb⟩; refine ⟨_, rfl, ?_⟩; have n0_ := am (Kd.R_lower ho0 (below_size (hbS HB.out))); have n1_ := am (below_step (hbS HB.out) hb); clear HB; have HO192 := n0_; have HB := n1_; clear n0_ n1_; (try clear hb); (try clear hb2); (try clear hk); (try clear hi); (try clear ho0); obtain ⟨Ao29, co29, eo29⟩ := Kd.R_slice HO192.out; subst eo29) | ((with_reducible refine gate_callee (f := 44) rfl ?_); refine goesL_ (some 43) rfl rfl Tryd.func44 (by kernel_rfl) rfl #[.slice Ao29 t190.length co29] rfl (by (try simp only [List.map_toArray, List.map_cons, List.map_nil]); first | done | rfl | (simp only [List.length_drop, List.length_take]; rfl)) ?_; (with_reducible refine (impl_sum.calls k _ _ t190 t193 _ ?side1 ?side2 A26.out).mono ?_); (case side1 => repeat (first | exact (Kd.R_reads' HO192.out).2.2 | (with_reducible refine Kd.C_alloc ?_ _) | (with_reducible refine Kd.C_drewN ?_ _) | (with_reducible refine Kd.C_drew ?_))); (case side2 => exact (Kd.R_reads' HO192.out).2.1); rintro e w' ⟨rfl, ⟨nd, rfl⟩⟩; refine ⟨_, rfl, ?_⟩))
      go_ret
      exact ⟨by first | rfl | (simp [errW_none, errW_some] <;> rfl) | (simp [*, errW_none, errW_some] <;> rfl), hbS HB.out⟩
     ·rw [if_neg c24] at H
      have c24b0 : (a0 == 4) = false := beq_eq_false_iff_ne.mpr c24
      have c24b1 : (a0 != 4) = true := bne_iff_ne.mpr c24
      obtain rfl := Option.some.inj H
      go_enter Tryd.func27, Tryd.ntmps27
      go_wp2_with (first | ((with_reducible refine gate_callee (f := 40) rfl ?_); refine goesL_ (some 11) rfl rfl Tryd.func40 (by kernel_rfl) rfl #[.string a2] rfl (by (try simp only [List.map_toArray, List.map_cons, List.map_nil]); first | done | rfl | (simp only [List.length_drop, List.length_take]; rfl)) ?_; (with_reducible refine (impl_longestGap.calls k a2 t182 t183 _ A4.out).mono ?_); rintro e w30 ⟨rfl, hb⟩; refine ⟨_, rfl, ?_⟩; have n0_ := am (below_step (hbS HB.out) hb); clear HB; have HB := n0_; clear n0_; (try clear hb); (try clear hb2); (try clear hk); (try clear hi)))
      go_ret
      exact ⟨by first | rfl | (simp [errW_none, errW_some] <;> rfl) | (simp [*, errW_none, errW_some] <;> rfl), hbS HB.out⟩
/-! ### impl_Clue_fits: function 21 -/
def impl_Clue_fits.f (k : Nat) (a0_0 : Int) (a0_1 : Int) (a0_2 : Int) (a1 : ByteArray) : Option (Bool) := (impl_told.f k a0_0 a0_1 a1).bind fun t195 => (some (t195 == a0_2))
def impl_Clue_fits.T1 : Bool × List (List Nat × List Nat) := (true, [([], []), ([0], [0]), ([], []), ([2], [2]), ([], []), ([1, 3, 4], [1, 3, 4]), ([], []), ([6], [6]), ([5, 7], [5, 7]), ([8, 5, 0, 1, 2, 3, 4, 5, 6, 7, 8], [8])])
def impl_Clue_fits.B1 : List Nat := [0, 1, 0, 4, 0, 31, 0, 64, 255, 511]
theorem impl_Clue_fits.tab1 : rtab .any (opsOf Tryd.f21 1) = impl_Clue_fits.T1 := by kernel_rfl
theorem impl_Clue_fits.bits1 : waitsOk impl_Clue_fits.T1.2 impl_Clue_fits.B1 = true := by kernel_rfl
set_option maxHeartbeats 8000000 in
set_option maxRecDepth 100000 in
theorem impl_Clue_fits.calls (k : Nat) (a0_0 : Int) (a0_1 : Int) (a0_2 : Int) (a1 : ByteArray) (r : Bool) (w : World) (h : impl_Clue_fits.f k a0_0 a0_1 a0_2 a1 = some r) :
  Calls Tryd.prog 21 #[.agg #[.int .i64 a0_0, .int .i64 a0_1, .int .i64 a0_2], .string a1] w fun e w' => e = .returned (.bool r) ∧ Below w.heap.size w w' := by
 have hu26 := Tryd.underlying26
 have HB := am (Below.refl w.heap.size w)
 have H : ((impl_told.f k a0_0 a0_1 a1).bind fun t195 => (some (t195 == a0_2))) = some r := h
 clear h
 replace H := Option.bind_eq_some_iff.mp H
 obtain ⟨t195, A30, H⟩ := H
 replace H : (some (t195 == a0_2)) = some r := H
 have A3 := am A30
 clear A30
 obtain rfl := Option.some.inj H
 go_enter Tryd.func21, Tryd.ntmps21
 try go_wp2_with (first | ((with_reducible refine gate_dst (N := 2) rfl ?_); refine box_event ?hg (N := 2) ?hd (cs := #[.int .i64 a0_0, .int .i64 a0_1, .int .i64 a0_2]) (t := 26) ?hr ?_; (case hd => rfl); (case hg => rfl); (case hr => first | (go_simp; done) | (go_simp; rfl)); intro gb194 hg w4 hbox hb; have n0_ := am (below_step (hbS HB.out) hb); have n1_ := am (hbox); have n2_ := am (gwL (hbS HB.out) hg); have n3_ := n2_; clear HB; have HB := n0_; have BK194 := n1_; have GW194 := n2_; have GE194 := n3_; clear n0_ n1_ n2_ n3_; clear hb hbox hg))
 have n0_ := am (blk_drew BK194.out)
 have n1_ := am (below_drew1 HB.out)
 clear BK194
 clear HB
 have BK194 := n0_
 have HB := n1_
 clear n0_ n1_
 refine start_ (n := 10) (S := fun w' => w'.cell? ⟨gb194, 0, none⟩ = some (.int .i64 a0_0) ∧ w'.cell? ⟨gb194, 1, none⟩ = some (.int .i64 a0_1) ∧ w'.cell? ⟨gb194, 2, none⟩ = some (.int .i64 a0_2)) (ds := []) #[false, false, false, false, false, false, false, false, false, false] (by kernel_rfl) rfl rfl ⟨(blk_cell BK194.out 0).trans rfl, (blk_cell BK194.out 1).trans rfl, (blk_cell BK194.out 2).trans rfl⟩ (fun hHeld => ?_); refine with_tabW impl_Clue_fits.tab1 impl_Clue_fits.bits1 (fun HT_ HW_ => ?_)
 generalize w4.drew = w5 at BK194 HB hHeld ⊢
 refine pure_ (i := 0) (N := some 5) (v := ?_) (a' := ?_) #[true, false, false, false, false, false, false, false, false, false] rfl rfl (any_of HT_.out (by kernel_rfl)) (fun _ _ _ h => h) (Or.inl ⟨by rfl, ?_⟩) ?_ ?_
 rotate_left
 ·intro w'
  go_simp
  with_reducible rfl
 rotate_left
 ·simp only [Act.put, List.setIfInBounds_toArray, List.set_cons_zero, List.set_cons_succ, i64_w, i32_w]
  rfl
 refine pure_ (i := 2) (N := some 7) (v := ?_) (a' := ?_) #[true, false, true, false, false, false, false, false, false, false] rfl rfl (any_of HT_.out (by kernel_rfl)) (fun _ _ _ h => h) (Or.inl ⟨by rfl, ?_⟩) ?_ ?_
 rotate_left
 ·intro w'
  go_simp
  with_reducible rfl
 rotate_left
 ·simp only [Act.put, List.setIfInBounds_toArray, List.set_cons_zero, List.set_cons_succ, i64_w, i32_w]
  rfl
 refine pure_ (i := 4) (N := some 9) (v := ?_) (a' := ?_) #[true, false, true, false, true, false, false, false, false, false] rfl rfl (any_of HT_.out (by kernel_rfl)) (fun _ _ _ h => h) (Or.inl ⟨by rfl, ?_⟩) ?_ ?_
 rotate_left
 ·intro w'
  go_simp
  with_reducible rfl
 rotate_left
 ·simp only [Act.put, List.setIfInBounds_toArray, List.set_cons_zero, List.set_cons_succ, i64_w, i32_w]
  rfl
 refine pure_ (i := 6) (N := some 11) (v := ?_) (a' := ?_) #[true, false, true, false, true, false, true, false, false, false] rfl rfl (any_of HT_.out (by kernel_rfl)) (fun _ _ _ h => h) (Or.inl ⟨by rfl, ?_⟩) ?_ ?_
 rotate_left
 ·intro w'
  go_simp
  with_reducible rfl
 rotate_left
 ·simp only [Act.put, List.setIfInBounds_toArray, List.set_cons_zero, List.set_cons_succ, i64_w, i32_w]
  rfl
 refine take_ (i := 1) (N := some 6) (v := ?_) (a' := ?_) #[true, true, true, false, true, false, true, false, false, false] rfl rfl (take_ofW HT_.out HW_.out (by kernel_rfl)) (fun _ _ _ h => h) (Or.inl ⟨by rfl, ?_⟩) hHeld ?_ ?_
 rotate_left
 ·rintro w' ⟨s0, s1, s2⟩
  go_simp
  with_reducible rfl
 rotate_left
 ·simp only [Act.put, List.setIfInBounds_toArray, List.set_cons_zero, List.set_cons_succ, i64_w, i32_w]
  rfl
 refine take_ (i := 3) (N := some 8) (v := ?_) (a' := ?_) #[true, true, true, true, true, false, true, false, false, false] rfl rfl (take_ofW HT_.out HW_.out (by kernel_rfl)) (fun _ _ _ h => h) (Or.inl ⟨by rfl, ?_⟩) hHeld ?_ ?_
 rotate_left
 ·rintro w' ⟨s0, s1, s2⟩
  go_simp
  with_reducible rfl
 rotate_left
 ·simp only [Act.put, List.setIfInBounds_toArray, List.set_cons_zero, List.set_cons_succ, i64_w, i32_w]
  rfl
 refine take_ (i := 7) (N := some 12) (v := ?_) (a' := ?_) #[true, true, true, true, true, false, true, true, false, false] rfl rfl (take_ofW HT_.out HW_.out (by kernel_rfl)) (fun _ _ _ h => h) (Or.inl ⟨by rfl, ?_⟩) hHeld ?_ ?_
 rotate_left
 ·rintro w' ⟨s0, s1, s2⟩
  go_simp
  with_reducible rfl
 rotate_left
 ·simp only [Act.put, List.setIfInBounds_toArray, List.set_cons_zero, List.set_cons_succ, i64_w, i32_w]
  rfl
 refine one_ (i := 5) (N := some 10) #[true, true, true, true, true, true, true, true, false, false] rfl rfl (one_of HT_.out (by kernel_rfl)) (by decide) (fun K hK => ?_)
 refine goes_ Tryd.func27 (by kernel_rfl) rfl #[.int .i64 a0_0, .int .i64 a0_1, .string a1] (by rfl) rfl rfl (by (try simp only [List.map_toArray, List.map_cons, List.map_nil]); first | done | rfl | (simp only [List.length_drop, List.length_take]; rfl)) ?_
 with_reducible refine (impl_told.calls k a0_0 a0_1 a1 t195 _ A3.out).mono ?_
 rintro e w6 ⟨rfl, hb⟩
 refine ⟨_, rfl, ?_⟩
 have n0_ := am (blk_below (bkS BK194.out) hb)
 have n1_ := am (below_step (by repeat (first | (with_reducible first | exact HB.out | apply below_alloc | apply pw_below_drewN | apply below_drew1 | refine below_set ?_ GE194.out) | exact HB.out)) hb)
 clear BK194
 clear HB
 have BK194 := n0_
 have HB := n1_
 clear n0_ n1_
 (try clear hb)
 (try clear hb2)
 (try clear hk)
 (try clear hi)
 refine hK.out _ _ ⟨(blk_cell BK194.out 0).trans rfl, (blk_cell BK194.out 1).trans rfl, (blk_cell BK194.out 2).trans rfl⟩ (fun hHeld => ?_)
 clear hK K
 refine norm_ (a' := ?_) ?_ ?_
 rotate_left
 ·show Act.put _ (some 10) _ = _
  simp only [Act.put, List.setIfInBounds_toArray, List.set_cons_zero, List.set_cons_succ, i64_w, i32_w]
  rfl
 refine pure_ (i := 8) (N := some 13) (v := ?_) (a' := ?_) #[true, true, true, true, true, true, true, true, true, false] rfl rfl (any_of HT_.out (by kernel_rfl)) (fun _ _ _ h => h) (Or.inl ⟨by rfl, ?_⟩) ?_ ?_
 rotate_left
 ·intro w'
  go_simp
  with_reducible rfl
 rotate_left
 ·simp only [Act.put, List.setIfInBounds_toArray, List.set_cons_zero, List.set_cons_succ, i64_w, i32_w]
  rfl
 refine pure_ (i := 9) (N := some 4) (v := ?_) (a' := ?_) #[true, true, true, true, true, true, true, true, true, true] rfl rfl (any_of HT_.out (by kernel_rfl)) (fun _ _ _ h => h) (Or.inl ⟨by rfl, ?_⟩) ?_ ?_
 rotate_left
 ·intro w'
  go_simp
  with_reducible rfl
 rotate_left
 ·simp only [Act.put, List.setIfInBounds_toArray, List.set_cons_zero, List.set_cons_succ, i64_w, i32_w]
  rfl
 refine done_ (done_of HT_.out (by kernel_rfl)) ?_
 try go_wp2
 go_ret
 exact ⟨by first | rfl | (simp [errW_none, errW_some] <;> rfl) | (simp [*, errW_none, errW_some] <;> rfl), by repeat (first | (with_reducible first | exact HB.out | apply below_alloc | apply pw_below_drewN | apply below_drew1 | refine below_set ?_ GE194.out) | exact HB.out)⟩
end Go.Proofs.YticmboabiemniaaDoor.X
end
section
-- Written by a program of this session (wip/tools/mp.py) over the kit's print of the translation.
namespace Go.Proofs.YticmboabiemniaaDoor.X
open Go.Proofs.YticmboabiemniaaDoor.Sq Go.RowKit Go.Proofs.YticmboabiemniaaDoorW.PrintWords Go.Proofs.YticmboabiemniaaDoorW.PrintLast Go.Proofs.YticmboabiemniaaDoorW.PrintMore
attribute [local go_sem] max2_int min2_int max_two min_two max_three min_three max_four min_four   -- for this text's walks alone
set_option linter.unusedVariables false
set_option linter.unusedSimpArgs false
/-! ### impl_DoesFit: function 8 -/
def impl_DoesFit.f (k : Nat) (a0_0 : Int) (a0_1 : Int) (a0_2 : Int) (a1 : ByteArray) : Option (Bool × Bool) := (impl_isHidden.f a1).bind fun t197 => (if t197 = true then ((impl_IsClue.f k (a1.size : Int) a0_0 a0_1 a0_2).bind fun t198 => (if t198 = true then ((impl_Clue_fits.f k a0_0 a0_1 a0_2 a1).bind fun t199 => (some (t199, true))) else (some (false, false)))) else (some (false, false)))
set_option maxHeartbeats 8000000 in
set_option maxRecDepth 100000 in
theorem impl_DoesFit.calls (k : Nat) (a0_0 : Int) (a0_1 : Int) (a0_2 : Int) (a1 : ByteArray) (r1 : Bool) (r2 : Bool) (w : World) (h : impl_DoesFit.f k a0_0 a0_1 a0_2 a1 = some (r1, r2)) :
  Calls Tryd.prog 8 #[.agg #[.int .i64 a0_0, .int .i64 a0_1, .int .i64 a0_2], .string a1] w fun e w' => e = .returned (.tuple #[.bool r1, .bool r2]) ∧ Below w.heap.size w w' := by
 have hu26 := Tryd.underlying26
 have HB := am (Below.refl w.heap.size w)
 have H : ((impl_isHidden.f a1).bind fun t197 => (if t197 = true then ((impl_IsClue.f k (a1.size : Int) a0_0 a0_1 a0_2).bind fun t198 => (if t198 = true then ((impl_Clue_fits.f k a0_0 a0_1 a0_2 a1).bind fun t199 => (some (t199, true))) else (some (false, false)))) else (some (false, false)))) = some (r1, r2) := h
 clear h
 replace H := Option.bind_eq_some_iff.mp H
 obtain ⟨t197, A30, H⟩ := H
 replace H : (if t197 = true then ((impl_IsClue.f k (a1.size : Int) a0_0 a0_1 a0_2).bind fun t198 => (if t198 = true then ((impl_Clue_fits.f k a0_0 a0_1 a0_2 a1).bind fun t199 => (some (t199, true))) else (some (false, false)))) else (some (false, false))) = some (r1, r2) := H
 have A3 := am A30
 clear A30
 by_cases c4 : t197 = true
 ·subst c4
  have H1 : ((impl_IsClue.f k (a1.size : Int) a0_0 a0_1 a0_2).bind fun t198 => (if t198 = true then ((impl_Clue_fits.f k a0_0 a0_1 a0_2 a1).bind fun t199 => (some (t199, true))) else (some (false, false)))) = some (r1, r2) := by rw [if_pos rfl] at H; exact H
  clear H
  have H := H1
  clear H1
  replace H := Option.bind_eq_some_iff.mp H
  obtain ⟨t198, A50, H⟩ := H
  replace H : (if t198 = true then ((impl_Clue_fits.f k a0_0 a0_1 a0_2 a1).bind fun t199 => (some (t199, true))) else (some (false, false))) = some (r1, r2) := H
  have A5 := am A50
  clear A50
  by_cases c6 : t198 = true
  ·subst c6
   have H1 : ((impl_Clue_fits.f k a0_0 a0_1 a0_2 a1).bind fun t199 => (some (t199, true))) = some (r1, r2) := by rw [if_pos rfl] at H; exact H
   clear H
   have H := H1
   clear H1
   replace H := Option.bind_eq_some_iff.mp H
   obtain ⟨t199, A70, H⟩ := H
   replace H : (some (t199, true)) = some (r1, r2) := H
   have A7 := am A70
   clear A70
   simp only [Option.some.injEq, Prod.mk.injEq] at H
   obtain ⟨rfl, rfl⟩ := H
   go_enter Tryd.func8, Tryd.ntmps8
   go_wp2_with (first | ((with_reducible refine gate_dst (N := 2) rfl ?_); (try (refine gate_guard (by rfl) ?_; dsimp only)); refine box_event ?hg (N := 2) ?hd (cs := #[.int .i64 a0_0, .int .i64 a0_1, .int .i64 a0_2]) (t := 26) ?hr ?_; (case hd => rfl); (case hg => rfl); (case hr => first | (go_simp; done) | (go_simp; rfl)); intro gb196 hg w8 hbox hb; have n0_ := am (below_step (hbS HB.out) hb); have n1_ := am (hbox); have n2_ := am (gwL (hbS HB.out) hg); have n3_ := n2_; clear HB; have HB := n0_; have BK196 := n1_; have GW196 := n2_; have GE196 := n3_; clear n0_ n1_ n2_ n3_; clear hb hbox hg) | ((with_reducible refine gate_callee (f := 19) rfl ?_); refine goesL_ (some 7) rfl rfl Tryd.func19 (by kernel_rfl) rfl #[.string a1] rfl (by (try simp only [List.map_toArray, List.map_cons, List.map_nil]); first | done | rfl | (simp only [List.length_drop, List.length_take]; rfl)) ?_; (with_reducible refine (impl_isHidden.calls a1 true _ A3.out).mono ?_); rintro e w9 ⟨rfl, hb⟩; refine ⟨_, rfl, ?_⟩; have n0_ := am (blk_below (bkS BK196.out) hb); have n1_ := am (below_step (by repeat (first | (with_reducible first | exact HB.out | apply below_alloc | apply pw_below_drewN | apply below_drew1 | refine below_set ?_ GE196.out) | exact HB.out)) hb); clear BK196; clear HB; have BK196 := n0_; have HB := n1_; clear n0_ n1_; (try clear hb); (try clear hb2); (try clear hk); (try clear hi); have hcz10_0 : w9.cell? ⟨gb196, 0, none⟩ = some (.int .i64 a0_0) := (blk_cell BK196.out 0).trans rfl; have hcz10_1 : w9.cell? ⟨gb196, 1, none⟩ = some (.int .i64 a0_1) := (blk_cell BK196.out 1).trans rfl; have hcz10_2 : w9.cell? ⟨gb196, 2, none⟩ = some (.int .i64 a0_2) := (blk_cell BK196.out 2).trans rfl; have hfz10_0 := blk_frozen BK196.out 0; have hfz10_1 := blk_frozen BK196.out 1; have hfz10_2 := blk_frozen BK196.out 2) | (go_at_call 20; (with_reducible refine (impl_IsClue.calls k (a1.size : Int) a0_0 a0_1 a0_2 true _ A5.out).mono ?_); rintro e w11 ⟨rfl, hb⟩; have n0_ := am (blk_below (bkS BK196.out) hb); have n1_ := am (below_step (by repeat (first | (with_reducible first | exact HB.out | apply below_alloc | apply pw_below_drewN | apply below_drew1 | refine below_set ?_ GE196.out) | exact HB.out)) hb); clear BK196; clear HB; have BK196 := n0_; have HB := n1_; clear n0_ n1_; (try clear hb); (try clear hb2); (try clear hk); (try clear hi); have hcz12_0 : w11.cell? ⟨gb196, 0, none⟩ = some (.int .i64 a0_0) := (blk_cell BK196.out 0).trans rfl; have hcz12_1 : w11.cell? ⟨gb196, 1, none⟩ = some (.int .i64 a0_1) := (blk_cell BK196.out 1).trans rfl; have hcz12_2 : w11.cell? ⟨gb196, 2, none⟩ = some (.int .i64 a0_2) := (blk_cell BK196.out 2).trans rfl; have hfz12_0 := blk_frozen BK196.out 0; have hfz12_1 := blk_frozen BK196.out 1; have hfz12_2 := blk_frozen BK196.out 2) | ((with_reducible refine gate_callee (f := 21) rfl ?_); refine goesL_ (some 18) rfl rfl Tryd.func21 (by kernel_rfl) rfl #[.agg #[.int .i64 a0_0, .int .i64 a0_1, .int .i64 a0_2], .string a1] rfl (by (try simp only [List.map_toArray, List.map_cons, List.map_nil]); first | done | rfl | (simp only [List.length_drop, List.length_take]; rfl)) ?_; (with_reducible refine (impl_Clue_fits.calls k a0_0 a0_1 a0_2 a1 t199 _ A7.out).mono ?_); rintro e w13 ⟨rfl, hb⟩; refine ⟨_, rfl, ?_⟩; have n0_ := am (blk_below (bkS BK196.out) hb); have n1_ := am (below_step (by repeat (first | (with_reducible first | exact HB.out | apply below_alloc | apply pw_below_drewN | apply below_drew1 | refine below_set ?_ GE196.out) | exact HB.out)) hb); clear BK196; clear HB; have BK196 := n0_; have HB := n1_; clear n0_ n1_; (try clear hb); (try clear hb2); (try clear hk); (try clear hi)))
   go_ret2
   exact ⟨by first | rfl | (simp [errW_none, errW_some] <;> rfl) | (simp [*, errW_none, errW_some] <;> rfl), by repeat (first | (with_reducible first | exact HB.out | apply below_alloc | apply pw_below_drewN | apply below_drew1 | refine below_set ?_ GE196.out) | exact HB.out)⟩
  ·replace c6 := Bool.eq_false_iff.mpr c6
   subst c6
   have H1 : (some (false, false)) = some (r1, r2) := by rw [if_neg (show ¬ (false = true) by decide)] at H; exact H
   clear H
   have H := H1
   clear H1
   simp only [Option.some.injEq, Prod.mk.injEq] at H
   obtain ⟨rfl, rfl⟩ := H
   go_enter Tryd.func8, Tryd.ntmps8
   go_wp2_with (first | ((with_reducible refine gate_dst (N := 2) rfl ?_); (try (refine gate_guard (by rfl) ?_; dsimp only)); refine box_event ?hg (N := 2) ?hd (cs := #[.int .i64 a0_0, .int .i64 a0_1, .int .i64 a0_2]) (t := 26) ?hr ?_; (case hd => rfl); (case hg => rfl); (case hr => first | (go_simp; done) | (go_simp; rfl)); intro gb196 hg w14 hbox hb; have n0_ := am (below_step (hbS HB.out) hb); have n1_ := am (hbox); have n2_ := am (gwL (hbS HB.out) hg); have n3_ := n2_; clear HB; have HB := n0_; have BK196 := n1_; have GW196 := n2_; have GE196 := n3_; clear n0_ n1_ n2_ n3_; clear hb hbox hg) | ((with_reducible refine gate_callee (f := 19) rfl ?_); refine goesL_ (some 7) rfl rfl Tryd.func19 (by kernel_rfl) rfl #[.string a1] rfl (by (try simp only [List.map_toArray, List.map_cons, List.map_nil]); first | done | rfl | (simp only [List.length_drop, List.length_take]; rfl)) ?_; (with_reducible refine (impl_isHidden.calls a1 true _ A3.out).mono ?_); rintro e w15 ⟨rfl, hb⟩; refine ⟨_, rfl, ?_⟩; have n0_ := am (blk_below (bkS BK196.out) hb); have n1_ := am (below_step (by repeat (first | (with_reducible first | exact HB.out | apply below_alloc | apply pw_below_drewN | apply below_drew1 | refine below_set ?_ GE196.out) | exact HB.out)) hb); clear BK196; clear HB; have BK196 := n0_; have HB := n1_; clear n0_ n1_; (try clear hb); (try clear hb2); (try clear hk); (try clear hi); have hcz16_0 : w15.cell? ⟨gb196, 0, none⟩ = some (.int .i64 a0_0) := (blk_cell BK196.out 0).trans rfl; have hcz16_1 : w15.cell? ⟨gb196, 1, none⟩ = some (.int .i64 a0_1) := (blk_cell BK196.out 1).trans rfl; have hcz16_2 : w15.cell? ⟨gb196, 2, none⟩ = some (.int .i64 a0_2) := (blk_cell BK196.out 2).trans rfl; have hfz16_0 := blk_frozen BK196.out 0; have hfz16_1 := blk_frozen BK196.out 1; have hfz16_2 := blk_frozen BK196.out 2) | (go_at_call 20; (with_reducible refine (impl_IsClue.calls k (a1.size : Int) a0_0 a0_1 a0_2 false _ A5.out).mono ?_); rintro e w17 ⟨rfl, hb⟩; have n0_ := am (blk_below (bkS BK196.out) hb); have n1_ := am (below_step (by repeat (first | (with_reducible first | exact HB.out | apply below_alloc | apply pw_below_drewN | apply below_drew1 | refine below_set ?_ GE196.out) | exact HB.out)) hb); clear BK196; clear HB; have BK196 := n0_; have HB := n1_; clear n0_ n1_; (try clear hb); (try clear hb2); (try clear hk); (try clear hi)))
   go_ret2
   exact ⟨by first | rfl | (simp [errW_none, errW_some] <;> rfl) | (simp [*, errW_none, errW_some] <;> rfl), by repeat (first | (with_reducible first | exact HB.out | apply below_alloc | apply pw_below_drewN | apply below_drew1 | refine below_set ?_ GE196.out) | exact HB.out)⟩
 ·replace c4 := Bool.eq_false_iff.mpr c4
  subst c4
  have H1 : (some (false, false)) = some (r1, r2) := by rw [if_neg (show ¬ (false = true) by decide)] at H; exact H
  clear H
  have H := H1
  clear H1
  simp only [Option.some.injEq, Prod.mk.injEq] at H
  obtain ⟨rfl, rfl⟩ := H
  go_enter Tryd.func8, Tryd.ntmps8
  go_wp2_with (first | ((with_reducible refine gate_dst (N := 2) rfl ?_); (try (refine gate_guard (by rfl) ?_; dsimp only)); refine box_event ?hg (N := 2) ?hd (cs := #[.int .i64 a0_0, .int .i64 a0_1, .int .i64 a0_2]) (t := 26) ?hr ?_; (case hd => rfl); (case hg => rfl); (case hr => first | (go_simp; done) | (go_simp; rfl)); intro gb196 hg w18 hbox hb; have n0_ := am (below_step (hbS HB.out) hb); have n1_ := am (hbox); have n2_ := am (gwL (hbS HB.out) hg); have n3_ := n2_; clear HB; have HB := n0_; have BK196 := n1_; have GW196 := n2_; have GE196 := n3_; clear n0_ n1_ n2_ n3_; clear hb hbox hg) | ((with_reducible refine gate_callee (f := 19) rfl ?_); refine goesL_ (some 7) rfl rfl Tryd.func19 (by kernel_rfl) rfl #[.string a1] rfl (by (try simp only [List.map_toArray, List.map_cons, List.map_nil]); first | done | rfl | (simp only [List.length_drop, List.length_take]; rfl)) ?_; (with_reducible refine (impl_isHidden.calls a1 false _ A3.out).mono ?_); rintro e w19 ⟨rfl, hb⟩; refine ⟨_, rfl, ?_⟩; have n0_ := am (blk_below (bkS BK196.out) hb); have n1_ := am (below_step (by repeat (first | (with_reducible first | exact HB.out | apply below_alloc | apply pw_below_drewN | apply below_drew1 | refine below_set ?_ GE196.out) | exact HB.out)) hb); clear BK196; clear HB; have BK196 := n0_; have HB := n1_; clear n0_ n1_; (try clear hb); (try clear hb2); (try clear hk); (try clear hi)))
  go_ret2
  exact ⟨by first | rfl | (simp [errW_none, errW_some] <;> rfl) | (simp [*, errW_none, errW_some] <;> rfl), by repeat (first | (with_reducible first | exact HB.out | apply below_alloc | apply pw_below_drewN | apply below_drew1 | refine below_set ?_ GE196.out) | exact HB.out)⟩
/-! ### laws_FnExactDoesFit: function 3 -/
def laws_FnExactDoesFit.f (k : Nat) (a0_0 : Int) (a0_1 : Int) (a0_2 : Int) (a1 : ByteArray) : Option (Bool) := if (a1.size : Int) > 1048576 then (some true) else ((laws_toClue.f a0_0 a0_1 a0_2).bind fun bt201 => ((spec_DoesFit.f k bt201.1 bt201.2.1 bt201.2.2 a1).bind fun bt204 => ((laws_toClue.f a0_0 a0_1 a0_2).bind fun bt206 => ((impl_DoesFit.f k bt206.1 bt206.2.1 bt206.2.2 a1).bind fun bt209 => (if (bt209.1 != bt204.1) = true then (none) else (if (bt209.2 != bt204.2) = true then (none) else (some true)))))))
set_option maxHeartbeats 8000000 in
set_option maxRecDepth 100000 in
theorem laws_FnExactDoesFit.calls (k : Nat) (a0_0 : Int) (a0_1 : Int) (a0_2 : Int) (a1 : ByteArray) (r : Bool) (w : World) (h : laws_FnExactDoesFit.f k a0_0 a0_1 a0_2 a1 = some r) :
  Calls Tryd.prog 3 #[.agg #[.int .i64 a0_0, .int .i64 a0_1, .int .i64 a0_2], .string a1] w fun e w' => e = .returned (.bool r) ∧ Below w.heap.size w w' := by
 have hu23 := Tryd.underlying23
 have HB := am (Below.refl w.heap.size w)
 have H : (if (a1.size : Int) > 1048576 then (some true) else ((laws_toClue.f a0_0 a0_1 a0_2).bind fun bt201 => ((spec_DoesFit.f k bt201.1 bt201.2.1 bt201.2.2 a1).bind fun bt204 => ((laws_toClue.f a0_0 a0_1 a0_2).bind fun bt206 => ((impl_DoesFit.f k bt206.1 bt206.2.1 bt206.2.2 a1).bind fun bt209 => (if (bt209.1 != bt204.1) = true then (none) else (if (bt209.2 != bt204.2) = true then (none) else (some true)))))))) = some r := h
 clear h
 by_cases c3 : (a1.size : Int) > 1048576
 ·rw [if_pos c3] at H
  have c3b0 : decide (1048576 < (a1.size : Int)) = true := decide_eq_true c3
  have c3b1 : decide (1048576 < a1.size) = true := decide_eq_true (by omega)
  clear c3
  obtain rfl := Option.some.inj H
  go_enter Tryd.func3, Tryd.ntmps3
  go_wp2_with (first | ((with_reducible refine gate_dst (N := 2) rfl ?_); refine box_event ?hg (N := 2) ?hd (cs := #[.int .i64 a0_0, .int .i64 a0_1, .int .i64 a0_2]) (t := 23) ?hr ?_; (case hd => rfl); (case hg => rfl); (case hr => first | (go_simp; done) | (go_simp; rfl)); intro gb200 hg w4 hbox hb; have n0_ := am (below_step (hbS HB.out) hb); have n1_ := am (hbox); have n2_ := am (gwL (hbS HB.out) hg); have n3_ := n2_; clear HB; have HB := n0_; have BK200 := n1_; have GW200 := n2_; have GE200 := n3_; clear n0_ n1_ n2_ n3_; clear hb hbox hg))
  go_ret
  exact ⟨by first | rfl | (simp [errW_none, errW_some] <;> rfl) | (simp [*, errW_none, errW_some] <;> rfl), by repeat (first | (with_reducible first | exact HB.out | apply below_alloc | apply pw_below_drewN | apply below_drew1 | refine below_set ?_ GE200.out) | exact HB.out)⟩
 ·rw [if_neg c3] at H
  have c3b0 : decide (1048576 < (a1.size : Int)) = false := decide_eq_false c3
  have c3b1 : decide (1048576 < a1.size) = false := decide_eq_false (by omega)
  clear c3
  replace H := Option.bind_eq_some_iff.mp H
  obtain ⟨⟨t201, t202, t203⟩, A50, H⟩ := H
  replace H : ((spec_DoesFit.f k t201 t202 t203 a1).bind fun bt204 => ((laws_toClue.f a0_0 a0_1 a0_2).bind fun bt206 => ((impl_DoesFit.f k bt206.1 bt206.2.1 bt206.2.2 a1).bind fun bt209 => (if (bt209.1 != bt204.1) = true then (none) else (if (bt209.2 != bt204.2) = true then (none) else (some true)))))) = some r := H
  have A5 := am A50
  clear A50
  replace H := Option.bind_eq_some_iff.mp H
  obtain ⟨⟨t204, t205⟩, A60, H⟩ := H
  replace H : ((laws_toClue.f a0_0 a0_1 a0_2).bind fun bt206 => ((impl_DoesFit.f k bt206.1 bt206.2.1 bt206.2.2 a1).bind fun bt209 => (if (bt209.1 != t204) = true then (none) else (if (bt209.2 != t205) = true then (none) else (some true))))) = some r := H
  have A6 := am A60
  clear A60
  replace H := Option.bind_eq_some_iff.mp H
  obtain ⟨⟨t206, t207, t208⟩, A70, H⟩ := H
  replace H : ((impl_DoesFit.f k t206 t207 t208 a1).bind fun bt209 => (if (bt209.1 != t204) = true then (none) else (if (bt209.2 != t205) = true then (none) else (some true)))) = some r := H
  have A7 := am A70
  clear A70
  replace H := Option.bind_eq_some_iff.mp H
  obtain ⟨⟨t209, t210⟩, A80, H⟩ := H
  replace H : (if (t209 != t204) = true then (none) else (if (t210 != t205) = true then (none) else (some true))) = some r := H
  have A8 := am A80
  clear A80
  by_cases c9 : (t209 != t204) = true
  ·rw [if_pos c9] at H
   exact absurd H (by simp)
  ·rw [if_neg c9] at H
   have c9b0 : (t209 != t204) = false := by simpa using c9
   (try (have c9b1 : decide (t209 = t204) = true := by simpa using c9))
   (try (have c9b2 : (t209 == t204) = true := by simpa using c9))
   clear c9
   by_cases c10 : (t210 != t205) = true
   ·rw [if_pos c10] at H
    exact absurd H (by simp)
   ·rw [if_neg c10] at H
    have c10b0 : (t210 != t205) = false := by simpa using c10
    (try (have c10b1 : decide (t210 = t205) = true := by simpa using c10))
    (try (have c10b2 : (t210 == t205) = true := by simpa using c10))
    clear c10
    obtain rfl := Option.some.inj H
    go_enter Tryd.func3, Tryd.ntmps3
    go_wp2_with (first | ((with_reducible refine gate_dst (N := 2) rfl ?_); refine box_event ?hg (N := 2) ?hd (cs := #[.int .i64 a0_0, .int .i64 a0_1, .int .i64 a0_2]) (t := 23) ?hr ?_; (case hd => rfl); (case hg => rfl); (case hr => first | (go_simp; done) | (go_simp; rfl)); intro gb200 hg w11 hbox hb; have n0_ := am (below_step (hbS HB.out) hb); have n1_ := am (hbox); have n2_ := am (gwL (hbS HB.out) hg); have n3_ := n2_; clear HB; have HB := n0_; have BK200 := n1_; have GW200 := n2_; have GE200 := n3_; clear n0_ n1_ n2_ n3_; clear hb hbox hg; have hcz12_0 : w11.cell? ⟨gb200, 0, none⟩ = some (.int .i64 a0_0) := (blk_cell BK200.out 0).trans rfl; have hcz12_1 : w11.cell? ⟨gb200, 1, none⟩ = some (.int .i64 a0_1) := (blk_cell BK200.out 1).trans rfl; have hcz12_2 : w11.cell? ⟨gb200, 2, none⟩ = some (.int .i64 a0_2) := (blk_cell BK200.out 2).trans rfl; have hfz12_0 := blk_frozen BK200.out 0; have hfz12_1 := blk_frozen BK200.out 1; have hfz12_2 := blk_frozen BK200.out 2) | ((with_reducible refine gate_callee (f := 7) rfl ?_); refine goesL_ (some 14) rfl rfl Tryd.func7 (by kernel_rfl) rfl #[.agg #[.int .i64 a0_0, .int .i64 a0_1, .int .i64 a0_2]] rfl (by (try simp only [List.map_toArray, List.map_cons, List.map_nil]); first | done | rfl | (simp only [List.length_drop, List.length_take]; rfl)) ?_; (with_reducible refine (laws_toClue.calls a0_0 a0_1 a0_2 t201 t202 t203 _ A5.out).mono ?_); rintro e w13 ⟨rfl, hb⟩; refine ⟨_, rfl, ?_⟩; have n0_ := am (blk_below (bkS BK200.out) hb); have n1_ := am (below_step (by repeat (first | (with_reducible first | exact HB.out | apply below_alloc | apply pw_below_drewN | apply below_drew1 | refine below_set ?_ GE200.out) | exact HB.out)) hb); clear BK200; clear HB; have BK200 := n0_; have HB := n1_; clear n0_ n1_; (try clear hb); (try clear hb2); (try clear hk); (try clear hi)) | ((with_reducible refine gate_callee (f := 6) rfl ?_); refine goesL_ (some 16) rfl rfl Tryd.func6 (by kernel_rfl) rfl #[.agg #[.int .i64 t201, .int .i64 t202, .int .i64 t203], .string a1] rfl (by (try simp only [List.map_toArray, List.map_cons, List.map_nil]); first | done | rfl | (simp only [List.length_drop, List.length_take]; rfl)) ?_; (with_reducible refine (spec_DoesFit.calls k t201 t202 t203 a1 t204 t205 _ A6.out).mono ?_); rintro e w14 ⟨rfl, hb⟩; refine ⟨_, rfl, ?_⟩; have n0_ := am (blk_below (bkS BK200.out) hb); have n1_ := am (below_step (by repeat (first | (with_reducible first | exact HB.out | apply below_alloc | apply pw_below_drewN | apply below_drew1 | refine below_set ?_ GE200.out) | exact HB.out)) hb); clear BK200; clear HB; have BK200 := n0_; have HB := n1_; clear n0_ n1_; (try clear hb); (try clear hb2); (try clear hk); (try clear hi); have hcz15_0 : w14.cell? ⟨gb200, 0, none⟩ = some (.int .i64 a0_0) := (blk_cell BK200.out 0).trans rfl; have hcz15_1 : w14.cell? ⟨gb200, 1, none⟩ = some (.int .i64 a0_1) := (blk_cell BK200.out 1).trans rfl; have hcz15_2 : w14.cell? ⟨gb200, 2, none⟩ = some (.int .i64 a0_2) := (blk_cell BK200.out 2).trans rfl; have hfz15_0 := blk_frozen BK200.out 0; have hfz15_1 := blk_frozen BK200.out 1; have hfz15_2 := blk_frozen BK200.out 2) | ((with_reducible refine gate_callee (f := 7) rfl ?_); refine goesL_ (some 21) rfl rfl Tryd.func7 (by kernel_rfl) rfl #[.agg #[.int .i64 a0_0, .int .i64 a0_1, .int .i64 a0_2]] rfl (by (try simp only [List.map_toArray, List.map_cons, List.map_nil]); first | done | rfl | (simp only [List.length_drop, List.length_take]; rfl)) ?_; (with_reducible refine (laws_toClue.calls a0_0 a0_1 a0_2 t206 t207 t208 _ A7.out).mono ?_); rintro e w16 ⟨rfl, hb⟩; refine ⟨_, rfl, ?_⟩; have n0_ := am (blk_below (bkS BK200.out) hb); have n1_ := am (below_step (by repeat (first | (with_reducible first | exact HB.out | apply below_alloc | apply pw_below_drewN | apply below_drew1 | refine below_set ?_ GE200.out) | exact HB.out)) hb); clear BK200; clear HB; have BK200 := n0_; have HB := n1_; clear n0_ n1_; (try clear hb); (try clear hb2); (try clear hk); (try clear hi)) | ((with_reducible refine gate_callee (f := 8) rfl ?_); refine goesL_ (some 23) rfl rfl Tryd.func8 (by kernel_rfl) rfl #[.agg #[.int .i64 t206, .int .i64 t207, .int .i64 t208], .string a1] rfl (by (try simp only [List.map_toArray, List.map_cons, List.map_nil]); first | done | rfl | (simp only [List.length_drop, List.length_take]; rfl)) ?_; (with_reducible refine (impl_DoesFit.calls k t206 t207 t208 a1 t209 t210 _ A8.out).mono ?_); rintro e w17 ⟨rfl, hb⟩; refine ⟨_, rfl, ?_⟩; have n0_ := am (blk_below (bkS BK200.out) hb); have n1_ := am (below_step (by repeat (first | (with_reducible first | exact HB.out | apply below_alloc | apply pw_below_drewN | apply below_drew1 | refine below_set ?_ GE200.out) | exact HB.out)) hb); clear BK200; clear HB; have BK200 := n0_; have HB := n1_; clear n0_ n1_; (try clear hb); (try clear hb2); (try clear hk); (try clear hi)))
    go_ret
    exact ⟨by first | rfl | (simp [errW_none, errW_some] <;> rfl) | (simp [*, errW_none, errW_some] <;> rfl), by repeat (first | (with_reducible first | exact HB.out | apply below_alloc | apply pw_below_drewN | apply below_drew1 | refine below_set ?_ GE200.out) | exact HB.out)⟩
end Go.Proofs.YticmboabiemniaaDoor.X
end
section
-- Written by a program of this session (wip/tools/mp.py) over the kit's print of the translation.
namespace Go.Proofs.YticmboabiemniaaDoor.X
open Go.RowKit Go.Proofs.YticmboabiemniaaDoorW.PrintWords Go.Proofs.YticmboabiemniaaDoorW.PrintLast Go.Proofs.YticmboabiemniaaDoorW.PrintMore
attribute [local go_sem] max2_int min2_int max_two min_two max_three min_three max_four min_four   -- for this text's walks alone
set_option linter.unusedVariables false
set_option linter.unusedSimpArgs false
/-- The pure statement of FnExactDoesFit. -/
def laws_FnExactDoesFit.Pure : Prop := ∀ (a0_0 : Int) (a0_1 : Int) (a0_2 : Int) (a1 : ByteArray), (Lit.int .i64 a0_0).wf = true → (Lit.int .i64 a0_1).wf = true → (Lit.int .i64 a0_2).wf = true → a1.size ≤ 140737488351232 → ∃ k, laws_FnExactDoesFit.f k a0_0 a0_1 a0_2 a1 = some true
end Go.Proofs.YticmboabiemniaaDoor.X
end
section
/- Small words on rounds, numbers and lists. -/
namespace Go.Proofs.YticmboabiemniaaDoor.X
open Go.Proofs.YticmboabiemniaaDoor.Sq Go.RowKit Go.Proofs.YticmboabiemniaaDoorW.PrintWords Go.Proofs.YticmboabiemniaaDoorW.PrintLast Go.Proofs.YticmboabiemniaaDoorW.PrintMore
attribute [local go_sem] max2_int min2_int max_two min_two max_three min_three max_four min_four   -- for this text's walks alone
set_option linter.unusedVariables false
set_option linter.unusedSimpArgs false
theorem w64 {x : Int} (h : -9223372036854775808 ≤ x) (h' : x ≤ 9223372036854775807) : wrap64 x = x := by
  unfold wrap64
  omega
theorem evPos {α : Type} {c : Prop} [Decidable c] {g f : Nat → Option α} {r : α} (hc : c) (h : Ev g r) : Ev (fun k => if c then g k else f k) r := by
  obtain ⟨K, hK⟩ := h
  exact ⟨K, fun k hk => (if_pos hc).trans (hK k hk)⟩
theorem evNeg {α : Type} {c : Prop} [Decidable c] {g f : Nat → Option α} {r : α} (hc : ¬ c) (h : Ev f r) : Ev (fun k => if c then g k else f k) r := by
  obtain ⟨K, hK⟩ := h
  exact ⟨K, fun k hk => (if_neg hc).trans (hK k hk)⟩
theorem evSplit {α : Type} {c : Prop} [Decidable c] {g f : Nat → Option α} {r : α} (h : c → Ev g r) (h' : ¬ c → Ev f r) : Ev (fun k => if c then g k else f k) r := by
  by_cases hc : c
  · exact evPos hc (h hc)
  · exact evNeg hc (h' hc)
theorem evBind0 {α β : Type} {o : Option α} {f : Nat → α → Option β} {a : α} {r : β} (h : o = some a) (k : Ev (fun n => f n a) r) : Ev (fun n => o.bind (f n)) r := by
  obtain ⟨K, hK⟩ := k
  exact ⟨K, fun k hk => by rw [h]; exact hK k hk⟩
theorem evEq {α : Type} {g : Nat → Option α} {r r' : α} (h : Ev g r) (e : r = r') : Ev g r' := e ▸ h
theorem evSome {α : Type} {r r' : α} (e : r = r') : Ev (fun _ => some r) r' := ⟨0, fun _ _ => by rw [e]⟩
theorem getD_drop_cons {α : Type} (l : List α) (i : Nat) (d : α) (h : i < l.length) : l.drop i = l.getD i d :: l.drop (i + 1) := by
  rw [List.drop_eq_getElem_cons h, List.getD_eq_getElem?_getD, List.getElem?_eq_getElem h]
  rfl
theorem getD_map' {α β : Type} (l : List α) (f : α → β) (i : Nat) (d : α) (e : β) (h : i < l.length) : (l.map f).getD i e = f (l.getD i d) := by
  rw [List.getD_eq_getElem?_getD, List.getD_eq_getElem?_getD, List.getElem?_map, List.getElem?_eq_getElem h]
  rfl
theorem getElem_getD {α : Type} (l : List α) (i : Nat) (d : α) (h : i < l.length) : l[i]'h = l.getD i d := by
  rw [List.getD_eq_getElem?_getD, List.getElem?_eq_getElem h]
  rfl
theorem getD_range_map {α : Type} (f : Nat → α) (n i : Nat) (d : α) (h : i < n) : ((List.range n).map f).getD i d = f i := by
  rw [List.getD_eq_getElem?_getD, List.getElem?_map, List.getElem?_range h]
  rfl
end Go.Proofs.YticmboabiemniaaDoor.X
end
section
/- A number within bounds. -/
--! needs impl_within spec_l1In
namespace Go.Proofs.YticmboabiemniaaDoor.X
open Go.Proofs.YticmboabiemniaaDoor.Sq Go.RowKit Go.Proofs.YticmboabiemniaaDoorW.PrintWords Go.Proofs.YticmboabiemniaaDoorW.PrintLast Go.Proofs.YticmboabiemniaaDoorW.PrintMore
attribute [local go_sem] max2_int min2_int max_two min_two max_three min_three max_four min_four   -- for this text's walks alone
set_option linter.unusedVariables false
set_option linter.unusedSimpArgs false
def inB (a l h : Int) : Bool := decide (l ≤ a) && decide (a ≤ h)
theorem within_eq (a l h : Int) : impl_within.f a l h = some (inB a l h) := by
  unfold impl_within.f inB
  by_cases c : l ≤ a <;> simp [c]
theorem l1In_eq (a l h : Int) : spec_l1In.f a l h = some (inB a l h) := by
  unfold spec_l1In.f inB
  by_cases c : l ≤ a
  · rw [if_pos (by omega)]; simp [c]
  · rw [if_neg (by omega)]; simp [c]
end Go.Proofs.YticmboabiemniaaDoor.X
end
section
/- What makes a clue, in plain Lean: the program's and the reference's test come to the same. -/
--! needs LIn impl_IsClue spec_pzClue impl_arePlacesOf
namespace Go.Proofs.YticmboabiemniaaDoor.X
open Go.Proofs.YticmboabiemniaaDoor.Sq Go.RowKit Go.Proofs.YticmboabiemniaaDoorW.PrintWords Go.Proofs.YticmboabiemniaaDoorW.PrintLast Go.Proofs.YticmboabiemniaaDoorW.PrintMore
attribute [local go_sem] max2_int min2_int max_two min_two max_three min_three max_four min_four   -- for this text's walks alone
set_option linter.unusedVariables false
set_option linter.unusedSimpArgs false
def clueB (p k a b : Int) : Bool :=
  if k = 0 ∨ k = 5 then decide (a = 0) && inB b 0 p else if k = 1 then inB a 1 p && inB b 0 1 else if k = 2 then inB a 1 9 && inB b 0 9 else if k = 3 then decide (a = 0) && inB b 1 9 else if k = 4 then inB a 1 9 && inB b 0 256 else false
theorem arePlacesOf_eq (p : Int) : impl_arePlacesOf.f p = some (inB p 1 8) := by
  unfold impl_arePlacesOf.f
  rw [within_eq]; rfl
theorem pzClue_eq (n : Nat) (p k a b : Int) : spec_pzClue.f (n + 1) p k a b = some (clueB p k a b) := by
  unfold spec_pzClue.f clueB
  simp only [spec_pzClue.j0, l1In_eq, Option.bind_some]
  by_cases h0 : k = 0
  · subst h0; by_cases ha : a = 0 <;> simp [ha]
  · by_cases h5 : k = 5
    · subst h5; by_cases ha : a = 0 <;> simp [ha]
    · simp only [h0, h5, if_false, or_false, beq_iff_eq]
      by_cases h1 : k = 1
      · simp only [h1, if_true]; cases inB a 1 p <;> simp
      · by_cases h2 : k = 2
        · subst h2; cases h : inB a 1 9 <;> simp
        · by_cases h3 : k = 3
          · subst h3; by_cases ha : a = 0 <;> simp [ha]
          · by_cases h4 : k = 4
            · subst h4; cases h : inB a 1 9 <;> simp
            · simp [h1, h2, h3, h4]
theorem IsClue_impl (n : Nat) (p k a b : Int) : impl_IsClue.f (n + 1) p k a b = some (inB p 1 8 && clueB p k a b) := by
  unfold impl_IsClue.f clueB
  rw [arePlacesOf_eq]
  cases inB p 1 8
  · simp
  simp only [impl_IsClue.j0, within_eq, Option.bind_some, if_true, Bool.true_and]
  by_cases h0 : k = 0
  · subst h0; by_cases ha : a = 0 <;> simp [ha]
  · by_cases h5 : k = 5
    · subst h5; by_cases ha : a = 0 <;> simp [ha]
    · simp only [h0, h5, if_false, or_false, beq_iff_eq]
      by_cases h1 : k = 1
      · simp only [h1, if_true]; cases inB a 1 p <;> simp
      · by_cases h2 : k = 2
        · subst h2; cases h : inB a 1 9 <;> simp
        · by_cases h3 : k = 3
          · subst h3; by_cases ha : a = 0 <;> simp [ha]
          · by_cases h4 : k = 4
            · subst h4; cases h : inB a 1 9 <;> simp
            · simp [h1, h2, h3, h4]
def okClue (p : Int) (c : S26) : Bool := clueB p c.f0 c.f1 c.f2
end Go.Proofs.YticmboabiemniaaDoor.X
end
section
/- The places on which one stands, and the greatest gap: the program and the reference. -/
--! needs LBase spec_rvStand spec_rvGap impl_stand impl_longestGap
namespace Go.Proofs.YticmboabiemniaaDoor.X
open Go.Proofs.YticmboabiemniaaDoor.Sq Go.RowKit Go.Proofs.YticmboabiemniaaDoorW.PrintWords Go.Proofs.YticmboabiemniaaDoorW.PrintLast Go.Proofs.YticmboabiemniaaDoorW.PrintMore
attribute [local go_sem] max2_int min2_int max_two min_two max_three min_three max_four min_four   -- for this text's walks alone
set_option linter.unusedVariables false
set_option linter.unusedSimpArgs false
def pl (r : ByteArray) (p : Nat) : Bool := decide (p = 0) || decide (p = r.size + 1) || (bt r ((p : Int) - 1) == 111)
def ints (l : List Nat) : List Int := l.map (fun (x : Nat) => (x : Int))
def stL (r : ByteArray) : List Nat := (List.range (r.size + 2)).filter (pl r)
theorem rvStand_eq (r : ByteArray) (hr : r.size ≤ 100) (p : Nat) (hp : p ≤ r.size + 1) : spec_rvStand.f r (p : Int) = some (pl r p) := by
  unfold spec_rvStand.f pl
  rw [w64 (x := (r.size : Int) + 1) (by omega) (by omega), w64 (x := (p : Int) - 1) (by omega) (by omega)]
  by_cases h0 : p = 0
  · subst h0
    rw [if_pos (show ((0 : Nat) : Int) = 0 from rfl)]
    simp
  rw [if_neg (by omega)]
  by_cases h1 : p = r.size + 1
  · rw [if_pos (by omega)]
    simp [h1]
  rw [if_neg (by omega), if_pos (by omega), if_pos (by omega)]
  simp [h0, h1]
theorem stand_l0 (r : ByteArray) (hr : r.size ≤ 100) (d : Nat) : ∀ i : Nat, i + d = r.size → Ev (fun k => impl_stand.l0 k r (ints ((List.range (i + 1)).filter (pl r))) (r.size : Int) (i : Int)) (ints (stL r)) := by
  have hlen : ∀ i : Nat, i ≤ r.size → (ints ((List.range (i + 1)).filter (pl r))).length < 17592186044416 := fun i hi => by
    unfold ints
    rw [List.length_map]
    have := List.length_filter_le (pl r) (List.range (i + 1))
    rw [List.length_range] at this
    omega
  induction d with
  | zero =>
    intro i hi
    obtain rfl : i = r.size := by omega
    refine Ev.step (fun k => by rw [impl_stand.l0]) ?_
    refine evNeg (by omega) (evPos (hlen _ (Nat.le_refl _)) (evSome ?_))
    rw [w64 (by omega) (by omega)]
    unfold stL
    rw [List.range_succ (n := r.size + 1), List.filter_append]
    have : pl r (r.size + 1) = true := by simp [pl]
    simp [ints, this]
  | succ d ih =>
    intro i hi
    refine Ev.step (fun k => by rw [impl_stand.l0]) ?_
    refine evPos (by omega) (evPos (by omega) (evPos (by omega) ?_))
    have h2 := ih (i + 1) (by omega)
    have hp : pl r (i + 1) = (bt r (i : Int) == 111) := by
      unfold pl
      have e : ((i + 1 : Nat) : Int) - 1 = (i : Int) := by omega
      rw [e]
      simp
      omega
    rw [List.range_succ (n := i + 1), List.filter_append] at h2
    rw [w64 (x := (i : Int) + 1) (by omega) (by omega)]
    refine evSplit (fun hb => ?_) (fun hb => ?_)
    · refine evPos (hlen _ (by omega)) ?_
      have : pl r (i + 1) = true := by rw [hp, hb]; rfl
      simpa [ints, this] using h2
    · have : pl r (i + 1) = false := by rw [hp]; simpa using hb
      simpa [ints, this] using h2
theorem stand_ev (r : ByteArray) (hr : r.size ≤ 100) : Ev (fun k => impl_stand.f k r) (ints (stL r)) := by
  unfold impl_stand.f
  have h := stand_l0 r hr r.size 0 (by omega)
  have : (ints ((List.range (0 + 1)).filter (pl r))) = [0] := by
    have : pl r 0 = true := by simp [pl]
    simp [ints, List.range_succ, this]
  rw [this] at h
  simpa using h
theorem stL_cons (r : ByteArray) : stL r = 0 :: (List.range' 1 (r.size + 1)).filter (pl r) := by
  unfold stL
  rw [List.range_eq_range', show r.size + 2 = (r.size + 1) + 1 by omega, List.range'_succ]
  have : pl r 0 = true := by simp [pl]
  simp [this]
theorem stL_le (r : ByteArray) (x : Nat) (h : x ∈ stL r) : x ≤ r.size + 1 := by
  unfold stL at h
  have := List.mem_range.1 (List.mem_filter.1 h).1
  omega
/-- The greatest gap of places, and where it begins. -/
def gapOf (m f : Int) (l : Nat) : List Nat → Int × Int
 | [] => (m, f)
 | p :: t => if (p : Int) - (l : Int) > m then gapOf ((p : Int) - (l : Int)) (l : Int) p t else gapOf m f p t
theorem rvGap_l0 (r : ByteArray) (hr : r.size ≤ 100) (d : Nat) : ∀ (p l : Nat) (m f : Int), p + d = r.size + 2 → l ≤ 101 → Ev (fun k => spec_rvGap.l0 k r m f (l : Int) (p : Int)) (gapOf m f l ((List.range' p d).filter (pl r))) := by
  induction d with
  | zero =>
    intro p l m f hp hl
    refine Ev.step (fun k => by rw [spec_rvGap.l0]) ?_
    rw [w64 (x := (r.size : Int) + 1) (by omega) (by omega)]
    exact evNeg (by omega) (evSome rfl)
  | succ d ih =>
    intro p l m f hp hl
    refine Ev.step (fun k => by rw [spec_rvGap.l0]) ?_
    rw [w64 (x := (r.size : Int) + 1) (by omega) (by omega), w64 (x := (p : Int) + 1) (by omega) (by omega), w64 (x := (p : Int) - (l : Int)) (by omega) (by omega)]
    refine evPos (by omega) (evBind0 (rvStand_eq r hr p (by omega)) ?_)
    rw [List.range'_succ]
    cases hs : pl r p with
    | true =>
      rw [List.filter_cons_of_pos hs]
      refine evPos rfl ?_
      unfold gapOf
      by_cases hg : (p : Int) - (l : Int) > m
      · rw [if_pos hg]
        exact evPos hg (ih (p + 1) p _ _ (by omega) (by omega))
      · rw [if_neg hg]
        exact evNeg hg (ih (p + 1) p _ _ (by omega) (by omega))
    | false =>
      rw [List.filter_cons_of_neg (by simp [hs])]
      exact evNeg (by simp) (ih (p + 1) l _ _ (by omega) hl)
theorem rvGap_ev (r : ByteArray) (hr : r.size ≤ 100) : Ev (fun k => spec_rvGap.f k r) (gapOf 0 0 0 ((List.range' 1 (r.size + 1)).filter (pl r))) := by
  unfold spec_rvGap.f
  exact rvGap_l0 r hr (r.size + 1) 1 0 0 0 (by omega) (by omega)
theorem rd_ints (L : List Nat) (i : Nat) (h : i < L.length) : rd (ints L) (i : Int) = ((L.getD i 0 : Nat) : Int) := by
  unfold rd ints
  rw [Int.toNat_natCast]
  exact getD_map' L _ i 0 0 h
theorem longestGap_l0 (L : List Nat) (hL : ∀ x ∈ L, x ≤ 101) (hlen : L.length ≤ 1000) (d : Nat) : ∀ (i : Nat) (m f : Int), i + 1 + d = L.length → Ev (fun k => impl_longestGap.l0 k (ints L) m f ((i + 1 : Nat) : Int)) (gapOf m f (L.getD i 0) (L.drop (i + 1))) := by
  have hl : (ints L).length = L.length := by simp [ints]
  have hle : ∀ i, i < L.length → L.getD i 0 ≤ 101 := fun i hi => by
    rw [← getElem_getD L i 0 hi]
    exact hL _ (List.getElem_mem hi)
  induction d with
  | zero =>
    intro i m f hi
    refine Ev.step (fun k => by rw [impl_longestGap.l0]) ?_
    refine evNeg (by rw [hl]; omega) (evSome ?_)
    rw [List.drop_of_length_le (by omega)]
    rfl
  | succ d ih =>
    intro i m f hi
    refine Ev.step (fun k => by rw [impl_longestGap.l0]) ?_
    have h1 := hle i (by omega)
    have h2 := hle (i + 1) (by omega)
    have e1 : wrap64 (((i + 1 : Nat) : Int) - 1) = (i : Int) := by rw [w64 (by omega) (by omega)]; omega
    have e2 : wrap64 (((i + 1 : Nat) : Int) + 1) = ((i + 1 + 1 : Nat) : Int) := by rw [w64 (by omega) (by omega)]; omega
    rw [e1, e2, rd_ints L (i + 1) (by omega), rd_ints L i (by omega)]
    have e3 : wrap64 (((L.getD (i + 1) 0 : Nat) : Int) - ((L.getD i 0 : Nat) : Int)) = ((L.getD (i + 1) 0 : Nat) : Int) - ((L.getD i 0 : Nat) : Int) := w64 (by omega) (by omega)
    rw [e3]
    refine evPos (by rw [hl]; omega) (evPos (by omega) (evPos (by omega) (evPos (by rw [hl]; omega) ?_)))
    rw [getD_drop_cons L (i + 1) 0 (by omega)]
    unfold gapOf
    by_cases hg : ((L.getD (i + 1) 0 : Nat) : Int) - ((L.getD i 0 : Nat) : Int) > m
    · rw [if_pos hg]
      exact evPos hg (ih (i + 1) _ _ (by omega))
    · rw [if_neg hg]
      exact evNeg hg (ih (i + 1) _ _ (by omega))
theorem longestGap_ev (r : ByteArray) (hr : r.size ≤ 100) : Ev (fun k => impl_longestGap.f k r) (gapOf 0 0 0 ((List.range' 1 (r.size + 1)).filter (pl r))) := by
  unfold impl_longestGap.f
  refine Ev.bind (stand_ev r hr) ?_
  have hc := stL_cons r
  have hlen : (stL r).length ≤ 102 := by
    unfold stL
    have := List.length_filter_le (pl r) (List.range (r.size + 2))
    rw [List.length_range] at this
    omega
  have h := longestGap_l0 (stL r) (fun x hx => by have := stL_le r x hx; omega) (by omega) ((stL r).length - 1) 0 0 0 (by rw [hc]; simp; omega)
  rw [hc] at h
  rw [hc]
  exact h
end Go.Proofs.YticmboabiemniaaDoor.X
end
section
/- The fewest leaps to the far bank: the program and the reference. -/
--! needs LBase LGap spec_rvStand spec_rvLeft impl_stand impl_leapsLeft
namespace Go.Proofs.YticmboabiemniaaDoor.X
open Go.Proofs.YticmboabiemniaaDoor.Sq Go.RowKit Go.Proofs.YticmboabiemniaaDoorW.PrintWords Go.Proofs.YticmboabiemniaaDoorW.PrintLast Go.Proofs.YticmboabiemniaaDoorW.PrintMore
attribute [local go_sem] max2_int min2_int max_two min_two max_three min_three max_four min_four   -- for this text's walks alone
set_option linter.unusedVariables false
set_option linter.unusedSimpArgs false
theorem getD_append_right' {α : Type} (P Q : List α) (i : Nat) (d : α) : (P ++ Q).getD (P.length + i) d = Q.getD i d := by
  rw [List.getD_eq_getElem?_getD, List.getD_eq_getElem?_getD, List.getElem?_append_right (by omega), Nat.add_sub_cancel_left]
theorem rd_right (P Q : List Int) (i : Nat) : rd (P ++ Q) ((P.length + i : Nat) : Int) = rd Q (i : Int) := by
  unfold rd
  rw [Int.toNat_natCast, Int.toNat_natCast]
  exact getD_append_right' P Q i 0
theorem lfStep_right (P Q : List Int) (t : Nat) : lfStep P.length (P.length + t) (P ++ Q) = P ++ lfStep 0 t Q := by
  unfold lfStep
  have h0 := rd_right P Q 0
  rw [Nat.add_zero] at h0
  rw [rd_right P Q t, h0]
  split
  · rw [List.set_append_right _ _ (by omega), Nat.sub_self]
  · rfl
theorem lfIn_right (P Q : List Int) : ∀ d, lfIn P.length (P ++ Q) d = P ++ lfIn 0 Q d
 | 0 => rfl
 | d + 1 => by
  show lfStep P.length (P.length + 1 + d) (lfIn P.length (P ++ Q) d) = P ++ lfStep 0 (0 + 1 + d) (lfIn 0 Q d)
  rw [lfIn_right P Q d, Nat.add_assoc, lfStep_right, Nat.zero_add]
theorem lfStep_len (fr t : Nat) (o : List Int) : (lfStep fr t o).length = o.length := by
  unfold lfStep
  split <;> simp
theorem lfIn_len (fr : Nat) (o : List Int) : ∀ d, (lfIn fr o d).length = o.length
 | 0 => rfl
 | d + 1 => (lfStep_len _ _ _).trans (lfIn_len fr o d)
/-- How many places are tried from place p. -/
def lfC (n : Nat) (a : Int) (p : Nat) : Nat := (mn ((p : Int) + a) ((n : Int) + 1) - (p : Int)).toNat
theorem lfC_le (n : Nat) (a : Int) (p : Nat) : lfC n a p ≤ n + 1 - p := by unfold lfC mn; split <;> omega
theorem lfC_lt (n : Nat) (a : Int) (p d : Nat) (h : d < lfC n a p) : ((p + 1 + d : Nat) : Int) ≤ (n : Int) + 1 ∧ ((p + 1 + d : Nat) : Int) ≤ (p : Int) + a := by
  unfold lfC mn at h
  split at h <;> omega
theorem lfC_end (n : Nat) (a : Int) (p : Nat) : ¬ (((p + 1 + lfC n a p : Nat) : Int) ≤ (n : Int) + 1 ∧ ((p + 1 + lfC n a p : Nat) : Int) ≤ (p : Int) + a) := by
  unfold lfC mn
  split <;> omega
/-- What is known of the last d places. -/
def lfT (r : ByteArray) (a : Int) : Nat → List Int
 | 0 => []
 | d + 1 => if d = 0 then [0] else if pl r (r.size + 1 - d) = true then lfIn 0 ((-1) :: lfT r a d) (lfC r.size a (r.size + 1 - d)) else (-1) :: lfT r a d
theorem lfT_len (r : ByteArray) (a : Int) : ∀ d, (lfT r a d).length = d
 | 0 => rfl
 | d + 1 => by
  unfold lfT
  split
  · rename_i h; subst h; rfl
  · split
    · rw [lfIn_len]; simp [lfT_len r a d]
    · simp [lfT_len r a d]
theorem replicate_snoc {α : Type} (n : Nat) (x : α) (l : List α) : List.replicate (n + 1) x ++ l = List.replicate n x ++ (x :: l) := by
  rw [List.replicate_succ', List.append_assoc]
  rfl
theorem lfOut_top (n : Nat) (a : Int) (o : List Int) : lfOut n a (n + 1) o = o := by
  unfold lfOut
  have : (mn (((n + 1 : Nat) : Int) + a) ((n : Int) + 1) - ((n + 1 : Nat) : Int)).toNat = 0 := by unfold mn; split <;> omega
  rw [this]
  rfl
/-- The program: places are gone through backwards, those on which one stands. -/
theorem lf_fold (r : ByteArray) (a : Int) : ∀ d, d ≤ r.size + 1 → ((List.range' (r.size + 1 - d) (d + 1)).filter (pl r)).reverse.foldl (fun o fr => lfOut r.size a fr o) (lfStart r.size) = List.replicate (r.size + 1 - d) (-1) ++ lfT r a (d + 1)
 | 0, _ => by
  have hp : pl r (r.size + 1) = true := by simp [pl]
  rw [Nat.sub_zero, List.range'_succ, List.filter_cons_of_pos hp]
  show lfOut r.size a (r.size + 1) (lfStart r.size) = _
  rw [lfOut_top]
  unfold lfStart
  rw [replicate_snoc (r.size + 1) (-1 : Int) [] |>.symm.trans (List.append_nil _) |>.symm, List.set_append_right _ _ (by simp)]
  simp [lfT]
 | d + 1, h => by
  have ih := lf_fold r a d (by omega)
  rw [List.range'_succ, show r.size + 1 - (d + 1) + 1 = r.size + 1 - d by omega]
  have e1 : lfT r a (d + 1 + 1) = if pl r (r.size + 1 - (d + 1)) = true then lfIn 0 ((-1) :: lfT r a (d + 1)) (lfC r.size a (r.size + 1 - (d + 1))) else (-1) :: lfT r a (d + 1) := by
    conv => lhs; unfold lfT
    rw [if_neg (by omega)]
  have e2 : List.replicate (r.size + 1 - d) (-1 : Int) ++ lfT r a (d + 1) = List.replicate (r.size + 1 - (d + 1)) (-1) ++ ((-1) :: lfT r a (d + 1)) := by
    rw [show r.size + 1 - d = r.size + 1 - (d + 1) + 1 by omega, replicate_snoc]
  cases hs : pl r (r.size + 1 - (d + 1)) with
  | true =>
    rw [List.filter_cons_of_pos hs, List.reverse_cons, List.foldl_append, ih, e1, if_pos hs, e2]
    show lfIn _ _ _ = _
    have h3 := lfIn_right (List.replicate (r.size + 1 - (d + 1)) (-1 : Int)) ((-1) :: lfT r a (d + 1)) (lfC r.size a (r.size + 1 - (d + 1)))
    rw [List.length_replicate] at h3
    exact h3
  | false =>
    rw [List.filter_cons_of_neg (by rw [hs]; exact Bool.false_ne_true), ih, e1, if_neg (by rw [hs]; exact Bool.false_ne_true), e2]
theorem leapsLeft_ev (r : ByteArray) (hr : r.size ≤ 100) (a : Int) (h1 : -1000 ≤ a) (h2 : a ≤ 1000) : Ev (fun k => impl_leapsLeft.f k r a) (lfT r a (r.size + 2)) := by
  unfold impl_leapsLeft.f
  refine Ev.bind (stand_ev r hr) ?_
  have hlen : (stL r).length ≤ 102 := by
    unfold stL
    have := List.length_filter_le (pl r) (List.range (r.size + 2))
    rw [List.length_range] at this
    omega
  have hc := stL_cons r
  refine evPos ⟨hr, h1, h2, by simp [ints]; omega, by simp [ints, hc], ?_⟩ (evSome ?_)
  · intro x hx
    unfold ints at hx
    obtain ⟨y, hy, rfl⟩ := List.mem_map.1 hx
    have := stL_le r y hy
    omega
  · have e : (ints (stL r)).reverse.map Int.toNat = (stL r).reverse := by
      unfold ints
      rw [← List.map_reverse, List.map_map]
      have : (Int.toNat ∘ fun (x : Nat) => (x : Int)) = id := by funext x; simp
      rw [this, List.map_id]
    rw [e]
    have h := lf_fold r a (r.size + 1) (Nat.le_refl _)
    rw [Nat.sub_self] at h
    unfold stL
    rw [List.range_eq_range']
    simpa using h
/-- The reference's inner loop. -/
theorem rvLeft_l1 (r : ByteArray) (hr : r.size ≤ 100) (a : Int) (h1 : -1000 ≤ a) (h2 : a ≤ 1000) (p : Nat) (hp : p ≤ r.size) (o : List Int) (ho : o.length = r.size + 2) (x : List Int) (e : Nat) : ∀ d : Nat, d + e = lfC r.size a p →
    Ev (fun k => spec_rvLeft.l0 k r a ((r.size : Int) + 1) (lfIn p o (lfC r.size a p)) ((p : Int) - 1)) x → Ev (fun k => spec_rvLeft.l1 k r a ((r.size : Int) + 1) (lfIn p o d) (p : Int) ((p + 1 + d : Nat) : Int)) x := by
  have hlow := fun d (hd : d < lfC r.size a p) => lfC_lt r.size a p d hd
  have hhi := lfC_end r.size a p
  have hC := lfC_le r.size a p
  induction e with
  | zero =>
    intro d hd hx
    obtain rfl : d = lfC r.size a p := by omega
    refine Ev.step (fun k => by rw [spec_rvLeft.l1]) ?_
    rw [w64 (x := (p : Int) + a) (by omega) (by omega)]
    refine evSplit (fun hc => ?_) (fun hc => ?_)
    · refine Ev.step (fun k => by rw [spec_rvLeft.j2]) ?_
      refine evNeg (fun h => hhi ⟨hc, of_decide_eq_true h⟩) ?_
      rw [w64 (x := (p : Int) - 1) (by omega) (by omega)]
      exact hx
    · refine Ev.step (fun k => by rw [spec_rvLeft.j2]) ?_
      refine evNeg (by simp) ?_
      rw [w64 (x := (p : Int) - 1) (by omega) (by omega)]
      exact hx
  | succ e ih =>
    intro d hd hx
    obtain ⟨h3, h4⟩ := hlow d (by omega)
    have h5 := ih (d + 1) (by omega) hx
    have hl : (lfIn p o d).length = r.size + 2 := by rw [lfIn_len]; exact ho
    have hst : lfIn p o (d + 1) = lfStep p (p + 1 + d) (lfIn p o d) := rfl
    unfold lfStep at hst
    refine Ev.step (fun k => by rw [spec_rvLeft.l1]) ?_
    refine evPos h3 ?_
    refine Ev.step (fun k => by rw [spec_rvLeft.j2]) ?_
    rw [w64 (x := (p : Int) + a) (by omega) (by omega)]
    refine evPos (decide_eq_true h4) (evPos (by omega) (evPos (by omega) ?_))
    rw [show wrap64 (((p + 1 + d : Nat) : Int) + 1) = ((p + 1 + (d + 1) : Nat) : Int) from (w64 (by omega) (by omega)).trans (by omega), Int.toNat_natCast]
    refine evSplit (fun c1 => evPos (by omega) (evPos (by omega) (evSplit (fun c2 => ?_) (fun c2 => evSplit (fun c3 => ?_) (fun c3 => ?_))))) (fun c1 => ?_)
    · rw [if_pos ⟨c1, Or.inl c2⟩] at hst
      rw [hst] at h5
      exact h5
    · rw [if_pos ⟨c1, Or.inr c3⟩] at hst
      rw [hst] at h5
      exact h5
    · rw [if_neg (fun h => h.2.elim c2 c3)] at hst
      rw [hst] at h5
      exact h5
    · rw [if_neg (fun h => c1 h.1)] at hst
      rw [hst] at h5
      exact h5
/-- The reference's outer loop: what lies behind is known, what lies ahead is still zero. -/
theorem rvLeft_l0 (r : ByteArray) (hr : r.size ≤ 100) (a : Int) (h1 : -1000 ≤ a) (h2 : a ≤ 1000) : ∀ (p : Nat), p ≤ r.size + 1 →
    Ev (fun k => spec_rvLeft.l0 k r a ((r.size : Int) + 1) (List.replicate p 0 ++ lfT r a (r.size + 2 - p)) ((p : Int) - 1)) (lfT r a (r.size + 2))
 | 0, _ => by
  refine Ev.step (fun k => by rw [spec_rvLeft.l0]) ?_
  exact evNeg (by omega) (evSome (by simp))
 | p + 1, hp => by
  have ih := rvLeft_l0 r hr a h1 h2 p (by omega)
  have hT := lfT_len r a (r.size + 2 - (p + 1))
  have e0 : ((p + 1 : Nat) : Int) - 1 = (p : Int) := by omega
  rw [e0]
  refine Ev.step (fun k => by rw [spec_rvLeft.l0]) ?_
  refine evPos (by omega) (evPos (by omega) (evPos (by rw [List.length_append, List.length_replicate, hT]; omega) ?_))
  refine evBind0 rfl (evBind0 (rvStand_eq r hr p (by omega)) ?_)
  have es : (List.replicate (p + 1) (0 : Int) ++ lfT r a (r.size + 2 - (p + 1))).set ((p : Int)).toNat (-1) = List.replicate p 0 ++ ((-1) :: lfT r a (r.size + 2 - (p + 1))) := by
    rw [replicate_snoc, Int.toNat_natCast, List.set_append_right _ _ (by simp), List.length_replicate, Nat.sub_self]
    rfl
  rw [es]
  have eT : lfT r a (r.size + 2 - p) = if pl r p = true then lfIn 0 ((-1) :: lfT r a (r.size + 2 - (p + 1))) (lfC r.size a p) else (-1) :: lfT r a (r.size + 2 - (p + 1)) := by
    rw [show r.size + 2 - p = (r.size + 2 - (p + 1)) + 1 by omega]
    conv => lhs; unfold lfT
    rw [if_neg (by omega), show r.size + 1 - (r.size + 2 - (p + 1)) = p by omega]
  rw [eT] at ih
  have hw1 : wrap64 ((p : Int) - 1) = (p : Int) - 1 := w64 (by omega) (by omega)
  have hw2 : wrap64 ((p : Int) + 1) = ((p + 1 + 0 : Nat) : Int) := by rw [w64 (by omega) (by omega)]; omega
  cases hs : pl r p with
  | true =>
    rw [if_pos hs] at ih
    refine evPos rfl ?_
    rw [hw2]
    refine rvLeft_l1 r hr a h1 h2 p (by omega) (List.replicate p 0 ++ ((-1) :: lfT r a (r.size + 2 - (p + 1)))) (by rw [List.length_append, List.length_replicate, List.length_cons, hT]; omega) _ (lfC r.size a p) 0 (by omega) ?_
    have h3 := lfIn_right (List.replicate p (0 : Int)) ((-1) :: lfT r a (r.size + 2 - (p + 1))) (lfC r.size a p)
    rw [List.length_replicate] at h3
    rw [h3]
    exact ih
  | false =>
    rw [if_neg (by simp [hs])] at ih
    refine evNeg (by simp) ?_
    rw [hw1]
    exact ih
theorem rvLeft_ev (r : ByteArray) (hr : r.size ≤ 100) (a : Int) (h1 : -1000 ≤ a) (h2 : a ≤ 1000) : Ev (fun k => spec_rvLeft.f k r a) (lfT r a (r.size + 2)) := by
  unfold spec_rvLeft.f
  have e1 : wrap64 ((r.size : Int) + 1) = ((r.size + 1 : Nat) : Int) := by rw [w64 (by omega) (by omega)]; omega
  have e2 : wrap64 (((r.size + 1 : Nat) : Int) + 1) = ((r.size + 2 : Nat) : Int) := by rw [w64 (by omega) (by omega)]; omega
  have e3 : wrap64 (((r.size + 1 : Nat) : Int) - 1) = ((r.size + 1 : Nat) : Int) - 1 := w64 (by omega) (by omega)
  rw [e1, e2, e3, Int.toNat_natCast]
  refine evPos (by omega) (evPos (by omega) ?_)
  have h := rvLeft_l0 r hr a h1 h2 (r.size + 1) (Nat.le_refl _)
  have e4 : lfT r a (r.size + 2 - (r.size + 1)) = [0] := by rw [show r.size + 2 - (r.size + 1) = 1 by omega]; simp [lfT]
  have e5 : List.replicate (r.size + 1) (0 : Int) ++ [0] = List.replicate (r.size + 2) 0 := by rw [List.replicate_succ' (n := r.size + 1)]
  rw [e4, e5] at h
  exact h
end Go.Proofs.YticmboabiemniaaDoor.X
end
