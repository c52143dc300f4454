import Derived.Test.YtonifgfgeollaaaKFnExactFirstSolution4
import Derived.Test.YtonifgfgeollaaaKFnExactFirstSolution5
import Derived.Test.YtonifgfgeollaaaKFnExactFirstSolution6
import Derived.Test.YtonifgfgeollaaaKFnExactFirstSolution7
import Derived.Test.YtonifgfgeollaaaKFnExactFirstSolution8
import Derived.Test.YtonifgfgeollaaaKFnExactFirstSolution9
import Derived.Test.YtonifgfgeollaaaKFnExactFirstSolution10
section
-- Written by a program of this session (wip/tools/mp.py) over the kit's print of the translation.
namespace Go.Proofs.Ytonifgfgeollaaa.X
open Go.Proofs.Ytonifgfgeollaaa.Sq Go.RowKit Go.Proofs.YtonifgfgeollaaaW.PrintWords Go.Proofs.YtonifgfgeollaaaW.PrintLast Go.Proofs.YtonifgfgeollaaaW.PrintMore
attribute [local go_sem] max2_int min2_int max_two min_two max_three min_three max_four min_four   -- for this text's walks alone
set_option linter.unusedVariables false
set_option linter.unusedSimpArgs false
/-! ### impl_sum: function 86 -/
def impl_sum.l0 : Nat → Int → List Int → Int → Int → Option (Int)
 | 0, _, _, _, _ => none
 | k + 1, x3, x6, x7, x8 => if x8 < x7 then (if 0 ≤ x8 then (if x8 < (x6.length : Int) then (impl_sum.l0 k (wrap64 (x3 + (rd x6 x8))) x6 x7 (wrap64 (x8 + 1))) else (none)) else (none)) else (some x3)
def impl_sum.f (k : Nat) (l0 : List Int) : Option (Int) := impl_sum.l0 k 0 l0 (l0.length : Int) 0
set_option maxHeartbeats 8000000 in
set_option maxRecDepth 100000 in
theorem impl_sum.calls (k : Nat) (A0 : Option Addr) (c0 : Nat) (l0 : List Int) (r : Int) (w : World) (hr0 : Kd.C (Kd.int .i64) w A0 l0.length l0) (hc0 : l0.length ≤ c0) (h : impl_sum.f k l0 = some r) :
  Calls Try.prog 86 #[.slice A0 l0.length c0] w fun e w' => e = .returned (.int .i64 r) ∧ Drawn0 w w' := by
 have HR0 := am hr0
 have HC0 := am hc0
 clear hr0 hc0
 have H : (impl_sum.l0 k 0 l0 (l0.length : Int) 0) = some r := h
 clear h
 have H' := am H
 clear H
 go_enter Try.func86, Try.ntmps86
 go_wp2
 go_loopg [3, 8] k (fun kq v3 v8 w' => ∃ (x3_1 : Int) (x8_1 : Int), v3 = .int .i64 x3_1 ∧ v8 = .int .i64 x8_1 ∧ Aside0 (impl_sum.l0 kq x3_1 l0 (l0.length : Int) x8_1 = some r) ∧ Aside0 (kq ≤ k) ∧ Drawn0 w w')
 case atStart => exact ⟨(0), (0), (by first | rfl | (simp; done) | (simp [*]; done)), (by first | rfl | (simp; done) | (simp [*]; done)), H', ⟨Nat.le_refl _⟩, by repeat (first | exact Drawn0.refl _ | apply Drawn0.step)⟩
 case round =>
  clear H'
  obtain ⟨x3_1, x8_1, rfl, rfl, HA, HK1, ⟨m1, rfl⟩⟩ := hrel
  cases gk with
  | zero => exact absurd HA.out (by simp [impl_sum.l0])
  | succ k1 =>
   have H := HA.out
   clear HA
   simp only [impl_sum.l0] at H
   by_cases c2 : x8_1 < (l0.length : Int)
   ·rw [if_pos c2] at H
    have c2b0 : decide (x8_1 < (l0.length : Int)) = true := decide_eq_true c2
    clear c2
    by_cases c3 : 0 ≤ x8_1
    ·rw [if_pos c3] at H
     have c3b0 : decide (0 ≤ x8_1) = true := decide_eq_true c3
     clear c3
     by_cases c4 : x8_1 < (l0.length : Int)
     ·rw [if_pos c4] at H
      have c4b0 : decide (x8_1 < (l0.length : Int)) = true := decide_eq_true c4
      clear c4
      have H' := am H
      clear H
      have p213 : 0 ≤ (x8_1 : Int) := of_decide_eq_true (by first | (with_reducible assumption) | assumption)
      have q213 : x8_1 < (l0.length : Int) := of_decide_eq_true (by first | (with_reducible assumption) | assumption)
      obtain ⟨ad213, e213, hx213_0⟩ := Kd.at_int HR0.out x8_1 p213 q213
      cases e213
      replace p213 := eq_true p213
      replace q213 := eq_true q213
      go_wp2
      go_roundg k1
      case measure => have := HK1.out; omega
      case rel => exact ⟨(wrap64 (x3_1 + (rd l0 x8_1))), (wrap64 (x8_1 + 1)), (by first | rfl | (simp; done) | (simp [*]; done)), (by first | rfl | (simp; done) | (simp [*]; done)), H', ⟨by have := HK1.out; omega⟩, by repeat (first | exact Drawn0.refl _ | apply Drawn0.step)⟩
     ·rw [if_neg c4] at H
      exact absurd H (by simp)
    ·rw [if_neg c3] at H
     exact absurd H (by simp)
   ·rw [if_neg c2] at H
    have c2b0 : decide (x8_1 < (l0.length : Int)) = false := decide_eq_false c2
    clear c2
    obtain rfl := Option.some.inj H
    go_wp2
    go_ret
    exact ⟨by first | rfl | (simp; done) | (simp [*]; done), by repeat (first | exact Drawn0.refl _ | apply Drawn0.step)⟩
/-! ### impl_told: function 76 -/
def impl_told.f (k : Nat) (a0 : Int) (a1 : Int) (a2 : ByteArray) : Option (Int) := (impl_longestGap.f k a2).bind fun bt214 => (if a0 = 0 then ((strings_Count.f a2 (⟨#[111]⟩ : ByteArray)).bind fun t216 => (some t216)) else (if a0 = 1 then (if 0 ≤ (wrap64 (a1 - 1)) then (if (wrap64 (a1 - 1)) < (a2.size : Int) then ((impl_bit.f ((bt a2 (wrap64 (a1 - 1))) == 111)).bind fun t217 => (some t217)) else (none)) else (none)) else (if a0 = 2 then ((impl_leapsLeft.f k a2 a1).bind fun t218 => (if 0 < (t218.length : Int) then (some (mx 0 (rd t218 0))) else (none))) else (if a0 = 3 then (some bt214.1) else (if a0 = 4 then ((impl_countBy.f k a2 a1).bind fun t222 => ((impl_sum.f k t222).bind fun t225 => (some t225))) else (some bt214.2))))))
set_option maxHeartbeats 8000000 in
set_option maxRecDepth 100000 in
theorem impl_told.calls (k : Nat) (a0 : Int) (a1 : Int) (a2 : ByteArray) (r : Int) (w : World) (h : impl_told.f k a0 a1 a2 = some r) :
  Calls Try.prog 76 #[.int .i64 a0, .int .i64 a1, .string a2] w fun e w' => e = .returned (.int .i64 r) ∧ Below w.heap.size w w' := by
 have HB := am (Below.refl w.heap.size w)
 have H : ((impl_longestGap.f k a2).bind fun bt214 => (if a0 = 0 then ((strings_Count.f a2 (⟨#[111]⟩ : ByteArray)).bind fun t216 => (some t216)) else (if a0 = 1 then (if 0 ≤ (wrap64 (a1 - 1)) then (if (wrap64 (a1 - 1)) < (a2.size : Int) then ((impl_bit.f ((bt a2 (wrap64 (a1 - 1))) == 111)).bind fun t217 => (some t217)) else (none)) else (none)) else (if a0 = 2 then ((impl_leapsLeft.f k a2 a1).bind fun t218 => (if 0 < (t218.length : Int) then (some (mx 0 (rd t218 0))) else (none))) else (if a0 = 3 then (some bt214.1) else (if a0 = 4 then ((impl_countBy.f k a2 a1).bind fun t222 => ((impl_sum.f k t222).bind fun t225 => (some t225))) else (some bt214.2))))))) = some r := h
 clear h
 replace H := Option.bind_eq_some_iff.mp H
 obtain ⟨⟨t214, t215⟩, A40, H⟩ := H
 replace H : (if a0 = 0 then ((strings_Count.f a2 (⟨#[111]⟩ : ByteArray)).bind fun t216 => (some t216)) else (if a0 = 1 then (if 0 ≤ (wrap64 (a1 - 1)) then (if (wrap64 (a1 - 1)) < (a2.size : Int) then ((impl_bit.f ((bt a2 (wrap64 (a1 - 1))) == 111)).bind fun t217 => (some t217)) else (none)) else (none)) else (if a0 = 2 then ((impl_leapsLeft.f k a2 a1).bind fun t218 => (if 0 < (t218.length : Int) then (some (mx 0 (rd t218 0))) else (none))) else (if a0 = 3 then (some t214) else (if a0 = 4 then ((impl_countBy.f k a2 a1).bind fun t222 => ((impl_sum.f k t222).bind fun t225 => (some t225))) else (some t215)))))) = some r := H
 have A4 := am A40
 clear A40
 by_cases c5 : a0 = 0
 ·rw [if_pos c5] at H
  have c5b0 : (a0 == 0) = true := beq_iff_eq.mpr c5
  have c5b1 : (a0 != 0) = false := bne_eq_false_iff_eq.mpr c5
  clear c5
  replace H := Option.bind_eq_some_iff.mp H
  obtain ⟨t216, A60, H⟩ := H
  replace H : (some t216) = some r := H
  have A6 := am A60
  clear A60
  obtain rfl := Option.some.inj H
  go_enter Try.func76, Try.ntmps76
  go_wp2_with (first | ((with_reducible refine gate_callee (f := 82) rfl ?_); refine goesL_ (some 11) rfl rfl Try.func82 (by kernel_rfl) rfl #[.string a2] rfl (by (try simp only [List.map_toArray, List.map_cons, List.map_nil]); first | done | rfl | (simp only [List.length_drop, List.length_take]; rfl)) ?_; (with_reducible refine (impl_longestGap.calls k a2 t214 t215 _ A4.out).mono ?_); rintro e w7 ⟨rfl, hb⟩; refine ⟨_, rfl, ?_⟩; have n0_ := am (below_step (hbS HB.out) hb); clear HB; have HB := n0_; clear n0_; (try clear hb); (try clear hb2); (try clear hk); (try clear hi)) | ((with_reducible refine gate_callee (f := 83) rfl ?_); refine goesL_ (some 18) rfl rfl Try.func83 (by kernel_rfl) rfl #[.string a2, .string (⟨#[111]⟩ : ByteArray)] rfl (by (try simp only [List.map_toArray, List.map_cons, List.map_nil]); first | done | rfl | (simp only [List.length_drop, List.length_take]; rfl)) ?_; (with_reducible refine (strings_Count.calls a2 (⟨#[111]⟩ : ByteArray) t216 _ A6.out).mono ?_); rintro e w' ⟨rfl, ⟨nd, rfl⟩⟩; refine ⟨_, rfl, ?_⟩))
  go_ret
  exact ⟨by first | rfl | (simp [errW_none, errW_some] <;> rfl) | (simp [*, errW_none, errW_some] <;> rfl), hbS HB.out⟩
 ·rw [if_neg c5] at H
  have c5b0 : (a0 == 0) = false := beq_eq_false_iff_ne.mpr c5
  have c5b1 : (a0 != 0) = true := bne_iff_ne.mpr c5
  by_cases c8 : a0 = 1
  ·rw [if_pos c8] at H
   have c8b0 : (a0 == 1) = true := beq_iff_eq.mpr c8
   have c8b1 : (a0 != 1) = false := bne_eq_false_iff_eq.mpr c8
   clear c8
   obtain ⟨ji9, hji9⟩ : ∃ j_ : Int, (wrap64 (a1 - 1)) = j_ := ⟨_, rfl⟩
   replace H : (if 0 ≤ (ji9) then (if (ji9) < (a2.size : Int) then ((impl_bit.f ((bt a2 (ji9)) == 111)).bind fun t217 => (some t217)) else (none)) else (none)) = some r := by first | (rw [hji9] at H; exact H) | (simp only [hji9] at H ⊢; exact H)
   (try rw [hji9] at A4)
   have hji9w : (IntKind.i64.wrap (a1 - 1)) = ji9 := (i64_w _).trans hji9
   by_cases c10 : 0 ≤ (ji9)
   ·rw [if_pos c10] at H
    have c10b0 : decide (0 ≤ (ji9)) = true := decide_eq_true c10
    clear c10
    by_cases c11 : (ji9) < (a2.size : Int)
    ·rw [if_pos c11] at H
     have c11b0 : decide ((ji9) < (a2.size : Int)) = true := decide_eq_true c11
     clear c11
     replace H := Option.bind_eq_some_iff.mp H
     obtain ⟨t217, A130, H⟩ := H
     replace H : (some t217) = some r := H
     have A13 := am A130
     clear A130
     obtain rfl := Option.some.inj H
     go_enter Try.func76, Try.ntmps76
     go_wp2_with (first | ((with_reducible refine gate_callee (f := 82) rfl ?_); refine goesL_ (some 11) rfl rfl Try.func82 (by kernel_rfl) rfl #[.string a2] rfl (by (try simp only [List.map_toArray, List.map_cons, List.map_nil]); first | done | rfl | (simp only [List.length_drop, List.length_take]; rfl)) ?_; (with_reducible refine (impl_longestGap.calls k a2 t214 t215 _ A4.out).mono ?_); rintro e w14 ⟨rfl, hb⟩; refine ⟨_, rfl, ?_⟩; have n0_ := am (below_step (hbS HB.out) hb); clear HB; have HB := n0_; clear n0_; (try clear hb); (try clear hb2); (try clear hk); (try clear hi); have p12 : 0 ≤ ((ji9) : Int) := of_decide_eq_true (by first | (with_reducible assumption) | assumption); have q12 : (ji9) < (a2.size : Int) := of_decide_eq_true (by first | (with_reducible assumption) | assumption); have hx12 := bt_at a2 (ji9); replace p12 := eq_true p12; replace q12 := eq_true q12) | ((with_reducible refine gate_callee (f := 84) rfl ?_); refine goesL_ (some 26) rfl rfl Try.func84 (by kernel_rfl) rfl #[.bool ((bt a2 (ji9)) == 111)] rfl (by (try simp only [List.map_toArray, List.map_cons, List.map_nil]); first | done | (simp only [hji9]; rfl) | rfl | (simp only [List.length_drop, List.length_take]; rfl)) ?_; (with_reducible refine (impl_bit.calls ((bt a2 (ji9)) == 111) t217 _ A13.out).mono ?_); rintro e w' ⟨rfl, ⟨nd, rfl⟩⟩; refine ⟨_, rfl, ?_⟩))
     go_ret
     exact ⟨by first | rfl | (simp [errW_none, errW_some] <;> rfl) | (simp only [← hji9]; first | rfl | (simp [errW_none, errW_some] <;> rfl)) | (simp [*, errW_none, errW_some] <;> rfl), hbS HB.out⟩
    ·rw [if_neg c11] at H
     exact absurd H (by simp)
   ·rw [if_neg c10] at H
    exact absurd H (by simp)
  ·rw [if_neg c8] at H
   have c8b0 : (a0 == 1) = false := beq_eq_false_iff_ne.mpr c8
   have c8b1 : (a0 != 1) = true := bne_iff_ne.mpr c8
   by_cases c15 : a0 = 2
   ·rw [if_pos c15] at H
    have c15b0 : (a0 == 2) = true := beq_iff_eq.mpr c15
    have c15b1 : (a0 != 2) = false := bne_eq_false_iff_eq.mpr c15
    clear c15
    replace H := Option.bind_eq_some_iff.mp H
    obtain ⟨t218, A160, H⟩ := H
    replace H : (if 0 < (t218.length : Int) then (some (mx 0 (rd t218 0))) else (none)) = some r := H
    have A16 := am A160
    clear A160
    by_cases c17 : 0 < (t218.length : Int)
    ·rw [if_pos c17] at H
     have c17b0 : decide (0 < (t218.length : Int)) = true := decide_eq_true c17
     have c17b1 : decide (0 < t218.length) = true := decide_eq_true (by omega)
     clear c17
     obtain ⟨ji18, hji18⟩ : ∃ j_ : Int, (mx 0 (rd t218 0)) = j_ := ⟨_, rfl⟩
     replace H : (some ji18) = some r := by first | (rw [hji18] at H; exact H) | (simp only [hji18] at H ⊢; exact H)
     (try rw [hji18] at A4)
     (try rw [hji18] at A16)
     (try (have hji18l : 0 ≤ ji18 := by (rw [← hji18]; unfold mx; (repeat' split) <;> omega)))
     (try (have hji18m : 0 ≤ ji18 := by omega))
     have hji18_ : (if 0 < (rd t218 0) then (rd t218 0) else 0) = ji18 := hji18
     obtain rfl := Option.some.inj H
     go_enter Try.func76, Try.ntmps76
     go_wp2_with (first | ((with_reducible refine gate_callee (f := 82) rfl ?_); refine goesL_ (some 11) rfl rfl Try.func82 (by kernel_rfl) rfl #[.string a2] rfl (by (try simp only [List.map_toArray, List.map_cons, List.map_nil]); first | done | rfl | (simp only [List.length_drop, List.length_take]; rfl)) ?_; (with_reducible refine (impl_longestGap.calls k a2 t214 t215 _ A4.out).mono ?_); rintro e w19 ⟨rfl, hb⟩; refine ⟨_, rfl, ?_⟩; have n0_ := am (below_step (hbS HB.out) hb); clear HB; have HB := n0_; clear n0_; (try clear hb); (try clear hb2); (try clear hk); (try clear hi)) | ((with_reducible refine gate_callee (f := 85) rfl ?_); refine goesL_ (some 31) rfl rfl Try.func85 (by kernel_rfl) rfl #[.string a2, .int .i64 a1] rfl (by (try simp only [List.map_toArray, List.map_cons, List.map_nil]); first | done | rfl | (simp only [List.length_drop, List.length_take]; rfl)) ?_; (with_reducible refine (impl_leapsLeft.calls k a2 a1 t218 _ A16.out).mono ?_); rintro e w20 ⟨v219, rfl, ho0, hb⟩; refine ⟨_, rfl, ?_⟩; have n0_ := am (Kd.R_lower ho0 (below_size (hbS HB.out))); have n1_ := am (below_step (hbS HB.out) hb); clear HB; have HO220 := n0_; have HB := n1_; clear n0_ n1_; (try clear hb); (try clear hb2); (try clear hk); (try clear hi); (try clear ho0); obtain ⟨Ao21, co21, eo21⟩ := Kd.R_slice HO220.out; subst eo21; have p221 : 0 ≤ (0 : Int) := (by omega); have q221 : 0 < (t218.length : Int) := of_decide_eq_true (by first | (with_reducible assumption) | assumption); obtain ⟨ad221, e221, hx221_0⟩ := Kd.at_int (Kd.R_reads' HO220.out).2.2 0 p221 q221; cases e221; have qi221 : (0 < t218.length) = True := eq_true (by omega); (try rw [show ((0 : Int)).toNat = 0 from rfl] at hx221_0); (try rw [Addr.add_zero'] at hx221_0); replace p221 := eq_true p221; replace q221 := eq_true q221))
     go_ret
     exact ⟨by first | rfl | (simp [errW_none, errW_some] <;> rfl) | (simp only [← hji18]; first | rfl | (simp [errW_none, errW_some] <;> rfl)) | (simp [*, errW_none, errW_some] <;> rfl), hbS HB.out⟩
    ·rw [if_neg c17] at H
     exact absurd H (by simp)
   ·rw [if_neg c15] at H
    have c15b0 : (a0 == 2) = false := beq_eq_false_iff_ne.mpr c15
    have c15b1 : (a0 != 2) = true := bne_iff_ne.mpr c15
    by_cases c22 : a0 = 3
    ·rw [if_pos c22] at H
     have c22b0 : (a0 == 3) = true := beq_iff_eq.mpr c22
     have c22b1 : (a0 != 3) = false := bne_eq_false_iff_eq.mpr c22
     clear c22
     obtain rfl := Option.some.inj H
     go_enter Try.func76, Try.ntmps76
     go_wp2_with (first | ((with_reducible refine gate_callee (f := 82) rfl ?_); refine goesL_ (some 11) rfl rfl Try.func82 (by kernel_rfl) rfl #[.string a2] rfl (by (try simp only [List.map_toArray, List.map_cons, List.map_nil]); first | done | rfl | (simp only [List.length_drop, List.length_take]; rfl)) ?_; (with_reducible refine (impl_longestGap.calls k a2 t214 t215 _ A4.out).mono ?_); rintro e w23 ⟨rfl, hb⟩; refine ⟨_, rfl, ?_⟩; have n0_ := am (below_step (hbS HB.out) hb); clear HB; have HB := n0_; clear n0_; (try clear hb); (try clear hb2); (try clear hk); (try clear hi)))
     go_ret
     exact ⟨by first | rfl | (simp [errW_none, errW_some] <;> rfl) | (simp [*, errW_none, errW_some] <;> rfl), hbS HB.out⟩
    ·rw [if_neg c22] at H
     have c22b0 : (a0 == 3) = false := beq_eq_false_iff_ne.mpr c22
     have c22b1 : (a0 != 3) = true := bne_iff_ne.mpr c22
     by_cases c24 : a0 = 4
     ·rw [if_pos c24] at H
      have c24b0 : (a0 == 4) = true := beq_iff_eq.mpr c24
      have c24b1 : (a0 != 4) = false := bne_eq_false_iff_eq.mpr c24
      clear c24
      replace H := Option.bind_eq_some_iff.mp H
      obtain ⟨t222, A250, H⟩ := H
      replace H : ((impl_sum.f k t222).bind fun t225 => (some t225)) = some r := H
      have A25 := am A250
      clear A250
      replace H := Option.bind_eq_some_iff.mp H
      obtain ⟨t225, A260, H⟩ := H
      replace H : (some t225) = some r := H
      have A26 := am A260
      clear A260
      obtain rfl := Option.some.inj H
      go_enter Try.func76, Try.ntmps76
      go_wp2_with (first | ((with_reducible refine gate_callee (f := 82) rfl ?_); refine goesL_ (some 11) rfl rfl Try.func82 (by kernel_rfl) rfl #[.string a2] rfl (by (try simp only [List.map_toArray, List.map_cons, List.map_nil]); first | done | rfl | (simp only [List.length_drop, List.length_take]; rfl)) ?_; (with_reducible refine (impl_longestGap.calls k a2 t214 t215 _ A4.out).mono ?_); rintro e w27 ⟨rfl, hb⟩; refine ⟨_, rfl, ?_⟩; have n0_ := am (below_step (hbS HB.out) hb); clear HB; have HB := n0_; clear n0_; (try clear hb); (try clear hb2); (try clear hk); (try clear hi)) | ((with_reducible refine gate_callee (f := 87) rfl ?_); refine goesL_ (some 42) rfl rfl Try.func87 (by kernel_rfl) rfl #[.string a2, .int .i64 a1] rfl (by (try simp only [List.map_toArray, List.map_cons, List.map_nil]); first | done | rfl | (simp only [List.length_drop, List.length_take]; rfl)) ?_; (with_reducible refine (impl_countBy.calls k a2 a1 t222 _ A25.out).mono ?_); rintro e w28 ⟨v223, rfl, ho0, hb⟩; refine ⟨_, rfl, ?_⟩; have n0_ := am (Kd.R_lower ho0 (below_size (hbS HB.out))); have n1_ := am (below_step (hbS HB.out) hb); clear HB; have HO224 := n0_; have HB := n1_; clear n0_ n1_; (try clear hb); (try clear hb2); (try clear hk); (try clear hi); (try clear ho0); obtain ⟨Ao29, co29, eo29⟩ := Kd.R_slice HO224.out; subst eo29) | ((with_reducible refine gate_callee (f := 86) rfl ?_); refine goesL_ (some 43) rfl rfl Try.func86 (by kernel_rfl) rfl #[.slice Ao29 t222.length co29] rfl (by (try simp only [List.map_toArray, List.map_cons, List.map_nil]); first | done | rfl | (simp only [List.length_drop, List.length_take]; rfl)) ?_; (with_reducible refine (impl_sum.calls k _ _ t222 t225 _ ?side1 ?side2 A26.out).mono ?_); (case side1 => repeat (first | exact (Kd.R_reads' HO224.out).2.2 | (with_reducible refine Kd.C_alloc ?_ _) | (with_reducible refine Kd.C_drewN ?_ _) | (with_reducible refine Kd.C_drew ?_))); (case side2 => exact (Kd.R_reads' HO224.out).2.1); rintro e w' ⟨rfl, ⟨nd, rfl⟩⟩; refine ⟨_, rfl, ?_⟩))
      go_ret
      exact ⟨by first | rfl | (simp [errW_none, errW_some] <;> rfl) | (simp [*, errW_none, errW_some] <;> rfl), hbS HB.out⟩
     ·rw [if_neg c24] at H
      have c24b0 : (a0 == 4) = false := beq_eq_false_iff_ne.mpr c24
      have c24b1 : (a0 != 4) = true := bne_iff_ne.mpr c24
      obtain rfl := Option.some.inj H
      go_enter Try.func76, Try.ntmps76
      go_wp2_with (first | ((with_reducible refine gate_callee (f := 82) rfl ?_); refine goesL_ (some 11) rfl rfl Try.func82 (by kernel_rfl) rfl #[.string a2] rfl (by (try simp only [List.map_toArray, List.map_cons, List.map_nil]); first | done | rfl | (simp only [List.length_drop, List.length_take]; rfl)) ?_; (with_reducible refine (impl_longestGap.calls k a2 t214 t215 _ A4.out).mono ?_); rintro e w30 ⟨rfl, hb⟩; refine ⟨_, rfl, ?_⟩; have n0_ := am (below_step (hbS HB.out) hb); clear HB; have HB := n0_; clear n0_; (try clear hb); (try clear hb2); (try clear hk); (try clear hi)))
      go_ret
      exact ⟨by first | rfl | (simp [errW_none, errW_some] <;> rfl) | (simp [*, errW_none, errW_some] <;> rfl), hbS HB.out⟩
/-! ### impl_Clue_fits: function 74 -/
def impl_Clue_fits.f (k : Nat) (a0_0 : Int) (a0_1 : Int) (a0_2 : Int) (a1 : ByteArray) : Option (Bool) := (impl_told.f k a0_0 a0_1 a1).bind fun t227 => (some (t227 == a0_2))
def impl_Clue_fits.T1 : Bool × List (List Nat × List Nat) := (true, [([], []), ([0], [0]), ([], []), ([2], [2]), ([], []), ([1, 3, 4], [1, 3, 4]), ([], []), ([6], [6]), ([5, 7], [5, 7]), ([8, 5, 0, 1, 2, 3, 4, 5, 6, 7, 8], [8])])
def impl_Clue_fits.B1 : List Nat := [0, 1, 0, 4, 0, 31, 0, 64, 255, 511]
theorem impl_Clue_fits.tab1 : rtab .any (opsOf Try.f74 1) = impl_Clue_fits.T1 := by kernel_rfl
theorem impl_Clue_fits.bits1 : waitsOk impl_Clue_fits.T1.2 impl_Clue_fits.B1 = true := by kernel_rfl
set_option maxHeartbeats 8000000 in
set_option maxRecDepth 100000 in
theorem impl_Clue_fits.calls (k : Nat) (a0_0 : Int) (a0_1 : Int) (a0_2 : Int) (a1 : ByteArray) (r : Bool) (w : World) (h : impl_Clue_fits.f k a0_0 a0_1 a0_2 a1 = some r) :
  Calls Try.prog 74 #[.agg #[.int .i64 a0_0, .int .i64 a0_1, .int .i64 a0_2], .string a1] w fun e w' => e = .returned (.bool r) ∧ Below w.heap.size w w' := by
 have hu25 := Try.underlying25
 have HB := am (Below.refl w.heap.size w)
 have H : ((impl_told.f k a0_0 a0_1 a1).bind fun t227 => (some (t227 == a0_2))) = some r := h
 clear h
 replace H := Option.bind_eq_some_iff.mp H
 obtain ⟨t227, A30, H⟩ := H
 replace H : (some (t227 == a0_2)) = some r := H
 have A3 := am A30
 clear A30
 obtain rfl := Option.some.inj H
 go_enter Try.func74, Try.ntmps74
 try go_wp2_with (first | ((with_reducible refine gate_dst (N := 2) rfl ?_); refine box_event ?hg (N := 2) ?hd (cs := #[.int .i64 a0_0, .int .i64 a0_1, .int .i64 a0_2]) (t := 25) ?hr ?_; (case hd => rfl); (case hg => rfl); (case hr => first | (go_simp; done) | (go_simp; rfl)); intro gb226 hg w4 hbox hb; have n0_ := am (below_step (hbS HB.out) hb); have n1_ := am (hbox); have n2_ := am (gwL (hbS HB.out) hg); have n3_ := n2_; clear HB; have HB := n0_; have BK226 := n1_; have GW226 := n2_; have GE226 := n3_; clear n0_ n1_ n2_ n3_; clear hb hbox hg))
 have n0_ := am (blk_drew BK226.out)
 have n1_ := am (below_drew1 HB.out)
 clear BK226
 clear HB
 have BK226 := n0_
 have HB := n1_
 clear n0_ n1_
 refine start_ (n := 10) (S := fun w' => w'.cell? ⟨gb226, 0, none⟩ = some (.int .i64 a0_0) ∧ w'.cell? ⟨gb226, 1, none⟩ = some (.int .i64 a0_1) ∧ w'.cell? ⟨gb226, 2, none⟩ = some (.int .i64 a0_2)) (ds := []) #[false, false, false, false, false, false, false, false, false, false] (by kernel_rfl) rfl rfl ⟨(blk_cell BK226.out 0).trans rfl, (blk_cell BK226.out 1).trans rfl, (blk_cell BK226.out 2).trans rfl⟩ (fun hHeld => ?_); refine with_tabW impl_Clue_fits.tab1 impl_Clue_fits.bits1 (fun HT_ HW_ => ?_)
 generalize w4.drew = w5 at BK226 HB hHeld ⊢
 refine pure_ (i := 0) (N := some 5) (v := ?_) (a' := ?_) #[true, false, false, false, false, false, false, false, false, false] rfl rfl (any_of HT_.out (by kernel_rfl)) (fun _ _ _ h => h) (Or.inl ⟨by rfl, ?_⟩) ?_ ?_
 rotate_left
 ·intro w'
  go_simp
  with_reducible rfl
 rotate_left
 ·simp only [Act.put, List.setIfInBounds_toArray, List.set_cons_zero, List.set_cons_succ, i64_w, i32_w]
  rfl
 refine pure_ (i := 2) (N := some 7) (v := ?_) (a' := ?_) #[true, false, true, false, false, false, false, false, false, false] rfl rfl (any_of HT_.out (by kernel_rfl)) (fun _ _ _ h => h) (Or.inl ⟨by rfl, ?_⟩) ?_ ?_
 rotate_left
 ·intro w'
  go_simp
  with_reducible rfl
 rotate_left
 ·simp only [Act.put, List.setIfInBounds_toArray, List.set_cons_zero, List.set_cons_succ, i64_w, i32_w]
  rfl
 refine pure_ (i := 4) (N := some 9) (v := ?_) (a' := ?_) #[true, false, true, false, true, false, false, false, false, false] rfl rfl (any_of HT_.out (by kernel_rfl)) (fun _ _ _ h => h) (Or.inl ⟨by rfl, ?_⟩) ?_ ?_
 rotate_left
 ·intro w'
  go_simp
  with_reducible rfl
 rotate_left
 ·simp only [Act.put, List.setIfInBounds_toArray, List.set_cons_zero, List.set_cons_succ, i64_w, i32_w]
  rfl
 refine pure_ (i := 6) (N := some 11) (v := ?_) (a' := ?_) #[true, false, true, false, true, false, true, false, false, false] rfl rfl (any_of HT_.out (by kernel_rfl)) (fun _ _ _ h => h) (Or.inl ⟨by rfl, ?_⟩) ?_ ?_
 rotate_left
 ·intro w'
  go_simp
  with_reducible rfl
 rotate_left
 ·simp only [Act.put, List.setIfInBounds_toArray, List.set_cons_zero, List.set_cons_succ, i64_w, i32_w]
  rfl
 refine take_ (i := 1) (N := some 6) (v := ?_) (a' := ?_) #[true, true, true, false, true, false, true, false, false, false] rfl rfl (take_ofW HT_.out HW_.out (by kernel_rfl)) (fun _ _ _ h => h) (Or.inl ⟨by rfl, ?_⟩) hHeld ?_ ?_
 rotate_left
 ·rintro w' ⟨s0, s1, s2⟩
  go_simp
  with_reducible rfl
 rotate_left
 ·simp only [Act.put, List.setIfInBounds_toArray, List.set_cons_zero, List.set_cons_succ, i64_w, i32_w]
  rfl
 refine take_ (i := 3) (N := some 8) (v := ?_) (a' := ?_) #[true, true, true, true, true, false, true, false, false, false] rfl rfl (take_ofW HT_.out HW_.out (by kernel_rfl)) (fun _ _ _ h => h) (Or.inl ⟨by rfl, ?_⟩) hHeld ?_ ?_
 rotate_left
 ·rintro w' ⟨s0, s1, s2⟩
  go_simp
  with_reducible rfl
 rotate_left
 ·simp only [Act.put, List.setIfInBounds_toArray, List.set_cons_zero, List.set_cons_succ, i64_w, i32_w]
  rfl
 refine take_ (i := 7) (N := some 12) (v := ?_) (a' := ?_) #[true, true, true, true, true, false, true, true, false, false] rfl rfl (take_ofW HT_.out HW_.out (by kernel_rfl)) (fun _ _ _ h => h) (Or.inl ⟨by rfl, ?_⟩) hHeld ?_ ?_
 rotate_left
 ·rintro w' ⟨s0, s1, s2⟩
  go_simp
  with_reducible rfl
 rotate_left
 ·simp only [Act.put, List.setIfInBounds_toArray, List.set_cons_zero, List.set_cons_succ, i64_w, i32_w]
  rfl
 refine one_ (i := 5) (N := some 10) #[true, true, true, true, true, true, true, true, false, false] rfl rfl (one_of HT_.out (by kernel_rfl)) (by decide) (fun K hK => ?_)
 refine goes_ Try.func76 (by kernel_rfl) rfl #[.int .i64 a0_0, .int .i64 a0_1, .string a1] (by rfl) rfl rfl (by (try simp only [List.map_toArray, List.map_cons, List.map_nil]); first | done | rfl | (simp only [List.length_drop, List.length_take]; rfl)) ?_
 with_reducible refine (impl_told.calls k a0_0 a0_1 a1 t227 _ A3.out).mono ?_
 rintro e w6 ⟨rfl, hb⟩
 refine ⟨_, rfl, ?_⟩
 have n0_ := am (blk_below (bkS BK226.out) hb)
 have n1_ := am (below_step (by repeat (first | (with_reducible first | exact HB.out | apply below_alloc | apply pw_below_drewN | apply below_drew1 | refine below_set ?_ GE226.out) | exact HB.out)) hb)
 clear BK226
 clear HB
 have BK226 := n0_
 have HB := n1_
 clear n0_ n1_
 (try clear hb)
 (try clear hb2)
 (try clear hk)
 (try clear hi)
 refine hK.out _ _ ⟨(blk_cell BK226.out 0).trans rfl, (blk_cell BK226.out 1).trans rfl, (blk_cell BK226.out 2).trans rfl⟩ (fun hHeld => ?_)
 clear hK K
 refine norm_ (a' := ?_) ?_ ?_
 rotate_left
 ·show Act.put _ (some 10) _ = _
  simp only [Act.put, List.setIfInBounds_toArray, List.set_cons_zero, List.set_cons_succ, i64_w, i32_w]
  rfl
 refine pure_ (i := 8) (N := some 13) (v := ?_) (a' := ?_) #[true, true, true, true, true, true, true, true, true, false] rfl rfl (any_of HT_.out (by kernel_rfl)) (fun _ _ _ h => h) (Or.inl ⟨by rfl, ?_⟩) ?_ ?_
 rotate_left
 ·intro w'
  go_simp
  with_reducible rfl
 rotate_left
 ·simp only [Act.put, List.setIfInBounds_toArray, List.set_cons_zero, List.set_cons_succ, i64_w, i32_w]
  rfl
 refine pure_ (i := 9) (N := some 4) (v := ?_) (a' := ?_) #[true, true, true, true, true, true, true, true, true, true] rfl rfl (any_of HT_.out (by kernel_rfl)) (fun _ _ _ h => h) (Or.inl ⟨by rfl, ?_⟩) ?_ ?_
 rotate_left
 ·intro w'
  go_simp
  with_reducible rfl
 rotate_left
 ·simp only [Act.put, List.setIfInBounds_toArray, List.set_cons_zero, List.set_cons_succ, i64_w, i32_w]
  rfl
 refine done_ (done_of HT_.out (by kernel_rfl)) ?_
 try go_wp2
 go_ret
 exact ⟨by first | rfl | (simp [errW_none, errW_some] <;> rfl) | (simp [*, errW_none, errW_some] <;> rfl), by repeat (first | (with_reducible first | exact HB.out | apply below_alloc | apply pw_below_drewN | apply below_drew1 | refine below_set ?_ GE226.out) | exact HB.out)⟩
end Go.Proofs.Ytonifgfgeollaaa.X
end
section
-- Written by a program of this session (wip/tools/mp.py) over the kit's print of the translation.
namespace Go.Proofs.Ytonifgfgeollaaa.X
open Go.Proofs.Ytonifgfgeollaaa.Sq Go.RowKit Go.Proofs.YtonifgfgeollaaaW.PrintWords Go.Proofs.YtonifgfgeollaaaW.PrintLast Go.Proofs.YtonifgfgeollaaaW.PrintMore
attribute [local go_sem] max2_int min2_int max_two min_two max_three min_three max_four min_four   -- for this text's walks alone
set_option linter.unusedVariables false
set_option linter.unusedSimpArgs false
/-! ### impl_solutions_1: function 100005 -/
def impl_solutions_1.f (k : Nat) (a0_0 : Int) (a0_1 : Int) (a0_2 : Int) (a1_0_0 : ByteArray) : Option (Bool) := (impl_Clue_fits.f k a0_0 a0_1 a0_2 a1_0_0).bind fun t229 => (some (!t229))
set_option maxHeartbeats 8000000 in
set_option maxRecDepth 100000 in
theorem impl_solutions_1.calls (k : Nat) (a0_0 : Int) (a0_1 : Int) (a0_2 : Int) (g1_0 : Nat) (a1_0_0 : ByteArray) (r : Bool) (w : World) (hb1000020 : w.heap[g1_0]? = some (.cells #[.string a1_0_0] 9 (0, 0))) (h : impl_solutions_1.f k a0_0 a0_1 a0_2 a1_0_0 = some r) :
  Calls Try.prog 73 #[.agg #[.int .i64 a0_0, .int .i64 a0_1, .int .i64 a0_2], .pointer (some ⟨g1_0, 0, none⟩)] w fun e w' => e = .returned (.bool r) ∧ Below w.heap.size w w' := by
 have hu25 := Try.underlying25
 have BK1000020 := am hb1000020
 clear hb1000020
 have HB := am (Below.refl w.heap.size w)
 have H : ((impl_Clue_fits.f k a0_0 a0_1 a0_2 a1_0_0).bind fun t229 => (some (!t229))) = some r := h
 clear h
 replace H := Option.bind_eq_some_iff.mp H
 obtain ⟨t229, A30, H⟩ := H
 replace H : (some (!t229)) = some r := H
 have A3 := am A30
 clear A30
 obtain rfl := Option.some.inj H
 go_enter Try.func73, Try.ntmps73
 go_wp2_with (first | ((with_reducible refine gate_dst (N := 2) rfl ?_); refine box_event ?hg (N := 2) ?hd (cs := #[.int .i64 a0_0, .int .i64 a0_1, .int .i64 a0_2]) (t := 25) ?hr ?_; (case hd => rfl); (case hg => rfl); (case hr => first | (go_simp; done) | (go_simp; rfl)); intro gb228 hg w4 hbox hb; have n0_ := am (blk_below (bkS BK1000020.out) hb); have n1_ := am (below_step (by repeat (first | (with_reducible first | exact HB.out | apply below_alloc | apply pw_below_drewN | apply below_drew1 | refine below_set ?_ GE1000020.out) | exact HB.out)) hb); have n2_ := am (hbox); have n3_ := am (gwL (by repeat (first | (with_reducible first | exact HB.out | apply below_alloc | apply pw_below_drewN | apply below_drew1 | refine below_set ?_ GE1000020.out) | exact HB.out)) hg); have n4_ := n3_; have n5_ := am (nbL (bkS BK1000020.out) hg); have n6_ := am (nbG (bkS BK1000020.out) hg); clear BK1000020; clear HB; have BK1000020 := n0_; have HB := n1_; have BK228 := n2_; have GW228 := n3_; have GE228 := n4_; have NB1000020_228 := n5_; have NB228_1000020 := n6_; clear n0_ n1_ n2_ n3_ n4_ n5_ n6_; clear hb hbox hg; have hnb5 := NB228_1000020.out; have hnc5 := NB1000020_228.out; have hcz6_0 : w4.cell? ⟨gb228, 0, none⟩ = some (.int .i64 a0_0) := (blk_cell BK228.out 0).trans rfl; have hcz6_1 : w4.cell? ⟨gb228, 1, none⟩ = some (.int .i64 a0_1) := (blk_cell BK228.out 1).trans rfl; have hcz6_2 : w4.cell? ⟨gb228, 2, none⟩ = some (.int .i64 a0_2) := (blk_cell BK228.out 2).trans rfl; have hfz6_0 := blk_frozen BK228.out 0; have hfz6_1 := blk_frozen BK228.out 1; have hfz6_2 := blk_frozen BK228.out 2; have hcz7_0 : w4.cell? ⟨g1_0, 0, none⟩ = some (.string a1_0_0) := (blk_cell BK1000020.out 0).trans rfl; have hfz7_0 := blk_frozen BK1000020.out 0) | ((with_reducible refine gate_callee (f := 74) rfl ?_); refine goesL_ (some 6) rfl rfl Try.func74 (by kernel_rfl) rfl #[.agg #[.int .i64 a0_0, .int .i64 a0_1, .int .i64 a0_2], .string a1_0_0] rfl (by (try simp only [List.map_toArray, List.map_cons, List.map_nil]); first | done | rfl | (simp only [List.length_drop, List.length_take]; rfl)) ?_; (with_reducible refine (impl_Clue_fits.calls k a0_0 a0_1 a0_2 a1_0_0 t229 _ A3.out).mono ?_); rintro e w8 ⟨rfl, hb⟩; refine ⟨_, rfl, ?_⟩; have n0_ := am (blk_below (bkS BK1000020.out) hb); have n1_ := am (blk_below (bkS BK228.out) hb); have n2_ := am (below_step (by repeat (first | (with_reducible first | exact HB.out | apply below_alloc | apply pw_below_drewN | apply below_drew1 | refine below_set ?_ (Aside0.out (by assumption))) | exact HB.out)) hb); clear BK1000020; clear BK228; clear HB; have BK1000020 := n0_; have BK228 := n1_; have HB := n2_; clear n0_ n1_ n2_; (try clear hb); (try clear hb2); (try clear hk); (try clear hi)))
 go_ret
 exact ⟨by first | rfl | (simp [errW_none, errW_some] <;> rfl) | (simp [*, errW_none, errW_some] <;> rfl), by repeat (first | (with_reducible first | exact HB.out | apply below_alloc | apply pw_below_drewN | apply below_drew1 | refine below_set ?_ (Aside0.out (by assumption))) | exact HB.out)⟩
/-! ### slices_IndexFunc_Clue__solutions_1: function 100004 -/
def slices_IndexFunc_Clue__solutions_1.l0 : Nat → List (S25) → Int → Int → ByteArray → Option (Int)
 | 0, _, _, _, _ => none
 | k + 1, x0, x7, x8, x1000021000 => if x8 < x7 then (if 0 ≤ x8 then (if x8 < (x0.length : Int) then ((impl_solutions_1.f k ((rd_T25 x0 x8).f0) ((rd_T25 x0 x8).f1) ((rd_T25 x0 x8).f2) x1000021000).bind fun t231 => (if t231 = true then (some x8) else (slices_IndexFunc_Clue__solutions_1.l0 k x0 x7 (wrap64 (x8 + 1)) x1000021000))) else (none)) else (none)) else (some (-1))
def slices_IndexFunc_Clue__solutions_1.f (k : Nat) (l0 : List (S25)) (a1_0_0 : ByteArray) : Option (Int) := slices_IndexFunc_Clue__solutions_1.l0 k l0 (l0.length : Int) 0 a1_0_0
set_option maxHeartbeats 8000000 in
set_option maxRecDepth 100000 in
theorem slices_IndexFunc_Clue__solutions_1.calls (k : Nat) (A0 : Option Addr) (c0 : Nat) (l0 : List (S25)) (g1_0 : Nat) (a1_0_0 : ByteArray) (r : Int) (w : World) (hr0 : Kd.C k25 w A0 l0.length l0) (hc0 : l0.length ≤ c0) (hb1000020 : w.heap[g1_0]? = some (.cells #[.string a1_0_0] 9 (0, 0))) (h : slices_IndexFunc_Clue__solutions_1.f k l0 a1_0_0 = some r) :
  Calls Try.prog 68 #[.slice A0 l0.length c0, .func (.func 73) #[] #[.pointer (some ⟨g1_0, 0, none⟩)]] w fun e w' => e = .returned (.int .i64 r) ∧ Below w.heap.size w w' := by
 have hu25 := Try.underlying25
 have HR0 := am hr0
 have HC0 := am hc0
 clear hr0 hc0
 have BK1000020 := am hb1000020
 clear hb1000020
 have HB := am (Below.refl w.heap.size w)
 have H : (slices_IndexFunc_Clue__solutions_1.l0 k l0 (l0.length : Int) 0 a1_0_0) = some r := h
 clear h
 have H' := am H
 clear H
 go_enter Try.func68, Try.ntmps68
 go_wp2
 go_loopg [8] k (fun kq v8 w' => ∃ (x8_1 : Int), v8 = .int .i64 x8_1 ∧ Aside0 (slices_IndexFunc_Clue__solutions_1.l0 kq l0 (l0.length : Int) x8_1 a1_0_0 = some r) ∧ Aside0 (kq ≤ k) ∧ Aside0 (w'.heap[g1_0]? = some (.cells #[.string a1_0_0] 9 (0, 0))) ∧ Aside0 (Below w.heap.size w w'))
 case atStart => exact ⟨(0), (by first | rfl | (simp; done) | (simp [*]; done)), H', ⟨Nat.le_refl _⟩, ⟨bkS BK1000020.out⟩, ⟨by repeat (first | (with_reducible first | exact HB.out | apply below_alloc | apply pw_below_drewN | apply below_drew1 | refine below_set ?_ GE1000020.out) | exact HB.out)⟩⟩
 case round =>
  clear H'
  try clear p2
  obtain ⟨x8_1, rfl, HA, HK1, BK1000020, HB⟩ := hrel
  cases gk with
  | zero => exact absurd HA.out (by simp [slices_IndexFunc_Clue__solutions_1.l0])
  | succ k1 =>
   have H := HA.out
   clear HA
   simp only [slices_IndexFunc_Clue__solutions_1.l0] at H
   by_cases c3 : x8_1 < (l0.length : Int)
   ·rw [if_pos c3] at H
    have c3b0 : decide (x8_1 < (l0.length : Int)) = true := decide_eq_true c3
    clear c3
    by_cases c4 : 0 ≤ x8_1
    ·rw [if_pos c4] at H
     have c4b0 : decide (0 ≤ x8_1) = true := decide_eq_true c4
     clear c4
     by_cases c5 : x8_1 < (l0.length : Int)
     ·rw [if_pos c5] at H
      have c5b0 : decide (x8_1 < (l0.length : Int)) = true := decide_eq_true c5
      clear c5
      replace H := Option.bind_eq_some_iff.mp H
      obtain ⟨t231, A60, H⟩ := H
      replace H : (if t231 = true then (some x8_1) else (slices_IndexFunc_Clue__solutions_1.l0 k1 l0 (l0.length : Int) (wrap64 (x8_1 + 1)) a1_0_0)) = some r := H
      have A6 := am A60
      clear A60
      by_cases c7 : t231 = true
      ·subst c7
       have H1 : (some x8_1) = some r := by rw [if_pos rfl] at H; exact H
       clear H
       have H := H1
       clear H1
       obtain rfl := Option.some.inj H
       have p230 : 0 ≤ (x8_1 : Int) := of_decide_eq_true (by first | (with_reducible assumption) | assumption)
       have q230 : x8_1 < (l0.length : Int) := of_decide_eq_true (by first | (with_reducible assumption) | assumption)
       obtain ⟨ad230, e230, hx230_0, hx230_1, hx230_2⟩ := at_T25 HR0.out x8_1 p230 q230
       cases e230
       (try replace hx230_0 := (HB.out.cell (World.block_lt_of_cell? w _ hx230_0)).trans hx230_0)
       (try replace hx230_1 := (HB.out.cell (World.block_lt_of_cell? w _ hx230_1)).trans hx230_1)
       (try replace hx230_2 := (HB.out.cell (World.block_lt_of_cell? w _ hx230_2)).trans hx230_2)
       replace p230 := eq_true p230
       replace q230 := eq_true q230
       go_wp2_with (first | (go_at_call 73; (with_reducible refine (impl_solutions_1.calls k1 ((rd_T25 l0 x8_1).f0) ((rd_T25 l0 x8_1).f1) ((rd_T25 l0 x8_1).f2) g1_0 a1_0_0 true _ ?side1 A6.out).mono ?_); (case side1 => exact bkS BK1000020.out); rintro e w8 ⟨rfl, hb⟩; have n0_ := am (blk_below (bkS BK1000020.out) hb); have n1_ := am (below_step (by repeat (first | (with_reducible first | exact HB.out | apply below_alloc | apply pw_below_drewN | apply below_drew1 | refine below_set ?_ GE1000020.out) | exact HB.out)) hb); clear BK1000020; clear HB; have BK1000020 := n0_; have HB := n1_; clear n0_ n1_; (try clear hb); (try clear hb2); (try clear hk); (try clear hi)))
       go_ret
       exact ⟨by first | rfl | (simp [errW_none, errW_some] <;> rfl) | (simp [*, errW_none, errW_some] <;> rfl), by repeat (first | (with_reducible first | exact HB.out | apply below_alloc | apply pw_below_drewN | apply below_drew1 | refine below_set ?_ GE1000020.out) | exact HB.out)⟩
      ·replace c7 := Bool.eq_false_iff.mpr c7
       subst c7
       have H1 : (slices_IndexFunc_Clue__solutions_1.l0 k1 l0 (l0.length : Int) (wrap64 (x8_1 + 1)) a1_0_0) = some r := by rw [if_neg (show ¬ (false = true) by decide)] at H; exact H
       clear H
       have H := H1
       clear H1
       have H' := am H
       clear H
       have p230 : 0 ≤ (x8_1 : Int) := of_decide_eq_true (by first | (with_reducible assumption) | assumption)
       have q230 : x8_1 < (l0.length : Int) := of_decide_eq_true (by first | (with_reducible assumption) | assumption)
       obtain ⟨ad230, e230, hx230_0, hx230_1, hx230_2⟩ := at_T25 HR0.out x8_1 p230 q230
       cases e230
       (try replace hx230_0 := (HB.out.cell (World.block_lt_of_cell? w _ hx230_0)).trans hx230_0)
       (try replace hx230_1 := (HB.out.cell (World.block_lt_of_cell? w _ hx230_1)).trans hx230_1)
       (try replace hx230_2 := (HB.out.cell (World.block_lt_of_cell? w _ hx230_2)).trans hx230_2)
       replace p230 := eq_true p230
       replace q230 := eq_true q230
       go_wp2_with (first | (go_at_call 73; (with_reducible refine (impl_solutions_1.calls k1 ((rd_T25 l0 x8_1).f0) ((rd_T25 l0 x8_1).f1) ((rd_T25 l0 x8_1).f2) g1_0 a1_0_0 false _ ?side1 A6.out).mono ?_); (case side1 => exact bkS BK1000020.out); rintro e w9 ⟨rfl, hb⟩; have n0_ := am (blk_below (bkS BK1000020.out) hb); have n1_ := am (below_step (by repeat (first | (with_reducible first | exact HB.out | apply below_alloc | apply pw_below_drewN | apply below_drew1 | refine below_set ?_ GE1000020.out) | exact HB.out)) hb); clear BK1000020; clear HB; have BK1000020 := n0_; have HB := n1_; clear n0_ n1_; (try clear hb); (try clear hb2); (try clear hk); (try clear hi)))
       go_roundg k1
       case measure => have := HK1.out; omega
       case rel => exact ⟨(wrap64 (x8_1 + 1)), (by first | rfl | (simp; done) | (simp [*]; done)), H', ⟨by have := HK1.out; omega⟩, ⟨bkS BK1000020.out⟩, ⟨by repeat (first | (with_reducible first | exact HB.out | apply below_alloc | apply pw_below_drewN | apply below_drew1 | refine below_set ?_ GE1000020.out) | exact HB.out)⟩⟩
     ·rw [if_neg c5] at H
      exact absurd H (by simp)
    ·rw [if_neg c4] at H
     exact absurd H (by simp)
   ·rw [if_neg c3] at H
    have c3b0 : decide (x8_1 < (l0.length : Int)) = false := decide_eq_false c3
    clear c3
    obtain rfl := Option.some.inj H
    go_wp2
    go_ret
    exact ⟨by first | rfl | (simp [errW_none, errW_some] <;> rfl) | (simp [*, errW_none, errW_some] <;> rfl), by repeat (first | (with_reducible first | exact HB.out | apply below_alloc | apply pw_below_drewN | apply below_drew1 | refine below_set ?_ GE1000020.out) | exact HB.out)⟩
/-! ### slices_ContainsFunc_Clue__solutions_1: function 100003 -/
def slices_ContainsFunc_Clue__solutions_1.f (k : Nat) (l0 : List (S25)) (a1_0_0 : ByteArray) : Option (Bool) := (slices_IndexFunc_Clue__solutions_1.f k l0 a1_0_0).bind fun t232 => (some (decide (t232 ≥ 0)))
set_option maxHeartbeats 8000000 in
set_option maxRecDepth 100000 in
theorem slices_ContainsFunc_Clue__solutions_1.calls (k : Nat) (A0 : Option Addr) (c0 : Nat) (l0 : List (S25)) (g1_0 : Nat) (a1_0_0 : ByteArray) (r : Bool) (w : World) (hr0 : Kd.C k25 w A0 l0.length l0) (hc0 : l0.length ≤ c0) (hb1000020 : w.heap[g1_0]? = some (.cells #[.string a1_0_0] 9 (0, 0))) (h : slices_ContainsFunc_Clue__solutions_1.f k l0 a1_0_0 = some r) :
  Calls Try.prog 55 #[.slice A0 l0.length c0, .func (.func 73) #[] #[.pointer (some ⟨g1_0, 0, none⟩)]] w fun e w' => e = .returned (.bool r) ∧ Below w.heap.size w w' := by
 have HR0 := am hr0
 have HC0 := am hc0
 clear hr0 hc0
 have BK1000020 := am hb1000020
 clear hb1000020
 have HB := am (Below.refl w.heap.size w)
 have H : ((slices_IndexFunc_Clue__solutions_1.f k l0 a1_0_0).bind fun t232 => (some (decide (t232 ≥ 0)))) = some r := h
 clear h
 replace H := Option.bind_eq_some_iff.mp H
 obtain ⟨t232, A30, H⟩ := H
 replace H : (some (decide (t232 ≥ 0))) = some r := H
 have A3 := am A30
 clear A30
 obtain rfl := Option.some.inj H
 go_enter Try.func55, Try.ntmps55
 go_wp2_with (first | ((with_reducible refine gate_callee (f := 68) rfl ?_); refine goesL_ (some 7) rfl rfl Try.func68 (by kernel_rfl) rfl #[.slice A0 l0.length c0, .func (.func 73) #[] #[.pointer (some ⟨g1_0, 0, none⟩)]] rfl (by (try simp only [List.map_toArray, List.map_cons, List.map_nil]); first | done | rfl | (simp only [List.length_drop, List.length_take]; rfl)) ?_; (with_reducible refine (slices_IndexFunc_Clue__solutions_1.calls k _ _ l0 g1_0 a1_0_0 t232 _ ?side1 ?side2 ?side3 A3.out).mono ?_); (case side1 => repeat (first | exact HR0.out | (with_reducible refine Kd.C_alloc ?_ _) | (with_reducible refine Kd.C_drewN ?_ _) | (with_reducible refine Kd.C_drew ?_))); (case side2 => exact HC0.out); (case side3 => exact bkS BK1000020.out); rintro e w4 ⟨rfl, hb⟩; refine ⟨_, rfl, ?_⟩; have n0_ := am (blk_below (bkS BK1000020.out) hb); have n1_ := am (below_step (by repeat (first | (with_reducible first | exact HB.out | apply below_alloc | apply pw_below_drewN | apply below_drew1 | refine below_set ?_ GE1000020.out) | exact HB.out)) hb); clear BK1000020; clear HB; have BK1000020 := n0_; have HB := n1_; clear n0_ n1_; (try clear hb); (try clear hb2); (try clear hk); (try clear hi)))
 go_ret
 exact ⟨by first | rfl | (simp [errW_none, errW_some] <;> rfl) | (simp [*, errW_none, errW_some] <;> rfl), by repeat (first | (with_reducible first | exact HB.out | apply below_alloc | apply pw_below_drewN | apply below_drew1 | refine below_set ?_ GE1000020.out) | exact HB.out)⟩
end Go.Proofs.Ytonifgfgeollaaa.X
end
section
-- Written by a program of this session (wip/tools/mp.py) over the kit's print of the translation.
namespace Go.Proofs.Ytonifgfgeollaaa.X
open Go.Proofs.Ytonifgfgeollaaa.Sq Go.RowKit Go.Proofs.YtonifgfgeollaaaW.PrintWords Go.Proofs.YtonifgfgeollaaaW.PrintLast Go.Proofs.YtonifgfgeollaaaW.PrintMore
attribute [local go_sem] max2_int min2_int max_two min_two max_three min_three max_four min_four   -- for this text's walks alone
set_option linter.unusedVariables false
set_option linter.unusedSimpArgs false
/-! ### impl_solutions: function 66 -/
mutual
def impl_solutions.l0 : Nat → Int → List (S25) → List ByteArray → Int → Int → Option (List ByteArray)
 | 0, _, _, _, _, _ => none
 | k + 1, x0, x1, x5, x12, x13 => if x13 < x12 then (impl_solutions.l1 k x0 x1 x5 x13 (([] : List Int)) (wrap64 (x0 - 1)) x12 x13) else (some x5)
def impl_solutions.l1 : Nat → Int → List (S25) → List ByteArray → Int → List Int → Int → Int → Int → Option (List ByteArray)
 | 0, _, _, _, _, _, _, _, _ => none
 | k + 1, x0, x1, x5, x6, x7, x8, x12, x13 => if x8 ≥ 0 then (if 0 ≤ x8 then (if 0 ≤ (Go.bits .and .i64 (shr .i64 x6 x8) 1) then (if (Go.bits .and .i64 (shr .i64 x6 x8) 1) < 2 then (if x7.length < 140737488355328 then (impl_solutions.l1 k x0 x1 x5 x6 (x7 ++ [bt (⟨#[46, 111]⟩ : ByteArray) (Go.bits .and .i64 (shr .i64 x6 x8) 1)]) (wrap64 (x8 - 1)) x12 x13) else (none)) else (none)) else (none)) else (none)) else ((slices_ContainsFunc_Clue__solutions_1.f k x1 (strOfNums x7)).bind fun t243 => (if t243 = true then (impl_solutions.l0 k x0 x1 x5 x12 (wrap64 (x13 + 1))) else (if x5.length < 8796093022208 then (impl_solutions.l0 k x0 x1 (x5 ++ [strOfNums x7]) x12 (wrap64 (x13 + 1))) else (none))))
end
def impl_solutions.f (k : Nat) (a0 : Int) (l1 : List (S25)) : Option (List ByteArray) := if 0 ≤ a0 then (impl_solutions.l0 k a0 l1 (([] : List ByteArray)) (shl .i64 1 a0) 0) else (none)
set_option maxHeartbeats 8000000 in
set_option maxRecDepth 100000 in
theorem impl_solutions.calls (k : Nat) (a0 : Int) (A1 : Option Addr) (c1 : Nat) (l1 : List (S25)) (r : List ByteArray) (w : World) (hr1 : Kd.C k25 w A1 l1.length l1) (hc1 : l1.length ≤ c1) (h : impl_solutions.f k a0 l1 = some r) :
  Calls Try.prog 66 #[.int .i64 a0, .slice A1 l1.length c1] w fun e w' => ∃ v0_ : Value, e = .returned (v0_) ∧ Kd.R Kd.string 9 w' w.heap.size (fun _ => True) v0_ r ∧ Below w.heap.size w w' := by
 have HR1 := am hr1
 have HC1 := am hc1
 clear hr1 hc1
 have HB := am (Below.refl w.heap.size w)
 have H : (if 0 ≤ a0 then (impl_solutions.l0 k a0 l1 (([] : List ByteArray)) (shl .i64 1 a0) 0) else (none)) = some r := h
 clear h
 obtain ⟨y233, hy233⟩ : ∃ y_ : List ByteArray, y_ = (([] : List ByteArray)) := ⟨_, rfl⟩
 replace H : (if 0 ≤ a0 then (impl_solutions.l0 k a0 l1 y233 (shl .i64 1 a0) 0) else (none)) = some r := by first | (rw [hy233]; with_reducible exact H) | (have H2_ := (Option.bind_some _ _).symm.trans H; rw [hy233]; with_reducible exact H2_) | (have H2_ := (Option.bind_some _ _).symm.trans H; with_reducible exact H2_) | with_reducible exact H | (rw [hy233]; exact H) | exact H
 have Ny233 := am hy233
 clear hy233
 by_cases c3 : 0 ≤ a0
 ·rw [if_pos c3] at H
  have c3b0 := eq_true c3
  have c3b1 : decide (0 ≤ a0) = true := decide_eq_true c3
  clear c3
  obtain ⟨ji4, hji4⟩ : ∃ j_ : Int, (shl .i64 1 a0) = j_ := ⟨_, rfl⟩
  replace H : (impl_solutions.l0 k a0 l1 y233 ji4 0) = some r := by first | (rw [hji4] at H; exact H) | (simp only [hji4] at H ⊢; exact H)
  have hji4_ : (IntKind.i64.wrap (1 * 2 ^ min a0.toNat 64)) = ji4 := hji4
  have hji4z : a0 ≤ 64 → (IntKind.i64.wrap (1 * 2 ^ a0.toNat)) = ji4 := shl_small hji4
  have hji4u : (IntKind.i64.wrap (2 ^ min a0.toNat 64)) = ji4 := by have h_ := hji4_; rw [Int.one_mul] at h_; exact h_
  have hji4v : a0 ≤ 64 → (IntKind.i64.wrap (2 ^ a0.toNat)) = ji4 := fun hle_ => by have h_ := hji4z hle_; rw [Int.one_mul] at h_; exact h_
  have hji4y : (wrap64 (1 * 2 ^ min a0.toNat 64)) = ji4 := (i64_w _).symm.trans hji4_
  have hji4x : a0 ≤ 64 → (wrap64 (1 * 2 ^ a0.toNat)) = ji4 := fun h_ => (i64_w _).symm.trans (hji4z h_)
  have H' := am H
  clear H
  go_enter Try.func66, Try.ntmps66
  go_wp2_with (first | ((with_reducible refine gate_dst (N := 10) rfl ?_); refine Kd.R_lit Kd.string _ 9 ?hg (N := 10) ?hd (xs := ([] : List ByteArray)) (inner := []) (ok := fun _ => True) (okp := fun _ => True) ?hr ?hp (fun _ hk => hk) trivial (Below.refl _ _) (Nat.le_refl _) (by simp) ?_; (case hd => rfl); (case hg => rfl); (case hr => first | (go_simp; done) | (go_simp; rfl)); (case hp => exact (Reps.none _ _)); intro v234 w5 ho6 hb hg_ hnew_; clear hg_ hnew_; (first | rw [← Ny233.out] at ho6 | (simp only [Int.reduceToNat] at ho6; rw [← Ny233.out] at ho6)); have n0_ := am (Kd.R_lower ho6 (below_size (hbS HB.out))); have n1_ := am (below_step (hbS HB.out) hb); clear HB; have HO235 := n0_; have HB := n1_; clear n0_ n1_; clear hb ho6))
  go_loopg [5, 13] k (fun kq v5 v13 w' => ∃ (x5_1 : List ByteArray) (x13_1 : Int), v13 = .int .i64 x13_1 ∧ Aside0 (impl_solutions.l0 kq a0 l1 x5_1 ji4 x13_1 = some r) ∧ Aside0 (kq ≤ k) ∧ Aside0 (Kd.R Kd.string 9 w' w.heap.size (fun _ => True) v5 x5_1) ∧ Aside0 (Below w.heap.size w w'))
  case atStart => exact ⟨(y233), (0), (by first | rfl | (simp; done) | (simp [*]; done)), H', ⟨Nat.le_refl _⟩, ⟨roS HO235.out⟩, ⟨hbS HB.out⟩⟩
  case round =>
   clear H'
   try clear c1
   try clear p2
   try clear c3
   try clear c3b0
   try clear c3b1
   try clear c6
   try clear p6
   obtain ⟨x5_1, x13_1, rfl, HA, HK1, HO_5, HB⟩ := hrel
   cases gk with
   | zero => exact absurd HA.out (by simp [impl_solutions.l0])
   | succ k1 =>
    have H := HA.out
    clear HA
    simp only [impl_solutions.l0] at H
    by_cases c7 : x13_1 < ji4
    ·rw [if_pos c7] at H
     have c7b0 : decide (x13_1 < ji4) = true := decide_eq_true c7
     clear c7
     obtain ⟨y236, hy236⟩ : ∃ y_ : List Int, y_ = (([] : List Int)) := ⟨_, rfl⟩
     replace H : (impl_solutions.l1 k1 a0 l1 x5_1 x13_1 y236 (wrap64 (a0 - 1)) ji4 x13_1) = some r := by first | (rw [hy236]; with_reducible exact H) | (have H2_ := (Option.bind_some _ _).symm.trans H; rw [hy236]; with_reducible exact H2_) | (have H2_ := (Option.bind_some _ _).symm.trans H; with_reducible exact H2_) | with_reducible exact H | (rw [hy236]; exact H) | exact H
     have Ny236 := am hy236
     clear hy236
     have H' := am H
     clear H
     go_wp2_with (first | ((with_reducible refine gate_dst (N := 16) rfl ?_); refine Kd.R_lit (Kd.int .u8) _ 5 ?hg (N := 16) ?hd (xs := ([] : List Int)) (inner := []) (ok := fun _ => True) (okp := fun _ => True) ?hr ?hp (fun _ hk => hk) trivial (Below.refl _ _) (Nat.le_refl _) (by simp) ?_; (case hd => rfl); (case hg => rfl); (case hr => first | (go_simp; done) | (go_simp; rfl)); (case hp => exact (Reps.none _ _)); intro v237 w8 ho9 hb hg_ hnew_; clear hg_ hnew_; (first | rw [← Ny236.out] at ho9 | (simp only [Int.reduceToNat] at ho9; rw [← Ny236.out] at ho9)); have n0_ := am (Kd.R_below (roS HO_5.out) hb); have n1_ := am (Kd.R_lower ho9 (below_size (hbS HB.out))); have n2_ := am (below_step (hbS HB.out) hb); clear HO_5; clear HB; have HO_5 := n0_; have HO238 := n1_; have HB := n2_; clear n0_ n1_ n2_; clear hb ho9))
     go_loopg [7, 8] k1 (fun kq v7 v8 w' => ∃ (x7_2 : List Int) (x8_2 : Int), v8 = .int .i64 x8_2 ∧ Aside0 (impl_solutions.l1 kq a0 l1 x5_1 x13_1 x7_2 x8_2 ji4 x13_1 = some r) ∧ Aside0 (kq ≤ k1) ∧ Aside0 (Kd.R Kd.string 9 w' w.heap.size (fun _ => True) u5 x5_1) ∧ Aside0 (Kd.R (Kd.int .u8) 5 w' w.heap.size (fun _ => True) v7 x7_2) ∧ Aside0 (Below w.heap.size w w'))
     case atStart => exact ⟨(y236), (wrap64 (a0 - 1)), (by first | rfl | (simp; done) | (simp [*]; done)), H', ⟨Nat.le_refl _⟩, ⟨roS HO_5.out⟩, ⟨roS HO238.out⟩, ⟨hbS HB.out⟩⟩
     case round =>
      clear H'
      try clear c1
      try clear p2
      try clear c3
      try clear c3b0
      try clear c3b1
      try clear c6
      try clear p6
      try clear c7
      try clear c7b0
      try clear p2
      try clear p6
      obtain ⟨x7_2, x8_2, rfl, HA, HK2, HO_5, HO_7, HB⟩ := hrel
      cases gk with
      | zero => exact absurd HA.out (by simp [impl_solutions.l1])
      | succ k2 =>
       have H := HA.out
       clear HA
       simp only [impl_solutions.l1] at H
       by_cases c10 : x8_2 ≥ 0
       ·rw [if_pos c10] at H
        have c10b0 : decide (0 ≤ x8_2) = true := decide_eq_true c10
        clear c10
        by_cases c11 : 0 ≤ x8_2
        ·rw [if_pos c11] at H
         have c11b0 := eq_true c11
         have c11b1 : decide (0 ≤ x8_2) = true := decide_eq_true c11
         clear c11
         obtain ⟨ji12, hji12⟩ : ∃ j_ : Int, (shr .i64 x13_1 x8_2) = j_ := ⟨_, rfl⟩
         replace H : (if 0 ≤ (Go.bits .and .i64 (ji12) 1) then (if (Go.bits .and .i64 (ji12) 1) < 2 then (if x7_2.length < 140737488355328 then (impl_solutions.l1 k2 a0 l1 x5_1 x13_1 (x7_2 ++ [bt (⟨#[46, 111]⟩ : ByteArray) (Go.bits .and .i64 (ji12) 1)]) (wrap64 (x8_2 - 1)) ji4 x13_1) else (none)) else (none)) else (none)) = some r := by first | (rw [hji12] at H; exact H) | (simp only [hji12] at H ⊢; exact H)
         have hji12_ : (x13_1 / 2 ^ min x8_2.toNat 64) = ji12 := hji12
         have hji12z : x8_2 ≤ 64 → (x13_1 / 2 ^ x8_2.toNat) = ji12 := shr_small hji12
         by_cases c13 : 0 ≤ (Go.bits .and .i64 (ji12) 1)
         ·rw [if_pos c13] at H
          have c13b0 : decide (0 ≤ (Go.bits .and .i64 (ji12) 1)) = true := decide_eq_true c13
          clear c13
          by_cases c14 : (Go.bits .and .i64 (ji12) 1) < 2
          ·rw [if_pos c14] at H
           have c14b0 : decide ((Go.bits .and .i64 (ji12) 1) < 2) = true := decide_eq_true c14
           clear c14
           by_cases c16 : x7_2.length < 140737488355328
           ·rw [if_pos c16] at H
            have LMc16 := am c16
            clear c16
            obtain ⟨y239, hy239⟩ : ∃ y_ : List Int, y_ = (x7_2 ++ [bt (⟨#[46, 111]⟩ : ByteArray) (Go.bits .and .i64 (ji12) 1)]) := ⟨_, rfl⟩
            replace H : (impl_solutions.l1 k2 a0 l1 x5_1 x13_1 y239 (wrap64 (x8_2 - 1)) ji4 x13_1) = some r := by first | (rw [hy239]; with_reducible exact H) | (have H2_ := (Option.bind_some _ _).symm.trans H; rw [hy239]; with_reducible exact H2_) | (have H2_ := (Option.bind_some _ _).symm.trans H; with_reducible exact H2_) | with_reducible exact H | (rw [hy239]; exact H) | exact H
            have Ny239 := am hy239
            clear hy239
            have H' := am H
            clear H
            have p15 : 0 ≤ ((Go.bits .and .i64 (ji12) 1) : Int) := of_decide_eq_true (by first | (with_reducible assumption) | assumption)
            have q15 : (Go.bits .and .i64 (ji12) 1) < (2 : Int) := of_decide_eq_true (by first | (with_reducible assumption) | assumption)
            have hx15 := bt_at (⟨#[46, 111]⟩ : ByteArray) (Go.bits .and .i64 (ji12) 1)
            replace p15 := eq_true p15
            replace q15 := eq_true q15
            go_wp2_with (first | ((with_reducible refine gate_builtin (b := .append) (xs := #[.tmp 23, .tmp 29]) rfl ?_); at_builtin; refine Kd.R_append (Kd.int .u8) (w0 := w) w.heap.size rfl (.tmp 23) (.tmp 29) 73 5 (.int .u8 0) 1 rfl Try.underlying73 info5 rfl (by decide) (by omega) u7 x7_2 (bt (⟨#[46, 111]⟩ : ByteArray) (Go.bits .and .i64 (ji12) 1)) [.int .u8 (bt (⟨#[46, 111]⟩ : ByteArray) (Go.bits .and .i64 (ji12) 1))] (fun _ => True) (fun _ => False) rfl rfl ?aP (fun _ hk => hk.elim) ?aF ?aO ?aB ?aS ?aL ?_; (case aP => exact rfl); (case aB => exact (hbS HB.out)); (case aF => exact (fun _ _ => trivial)); (case aO => exact (roS HO_7.out)); (case aS => exact (below_size (hbS HB.out))); (case aL => have := LMc16.out; omega); intro v240 w17 ho hb hg hat; rw [← Ny239.out] at ho; have n0_ := am (Kd.R_over' (roS HO_5.out) (Kd.R_typed (roS HO_7.out)) (by decide) hg); have n1_ := am (hb); have n2_ := am (ho); clear HO_5; clear HB; clear HO_7; have HO_5 := n0_; have HB := n1_; have HO241 := n2_; clear n0_ n1_ n2_; clear ho hb hg hat))
            go_roundg k2
            case measure => have := HK1.out; have := HK2.out; omega
            case rel => exact ⟨(y239), (wrap64 (x8_2 - 1)), (by first | rfl | (simp; done) | (simp [*]; done)), H', ⟨by have := HK1.out; have := HK2.out; omega⟩, ⟨roS HO_5.out⟩, ⟨roS HO241.out⟩, ⟨hbS HB.out⟩⟩
           ·rw [if_neg c16] at H
            exact absurd H (by simp)
          ·rw [if_neg c14] at H
           exact absurd H (by simp)
         ·rw [if_neg c13] at H
          exact absurd H (by simp)
        ·rw [if_neg c11] at H
         exact absurd H (by simp)
       ·rw [if_neg c10] at H
        have c10b0 : decide (0 ≤ x8_2) = false := decide_eq_false c10
        clear c10
        replace H := Option.bind_eq_some_iff.mp H
        obtain ⟨t243, A180, H⟩ := H
        replace H : (if t243 = true then (impl_solutions.l0 k2 a0 l1 x5_1 ji4 (wrap64 (x13_1 + 1))) else (if x5_1.length < 8796093022208 then (impl_solutions.l0 k2 a0 l1 (x5_1 ++ [strOfNums x7_2]) ji4 (wrap64 (x13_1 + 1))) else (none))) = some r := H
        have A18 := am A180
        clear A180
        by_cases c19 : t243 = true
        ·subst c19
         have H1 : (impl_solutions.l0 k2 a0 l1 x5_1 ji4 (wrap64 (x13_1 + 1))) = some r := by rw [if_pos rfl] at H; exact H
         clear H
         have H := H1
         clear H1
         have H' := am H
         clear H
         have hcv20 := own_string (P := Try.prog) Try.underlying73 Try.underlying5 Try.underlying9 (Kd.own_of_R HO_7.out)
         go_wp2_with (first | ((with_reducible refine gate_dst (N := 9) rfl ?_); refine box_event ?hg (N := 9) ?hd (cs := #[.string (⟨#[]⟩ : ByteArray)]) (t := 9) ?hr ?_; (case hd => rfl); (case hg => rfl); (case hr => first | (go_simp; done) | (go_simp; rfl)); intro gb242 hg w21 hbox hb; have n0_ := am (Kd.R_below (Kd.R_elderB (roS HO_5.out) gb242 (Nat.le_of_eq hg.symm)) hb); have n1_ := am (Kd.R_below (roS HO_7.out) hb); have n2_ := am (below_step (hbS HB.out) hb); have n3_ := am (hbox); have n4_ := am (gwL (hbS HB.out) hg); have n5_ := n4_; clear HO_5; clear HO_7; clear HB; have HO_5 := n0_; have HO_7 := n1_; have HB := n2_; have BK242 := n3_; have GW242 := n4_; have GE242 := n5_; clear n0_ n1_ n2_ n3_ n4_ n5_; clear hb hbox hg; have hcz22_0 : w21.cell? ⟨gb242, 0, none⟩ = some (.string (⟨#[]⟩ : ByteArray)) := (blk_cell BK242.out 0).trans rfl; have hfz22_0 := blk_frozen BK242.out 0) | ((with_reducible refine gate_callee (f := 55) rfl ?_); refine goesL_ (some 35) rfl rfl Try.func55 (by kernel_rfl) rfl #[.slice A1 l1.length c1, .func (.func 73) #[] #[.pointer (some ⟨gb242, 0, none⟩)]] rfl (by (try simp only [List.map_toArray, List.map_cons, List.map_nil]); first | done | rfl | (simp only [List.length_drop, List.length_take]; rfl)) ?_; (with_reducible refine (slices_ContainsFunc_Clue__solutions_1.calls k2 _ _ l1 gb242 (strOfNums x7_2) true _ ?side1 ?side2 ?side3 A18.out).mono ?_); (case side1 => exact Kd.C_below HR1.out (by repeat (first | (with_reducible first | exact HB.out | apply below_alloc | apply pw_below_drewN | apply below_drew1 | refine below_set ?_ GE242.out) | exact HB.out))); (case side2 => exact HC1.out); (case side3 => exact by (with_reducible repeat (first | refine blk_drewN ?_ _ | refine blk_drew ?_ | refine blk_alloc ?_ _)); refine blk_put (cs := #[.string (⟨#[]⟩ : ByteArray)]) ?_ 0 _ rfl; (with_reducible repeat (first | refine blk_drewN ?_ _ | refine blk_drew ?_ | refine blk_alloc ?_ _)); exact BK242.out); rintro e w23 ⟨rfl, hb⟩; refine ⟨_, rfl, ?_⟩; have n0_ := am (Kd.R_below (by (with_reducible repeat (first | apply Kd.R_alloc | apply Kd.R_drewN | apply Kd.R_drew)); exact (Kd.R_mono (Kd.R_far (p := ⟨gb242, 0, none⟩) (Kd.R_mono HO_5.out (fun k_ hk => (⟨hk, hk.2⟩ : _ ∧ k_ ≠ gb242))) (fun _ hk => hk.2) (.string (strOfNums x7_2))) (fun _ h_ => h_.1))) hb); have n1_ := am (Kd.R_below (by (with_reducible repeat (first | apply Kd.R_alloc | apply Kd.R_drewN | apply Kd.R_drew)); exact (Kd.R_mono (Kd.R_far (p := ⟨gb242, 0, none⟩) (Kd.R_types HO_7.out BK242.out (by decide)) (fun _ hk => hk.2) (.string (strOfNums x7_2))) (fun _ h_ => h_.1))) hb); have n2_ := am (blk_below (g := gb242) (o := .cells #[.string (strOfNums x7_2)] 9 (0, 0)) (by (with_reducible repeat (first | refine blk_drewN ?_ _ | refine blk_drew ?_ | refine blk_alloc ?_ _)); refine blk_put (cs := #[.string (⟨#[]⟩ : ByteArray)]) ?_ 0 _ rfl; (with_reducible repeat (first | refine blk_drewN ?_ _ | refine blk_drew ?_ | refine blk_alloc ?_ _)); exact BK242.out) hb); have n3_ := am (below_step (by repeat (first | (with_reducible first | exact HB.out | apply below_alloc | apply pw_below_drewN | apply below_drew1 | refine below_set ?_ GE242.out) | exact HB.out)) hb); clear HO_5; clear HO_7; clear BK242; clear HB; have HO_5 := n0_; have HO_7 := n1_; have BK242 := n2_; have HB := n3_; clear n0_ n1_ n2_ n3_; (try clear hb); (try clear hb2); (try clear hk); (try clear hi)))
         go_roundg k2
         case measure => have := HK1.out; have := HK2.out; omega
         case rel => exact ⟨(x5_1), (wrap64 (x13_1 + 1)), (by first | rfl | (simp; done) | (simp [*]; done)), H', ⟨by have := HK1.out; have := HK2.out; omega⟩, ⟨by (with_reducible repeat (first | apply Kd.R_alloc | apply Kd.R_drewN | apply Kd.R_drew)); exact Kd.R_mono HO_5.out (fun _ hk => trivial)⟩, ⟨by repeat (first | (with_reducible first | exact HB.out | apply below_alloc | apply pw_below_drewN | apply below_drew1 | refine below_set ?_ GE242.out) | exact HB.out)⟩⟩
        ·replace c19 := Bool.eq_false_iff.mpr c19
         subst c19
         have H1 : (if x5_1.length < 8796093022208 then (impl_solutions.l0 k2 a0 l1 (x5_1 ++ [strOfNums x7_2]) ji4 (wrap64 (x13_1 + 1))) else (none)) = some r := by rw [if_neg (show ¬ (false = true) by decide)] at H; exact H
         clear H
         have H := H1
         clear H1
         by_cases c24 : x5_1.length < 8796093022208
         ·rw [if_pos c24] at H
          have LMc24 := am c24
          clear c24
          obtain ⟨y244, hy244⟩ : ∃ y_ : List ByteArray, y_ = (x5_1 ++ [strOfNums x7_2]) := ⟨_, rfl⟩
          replace H : (impl_solutions.l0 k2 a0 l1 y244 ji4 (wrap64 (x13_1 + 1))) = some r := by first | (rw [hy244]; with_reducible exact H) | (have H2_ := (Option.bind_some _ _).symm.trans H; rw [hy244]; with_reducible exact H2_) | (have H2_ := (Option.bind_some _ _).symm.trans H; with_reducible exact H2_) | with_reducible exact H | (rw [hy244]; exact H) | exact H
          have Ny244 := am hy244
          clear hy244
          have H' := am H
          clear H
          have hcv25 := own_string (P := Try.prog) Try.underlying73 Try.underlying5 Try.underlying9 (Kd.own_of_R HO_7.out)
          go_wp2_with (first | ((with_reducible refine gate_dst (N := 9) rfl ?_); refine box_event ?hg (N := 9) ?hd (cs := #[.string (⟨#[]⟩ : ByteArray)]) (t := 9) ?hr ?_; (case hd => rfl); (case hg => rfl); (case hr => first | (go_simp; done) | (go_simp; rfl)); intro gb242 hg w26 hbox hb; have n0_ := am (Kd.R_below (Kd.R_elderB (roS HO_5.out) gb242 (Nat.le_of_eq hg.symm)) hb); have n1_ := am (Kd.R_below (roS HO_7.out) hb); have n2_ := am (below_step (hbS HB.out) hb); have n3_ := am (hbox); have n4_ := am (gwL (hbS HB.out) hg); have n5_ := n4_; clear HO_5; clear HO_7; clear HB; have HO_5 := n0_; have HO_7 := n1_; have HB := n2_; have BK242 := n3_; have GW242 := n4_; have GE242 := n5_; clear n0_ n1_ n2_ n3_ n4_ n5_; clear hb hbox hg; have hcz27_0 : w26.cell? ⟨gb242, 0, none⟩ = some (.string (⟨#[]⟩ : ByteArray)) := (blk_cell BK242.out 0).trans rfl; have hfz27_0 := blk_frozen BK242.out 0) | ((with_reducible refine gate_callee (f := 55) rfl ?_); refine goesL_ (some 35) rfl rfl Try.func55 (by kernel_rfl) rfl #[.slice A1 l1.length c1, .func (.func 73) #[] #[.pointer (some ⟨gb242, 0, none⟩)]] rfl (by (try simp only [List.map_toArray, List.map_cons, List.map_nil]); first | done | rfl | (simp only [List.length_drop, List.length_take]; rfl)) ?_; (with_reducible refine (slices_ContainsFunc_Clue__solutions_1.calls k2 _ _ l1 gb242 (strOfNums x7_2) false _ ?side1 ?side2 ?side3 A18.out).mono ?_); (case side1 => exact Kd.C_below HR1.out (by repeat (first | (with_reducible first | exact HB.out | apply below_alloc | apply pw_below_drewN | apply below_drew1 | refine below_set ?_ GE242.out) | exact HB.out))); (case side2 => exact HC1.out); (case side3 => exact by (with_reducible repeat (first | refine blk_drewN ?_ _ | refine blk_drew ?_ | refine blk_alloc ?_ _)); refine blk_put (cs := #[.string (⟨#[]⟩ : ByteArray)]) ?_ 0 _ rfl; (with_reducible repeat (first | refine blk_drewN ?_ _ | refine blk_drew ?_ | refine blk_alloc ?_ _)); exact BK242.out); rintro e w28 ⟨rfl, hb⟩; refine ⟨_, rfl, ?_⟩; have n0_ := am (Kd.R_below (by (with_reducible repeat (first | apply Kd.R_alloc | apply Kd.R_drewN | apply Kd.R_drew)); exact (Kd.R_mono (Kd.R_far (p := ⟨gb242, 0, none⟩) (Kd.R_mono HO_5.out (fun k_ hk => (⟨hk, hk.2⟩ : _ ∧ k_ ≠ gb242))) (fun _ hk => hk.2) (.string (strOfNums x7_2))) (fun _ h_ => h_.1))) hb); have n1_ := am (Kd.R_below (by (with_reducible repeat (first | apply Kd.R_alloc | apply Kd.R_drewN | apply Kd.R_drew)); exact (Kd.R_mono (Kd.R_far (p := ⟨gb242, 0, none⟩) (Kd.R_types HO_7.out BK242.out (by decide)) (fun _ hk => hk.2) (.string (strOfNums x7_2))) (fun _ h_ => h_.1))) hb); have n2_ := am (blk_below (g := gb242) (o := .cells #[.string (strOfNums x7_2)] 9 (0, 0)) (by (with_reducible repeat (first | refine blk_drewN ?_ _ | refine blk_drew ?_ | refine blk_alloc ?_ _)); refine blk_put (cs := #[.string (⟨#[]⟩ : ByteArray)]) ?_ 0 _ rfl; (with_reducible repeat (first | refine blk_drewN ?_ _ | refine blk_drew ?_ | refine blk_alloc ?_ _)); exact BK242.out) hb); have n3_ := am (below_step (by repeat (first | (with_reducible first | exact HB.out | apply below_alloc | apply pw_below_drewN | apply below_drew1 | refine below_set ?_ GE242.out) | exact HB.out)) hb); clear HO_5; clear HO_7; clear BK242; clear HB; have HO_5 := n0_; have HO_7 := n1_; have BK242 := n2_; have HB := n3_; clear n0_ n1_ n2_ n3_; (try clear hb); (try clear hb2); (try clear hk); (try clear hi); have hcz29_0 : w28.cell? ⟨gb242, 0, none⟩ = some (.string (strOfNums x7_2)) := (blk_cell BK242.out 0).trans rfl; have hfz29_0 := blk_frozen BK242.out 0) | ((with_reducible refine gate_builtin (b := .append) (xs := #[.tmp 37, .tmp 39]) rfl ?_); at_builtin; refine Kd.R_append Kd.string (w0 := w) w.heap.size rfl (.tmp 37) (.tmp 39) 56 9 (.string ⟨#[]⟩) 16 rfl Try.underlying56 info9 rfl (by decide) (by omega) u5 x5_1 (strOfNums x7_2) [.string (strOfNums x7_2)] (fun k_ => k_ ≠ gb242) (fun _ => False) rfl rfl ?aP (fun _ hk => hk.elim) ?aF ?aO ?aB ?aS ?aL ?_; (case aP => exact rfl); (case aB => exact (by repeat (first | (with_reducible first | exact HB.out | apply below_alloc | apply pw_below_drewN | apply below_drew1 | refine below_set ?_ GE242.out) | exact HB.out))); (case aF => exact (fun k_ hk => Kd.freshB (g := gb242) (o := .cells #[.string (strOfNums x7_2)] 9 (0, 0)) (bkS BK242.out) k_ hk)); (case aO => exact (by (with_reducible repeat (first | apply Kd.R_alloc | apply Kd.R_drewN | apply Kd.R_drew)); exact Kd.R_mono HO_5.out (fun _ hk => hk.2))); (case aS => exact (below_size (by repeat (first | (with_reducible first | exact HB.out | apply below_alloc | apply pw_below_drewN | apply below_drew1 | refine below_set ?_ GE242.out) | exact HB.out)))); (case aL => have := LMc24.out; omega); intro v245 w30 ho hb hg hat; rw [← Ny244.out] at ho; have n0_ := am (Kd.R_over' (roS HO_7.out) (Kd.R_typed (roS HO_5.out)) (by decide) hg); have n1_ := am (blk_grown (g := gb242) (o := .cells #[.string (strOfNums x7_2)] 9 (0, 0)) (bkS BK242.out) hg (Kd.R_away HO_5.out (fun _ hk => hk.2))); have n2_ := am (hb); have n3_ := am (ho); clear HO_7; clear BK242; clear HB; clear HO_5; have HO_7 := n0_; have BK242 := n1_; have HB := n2_; have HO246 := n3_; clear n0_ n1_ n2_ n3_; clear ho hb hg hat))
          go_roundg k2
          case measure => have := HK1.out; have := HK2.out; omega
          case rel => exact ⟨(y244), (wrap64 (x13_1 + 1)), (by first | rfl | (simp; done) | (simp [*]; done)), H', ⟨by have := HK1.out; have := HK2.out; omega⟩, ⟨by (with_reducible repeat (first | apply Kd.R_alloc | apply Kd.R_drewN | apply Kd.R_drew)); exact Kd.R_mono HO246.out (fun _ hk => trivial)⟩, ⟨by repeat (first | (with_reducible first | exact HB.out | apply below_alloc | apply pw_below_drewN | apply below_drew1 | refine below_set ?_ GE242.out) | exact HB.out)⟩⟩
         ·rw [if_neg c24] at H
          exact absurd H (by simp)
    ·rw [if_neg c7] at H
     have c7b0 : decide (x13_1 < ji4) = false := decide_eq_false c7
     clear c7
     obtain rfl := Option.some.inj H
     go_wp2
     go_ret
     exact ⟨_, by first | rfl | (simp [errW_none, errW_some] <;> rfl) | (simp only [← hji4]; first | rfl | (simp [errW_none, errW_some] <;> rfl)) | (simp [*, errW_none, errW_some] <;> rfl), roS HO_5.out, hbS HB.out⟩
 ·rw [if_neg c3] at H
  exact absurd H (by simp)
/-! ### impl_Solutions: function 44 -/
def impl_Solutions.f (k : Nat) (a0_0 : Int) (l0_1 : List (S25)) : Option (List ByteArray × Bool) := (impl_IsPuzzle.f k a0_0 l0_1).bind fun t248 => (if t248 = true then ((impl_solutions.f k a0_0 l0_1).bind fun t249 => (some (t249, true))) else (some (([] : List ByteArray), false)))
set_option maxHeartbeats 8000000 in
set_option maxRecDepth 100000 in
theorem impl_Solutions.calls (k : Nat) (a0_0 : Int) (A0_1 : Option Addr) (c0_1 : Nat) (l0_1 : List (S25)) (r1 : List ByteArray) (r2 : Bool) (w : World) (hr0_1 : Kd.C k25 w A0_1 l0_1.length l0_1) (hc0_1 : l0_1.length ≤ c0_1) (h : impl_Solutions.f k a0_0 l0_1 = some (r1, r2)) :
  Calls Try.prog 44 #[.agg #[.int .i64 a0_0, .slice A0_1 l0_1.length c0_1]] w fun e w' => ∃ v0_ : Value, e = .returned (.tuple #[v0_, .bool r2]) ∧ Kd.R Kd.string 9 w' w.heap.size (fun _ => True) v0_ r1 ∧ Below w.heap.size w w' := by
 have hu35 := Try.underlying35
 have HR0_1 := am hr0_1
 have HC0_1 := am hc0_1
 clear hr0_1 hc0_1
 have HB := am (Below.refl w.heap.size w)
 have H : ((impl_IsPuzzle.f k a0_0 l0_1).bind fun t248 => (if t248 = true then ((impl_solutions.f k a0_0 l0_1).bind fun t249 => (some (t249, true))) else (some (([] : List ByteArray), false)))) = some (r1, r2) := h
 clear h
 replace H := Option.bind_eq_some_iff.mp H
 obtain ⟨t248, A20, H⟩ := H
 replace H : (if t248 = true then ((impl_solutions.f k a0_0 l0_1).bind fun t249 => (some (t249, true))) else (some (([] : List ByteArray), false))) = some (r1, r2) := H
 have A2 := am A20
 clear A20
 by_cases c3 : t248 = true
 ·subst c3
  have H1 : ((impl_solutions.f k a0_0 l0_1).bind fun t249 => (some (t249, true))) = some (r1, r2) := by rw [if_pos rfl] at H; exact H
  clear H
  have H := H1
  clear H1
  replace H := Option.bind_eq_some_iff.mp H
  obtain ⟨t249, A40, H⟩ := H
  replace H : (some (t249, true)) = some (r1, r2) := H
  have A4 := am A40
  clear A40
  simp only [Option.some.injEq, Prod.mk.injEq] at H
  obtain ⟨rfl, rfl⟩ := H
  go_enter Try.func44, Try.ntmps44
  go_wp2_with (first | ((with_reducible refine gate_dst (N := 1) rfl ?_); refine box_event ?hg (N := 1) ?hd (cs := #[.int .i64 a0_0, .slice A0_1 l0_1.length c0_1]) (t := 35) ?hr ?_; (case hd => rfl); (case hg => rfl); (case hr => first | (go_simp; done) | (go_simp; rfl)); intro gb247 hg w5 hbox hb; have n0_ := am (below_step (hbS HB.out) hb); have n1_ := am (hbox); have n2_ := am (gwL (hbS HB.out) hg); have n3_ := n2_; clear HB; have HB := n0_; have BK247 := n1_; have GW247 := n2_; have GE247 := n3_; clear n0_ n1_ n2_ n3_; clear hb hbox hg; have hcz6_0 : w5.cell? ⟨gb247, 0, none⟩ = some (.int .i64 a0_0) := (blk_cell BK247.out 0).trans rfl; have hcz6_1 : w5.cell? ⟨gb247, 1, none⟩ = some (.slice A0_1 l0_1.length c0_1) := (blk_cell BK247.out 1).trans rfl; have hfz6_0 := blk_frozen BK247.out 0; have hfz6_1 := blk_frozen BK247.out 1) | ((with_reducible refine gate_callee (f := 20) rfl ?_); refine goesL_ (some 5) rfl rfl Try.func20 (by kernel_rfl) rfl #[.agg #[.int .i64 a0_0, .slice A0_1 l0_1.length c0_1]] rfl (by (try simp only [List.map_toArray, List.map_cons, List.map_nil]); first | done | rfl | (simp only [List.length_drop, List.length_take]; rfl)) ?_; (with_reducible refine (impl_IsPuzzle.calls k a0_0 _ _ l0_1 true _ ?side1 ?side2 A2.out).mono ?_); (case side1 => repeat (first | exact (Kd.C_below HR0_1.out HB.out) | (with_reducible refine Kd.C_alloc ?_ _) | (with_reducible refine Kd.C_drewN ?_ _) | (with_reducible refine Kd.C_drew ?_))); (case side2 => exact HC0_1.out); rintro e w7 ⟨rfl, hb⟩; refine ⟨_, rfl, ?_⟩; have n0_ := am (blk_below (bkS BK247.out) hb); have n1_ := am (below_step (by repeat (first | (with_reducible first | exact HB.out | apply below_alloc | apply pw_below_drewN | apply below_drew1 | refine below_set ?_ GE247.out) | exact HB.out)) hb); clear BK247; clear HB; have BK247 := n0_; have HB := n1_; clear n0_ n1_; (try clear hb); (try clear hb2); (try clear hk); (try clear hi); have hcz8_0 : w7.cell? ⟨gb247, 0, none⟩ = some (.int .i64 a0_0) := (blk_cell BK247.out 0).trans rfl; have hcz8_1 : w7.cell? ⟨gb247, 1, none⟩ = some (.slice A0_1 l0_1.length c0_1) := (blk_cell BK247.out 1).trans rfl; have hfz8_0 := blk_frozen BK247.out 0; have hfz8_1 := blk_frozen BK247.out 1) | ((with_reducible refine gate_callee (f := 66) rfl ?_); refine goesL_ (some 11) rfl rfl Try.func66 (by kernel_rfl) rfl #[.int .i64 a0_0, .slice A0_1 l0_1.length c0_1] rfl (by (try simp only [List.map_toArray, List.map_cons, List.map_nil]); first | done | rfl | (simp only [List.length_drop, List.length_take]; rfl)) ?_; (with_reducible refine (impl_solutions.calls k a0_0 _ _ l0_1 t249 _ ?side1 ?side2 A4.out).mono ?_); (case side1 => repeat (first | exact (Kd.C_below HR0_1.out HB.out) | (with_reducible refine Kd.C_alloc ?_ _) | (with_reducible refine Kd.C_drewN ?_ _) | (with_reducible refine Kd.C_drew ?_))); (case side2 => exact HC0_1.out); rintro e w9 ⟨v250, rfl, ho0, hb⟩; refine ⟨_, rfl, ?_⟩; have n0_ := am (Kd.R_lower ho0 (below_size (by repeat (first | (with_reducible first | exact HB.out | apply below_alloc | apply pw_below_drewN | apply below_drew1 | refine below_set ?_ GE247.out) | exact HB.out)))); have n1_ := am (blk_below (bkS BK247.out) hb); have n2_ := am (below_step (by repeat (first | (with_reducible first | exact HB.out | apply below_alloc | apply pw_below_drewN | apply below_drew1 | refine below_set ?_ GE247.out) | exact HB.out)) hb); clear BK247; clear HB; have HO251 := n0_; have BK247 := n1_; have HB := n2_; clear n0_ n1_ n2_; (try clear hb); (try clear hb2); (try clear hk); (try clear hi); (try clear ho0)))
  go_ret2
  exact ⟨_, by first | rfl | (simp [errW_none, errW_some] <;> rfl) | (simp [*, errW_none, errW_some] <;> rfl), roS HO251.out, by repeat (first | (with_reducible first | exact HB.out | apply below_alloc | apply pw_below_drewN | apply below_drew1 | refine below_set ?_ GE247.out) | exact HB.out)⟩
 ·replace c3 := Bool.eq_false_iff.mpr c3
  subst c3
  have H1 : (some (([] : List ByteArray), false)) = some (r1, r2) := by rw [if_neg (show ¬ (false = true) by decide)] at H; exact H
  clear H
  have H := H1
  clear H1
  simp only [Option.some.injEq, Prod.mk.injEq] at H
  obtain ⟨rfl, rfl⟩ := H
  go_enter Try.func44, Try.ntmps44
  go_wp2_with (first | ((with_reducible refine gate_dst (N := 1) rfl ?_); refine box_event ?hg (N := 1) ?hd (cs := #[.int .i64 a0_0, .slice A0_1 l0_1.length c0_1]) (t := 35) ?hr ?_; (case hd => rfl); (case hg => rfl); (case hr => first | (go_simp; done) | (go_simp; rfl)); intro gb247 hg w10 hbox hb; have n0_ := am (below_step (hbS HB.out) hb); have n1_ := am (hbox); have n2_ := am (gwL (hbS HB.out) hg); have n3_ := n2_; clear HB; have HB := n0_; have BK247 := n1_; have GW247 := n2_; have GE247 := n3_; clear n0_ n1_ n2_ n3_; clear hb hbox hg; have hcz11_0 : w10.cell? ⟨gb247, 0, none⟩ = some (.int .i64 a0_0) := (blk_cell BK247.out 0).trans rfl; have hcz11_1 : w10.cell? ⟨gb247, 1, none⟩ = some (.slice A0_1 l0_1.length c0_1) := (blk_cell BK247.out 1).trans rfl; have hfz11_0 := blk_frozen BK247.out 0; have hfz11_1 := blk_frozen BK247.out 1) | ((with_reducible refine gate_callee (f := 20) rfl ?_); refine goesL_ (some 5) rfl rfl Try.func20 (by kernel_rfl) rfl #[.agg #[.int .i64 a0_0, .slice A0_1 l0_1.length c0_1]] rfl (by (try simp only [List.map_toArray, List.map_cons, List.map_nil]); first | done | rfl | (simp only [List.length_drop, List.length_take]; rfl)) ?_; (with_reducible refine (impl_IsPuzzle.calls k a0_0 _ _ l0_1 false _ ?side1 ?side2 A2.out).mono ?_); (case side1 => repeat (first | exact (Kd.C_below HR0_1.out HB.out) | (with_reducible refine Kd.C_alloc ?_ _) | (with_reducible refine Kd.C_drewN ?_ _) | (with_reducible refine Kd.C_drew ?_))); (case side2 => exact HC0_1.out); rintro e w12 ⟨rfl, hb⟩; refine ⟨_, rfl, ?_⟩; have n0_ := am (blk_below (bkS BK247.out) hb); have n1_ := am (below_step (by repeat (first | (with_reducible first | exact HB.out | apply below_alloc | apply pw_below_drewN | apply below_drew1 | refine below_set ?_ GE247.out) | exact HB.out)) hb); clear BK247; clear HB; have BK247 := n0_; have HB := n1_; clear n0_ n1_; (try clear hb); (try clear hb2); (try clear hk); (try clear hi)))
  go_ret2
  exact ⟨_, by first | rfl | (simp [errW_none, errW_some] <;> rfl) | (simp [*, errW_none, errW_some] <;> rfl), by first | exact Kd.R_nil _ _ _ _ _ | exact Kd.N_nil _ _ _ _ _ | exact Kd.V_nil _ _ _ _ _ | exact Kd.Q_nil _ _ _ _ _ | exact Kd.S_nil _ _ _ _ _, by repeat (first | (with_reducible first | exact HB.out | apply below_alloc | apply pw_below_drewN | apply below_drew1 | refine below_set ?_ GE247.out) | exact HB.out)⟩
/-! ### impl_CountSolutions: function 29 -/
def impl_CountSolutions.f (k : Nat) (a0_0 : Int) (l0_1 : List (S25)) : Option (Int × Bool) := (impl_Solutions.f k a0_0 l0_1).bind fun bt253 => (some ((bt253.1.length : Int), bt253.2))
end Go.Proofs.Ytonifgfgeollaaa.X
end
section
-- Written by a program of this session (wip/tools/mp.py) over the kit's print of the translation.
namespace Go.Proofs.Ytonifgfgeollaaa.X
open Go.Proofs.Ytonifgfgeollaaa.Sq Go.RowKit Go.Proofs.YtonifgfgeollaaaW.PrintWords Go.Proofs.YtonifgfgeollaaaW.PrintLast Go.Proofs.YtonifgfgeollaaaW.PrintMore
attribute [local go_sem] max2_int min2_int max_two min_two max_three min_three max_four min_four   -- for this text's walks alone
set_option linter.unusedVariables false
set_option linter.unusedSimpArgs false
/-! ### laws_eqClue: function 69 -/
def laws_eqClue.f (a0_0 : Int) (a0_1 : Int) (a0_2 : Int) (a1_0 : Int) (a1_1 : Int) (a1_2 : Int) : Option (Bool) := if a0_0 = a1_0 then (if a0_1 = a1_1 then (if a0_2 = a1_2 then (some true) else (some false)) else (some false)) else (some false)
set_option maxHeartbeats 8000000 in
set_option maxRecDepth 100000 in
theorem laws_eqClue.calls (a0_0 : Int) (a0_1 : Int) (a0_2 : Int) (a1_0 : Int) (a1_1 : Int) (a1_2 : Int) (r : Bool) (w : World) (h : laws_eqClue.f a0_0 a0_1 a0_2 a1_0 a1_1 a1_2 = some r) :
  Calls Try.prog 69 #[.agg #[.int .i64 a0_0, .int .i64 a0_1, .int .i64 a0_2], .agg #[.int .i64 a1_0, .int .i64 a1_1, .int .i64 a1_2]] w fun e w' => e = .returned (.bool r) ∧ Below w.heap.size w w' := by
 have hu25 := Try.underlying25
 have HB := am (Below.refl w.heap.size w)
 have H : (if a0_0 = a1_0 then (if a0_1 = a1_1 then (if a0_2 = a1_2 then (some true) else (some false)) else (some false)) else (some false)) = some r := h
 clear h
 by_cases c3 : a0_0 = a1_0
 ·rw [if_pos c3] at H
  have c3b0 : (a0_0 == a1_0) = true := beq_iff_eq.mpr c3
  have c3b1 : (a0_0 != a1_0) = false := bne_eq_false_iff_eq.mpr c3
  clear c3
  by_cases c4 : a0_1 = a1_1
  ·rw [if_pos c4] at H
   have c4b0 : (a0_1 == a1_1) = true := beq_iff_eq.mpr c4
   have c4b1 : (a0_1 != a1_1) = false := bne_eq_false_iff_eq.mpr c4
   clear c4
   by_cases c5 : a0_2 = a1_2
   ·rw [if_pos c5] at H
    have c5b0 : (a0_2 == a1_2) = true := beq_iff_eq.mpr c5
    have c5b1 : (a0_2 != a1_2) = false := bne_eq_false_iff_eq.mpr c5
    clear c5
    obtain rfl := Option.some.inj H
    go_enter Try.func69, Try.ntmps69
    go_wp2_with (first | ((with_reducible refine gate_dst (N := 2) rfl ?_); refine box_event ?hg (N := 2) ?hd (cs := #[.int .i64 a0_0, .int .i64 a0_1, .int .i64 a0_2]) (t := 25) ?hr ?_; (case hd => rfl); (case hg => rfl); (case hr => first | (go_simp; done) | (go_simp; rfl)); intro gb257 hg w6 hbox hb; have n0_ := am (below_step (hbS HB.out) hb); have n1_ := am (hbox); have n2_ := am (gwL (hbS HB.out) hg); have n3_ := n2_; clear HB; have HB := n0_; have BK257 := n1_; have GW257 := n2_; have GE257 := n3_; clear n0_ n1_ n2_ n3_; clear hb hbox hg) | ((with_reducible refine gate_dst (N := 3) rfl ?_); refine box_event ?hg (N := 3) ?hd (cs := #[.int .i64 a1_0, .int .i64 a1_1, .int .i64 a1_2]) (t := 25) ?hr ?_; (case hd => rfl); (case hg => rfl); (case hr => first | (go_simp; done) | (go_simp; rfl)); intro gb258 hg w7 hbox hb; have n0_ := am (blk_below (bkS BK257.out) hb); have n1_ := am (below_step (by repeat (first | (with_reducible first | exact HB.out | apply below_alloc | apply pw_below_drewN | apply below_drew1 | refine below_set ?_ GE257.out) | exact HB.out)) hb); have n2_ := am (hbox); have n3_ := am (gwL (by repeat (first | (with_reducible first | exact HB.out | apply below_alloc | apply pw_below_drewN | apply below_drew1 | refine below_set ?_ GE257.out) | exact HB.out)) hg); have n4_ := n3_; have n5_ := am (nbL (bkS BK257.out) hg); have n6_ := am (nbG (bkS BK257.out) hg); clear BK257; clear HB; have BK257 := n0_; have HB := n1_; have BK258 := n2_; have GW258 := n3_; have GE258 := n4_; have NB257_258 := n5_; have NB258_257 := n6_; clear n0_ n1_ n2_ n3_ n4_ n5_ n6_; clear hb hbox hg; have hnb8 := NB257_258.out; have hnc8 := NB258_257.out; have hcz9_0 : w7.cell? ⟨gb257, 0, none⟩ = some (.int .i64 a0_0) := (blk_cell BK257.out 0).trans rfl; have hcz9_1 : w7.cell? ⟨gb257, 1, none⟩ = some (.int .i64 a0_1) := (blk_cell BK257.out 1).trans rfl; have hcz9_2 : w7.cell? ⟨gb257, 2, none⟩ = some (.int .i64 a0_2) := (blk_cell BK257.out 2).trans rfl; have hfz9_0 := blk_frozen BK257.out 0; have hfz9_1 := blk_frozen BK257.out 1; have hfz9_2 := blk_frozen BK257.out 2; have hcz10_0 : w7.cell? ⟨gb258, 0, none⟩ = some (.int .i64 a1_0) := (blk_cell BK258.out 0).trans rfl; have hcz10_1 : w7.cell? ⟨gb258, 1, none⟩ = some (.int .i64 a1_1) := (blk_cell BK258.out 1).trans rfl; have hcz10_2 : w7.cell? ⟨gb258, 2, none⟩ = some (.int .i64 a1_2) := (blk_cell BK258.out 2).trans rfl; have hfz10_0 := blk_frozen BK258.out 0; have hfz10_1 := blk_frozen BK258.out 1; have hfz10_2 := blk_frozen BK258.out 2))
    go_ret
    exact ⟨by first | rfl | (simp [errW_none, errW_some] <;> rfl) | (simp [*, errW_none, errW_some] <;> rfl), by repeat (first | (with_reducible first | exact HB.out | apply below_alloc | apply pw_below_drewN | apply below_drew1 | refine below_set ?_ (Aside0.out (by assumption))) | exact HB.out)⟩
   ·rw [if_neg c5] at H
    have c5b0 : (a0_2 == a1_2) = false := beq_eq_false_iff_ne.mpr c5
    have c5b1 : (a0_2 != a1_2) = true := bne_iff_ne.mpr c5
    obtain rfl := Option.some.inj H
    go_enter Try.func69, Try.ntmps69
    go_wp2_with (first | ((with_reducible refine gate_dst (N := 2) rfl ?_); refine box_event ?hg (N := 2) ?hd (cs := #[.int .i64 a0_0, .int .i64 a0_1, .int .i64 a0_2]) (t := 25) ?hr ?_; (case hd => rfl); (case hg => rfl); (case hr => first | (go_simp; done) | (go_simp; rfl)); intro gb257 hg w11 hbox hb; have n0_ := am (below_step (hbS HB.out) hb); have n1_ := am (hbox); have n2_ := am (gwL (hbS HB.out) hg); have n3_ := n2_; clear HB; have HB := n0_; have BK257 := n1_; have GW257 := n2_; have GE257 := n3_; clear n0_ n1_ n2_ n3_; clear hb hbox hg) | ((with_reducible refine gate_dst (N := 3) rfl ?_); refine box_event ?hg (N := 3) ?hd (cs := #[.int .i64 a1_0, .int .i64 a1_1, .int .i64 a1_2]) (t := 25) ?hr ?_; (case hd => rfl); (case hg => rfl); (case hr => first | (go_simp; done) | (go_simp; rfl)); intro gb258 hg w12 hbox hb; have n0_ := am (blk_below (bkS BK257.out) hb); have n1_ := am (below_step (by repeat (first | (with_reducible first | exact HB.out | apply below_alloc | apply pw_below_drewN | apply below_drew1 | refine below_set ?_ GE257.out) | exact HB.out)) hb); have n2_ := am (hbox); have n3_ := am (gwL (by repeat (first | (with_reducible first | exact HB.out | apply below_alloc | apply pw_below_drewN | apply below_drew1 | refine below_set ?_ GE257.out) | exact HB.out)) hg); have n4_ := n3_; have n5_ := am (nbL (bkS BK257.out) hg); have n6_ := am (nbG (bkS BK257.out) hg); clear BK257; clear HB; have BK257 := n0_; have HB := n1_; have BK258 := n2_; have GW258 := n3_; have GE258 := n4_; have NB257_258 := n5_; have NB258_257 := n6_; clear n0_ n1_ n2_ n3_ n4_ n5_ n6_; clear hb hbox hg; have hnb13 := NB257_258.out; have hnc13 := NB258_257.out; have hcz14_0 : w12.cell? ⟨gb257, 0, none⟩ = some (.int .i64 a0_0) := (blk_cell BK257.out 0).trans rfl; have hcz14_1 : w12.cell? ⟨gb257, 1, none⟩ = some (.int .i64 a0_1) := (blk_cell BK257.out 1).trans rfl; have hcz14_2 : w12.cell? ⟨gb257, 2, none⟩ = some (.int .i64 a0_2) := (blk_cell BK257.out 2).trans rfl; have hfz14_0 := blk_frozen BK257.out 0; have hfz14_1 := blk_frozen BK257.out 1; have hfz14_2 := blk_frozen BK257.out 2; have hcz15_0 : w12.cell? ⟨gb258, 0, none⟩ = some (.int .i64 a1_0) := (blk_cell BK258.out 0).trans rfl; have hcz15_1 : w12.cell? ⟨gb258, 1, none⟩ = some (.int .i64 a1_1) := (blk_cell BK258.out 1).trans rfl; have hcz15_2 : w12.cell? ⟨gb258, 2, none⟩ = some (.int .i64 a1_2) := (blk_cell BK258.out 2).trans rfl; have hfz15_0 := blk_frozen BK258.out 0; have hfz15_1 := blk_frozen BK258.out 1; have hfz15_2 := blk_frozen BK258.out 2))
    go_ret
    exact ⟨by first | rfl | (simp [errW_none, errW_some] <;> rfl) | (simp [*, errW_none, errW_some] <;> rfl), by repeat (first | (with_reducible first | exact HB.out | apply below_alloc | apply pw_below_drewN | apply below_drew1 | refine below_set ?_ (Aside0.out (by assumption))) | exact HB.out)⟩
  ·rw [if_neg c4] at H
   have c4b0 : (a0_1 == a1_1) = false := beq_eq_false_iff_ne.mpr c4
   have c4b1 : (a0_1 != a1_1) = true := bne_iff_ne.mpr c4
   obtain rfl := Option.some.inj H
   go_enter Try.func69, Try.ntmps69
   go_wp2_with (first | ((with_reducible refine gate_dst (N := 2) rfl ?_); refine box_event ?hg (N := 2) ?hd (cs := #[.int .i64 a0_0, .int .i64 a0_1, .int .i64 a0_2]) (t := 25) ?hr ?_; (case hd => rfl); (case hg => rfl); (case hr => first | (go_simp; done) | (go_simp; rfl)); intro gb257 hg w16 hbox hb; have n0_ := am (below_step (hbS HB.out) hb); have n1_ := am (hbox); have n2_ := am (gwL (hbS HB.out) hg); have n3_ := n2_; clear HB; have HB := n0_; have BK257 := n1_; have GW257 := n2_; have GE257 := n3_; clear n0_ n1_ n2_ n3_; clear hb hbox hg) | ((with_reducible refine gate_dst (N := 3) rfl ?_); refine box_event ?hg (N := 3) ?hd (cs := #[.int .i64 a1_0, .int .i64 a1_1, .int .i64 a1_2]) (t := 25) ?hr ?_; (case hd => rfl); (case hg => rfl); (case hr => first | (go_simp; done) | (go_simp; rfl)); intro gb258 hg w17 hbox hb; have n0_ := am (blk_below (bkS BK257.out) hb); have n1_ := am (below_step (by repeat (first | (with_reducible first | exact HB.out | apply below_alloc | apply pw_below_drewN | apply below_drew1 | refine below_set ?_ GE257.out) | exact HB.out)) hb); have n2_ := am (hbox); have n3_ := am (gwL (by repeat (first | (with_reducible first | exact HB.out | apply below_alloc | apply pw_below_drewN | apply below_drew1 | refine below_set ?_ GE257.out) | exact HB.out)) hg); have n4_ := n3_; have n5_ := am (nbL (bkS BK257.out) hg); have n6_ := am (nbG (bkS BK257.out) hg); clear BK257; clear HB; have BK257 := n0_; have HB := n1_; have BK258 := n2_; have GW258 := n3_; have GE258 := n4_; have NB257_258 := n5_; have NB258_257 := n6_; clear n0_ n1_ n2_ n3_ n4_ n5_ n6_; clear hb hbox hg; have hnb18 := NB257_258.out; have hnc18 := NB258_257.out; have hcz19_0 : w17.cell? ⟨gb257, 0, none⟩ = some (.int .i64 a0_0) := (blk_cell BK257.out 0).trans rfl; have hcz19_1 : w17.cell? ⟨gb257, 1, none⟩ = some (.int .i64 a0_1) := (blk_cell BK257.out 1).trans rfl; have hcz19_2 : w17.cell? ⟨gb257, 2, none⟩ = some (.int .i64 a0_2) := (blk_cell BK257.out 2).trans rfl; have hfz19_0 := blk_frozen BK257.out 0; have hfz19_1 := blk_frozen BK257.out 1; have hfz19_2 := blk_frozen BK257.out 2; have hcz20_0 : w17.cell? ⟨gb258, 0, none⟩ = some (.int .i64 a1_0) := (blk_cell BK258.out 0).trans rfl; have hcz20_1 : w17.cell? ⟨gb258, 1, none⟩ = some (.int .i64 a1_1) := (blk_cell BK258.out 1).trans rfl; have hcz20_2 : w17.cell? ⟨gb258, 2, none⟩ = some (.int .i64 a1_2) := (blk_cell BK258.out 2).trans rfl; have hfz20_0 := blk_frozen BK258.out 0; have hfz20_1 := blk_frozen BK258.out 1; have hfz20_2 := blk_frozen BK258.out 2))
   go_ret
   exact ⟨by first | rfl | (simp [errW_none, errW_some] <;> rfl) | (simp [*, errW_none, errW_some] <;> rfl), by repeat (first | (with_reducible first | exact HB.out | apply below_alloc | apply pw_below_drewN | apply below_drew1 | refine below_set ?_ (Aside0.out (by assumption))) | exact HB.out)⟩
 ·rw [if_neg c3] at H
  have c3b0 : (a0_0 == a1_0) = false := beq_eq_false_iff_ne.mpr c3
  have c3b1 : (a0_0 != a1_0) = true := bne_iff_ne.mpr c3
  obtain rfl := Option.some.inj H
  go_enter Try.func69, Try.ntmps69
  go_wp2_with (first | ((with_reducible refine gate_dst (N := 2) rfl ?_); refine box_event ?hg (N := 2) ?hd (cs := #[.int .i64 a0_0, .int .i64 a0_1, .int .i64 a0_2]) (t := 25) ?hr ?_; (case hd => rfl); (case hg => rfl); (case hr => first | (go_simp; done) | (go_simp; rfl)); intro gb257 hg w21 hbox hb; have n0_ := am (below_step (hbS HB.out) hb); have n1_ := am (hbox); have n2_ := am (gwL (hbS HB.out) hg); have n3_ := n2_; clear HB; have HB := n0_; have BK257 := n1_; have GW257 := n2_; have GE257 := n3_; clear n0_ n1_ n2_ n3_; clear hb hbox hg) | ((with_reducible refine gate_dst (N := 3) rfl ?_); refine box_event ?hg (N := 3) ?hd (cs := #[.int .i64 a1_0, .int .i64 a1_1, .int .i64 a1_2]) (t := 25) ?hr ?_; (case hd => rfl); (case hg => rfl); (case hr => first | (go_simp; done) | (go_simp; rfl)); intro gb258 hg w22 hbox hb; have n0_ := am (blk_below (bkS BK257.out) hb); have n1_ := am (below_step (by repeat (first | (with_reducible first | exact HB.out | apply below_alloc | apply pw_below_drewN | apply below_drew1 | refine below_set ?_ GE257.out) | exact HB.out)) hb); have n2_ := am (hbox); have n3_ := am (gwL (by repeat (first | (with_reducible first | exact HB.out | apply below_alloc | apply pw_below_drewN | apply below_drew1 | refine below_set ?_ GE257.out) | exact HB.out)) hg); have n4_ := n3_; have n5_ := am (nbL (bkS BK257.out) hg); have n6_ := am (nbG (bkS BK257.out) hg); clear BK257; clear HB; have BK257 := n0_; have HB := n1_; have BK258 := n2_; have GW258 := n3_; have GE258 := n4_; have NB257_258 := n5_; have NB258_257 := n6_; clear n0_ n1_ n2_ n3_ n4_ n5_ n6_; clear hb hbox hg; have hnb23 := NB257_258.out; have hnc23 := NB258_257.out; have hcz24_0 : w22.cell? ⟨gb257, 0, none⟩ = some (.int .i64 a0_0) := (blk_cell BK257.out 0).trans rfl; have hcz24_1 : w22.cell? ⟨gb257, 1, none⟩ = some (.int .i64 a0_1) := (blk_cell BK257.out 1).trans rfl; have hcz24_2 : w22.cell? ⟨gb257, 2, none⟩ = some (.int .i64 a0_2) := (blk_cell BK257.out 2).trans rfl; have hfz24_0 := blk_frozen BK257.out 0; have hfz24_1 := blk_frozen BK257.out 1; have hfz24_2 := blk_frozen BK257.out 2; have hcz25_0 : w22.cell? ⟨gb258, 0, none⟩ = some (.int .i64 a1_0) := (blk_cell BK258.out 0).trans rfl; have hcz25_1 : w22.cell? ⟨gb258, 1, none⟩ = some (.int .i64 a1_1) := (blk_cell BK258.out 1).trans rfl; have hcz25_2 : w22.cell? ⟨gb258, 2, none⟩ = some (.int .i64 a1_2) := (blk_cell BK258.out 2).trans rfl; have hfz25_0 := blk_frozen BK258.out 0; have hfz25_1 := blk_frozen BK258.out 1; have hfz25_2 := blk_frozen BK258.out 2))
  go_ret
  exact ⟨by first | rfl | (simp [errW_none, errW_some] <;> rfl) | (simp [*, errW_none, errW_some] <;> rfl), by repeat (first | (with_reducible first | exact HB.out | apply below_alloc | apply pw_below_drewN | apply below_drew1 | refine below_set ?_ (Aside0.out (by assumption))) | exact HB.out)⟩
end Go.Proofs.Ytonifgfgeollaaa.X
end
section
-- Written by a program of this session (wip/tools/mp.py) over the kit's print of the translation.
namespace Go.Proofs.Ytonifgfgeollaaa.X
open Go.Proofs.Ytonifgfgeollaaa.Sq Go.RowKit Go.Proofs.YtonifgfgeollaaaW.PrintWords Go.Proofs.YtonifgfgeollaaaW.PrintLast Go.Proofs.YtonifgfgeollaaaW.PrintMore
attribute [local go_sem] max2_int min2_int max_two min_two max_three min_three max_four min_four   -- for this text's walks alone
set_option linter.unusedVariables false
set_option linter.unusedSimpArgs false
/-! ### laws_eqClueS: function 57 -/
def laws_eqClueS.l0 : Nat → List (S25) → List (S25) → Int → Option (Bool)
 | 0, _, _, _ => none
 | k + 1, x0, x1, x5 => if x5 < (x0.length : Int) then (if 0 ≤ x5 then (if x5 < (x1.length : Int) then ((laws_eqClue.f ((rd_T25 x0 x5).f0) ((rd_T25 x0 x5).f1) ((rd_T25 x0 x5).f2) ((rd_T25 x1 x5).f0) ((rd_T25 x1 x5).f1) ((rd_T25 x1 x5).f2)).bind fun t261 => (if t261 = true then (laws_eqClueS.l0 k x0 x1 (wrap64 (x5 + 1))) else (some false))) else (none)) else (none)) else (some true)
def laws_eqClueS.f (k : Nat) (l0 : List (S25)) (l1 : List (S25)) : Option (Bool) := if (l0.length : Int) = (l1.length : Int) then (laws_eqClueS.l0 k l0 l1 0) else (some false)
def laws_eqClueS.T6 : Bool × List (List Nat × List Nat) := (true, [([], []), ([], []), ([0, 1], [0, 1]), ([2], [2]), ([], []), ([], []), ([4, 5], [4, 5]), ([6], [6]), ([3, 7], [3, 7]), ([8], [8])])
def laws_eqClueS.B6 : List Nat := [0, 0, 3, 7, 0, 0, 48, 112, 255, 511]
theorem laws_eqClueS.tab6 : rtab .any (opsOf Try.f57 6) = laws_eqClueS.T6 := by kernel_rfl
theorem laws_eqClueS.bits6 : waitsOk laws_eqClueS.T6.2 laws_eqClueS.B6 = true := by kernel_rfl
set_option maxHeartbeats 8000000 in
set_option maxRecDepth 100000 in
theorem laws_eqClueS.calls (k : Nat) (A0 : Option Addr) (c0 : Nat) (l0 : List (S25)) (A1 : Option Addr) (c1 : Nat) (l1 : List (S25)) (r : Bool) (w : World) (hr0 : Kd.C k25 w A0 l0.length l0) (hc0 : l0.length ≤ c0) (hr1 : Kd.C k25 w A1 l1.length l1) (hc1 : l1.length ≤ c1) (h : laws_eqClueS.f k l0 l1 = some r) :
  Calls Try.prog 57 #[.slice A0 l0.length c0, .slice A1 l1.length c1] w fun e w' => e = .returned (.bool r) ∧ Below w.heap.size w w' := by
 have hu25 := Try.underlying25
 have HR0 := am hr0
 have HC0 := am hc0
 clear hr0 hc0
 have HR1 := am hr1
 have HC1 := am hc1
 clear hr1 hc1
 have HB := am (Below.refl w.heap.size w)
 have H : (if (l0.length : Int) = (l1.length : Int) then (laws_eqClueS.l0 k l0 l1 0) else (some false)) = some r := h
 clear h
 by_cases c3 : (l0.length : Int) = (l1.length : Int)
 ·rw [if_pos c3] at H
  have c3b0 : ((l0.length : Int) == (l1.length : Int)) = true := beq_iff_eq.mpr c3
  have c3b1 : ((l0.length : Int) != (l1.length : Int)) = false := bne_eq_false_iff_eq.mpr c3
  have c3b2 : (l0.length == l1.length) = true := by first | simpa using c3 | (simp at c3 ⊢; omega)
  clear c3
  have H' := am H
  clear H
  go_enter Try.func57, Try.ntmps57
  go_wp2
  go_loopg [5] k (fun kq v5 w' => ∃ (x5_1 : Int), v5 = .int .i64 x5_1 ∧ Aside0 (laws_eqClueS.l0 kq l0 l1 x5_1 = some r) ∧ Aside0 (kq ≤ k) ∧ Aside0 (Below w.heap.size w w'))
  case atStart => exact ⟨(0), (by first | rfl | (simp; done) | (simp [*]; done)), H', ⟨Nat.le_refl _⟩, ⟨hbS HB.out⟩⟩
  case round =>
   clear H'
   try clear c1
   try clear p2
   try clear c3
   try clear c3b0
   try clear c3b1
   try clear c3b2
   obtain ⟨x5_1, rfl, HA, HK1, HB⟩ := hrel
   cases gk with
   | zero => exact absurd HA.out (by simp [laws_eqClueS.l0])
   | succ k1 =>
    have H := HA.out
    clear HA
    simp only [laws_eqClueS.l0] at H
    by_cases c4 : x5_1 < (l0.length : Int)
    ·rw [if_pos c4] at H
     have c4b0 : decide (x5_1 < (l0.length : Int)) = true := decide_eq_true c4
     clear c4
     by_cases c5 : 0 ≤ x5_1
     ·rw [if_pos c5] at H
      have c5b0 : decide (0 ≤ x5_1) = true := decide_eq_true c5
      clear c5
      by_cases c6 : x5_1 < (l1.length : Int)
      ·rw [if_pos c6] at H
       have c6b0 : decide (x5_1 < (l1.length : Int)) = true := decide_eq_true c6
       clear c6
       replace H := Option.bind_eq_some_iff.mp H
       obtain ⟨t261, A70, H⟩ := H
       replace H : (if t261 = true then (laws_eqClueS.l0 k1 l0 l1 (wrap64 (x5_1 + 1))) else (some false)) = some r := H
       have A7 := am A70
       clear A70
       by_cases c8 : t261 = true
       ·subst c8
        have H1 : (laws_eqClueS.l0 k1 l0 l1 (wrap64 (x5_1 + 1))) = some r := by rw [if_pos rfl] at H; exact H
        clear H
        have H := H1
        clear H1
        have H' := am H
        clear H
        try go_wp2
        have n0_ := am (below_drew1 HB.out)
        clear HB
        have HB := n0_
        clear n0_
        have p259 : 0 ≤ (x5_1 : Int) := of_decide_eq_true (by first | (with_reducible assumption) | assumption)
        have q259 : x5_1 < (l0.length : Int) := of_decide_eq_true (by first | (with_reducible assumption) | assumption)
        obtain ⟨ad259, e259, hx259_0, hx259_1, hx259_2⟩ := at_T25 HR0.out x5_1 p259 q259
        have hw259_2 := hx259_2
        have hw259_1 := hx259_1
        have hw259_0 := hx259_0
        cases e259
        (try replace hx259_0 := (HB.out.cell (World.block_lt_of_cell? w _ hx259_0)).trans hx259_0)
        (try replace hx259_1 := (HB.out.cell (World.block_lt_of_cell? w _ hx259_1)).trans hx259_1)
        (try replace hx259_2 := (HB.out.cell (World.block_lt_of_cell? w _ hx259_2)).trans hx259_2)
        replace p259 := eq_true p259
        replace q259 := eq_true q259
        have p260 : 0 ≤ (x5_1 : Int) := of_decide_eq_true (by first | (with_reducible assumption) | assumption)
        have q260 : x5_1 < (l1.length : Int) := of_decide_eq_true (by first | (with_reducible assumption) | assumption)
        obtain ⟨ad260, e260, hx260_0, hx260_1, hx260_2⟩ := at_T25 HR1.out x5_1 p260 q260
        have hw260_2 := hx260_2
        have hw260_1 := hx260_1
        have hw260_0 := hx260_0
        cases e260
        (try replace hx260_0 := (HB.out.cell (World.block_lt_of_cell? w _ hx260_0)).trans hx260_0)
        (try replace hx260_1 := (HB.out.cell (World.block_lt_of_cell? w _ hx260_1)).trans hx260_1)
        (try replace hx260_2 := (HB.out.cell (World.block_lt_of_cell? w _ hx260_2)).trans hx260_2)
        replace p260 := eq_true p260
        replace q260 := eq_true q260
        refine start_ (n := 10) (S := fun w' => w'.cell? (ad259.add ((x5_1).toNat * 3)) = some (.int .i64 ((rd_T25 l0 x5_1).f0)) ∧ w'.cell? ⟨(ad259.add ((x5_1).toNat * 3)).block, (ad259.add ((x5_1).toNat * 3)).off + 1, none⟩ = some (.int .i64 ((rd_T25 l0 x5_1).f1)) ∧ w'.cell? ⟨(ad259.add ((x5_1).toNat * 3)).block, (ad259.add ((x5_1).toNat * 3)).off + 2, none⟩ = some (.int .i64 ((rd_T25 l0 x5_1).f2)) ∧ w'.cell? (ad260.add ((x5_1).toNat * 3)) = some (.int .i64 ((rd_T25 l1 x5_1).f0)) ∧ w'.cell? ⟨(ad260.add ((x5_1).toNat * 3)).block, (ad260.add ((x5_1).toNat * 3)).off + 1, none⟩ = some (.int .i64 ((rd_T25 l1 x5_1).f1)) ∧ w'.cell? ⟨(ad260.add ((x5_1).toNat * 3)).block, (ad260.add ((x5_1).toNat * 3)).off + 2, none⟩ = some (.int .i64 ((rd_T25 l1 x5_1).f2))) (ds := []) #[false, false, false, false, false, false, false, false, false, false] (by kernel_rfl) rfl rfl ⟨(by first | exact hw259_0 | exact (HB.out.cell (World.block_lt_of_cell? w _ hw259_0)).trans hw259_0), (by first | exact hw259_1 | exact (HB.out.cell (World.block_lt_of_cell? w _ hw259_1)).trans hw259_1), (by first | exact hw259_2 | exact (HB.out.cell (World.block_lt_of_cell? w _ hw259_2)).trans hw259_2), (by first | exact hw260_0 | exact (HB.out.cell (World.block_lt_of_cell? w _ hw260_0)).trans hw260_0), (by first | exact hw260_1 | exact (HB.out.cell (World.block_lt_of_cell? w _ hw260_1)).trans hw260_1), (by first | exact hw260_2 | exact (HB.out.cell (World.block_lt_of_cell? w _ hw260_2)).trans hw260_2)⟩ (fun hHeld => ?_); refine with_tabW laws_eqClueS.tab6 laws_eqClueS.bits6 (fun HT_ HW_ => ?_)
        generalize wr.drew = w9 at HB hx259_0 hx259_1 hx259_2 hx260_0 hx260_1 hx260_2 hHeld ⊢
        refine pure_ (i := 0) (N := some 17) (v := ?_) (a' := ?_) #[true, false, false, false, false, false, false, false, false, false] rfl rfl (any_of HT_.out (by kernel_rfl)) (fun _ _ _ h => h) (Or.inl ⟨by rfl, ?_⟩) ?_ ?_
        rotate_left
        ·intro w'
         go_simp
         with_reducible rfl
        rotate_left
        ·simp only [Act.put, List.setIfInBounds_toArray, List.set_cons_zero, List.set_cons_succ, i64_w, i32_w]
         rfl
        refine pure_ (i := 1) (N := some 18) (v := ?_) (a' := ?_) #[true, true, false, false, false, false, false, false, false, false] rfl rfl (any_of HT_.out (by kernel_rfl)) (fun _ _ _ h => h) (Or.inl ⟨by rfl, ?_⟩) ?_ ?_
        rotate_left
        ·intro w'
         go_simp
         with_reducible rfl
        rotate_left
        ·simp only [Act.put, List.setIfInBounds_toArray, List.set_cons_zero, List.set_cons_succ, i64_w, i32_w]
         rfl
        refine pure_ (i := 2) (N := some 19) (v := ?_) (a' := ?_) #[true, true, true, false, false, false, false, false, false, false] rfl rfl (any_of HT_.out (by kernel_rfl)) (fun _ _ _ h => h) (Or.inl ⟨by rfl, ?_⟩) ?_ ?_
        rotate_left
        ·intro w'
         go_simp
         with_reducible rfl
        rotate_left
        ·simp only [Act.put, List.setIfInBounds_toArray, List.set_cons_zero, List.set_cons_succ, i64_w, i32_w]
         rfl
        refine pure_ (i := 4) (N := some 21) (v := ?_) (a' := ?_) #[true, true, true, false, true, false, false, false, false, false] rfl rfl (any_of HT_.out (by kernel_rfl)) (fun _ _ _ h => h) (Or.inl ⟨by rfl, ?_⟩) ?_ ?_
        rotate_left
        ·intro w'
         go_simp
         with_reducible rfl
        rotate_left
        ·simp only [Act.put, List.setIfInBounds_toArray, List.set_cons_zero, List.set_cons_succ, i64_w, i32_w]
         rfl
        refine pure_ (i := 5) (N := some 22) (v := ?_) (a' := ?_) #[true, true, true, false, true, true, false, false, false, false] rfl rfl (any_of HT_.out (by kernel_rfl)) (fun _ _ _ h => h) (Or.inl ⟨by rfl, ?_⟩) ?_ ?_
        rotate_left
        ·intro w'
         go_simp
         with_reducible rfl
        rotate_left
        ·simp only [Act.put, List.setIfInBounds_toArray, List.set_cons_zero, List.set_cons_succ, i64_w, i32_w]
         rfl
        refine pure_ (i := 6) (N := some 23) (v := ?_) (a' := ?_) #[true, true, true, false, true, true, true, false, false, false] rfl rfl (any_of HT_.out (by kernel_rfl)) (fun _ _ _ h => h) (Or.inl ⟨by rfl, ?_⟩) ?_ ?_
        rotate_left
        ·intro w'
         go_simp
         with_reducible rfl
        rotate_left
        ·simp only [Act.put, List.setIfInBounds_toArray, List.set_cons_zero, List.set_cons_succ, i64_w, i32_w]
         rfl
        refine take_ (i := 3) (N := some 20) (v := ?_) (a' := ?_) #[true, true, true, true, true, true, true, false, false, false] rfl rfl (take_ofW HT_.out HW_.out (by kernel_rfl)) (fun _ _ _ h => h) (Or.inl ⟨by rfl, ?_⟩) hHeld ?_ ?_
        rotate_left
        ·rintro w' ⟨s0, s1, s2, s3, s4, s5⟩
         go_simp
         with_reducible rfl
        rotate_left
        ·simp only [Act.put, List.setIfInBounds_toArray, List.set_cons_zero, List.set_cons_succ, i64_w, i32_w]
         rfl
        refine take_ (i := 7) (N := some 24) (v := ?_) (a' := ?_) #[true, true, true, true, true, true, true, true, false, false] rfl rfl (take_ofW HT_.out HW_.out (by kernel_rfl)) (fun _ _ _ h => h) (Or.inl ⟨by rfl, ?_⟩) hHeld ?_ ?_
        rotate_left
        ·rintro w' ⟨s0, s1, s2, s3, s4, s5⟩
         go_simp
         with_reducible rfl
        rotate_left
        ·simp only [Act.put, List.setIfInBounds_toArray, List.set_cons_zero, List.set_cons_succ, i64_w, i32_w]
         rfl
        refine one_ (i := 8) (N := some 25) #[true, true, true, true, true, true, true, true, true, false] rfl rfl (one_of HT_.out (by kernel_rfl)) (by decide) (fun K hK => ?_)
        refine goes_ Try.func69 (by kernel_rfl) rfl #[.agg #[.int .i64 ((rd_T25 l0 x5_1).f0), .int .i64 ((rd_T25 l0 x5_1).f1), .int .i64 ((rd_T25 l0 x5_1).f2)], .agg #[.int .i64 ((rd_T25 l1 x5_1).f0), .int .i64 ((rd_T25 l1 x5_1).f1), .int .i64 ((rd_T25 l1 x5_1).f2)]] (by rfl) rfl rfl (by (try simp only [List.map_toArray, List.map_cons, List.map_nil]); first | done | rfl | (simp only [List.length_drop, List.length_take]; rfl)) ?_
        with_reducible refine (laws_eqClue.calls ((rd_T25 l0 x5_1).f0) ((rd_T25 l0 x5_1).f1) ((rd_T25 l0 x5_1).f2) ((rd_T25 l1 x5_1).f0) ((rd_T25 l1 x5_1).f1) ((rd_T25 l1 x5_1).f2) true _ A7.out).mono ?_
        rintro e w10 ⟨rfl, hb⟩
        refine ⟨_, rfl, ?_⟩
        have n0_ := am (below_step (hbS HB.out) hb)
        clear HB
        have HB := n0_
        clear n0_
        (try clear hb)
        (try clear hb2)
        (try clear hk)
        (try clear hi)
        refine hK.out _ _ ⟨(by first | exact hw259_0 | exact (HB.out.cell (World.block_lt_of_cell? w _ hw259_0)).trans hw259_0), (by first | exact hw259_1 | exact (HB.out.cell (World.block_lt_of_cell? w _ hw259_1)).trans hw259_1), (by first | exact hw259_2 | exact (HB.out.cell (World.block_lt_of_cell? w _ hw259_2)).trans hw259_2), (by first | exact hw260_0 | exact (HB.out.cell (World.block_lt_of_cell? w _ hw260_0)).trans hw260_0), (by first | exact hw260_1 | exact (HB.out.cell (World.block_lt_of_cell? w _ hw260_1)).trans hw260_1), (by first | exact hw260_2 | exact (HB.out.cell (World.block_lt_of_cell? w _ hw260_2)).trans hw260_2)⟩ (fun hHeld => ?_)
        clear hK K
        refine norm_ (a' := ?_) ?_ ?_
        rotate_left
        ·show Act.put _ (some 25) _ = _
         simp only [Act.put, List.setIfInBounds_toArray, List.set_cons_zero, List.set_cons_succ, i64_w, i32_w]
         rfl
        refine pure_ (i := 9) (N := some 26) (v := ?_) (a' := ?_) #[true, true, true, true, true, true, true, true, true, true] rfl rfl (any_of HT_.out (by kernel_rfl)) (fun _ _ _ h => h) (Or.inl ⟨by rfl, ?_⟩) ?_ ?_
        rotate_left
        ·intro w'
         go_simp
         with_reducible rfl
        rotate_left
        ·simp only [Act.put, List.setIfInBounds_toArray, List.set_cons_zero, List.set_cons_succ, i64_w, i32_w]
         rfl
        refine done_ (done_of HT_.out (by kernel_rfl)) ?_
        try go_wp2
        go_roundg k1
        case measure => have := HK1.out; omega
        case rel => exact ⟨(wrap64 (x5_1 + 1)), (by first | rfl | (simp; done) | (simp [*]; done)), H', ⟨by have := HK1.out; omega⟩, ⟨hbS HB.out⟩⟩
       ·replace c8 := Bool.eq_false_iff.mpr c8
        subst c8
        have H1 : (some false) = some r := by rw [if_neg (show ¬ (false = true) by decide)] at H; exact H
        clear H
        have H := H1
        clear H1
        obtain rfl := Option.some.inj H
        try go_wp2
        have n0_ := am (below_drew1 HB.out)
        clear HB
        have HB := n0_
        clear n0_
        have p259 : 0 ≤ (x5_1 : Int) := of_decide_eq_true (by first | (with_reducible assumption) | assumption)
        have q259 : x5_1 < (l0.length : Int) := of_decide_eq_true (by first | (with_reducible assumption) | assumption)
        obtain ⟨ad259, e259, hx259_0, hx259_1, hx259_2⟩ := at_T25 HR0.out x5_1 p259 q259
        have hw259_2 := hx259_2
        have hw259_1 := hx259_1
        have hw259_0 := hx259_0
        cases e259
        (try replace hx259_0 := (HB.out.cell (World.block_lt_of_cell? w _ hx259_0)).trans hx259_0)
        (try replace hx259_1 := (HB.out.cell (World.block_lt_of_cell? w _ hx259_1)).trans hx259_1)
        (try replace hx259_2 := (HB.out.cell (World.block_lt_of_cell? w _ hx259_2)).trans hx259_2)
        replace p259 := eq_true p259
        replace q259 := eq_true q259
        have p260 : 0 ≤ (x5_1 : Int) := of_decide_eq_true (by first | (with_reducible assumption) | assumption)
        have q260 : x5_1 < (l1.length : Int) := of_decide_eq_true (by first | (with_reducible assumption) | assumption)
        obtain ⟨ad260, e260, hx260_0, hx260_1, hx260_2⟩ := at_T25 HR1.out x5_1 p260 q260
        have hw260_2 := hx260_2
        have hw260_1 := hx260_1
        have hw260_0 := hx260_0
        cases e260
        (try replace hx260_0 := (HB.out.cell (World.block_lt_of_cell? w _ hx260_0)).trans hx260_0)
        (try replace hx260_1 := (HB.out.cell (World.block_lt_of_cell? w _ hx260_1)).trans hx260_1)
        (try replace hx260_2 := (HB.out.cell (World.block_lt_of_cell? w _ hx260_2)).trans hx260_2)
        replace p260 := eq_true p260
        replace q260 := eq_true q260
        refine start_ (n := 10) (S := fun w' => w'.cell? (ad259.add ((x5_1).toNat * 3)) = some (.int .i64 ((rd_T25 l0 x5_1).f0)) ∧ w'.cell? ⟨(ad259.add ((x5_1).toNat * 3)).block, (ad259.add ((x5_1).toNat * 3)).off + 1, none⟩ = some (.int .i64 ((rd_T25 l0 x5_1).f1)) ∧ w'.cell? ⟨(ad259.add ((x5_1).toNat * 3)).block, (ad259.add ((x5_1).toNat * 3)).off + 2, none⟩ = some (.int .i64 ((rd_T25 l0 x5_1).f2)) ∧ w'.cell? (ad260.add ((x5_1).toNat * 3)) = some (.int .i64 ((rd_T25 l1 x5_1).f0)) ∧ w'.cell? ⟨(ad260.add ((x5_1).toNat * 3)).block, (ad260.add ((x5_1).toNat * 3)).off + 1, none⟩ = some (.int .i64 ((rd_T25 l1 x5_1).f1)) ∧ w'.cell? ⟨(ad260.add ((x5_1).toNat * 3)).block, (ad260.add ((x5_1).toNat * 3)).off + 2, none⟩ = some (.int .i64 ((rd_T25 l1 x5_1).f2))) (ds := []) #[false, false, false, false, false, false, false, false, false, false] (by kernel_rfl) rfl rfl ⟨(by first | exact hw259_0 | exact (HB.out.cell (World.block_lt_of_cell? w _ hw259_0)).trans hw259_0), (by first | exact hw259_1 | exact (HB.out.cell (World.block_lt_of_cell? w _ hw259_1)).trans hw259_1), (by first | exact hw259_2 | exact (HB.out.cell (World.block_lt_of_cell? w _ hw259_2)).trans hw259_2), (by first | exact hw260_0 | exact (HB.out.cell (World.block_lt_of_cell? w _ hw260_0)).trans hw260_0), (by first | exact hw260_1 | exact (HB.out.cell (World.block_lt_of_cell? w _ hw260_1)).trans hw260_1), (by first | exact hw260_2 | exact (HB.out.cell (World.block_lt_of_cell? w _ hw260_2)).trans hw260_2)⟩ (fun hHeld => ?_); refine with_tabW laws_eqClueS.tab6 laws_eqClueS.bits6 (fun HT_ HW_ => ?_)
        generalize wr.drew = w11 at HB hx259_0 hx259_1 hx259_2 hx260_0 hx260_1 hx260_2 hHeld ⊢
        refine pure_ (i := 0) (N := some 17) (v := ?_) (a' := ?_) #[true, false, false, false, false, false, false, false, false, false] rfl rfl (any_of HT_.out (by kernel_rfl)) (fun _ _ _ h => h) (Or.inl ⟨by rfl, ?_⟩) ?_ ?_
        rotate_left
        ·intro w'
         go_simp
         with_reducible rfl
        rotate_left
        ·simp only [Act.put, List.setIfInBounds_toArray, List.set_cons_zero, List.set_cons_succ, i64_w, i32_w]
         rfl
        refine pure_ (i := 1) (N := some 18) (v := ?_) (a' := ?_) #[true, true, false, false, false, false, false, false, false, false] rfl rfl (any_of HT_.out (by kernel_rfl)) (fun _ _ _ h => h) (Or.inl ⟨by rfl, ?_⟩) ?_ ?_
        rotate_left
        ·intro w'
         go_simp
         with_reducible rfl
        rotate_left
        ·simp only [Act.put, List.setIfInBounds_toArray, List.set_cons_zero, List.set_cons_succ, i64_w, i32_w]
         rfl
        refine pure_ (i := 2) (N := some 19) (v := ?_) (a' := ?_) #[true, true, true, false, false, false, false, false, false, false] rfl rfl (any_of HT_.out (by kernel_rfl)) (fun _ _ _ h => h) (Or.inl ⟨by rfl, ?_⟩) ?_ ?_
        rotate_left
        ·intro w'
         go_simp
         with_reducible rfl
        rotate_left
        ·simp only [Act.put, List.setIfInBounds_toArray, List.set_cons_zero, List.set_cons_succ, i64_w, i32_w]
         rfl
        refine pure_ (i := 4) (N := some 21) (v := ?_) (a' := ?_) #[true, true, true, false, true, false, false, false, false, false] rfl rfl (any_of HT_.out (by kernel_rfl)) (fun _ _ _ h => h) (Or.inl ⟨by rfl, ?_⟩) ?_ ?_
        rotate_left
        ·intro w'
         go_simp
         with_reducible rfl
        rotate_left
        ·simp only [Act.put, List.setIfInBounds_toArray, List.set_cons_zero, List.set_cons_succ, i64_w, i32_w]
         rfl
        refine pure_ (i := 5) (N := some 22) (v := ?_) (a' := ?_) #[true, true, true, false, true, true, false, false, false, false] rfl rfl (any_of HT_.out (by kernel_rfl)) (fun _ _ _ h => h) (Or.inl ⟨by rfl, ?_⟩) ?_ ?_
        rotate_left
        ·intro w'
         go_simp
         with_reducible rfl
        rotate_left
        ·simp only [Act.put, List.setIfInBounds_toArray, List.set_cons_zero, List.set_cons_succ, i64_w, i32_w]
         rfl
        refine pure_ (i := 6) (N := some 23) (v := ?_) (a' := ?_) #[true, true, true, false, true, true, true, false, false, false] rfl rfl (any_of HT_.out (by kernel_rfl)) (fun _ _ _ h => h) (Or.inl ⟨by rfl, ?_⟩) ?_ ?_
        rotate_left
        ·intro w'
         go_simp
         with_reducible rfl
        rotate_left
        ·simp only [Act.put, List.setIfInBounds_toArray, List.set_cons_zero, List.set_cons_succ, i64_w, i32_w]
         rfl
        refine take_ (i := 3) (N := some 20) (v := ?_) (a' := ?_) #[true, true, true, true, true, true, true, false, false, false] rfl rfl (take_ofW HT_.out HW_.out (by kernel_rfl)) (fun _ _ _ h => h) (Or.inl ⟨by rfl, ?_⟩) hHeld ?_ ?_
        rotate_left
        ·rintro w' ⟨s0, s1, s2, s3, s4, s5⟩
         go_simp
         with_reducible rfl
        rotate_left
        ·simp only [Act.put, List.setIfInBounds_toArray, List.set_cons_zero, List.set_cons_succ, i64_w, i32_w]
         rfl
        refine take_ (i := 7) (N := some 24) (v := ?_) (a' := ?_) #[true, true, true, true, true, true, true, true, false, false] rfl rfl (take_ofW HT_.out HW_.out (by kernel_rfl)) (fun _ _ _ h => h) (Or.inl ⟨by rfl, ?_⟩) hHeld ?_ ?_
        rotate_left
        ·rintro w' ⟨s0, s1, s2, s3, s4, s5⟩
         go_simp
         with_reducible rfl
        rotate_left
        ·simp only [Act.put, List.setIfInBounds_toArray, List.set_cons_zero, List.set_cons_succ, i64_w, i32_w]
         rfl
        refine one_ (i := 8) (N := some 25) #[true, true, true, true, true, true, true, true, true, false] rfl rfl (one_of HT_.out (by kernel_rfl)) (by decide) (fun K hK => ?_)
        refine goes_ Try.func69 (by kernel_rfl) rfl #[.agg #[.int .i64 ((rd_T25 l0 x5_1).f0), .int .i64 ((rd_T25 l0 x5_1).f1), .int .i64 ((rd_T25 l0 x5_1).f2)], .agg #[.int .i64 ((rd_T25 l1 x5_1).f0), .int .i64 ((rd_T25 l1 x5_1).f1), .int .i64 ((rd_T25 l1 x5_1).f2)]] (by rfl) rfl rfl (by (try simp only [List.map_toArray, List.map_cons, List.map_nil]); first | done | rfl | (simp only [List.length_drop, List.length_take]; rfl)) ?_
        with_reducible refine (laws_eqClue.calls ((rd_T25 l0 x5_1).f0) ((rd_T25 l0 x5_1).f1) ((rd_T25 l0 x5_1).f2) ((rd_T25 l1 x5_1).f0) ((rd_T25 l1 x5_1).f1) ((rd_T25 l1 x5_1).f2) false _ A7.out).mono ?_
        rintro e w12 ⟨rfl, hb⟩
        refine ⟨_, rfl, ?_⟩
        have n0_ := am (below_step (hbS HB.out) hb)
        clear HB
        have HB := n0_
        clear n0_
        (try clear hb)
        (try clear hb2)
        (try clear hk)
        (try clear hi)
        refine hK.out _ _ ⟨(by first | exact hw259_0 | exact (HB.out.cell (World.block_lt_of_cell? w _ hw259_0)).trans hw259_0), (by first | exact hw259_1 | exact (HB.out.cell (World.block_lt_of_cell? w _ hw259_1)).trans hw259_1), (by first | exact hw259_2 | exact (HB.out.cell (World.block_lt_of_cell? w _ hw259_2)).trans hw259_2), (by first | exact hw260_0 | exact (HB.out.cell (World.block_lt_of_cell? w _ hw260_0)).trans hw260_0), (by first | exact hw260_1 | exact (HB.out.cell (World.block_lt_of_cell? w _ hw260_1)).trans hw260_1), (by first | exact hw260_2 | exact (HB.out.cell (World.block_lt_of_cell? w _ hw260_2)).trans hw260_2)⟩ (fun hHeld => ?_)
        clear hK K
        refine norm_ (a' := ?_) ?_ ?_
        rotate_left
        ·show Act.put _ (some 25) _ = _
         simp only [Act.put, List.setIfInBounds_toArray, List.set_cons_zero, List.set_cons_succ, i64_w, i32_w]
         rfl
        refine pure_ (i := 9) (N := some 26) (v := ?_) (a' := ?_) #[true, true, true, true, true, true, true, true, true, true] rfl rfl (any_of HT_.out (by kernel_rfl)) (fun _ _ _ h => h) (Or.inl ⟨by rfl, ?_⟩) ?_ ?_
        rotate_left
        ·intro w'
         go_simp
         with_reducible rfl
        rotate_left
        ·simp only [Act.put, List.setIfInBounds_toArray, List.set_cons_zero, List.set_cons_succ, i64_w, i32_w]
         rfl
        refine done_ (done_of HT_.out (by kernel_rfl)) ?_
        try go_wp2
        go_ret
        exact ⟨by first | rfl | (simp [errW_none, errW_some] <;> rfl) | (simp [*, errW_none, errW_some] <;> rfl), hbS HB.out⟩
      ·rw [if_neg c6] at H
       exact absurd H (by simp)
     ·rw [if_neg c5] at H
      exact absurd H (by simp)
    ·rw [if_neg c4] at H
     have c4b0 : decide (x5_1 < (l0.length : Int)) = false := decide_eq_false c4
     clear c4
     obtain rfl := Option.some.inj H
     go_wp2
     go_ret
     exact ⟨by first | rfl | (simp [errW_none, errW_some] <;> rfl) | (simp [*, errW_none, errW_some] <;> rfl), hbS HB.out⟩
 ·rw [if_neg c3] at H
  have c3b0 : ((l0.length : Int) == (l1.length : Int)) = false := beq_eq_false_iff_ne.mpr c3
  have c3b1 : ((l0.length : Int) != (l1.length : Int)) = true := bne_iff_ne.mpr c3
  have c3b2 : (l0.length == l1.length) = false := by first | simpa using c3 | (simp at c3 ⊢; omega)
  obtain rfl := Option.some.inj H
  go_enter Try.func57, Try.ntmps57
  go_wp2
  go_ret
  exact ⟨by first | rfl | (simp [errW_none, errW_some] <;> rfl) | (simp [*, errW_none, errW_some] <;> rfl), hbS HB.out⟩
end Go.Proofs.Ytonifgfgeollaaa.X
end
section
-- Written by a program of this session (wip/tools/mp.py) over the kit's print of the translation.
namespace Go.Proofs.Ytonifgfgeollaaa.X
open Go.Proofs.Ytonifgfgeollaaa.Sq Go.RowKit Go.Proofs.YtonifgfgeollaaaW.PrintWords Go.Proofs.YtonifgfgeollaaaW.PrintLast Go.Proofs.YtonifgfgeollaaaW.PrintMore
attribute [local go_sem] max2_int min2_int max_two min_two max_three min_three max_four min_four   -- for this text's walks alone
set_option linter.unusedVariables false
set_option linter.unusedSimpArgs false
/-! ### laws_eqPuzzle: function 21 -/
def laws_eqPuzzle.f (k : Nat) (a0_0 : Int) (l0_1 : List (S25)) (a1_0 : Int) (l1_1 : List (S25)) : Option (Bool) := if a0_0 = a1_0 then ((laws_eqClueS.f k l0_1 l1_1).bind fun t264 => (if t264 = true then (some true) else (some false))) else (some false)
set_option maxHeartbeats 8000000 in
set_option maxRecDepth 100000 in
theorem laws_eqPuzzle.calls (k : Nat) (a0_0 : Int) (A0_1 : Option Addr) (c0_1 : Nat) (l0_1 : List (S25)) (a1_0 : Int) (A1_1 : Option Addr) (c1_1 : Nat) (l1_1 : List (S25)) (r : Bool) (w : World) (hr0_1 : Kd.C k25 w A0_1 l0_1.length l0_1) (hc0_1 : l0_1.length ≤ c0_1) (hr1_1 : Kd.C k25 w A1_1 l1_1.length l1_1) (hc1_1 : l1_1.length ≤ c1_1) (h : laws_eqPuzzle.f k a0_0 l0_1 a1_0 l1_1 = some r) :
  Calls Try.prog 21 #[.agg #[.int .i64 a0_0, .slice A0_1 l0_1.length c0_1], .agg #[.int .i64 a1_0, .slice A1_1 l1_1.length c1_1]] w fun e w' => e = .returned (.bool r) ∧ Below w.heap.size w w' := by
 have hu35 := Try.underlying35
 have HR0_1 := am hr0_1
 have HC0_1 := am hc0_1
 clear hr0_1 hc0_1
 have HR1_1 := am hr1_1
 have HC1_1 := am hc1_1
 clear hr1_1 hc1_1
 have HB := am (Below.refl w.heap.size w)
 have H : (if a0_0 = a1_0 then ((laws_eqClueS.f k l0_1 l1_1).bind fun t264 => (if t264 = true then (some true) else (some false))) else (some false)) = some r := h
 clear h
 by_cases c3 : a0_0 = a1_0
 ·rw [if_pos c3] at H
  have c3b0 : (a0_0 == a1_0) = true := beq_iff_eq.mpr c3
  have c3b1 : (a0_0 != a1_0) = false := bne_eq_false_iff_eq.mpr c3
  clear c3
  replace H := Option.bind_eq_some_iff.mp H
  obtain ⟨t264, A40, H⟩ := H
  replace H : (if t264 = true then (some true) else (some false)) = some r := H
  have A4 := am A40
  clear A40
  by_cases c5 : t264 = true
  ·subst c5
   have H1 : (some true) = some r := by rw [if_pos rfl] at H; exact H
   clear H
   have H := H1
   clear H1
   obtain rfl := Option.some.inj H
   go_enter Try.func21, Try.ntmps21
   go_wp2_with (first | ((with_reducible refine gate_dst (N := 2) rfl ?_); refine box_event ?hg (N := 2) ?hd (cs := #[.int .i64 a0_0, .slice A0_1 l0_1.length c0_1]) (t := 35) ?hr ?_; (case hd => rfl); (case hg => rfl); (case hr => first | (go_simp; done) | (go_simp; rfl)); intro gb262 hg w6 hbox hb; have n0_ := am (below_step (hbS HB.out) hb); have n1_ := am (hbox); have n2_ := am (gwL (hbS HB.out) hg); have n3_ := n2_; clear HB; have HB := n0_; have BK262 := n1_; have GW262 := n2_; have GE262 := n3_; clear n0_ n1_ n2_ n3_; clear hb hbox hg) | ((with_reducible refine gate_dst (N := 3) rfl ?_); refine box_event ?hg (N := 3) ?hd (cs := #[.int .i64 a1_0, .slice A1_1 l1_1.length c1_1]) (t := 35) ?hr ?_; (case hd => rfl); (case hg => rfl); (case hr => first | (go_simp; done) | (go_simp; rfl)); intro gb263 hg w7 hbox hb; have n0_ := am (blk_below (bkS BK262.out) hb); have n1_ := am (below_step (by repeat (first | (with_reducible first | exact HB.out | apply below_alloc | apply pw_below_drewN | apply below_drew1 | refine below_set ?_ GE262.out) | exact HB.out)) hb); have n2_ := am (hbox); have n3_ := am (gwL (by repeat (first | (with_reducible first | exact HB.out | apply below_alloc | apply pw_below_drewN | apply below_drew1 | refine below_set ?_ GE262.out) | exact HB.out)) hg); have n4_ := n3_; have n5_ := am (nbL (bkS BK262.out) hg); have n6_ := am (nbG (bkS BK262.out) hg); clear BK262; clear HB; have BK262 := n0_; have HB := n1_; have BK263 := n2_; have GW263 := n3_; have GE263 := n4_; have NB262_263 := n5_; have NB263_262 := n6_; clear n0_ n1_ n2_ n3_ n4_ n5_ n6_; clear hb hbox hg; have hnb8 := NB262_263.out; have hnc8 := NB263_262.out; have hcz9_0 : w7.cell? ⟨gb262, 0, none⟩ = some (.int .i64 a0_0) := (blk_cell BK262.out 0).trans rfl; have hcz9_1 : w7.cell? ⟨gb262, 1, none⟩ = some (.slice A0_1 l0_1.length c0_1) := (blk_cell BK262.out 1).trans rfl; have hfz9_0 := blk_frozen BK262.out 0; have hfz9_1 := blk_frozen BK262.out 1; have hcz10_0 : w7.cell? ⟨gb263, 0, none⟩ = some (.int .i64 a1_0) := (blk_cell BK263.out 0).trans rfl; have hcz10_1 : w7.cell? ⟨gb263, 1, none⟩ = some (.slice A1_1 l1_1.length c1_1) := (blk_cell BK263.out 1).trans rfl; have hfz10_0 := blk_frozen BK263.out 0; have hfz10_1 := blk_frozen BK263.out 1) | ((with_reducible refine gate_callee (f := 57) rfl ?_); refine goesL_ (some 14) rfl rfl Try.func57 (by kernel_rfl) rfl #[.slice A0_1 l0_1.length c0_1, .slice A1_1 l1_1.length c1_1] rfl (by (try simp only [List.map_toArray, List.map_cons, List.map_nil]); first | done | rfl | (simp only [List.length_drop, List.length_take]; rfl)) ?_; (with_reducible refine (laws_eqClueS.calls k _ _ l0_1 _ _ l1_1 true _ ?side1 ?side2 ?side3 ?side4 A4.out).mono ?_); (case side1 => repeat (first | exact (Kd.C_below HR0_1.out HB.out) | (with_reducible refine Kd.C_alloc ?_ _) | (with_reducible refine Kd.C_drewN ?_ _) | (with_reducible refine Kd.C_drew ?_))); (case side2 => exact HC0_1.out); (case side3 => repeat (first | exact (Kd.C_below HR1_1.out HB.out) | (with_reducible refine Kd.C_alloc ?_ _) | (with_reducible refine Kd.C_drewN ?_ _) | (with_reducible refine Kd.C_drew ?_))); (case side4 => exact HC1_1.out); rintro e w11 ⟨rfl, hb⟩; refine ⟨_, rfl, ?_⟩; have n0_ := am (blk_below (bkS BK262.out) hb); have n1_ := am (blk_below (bkS BK263.out) hb); have n2_ := am (below_step (by repeat (first | (with_reducible first | exact HB.out | apply below_alloc | apply pw_below_drewN | apply below_drew1 | refine below_set ?_ (Aside0.out (by assumption))) | exact HB.out)) hb); clear BK262; clear BK263; clear HB; have BK262 := n0_; have BK263 := n1_; have HB := n2_; clear n0_ n1_ n2_; (try clear hb); (try clear hb2); (try clear hk); (try clear hi)))
   go_ret
   exact ⟨by first | rfl | (simp [errW_none, errW_some] <;> rfl) | (simp [*, errW_none, errW_some] <;> rfl), by repeat (first | (with_reducible first | exact HB.out | apply below_alloc | apply pw_below_drewN | apply below_drew1 | refine below_set ?_ (Aside0.out (by assumption))) | exact HB.out)⟩
  ·replace c5 := Bool.eq_false_iff.mpr c5
   subst c5
   have H1 : (some false) = some r := by rw [if_neg (show ¬ (false = true) by decide)] at H; exact H
   clear H
   have H := H1
   clear H1
   obtain rfl := Option.some.inj H
   go_enter Try.func21, Try.ntmps21
   go_wp2_with (first | ((with_reducible refine gate_dst (N := 2) rfl ?_); refine box_event ?hg (N := 2) ?hd (cs := #[.int .i64 a0_0, .slice A0_1 l0_1.length c0_1]) (t := 35) ?hr ?_; (case hd => rfl); (case hg => rfl); (case hr => first | (go_simp; done) | (go_simp; rfl)); intro gb262 hg w12 hbox hb; have n0_ := am (below_step (hbS HB.out) hb); have n1_ := am (hbox); have n2_ := am (gwL (hbS HB.out) hg); have n3_ := n2_; clear HB; have HB := n0_; have BK262 := n1_; have GW262 := n2_; have GE262 := n3_; clear n0_ n1_ n2_ n3_; clear hb hbox hg) | ((with_reducible refine gate_dst (N := 3) rfl ?_); refine box_event ?hg (N := 3) ?hd (cs := #[.int .i64 a1_0, .slice A1_1 l1_1.length c1_1]) (t := 35) ?hr ?_; (case hd => rfl); (case hg => rfl); (case hr => first | (go_simp; done) | (go_simp; rfl)); intro gb263 hg w13 hbox hb; have n0_ := am (blk_below (bkS BK262.out) hb); have n1_ := am (below_step (by repeat (first | (with_reducible first | exact HB.out | apply below_alloc | apply pw_below_drewN | apply below_drew1 | refine below_set ?_ GE262.out) | exact HB.out)) hb); have n2_ := am (hbox); have n3_ := am (gwL (by repeat (first | (with_reducible first | exact HB.out | apply below_alloc | apply pw_below_drewN | apply below_drew1 | refine below_set ?_ GE262.out) | exact HB.out)) hg); have n4_ := n3_; have n5_ := am (nbL (bkS BK262.out) hg); have n6_ := am (nbG (bkS BK262.out) hg); clear BK262; clear HB; have BK262 := n0_; have HB := n1_; have BK263 := n2_; have GW263 := n3_; have GE263 := n4_; have NB262_263 := n5_; have NB263_262 := n6_; clear n0_ n1_ n2_ n3_ n4_ n5_ n6_; clear hb hbox hg; have hnb14 := NB262_263.out; have hnc14 := NB263_262.out; have hcz15_0 : w13.cell? ⟨gb262, 0, none⟩ = some (.int .i64 a0_0) := (blk_cell BK262.out 0).trans rfl; have hcz15_1 : w13.cell? ⟨gb262, 1, none⟩ = some (.slice A0_1 l0_1.length c0_1) := (blk_cell BK262.out 1).trans rfl; have hfz15_0 := blk_frozen BK262.out 0; have hfz15_1 := blk_frozen BK262.out 1; have hcz16_0 : w13.cell? ⟨gb263, 0, none⟩ = some (.int .i64 a1_0) := (blk_cell BK263.out 0).trans rfl; have hcz16_1 : w13.cell? ⟨gb263, 1, none⟩ = some (.slice A1_1 l1_1.length c1_1) := (blk_cell BK263.out 1).trans rfl; have hfz16_0 := blk_frozen BK263.out 0; have hfz16_1 := blk_frozen BK263.out 1) | ((with_reducible refine gate_callee (f := 57) rfl ?_); refine goesL_ (some 14) rfl rfl Try.func57 (by kernel_rfl) rfl #[.slice A0_1 l0_1.length c0_1, .slice A1_1 l1_1.length c1_1] rfl (by (try simp only [List.map_toArray, List.map_cons, List.map_nil]); first | done | rfl | (simp only [List.length_drop, List.length_take]; rfl)) ?_; (with_reducible refine (laws_eqClueS.calls k _ _ l0_1 _ _ l1_1 false _ ?side1 ?side2 ?side3 ?side4 A4.out).mono ?_); (case side1 => repeat (first | exact (Kd.C_below HR0_1.out HB.out) | (with_reducible refine Kd.C_alloc ?_ _) | (with_reducible refine Kd.C_drewN ?_ _) | (with_reducible refine Kd.C_drew ?_))); (case side2 => exact HC0_1.out); (case side3 => repeat (first | exact (Kd.C_below HR1_1.out HB.out) | (with_reducible refine Kd.C_alloc ?_ _) | (with_reducible refine Kd.C_drewN ?_ _) | (with_reducible refine Kd.C_drew ?_))); (case side4 => exact HC1_1.out); rintro e w17 ⟨rfl, hb⟩; refine ⟨_, rfl, ?_⟩; have n0_ := am (blk_below (bkS BK262.out) hb); have n1_ := am (blk_below (bkS BK263.out) hb); have n2_ := am (below_step (by repeat (first | (with_reducible first | exact HB.out | apply below_alloc | apply pw_below_drewN | apply below_drew1 | refine below_set ?_ (Aside0.out (by assumption))) | exact HB.out)) hb); clear BK262; clear BK263; clear HB; have BK262 := n0_; have BK263 := n1_; have HB := n2_; clear n0_ n1_ n2_; (try clear hb); (try clear hb2); (try clear hk); (try clear hi)))
   go_ret
   exact ⟨by first | rfl | (simp [errW_none, errW_some] <;> rfl) | (simp [*, errW_none, errW_some] <;> rfl), by repeat (first | (with_reducible first | exact HB.out | apply below_alloc | apply pw_below_drewN | apply below_drew1 | refine below_set ?_ (Aside0.out (by assumption))) | exact HB.out)⟩
 ·rw [if_neg c3] at H
  have c3b0 : (a0_0 == a1_0) = false := beq_eq_false_iff_ne.mpr c3
  have c3b1 : (a0_0 != a1_0) = true := bne_iff_ne.mpr c3
  obtain rfl := Option.some.inj H
  go_enter Try.func21, Try.ntmps21
  go_wp2_with (first | ((with_reducible refine gate_dst (N := 2) rfl ?_); refine box_event ?hg (N := 2) ?hd (cs := #[.int .i64 a0_0, .slice A0_1 l0_1.length c0_1]) (t := 35) ?hr ?_; (case hd => rfl); (case hg => rfl); (case hr => first | (go_simp; done) | (go_simp; rfl)); intro gb262 hg w18 hbox hb; have n0_ := am (below_step (hbS HB.out) hb); have n1_ := am (hbox); have n2_ := am (gwL (hbS HB.out) hg); have n3_ := n2_; clear HB; have HB := n0_; have BK262 := n1_; have GW262 := n2_; have GE262 := n3_; clear n0_ n1_ n2_ n3_; clear hb hbox hg) | ((with_reducible refine gate_dst (N := 3) rfl ?_); refine box_event ?hg (N := 3) ?hd (cs := #[.int .i64 a1_0, .slice A1_1 l1_1.length c1_1]) (t := 35) ?hr ?_; (case hd => rfl); (case hg => rfl); (case hr => first | (go_simp; done) | (go_simp; rfl)); intro gb263 hg w19 hbox hb; have n0_ := am (blk_below (bkS BK262.out) hb); have n1_ := am (below_step (by repeat (first | (with_reducible first | exact HB.out | apply below_alloc | apply pw_below_drewN | apply below_drew1 | refine below_set ?_ GE262.out) | exact HB.out)) hb); have n2_ := am (hbox); have n3_ := am (gwL (by repeat (first | (with_reducible first | exact HB.out | apply below_alloc | apply pw_below_drewN | apply below_drew1 | refine below_set ?_ GE262.out) | exact HB.out)) hg); have n4_ := n3_; have n5_ := am (nbL (bkS BK262.out) hg); have n6_ := am (nbG (bkS BK262.out) hg); clear BK262; clear HB; have BK262 := n0_; have HB := n1_; have BK263 := n2_; have GW263 := n3_; have GE263 := n4_; have NB262_263 := n5_; have NB263_262 := n6_; clear n0_ n1_ n2_ n3_ n4_ n5_ n6_; clear hb hbox hg; have hnb20 := NB262_263.out; have hnc20 := NB263_262.out; have hcz21_0 : w19.cell? ⟨gb262, 0, none⟩ = some (.int .i64 a0_0) := (blk_cell BK262.out 0).trans rfl; have hcz21_1 : w19.cell? ⟨gb262, 1, none⟩ = some (.slice A0_1 l0_1.length c0_1) := (blk_cell BK262.out 1).trans rfl; have hfz21_0 := blk_frozen BK262.out 0; have hfz21_1 := blk_frozen BK262.out 1; have hcz22_0 : w19.cell? ⟨gb263, 0, none⟩ = some (.int .i64 a1_0) := (blk_cell BK263.out 0).trans rfl; have hcz22_1 : w19.cell? ⟨gb263, 1, none⟩ = some (.slice A1_1 l1_1.length c1_1) := (blk_cell BK263.out 1).trans rfl; have hfz22_0 := blk_frozen BK263.out 0; have hfz22_1 := blk_frozen BK263.out 1))
  go_ret
  exact ⟨by first | rfl | (simp [errW_none, errW_some] <;> rfl) | (simp [*, errW_none, errW_some] <;> rfl), by repeat (first | (with_reducible first | exact HB.out | apply below_alloc | apply pw_below_drewN | apply below_drew1 | refine below_set ?_ (Aside0.out (by assumption))) | exact HB.out)⟩
/-! ### laws_FnExactCountSolutions: function 7 -/
def laws_FnExactCountSolutions.j0 : Nat → Bool → Int → List (S23) → Int → List (S25) → Option (Bool)
 | 0, _, _, _, _, _ => none
 | k + 1, x34, x266000, x266001, x278000, x278001 => if x34 = true then (none) else ((laws_toPuzzle.f k x266000 x266001).bind fun bt280 => ((laws_eqPuzzle.f k x278000 x278001 bt280.1 bt280.2).bind fun t284 => (if t284 = true then (some true) else (none))))
def laws_FnExactCountSolutions.f (k : Nat) (a0_0 : Int) (l0_1 : List (S23)) : Option (Bool) := (laws_szPuzzle.f a0_0 l0_1 1048576).bind fun t266 => (if t266 < 0 then (some true) else ((laws_toPuzzle.f k a0_0 l0_1).bind fun bt267 => ((spec_CountSolutions.f k bt267.1 bt267.2).bind fun bt271 => ((laws_toPuzzle.f k a0_0 l0_1).bind fun bt273 => ((impl_CountSolutions.f k bt273.1 bt273.2).bind fun bt278 => (if bt278.1 = bt271.1 then (laws_FnExactCountSolutions.j0 k (bt278.2 != bt271.2) a0_0 l0_1 bt273.1 bt273.2) else (laws_FnExactCountSolutions.j0 k true a0_0 l0_1 bt273.1 bt273.2)))))))
end Go.Proofs.Ytonifgfgeollaaa.X
end
section
-- Written by a program of this session (wip/tools/mp.py) over the kit's print of the translation.
namespace Go.Proofs.Ytonifgfgeollaaa.X
open Go.Proofs.Ytonifgfgeollaaa.Sq Go.RowKit Go.Proofs.YtonifgfgeollaaaW.PrintWords Go.Proofs.YtonifgfgeollaaaW.PrintLast Go.Proofs.YtonifgfgeollaaaW.PrintMore
attribute [local go_sem] max2_int min2_int max_two min_two max_three min_three max_four min_four   -- for this text's walks alone
set_option linter.unusedVariables false
set_option linter.unusedSimpArgs false
/-! ### spec_FirstSolution: function 32 -/
def spec_FirstSolution.f (k : Nat) (a0_0 : Int) (l0_1 : List (S25)) : Option (ByteArray × Bool) := (spec_pzGood.f k a0_0 l0_1).bind fun t315 => (if t315 = true then ((spec_pzAll.f k a0_0 l0_1).bind fun t316 => (if (t316.length : Int) = 0 then (some ((⟨#[]⟩ : ByteArray), false)) else (if 0 < (t316.length : Int) then (some (rdOf ByteArray.empty t316 0, true)) else (none)))) else (some ((⟨#[]⟩ : ByteArray), false)))
set_option maxHeartbeats 8000000 in
set_option maxRecDepth 100000 in
theorem spec_FirstSolution.calls (k : Nat) (a0_0 : Int) (A0_1 : Option Addr) (c0_1 : Nat) (l0_1 : List (S25)) (r1 : ByteArray) (r2 : Bool) (w : World) (hr0_1 : Kd.C k25 w A0_1 l0_1.length l0_1) (hc0_1 : l0_1.length ≤ c0_1) (h : spec_FirstSolution.f k a0_0 l0_1 = some (r1, r2)) :
  Calls Try.prog 32 #[.agg #[.int .i64 a0_0, .slice A0_1 l0_1.length c0_1]] w fun e w' => e = .returned (.tuple #[.string r1, .bool r2]) ∧ Below w.heap.size w w' := by
 have hu35 := Try.underlying35
 have HR0_1 := am hr0_1
 have HC0_1 := am hc0_1
 clear hr0_1 hc0_1
 have HB := am (Below.refl w.heap.size w)
 have H : ((spec_pzGood.f k a0_0 l0_1).bind fun t315 => (if t315 = true then ((spec_pzAll.f k a0_0 l0_1).bind fun t316 => (if (t316.length : Int) = 0 then (some ((⟨#[]⟩ : ByteArray), false)) else (if 0 < (t316.length : Int) then (some (rdOf ByteArray.empty t316 0, true)) else (none)))) else (some ((⟨#[]⟩ : ByteArray), false)))) = some (r1, r2) := h
 clear h
 replace H := Option.bind_eq_some_iff.mp H
 obtain ⟨t315, A20, H⟩ := H
 replace H : (if t315 = true then ((spec_pzAll.f k a0_0 l0_1).bind fun t316 => (if (t316.length : Int) = 0 then (some ((⟨#[]⟩ : ByteArray), false)) else (if 0 < (t316.length : Int) then (some (rdOf ByteArray.empty t316 0, true)) else (none)))) else (some ((⟨#[]⟩ : ByteArray), false))) = some (r1, r2) := H
 have A2 := am A20
 clear A20
 by_cases c3 : t315 = true
 ·subst c3
  have H1 : ((spec_pzAll.f k a0_0 l0_1).bind fun t316 => (if (t316.length : Int) = 0 then (some ((⟨#[]⟩ : ByteArray), false)) else (if 0 < (t316.length : Int) then (some (rdOf ByteArray.empty t316 0, true)) else (none)))) = some (r1, r2) := by rw [if_pos rfl] at H; exact H
  clear H
  have H := H1
  clear H1
  replace H := Option.bind_eq_some_iff.mp H
  obtain ⟨t316, A40, H⟩ := H
  replace H : (if (t316.length : Int) = 0 then (some ((⟨#[]⟩ : ByteArray), false)) else (if 0 < (t316.length : Int) then (some (rdOf ByteArray.empty t316 0, true)) else (none))) = some (r1, r2) := H
  have A4 := am A40
  clear A40
  by_cases c5 : (t316.length : Int) = 0
  ·rw [if_pos c5] at H
   have c5b0 : ((t316.length : Int) == 0) = true := beq_iff_eq.mpr c5
   have c5b1 : ((t316.length : Int) != 0) = false := bne_eq_false_iff_eq.mpr c5
   clear c5
   simp only [Option.some.injEq, Prod.mk.injEq] at H
   obtain ⟨rfl, rfl⟩ := H
   go_enter Try.func32, Try.ntmps32
   go_wp2_with (first | ((with_reducible refine gate_dst (N := 1) rfl ?_); refine box_event ?hg (N := 1) ?hd (cs := #[.int .i64 a0_0, .slice A0_1 l0_1.length c0_1]) (t := 35) ?hr ?_; (case hd => rfl); (case hg => rfl); (case hr => first | (go_simp; done) | (go_simp; rfl)); intro gb314 hg w6 hbox hb; have n0_ := am (below_step (hbS HB.out) hb); have n1_ := am (hbox); have n2_ := am (gwL (hbS HB.out) hg); have n3_ := n2_; clear HB; have HB := n0_; have BK314 := n1_; have GW314 := n2_; have GE314 := n3_; clear n0_ n1_ n2_ n3_; clear hb hbox hg; have hcz7_0 : w6.cell? ⟨gb314, 0, none⟩ = some (.int .i64 a0_0) := (blk_cell BK314.out 0).trans rfl; have hcz7_1 : w6.cell? ⟨gb314, 1, none⟩ = some (.slice A0_1 l0_1.length c0_1) := (blk_cell BK314.out 1).trans rfl; have hfz7_0 := blk_frozen BK314.out 0; have hfz7_1 := blk_frozen BK314.out 1) | ((with_reducible refine gate_callee (f := 53) rfl ?_); refine goesL_ (some 6) rfl rfl Try.func53 (by kernel_rfl) rfl #[.agg #[.int .i64 a0_0, .slice A0_1 l0_1.length c0_1]] rfl (by (try simp only [List.map_toArray, List.map_cons, List.map_nil]); first | done | rfl | (simp only [List.length_drop, List.length_take]; rfl)) ?_; (with_reducible refine (spec_pzGood.calls k a0_0 _ _ l0_1 true _ ?side1 ?side2 A2.out).mono ?_); (case side1 => repeat (first | exact (Kd.C_below HR0_1.out HB.out) | (with_reducible refine Kd.C_alloc ?_ _) | (with_reducible refine Kd.C_drewN ?_ _) | (with_reducible refine Kd.C_drew ?_))); (case side2 => exact HC0_1.out); rintro e w8 ⟨rfl, hb⟩; refine ⟨_, rfl, ?_⟩; have n0_ := am (blk_below (bkS BK314.out) hb); have n1_ := am (below_step (by repeat (first | (with_reducible first | exact HB.out | apply below_alloc | apply pw_below_drewN | apply below_drew1 | refine below_set ?_ GE314.out) | exact HB.out)) hb); clear BK314; clear HB; have BK314 := n0_; have HB := n1_; clear n0_ n1_; (try clear hb); (try clear hb2); (try clear hk); (try clear hi); have hcz9_0 : w8.cell? ⟨gb314, 0, none⟩ = some (.int .i64 a0_0) := (blk_cell BK314.out 0).trans rfl; have hcz9_1 : w8.cell? ⟨gb314, 1, none⟩ = some (.slice A0_1 l0_1.length c0_1) := (blk_cell BK314.out 1).trans rfl; have hfz9_0 := blk_frozen BK314.out 0; have hfz9_1 := blk_frozen BK314.out 1) | ((with_reducible refine gate_callee (f := 64) rfl ?_); refine goesL_ (some 12) rfl rfl Try.func64 (by kernel_rfl) rfl #[.int .i64 a0_0, .slice A0_1 l0_1.length c0_1] rfl (by (try simp only [List.map_toArray, List.map_cons, List.map_nil]); first | done | rfl | (simp only [List.length_drop, List.length_take]; rfl)) ?_; (with_reducible refine (spec_pzAll.calls k a0_0 _ _ l0_1 t316 _ ?side1 ?side2 A4.out).mono ?_); (case side1 => repeat (first | exact (Kd.C_below HR0_1.out HB.out) | (with_reducible refine Kd.C_alloc ?_ _) | (with_reducible refine Kd.C_drewN ?_ _) | (with_reducible refine Kd.C_drew ?_))); (case side2 => exact HC0_1.out); rintro e w10 ⟨v317, rfl, ho0, hb⟩; refine ⟨_, rfl, ?_⟩; have n0_ := am (Kd.R_lower ho0 (below_size (by repeat (first | (with_reducible first | exact HB.out | apply below_alloc | apply pw_below_drewN | apply below_drew1 | refine below_set ?_ GE314.out) | exact HB.out)))); have n1_ := am (blk_below (bkS BK314.out) hb); have n2_ := am (below_step (by repeat (first | (with_reducible first | exact HB.out | apply below_alloc | apply pw_below_drewN | apply below_drew1 | refine below_set ?_ GE314.out) | exact HB.out)) hb); clear BK314; clear HB; have HO318 := n0_; have BK314 := n1_; have HB := n2_; clear n0_ n1_ n2_; (try clear hb); (try clear hb2); (try clear hk); (try clear hi); (try clear ho0); obtain ⟨Ao11, co11, eo11⟩ := Kd.R_slice HO318.out; subst eo11))
   go_ret2
   exact ⟨by first | rfl | (simp [errW_none, errW_some] <;> rfl) | (simp [*, errW_none, errW_some] <;> rfl), by repeat (first | (with_reducible first | exact HB.out | apply below_alloc | apply pw_below_drewN | apply below_drew1 | refine below_set ?_ GE314.out) | exact HB.out)⟩
  ·rw [if_neg c5] at H
   have c5b0 : ((t316.length : Int) == 0) = false := beq_eq_false_iff_ne.mpr c5
   have c5b1 : ((t316.length : Int) != 0) = true := bne_iff_ne.mpr c5
   have c5b2 : ¬ (t316 = []) := fun h_ => c5 (by rw [h_]; rfl)
   by_cases c12 : 0 < (t316.length : Int)
   ·rw [if_pos c12] at H
    have c12b0 : decide (0 < (t316.length : Int)) = true := decide_eq_true c12
    have c12b1 : decide (0 < t316.length) = true := decide_eq_true (by omega)
    clear c12
    simp only [Option.some.injEq, Prod.mk.injEq] at H
    obtain ⟨rfl, rfl⟩ := H
    go_enter Try.func32, Try.ntmps32
    go_wp2_with (first | ((with_reducible refine gate_dst (N := 1) rfl ?_); refine box_event ?hg (N := 1) ?hd (cs := #[.int .i64 a0_0, .slice A0_1 l0_1.length c0_1]) (t := 35) ?hr ?_; (case hd => rfl); (case hg => rfl); (case hr => first | (go_simp; done) | (go_simp; rfl)); intro gb314 hg w13 hbox hb; have n0_ := am (below_step (hbS HB.out) hb); have n1_ := am (hbox); have n2_ := am (gwL (hbS HB.out) hg); have n3_ := n2_; clear HB; have HB := n0_; have BK314 := n1_; have GW314 := n2_; have GE314 := n3_; clear n0_ n1_ n2_ n3_; clear hb hbox hg; have hcz14_0 : w13.cell? ⟨gb314, 0, none⟩ = some (.int .i64 a0_0) := (blk_cell BK314.out 0).trans rfl; have hcz14_1 : w13.cell? ⟨gb314, 1, none⟩ = some (.slice A0_1 l0_1.length c0_1) := (blk_cell BK314.out 1).trans rfl; have hfz14_0 := blk_frozen BK314.out 0; have hfz14_1 := blk_frozen BK314.out 1) | ((with_reducible refine gate_callee (f := 53) rfl ?_); refine goesL_ (some 6) rfl rfl Try.func53 (by kernel_rfl) rfl #[.agg #[.int .i64 a0_0, .slice A0_1 l0_1.length c0_1]] rfl (by (try simp only [List.map_toArray, List.map_cons, List.map_nil]); first | done | rfl | (simp only [List.length_drop, List.length_take]; rfl)) ?_; (with_reducible refine (spec_pzGood.calls k a0_0 _ _ l0_1 true _ ?side1 ?side2 A2.out).mono ?_); (case side1 => repeat (first | exact (Kd.C_below HR0_1.out HB.out) | (with_reducible refine Kd.C_alloc ?_ _) | (with_reducible refine Kd.C_drewN ?_ _) | (with_reducible refine Kd.C_drew ?_))); (case side2 => exact HC0_1.out); rintro e w15 ⟨rfl, hb⟩; refine ⟨_, rfl, ?_⟩; have n0_ := am (blk_below (bkS BK314.out) hb); have n1_ := am (below_step (by repeat (first | (with_reducible first | exact HB.out | apply below_alloc | apply pw_below_drewN | apply below_drew1 | refine below_set ?_ GE314.out) | exact HB.out)) hb); clear BK314; clear HB; have BK314 := n0_; have HB := n1_; clear n0_ n1_; (try clear hb); (try clear hb2); (try clear hk); (try clear hi); have hcz16_0 : w15.cell? ⟨gb314, 0, none⟩ = some (.int .i64 a0_0) := (blk_cell BK314.out 0).trans rfl; have hcz16_1 : w15.cell? ⟨gb314, 1, none⟩ = some (.slice A0_1 l0_1.length c0_1) := (blk_cell BK314.out 1).trans rfl; have hfz16_0 := blk_frozen BK314.out 0; have hfz16_1 := blk_frozen BK314.out 1) | ((with_reducible refine gate_callee (f := 64) rfl ?_); refine goesL_ (some 12) rfl rfl Try.func64 (by kernel_rfl) rfl #[.int .i64 a0_0, .slice A0_1 l0_1.length c0_1] rfl (by (try simp only [List.map_toArray, List.map_cons, List.map_nil]); first | done | rfl | (simp only [List.length_drop, List.length_take]; rfl)) ?_; (with_reducible refine (spec_pzAll.calls k a0_0 _ _ l0_1 t316 _ ?side1 ?side2 A4.out).mono ?_); (case side1 => repeat (first | exact (Kd.C_below HR0_1.out HB.out) | (with_reducible refine Kd.C_alloc ?_ _) | (with_reducible refine Kd.C_drewN ?_ _) | (with_reducible refine Kd.C_drew ?_))); (case side2 => exact HC0_1.out); rintro e w17 ⟨v317, rfl, ho0, hb⟩; refine ⟨_, rfl, ?_⟩; have n0_ := am (Kd.R_lower ho0 (below_size (by repeat (first | (with_reducible first | exact HB.out | apply below_alloc | apply pw_below_drewN | apply below_drew1 | refine below_set ?_ GE314.out) | exact HB.out)))); have n1_ := am (blk_below (bkS BK314.out) hb); have n2_ := am (below_step (by repeat (first | (with_reducible first | exact HB.out | apply below_alloc | apply pw_below_drewN | apply below_drew1 | refine below_set ?_ GE314.out) | exact HB.out)) hb); clear BK314; clear HB; have HO318 := n0_; have BK314 := n1_; have HB := n2_; clear n0_ n1_ n2_; (try clear hb); (try clear hb2); (try clear hk); (try clear hi); (try clear ho0); obtain ⟨Ao18, co18, eo18⟩ := Kd.R_slice HO318.out; subst eo18; have p319 : 0 ≤ (0 : Int) := (by omega); have q319 : 0 < (t316.length : Int) := of_decide_eq_true (by first | (with_reducible assumption) | assumption); obtain ⟨ad319, e319, hx319_0⟩ := Kd.at_string (Kd.R_reads' HO318.out).2.2 0 p319 q319; cases e319; have qi319 : (0 < t316.length) = True := eq_true (by omega); (try rw [show ((0 : Int)).toNat = 0 from rfl] at hx319_0); (try rw [Addr.add_zero'] at hx319_0); replace p319 := eq_true p319; replace q319 := eq_true q319))
    go_ret2
    exact ⟨by first | rfl | (simp [errW_none, errW_some] <;> rfl) | (simp [*, errW_none, errW_some] <;> rfl), by repeat (first | (with_reducible first | exact HB.out | apply below_alloc | apply pw_below_drewN | apply below_drew1 | refine below_set ?_ GE314.out) | exact HB.out)⟩
   ·rw [if_neg c12] at H
    exact absurd H (by simp)
 ·replace c3 := Bool.eq_false_iff.mpr c3
  subst c3
  have H1 : (some ((⟨#[]⟩ : ByteArray), false)) = some (r1, r2) := by rw [if_neg (show ¬ (false = true) by decide)] at H; exact H
  clear H
  have H := H1
  clear H1
  simp only [Option.some.injEq, Prod.mk.injEq] at H
  obtain ⟨rfl, rfl⟩ := H
  go_enter Try.func32, Try.ntmps32
  go_wp2_with (first | ((with_reducible refine gate_dst (N := 1) rfl ?_); refine box_event ?hg (N := 1) ?hd (cs := #[.int .i64 a0_0, .slice A0_1 l0_1.length c0_1]) (t := 35) ?hr ?_; (case hd => rfl); (case hg => rfl); (case hr => first | (go_simp; done) | (go_simp; rfl)); intro gb314 hg w19 hbox hb; have n0_ := am (below_step (hbS HB.out) hb); have n1_ := am (hbox); have n2_ := am (gwL (hbS HB.out) hg); have n3_ := n2_; clear HB; have HB := n0_; have BK314 := n1_; have GW314 := n2_; have GE314 := n3_; clear n0_ n1_ n2_ n3_; clear hb hbox hg; have hcz20_0 : w19.cell? ⟨gb314, 0, none⟩ = some (.int .i64 a0_0) := (blk_cell BK314.out 0).trans rfl; have hcz20_1 : w19.cell? ⟨gb314, 1, none⟩ = some (.slice A0_1 l0_1.length c0_1) := (blk_cell BK314.out 1).trans rfl; have hfz20_0 := blk_frozen BK314.out 0; have hfz20_1 := blk_frozen BK314.out 1) | ((with_reducible refine gate_callee (f := 53) rfl ?_); refine goesL_ (some 6) rfl rfl Try.func53 (by kernel_rfl) rfl #[.agg #[.int .i64 a0_0, .slice A0_1 l0_1.length c0_1]] rfl (by (try simp only [List.map_toArray, List.map_cons, List.map_nil]); first | done | rfl | (simp only [List.length_drop, List.length_take]; rfl)) ?_; (with_reducible refine (spec_pzGood.calls k a0_0 _ _ l0_1 false _ ?side1 ?side2 A2.out).mono ?_); (case side1 => repeat (first | exact (Kd.C_below HR0_1.out HB.out) | (with_reducible refine Kd.C_alloc ?_ _) | (with_reducible refine Kd.C_drewN ?_ _) | (with_reducible refine Kd.C_drew ?_))); (case side2 => exact HC0_1.out); rintro e w21 ⟨rfl, hb⟩; refine ⟨_, rfl, ?_⟩; have n0_ := am (blk_below (bkS BK314.out) hb); have n1_ := am (below_step (by repeat (first | (with_reducible first | exact HB.out | apply below_alloc | apply pw_below_drewN | apply below_drew1 | refine below_set ?_ GE314.out) | exact HB.out)) hb); clear BK314; clear HB; have BK314 := n0_; have HB := n1_; clear n0_ n1_; (try clear hb); (try clear hb2); (try clear hk); (try clear hi)))
  go_ret2
  exact ⟨by first | rfl | (simp [errW_none, errW_some] <;> rfl) | (simp [*, errW_none, errW_some] <;> rfl), by repeat (first | (with_reducible first | exact HB.out | apply below_alloc | apply pw_below_drewN | apply below_drew1 | refine below_set ?_ GE314.out) | exact HB.out)⟩
/-! ### impl_FirstSolution: function 33 -/
def impl_FirstSolution.f (k : Nat) (a0_0 : Int) (l0_1 : List (S25)) : Option (ByteArray × Bool) := (impl_Solutions.f k a0_0 l0_1).bind fun bt321 => (if (bt321.1.length : Int) = 0 then (some ((⟨#[]⟩ : ByteArray), false)) else (if 0 < (bt321.1.length : Int) then (some (rdOf ByteArray.empty bt321.1 0, true)) else (none)))
set_option maxHeartbeats 8000000 in
set_option maxRecDepth 100000 in
theorem impl_FirstSolution.calls (k : Nat) (a0_0 : Int) (A0_1 : Option Addr) (c0_1 : Nat) (l0_1 : List (S25)) (r1 : ByteArray) (r2 : Bool) (w : World) (hr0_1 : Kd.C k25 w A0_1 l0_1.length l0_1) (hc0_1 : l0_1.length ≤ c0_1) (h : impl_FirstSolution.f k a0_0 l0_1 = some (r1, r2)) :
  Calls Try.prog 33 #[.agg #[.int .i64 a0_0, .slice A0_1 l0_1.length c0_1]] w fun e w' => e = .returned (.tuple #[.string r1, .bool r2]) ∧ Below w.heap.size w w' := by
 have hu35 := Try.underlying35
 have HR0_1 := am hr0_1
 have HC0_1 := am hc0_1
 clear hr0_1 hc0_1
 have HB := am (Below.refl w.heap.size w)
 have H : ((impl_Solutions.f k a0_0 l0_1).bind fun bt321 => (if (bt321.1.length : Int) = 0 then (some ((⟨#[]⟩ : ByteArray), false)) else (if 0 < (bt321.1.length : Int) then (some (rdOf ByteArray.empty bt321.1 0, true)) else (none)))) = some (r1, r2) := h
 clear h
 replace H := Option.bind_eq_some_iff.mp H
 obtain ⟨⟨t321, t324⟩, A20, H⟩ := H
 replace H : (if (t321.length : Int) = 0 then (some ((⟨#[]⟩ : ByteArray), false)) else (if 0 < (t321.length : Int) then (some (rdOf ByteArray.empty t321 0, true)) else (none))) = some (r1, r2) := H
 have A2 := am A20
 clear A20
 by_cases c3 : (t321.length : Int) = 0
 ·rw [if_pos c3] at H
  have c3b0 : ((t321.length : Int) == 0) = true := beq_iff_eq.mpr c3
  have c3b1 : ((t321.length : Int) != 0) = false := bne_eq_false_iff_eq.mpr c3
  clear c3
  simp only [Option.some.injEq, Prod.mk.injEq] at H
  obtain ⟨rfl, rfl⟩ := H
  go_enter Try.func33, Try.ntmps33
  go_wp2_with (first | ((with_reducible refine gate_dst (N := 1) rfl ?_); refine box_event ?hg (N := 1) ?hd (cs := #[.int .i64 a0_0, .slice A0_1 l0_1.length c0_1]) (t := 35) ?hr ?_; (case hd => rfl); (case hg => rfl); (case hr => first | (go_simp; done) | (go_simp; rfl)); intro gb320 hg w4 hbox hb; have n0_ := am (below_step (hbS HB.out) hb); have n1_ := am (hbox); have n2_ := am (gwL (hbS HB.out) hg); have n3_ := n2_; clear HB; have HB := n0_; have BK320 := n1_; have GW320 := n2_; have GE320 := n3_; clear n0_ n1_ n2_ n3_; clear hb hbox hg; have hcz5_0 : w4.cell? ⟨gb320, 0, none⟩ = some (.int .i64 a0_0) := (blk_cell BK320.out 0).trans rfl; have hcz5_1 : w4.cell? ⟨gb320, 1, none⟩ = some (.slice A0_1 l0_1.length c0_1) := (blk_cell BK320.out 1).trans rfl; have hfz5_0 := blk_frozen BK320.out 0; have hfz5_1 := blk_frozen BK320.out 1) | ((with_reducible refine gate_callee (f := 44) rfl ?_); refine goesL_ (some 8) rfl rfl Try.func44 (by kernel_rfl) rfl #[.agg #[.int .i64 a0_0, .slice A0_1 l0_1.length c0_1]] rfl (by (try simp only [List.map_toArray, List.map_cons, List.map_nil]); first | done | rfl | (simp only [List.length_drop, List.length_take]; rfl)) ?_; (with_reducible refine (impl_Solutions.calls k a0_0 _ _ l0_1 t321 t324 _ ?side1 ?side2 A2.out).mono ?_); (case side1 => repeat (first | exact (Kd.C_below HR0_1.out HB.out) | (with_reducible refine Kd.C_alloc ?_ _) | (with_reducible refine Kd.C_drewN ?_ _) | (with_reducible refine Kd.C_drew ?_))); (case side2 => exact HC0_1.out); rintro e w6 ⟨v322, rfl, ho0, hb⟩; refine ⟨_, rfl, ?_⟩; have n0_ := am (Kd.R_lower ho0 (below_size (by repeat (first | (with_reducible first | exact HB.out | apply below_alloc | apply pw_below_drewN | apply below_drew1 | refine below_set ?_ GE320.out) | exact HB.out)))); have n1_ := am (blk_below (bkS BK320.out) hb); have n2_ := am (below_step (by repeat (first | (with_reducible first | exact HB.out | apply below_alloc | apply pw_below_drewN | apply below_drew1 | refine below_set ?_ GE320.out) | exact HB.out)) hb); clear BK320; clear HB; have HO323 := n0_; have BK320 := n1_; have HB := n2_; clear n0_ n1_ n2_; (try clear hb); (try clear hb2); (try clear hk); (try clear hi); (try clear ho0); obtain ⟨Ao7, co7, eo7⟩ := Kd.R_slice HO323.out; subst eo7))
  go_ret2
  exact ⟨by first | rfl | (simp [errW_none, errW_some] <;> rfl) | (simp [*, errW_none, errW_some] <;> rfl), by repeat (first | (with_reducible first | exact HB.out | apply below_alloc | apply pw_below_drewN | apply below_drew1 | refine below_set ?_ GE320.out) | exact HB.out)⟩
 ·rw [if_neg c3] at H
  have c3b0 : ((t321.length : Int) == 0) = false := beq_eq_false_iff_ne.mpr c3
  have c3b1 : ((t321.length : Int) != 0) = true := bne_iff_ne.mpr c3
  have c3b2 : ¬ (t321 = []) := fun h_ => c3 (by rw [h_]; rfl)
  by_cases c8 : 0 < (t321.length : Int)
  ·rw [if_pos c8] at H
   have c8b0 : decide (0 < (t321.length : Int)) = true := decide_eq_true c8
   have c8b1 : decide (0 < t321.length) = true := decide_eq_true (by omega)
   clear c8
   simp only [Option.some.injEq, Prod.mk.injEq] at H
   obtain ⟨rfl, rfl⟩ := H
   go_enter Try.func33, Try.ntmps33
   go_wp2_with (first | ((with_reducible refine gate_dst (N := 1) rfl ?_); refine box_event ?hg (N := 1) ?hd (cs := #[.int .i64 a0_0, .slice A0_1 l0_1.length c0_1]) (t := 35) ?hr ?_; (case hd => rfl); (case hg => rfl); (case hr => first | (go_simp; done) | (go_simp; rfl)); intro gb320 hg w9 hbox hb; have n0_ := am (below_step (hbS HB.out) hb); have n1_ := am (hbox); have n2_ := am (gwL (hbS HB.out) hg); have n3_ := n2_; clear HB; have HB := n0_; have BK320 := n1_; have GW320 := n2_; have GE320 := n3_; clear n0_ n1_ n2_ n3_; clear hb hbox hg; have hcz10_0 : w9.cell? ⟨gb320, 0, none⟩ = some (.int .i64 a0_0) := (blk_cell BK320.out 0).trans rfl; have hcz10_1 : w9.cell? ⟨gb320, 1, none⟩ = some (.slice A0_1 l0_1.length c0_1) := (blk_cell BK320.out 1).trans rfl; have hfz10_0 := blk_frozen BK320.out 0; have hfz10_1 := blk_frozen BK320.out 1) | ((with_reducible refine gate_callee (f := 44) rfl ?_); refine goesL_ (some 8) rfl rfl Try.func44 (by kernel_rfl) rfl #[.agg #[.int .i64 a0_0, .slice A0_1 l0_1.length c0_1]] rfl (by (try simp only [List.map_toArray, List.map_cons, List.map_nil]); first | done | rfl | (simp only [List.length_drop, List.length_take]; rfl)) ?_; (with_reducible refine (impl_Solutions.calls k a0_0 _ _ l0_1 t321 t324 _ ?side1 ?side2 A2.out).mono ?_); (case side1 => repeat (first | exact (Kd.C_below HR0_1.out HB.out) | (with_reducible refine Kd.C_alloc ?_ _) | (with_reducible refine Kd.C_drewN ?_ _) | (with_reducible refine Kd.C_drew ?_))); (case side2 => exact HC0_1.out); rintro e w11 ⟨v322, rfl, ho0, hb⟩; refine ⟨_, rfl, ?_⟩; have n0_ := am (Kd.R_lower ho0 (below_size (by repeat (first | (with_reducible first | exact HB.out | apply below_alloc | apply pw_below_drewN | apply below_drew1 | refine below_set ?_ GE320.out) | exact HB.out)))); have n1_ := am (blk_below (bkS BK320.out) hb); have n2_ := am (below_step (by repeat (first | (with_reducible first | exact HB.out | apply below_alloc | apply pw_below_drewN | apply below_drew1 | refine below_set ?_ GE320.out) | exact HB.out)) hb); clear BK320; clear HB; have HO323 := n0_; have BK320 := n1_; have HB := n2_; clear n0_ n1_ n2_; (try clear hb); (try clear hb2); (try clear hk); (try clear hi); (try clear ho0); obtain ⟨Ao12, co12, eo12⟩ := Kd.R_slice HO323.out; subst eo12; have p325 : 0 ≤ (0 : Int) := (by omega); have q325 : 0 < (t321.length : Int) := of_decide_eq_true (by first | (with_reducible assumption) | assumption); obtain ⟨ad325, e325, hx325_0⟩ := Kd.at_string (Kd.R_reads' HO323.out).2.2 0 p325 q325; cases e325; have qi325 : (0 < t321.length) = True := eq_true (by omega); (try rw [show ((0 : Int)).toNat = 0 from rfl] at hx325_0); (try rw [Addr.add_zero'] at hx325_0); replace p325 := eq_true p325; replace q325 := eq_true q325))
   go_ret2
   exact ⟨by first | rfl | (simp [errW_none, errW_some] <;> rfl) | (simp [*, errW_none, errW_some] <;> rfl), by repeat (first | (with_reducible first | exact HB.out | apply below_alloc | apply pw_below_drewN | apply below_drew1 | refine below_set ?_ GE320.out) | exact HB.out)⟩
  ·rw [if_neg c8] at H
   exact absurd H (by simp)
end Go.Proofs.Ytonifgfgeollaaa.X
end
section
-- Written by a program of this session (wip/tools/mp.py) over the kit's print of the translation.
namespace Go.Proofs.Ytonifgfgeollaaa.X
open Go.Proofs.Ytonifgfgeollaaa.Sq Go.RowKit Go.Proofs.YtonifgfgeollaaaW.PrintWords Go.Proofs.YtonifgfgeollaaaW.PrintLast Go.Proofs.YtonifgfgeollaaaW.PrintMore
attribute [local go_sem] max2_int min2_int max_two min_two max_three min_three max_four min_four   -- for this text's walks alone
set_option linter.unusedVariables false
set_option linter.unusedSimpArgs false
/-! ### laws_FnExactFirstSolution: function 9 -/
def laws_FnExactFirstSolution.j0 : Nat → Bool → Int → List (S23) → Int → List (S25) → Option (Bool)
 | 0, _, _, _, _, _ => none
 | k + 1, x34, x327000, x327001, x339000, x339001 => if x34 = true then (none) else ((laws_toPuzzle.f k x327000 x327001).bind fun bt341 => ((laws_eqPuzzle.f k x339000 x339001 bt341.1 bt341.2).bind fun t345 => (if t345 = true then (some true) else (none))))
def laws_FnExactFirstSolution.f (k : Nat) (a0_0 : Int) (l0_1 : List (S23)) : Option (Bool) := (laws_szPuzzle.f a0_0 l0_1 1048576).bind fun t327 => (if t327 < 0 then (some true) else ((laws_toPuzzle.f k a0_0 l0_1).bind fun bt328 => ((spec_FirstSolution.f k bt328.1 bt328.2).bind fun bt332 => ((laws_toPuzzle.f k a0_0 l0_1).bind fun bt334 => ((impl_FirstSolution.f k bt334.1 bt334.2).bind fun bt339 => (if bt339.1.toList = bt332.1.toList then (laws_FnExactFirstSolution.j0 k (bt339.2 != bt332.2) a0_0 l0_1 bt334.1 bt334.2) else (laws_FnExactFirstSolution.j0 k true a0_0 l0_1 bt334.1 bt334.2)))))))
set_option maxHeartbeats 8000000 in
set_option maxRecDepth 100000 in
theorem laws_FnExactFirstSolution.calls (k : Nat) (a0_0 : Int) (A0_1 : Option Addr) (c0_1 : Nat) (l0_1 : List (S23)) (r : Bool) (w : World) (hr0_1 : Kd.C k23 w A0_1 l0_1.length l0_1) (hc0_1 : l0_1.length ≤ c0_1) (h : laws_FnExactFirstSolution.f k a0_0 l0_1 = some r) :
  Calls Try.prog 9 #[.agg #[.int .i64 a0_0, .slice A0_1 l0_1.length c0_1]] w fun e w' => e = .returned (.bool r) ∧ Below w.heap.size w w' := by
 have hu30 := Try.underlying30
 have hu35 := Try.underlying35
 have HR0_1 := am hr0_1
 have HC0_1 := am hc0_1
 clear hr0_1 hc0_1
 have HB := am (Below.refl w.heap.size w)
 have H : ((laws_szPuzzle.f a0_0 l0_1 1048576).bind fun t327 => (if t327 < 0 then (some true) else ((laws_toPuzzle.f k a0_0 l0_1).bind fun bt328 => ((spec_FirstSolution.f k bt328.1 bt328.2).bind fun bt332 => ((laws_toPuzzle.f k a0_0 l0_1).bind fun bt334 => ((impl_FirstSolution.f k bt334.1 bt334.2).bind fun bt339 => (if bt339.1.toList = bt332.1.toList then (laws_FnExactFirstSolution.j0 k (bt339.2 != bt332.2) a0_0 l0_1 bt334.1 bt334.2) else (laws_FnExactFirstSolution.j0 k true a0_0 l0_1 bt334.1 bt334.2)))))))) = some r := h
 clear h
 replace H := Option.bind_eq_some_iff.mp H
 obtain ⟨t327, A20, H⟩ := H
 replace H : (if t327 < 0 then (some true) else ((laws_toPuzzle.f k a0_0 l0_1).bind fun bt328 => ((spec_FirstSolution.f k bt328.1 bt328.2).bind fun bt332 => ((laws_toPuzzle.f k a0_0 l0_1).bind fun bt334 => ((impl_FirstSolution.f k bt334.1 bt334.2).bind fun bt339 => (if bt339.1.toList = bt332.1.toList then (laws_FnExactFirstSolution.j0 k (bt339.2 != bt332.2) a0_0 l0_1 bt334.1 bt334.2) else (laws_FnExactFirstSolution.j0 k true a0_0 l0_1 bt334.1 bt334.2))))))) = some r := H
 have A2 := am A20
 clear A20
 by_cases c3 : t327 < 0
 ·rw [if_pos c3] at H
  have c3b0 : decide (t327 < 0) = true := decide_eq_true c3
  clear c3
  obtain rfl := Option.some.inj H
  go_enter Try.func9, Try.ntmps9
  go_wp2_with (first | ((with_reducible refine gate_dst (N := 1) rfl ?_); refine box_event ?hg (N := 1) ?hd (cs := #[.int .i64 a0_0, .slice A0_1 l0_1.length c0_1]) (t := 30) ?hr ?_; (case hd => rfl); (case hg => rfl); (case hr => first | (go_simp; done) | (go_simp; rfl)); intro gb326 hg w4 hbox hb; have n0_ := am (below_step (hbS HB.out) hb); have n1_ := am (hbox); have n2_ := am (gwL (hbS HB.out) hg); have n3_ := n2_; clear HB; have HB := n0_; have BK326 := n1_; have GW326 := n2_; have GE326 := n3_; clear n0_ n1_ n2_ n3_; clear hb hbox hg; have hcz5_0 : w4.cell? ⟨gb326, 0, none⟩ = some (.int .i64 a0_0) := (blk_cell BK326.out 0).trans rfl; have hcz5_1 : w4.cell? ⟨gb326, 1, none⟩ = some (.slice A0_1 l0_1.length c0_1) := (blk_cell BK326.out 1).trans rfl; have hfz5_0 := blk_frozen BK326.out 0; have hfz5_1 := blk_frozen BK326.out 1) | ((with_reducible refine gate_callee (f := 17) rfl ?_); refine goesL_ (some 11) rfl rfl Try.func17 (by kernel_rfl) rfl #[.agg #[.int .i64 a0_0, .slice A0_1 l0_1.length c0_1], .int .i64 1048576] rfl (by (try simp only [List.map_toArray, List.map_cons, List.map_nil]); first | done | rfl | (simp only [List.length_drop, List.length_take]; rfl)) ?_; (with_reducible refine (laws_szPuzzle.calls a0_0 _ _ l0_1 1048576 t327 _ ?side1 ?side2 A2.out).mono ?_); (case side1 => repeat (first | exact (Kd.C_below HR0_1.out HB.out) | (with_reducible refine Kd.C_alloc ?_ _) | (with_reducible refine Kd.C_drewN ?_ _) | (with_reducible refine Kd.C_drew ?_))); (case side2 => exact HC0_1.out); rintro e w6 ⟨rfl, hb⟩; refine ⟨_, rfl, ?_⟩; have n0_ := am (blk_below (bkS BK326.out) hb); have n1_ := am (below_step (by repeat (first | (with_reducible first | exact HB.out | apply below_alloc | apply pw_below_drewN | apply below_drew1 | refine below_set ?_ GE326.out) | exact HB.out)) hb); clear BK326; clear HB; have BK326 := n0_; have HB := n1_; clear n0_ n1_; (try clear hb); (try clear hb2); (try clear hk); (try clear hi)))
  go_ret
  exact ⟨by first | rfl | (simp [errW_none, errW_some] <;> rfl) | (simp [*, errW_none, errW_some] <;> rfl), by repeat (first | (with_reducible first | exact HB.out | apply below_alloc | apply pw_below_drewN | apply below_drew1 | refine below_set ?_ GE326.out) | exact HB.out)⟩
 ·rw [if_neg c3] at H
  have c3b0 : decide (t327 < 0) = false := decide_eq_false c3
  clear c3
  replace H := Option.bind_eq_some_iff.mp H
  obtain ⟨⟨t328, t329⟩, A70, H⟩ := H
  replace H : ((spec_FirstSolution.f k t328 t329).bind fun bt332 => ((laws_toPuzzle.f k a0_0 l0_1).bind fun bt334 => ((impl_FirstSolution.f k bt334.1 bt334.2).bind fun bt339 => (if bt339.1.toList = bt332.1.toList then (laws_FnExactFirstSolution.j0 k (bt339.2 != bt332.2) a0_0 l0_1 bt334.1 bt334.2) else (laws_FnExactFirstSolution.j0 k true a0_0 l0_1 bt334.1 bt334.2))))) = some r := H
  have A7 := am A70
  clear A70
  replace H := Option.bind_eq_some_iff.mp H
  obtain ⟨⟨t332, t333⟩, A80, H⟩ := H
  replace H : ((laws_toPuzzle.f k a0_0 l0_1).bind fun bt334 => ((impl_FirstSolution.f k bt334.1 bt334.2).bind fun bt339 => (if bt339.1.toList = t332.toList then (laws_FnExactFirstSolution.j0 k (bt339.2 != t333) a0_0 l0_1 bt334.1 bt334.2) else (laws_FnExactFirstSolution.j0 k true a0_0 l0_1 bt334.1 bt334.2)))) = some r := H
  have A8 := am A80
  clear A80
  replace H := Option.bind_eq_some_iff.mp H
  obtain ⟨⟨t334, t335⟩, A90, H⟩ := H
  replace H : ((impl_FirstSolution.f k t334 t335).bind fun bt339 => (if bt339.1.toList = t332.toList then (laws_FnExactFirstSolution.j0 k (bt339.2 != t333) a0_0 l0_1 t334 t335) else (laws_FnExactFirstSolution.j0 k true a0_0 l0_1 t334 t335))) = some r := H
  have A9 := am A90
  clear A90
  replace H := Option.bind_eq_some_iff.mp H
  obtain ⟨⟨t339, t340⟩, A100, H⟩ := H
  replace H : (if t339.toList = t332.toList then (laws_FnExactFirstSolution.j0 k (t340 != t333) a0_0 l0_1 t334 t335) else (laws_FnExactFirstSolution.j0 k true a0_0 l0_1 t334 t335)) = some r := H
  have A10 := am A100
  clear A100
  have HC11 := am H
  clear H
  go_enter Try.func9, Try.ntmps9
  go_upto_region 8 with (first | ((with_reducible refine gate_dst (N := 1) rfl ?_); refine box_event ?hg (N := 1) ?hd (cs := #[.int .i64 a0_0, .slice A0_1 l0_1.length c0_1]) (t := 30) ?hr ?_; (case hd => rfl); (case hg => rfl); (case hr => first | (go_simp; done) | (go_simp; rfl)); intro gb326 hg w12 hbox hb; have n0_ := am (below_step (hbS HB.out) hb); have n1_ := am (hbox); have n2_ := am (gwL (hbS HB.out) hg); have n3_ := n2_; clear HB; have HB := n0_; have BK326 := n1_; have GW326 := n2_; have GE326 := n3_; clear n0_ n1_ n2_ n3_; clear hb hbox hg; have hcz13_0 : w12.cell? ⟨gb326, 0, none⟩ = some (.int .i64 a0_0) := (blk_cell BK326.out 0).trans rfl; have hcz13_1 : w12.cell? ⟨gb326, 1, none⟩ = some (.slice A0_1 l0_1.length c0_1) := (blk_cell BK326.out 1).trans rfl; have hfz13_0 := blk_frozen BK326.out 0; have hfz13_1 := blk_frozen BK326.out 1) | ((with_reducible refine gate_callee (f := 17) rfl ?_); refine goesL_ (some 11) rfl rfl Try.func17 (by kernel_rfl) rfl #[.agg #[.int .i64 a0_0, .slice A0_1 l0_1.length c0_1], .int .i64 1048576] rfl (by (try simp only [List.map_toArray, List.map_cons, List.map_nil]); first | done | rfl | (simp only [List.length_drop, List.length_take]; rfl)) ?_; (with_reducible refine (laws_szPuzzle.calls a0_0 _ _ l0_1 1048576 t327 _ ?side1 ?side2 A2.out).mono ?_); (case side1 => repeat (first | exact (Kd.C_below HR0_1.out HB.out) | (with_reducible refine Kd.C_alloc ?_ _) | (with_reducible refine Kd.C_drewN ?_ _) | (with_reducible refine Kd.C_drew ?_))); (case side2 => exact HC0_1.out); rintro e w14 ⟨rfl, hb⟩; refine ⟨_, rfl, ?_⟩; have n0_ := am (blk_below (bkS BK326.out) hb); have n1_ := am (below_step (by repeat (first | (with_reducible first | exact HB.out | apply below_alloc | apply pw_below_drewN | apply below_drew1 | refine below_set ?_ GE326.out) | exact HB.out)) hb); clear BK326; clear HB; have BK326 := n0_; have HB := n1_; clear n0_ n1_; (try clear hb); (try clear hb2); (try clear hk); (try clear hi); have hcz15_0 : w14.cell? ⟨gb326, 0, none⟩ = some (.int .i64 a0_0) := (blk_cell BK326.out 0).trans rfl; have hcz15_1 : w14.cell? ⟨gb326, 1, none⟩ = some (.slice A0_1 l0_1.length c0_1) := (blk_cell BK326.out 1).trans rfl; have hfz15_0 := blk_frozen BK326.out 0; have hfz15_1 := blk_frozen BK326.out 1) | ((with_reducible refine gate_callee (f := 19) rfl ?_); refine goesL_ (some 16) rfl rfl Try.func19 (by kernel_rfl) rfl #[.agg #[.int .i64 a0_0, .slice A0_1 l0_1.length c0_1]] rfl (by (try simp only [List.map_toArray, List.map_cons, List.map_nil]); first | done | rfl | (simp only [List.length_drop, List.length_take]; rfl)) ?_; (with_reducible refine (laws_toPuzzle.calls k a0_0 _ _ l0_1 t328 t329 _ ?side1 ?side2 A7.out).mono ?_); (case side1 => repeat (first | exact (Kd.C_below HR0_1.out HB.out) | (with_reducible refine Kd.C_alloc ?_ _) | (with_reducible refine Kd.C_drewN ?_ _) | (with_reducible refine Kd.C_drew ?_))); (case side2 => exact HC0_1.out); rintro e w16 ⟨v330, rfl, ho0, hb⟩; refine ⟨_, rfl, ?_⟩; have n0_ := am (Kd.R_lower ho0 (below_size (by repeat (first | (with_reducible first | exact HB.out | apply below_alloc | apply pw_below_drewN | apply below_drew1 | refine below_set ?_ GE326.out) | exact HB.out)))); have n1_ := am (blk_below (bkS BK326.out) hb); have n2_ := am (below_step (by repeat (first | (with_reducible first | exact HB.out | apply below_alloc | apply pw_below_drewN | apply below_drew1 | refine below_set ?_ GE326.out) | exact HB.out)) hb); clear BK326; clear HB; have HO331 := n0_; have BK326 := n1_; have HB := n2_; clear n0_ n1_ n2_; (try clear hb); (try clear hb2); (try clear hk); (try clear hi); (try clear ho0); obtain ⟨Ao17, co17, eo17⟩ := Kd.R_slice HO331.out; subst eo17) | ((with_reducible refine gate_callee (f := 32) rfl ?_); refine goesL_ (some 17) rfl rfl Try.func32 (by kernel_rfl) rfl #[.agg #[.int .i64 t328, .slice Ao17 t329.length co17]] rfl (by (try simp only [List.map_toArray, List.map_cons, List.map_nil]); first | done | rfl | (simp only [List.length_drop, List.length_take]; rfl)) ?_; (with_reducible refine (spec_FirstSolution.calls k t328 _ _ t329 t332 t333 _ ?side1 ?side2 A8.out).mono ?_); (case side1 => repeat (first | exact (Kd.R_reads' HO331.out).2.2 | (with_reducible refine Kd.C_alloc ?_ _) | (with_reducible refine Kd.C_drewN ?_ _) | (with_reducible refine Kd.C_drew ?_))); (case side2 => exact (Kd.R_reads' HO331.out).2.1); rintro e w18 ⟨rfl, hb⟩; refine ⟨_, rfl, ?_⟩; have n0_ := am (Kd.R_below (roS HO331.out) hb); have n1_ := am (blk_below (bkS BK326.out) hb); have n2_ := am (below_step (by repeat (first | (with_reducible first | exact HB.out | apply below_alloc | apply pw_below_drewN | apply below_drew1 | refine below_set ?_ GE326.out) | exact HB.out)) hb); clear HO331; clear BK326; clear HB; have HO331 := n0_; have BK326 := n1_; have HB := n2_; clear n0_ n1_ n2_; (try clear hb); (try clear hb2); (try clear hk); (try clear hi); have hcz19_0 : w18.cell? ⟨gb326, 0, none⟩ = some (.int .i64 a0_0) := (blk_cell BK326.out 0).trans rfl; have hcz19_1 : w18.cell? ⟨gb326, 1, none⟩ = some (.slice A0_1 l0_1.length c0_1) := (blk_cell BK326.out 1).trans rfl; have hfz19_0 := blk_frozen BK326.out 0; have hfz19_1 := blk_frozen BK326.out 1) | ((with_reducible refine gate_callee (f := 19) rfl ?_); refine goesL_ (some 21) rfl rfl Try.func19 (by kernel_rfl) rfl #[.agg #[.int .i64 a0_0, .slice A0_1 l0_1.length c0_1]] rfl (by (try simp only [List.map_toArray, List.map_cons, List.map_nil]); first | done | rfl | (simp only [List.length_drop, List.length_take]; rfl)) ?_; (with_reducible refine (laws_toPuzzle.calls k a0_0 _ _ l0_1 t334 t335 _ ?side1 ?side2 A9.out).mono ?_); (case side1 => repeat (first | exact (Kd.C_below HR0_1.out HB.out) | (with_reducible refine Kd.C_alloc ?_ _) | (with_reducible refine Kd.C_drewN ?_ _) | (with_reducible refine Kd.C_drew ?_))); (case side2 => exact HC0_1.out); rintro e w20 ⟨v336, rfl, ho0, hb⟩; refine ⟨_, rfl, ?_⟩; have n0_ := am (Kd.R_elder' (roS HO331.out) (Kd.R_base ho0) hb); have n1_ := am (Kd.R_lower (Kd.R_new' ho0 (Kd.R_lt (roS HO331.out))) (below_size (by repeat (first | (with_reducible first | exact HB.out | apply below_alloc | apply pw_below_drewN | apply below_drew1 | refine below_set ?_ GE326.out) | exact HB.out)))); have n2_ := am (blk_below (bkS BK326.out) hb); have n3_ := am (below_step (by repeat (first | (with_reducible first | exact HB.out | apply below_alloc | apply pw_below_drewN | apply below_drew1 | refine below_set ?_ GE326.out) | exact HB.out)) hb); clear HO331; clear BK326; clear HB; have HO331 := n0_; have HO337 := n1_; have BK326 := n2_; have HB := n3_; clear n0_ n1_ n2_ n3_; (try clear hb); (try clear hb2); (try clear hk); (try clear hi); (try clear ho0)) | ((with_reducible refine gate_dst (N := 6) rfl ?_); refine box_event ?hg (N := 6) ?hd (cs := #[.int .i64 0, .slice none 0 0]) (t := 35) ?hr ?_; (case hd => rfl); (case hg => rfl); (case hr => first | (go_simp; done) | (go_simp; rfl)); intro gb338 hg w21 hbox hb; have n0_ := am (Kd.R_below (roS HO331.out) hb); have n1_ := am (Kd.R_below (roS HO337.out) hb); have n2_ := am (blk_below (bkS BK326.out) hb); have n3_ := am (below_step (by repeat (first | (with_reducible first | exact HB.out | apply below_alloc | apply pw_below_drewN | apply below_drew1 | refine below_set ?_ GE326.out) | exact HB.out)) hb); have n4_ := am (hbox); have n5_ := am (gwL (by repeat (first | (with_reducible first | exact HB.out | apply below_alloc | apply pw_below_drewN | apply below_drew1 | refine below_set ?_ GE326.out) | exact HB.out)) hg); have n6_ := n5_; have n7_ := am (nbL (bkS BK326.out) hg); have n8_ := am (nbG (bkS BK326.out) hg); clear HO331; clear HO337; clear BK326; clear HB; have HO331 := n0_; have HO337 := n1_; have BK326 := n2_; have HB := n3_; have BK338 := n4_; have GW338 := n5_; have GE338 := n6_; have NB326_338 := n7_; have NB338_326 := n8_; clear n0_ n1_ n2_ n3_ n4_ n5_ n6_ n7_ n8_; clear hb hbox hg; have hnb22 := NB338_326.out; have hnc22 := NB326_338.out; have hcz23_0 : w21.cell? ⟨gb338, 0, none⟩ = some (.int .i64 0) := (blk_cell BK338.out 0).trans rfl; have hcz23_1 : w21.cell? ⟨gb338, 1, none⟩ = some (.slice none 0 0) := (blk_cell BK338.out 1).trans rfl; have hfz23_0 := blk_frozen BK338.out 0; have hfz23_1 := blk_frozen BK338.out 1; obtain ⟨Ao24, co24, eo24⟩ := Kd.R_slice HO337.out; subst eo24) | ((with_reducible refine gate_callee (f := 33) rfl ?_); refine goesL_ (some 24) rfl rfl Try.func33 (by kernel_rfl) rfl #[.agg #[.int .i64 t334, .slice Ao24 t335.length co24]] rfl (by (try simp only [List.map_toArray, List.map_cons, List.map_nil]); first | done | rfl | (simp only [List.length_drop, List.length_take]; rfl)) ?_; (with_reducible refine (impl_FirstSolution.calls k t334 _ _ t335 t339 t340 _ ?side1 ?side2 A10.out).mono ?_); (case side1 => refine (Kd.R_reads' (e := 25) (base := w.heap.size) (ok := fun k_ => (True ∧ some k_ ≠ (.slice Ao17 t329.length co17 : Value).ownBlock)) (n := t335.length) (c := co24) ?_).2.2; exact (by (with_reducible repeat (first | apply Kd.R_alloc | apply Kd.R_drewN | apply Kd.R_drew)); exact (Kd.R_mono (Kd.R_far (p := ⟨gb338, 1, none⟩) (Kd.R_far (p := ⟨gb338, 0, none⟩) (Kd.R_types HO337.out BK338.out (by decide)) (fun _ hk => hk.2) (.int .i64 t334)) (fun _ hk => hk.2) (.slice Ao24 t335.length co24)) (fun _ h_ => h_.1)))); (case side2 => exact (Kd.R_reads' HO337.out).2.1); rintro e w25 ⟨rfl, hb⟩; refine ⟨_, rfl, ?_⟩; have n0_ := am (Kd.R_below (by (with_reducible repeat (first | apply Kd.R_alloc | apply Kd.R_drewN | apply Kd.R_drew)); exact (Kd.R_mono (Kd.R_far (p := ⟨gb338, 1, none⟩) (Kd.R_far (p := ⟨gb338, 0, none⟩) (Kd.R_types HO331.out BK338.out (by decide)) (fun _ hk => hk.2) (.int .i64 t334)) (fun _ hk => hk.2) (.slice Ao24 t335.length co24)) (fun _ h_ => h_.1))) hb); have n1_ := am (Kd.R_below (by (with_reducible repeat (first | apply Kd.R_alloc | apply Kd.R_drewN | apply Kd.R_drew)); exact (Kd.R_mono (Kd.R_far (p := ⟨gb338, 1, none⟩) (Kd.R_far (p := ⟨gb338, 0, none⟩) (Kd.R_types HO337.out BK338.out (by decide)) (fun _ hk => hk.2) (.int .i64 t334)) (fun _ hk => hk.2) (.slice Ao24 t335.length co24)) (fun _ h_ => h_.1))) hb); have n2_ := am (blk_below (g := gb326) (o := .cells #[.int .i64 a0_0, .slice A0_1 l0_1.length c0_1] 30 (0, 0)) (by (with_reducible repeat (first | refine blk_drewN ?_ _ | refine blk_drew ?_ | refine blk_alloc ?_ _)); refine blk_far ?_ NB326_338.out _; (with_reducible repeat (first | refine blk_drewN ?_ _ | refine blk_drew ?_ | refine blk_alloc ?_ _)); refine blk_far ?_ NB326_338.out _; (with_reducible repeat (first | refine blk_drewN ?_ _ | refine blk_drew ?_ | refine blk_alloc ?_ _)); exact BK326.out) hb); have n3_ := am (blk_below (g := gb338) (o := .cells #[.int .i64 t334, .slice Ao24 t335.length co24] 35 (0, 0)) (by (with_reducible repeat (first | refine blk_drewN ?_ _ | refine blk_drew ?_ | refine blk_alloc ?_ _)); refine blk_put (cs := #[.int .i64 t334, .slice none 0 0]) ?_ 1 _ rfl; (with_reducible repeat (first | refine blk_drewN ?_ _ | refine blk_drew ?_ | refine blk_alloc ?_ _)); refine blk_put (cs := #[.int .i64 0, .slice none 0 0]) ?_ 0 _ rfl; (with_reducible repeat (first | refine blk_drewN ?_ _ | refine blk_drew ?_ | refine blk_alloc ?_ _)); exact BK338.out) hb); have n4_ := am (below_step (by repeat (first | (with_reducible first | exact HB.out | apply below_alloc | apply pw_below_drewN | apply below_drew1 | refine below_set ?_ (Aside0.out (by assumption))) | exact HB.out)) hb); clear HO331; clear HO337; clear BK326; clear BK338; clear HB; have HO331 := n0_; have HO337 := n1_; have BK326 := n2_; have BK338 := n3_; have HB := n4_; clear n0_ n1_ n2_ n3_ n4_; (try clear hb); (try clear hb2); (try clear hk); (try clear hi)))
  (try simp only [Act.put, List.setIfInBounds_toArray, List.set_cons_zero, List.set_cons_succ])
  go_cut [34] (fun v34 wc => ∃ (kq : Nat) (x34_10 : Bool), v34 = .bool x34_10 ∧ Aside0 (laws_FnExactFirstSolution.j0 kq x34_10 a0_0 l0_1 t334 t335 = some r) ∧ Aside0 (kq ≤ k) ∧ Aside0 (Kd.R k25 25 wc w.heap.size (fun _ => True) (.slice Ao24 t335.length co24) t335) ∧ Aside0 (wc.heap[gb326]? = some (.cells #[.int .i64 a0_0, (.slice A0_1 l0_1.length c0_1)] 30 (0, 0))) ∧ Aside0 (wc.heap[gb338]? = some (.cells #[.int .i64 t334, (.slice Ao24 t335.length co24)] 35 (0, 0))) ∧ Aside0 (Below w.heap.size w wc))
  case first =>
   have H := HC11.out
   clear HC11
   by_cases c26 : t339.toList = t332.toList
   ·rw [if_pos c26] at H
    have c26b0 : (t339.toList == t332.toList) = true := beq_iff_eq.mpr c26
    have c26b1 : (t339.toList != t332.toList) = false := bne_eq_false_iff_eq.mpr c26
    clear c26
    (first | rw [c26b0] | (simp only [i64_w, i32_w]; rw [c26b0]) | skip)
    have H' := am H
    clear H
    go_wp2
    go_meet
    case rel => exact ⟨_, ((t340 != t333)), (by first | rfl | (simp; done) | (simp [*]; done)), H', ⟨by first | omega | exact Nat.le_refl _⟩, ⟨by (with_reducible repeat (first | apply Kd.R_alloc | apply Kd.R_drewN | apply Kd.R_drew)); exact Kd.R_mono HO337.out (fun _ hk => trivial)⟩, ⟨bkS BK326.out⟩, ⟨bkS BK338.out⟩, ⟨by repeat (first | (with_reducible first | exact HB.out | apply below_alloc | apply pw_below_drewN | apply below_drew1 | refine below_set ?_ (Aside0.out (by assumption))) | exact HB.out)⟩⟩
   ·rw [if_neg c26] at H
    have c26b0 : (t339.toList == t332.toList) = false := beq_eq_false_iff_ne.mpr c26
    have c26b1 : (t339.toList != t332.toList) = true := bne_iff_ne.mpr c26
    (first | rw [c26b0] | (simp only [i64_w, i32_w]; rw [c26b0]) | skip)
    have H' := am H
    clear H
    go_wp2
    go_meet
    case rel => exact ⟨_, (true), (by first | rfl | (simp; done) | (simp [*]; done)), H', ⟨by first | omega | exact Nat.le_refl _⟩, ⟨by (with_reducible repeat (first | apply Kd.R_alloc | apply Kd.R_drewN | apply Kd.R_drew)); exact Kd.R_mono HO337.out (fun _ hk => trivial)⟩, ⟨bkS BK326.out⟩, ⟨bkS BK338.out⟩, ⟨by repeat (first | (with_reducible first | exact HB.out | apply below_alloc | apply pw_below_drewN | apply below_drew1 | refine below_set ?_ (Aside0.out (by assumption))) | exact HB.out)⟩⟩
  case rest =>
   clear HC11
   try clear c1
   try clear c2
   try clear p2
   try clear c3
   try clear c3b0
   try clear c9
   try clear c17
   try clear c19
   try clear c22
   try clear c26
   try clear c26b0
   try clear c26b1
   try clear hcz13_0
   try clear hcz13_1
   try clear hcz15_0
   try clear hcz15_1
   try clear hcz19_0
   try clear hcz19_1
   try clear hcz23_0
   try clear hcz23_1
   try clear hcz5_0
   try clear hcz5_1
   try clear hfz13_0
   try clear hfz13_1
   try clear hfz15_0
   try clear hfz15_1
   try clear hfz19_0
   try clear hfz19_1
   try clear hfz23_0
   try clear hfz23_1
   try clear hfz5_0
   try clear hfz5_1
   obtain ⟨kq, x34_10, rfl, HA, HJ10, HO_339001, BK326, BK338, HB⟩ := hcut
   cases kq with
   | zero => exact absurd HA.out (by simp [laws_FnExactFirstSolution.j0])
   | succ kj10 =>
    have H := HA.out
    clear HA
    simp only [laws_FnExactFirstSolution.j0] at H
    by_cases c27 : x34_10 = true
    ·subst c27
     have H1 : (none) = some r := by rw [if_pos rfl] at H; exact H
     clear H
     have H := H1
     clear H1
     exact absurd H (by simp)
    ·replace c27 := Bool.eq_false_iff.mpr c27
     subst c27
     have H1 : ((laws_toPuzzle.f kj10 a0_0 l0_1).bind fun bt341 => ((laws_eqPuzzle.f kj10 t334 t335 bt341.1 bt341.2).bind fun t345 => (if t345 = true then (some true) else (none)))) = some r := by rw [if_neg (show ¬ (false = true) by decide)] at H; exact H
     clear H
     have H := H1
     clear H1
     replace H := Option.bind_eq_some_iff.mp H
     obtain ⟨⟨t341, t342⟩, A280, H⟩ := H
     replace H : ((laws_eqPuzzle.f kj10 t334 t335 t341 t342).bind fun t345 => (if t345 = true then (some true) else (none))) = some r := H
     have A28 := am A280
     clear A280
     replace H := Option.bind_eq_some_iff.mp H
     obtain ⟨t345, A290, H⟩ := H
     replace H : (if t345 = true then (some true) else (none)) = some r := H
     have A29 := am A290
     clear A290
     by_cases c30 : t345 = true
     ·subst c30
      have H1 : (some true) = some r := by rw [if_pos rfl] at H; exact H
      clear H
      have H := H1
      clear H1
      obtain rfl := Option.some.inj H
      try go_wp2
      have n0_ := am (Kd.R_drew HO_339001.out)
      have n1_ := am (blk_drew BK326.out)
      have n2_ := am (blk_drew BK338.out)
      have n3_ := am (below_drew1 HB.out)
      clear HO_339001
      clear BK326
      clear BK338
      clear HB
      have HO_339001 := n0_
      have BK326 := n1_
      have BK338 := n2_
      have HB := n3_
      clear n0_ n1_ n2_ n3_
      refine start_ (n := 5) (S := fun w' => w'.cell? ⟨gb338, 0, none⟩ = some (.int .i64 t334) ∧ w'.cell? ⟨gb338, 1, none⟩ = some (.slice Ao24 t335.length co24) ∧ w'.cell? ⟨gb326, 0, none⟩ = some (.int .i64 a0_0) ∧ w'.cell? ⟨gb326, 1, none⟩ = some (.slice A0_1 l0_1.length c0_1)) (ds := []) #[false, false, false, false, false] (by kernel_rfl) rfl rfl ⟨(blk_cell BK338.out 0).trans rfl, (blk_cell BK338.out 1).trans rfl, (blk_cell BK326.out 0).trans rfl, (blk_cell BK326.out 1).trans rfl⟩ (fun hHeld => ?_)
      generalize wc.drew = w31 at HO_339001 BK326 BK338 HB hHeld ⊢
      refine take_ (i := 0) (N := some 35) (v := ?_) (a' := ?_) #[true, false, false, false, false] rfl rfl (by kernel_rfl) (fun _ _ _ h => h) (Or.inl ⟨by rfl, ?_⟩) hHeld ?_ ?_
      rotate_left
      ·rintro w' ⟨s0, s1, s2, s3⟩
       go_simp
       with_reducible rfl
      rotate_left
      ·simp only [Act.put, List.setIfInBounds_toArray, List.set_cons_zero, List.set_cons_succ, i64_w, i32_w]
       rfl
      refine take_ (i := 1) (N := some 36) (v := ?_) (a' := ?_) #[true, true, false, false, false] rfl rfl (by kernel_rfl) (fun _ _ _ h => h) (Or.inl ⟨by rfl, ?_⟩) hHeld ?_ ?_
      rotate_left
      ·rintro w' ⟨s0, s1, s2, s3⟩
       go_simp
       with_reducible rfl
      rotate_left
      ·simp only [Act.put, List.setIfInBounds_toArray, List.set_cons_zero, List.set_cons_succ, i64_w, i32_w]
       rfl
      refine one_ (i := 2) (N := some 37) #[true, true, true, false, false] rfl rfl (by kernel_rfl) (by decide) (fun K hK => ?_)
      refine goes_ Try.func19 (by kernel_rfl) rfl #[.agg #[.int .i64 a0_0, .slice A0_1 l0_1.length c0_1]] (by rfl) rfl rfl (by (try simp only [List.map_toArray, List.map_cons, List.map_nil]); first | done | rfl | (simp only [List.length_drop, List.length_take]; rfl)) ?_
      with_reducible refine (laws_toPuzzle.calls kj10 a0_0 _ _ l0_1 t341 t342 _ ?side1 ?side2 A28.out).mono ?_
      (case side1 => repeat (first | exact (Kd.C_below HR0_1.out HB.out) | (with_reducible refine Kd.C_alloc ?_ _) | (with_reducible refine Kd.C_drewN ?_ _) | (with_reducible refine Kd.C_drew ?_)))
      (case side2 => exact HC0_1.out)
      rintro e w32 ⟨v343, rfl, ho0, hb⟩
      refine ⟨_, rfl, ?_⟩
      have n0_ := am (Kd.R_elder' (roS HO_339001.out) (Kd.R_base ho0) hb)
      have n1_ := am (Kd.R_lower (Kd.R_new' ho0 (Kd.R_lt (roS HO_339001.out))) (below_size (by repeat (first | (with_reducible first | exact HB.out | apply below_alloc | apply pw_below_drewN | apply below_drew1 | refine below_set ?_ (Aside0.out (by assumption))) | exact HB.out))))
      have n2_ := am (blk_below (bkS BK326.out) hb)
      have n3_ := am (blk_below (bkS BK338.out) hb)
      have n4_ := am (below_step (by repeat (first | (with_reducible first | exact HB.out | apply below_alloc | apply pw_below_drewN | apply below_drew1 | refine below_set ?_ (Aside0.out (by assumption))) | exact HB.out)) hb)
      clear HO_339001
      clear BK326
      clear BK338
      clear HB
      have HO_339001 := n0_
      have HO344 := n1_
      have BK326 := n2_
      have BK338 := n3_
      have HB := n4_
      clear n0_ n1_ n2_ n3_ n4_
      (try clear hb)
      (try clear hb2)
      (try clear hk)
      (try clear hi)
      (try clear ho0)
      obtain ⟨Ao33, co33, eo33⟩ := Kd.R_slice HO344.out
      (first | subst eo33 | (injection eo33 with f1_ f2_ f3_; have f4_ := f1_.symm; have f5_ := f3_.symm; clear f1_ f2_ f3_; subst f4_; subst f5_))
      refine hK.out _ _ ⟨(blk_cell BK338.out 0).trans rfl, (blk_cell BK338.out 1).trans rfl, (blk_cell BK326.out 0).trans rfl, (blk_cell BK326.out 1).trans rfl⟩ (fun hHeld => ?_)
      clear hK K
      refine norm_ (a' := ?_) ?_ ?_
      rotate_left
      ·show Act.put _ (some 37) _ = _
       simp only [Act.put, List.setIfInBounds_toArray, List.set_cons_zero, List.set_cons_succ, i64_w, i32_w]
       rfl
      refine one_ (i := 3) (N := some 38) #[true, true, true, true, false] rfl rfl (by kernel_rfl) (by decide) (fun K hK => ?_)
      refine goes_ Try.func21 (by kernel_rfl) rfl #[.agg #[.int .i64 t334, .slice Ao24 t335.length co24], .agg #[.int .i64 t341, .slice Ao33 t342.length co33]] (by rfl) rfl rfl (by (try simp only [List.map_toArray, List.map_cons, List.map_nil]); first | done | rfl | (simp only [List.length_drop, List.length_take]; rfl)) ?_
      with_reducible refine (laws_eqPuzzle.calls kj10 t334 _ _ t335 t341 _ _ t342 true _ ?side1 ?side2 ?side3 ?side4 A29.out).mono ?_
      (case side1 => repeat (first | exact (Kd.R_reads' HO_339001.out).2.2 | (with_reducible refine Kd.C_alloc ?_ _) | (with_reducible refine Kd.C_drewN ?_ _) | (with_reducible refine Kd.C_drew ?_)))
      (case side2 => exact (Kd.R_reads' HO_339001.out).2.1)
      (case side3 => repeat (first | exact (Kd.R_reads' HO344.out).2.2 | (with_reducible refine Kd.C_alloc ?_ _) | (with_reducible refine Kd.C_drewN ?_ _) | (with_reducible refine Kd.C_drew ?_)))
      (case side4 => exact (Kd.R_reads' HO344.out).2.1)
      rintro e w34 ⟨rfl, hb⟩
      refine ⟨_, rfl, ?_⟩
      have n0_ := am (Kd.R_below (roS HO_339001.out) hb)
      have n1_ := am (Kd.R_below (roS HO344.out) hb)
      have n2_ := am (blk_below (bkS BK326.out) hb)
      have n3_ := am (blk_below (bkS BK338.out) hb)
      have n4_ := am (below_step (by repeat (first | (with_reducible first | exact HB.out | apply below_alloc | apply pw_below_drewN | apply below_drew1 | refine below_set ?_ (Aside0.out (by assumption))) | exact HB.out)) hb)
      clear HO_339001
      clear HO344
      clear BK326
      clear BK338
      clear HB
      have HO_339001 := n0_
      have HO344 := n1_
      have BK326 := n2_
      have BK338 := n3_
      have HB := n4_
      clear n0_ n1_ n2_ n3_ n4_
      (try clear hb)
      (try clear hb2)
      (try clear hk)
      (try clear hi)
      refine hK.out _ _ ⟨(blk_cell BK338.out 0).trans rfl, (blk_cell BK338.out 1).trans rfl, (blk_cell BK326.out 0).trans rfl, (blk_cell BK326.out 1).trans rfl⟩ (fun hHeld => ?_)
      clear hK K
      refine norm_ (a' := ?_) ?_ ?_
      rotate_left
      ·show Act.put _ (some 38) _ = _
       simp only [Act.put, List.setIfInBounds_toArray, List.set_cons_zero, List.set_cons_succ, i64_w, i32_w]
       rfl
      refine pure_ (i := 4) (N := some 39) (v := ?_) (a' := ?_) #[true, true, true, true, true] rfl rfl (by kernel_rfl) (fun _ _ _ h => h) (Or.inl ⟨by rfl, ?_⟩) ?_ ?_
      rotate_left
      ·intro w'
       go_simp
       with_reducible rfl
      rotate_left
      ·simp only [Act.put, List.setIfInBounds_toArray, List.set_cons_zero, List.set_cons_succ, i64_w, i32_w]
       rfl
      refine done_ (by kernel_rfl) ?_
      try go_wp2
      go_ret
      exact ⟨by first | rfl | (simp [errW_none, errW_some] <;> rfl) | (simp [*, errW_none, errW_some] <;> rfl), by repeat (first | (with_reducible first | exact HB.out | apply below_alloc | apply pw_below_drewN | apply below_drew1 | refine below_set ?_ (Aside0.out (by assumption))) | exact HB.out)⟩
     ·replace c30 := Bool.eq_false_iff.mpr c30
      subst c30
      have H1 : (none) = some r := by rw [if_neg (show ¬ (false = true) by decide)] at H; exact H
      clear H
      have H := H1
      clear H1
      exact absurd H (by simp)
end Go.Proofs.Ytonifgfgeollaaa.X
end
section
-- Written by a program of this session (wip/tools/mp.py) over the kit's print of the translation.
namespace Go.Proofs.Ytonifgfgeollaaa.X
open Go.RowKit Go.Proofs.YtonifgfgeollaaaW.PrintWords Go.Proofs.YtonifgfgeollaaaW.PrintLast Go.Proofs.YtonifgfgeollaaaW.PrintMore
attribute [local go_sem] max2_int min2_int max_two min_two max_three min_three max_four min_four   -- for this text's walks alone
set_option linter.unusedVariables false
set_option linter.unusedSimpArgs false
/-- The pure statement of FnExactFirstSolution. -/
def laws_FnExactFirstSolution.Pure : Prop := ∀ (a0_0 : Int) (l0_1 : List (S23)), (Lit.int .i64 a0_0).wf = true → (l0_1.length ≤ maxLen ∧ ∀ y ∈ l0_1, ((Lit.int .i64 y.f0).wf = true ∧ (Lit.int .i64 y.f1).wf = true ∧ (Lit.int .i64 y.f2).wf = true)) → ∃ k, laws_FnExactFirstSolution.f k a0_0 l0_1 = some true
end Go.Proofs.Ytonifgfgeollaaa.X
end
section
/- Small words on rounds, numbers and lists. -/
namespace Go.Proofs.Ytonifgfgeollaaa.X
open Go.Proofs.Ytonifgfgeollaaa.Sq Go.RowKit Go.Proofs.YtonifgfgeollaaaW.PrintWords Go.Proofs.YtonifgfgeollaaaW.PrintLast Go.Proofs.YtonifgfgeollaaaW.PrintMore
attribute [local go_sem] max2_int min2_int max_two min_two max_three min_three max_four min_four   -- for this text's walks alone
set_option linter.unusedVariables false
set_option linter.unusedSimpArgs false
theorem w64 {x : Int} (h : -9223372036854775808 ≤ x) (h' : x ≤ 9223372036854775807) : wrap64 x = x := by
  unfold wrap64
  omega
theorem evPos {α : Type} {c : Prop} [Decidable c] {g f : Nat → Option α} {r : α} (hc : c) (h : Ev g r) : Ev (fun k => if c then g k else f k) r := by
  obtain ⟨K, hK⟩ := h
  exact ⟨K, fun k hk => (if_pos hc).trans (hK k hk)⟩
theorem evNeg {α : Type} {c : Prop} [Decidable c] {g f : Nat → Option α} {r : α} (hc : ¬ c) (h : Ev f r) : Ev (fun k => if c then g k else f k) r := by
  obtain ⟨K, hK⟩ := h
  exact ⟨K, fun k hk => (if_neg hc).trans (hK k hk)⟩
theorem evSplit {α : Type} {c : Prop} [Decidable c] {g f : Nat → Option α} {r : α} (h : c → Ev g r) (h' : ¬ c → Ev f r) : Ev (fun k => if c then g k else f k) r := by
  by_cases hc : c
  · exact evPos hc (h hc)
  · exact evNeg hc (h' hc)
theorem evBind0 {α β : Type} {o : Option α} {f : Nat → α → Option β} {a : α} {r : β} (h : o = some a) (k : Ev (fun n => f n a) r) : Ev (fun n => o.bind (f n)) r := by
  obtain ⟨K, hK⟩ := k
  exact ⟨K, fun k hk => by rw [h]; exact hK k hk⟩
theorem evEq {α : Type} {g : Nat → Option α} {r r' : α} (h : Ev g r) (e : r = r') : Ev g r' := e ▸ h
theorem evSome {α : Type} {r r' : α} (e : r = r') : Ev (fun _ => some r) r' := ⟨0, fun _ _ => by rw [e]⟩
/-- A list that is filled place by place. -/
theorem set_mid {α : Type} (m z : List α) (i : Nat) (h : i < m.length) (hz : z.length = m.length) : (m.take i ++ z.drop i).set i (m[i]'h) = m.take (i + 1) ++ z.drop (i + 1) := by
  have h1 : (m.take i).length = i := by rw [List.length_take]; omega
  rw [List.set_append_right _ _ (by omega), h1, Nat.sub_self]
  have h2 : z.drop i = (z[i]'(by omega)) :: z.drop (i + 1) := List.drop_eq_getElem_cons (by omega)
  rw [h2, List.set_cons_zero, List.take_succ_eq_append_getElem h, List.append_assoc]
  rfl
theorem mid_len {α : Type} (m z : List α) (i : Nat) (hz : z.length = m.length) (h : i ≤ m.length) : (m.take i ++ z.drop i).length = m.length := by
  rw [List.length_append, List.length_take, List.length_drop]
  omega
theorem getD_drop_cons {α : Type} (l : List α) (i : Nat) (d : α) (h : i < l.length) : l.drop i = l.getD i d :: l.drop (i + 1) := by
  rw [List.drop_eq_getElem_cons h, List.getD_eq_getElem?_getD, List.getElem?_eq_getElem h]
  rfl
theorem getD_map' {α β : Type} (l : List α) (f : α → β) (i : Nat) (d : α) (e : β) (h : i < l.length) : (l.map f).getD i e = f (l.getD i d) := by
  rw [List.getD_eq_getElem?_getD, List.getD_eq_getElem?_getD, List.getElem?_map, List.getElem?_eq_getElem h]
  rfl
theorem getElem_getD {α : Type} (l : List α) (i : Nat) (d : α) (h : i < l.length) : l[i]'h = l.getD i d := by
  rw [List.getD_eq_getElem?_getD, List.getElem?_eq_getElem h]
  rfl
theorem getD_range_map {α : Type} (f : Nat → α) (n i : Nat) (d : α) (h : i < n) : ((List.range n).map f).getD i d = f i := by
  rw [List.getD_eq_getElem?_getD, List.getElem?_map, List.getElem?_range h]
  rfl
end Go.Proofs.Ytonifgfgeollaaa.X
end
section
/- Lists of clues: turned, compared, marked and looked at as the laws do. -/
--! needs LBase laws_toClueS laws_eqClueS laws_szPuzzle
namespace Go.Proofs.Ytonifgfgeollaaa.X
open Go.Proofs.Ytonifgfgeollaaa.Sq Go.RowKit Go.Proofs.YtonifgfgeollaaaW.PrintWords Go.Proofs.YtonifgfgeollaaaW.PrintLast Go.Proofs.YtonifgfgeollaaaW.PrintMore
attribute [local go_sem] max2_int min2_int max_two min_two max_three min_three max_four min_four   -- for this text's walks alone
set_option linter.unusedVariables false
set_option linter.unusedSimpArgs false
def cvClue (x : S23) : S25 := ⟨x.f0, x.f1, x.f2⟩
theorem toClueS_l0 (l : List S23) (hl : l.length ≤ 1048576) (z : List S25) (hz : z.length = l.length) (d : Nat) : ∀ i : Nat, i + d = l.length →
    Ev (fun k => laws_toClueS.l0 k l ((l.map cvClue).take i ++ z.drop i) (i : Int)) (l.map cvClue) := by
  induction d with
  | zero =>
    intro i hi
    refine Ev.step (fun k => by rw [laws_toClueS.l0]) ?_
    refine evNeg (by omega) (evSome ?_)
    rw [List.take_of_length_le (by simp; omega), List.drop_of_length_le (by omega), List.append_nil]
  | succ d ih =>
    intro i hi
    refine Ev.step (fun k => by rw [laws_toClueS.l0]) ?_
    refine evPos (by omega) (evPos (by omega) ?_)
    unfold laws_toClue.f
    refine evBind0 rfl ?_
    refine evPos (by rw [mid_len _ _ _ (by simp; omega) (by simp; omega)]; simp; omega) ?_
    have h1 := set_mid (l.map cvClue) z i (by simp; omega) (by simp; omega)
    rw [w64 (by omega) (by omega)]
    have h2 := ih (i + 1) (by omega)
    rw [← h1] at h2
    have h3 : (l.map cvClue)[i]'(by simp; omega) = ⟨(rd_T23 l i).f0, (rd_T23 l i).f1, (rd_T23 l i).f2⟩ := by
      rw [List.getElem_map, getElem_getD l i z23 (by omega)]; rfl
    rw [h3] at h2
    exact h2
theorem toClueS_ev (l : List S23) (hl : l.length ≤ 1048576) : Ev (fun k => laws_toClueS.f k l) (l.map cvClue) := by
  unfold laws_toClueS.f
  refine evPos (by omega) (evPos (by omega) ?_)
  have h := toClueS_l0 l hl (List.replicate ((l.length : Int) : Int).toNat z25) (by simp) l.length 0 (by omega)
  simpa using h
theorem toPuzzle_ev (p : Int) (l : List S23) (hl : l.length ≤ 1048576) : Ev (fun k => laws_toPuzzle.f k p l) (p, l.map cvClue) := by
  unfold laws_toPuzzle.f
  exact Ev.bind (toClueS_ev l hl) (evSome rfl)
theorem szPuzzle_eq (p : Int) (l : List S23) (hl : l.length ≤ maxLen) : laws_szPuzzle.f p l 1048576 = some (if 1048576 < l.length then -1 else 1048576 - (l.length : Int)) := by
  unfold maxLen at hl
  unfold laws_szPuzzle.f laws_szClueS.f
  rw [w64 (by omega) (by omega)]
  by_cases h : 1048576 < l.length
  · rw [if_pos (by omega), if_pos h]; rfl
  · rw [if_neg (by omega), if_neg h]
    show (if (1048576 - (l.length : Int)) < 0 then _ else _) = _
    rw [if_neg (by omega)]
theorem eqClue_eq (a b : S25) : laws_eqClue.f a.f0 a.f1 a.f2 b.f0 b.f1 b.f2 = some (decide (a.f0 = b.f0 ∧ a.f1 = b.f1 ∧ a.f2 = b.f2)) := by
  unfold laws_eqClue.f
  by_cases h0 : a.f0 = b.f0 <;> by_cases h1 : a.f1 = b.f1 <;> by_cases h2 : a.f2 = b.f2 <;> simp [h0, h1, h2]
theorem eqClueS_l0 (l : List S25) (hl : l.length ≤ 9223372036854775800) (d : Nat) : ∀ i : Nat, i + d = l.length → Ev (fun k => laws_eqClueS.l0 k l l (i : Int)) true := by
  induction d with
  | zero =>
    intro i hi
    refine Ev.step (fun k => by rw [laws_eqClueS.l0]) ?_
    exact evNeg (by omega) (evSome rfl)
  | succ d ih =>
    intro i hi
    refine Ev.step (fun k => by rw [laws_eqClueS.l0]) ?_
    refine evPos (by omega) (evPos (by omega) (evPos (by omega) ?_))
    refine evBind0 (eqClue_eq _ _) ?_
    refine evPos (by simp) ?_
    rw [w64 (by omega) (by omega)]
    exact ih (i + 1) (by omega)
theorem eqClueS_self (l : List S25) (hl : l.length ≤ 9223372036854775800) : Ev (fun k => laws_eqClueS.f k l l) true := by
  unfold laws_eqClueS.f
  exact evPos rfl (eqClueS_l0 l hl l.length 0 (by omega))
theorem eqPuzzle_self (p : Int) (l : List S25) (hl : l.length ≤ 9223372036854775800) : Ev (fun k => laws_eqPuzzle.f k p l p l) true := by
  unfold laws_eqPuzzle.f
  exact evPos rfl (Ev.bind (eqClueS_self l hl) (evPos rfl (evSome rfl)))
end Go.Proofs.Ytonifgfgeollaaa.X
end
section
/- What makes a clue, in plain Lean: the program's and the reference's test come to the same. -/
--! needs impl_within spec_l1In impl_IsClue spec_pzClue spec_pzPlaces impl_arePlacesOf
namespace Go.Proofs.Ytonifgfgeollaaa.X
open Go.Proofs.Ytonifgfgeollaaa.Sq Go.RowKit Go.Proofs.YtonifgfgeollaaaW.PrintWords Go.Proofs.YtonifgfgeollaaaW.PrintLast Go.Proofs.YtonifgfgeollaaaW.PrintMore
attribute [local go_sem] max2_int min2_int max_two min_two max_three min_three max_four min_four   -- for this text's walks alone
set_option linter.unusedVariables false
set_option linter.unusedSimpArgs false
def inB (a l h : Int) : Bool := decide (l ≤ a) && decide (a ≤ h)
theorem within_eq (a l h : Int) : impl_within.f a l h = some (inB a l h) := by
  unfold impl_within.f inB
  by_cases c : l ≤ a <;> simp [c]
theorem l1In_eq (a l h : Int) : spec_l1In.f a l h = some (inB a l h) := by
  unfold spec_l1In.f inB
  by_cases c : l ≤ a
  · rw [if_pos (by omega)]; simp [c]
  · rw [if_neg (by omega)]; simp [c]
def clueB (p k a b : Int) : Bool :=
  if k = 0 ∨ k = 5 then decide (a = 0) && inB b 0 p else if k = 1 then inB a 1 p && inB b 0 1 else if k = 2 then inB a 1 9 && inB b 0 9 else if k = 3 then decide (a = 0) && inB b 1 9 else if k = 4 then inB a 1 9 && inB b 0 256 else false
theorem pzPlaces_eq (p : Int) : spec_pzPlaces.f p = some (inB p 1 8) := by
  unfold spec_pzPlaces.f
  rw [l1In_eq]; rfl
theorem arePlacesOf_eq (p : Int) : impl_arePlacesOf.f p = some (inB p 1 8) := by
  unfold impl_arePlacesOf.f
  rw [within_eq]; rfl
theorem pzClue_eq (n : Nat) (p k a b : Int) : spec_pzClue.f (n + 1) p k a b = some (clueB p k a b) := by
  unfold spec_pzClue.f clueB
  simp only [spec_pzClue.j0, l1In_eq, Option.bind_some]
  by_cases h0 : k = 0
  · subst h0; by_cases ha : a = 0 <;> simp [ha]
  · by_cases h5 : k = 5
    · subst h5; by_cases ha : a = 0 <;> simp [ha]
    · simp only [h0, h5, if_false, or_false, beq_iff_eq]
      by_cases h1 : k = 1
      · simp only [h1, if_true]; cases inB a 1 p <;> simp
      · by_cases h2 : k = 2
        · subst h2; cases h : inB a 1 9 <;> simp
        · by_cases h3 : k = 3
          · subst h3; by_cases ha : a = 0 <;> simp [ha]
          · by_cases h4 : k = 4
            · subst h4; cases h : inB a 1 9 <;> simp
            · simp [h1, h2, h3, h4]
theorem IsClue_impl (n : Nat) (p k a b : Int) : impl_IsClue.f (n + 1) p k a b = some (inB p 1 8 && clueB p k a b) := by
  unfold impl_IsClue.f clueB
  rw [arePlacesOf_eq]
  cases inB p 1 8
  · simp
  simp only [impl_IsClue.j0, within_eq, Option.bind_some, if_true, Bool.true_and]
  by_cases h0 : k = 0
  · subst h0; by_cases ha : a = 0 <;> simp [ha]
  · by_cases h5 : k = 5
    · subst h5; by_cases ha : a = 0 <;> simp [ha]
    · simp only [h0, h5, if_false, or_false, beq_iff_eq]
      by_cases h1 : k = 1
      · simp only [h1, if_true]; cases inB a 1 p <;> simp
      · by_cases h2 : k = 2
        · subst h2; cases h : inB a 1 9 <;> simp
        · by_cases h3 : k = 3
          · subst h3; by_cases ha : a = 0 <;> simp [ha]
          · by_cases h4 : k = 4
            · subst h4; cases h : inB a 1 9 <;> simp
            · simp [h1, h2, h3, h4]
end Go.Proofs.Ytonifgfgeollaaa.X
end
section
/- What makes a puzzle: the program's and the reference's test come to the same. -/
--! needs LBase LPzClue spec_pzGood impl_IsPuzzle_1 impl_IsPuzzle
namespace Go.Proofs.Ytonifgfgeollaaa.X
open Go.Proofs.Ytonifgfgeollaaa.Sq Go.RowKit Go.Proofs.YtonifgfgeollaaaW.PrintWords Go.Proofs.YtonifgfgeollaaaW.PrintLast Go.Proofs.YtonifgfgeollaaaW.PrintMore
attribute [local go_sem] max2_int min2_int max_two min_two max_three min_three max_four min_four   -- for this text's walks alone
set_option linter.unusedVariables false
set_option linter.unusedSimpArgs false
def okClue (p : Int) (c : S25) : Bool := clueB p c.f0 c.f1 c.f2
def goodB (p : Int) (l : List S25) : Bool := inB p 1 8 && decide (l.length ≤ 6) && l.all (okClue p)
theorem pzGood_l0 (p : Int) (l : List S25) (hl : l.length ≤ 6) (d : Nat) : ∀ i : Nat, i + d = l.length → Ev (fun k => spec_pzGood.l0 k l (l.length : Int) (i : Int) p l) ((l.drop i).all (okClue p)) := by
  induction d with
  | zero =>
    intro i hi
    refine Ev.step (fun k => by rw [spec_pzGood.l0]) ?_
    refine evNeg (by omega) (evSome ?_)
    rw [List.drop_of_length_le (by omega)]; rfl
  | succ d ih =>
    intro i hi
    refine Ev.step (fun k => by rw [spec_pzGood.l0]) ?_
    refine evPos (by omega) (evPos (by omega) (evPos (by omega) ?_))
    refine Ev.bind (a := okClue p (rd_T25 l i)) ⟨1, fun k hk => by obtain ⟨m, rfl⟩ : ∃ m, k = m + 1 := ⟨k - 1, by omega⟩; exact pzClue_eq m _ _ _ _⟩ ?_
    have hd : l.drop i = rd_T25 l i :: l.drop (i + 1) := getD_drop_cons l i z25 (by omega)
    cases hb : okClue p (rd_T25 l i) with
    | true =>
      refine evPos rfl ?_
      rw [w64 (by omega) (by omega)]
      refine evEq (ih (i + 1) (by omega)) ?_
      rw [hd, List.all_cons, hb]; rfl
    | false =>
      refine evNeg (by simp) (evSome ?_)
      rw [hd, List.all_cons, hb]; rfl
theorem pzGood_ev (p : Int) (l : List S25) : Ev (fun k => spec_pzGood.f k p l) (goodB p l) := by
  unfold spec_pzGood.f goodB
  refine evBind0 (pzPlaces_eq p) ?_
  cases hp : inB p 1 8 with
  | false =>
    refine evNeg (by simp) ?_
    refine Ev.step (fun k => by rw [spec_pzGood.j0]) ?_
    exact evPos rfl (evSome rfl)
  | true =>
    refine evPos rfl ?_
    refine Ev.step (fun k => by rw [spec_pzGood.j0]) ?_
    by_cases h : l.length ≤ 6
    · refine evNeg (by simp; omega) ?_
      refine evEq (pzGood_l0 p l h l.length 0 (by omega)) ?_
      simp [h]
    · refine evPos (by simp; omega) (evSome ?_)
      simp [h]
theorem IsPuzzle_1_ev (p : Int) (l : List S25) (c : S25) (hp : inB p 1 8 = true) : Ev (fun k => impl_IsPuzzle_1.f k c.f0 c.f1 c.f2 p l) (!okClue p c) := by
  unfold impl_IsPuzzle_1.f
  refine Ev.bind (a := okClue p c) ⟨1, fun k hk => by obtain ⟨m, rfl⟩ : ∃ m, k = m + 1 := ⟨k - 1, by omega⟩; show impl_IsClue.f (m + 1) p c.f0 c.f1 c.f2 = _; rw [IsClue_impl m, hp]; rfl⟩ (evSome rfl)
theorem IndexIsPuzzle_l0 (p : Int) (q l : List S25) (hp : inB p 1 8 = true) (hl : l.length ≤ 6) (d : Nat) : ∀ i : Nat, i + d = l.length →
    ∃ r, Ev (fun k => slices_IndexFunc_Clue__IsPuzzle_1.l0 k l (l.length : Int) (i : Int) p q) r ∧ (decide (r ≥ 0) = !(l.drop i).all (okClue p)) := by
  induction d with
  | zero =>
    intro i hi
    refine ⟨-1, ?_, ?_⟩
    · refine Ev.step (fun k => by rw [slices_IndexFunc_Clue__IsPuzzle_1.l0]) ?_
      exact evNeg (by omega) (evSome rfl)
    · rw [List.drop_of_length_le (by omega)]; rfl
  | succ d ih =>
    intro i hi
    have hd : l.drop i = rd_T25 l i :: l.drop (i + 1) := getD_drop_cons l i z25 (by omega)
    have h1 := IsPuzzle_1_ev p q (rd_T25 l i) hp
    cases hb : okClue p (rd_T25 l i) with
    | true =>
      obtain ⟨r, hr, hr2⟩ := ih (i + 1) (by omega)
      rw [hb] at h1
      refine ⟨r, ?_, ?_⟩
      · refine Ev.step (fun k => by rw [slices_IndexFunc_Clue__IsPuzzle_1.l0]) ?_
        refine evPos (by omega) (evPos (by omega) (evPos (by omega) ?_))
        refine Ev.bind h1 ?_
        refine evNeg (by simp) ?_
        rw [w64 (by omega) (by omega)]
        exact hr
      · rw [hr2, hd, List.all_cons, hb]; rfl
    | false =>
      rw [hb] at h1
      refine ⟨(i : Int), ?_, ?_⟩
      · refine Ev.step (fun k => by rw [slices_IndexFunc_Clue__IsPuzzle_1.l0]) ?_
        refine evPos (by omega) (evPos (by omega) (evPos (by omega) ?_))
        refine Ev.bind h1 ?_
        exact evPos (by simp) (evSome rfl)
      · rw [hd, List.all_cons, hb]
        simp
theorem IsPuzzle_impl (p : Int) (l : List S25) : Ev (fun k => impl_IsPuzzle.f k p l) (goodB p l) := by
  unfold impl_IsPuzzle.f goodB
  refine evBind0 (arePlacesOf_eq p) ?_
  cases hp : inB p 1 8 with
  | false => exact evNeg (by simp) (evSome rfl)
  | true =>
    refine evPos rfl ?_
    by_cases h : l.length ≤ 6
    · refine evPos (by omega) ?_
      obtain ⟨r, hr, hr2⟩ := IndexIsPuzzle_l0 p l l hp h l.length 0 (by omega)
      unfold slices_ContainsFunc_Clue__IsPuzzle_1.f slices_IndexFunc_Clue__IsPuzzle_1.f
      refine Ev.bind (Ev.bind hr (evSome rfl)) (evSome ?_)
      rw [hr2]
      simp [h]
    · refine evNeg (by omega) (evSome ?_)
      simp [h]
end Go.Proofs.Ytonifgfgeollaaa.X
end
section
/- The places on which one stands, and the greatest gap: the program and the reference. -/
--! needs LBase spec_rvStand spec_rvGap impl_stand impl_longestGap
namespace Go.Proofs.Ytonifgfgeollaaa.X
open Go.Proofs.Ytonifgfgeollaaa.Sq Go.RowKit Go.Proofs.YtonifgfgeollaaaW.PrintWords Go.Proofs.YtonifgfgeollaaaW.PrintLast Go.Proofs.YtonifgfgeollaaaW.PrintMore
attribute [local go_sem] max2_int min2_int max_two min_two max_three min_three max_four min_four   -- for this text's walks alone
set_option linter.unusedVariables false
set_option linter.unusedSimpArgs false
def pl (r : ByteArray) (p : Nat) : Bool := decide (p = 0) || decide (p = r.size + 1) || (bt r ((p : Int) - 1) == 111)
def ints (l : List Nat) : List Int := l.map (fun (x : Nat) => (x : Int))
def stL (r : ByteArray) : List Nat := (List.range (r.size + 2)).filter (pl r)
theorem rvStand_eq (r : ByteArray) (hr : r.size ≤ 100) (p : Nat) (hp : p ≤ r.size + 1) : spec_rvStand.f r (p : Int) = some (pl r p) := by
  unfold spec_rvStand.f pl
  rw [w64 (x := (r.size : Int) + 1) (by omega) (by omega), w64 (x := (p : Int) - 1) (by omega) (by omega)]
  by_cases h0 : p = 0
  · subst h0
    rw [if_pos (show ((0 : Nat) : Int) = 0 from rfl)]
    simp
  rw [if_neg (by omega)]
  by_cases h1 : p = r.size + 1
  · rw [if_pos (by omega)]
    simp [h1]
  rw [if_neg (by omega), if_pos (by omega), if_pos (by omega)]
  simp [h0, h1]
theorem stand_l0 (r : ByteArray) (hr : r.size ≤ 100) (d : Nat) : ∀ i : Nat, i + d = r.size → Ev (fun k => impl_stand.l0 k r (ints ((List.range (i + 1)).filter (pl r))) (r.size : Int) (i : Int)) (ints (stL r)) := by
  have hlen : ∀ i : Nat, i ≤ r.size → (ints ((List.range (i + 1)).filter (pl r))).length < 17592186044416 := fun i hi => by
    unfold ints
    rw [List.length_map]
    have := List.length_filter_le (pl r) (List.range (i + 1))
    rw [List.length_range] at this
    omega
  induction d with
  | zero =>
    intro i hi
    obtain rfl : i = r.size := by omega
    refine Ev.step (fun k => by rw [impl_stand.l0]) ?_
    refine evNeg (by omega) (evPos (hlen _ (Nat.le_refl _)) (evSome ?_))
    rw [w64 (by omega) (by omega)]
    unfold stL
    rw [List.range_succ (n := r.size + 1), List.filter_append]
    have : pl r (r.size + 1) = true := by simp [pl]
    simp [ints, this]
  | succ d ih =>
    intro i hi
    refine Ev.step (fun k => by rw [impl_stand.l0]) ?_
    refine evPos (by omega) (evPos (by omega) (evPos (by omega) ?_))
    have h2 := ih (i + 1) (by omega)
    have hp : pl r (i + 1) = (bt r (i : Int) == 111) := by
      unfold pl
      have e : ((i + 1 : Nat) : Int) - 1 = (i : Int) := by omega
      rw [e]
      simp
      omega
    rw [List.range_succ (n := i + 1), List.filter_append] at h2
    rw [w64 (x := (i : Int) + 1) (by omega) (by omega)]
    refine evSplit (fun hb => ?_) (fun hb => ?_)
    · refine evPos (hlen _ (by omega)) ?_
      have : pl r (i + 1) = true := by rw [hp, hb]; rfl
      simpa [ints, this] using h2
    · have : pl r (i + 1) = false := by rw [hp]; simpa using hb
      simpa [ints, this] using h2
theorem stand_ev (r : ByteArray) (hr : r.size ≤ 100) : Ev (fun k => impl_stand.f k r) (ints (stL r)) := by
  unfold impl_stand.f
  have h := stand_l0 r hr r.size 0 (by omega)
  have : (ints ((List.range (0 + 1)).filter (pl r))) = [0] := by
    have : pl r 0 = true := by simp [pl]
    simp [ints, List.range_succ, this]
  rw [this] at h
  simpa using h
theorem stL_cons (r : ByteArray) : stL r = 0 :: (List.range' 1 (r.size + 1)).filter (pl r) := by
  unfold stL
  rw [List.range_eq_range', show r.size + 2 = (r.size + 1) + 1 by omega, List.range'_succ]
  have : pl r 0 = true := by simp [pl]
  simp [this]
theorem stL_le (r : ByteArray) (x : Nat) (h : x ∈ stL r) : x ≤ r.size + 1 := by
  unfold stL at h
  have := List.mem_range.1 (List.mem_filter.1 h).1
  omega
/-- The greatest gap of places, and where it begins. -/
def gapOf (m f : Int) (l : Nat) : List Nat → Int × Int
 | [] => (m, f)
 | p :: t => if (p : Int) - (l : Int) > m then gapOf ((p : Int) - (l : Int)) (l : Int) p t else gapOf m f p t
theorem rvGap_l0 (r : ByteArray) (hr : r.size ≤ 100) (d : Nat) : ∀ (p l : Nat) (m f : Int), p + d = r.size + 2 → l ≤ 101 → Ev (fun k => spec_rvGap.l0 k r m f (l : Int) (p : Int)) (gapOf m f l ((List.range' p d).filter (pl r))) := by
  induction d with
  | zero =>
    intro p l m f hp hl
    refine Ev.step (fun k => by rw [spec_rvGap.l0]) ?_
    rw [w64 (x := (r.size : Int) + 1) (by omega) (by omega)]
    exact evNeg (by omega) (evSome rfl)
  | succ d ih =>
    intro p l m f hp hl
    refine Ev.step (fun k => by rw [spec_rvGap.l0]) ?_
    rw [w64 (x := (r.size : Int) + 1) (by omega) (by omega), w64 (x := (p : Int) + 1) (by omega) (by omega), w64 (x := (p : Int) - (l : Int)) (by omega) (by omega)]
    refine evPos (by omega) (evBind0 (rvStand_eq r hr p (by omega)) ?_)
    rw [List.range'_succ]
    cases hs : pl r p with
    | true =>
      rw [List.filter_cons_of_pos hs]
      refine evPos rfl ?_
      unfold gapOf
      by_cases hg : (p : Int) - (l : Int) > m
      · rw [if_pos hg]
        exact evPos hg (ih (p + 1) p _ _ (by omega) (by omega))
      · rw [if_neg hg]
        exact evNeg hg (ih (p + 1) p _ _ (by omega) (by omega))
    | false =>
      rw [List.filter_cons_of_neg (by simp [hs])]
      exact evNeg (by simp) (ih (p + 1) l _ _ (by omega) hl)
theorem rvGap_ev (r : ByteArray) (hr : r.size ≤ 100) : Ev (fun k => spec_rvGap.f k r) (gapOf 0 0 0 ((List.range' 1 (r.size + 1)).filter (pl r))) := by
  unfold spec_rvGap.f
  exact rvGap_l0 r hr (r.size + 1) 1 0 0 0 (by omega) (by omega)
theorem rd_ints (L : List Nat) (i : Nat) (h : i < L.length) : rd (ints L) (i : Int) = ((L.getD i 0 : Nat) : Int) := by
  unfold rd ints
  rw [Int.toNat_natCast]
  exact getD_map' L _ i 0 0 h
theorem longestGap_l0 (L : List Nat) (hL : ∀ x ∈ L, x ≤ 101) (hlen : L.length ≤ 1000) (d : Nat) : ∀ (i : Nat) (m f : Int), i + 1 + d = L.length → Ev (fun k => impl_longestGap.l0 k (ints L) m f ((i + 1 : Nat) : Int)) (gapOf m f (L.getD i 0) (L.drop (i + 1))) := by
  have hl : (ints L).length = L.length := by simp [ints]
  have hle : ∀ i, i < L.length → L.getD i 0 ≤ 101 := fun i hi => by
    rw [← getElem_getD L i 0 hi]
    exact hL _ (List.getElem_mem hi)
  induction d with
  | zero =>
    intro i m f hi
    refine Ev.step (fun k => by rw [impl_longestGap.l0]) ?_
    refine evNeg (by rw [hl]; omega) (evSome ?_)
    rw [List.drop_of_length_le (by omega)]
    rfl
  | succ d ih =>
    intro i m f hi
    refine Ev.step (fun k => by rw [impl_longestGap.l0]) ?_
    have h1 := hle i (by omega)
    have h2 := hle (i + 1) (by omega)
    have e1 : wrap64 (((i + 1 : Nat) : Int) - 1) = (i : Int) := by rw [w64 (by omega) (by omega)]; omega
    have e2 : wrap64 (((i + 1 : Nat) : Int) + 1) = ((i + 1 + 1 : Nat) : Int) := by rw [w64 (by omega) (by omega)]; omega
    rw [e1, e2, rd_ints L (i + 1) (by omega), rd_ints L i (by omega)]
    have e3 : wrap64 (((L.getD (i + 1) 0 : Nat) : Int) - ((L.getD i 0 : Nat) : Int)) = ((L.getD (i + 1) 0 : Nat) : Int) - ((L.getD i 0 : Nat) : Int) := w64 (by omega) (by omega)
    rw [e3]
    refine evPos (by rw [hl]; omega) (evPos (by omega) (evPos (by omega) (evPos (by rw [hl]; omega) ?_)))
    rw [getD_drop_cons L (i + 1) 0 (by omega)]
    unfold gapOf
    by_cases hg : ((L.getD (i + 1) 0 : Nat) : Int) - ((L.getD i 0 : Nat) : Int) > m
    · rw [if_pos hg]
      exact evPos hg (ih (i + 1) _ _ (by omega))
    · rw [if_neg hg]
      exact evNeg hg (ih (i + 1) _ _ (by omega))
theorem longestGap_ev (r : ByteArray) (hr : r.size ≤ 100) : Ev (fun k => impl_longestGap.f k r) (gapOf 0 0 0 ((List.range' 1 (r.size + 1)).filter (pl r))) := by
  unfold impl_longestGap.f
  refine Ev.bind (stand_ev r hr) ?_
  have hc := stL_cons r
  have hlen : (stL r).length ≤ 102 := by
    unfold stL
    have := List.length_filter_le (pl r) (List.range (r.size + 2))
    rw [List.length_range] at this
    omega
  have h := longestGap_l0 (stL r) (fun x hx => by have := stL_le r x hx; omega) (by omega) ((stL r).length - 1) 0 0 0 (by rw [hc]; simp; omega)
  rw [hc] at h
  rw [hc]
  exact h
end Go.Proofs.Ytonifgfgeollaaa.X
end
section
/- How many crossings there are by leaps: the program and the reference. -/
--! needs LBase LGap spec_rvStand spec_l1Most spec_l1Least spec_rvCount impl_stand impl_countBy impl_sum spec_pzValue
namespace Go.Proofs.Ytonifgfgeollaaa.X
open Go.Proofs.Ytonifgfgeollaaa.Sq Go.RowKit Go.Proofs.YtonifgfgeollaaaW.PrintWords Go.Proofs.YtonifgfgeollaaaW.PrintLast Go.Proofs.YtonifgfgeollaaaW.PrintMore
attribute [local go_sem] max2_int min2_int max_two min_two max_three min_three max_four min_four   -- for this text's walks alone
set_option linter.unusedVariables false
set_option linter.unusedSimpArgs false
def adF (f g : Nat → Int) : Nat → Int
 | 0 => f 0
 | k + 1 => mn (wrap64 (f (k + 1) + g k)) 1000000000000001
def adP (f g : Nat → Int) (j : Nat) : Nat → Int := fun i => if 1 ≤ i ∧ i ≤ j then adF f g i else f i
def rowOf (W : Nat) (f : Nat → Int) : List Int := (List.range W).map f
def upd (G : Nat → Nat → Int) (p : Nat) (f : Nat → Int) : Nat → Nat → Int := fun q => if q = p then f else G q
/-- N rows of width W, those from b on not made yet. -/
def RB (W N b : Nat) (G : Nat → Nat → Int) : List (List Int) := (List.range N).map fun q => if q < b then rowOf W (G q) else []
theorem adP_zero (f g : Nat → Int) : adP f g 0 = f := by
  funext i
  unfold adP
  rw [if_neg (by omega)]
theorem adP_next (f g : Nat → Int) (j : Nat) : adP f g j (j + 1) = f (j + 1) := by
  unfold adP
  rw [if_neg (by omega)]
theorem rowOf_len (W : Nat) (f : Nat → Int) : (rowOf W f).length = W := by simp [rowOf]
theorem rd_rowOf (W : Nat) (f : Nat → Int) (i : Nat) (h : i < W) : rd (rowOf W f) (i : Int) = f i := by
  unfold rd rowOf
  rw [Int.toNat_natCast]
  exact getD_range_map f W i 0 h
theorem rowOf_congr (W : Nat) (f g : Nat → Int) (h : ∀ i, i < W → f i = g i) : rowOf W f = rowOf W g := by
  unfold rowOf
  exact List.map_congr_left (fun i hi => h i (List.mem_range.1 hi))
theorem rowOf_full (W : Nat) (f g : Nat → Int) : rowOf (W + 1) (adP f g W) = rowOf (W + 1) (adF f g) := by
  refine rowOf_congr _ _ _ (fun i hi => ?_)
  unfold adP
  split
  · rfl
  · obtain rfl : i = 0 := by omega
    rfl
theorem map_range_set {α : Type} (f g : Nat → α) (N p : Nat) (h : ∀ q, q < N → q ≠ p → f q = g q) : ((List.range N).map f).set p (g p) = (List.range N).map g := by
  apply List.ext_getElem
  · simp
  · intro i h1 h2
    have hi : i < N := by simpa using h2
    rw [List.getElem_set]
    split
    · rename_i e; subst e; simp
    · rename_i e
      simp only [List.getElem_map, List.getElem_range]
      exact h i hi (fun e' => e e'.symm)
theorem rowOf_set (W : Nat) (f g : Nat → Int) (j : Nat) : (rowOf W (adP f g j)).set (j + 1) (adF f g (j + 1)) = rowOf W (adP f g (j + 1)) := by
  have h := map_range_set (adP f g j) (adP f g (j + 1)) W (j + 1) (fun q _ hq => by
    unfold adP
    by_cases h : 1 ≤ q ∧ q ≤ j
    · rw [if_pos h, if_pos (by omega)]
    · rw [if_neg h, if_neg (by omega)])
  have e : adP f g (j + 1) (j + 1) = adF f g (j + 1) := by unfold adP; rw [if_pos (by omega)]
  rw [e] at h
  exact h
theorem rowOf_take (W V : Nat) (f : Nat → Int) (h : V ≤ W) : (rowOf W f).take V = rowOf V f := by
  unfold rowOf
  rw [← List.map_take, List.take_range, Nat.min_eq_left h]
theorem RB_len (W N b : Nat) (G : Nat → Nat → Int) : (RB W N b G).length = N := by simp [RB]
theorem RB_get (W N b : Nat) (G : Nat → Nat → Int) (p : Nat) (h : p < b) (hN : p < N) : rd_L3 (RB W N b G) (p : Int) = rowOf W (G p) := by
  unfold rd_L3 RB
  rw [Int.toNat_natCast, getD_range_map _ _ _ _ hN, if_pos h]
theorem RB_set (W N b : Nat) (G : Nat → Nat → Int) (p : Nat) (f : Nat → Int) (h : p < b) : (RB W N b G).set p (rowOf W f) = RB W N b (upd G p f) := by
  have h2 := map_range_set (fun q => if q < b then rowOf W (G q) else []) (fun q => if q < b then rowOf W (upd G p f q) else []) N p (fun q _ hq => by
    show (if q < b then rowOf W (G q) else []) = if q < b then rowOf W (upd G p f q) else []
    unfold upd
    rw [if_neg hq])
  have e : (if p < b then rowOf W (upd G p f p) else []) = rowOf W f := by
    rw [if_pos h]
    unfold upd
    rw [if_pos rfl]
  rw [e] at h2
  exact h2
theorem upd_upd (G : Nat → Nat → Int) (p : Nat) (f g : Nat → Int) : upd (upd G p f) p g = upd G p g := by
  funext q
  unfold upd
  split <;> rfl
theorem upd_at (G : Nat → Nat → Int) (p : Nat) (f : Nat → Int) : upd G p f p = f := by
  unfold upd
  rw [if_pos rfl]
theorem upd_ne (G : Nat → Nat → Int) (p q : Nat) (f : Nat → Int) (h : q ≠ p) : upd G p f q = G q := by
  unfold upd
  rw [if_neg h]
theorem upd_self (G : Nat → Nat → Int) (p : Nat) : upd G p (G p) = G := by
  funext q
  unfold upd
  split
  · rename_i h; rw [h]
  · rfl
theorem RB_row_congr (W N b : Nat) (G : Nat → Nat → Int) (p : Nat) (f g : Nat → Int) (h : rowOf W f = rowOf W g) : RB W N b (upd G p f) = RB W N b (upd G p g) := by
  unfold RB
  refine List.map_congr_left (fun q _ => ?_)
  show (if q < b then rowOf W (upd G p f q) else []) = if q < b then rowOf W (upd G p g q) else []
  unfold upd
  split
  · split
    · exact h
    · rfl
  · rfl
def accF (G : Nat → Nat → Int) (f : Nat → Int) : Nat → Nat → Nat → Int
 | _, 0 => f
 | b, e + 1 => accF G (adF f (G b)) (b + 1) e
def loP (a : Int) (p : Nat) : Nat := (mx 0 ((p : Int) - a)).toNat
def stepG (a : Int) (G : Nat → Nat → Int) (p : Nat) : Nat → Nat → Int := upd G p (accF G (G p) (loP a p) (p - loP a p))
theorem loP_le (a : Int) (p : Nat) (ha : 0 ≤ a) : loP a p ≤ p ∧ ((loP a p : Nat) : Int) = mx 0 ((p : Int) - a) := by
  unfold loP mx
  split <;> omega
theorem i1 (x : Nat) (h : x ≤ 1000) : wrap64 ((x : Int) + 1) = ((x + 1 : Nat) : Int) := (w64 (by omega) (by omega)).trans (by omega)
theorem mn_lit (x y : Int) : (if x < y then x else y) = mn x y := by unfold mn; split <;> split <;> omega
theorem least_eq (x y : Int) : spec_l1Least.f x y = some (mn x y) := by
  unfold spec_l1Least.f
  rw [← mn_lit]
  split <;> rfl
theorem most_eq (x y : Int) : spec_l1Most.f x y = some (mx x y) := by
  unfold spec_l1Most.f mx
  split <;> split <;> first | rfl | (congr 1; omega)
theorem cb_l3 (a x5 : Int) (N : Nat) (G : Nat → Nat → Int) (nx fr : Nat) (hnx : nx < N) (f g : Nat → Int) (L : List Int) (m x : Int) (res : List Int) (e : Nat) : ∀ j : Nat, j + e = 41 →
    Ev (fun k => impl_countBy.l2 k a x5 (RB 42 N N (upd G nx (adF f g))) (nx : Int) (wrap64 ((fr : Int) + 1)) L m x) res →
    Ev (fun k => impl_countBy.l3 k a x5 (RB 42 N N (upd G nx (adP f g j))) (nx : Int) (fr : Int) L m x (rowOf 41 g) 41 (j : Int)) res := by
  induction e with
  | zero =>
    intro j hj h
    obtain rfl : j = 41 := by omega
    refine Ev.step (fun k => by rw [impl_countBy.l3]) ?_
    refine evNeg (by omega) ?_
    rw [RB_row_congr 42 N N G nx _ _ (rowOf_full 41 f g)]
    exact h
  | succ e ih =>
    intro j hj h
    have h2 := ih (j + 1) (by omega) h
    refine Ev.step (fun k => by rw [impl_countBy.l3]) ?_
    rw [i1 j (by omega), Int.toNat_natCast, Int.toNat_natCast, RB_get 42 N N _ nx hnx hnx, upd_at, rd_rowOf 42 _ (j + 1) (by omega), rd_rowOf 41 g j (by omega), adP_next]
    refine evPos (by omega) (evPos (by omega) (evPos (by rw [rowOf_len]; omega) (evPos (by omega) (evPos (by rw [RB_len]; omega) (evPos (by omega) (evPos (by rw [rowOf_len]; omega) ?_))))))
    have e1 : (rowOf 42 (adP f g j)).set (j + 1) (mn (wrap64 (f (j + 1) + g j)) 1000000000000001) = rowOf 42 (adP f g (j + 1)) := rowOf_set 42 f g j
    rw [e1, RB_set 42 N N _ nx _ hnx, upd_upd]
    exact h2
theorem cb_l2 (a x5 : Int) (N : Nat) (hN : N ≤ 1000) (G : Nat → Nat → Int) (nx : Nat) (hnx : nx < N) (L : List Int) (m x : Int) (res : List Int) (e : Nat) : ∀ (b : Nat) (f : Nat → Int), b + e = nx →
    Ev (fun k => impl_countBy.l1 k a x5 (RB 42 N N (upd G nx (accF G f b e))) L m (wrap64 (x + 1))) res →
    Ev (fun k => impl_countBy.l2 k a x5 (RB 42 N N (upd G nx f)) (nx : Int) (b : Int) L m x) res := by
  induction e with
  | zero =>
    intro b f hb h
    refine Ev.step (fun k => by rw [impl_countBy.l2]) ?_
    exact evNeg (by omega) h
  | succ e ih =>
    intro b f hb h
    refine Ev.step (fun k => by rw [impl_countBy.l2]) ?_
    rw [RB_get 42 N N _ b (by omega) (by omega), upd_ne G nx b f (by omega), rowOf_take 42 41 _ (by omega)]
    refine evPos (by omega) (evPos (by omega) (evPos (by rw [RB_len]; omega) (evPos (by rw [rowOf_len]; omega) (evBind0 rfl ?_))))
    rw [rowOf_len]
    have h3 := cb_l3 a x5 N G nx b hnx f (G b) L m x res 41 0 (by omega) (by
      rw [i1 b (by omega)]
      exact ih (b + 1) (adF f (G b)) (by omega) h)
    rw [adP_zero] at h3
    exact h3
theorem cb_l1 (a : Int) (ha : 1 ≤ a) (ha2 : a ≤ 1000) (n : Nat) (hn : n ≤ 40) (L : List Nat) (hL : ∀ x ∈ L, x ≤ n + 1) (hl : L.length ≤ 500) (e : Nat) : ∀ (i : Nat) (G : Nat → Nat → Int), i + e = L.length →
    Ev (fun k => impl_countBy.l1 k a ((n + 1 : Nat) : Int) (RB 42 (n + 2) (n + 2) G) (ints L) (L.length : Int) (i : Int)) (rowOf 42 ((L.drop i).foldl (stepG a) G (n + 1))) := by
  have hil : (ints L).length = L.length := by simp [ints]
  induction e with
  | zero =>
    intro i G hi
    refine Ev.step (fun k => by rw [impl_countBy.l1]) ?_
    refine evNeg (by omega) (evPos (by omega) (evPos (by rw [RB_len]; omega) (evSome ?_)))
    rw [RB_get _ _ _ _ (n + 1) (by omega) (by omega), List.drop_of_length_le (by omega)]
    rfl
  | succ e ih =>
    intro i G hi
    refine Ev.step (fun k => by rw [impl_countBy.l1]) ?_
    have hx : L.getD i 0 ≤ n + 1 := by
      rw [← getElem_getD L i 0 (by omega)]
      exact hL _ (List.getElem_mem (by omega))
    rw [rd_ints L i (by omega), w64 (x := ((L.getD i 0 : Nat) : Int) - a) (by omega) (by omega)]
    refine evPos (by omega) (evPos (by omega) (evPos (by rw [hil]; omega) ?_))
    obtain ⟨h1, h2⟩ := loP_le a (L.getD i 0) (by omega)
    rw [← h2]
    have h3 := cb_l2 a ((n + 1 : Nat) : Int) (n + 2) (by omega) G (L.getD i 0) (by omega) (ints L) (L.length : Int) (i : Int) _ (L.getD i 0 - loP a (L.getD i 0)) (loP a (L.getD i 0)) (G (L.getD i 0)) (by omega) (by
      rw [i1 i (by omega)]
      exact ih (i + 1) (stepG a G (L.getD i 0)) (by omega))
    rw [upd_self] at h3
    rw [getD_drop_cons L i 0 (by omega)]
    exact h3
def zeroF : Nat → Int := fun _ => 0
def startG : Nat → Nat → Int := upd (fun _ => zeroF) 0 (fun k => if k = 0 then 1 else 0)
theorem rowOf_zero (W : Nat) : rowOf W zeroF = List.replicate W 0 := by
  unfold rowOf zeroF
  rw [List.map_const', List.length_range]
theorem rowOf_one (W : Nat) : (List.replicate (W + 1) (0 : Int)).set 0 1 = rowOf (W + 1) (fun k => if k = 0 then 1 else 0) := by
  rw [← rowOf_zero]
  have h := map_range_set zeroF (fun k => if k = 0 then (1 : Int) else 0) (W + 1) 0 (fun q _ hq => by show (0 : Int) = _; rw [if_neg hq])
  exact h
theorem RB_next (W N b : Nat) (G : Nat → Nat → Int) (h : b < N) : (RB W N b G).set b (rowOf W (G b)) = RB W N (b + 1) G := by
  have h2 := map_range_set (fun q => if q < b then rowOf W (G q) else []) (fun q => if q < b + 1 then rowOf W (G q) else []) N b (fun q _ hq => by
    show (if q < b then rowOf W (G q) else []) = if q < b + 1 then rowOf W (G q) else []
    by_cases h : q < b
    · rw [if_pos h, if_pos (by omega)]
    · rw [if_neg h, if_neg (by omega)])
  have e : (if b < b + 1 then rowOf W (G b) else []) = rowOf W (G b) := if_pos (by omega)
  rw [e] at h2
  exact h2
theorem cb_l0 (r : ByteArray) (hr : r.size ≤ 40) (a : Int) (res : List Int) (e : Nat) : ∀ i : Nat, i + e = r.size + 2 →
    Ev (fun k => impl_countBy.l0 k r a ((r.size + 1 : Nat) : Int) (RB 42 (r.size + 2) (r.size + 2) (fun _ => zeroF)) ((r.size + 2 : Nat) : Int) ((r.size + 2 : Nat) : Int)) res →
    Ev (fun k => impl_countBy.l0 k r a ((r.size + 1 : Nat) : Int) (RB 42 (r.size + 2) i (fun _ => zeroF)) ((r.size + 2 : Nat) : Int) (i : Int)) res := by
  induction e with
  | zero =>
    intro i hi h
    obtain rfl : i = r.size + 2 := by omega
    exact h
  | succ e ih =>
    intro i hi h
    refine Ev.step (fun k => by rw [impl_countBy.l0]) ?_
    refine evPos (by omega) (evPos (by omega) (evPos (by omega) (evPos (by rw [RB_len]; omega) ?_)))
    rw [i1 i (by omega), Int.toNat_natCast, ← rowOf_zero]
    have h2 := RB_next 42 (r.size + 2) i (fun _ => zeroF) (by omega)
    have h3 := ih (i + 1) (by omega) h
    rw [← h2] at h3
    exact h3
theorem RB_none (W N : Nat) (G : Nat → Nat → Int) : RB W N 0 G = List.replicate N [] := by
  unfold RB
  have : (fun q => if q < 0 then rowOf W (G q) else []) = fun _ => [] := by funext q; rw [if_neg (by omega)]
  rw [this, List.map_const', List.length_range]
/-- The ways to the far bank, by leaps. -/
def waysF (r : ByteArray) (a : Int) : Nat → Int := ((List.range' 1 (r.size + 1)).filter (pl r)).foldl (stepG a) startG (r.size + 1)
theorem countBy_ev (r : ByteArray) (hr : r.size ≤ 40) (a : Int) (ha : 1 ≤ a) (ha2 : a ≤ 1000) : Ev (fun k => impl_countBy.f k r a) (rowOf 42 (waysF r a)) := by
  unfold impl_countBy.f
  rw [i1 r.size (by omega), i1 (r.size + 1) (by omega), Int.toNat_natCast]
  refine evPos (by omega) (evPos (by omega) (evBind0 rfl ?_))
  rw [List.length_replicate, ← RB_none 42 (r.size + 2) (fun _ => zeroF)]
  refine cb_l0 r hr a _ (r.size + 2) 0 (by omega) ?_
  refine Ev.step (fun k => by rw [impl_countBy.l0]) ?_
  have hg := RB_get 42 (r.size + 2) (r.size + 2) (fun _ => zeroF) 0 (by omega) (by omega)
  have hg' : rd_L3 (RB 42 (r.size + 2) (r.size + 2) fun _ => zeroF) 0 = rowOf 42 zeroF := hg
  refine evNeg (by omega) (evPos (by rw [RB_len]; omega) (evPos (by rw [hg', rowOf_len]; omega) (Ev.bind (stand_ev r (by omega)) ?_)))
  have hc := stL_cons r
  refine evPos (by rw [hc]; simp [ints]; omega) (evBind0 rfl ?_)
  have hset : (RB 42 (r.size + 2) (r.size + 2) (fun _ => zeroF)).set (0 : Int).toNat ((rd_L3 (RB 42 (r.size + 2) (r.size + 2) fun _ => zeroF) 0).set (0 : Int).toNat 1) = RB 42 (r.size + 2) (r.size + 2) startG := by
    rw [hg', rowOf_zero]
    show List.set _ 0 (List.set (List.replicate (41 + 1) 0) 0 1) = _
    rw [rowOf_one 41]
    exact RB_set 42 (r.size + 2) (r.size + 2) (fun _ => zeroF) 0 _ (by omega)
  rw [hset]
  have hd : (ints (stL r)).drop 1 = ints ((List.range' 1 (r.size + 1)).filter (pl r)) := by rw [hc]; rfl
  rw [hd]
  have hlen : ((List.range' 1 (r.size + 1)).filter (pl r)).length ≤ 41 := by
    have := List.length_filter_le (pl r) (List.range' 1 (r.size + 1))
    rw [List.length_range'] at this
    omega
  have h := cb_l1 a ha ha2 r.size hr ((List.range' 1 (r.size + 1)).filter (pl r)) (fun x hx => by
    have := List.mem_range'_1.1 (List.mem_filter.1 hx).1
    omega) (by omega) ((List.range' 1 (r.size + 1)).filter (pl r)).length 0 startG (by omega)
  rw [List.drop_zero] at h
  have hil : (ints ((List.range' 1 (r.size + 1)).filter (pl r))).length = ((List.range' 1 (r.size + 1)).filter (pl r)).length := by simp [ints]
  rw [hil]
  exact h
theorem rc_l2 (r : ByteArray) (a : Int) (n N b0 : Nat) (hb0 : b0 ≤ N) (hn : n ≤ 100) (G : Nat → Nat → Int) (nx fr : Nat) (hnx : nx < b0) (f g : Nat → Int) (y z : Int) (res : List Int) (e : Nat) : ∀ j : Nat, j + e = n + 1 →
    Ev (fun k => spec_rvCount.l1 k r a ((n + 1 : Nat) : Int) (RB (n + 2) N b0 (upd G nx (adF f g))) (nx : Int) (wrap64 ((fr : Int) + 1)) y z) res →
    Ev (fun k => spec_rvCount.l2 k r a ((n + 1 : Nat) : Int) (RB (n + 2) N b0 (upd G nx (adP f g j))) (nx : Int) (fr : Int) y z (rowOf (n + 1) g) ((n + 1 : Nat) : Int) (j : Int)) res := by
  induction e with
  | zero =>
    intro j hj h
    obtain rfl : j = n + 1 := by omega
    refine Ev.step (fun k => by rw [spec_rvCount.l2]) ?_
    refine evNeg (by omega) ?_
    rw [RB_row_congr (n + 2) N b0 G nx _ _ (rowOf_full (n + 1) f g)]
    exact h
  | succ e ih =>
    intro j hj h
    have h2 := ih (j + 1) (by omega) h
    refine Ev.step (fun k => by rw [spec_rvCount.l2]) ?_
    rw [i1 j (by omega), Int.toNat_natCast, Int.toNat_natCast, RB_get (n + 2) N b0 _ nx hnx (by omega), upd_at, rd_rowOf (n + 2) _ (j + 1) (by omega), rd_rowOf (n + 1) g j (by omega), adP_next]
    refine evPos (by omega) (evPos (by omega) (evPos (by rw [rowOf_len]; omega) (evPos (by omega) (evPos (by rw [RB_len]; omega) (evPos (by omega) (evPos (by rw [rowOf_len]; omega) (evBind0 (least_eq _ _) ?_)))))))
    have e1 : (rowOf (n + 2) (adP f g j)).set (j + 1) (mn (wrap64 (f (j + 1) + g j)) 1000000000000001) = rowOf (n + 2) (adP f g (j + 1)) := rowOf_set (n + 2) f g j
    rw [e1, RB_set (n + 2) N b0 _ nx _ hnx, upd_upd]
    exact h2
theorem rc_l1 (r : ByteArray) (a : Int) (n N b0 : Nat) (hb0 : b0 ≤ N) (hN : N ≤ 1000) (hn : n ≤ 100) (G : Nat → Nat → Int) (nx : Nat) (hnx : nx < b0) (y z : Int) (res : List Int) (e : Nat) : ∀ (b : Nat) (f : Nat → Int), b + e = nx →
    Ev (fun k => spec_rvCount.l0 k r a ((n + 1 : Nat) : Int) (RB (n + 2) N b0 (upd G nx (accF G f b e))) y (wrap64 (z + 1))) res →
    Ev (fun k => spec_rvCount.l1 k r a ((n + 1 : Nat) : Int) (RB (n + 2) N b0 (upd G nx f)) (nx : Int) (b : Int) y z) res := by
  induction e with
  | zero =>
    intro b f hb h
    refine Ev.step (fun k => by rw [spec_rvCount.l1]) ?_
    exact evNeg (by omega) h
  | succ e ih =>
    intro b f hb h
    refine Ev.step (fun k => by rw [spec_rvCount.l1]) ?_
    rw [RB_get (n + 2) N b0 _ b (by omega) (by omega), upd_ne G nx b f (by omega), Int.toNat_natCast, rowOf_take (n + 2) (n + 1) _ (by omega)]
    refine evPos (by omega) (evPos (by omega) (evPos (by rw [RB_len]; omega) (evPos (by omega) (evPos (by rw [rowOf_len]; omega) (evBind0 rfl ?_)))))
    rw [rowOf_len]
    have h3 := rc_l2 r a n N b0 hb0 hn G nx b hnx f (G b) y z res (n + 1) 0 (by omega) (by
      rw [i1 b (by omega)]
      exact ih (b + 1) (adF f (G b)) (by omega) h)
    rw [adP_zero] at h3
    exact h3
theorem rc_j1 (r : ByteArray) (hr : r.size ≤ 40) (a : Int) (ha : 1 ≤ a) (ha2 : a ≤ 1000) (G : Nat → Nat → Int) (p : Nat) (hp : p ≤ r.size + 1) (res : List Int)
    (h1 : pl r p = true → Ev (fun k => spec_rvCount.l0 k r a ((r.size + 1 : Nat) : Int) (RB (r.size + 2) (r.size + 2) (p + 1) (stepG a G p)) ((r.size + 2 : Nat) : Int) ((p + 1 : Nat) : Int)) res)
    (h2 : pl r p = false → Ev (fun k => spec_rvCount.l0 k r a ((r.size + 1 : Nat) : Int) (RB (r.size + 2) (r.size + 2) (p + 1) G) ((r.size + 2 : Nat) : Int) ((p + 1 : Nat) : Int)) res) :
    Ev (fun k => spec_rvCount.j1 k r a ((r.size + 1 : Nat) : Int) (RB (r.size + 2) (r.size + 2) (p + 1) G) (p : Int) ((r.size + 2 : Nat) : Int) (p : Int)) res := by
  refine Ev.step (fun k => by rw [spec_rvCount.j1]) ?_
  refine evBind0 (rvStand_eq r (by omega) p hp) ?_
  cases hs : pl r p with
  | true =>
    refine evPos rfl (evBind0 (most_eq _ _) ?_)
    rw [w64 (x := (p : Int) - a) (by omega) (by omega)]
    obtain ⟨h3, h4⟩ := loP_le a p (by omega)
    rw [← h4]
    have h5 := rc_l1 r a r.size (r.size + 2) (p + 1) (by omega) (by omega) (by omega) G p (by omega) ((r.size + 2 : Nat) : Int) (p : Int) res (p - loP a p) (loP a p) (G p) (by omega) (by
      rw [i1 p (by omega)]
      exact h1 hs)
    rw [upd_self] at h5
    exact h5
  | false =>
    refine evNeg (by simp) ?_
    rw [i1 p (by omega)]
    exact h2 hs
theorem stepG_ne (a : Int) (G : Nat → Nat → Int) (p q : Nat) (h : q ≠ p) : stepG a G p q = G q := upd_ne _ _ _ _ h
theorem rc_l0 (r : ByteArray) (hr : r.size ≤ 40) (a : Int) (ha : 1 ≤ a) (ha2 : a ≤ 1000) (e : Nat) : ∀ (p : Nat) (G : Nat → Nat → Int), 1 ≤ p → p + e = r.size + 2 → (∀ q, p ≤ q → G q = zeroF) →
    Ev (fun k => spec_rvCount.l0 k r a ((r.size + 1 : Nat) : Int) (RB (r.size + 2) (r.size + 2) p G) ((r.size + 2 : Nat) : Int) (p : Int)) (rowOf (r.size + 2) (((List.range' p e).filter (pl r)).foldl (stepG a) G (r.size + 1))) := by
  induction e with
  | zero =>
    intro p G h1 hp hz
    refine Ev.step (fun k => by rw [spec_rvCount.l0]) ?_
    refine evNeg (by omega) (evPos (by omega) (evPos (by rw [RB_len]; omega) (evSome ?_)))
    exact RB_get _ _ _ _ (r.size + 1) (by omega) (by omega)
  | succ e ih =>
    intro p G h1 hp hz
    refine Ev.step (fun k => by rw [spec_rvCount.l0]) ?_
    rw [i1 (r.size + 1) (by omega), Int.toNat_natCast, Int.toNat_natCast]
    refine evPos (by omega) (evPos (by omega) (evPos (by omega) (evPos (by omega) (evPos (by rw [RB_len]; omega) (evBind0 rfl (evNeg (by omega) ?_))))))
    have e1 := RB_next (r.size + 2) (r.size + 2) p G (by omega)
    rw [hz p (Nat.le_refl _), rowOf_zero] at e1
    rw [e1, List.range'_succ]
    refine rc_j1 r hr a ha ha2 G p (by omega) _ (fun hs => ?_) (fun hs => ?_)
    · rw [List.filter_cons_of_pos hs]
      exact ih (p + 1) (stepG a G p) (by omega) (by omega) (fun q hq => by rw [stepG_ne a G p q (by omega)]; exact hz q (by omega))
    · rw [List.filter_cons_of_neg (by rw [hs]; exact Bool.false_ne_true)]
      exact ih (p + 1) G (by omega) (by omega) (fun q hq => hz q (by omega))
theorem rvCount_ev (r : ByteArray) (hr : r.size ≤ 40) (a : Int) (ha : 1 ≤ a) (ha2 : a ≤ 1000) : Ev (fun k => spec_rvCount.f k r a) (rowOf (r.size + 2) (waysF r a)) := by
  unfold spec_rvCount.f
  rw [i1 r.size (by omega), i1 (r.size + 1) (by omega), Int.toNat_natCast]
  refine evPos (by omega) (evPos (by omega) (evBind0 rfl ?_))
  rw [List.length_replicate]
  refine Ev.step (fun k => by rw [spec_rvCount.l0]) ?_
  rw [i1 (r.size + 1) (by omega), Int.toNat_natCast]
  refine evPos (by omega) (evPos (by omega) (evPos (by omega) (evPos (by omega) (evPos (by simp; omega) (evBind0 rfl (evPos rfl ?_))))))
  have e0 : (List.replicate (r.size + 2) ([] : List Int)).set (0 : Int).toNat (List.replicate (r.size + 1 + 1) 0) = RB (r.size + 2) (r.size + 2) (0 + 1) (fun _ => zeroF) := by
    have h := RB_next (r.size + 2) (r.size + 2) 0 (fun _ => zeroF) (by omega)
    rw [RB_none, rowOf_zero] at h
    exact h
  rw [e0]
  have hg : rd_L3 (RB (r.size + 2) (r.size + 2) (0 + 1) fun _ => zeroF) 0 = rowOf (r.size + 2) zeroF := RB_get (r.size + 2) (r.size + 2) (0 + 1) (fun _ => zeroF) 0 (by omega) (by omega)
  refine evPos (by rw [hg, rowOf_len]; omega) ?_
  have e1 : (RB (r.size + 2) (r.size + 2) (0 + 1) (fun _ => zeroF)).set (0 : Int).toNat ((rd_L3 (RB (r.size + 2) (r.size + 2) (0 + 1) fun _ => zeroF) 0).set (0 : Int).toNat 1) = RB (r.size + 2) (r.size + 2) (0 + 1) startG := by
    rw [hg, rowOf_zero]
    show List.set _ 0 (List.set (List.replicate (r.size + 1 + 1) 0) 0 1) = _
    rw [rowOf_one (r.size + 1)]
    exact RB_set (r.size + 2) (r.size + 2) (0 + 1) (fun _ => zeroF) 0 _ (by omega)
  rw [e1]
  have hz : ∀ q, 1 ≤ q → startG q = zeroF := fun q hq => upd_ne _ _ _ _ (by omega)
  have hst : stepG a startG 0 = startG := by
    unfold stepG
    rw [show 0 - loP a 0 = 0 by omega]
    exact upd_self startG 0
  have hfin := rc_l0 r hr a ha ha2 (r.size + 1) 1 startG (by omega) (by omega) hz
  refine rc_j1 r hr a ha ha2 startG 0 (by omega) _ (fun _ => ?_) (fun hs => ?_)
  · rw [hst]
    exact hfin
  · exact absurd hs (by simp [pl])
/-! ### The sum -/
def wsum (s : Int) (L : List Int) : Int := L.foldl (fun s x => wrap64 (s + x)) s
theorem wrap_wrap (x : Int) : wrap64 (wrap64 x + 0) = wrap64 x := by
  unfold wrap64
  omega
theorem wsum_zeros (x : Int) : ∀ n, wsum (wrap64 x) (List.replicate n 0) = wrap64 x
 | 0 => rfl
 | n + 1 => by
  show wsum (wrap64 (wrap64 x + 0)) (List.replicate n 0) = _
  rw [wrap_wrap]
  exact wsum_zeros x n
theorem wsum_more (L : List Int) (n : Nat) (h : L ≠ []) (s : Int) : wsum s (L ++ List.replicate n 0) = wsum s L := by
  unfold wsum
  rw [List.foldl_append]
  obtain ⟨M, y, rfl⟩ : ∃ M y, L = M ++ [y] := ⟨L.dropLast, L.getLast h, (List.dropLast_concat_getLast h).symm⟩
  rw [List.foldl_append]
  exact wsum_zeros _ n
theorem sum_l0 (L : List Int) (hl : L.length ≤ 1000) (e : Nat) : ∀ (i : Nat) (s : Int), i + e = L.length → Ev (fun k => impl_sum.l0 k s L (L.length : Int) (i : Int)) (wsum s (L.drop i)) := by
  induction e with
  | zero =>
    intro i s hi
    refine Ev.step (fun k => by rw [impl_sum.l0]) ?_
    refine evNeg (by omega) (evSome ?_)
    rw [List.drop_of_length_le (by omega)]
    rfl
  | succ e ih =>
    intro i s hi
    refine Ev.step (fun k => by rw [impl_sum.l0]) ?_
    rw [i1 i (by omega), getD_drop_cons L i 0 (by omega)]
    refine evPos (by omega) (evPos (by omega) (evPos (by omega) ?_))
    have h := ih (i + 1) (wrap64 (s + L.getD i 0)) (by omega)
    unfold rd
    rw [Int.toNat_natCast]
    exact h
theorem sum_ev (L : List Int) (hl : L.length ≤ 1000) : Ev (fun k => impl_sum.f k L) (wsum 0 L) := by
  unfold impl_sum.f
  exact sum_l0 L hl L.length 0 0 (by omega)
theorem value_l1 (L : List Int) (hl : L.length ≤ 1000) (e : Nat) : ∀ (i : Nat) (s : Int), i + e = L.length → Ev (fun k => spec_pzValue.l1 k s L (L.length : Int) (i : Int)) (wsum s (L.drop i)) := by
  induction e with
  | zero =>
    intro i s hi
    refine Ev.step (fun k => by rw [spec_pzValue.l1]) ?_
    refine evNeg (by omega) (evSome ?_)
    rw [List.drop_of_length_le (by omega)]
    rfl
  | succ e ih =>
    intro i s hi
    refine Ev.step (fun k => by rw [spec_pzValue.l1]) ?_
    rw [i1 i (by omega), getD_drop_cons L i 0 (by omega)]
    refine evPos (by omega) (evPos (by omega) (evPos (by omega) ?_))
    have h := ih (i + 1) (wrap64 (s + L.getD i 0)) (by omega)
    unfold rd
    rw [Int.toNat_natCast]
    exact h
/-! ### No crossing has more leaps than places -/
def thin (G : Nat → Nat → Int) : Prop := ∀ q k, q < k → G q k = 0
theorem accF_thin (G : Nat → Nat → Int) (h : thin G) (p : Nat) (e : Nat) : ∀ (b : Nat) (f : Nat → Int), b + e ≤ p → (∀ k, p < k → f k = 0) → ∀ k, p < k → accF G f b e k = 0 := by
  induction e with
  | zero => exact fun b f _ hf => hf
  | succ e ih =>
    intro b f hb hf
    refine ih (b + 1) _ (by omega) (fun k hk => ?_)
    obtain ⟨j, rfl⟩ : ∃ j, k = j + 1 := ⟨k - 1, by omega⟩
    show mn (wrap64 (f (j + 1) + G b j)) 1000000000000001 = 0
    rw [hf _ hk, h b j (by omega)]
    decide +kernel
theorem stepG_thin (a : Int) (ha : 0 ≤ a) (G : Nat → Nat → Int) (p : Nat) (h : thin G) : thin (stepG a G p) := by
  intro q k hk
  unfold stepG upd
  split
  · rename_i e
    subst e
    have := (loP_le a q ha).1
    exact accF_thin G h q _ _ _ (by omega) (fun k hk => h q k hk) k hk
  · exact h q k hk
theorem startG_thin : thin startG := by
  intro q k hk
  unfold startG upd
  split
  · show (if k = 0 then (1 : Int) else 0) = 0
    rw [if_neg (by omega)]
  · rfl
theorem fold_thin (a : Int) (ha : 0 ≤ a) : ∀ (L : List Nat) (G : Nat → Nat → Int), thin G → thin (L.foldl (stepG a) G)
 | [], G, h => h
 | p :: L, G, h => fold_thin a ha L _ (stepG_thin a ha G p h)
theorem ways_sum (r : ByteArray) (hr : r.size ≤ 40) (a : Int) (ha : 1 ≤ a) : wsum 0 (rowOf 42 (waysF r a)) = wsum 0 (rowOf (r.size + 2) (waysF r a)) := by
  have hz : ∀ k, r.size + 1 < k → waysF r a k = 0 := fun k hk => fold_thin a (by omega) _ _ startG_thin _ _ hk
  have h : rowOf 42 (waysF r a) = rowOf (r.size + 2) (waysF r a) ++ List.replicate (40 - r.size) 0 := by
    unfold rowOf
    apply List.ext_getElem
    · simp; omega
    · intro i h1 h2
      have hi : i < 42 := by simpa using h1
      by_cases hi2 : i < r.size + 2
      · rw [List.getElem_append_left (by simpa using hi2)]
        simp
      · rw [List.getElem_append_right (by simpa using hi2)]
        simp only [List.getElem_map, List.getElem_range, List.getElem_replicate]
        exact hz i (by omega)
  rw [h, wsum_more _ _ (by unfold rowOf; simp) 0]
end Go.Proofs.Ytonifgfgeollaaa.X
end
section
/- The fewest leaps to the far bank: the program and the reference. -/
--! needs LBase LGap spec_rvStand spec_rvLeft impl_stand impl_leapsLeft
namespace Go.Proofs.Ytonifgfgeollaaa.X
open Go.Proofs.Ytonifgfgeollaaa.Sq Go.RowKit Go.Proofs.YtonifgfgeollaaaW.PrintWords Go.Proofs.YtonifgfgeollaaaW.PrintLast Go.Proofs.YtonifgfgeollaaaW.PrintMore
attribute [local go_sem] max2_int min2_int max_two min_two max_three min_three max_four min_four   -- for this text's walks alone
set_option linter.unusedVariables false
set_option linter.unusedSimpArgs false
theorem getD_append_right' {α : Type} (P Q : List α) (i : Nat) (d : α) : (P ++ Q).getD (P.length + i) d = Q.getD i d := by
  rw [List.getD_eq_getElem?_getD, List.getD_eq_getElem?_getD, List.getElem?_append_right (by omega), Nat.add_sub_cancel_left]
theorem rd_right (P Q : List Int) (i : Nat) : rd (P ++ Q) ((P.length + i : Nat) : Int) = rd Q (i : Int) := by
  unfold rd
  rw [Int.toNat_natCast, Int.toNat_natCast]
  exact getD_append_right' P Q i 0
theorem lfStep_right (P Q : List Int) (t : Nat) : lfStep P.length (P.length + t) (P ++ Q) = P ++ lfStep 0 t Q := by
  unfold lfStep
  have h0 := rd_right P Q 0
  rw [Nat.add_zero] at h0
  rw [rd_right P Q t, h0]
  split
  · rw [List.set_append_right _ _ (by omega), Nat.sub_self]
  · rfl
theorem lfIn_right (P Q : List Int) : ∀ d, lfIn P.length (P ++ Q) d = P ++ lfIn 0 Q d
 | 0 => rfl
 | d + 1 => by
  show lfStep P.length (P.length + 1 + d) (lfIn P.length (P ++ Q) d) = P ++ lfStep 0 (0 + 1 + d) (lfIn 0 Q d)
  rw [lfIn_right P Q d, Nat.add_assoc, lfStep_right, Nat.zero_add]
theorem lfStep_len (fr t : Nat) (o : List Int) : (lfStep fr t o).length = o.length := by
  unfold lfStep
  split <;> simp
theorem lfIn_len (fr : Nat) (o : List Int) : ∀ d, (lfIn fr o d).length = o.length
 | 0 => rfl
 | d + 1 => (lfStep_len _ _ _).trans (lfIn_len fr o d)
/-- How many places are tried from place p. -/
def lfC (n : Nat) (a : Int) (p : Nat) : Nat := (mn ((p : Int) + a) ((n : Int) + 1) - (p : Int)).toNat
theorem lfC_le (n : Nat) (a : Int) (p : Nat) : lfC n a p ≤ n + 1 - p := by unfold lfC mn; split <;> omega
theorem lfC_lt (n : Nat) (a : Int) (p d : Nat) (h : d < lfC n a p) : ((p + 1 + d : Nat) : Int) ≤ (n : Int) + 1 ∧ ((p + 1 + d : Nat) : Int) ≤ (p : Int) + a := by
  unfold lfC mn at h
  split at h <;> omega
theorem lfC_end (n : Nat) (a : Int) (p : Nat) : ¬ (((p + 1 + lfC n a p : Nat) : Int) ≤ (n : Int) + 1 ∧ ((p + 1 + lfC n a p : Nat) : Int) ≤ (p : Int) + a) := by
  unfold lfC mn
  split <;> omega
/-- What is known of the last d places. -/
def lfT (r : ByteArray) (a : Int) : Nat → List Int
 | 0 => []
 | d + 1 => if d = 0 then [0] else if pl r (r.size + 1 - d) = true then lfIn 0 ((-1) :: lfT r a d) (lfC r.size a (r.size + 1 - d)) else (-1) :: lfT r a d
theorem lfT_len (r : ByteArray) (a : Int) : ∀ d, (lfT r a d).length = d
 | 0 => rfl
 | d + 1 => by
  unfold lfT
  split
  · rename_i h; subst h; rfl
  · split
    · rw [lfIn_len]; simp [lfT_len r a d]
    · simp [lfT_len r a d]
theorem replicate_snoc {α : Type} (n : Nat) (x : α) (l : List α) : List.replicate (n + 1) x ++ l = List.replicate n x ++ (x :: l) := by
  rw [List.replicate_succ', List.append_assoc]
  rfl
theorem lfOut_top (n : Nat) (a : Int) (o : List Int) : lfOut n a (n + 1) o = o := by
  unfold lfOut
  have : (mn (((n + 1 : Nat) : Int) + a) ((n : Int) + 1) - ((n + 1 : Nat) : Int)).toNat = 0 := by unfold mn; split <;> omega
  rw [this]
  rfl
/-- The program: places are gone through backwards, those on which one stands. -/
theorem lf_fold (r : ByteArray) (a : Int) : ∀ d, d ≤ r.size + 1 → ((List.range' (r.size + 1 - d) (d + 1)).filter (pl r)).reverse.foldl (fun o fr => lfOut r.size a fr o) (lfStart r.size) = List.replicate (r.size + 1 - d) (-1) ++ lfT r a (d + 1)
 | 0, _ => by
  have hp : pl r (r.size + 1) = true := by simp [pl]
  rw [Nat.sub_zero, List.range'_succ, List.filter_cons_of_pos hp]
  show lfOut r.size a (r.size + 1) (lfStart r.size) = _
  rw [lfOut_top]
  unfold lfStart
  rw [replicate_snoc (r.size + 1) (-1 : Int) [] |>.symm.trans (List.append_nil _) |>.symm, List.set_append_right _ _ (by simp)]
  simp [lfT]
 | d + 1, h => by
  have ih := lf_fold r a d (by omega)
  rw [List.range'_succ, show r.size + 1 - (d + 1) + 1 = r.size + 1 - d by omega]
  have e1 : lfT r a (d + 1 + 1) = if pl r (r.size + 1 - (d + 1)) = true then lfIn 0 ((-1) :: lfT r a (d + 1)) (lfC r.size a (r.size + 1 - (d + 1))) else (-1) :: lfT r a (d + 1) := by
    conv => lhs; unfold lfT
    rw [if_neg (by omega)]
  have e2 : List.replicate (r.size + 1 - d) (-1 : Int) ++ lfT r a (d + 1) = List.replicate (r.size + 1 - (d + 1)) (-1) ++ ((-1) :: lfT r a (d + 1)) := by
    rw [show r.size + 1 - d = r.size + 1 - (d + 1) + 1 by omega, replicate_snoc]
  cases hs : pl r (r.size + 1 - (d + 1)) with
  | true =>
    rw [List.filter_cons_of_pos hs, List.reverse_cons, List.foldl_append, ih, e1, if_pos hs, e2]
    show lfIn _ _ _ = _
    have h3 := lfIn_right (List.replicate (r.size + 1 - (d + 1)) (-1 : Int)) ((-1) :: lfT r a (d + 1)) (lfC r.size a (r.size + 1 - (d + 1)))
    rw [List.length_replicate] at h3
    exact h3
  | false =>
    rw [List.filter_cons_of_neg (by rw [hs]; exact Bool.false_ne_true), ih, e1, if_neg (by rw [hs]; exact Bool.false_ne_true), e2]
theorem leapsLeft_ev (r : ByteArray) (hr : r.size ≤ 100) (a : Int) (h1 : -1000 ≤ a) (h2 : a ≤ 1000) : Ev (fun k => impl_leapsLeft.f k r a) (lfT r a (r.size + 2)) := by
  unfold impl_leapsLeft.f
  refine Ev.bind (stand_ev r hr) ?_
  have hlen : (stL r).length ≤ 102 := by
    unfold stL
    have := List.length_filter_le (pl r) (List.range (r.size + 2))
    rw [List.length_range] at this
    omega
  have hc := stL_cons r
  refine evPos ⟨hr, h1, h2, by simp [ints]; omega, by simp [ints, hc], ?_⟩ (evSome ?_)
  · intro x hx
    unfold ints at hx
    obtain ⟨y, hy, rfl⟩ := List.mem_map.1 hx
    have := stL_le r y hy
    omega
  · have e : (ints (stL r)).reverse.map Int.toNat = (stL r).reverse := by
      unfold ints
      rw [← List.map_reverse, List.map_map]
      have : (Int.toNat ∘ fun (x : Nat) => (x : Int)) = id := by funext x; simp
      rw [this, List.map_id]
    rw [e]
    have h := lf_fold r a (r.size + 1) (Nat.le_refl _)
    rw [Nat.sub_self] at h
    unfold stL
    rw [List.range_eq_range']
    simpa using h
/-- The reference's inner loop. -/
theorem rvLeft_l1 (r : ByteArray) (hr : r.size ≤ 100) (a : Int) (h1 : -1000 ≤ a) (h2 : a ≤ 1000) (p : Nat) (hp : p ≤ r.size) (o : List Int) (ho : o.length = r.size + 2) (x : List Int) (e : Nat) : ∀ d : Nat, d + e = lfC r.size a p →
    Ev (fun k => spec_rvLeft.l0 k r a ((r.size : Int) + 1) (lfIn p o (lfC r.size a p)) ((p : Int) - 1)) x → Ev (fun k => spec_rvLeft.l1 k r a ((r.size : Int) + 1) (lfIn p o d) (p : Int) ((p + 1 + d : Nat) : Int)) x := by
  have hlow := fun d (hd : d < lfC r.size a p) => lfC_lt r.size a p d hd
  have hhi := lfC_end r.size a p
  have hC := lfC_le r.size a p
  induction e with
  | zero =>
    intro d hd hx
    obtain rfl : d = lfC r.size a p := by omega
    refine Ev.step (fun k => by rw [spec_rvLeft.l1]) ?_
    rw [w64 (x := (p : Int) + a) (by omega) (by omega)]
    refine evSplit (fun hc => ?_) (fun hc => ?_)
    · refine Ev.step (fun k => by rw [spec_rvLeft.j2]) ?_
      refine evNeg (fun h => hhi ⟨hc, of_decide_eq_true h⟩) ?_
      rw [w64 (x := (p : Int) - 1) (by omega) (by omega)]
      exact hx
    · refine Ev.step (fun k => by rw [spec_rvLeft.j2]) ?_
      refine evNeg (by simp) ?_
      rw [w64 (x := (p : Int) - 1) (by omega) (by omega)]
      exact hx
  | succ e ih =>
    intro d hd hx
    obtain ⟨h3, h4⟩ := hlow d (by omega)
    have h5 := ih (d + 1) (by omega) hx
    have hl : (lfIn p o d).length = r.size + 2 := by rw [lfIn_len]; exact ho
    have hst : lfIn p o (d + 1) = lfStep p (p + 1 + d) (lfIn p o d) := rfl
    unfold lfStep at hst
    refine Ev.step (fun k => by rw [spec_rvLeft.l1]) ?_
    refine evPos h3 ?_
    refine Ev.step (fun k => by rw [spec_rvLeft.j2]) ?_
    rw [w64 (x := (p : Int) + a) (by omega) (by omega)]
    refine evPos (decide_eq_true h4) (evPos (by omega) (evPos (by omega) ?_))
    rw [show wrap64 (((p + 1 + d : Nat) : Int) + 1) = ((p + 1 + (d + 1) : Nat) : Int) from (w64 (by omega) (by omega)).trans (by omega), Int.toNat_natCast]
    refine evSplit (fun c1 => evPos (by omega) (evPos (by omega) (evSplit (fun c2 => ?_) (fun c2 => evSplit (fun c3 => ?_) (fun c3 => ?_))))) (fun c1 => ?_)
    · rw [if_pos ⟨c1, Or.inl c2⟩] at hst
      rw [hst] at h5
      exact h5
    · rw [if_pos ⟨c1, Or.inr c3⟩] at hst
      rw [hst] at h5
      exact h5
    · rw [if_neg (fun h => h.2.elim c2 c3)] at hst
      rw [hst] at h5
      exact h5
    · rw [if_neg (fun h => c1 h.1)] at hst
      rw [hst] at h5
      exact h5
/-- The reference's outer loop: what lies behind is known, what lies ahead is still zero. -/
theorem rvLeft_l0 (r : ByteArray) (hr : r.size ≤ 100) (a : Int) (h1 : -1000 ≤ a) (h2 : a ≤ 1000) : ∀ (p : Nat), p ≤ r.size + 1 →
    Ev (fun k => spec_rvLeft.l0 k r a ((r.size : Int) + 1) (List.replicate p 0 ++ lfT r a (r.size + 2 - p)) ((p : Int) - 1)) (lfT r a (r.size + 2))
 | 0, _ => by
  refine Ev.step (fun k => by rw [spec_rvLeft.l0]) ?_
  exact evNeg (by omega) (evSome (by simp))
 | p + 1, hp => by
  have ih := rvLeft_l0 r hr a h1 h2 p (by omega)
  have hT := lfT_len r a (r.size + 2 - (p + 1))
  have e0 : ((p + 1 : Nat) : Int) - 1 = (p : Int) := by omega
  rw [e0]
  refine Ev.step (fun k => by rw [spec_rvLeft.l0]) ?_
  refine evPos (by omega) (evPos (by omega) (evPos (by rw [List.length_append, List.length_replicate, hT]; omega) ?_))
  refine evBind0 rfl (evBind0 (rvStand_eq r hr p (by omega)) ?_)
  have es : (List.replicate (p + 1) (0 : Int) ++ lfT r a (r.size + 2 - (p + 1))).set ((p : Int)).toNat (-1) = List.replicate p 0 ++ ((-1) :: lfT r a (r.size + 2 - (p + 1))) := by
    rw [replicate_snoc, Int.toNat_natCast, List.set_append_right _ _ (by simp), List.length_replicate, Nat.sub_self]
    rfl
  rw [es]
  have eT : lfT r a (r.size + 2 - p) = if pl r p = true then lfIn 0 ((-1) :: lfT r a (r.size + 2 - (p + 1))) (lfC r.size a p) else (-1) :: lfT r a (r.size + 2 - (p + 1)) := by
    rw [show r.size + 2 - p = (r.size + 2 - (p + 1)) + 1 by omega]
    conv => lhs; unfold lfT
    rw [if_neg (by omega), show r.size + 1 - (r.size + 2 - (p + 1)) = p by omega]
  rw [eT] at ih
  have hw1 : wrap64 ((p : Int) - 1) = (p : Int) - 1 := w64 (by omega) (by omega)
  have hw2 : wrap64 ((p : Int) + 1) = ((p + 1 + 0 : Nat) : Int) := by rw [w64 (by omega) (by omega)]; omega
  cases hs : pl r p with
  | true =>
    rw [if_pos hs] at ih
    refine evPos rfl ?_
    rw [hw2]
    refine rvLeft_l1 r hr a h1 h2 p (by omega) (List.replicate p 0 ++ ((-1) :: lfT r a (r.size + 2 - (p + 1)))) (by rw [List.length_append, List.length_replicate, List.length_cons, hT]; omega) _ (lfC r.size a p) 0 (by omega) ?_
    have h3 := lfIn_right (List.replicate p (0 : Int)) ((-1) :: lfT r a (r.size + 2 - (p + 1))) (lfC r.size a p)
    rw [List.length_replicate] at h3
    rw [h3]
    exact ih
  | false =>
    rw [if_neg (by simp [hs])] at ih
    refine evNeg (by simp) ?_
    rw [hw1]
    exact ih
theorem rvLeft_ev (r : ByteArray) (hr : r.size ≤ 100) (a : Int) (h1 : -1000 ≤ a) (h2 : a ≤ 1000) : Ev (fun k => spec_rvLeft.f k r a) (lfT r a (r.size + 2)) := by
  unfold spec_rvLeft.f
  have e1 : wrap64 ((r.size : Int) + 1) = ((r.size + 1 : Nat) : Int) := by rw [w64 (by omega) (by omega)]; omega
  have e2 : wrap64 (((r.size + 1 : Nat) : Int) + 1) = ((r.size + 2 : Nat) : Int) := by rw [w64 (by omega) (by omega)]; omega
  have e3 : wrap64 (((r.size + 1 : Nat) : Int) - 1) = ((r.size + 1 : Nat) : Int) - 1 := w64 (by omega) (by omega)
  rw [e1, e2, e3, Int.toNat_natCast]
  refine evPos (by omega) (evPos (by omega) ?_)
  have h := rvLeft_l0 r hr a h1 h2 (r.size + 1) (Nat.le_refl _)
  have e4 : lfT r a (r.size + 2 - (r.size + 1)) = [0] := by rw [show r.size + 2 - (r.size + 1) = 1 by omega]; simp [lfT]
  have e5 : List.replicate (r.size + 1) (0 : Int) ++ [0] = List.replicate (r.size + 2) 0 := by rw [List.replicate_succ' (n := r.size + 1)]
  rw [e4, e5] at h
  exact h
end Go.Proofs.Ytonifgfgeollaaa.X
end
section
/- What a clue tells of a river: the program and the reference. -/
--! needs LBase LPzClue LPzGood LGap LLeft LWays spec_pzRiver spec_pzValue spec_pzFits strings_Count impl_bit impl_told impl_Clue_fits
namespace Go.Proofs.Ytonifgfgeollaaa.X
open Go.Proofs.Ytonifgfgeollaaa.Sq Go.RowKit Go.Proofs.YtonifgfgeollaaaW.PrintWords Go.Proofs.YtonifgfgeollaaaW.PrintLast Go.Proofs.YtonifgfgeollaaaW.PrintMore
attribute [local go_sem] max2_int min2_int max_two min_two max_three min_three max_four min_four   -- for this text's walks alone
set_option linter.unusedVariables false
set_option linter.unusedSimpArgs false
/-- The river of so many places with a number. -/
def riv (p n : Nat) : ByteArray := ⟨((List.range p).map fun i => if n / 2 ^ (p - 1 - i) % 2 = 1 then (111 : UInt8) else 46).toArray⟩
theorem riv_size (p n : Nat) : (riv p n).size = p := by
  show ((List.range p).map _).toArray.size = p
  simp
def isRiv (r : ByteArray) : Prop := ∃ p n : Nat, 1 ≤ p ∧ p ≤ 8 ∧ n < 2 ^ p ∧ r = riv p n
def all_rivs (c : Nat → Nat → Bool) : Bool := (List.range 8).all fun p => (List.range (2 ^ (p + 1))).all fun n => c (p + 1) n
theorem all_rivs_at {c : Nat → Nat → Bool} (h : all_rivs c = true) {p n : Nat} (h1 : 1 ≤ p) (h2 : p ≤ 8) (h3 : n < 2 ^ p) : c p n = true := by
  unfold all_rivs at h
  rw [List.all_eq_true] at h
  have h4 := h (p - 1) (List.mem_range.2 (by omega))
  rw [List.all_eq_true, show p - 1 + 1 = p by omega] at h4
  exact h4 n (List.mem_range.2 h3)
/-- How many stones there are. -/
def stones (r : ByteArray) : Nat := ((List.range' 1 r.size).filter (pl r)).length
theorem count_all : all_rivs (fun p n => Lib.countByte (riv p n).data.toList 111 == stones (riv p n)) = true := by decide +kernel
theorem count_eq (p n : Nat) (h1 : 1 ≤ p) (h2 : p ≤ 8) (h3 : n < 2 ^ p) : strings_Count.f (riv p n) (⟨#[111]⟩ : ByteArray) = some ((stones (riv p n) : Nat) : Int) := by
  have h := all_rivs_at count_all h1 h2 h3
  rw [beq_iff_eq] at h
  rw [← h]
  rfl
theorem stones_l0 (r : ByteArray) (hr : r.size ≤ 100) (e : Nat) : ∀ (i s : Nat), s ≤ i → i + e = r.size + 1 → Ev (fun k => spec_pzValue.l0 k r (s : Int) (i : Int)) ((s + ((List.range' i e).filter (pl r)).length : Nat) : Int) := by
  induction e with
  | zero =>
    intro i s hs hi
    refine Ev.step (fun k => by rw [spec_pzValue.l0]) ?_
    exact evNeg (by omega) (evSome rfl)
  | succ e ih =>
    intro i s hs hi
    refine Ev.step (fun k => by rw [spec_pzValue.l0]) ?_
    rw [i1 i (by omega), i1 s (by omega), List.range'_succ]
    refine evPos (by omega) (evBind0 (rvStand_eq r hr i (by omega)) ?_)
    cases hp : pl r i with
    | true =>
      rw [List.filter_cons_of_pos hp, List.length_cons]
      refine evPos rfl (evEq (ih (i + 1) (s + 1) (by omega) (by omega)) ?_)
      congr 1
      omega
    | false =>
      rw [List.filter_cons_of_neg (by rw [hp]; exact Bool.false_ne_true)]
      exact evNeg (by simp) (ih (i + 1) s (by omega) (by omega))
/-- What a clue of a kind, with a number, tells of a river. -/
def valOf (r : ByteArray) (kind a : Int) : Int :=
  if kind = 0 then (stones r : Nat) else if kind = 1 then (if pl r a.toNat = true then 1 else 0) else if kind = 2 then mx 0 (rd (lfT r a (r.size + 2)) 0) else
  if kind = 3 then (gapOf 0 0 0 ((List.range' 1 (r.size + 1)).filter (pl r))).1 else if kind = 4 then wsum 0 (rowOf (r.size + 2) (waysF r a)) else (gapOf 0 0 0 ((List.range' 1 (r.size + 1)).filter (pl r))).2
/-- What a clue's numbers are. -/
theorem okClue_in (p : Nat) (c : S25) (h : okClue (p : Int) c = true) : (c.f0 = 1 → 1 ≤ c.f1 ∧ c.f1 ≤ (p : Int)) ∧ (c.f0 = 2 → 1 ≤ c.f1 ∧ c.f1 ≤ 9) ∧ (c.f0 = 4 → 1 ≤ c.f1 ∧ c.f1 ≤ 9) := by
  unfold okClue clueB inB at h
  refine ⟨fun e => ?_, fun e => ?_, fun e => ?_⟩ <;> simp [e] at h <;> omega
theorem value_ev (p n : Nat) (h1 : 1 ≤ p) (h2 : p ≤ 8) (c : S25) (h : okClue (p : Int) c = true) : Ev (fun k => spec_pzValue.f k c.f0 c.f1 (riv p n)) (valOf (riv p n) c.f0 c.f1) := by
  obtain ⟨q1, q2, q4⟩ := okClue_in p c h
  have hs := riv_size p n
  generalize riv p n = r at *
  unfold spec_pzValue.f valOf
  refine evSplit (fun e => ?_) (fun e => ?_)
  · rw [if_pos e]
    refine evEq (stones_l0 r (by omega) r.size 1 0 (by omega) (by omega)) ?_
    unfold stones
    rw [Nat.zero_add]
  rw [if_neg e]
  refine evSplit (fun e => ?_) (fun e => ?_)
  · rw [if_pos e]
    obtain ⟨a1, a2⟩ := q1 e
    obtain ⟨x, hx⟩ : ∃ x : Nat, c.f1 = (x : Int) := ⟨c.f1.toNat, by omega⟩
    rw [hx, Int.toNat_natCast]
    refine evBind0 (rvStand_eq r (by omega) x (by omega)) ?_
    refine evSplit (fun e => ?_) (fun e => ?_)
    · rw [if_pos e]; exact evSome rfl
    · rw [if_neg e]; exact evSome rfl
  rw [if_neg e]
  refine evSplit (fun e => ?_) (fun e => ?_)
  · rw [if_pos e]
    obtain ⟨a1, a2⟩ := q2 e
    refine Ev.bind (rvLeft_ev r (by omega) c.f1 (by omega) (by omega)) (evPos (by rw [lfT_len]; omega) (evBind0 (most_eq _ _) (evSome rfl)))
  rw [if_neg e]
  refine evSplit (fun e => ?_) (fun e => ?_)
  · rw [if_pos e]
    exact Ev.bind (rvGap_ev r (by omega)) (evSome rfl)
  rw [if_neg e]
  refine evSplit (fun e => ?_) (fun e => ?_)
  · rw [if_pos e]
    obtain ⟨a1, a2⟩ := q4 e
    refine Ev.bind (rvCount_ev r (by omega) c.f1 a1 (by omega)) ?_
    have h := value_l1 (rowOf (r.size + 2) (waysF r c.f1)) (by rw [rowOf_len]; omega) _ 0 0 (Nat.zero_add _)
    rw [List.drop_zero] at h
    exact h
  rw [if_neg e]
  exact Ev.bind (rvGap_ev r (by omega)) (evSome rfl)
theorem told_ev (p n : Nat) (h1 : 1 ≤ p) (h2 : p ≤ 8) (h3 : n < 2 ^ p) (c : S25) (h : okClue (p : Int) c = true) : Ev (fun k => impl_told.f k c.f0 c.f1 (riv p n)) (valOf (riv p n) c.f0 c.f1) := by
  obtain ⟨q1, q2, q4⟩ := okClue_in p c h
  have hs := riv_size p n
  have hcn := count_eq p n h1 h2 h3
  generalize riv p n = r at *
  unfold impl_told.f valOf
  refine Ev.bind (longestGap_ev r (by omega)) ?_
  refine evSplit (fun e => ?_) (fun e => ?_)
  · rw [if_pos e]
    exact evBind0 hcn (evSome rfl)
  rw [if_neg e]
  refine evSplit (fun e => ?_) (fun e => ?_)
  · rw [if_pos e]
    obtain ⟨a1, a2⟩ := q1 e
    obtain ⟨x, hx⟩ : ∃ x : Nat, c.f1 = (x : Int) := ⟨c.f1.toNat, by omega⟩
    rw [hx, Int.toNat_natCast, w64 (x := (x : Int) - 1) (by omega) (by omega)]
    refine evPos (by omega) (evPos (by omega) ?_)
    have hb : pl r x = (bt r ((x : Int) - 1) == 111) := by
      unfold pl
      rw [decide_eq_false (by omega), decide_eq_false (by omega)]
      rfl
    rw [hb]
    unfold impl_bit.f
    refine Ev.bind (a := if (bt r ((x : Int) - 1) == 111) = true then 1 else 0) ?_ (evSome rfl)
    refine evSplit (fun e => ?_) (fun e => ?_)
    · rw [if_pos e]; exact evSome rfl
    · rw [if_neg e]; exact evSome rfl
  rw [if_neg e]
  refine evSplit (fun e => ?_) (fun e => ?_)
  · rw [if_pos e]
    obtain ⟨a1, a2⟩ := q2 e
    exact Ev.bind (leapsLeft_ev r (by omega) c.f1 (by omega) (by omega)) (evPos (by rw [lfT_len]; omega) (evSome rfl))
  rw [if_neg e]
  refine evSplit (fun e => ?_) (fun e => ?_)
  · rw [if_pos e]
    exact evSome rfl
  rw [if_neg e]
  refine evSplit (fun e => ?_) (fun e => ?_)
  · rw [if_pos e]
    obtain ⟨a1, a2⟩ := q4 e
    refine Ev.bind (countBy_ev r (by omega) c.f1 a1 (by omega)) (Ev.bind (sum_ev _ (by rw [rowOf_len]; omega)) (evSome ?_))
    exact ways_sum r (by omega) c.f1 a1
  rw [if_neg e]
  exact evSome rfl
/-- Whether a river fits a clue. -/
def fitsB (r : ByteArray) (c : S25) : Bool := valOf r c.f0 c.f1 == c.f2
theorem fits_spec (p n : Nat) (h1 : 1 ≤ p) (h2 : p ≤ 8) (c : S25) (h : okClue (p : Int) c = true) : Ev (fun k => spec_pzFits.f k c.f0 c.f1 c.f2 (riv p n)) (fitsB (riv p n) c) := by
  unfold spec_pzFits.f
  exact Ev.bind (value_ev p n h1 h2 c h) (evSome rfl)
theorem fits_impl (p n : Nat) (h1 : 1 ≤ p) (h2 : p ≤ 8) (h3 : n < 2 ^ p) (c : S25) (h : okClue (p : Int) c = true) : Ev (fun k => impl_Clue_fits.f k c.f0 c.f1 c.f2 (riv p n)) (fitsB (riv p n) c) := by
  unfold impl_Clue_fits.f
  exact Ev.bind (told_ev p n h1 h2 h3 c h) (evSome rfl)
end Go.Proofs.Ytonifgfgeollaaa.X
end
section
/- All rivers that fit some clues: the program and the reference. -/
--! needs LBase LPzClue LPzGood LRiv spec_pzAll spec_pzRiver impl_solutions_1 slices_IndexFunc_Clue__solutions_1 slices_ContainsFunc_Clue__solutions_1 impl_solutions
namespace Go.Proofs.Ytonifgfgeollaaa.X
open Go.Proofs.Ytonifgfgeollaaa.Sq Go.RowKit Go.Proofs.YtonifgfgeollaaaW.PrintWords Go.Proofs.YtonifgfgeollaaaW.PrintLast Go.Proofs.YtonifgfgeollaaaW.PrintMore
attribute [local go_sem] max2_int min2_int max_two min_two max_three min_three max_four min_four   -- for this text's walks alone
set_option linter.unusedVariables false
set_option linter.unusedSimpArgs false
theorem bytes_ext {a b : ByteArray} (h : (a.data.toList == b.data.toList) = true) : a = b := by
  rw [beq_iff_eq] at h
  obtain ⟨⟨x⟩⟩ := a
  obtain ⟨⟨y⟩⟩ := b
  obtain rfl : x = y := h
  rfl
theorem river_all : all_rivs (fun p n => match spec_pzRiver.f 20 (p : Int) (n : Int) with | some r => r.data.toList == (riv p n).data.toList | none => false) = true := by decide +kernel
theorem river_ev (p n : Nat) (h1 : 1 ≤ p) (h2 : p ≤ 8) (h3 : n < 2 ^ p) : Ev (fun k => spec_pzRiver.f k (p : Int) (n : Int)) (riv p n) := by
  have h := all_rivs_at river_all h1 h2 h3
  cases hr : spec_pzRiver.f 20 (p : Int) (n : Int) with
  | none => rw [hr] at h; cases h
  | some r =>
    rw [hr] at h
    rw [← bytes_ext h]
    exact Ev.of (spec_pzRiver.mono _ _) hr
def dgN (n k : Nat) : Int := Go.bits .and .i64 (shr .i64 (n : Int) (k : Int)) 1
def dgs (p n i : Nat) : List Int := (List.range i).map fun j => bt (⟨#[46, 111]⟩ : ByteArray) (dgN n (p - 1 - j))
theorem dgN_all : ((List.range 256).all fun n => (List.range 8).all fun k => decide (0 ≤ dgN n k ∧ dgN n k < 2)) = true := by decide +kernel
theorem dgN_in (n k : Nat) (hn : n < 256) (hk : k < 8) : 0 ≤ dgN n k ∧ dgN n k < 2 := by
  have h := dgN_all
  rw [List.all_eq_true] at h
  have h2 := h n (List.mem_range.2 hn)
  rw [List.all_eq_true] at h2
  exact of_decide_eq_true (h2 k (List.mem_range.2 hk))
theorem signs_all : all_rivs (fun p n => (strOfNums (dgs p n p)).data.toList == (riv p n).data.toList) = true := by decide +kernel
theorem signs_eq (p n : Nat) (h1 : 1 ≤ p) (h2 : p ≤ 8) (h3 : n < 2 ^ p) : strOfNums (dgs p n p) = riv p n := bytes_ext (all_rivs_at signs_all h1 h2 h3)
theorem two_p (p : Nat) (h1 : 1 ≤ p) (h2 : p ≤ 8) : shl .i64 1 (p : Int) = ((2 ^ p : Nat) : Int) ∧ 2 ^ p ≤ 256 := by
  obtain rfl | rfl | rfl | rfl | rfl | rfl | rfl | rfl : p = 1 ∨ p = 2 ∨ p = 3 ∨ p = 4 ∨ p = 5 ∨ p = 6 ∨ p = 7 ∨ p = 8 := by omega
  all_goals decide +kernel
/-- All rivers that fit, in order: those with a number below m. -/
def solsTo (p : Nat) (l : List S25) (m : Nat) : List ByteArray := ((List.range m).filter fun n => l.all (fitsB (riv p n))).map (riv p)
def sols (p : Nat) (l : List S25) : List ByteArray := solsTo p l (2 ^ p)
theorem solsTo_len (p : Nat) (l : List S25) (m : Nat) : (solsTo p l m).length ≤ m := by
  unfold solsTo
  rw [List.length_map]
  have := List.length_filter_le (fun n => l.all (fitsB (riv p n))) (List.range m)
  rw [List.length_range] at this
  exact this
theorem solsTo_next (p : Nat) (l : List S25) (m : Nat) : solsTo p l (m + 1) = if l.all (fitsB (riv p m)) = true then solsTo p l m ++ [riv p m] else solsTo p l m := by
  unfold solsTo
  rw [List.range_succ, List.filter_append, List.map_append]
  split
  · rename_i h
    rw [List.filter_cons_of_pos (p := fun n => l.all (fitsB (riv p n))) h]
    rfl
  · rename_i h
    rw [List.filter_cons_of_neg (p := fun n => l.all (fitsB (riv p n))) h]
    simp
/-! ### The reference -/
theorem all_l1 (p : Nat) (h1 : 1 ≤ p) (h2 : p ≤ 8) (l : List S25) (hl : l.length ≤ 6) (hok : ∀ c ∈ l, okClue (p : Int) c = true) (n : Nat) (hn : n < 2 ^ p) (out : List ByteArray) (ho : out.length ≤ 256) (res : List ByteArray) (e : Nat) : ∀ (i : Nat) (b : Bool), i + e = l.length →
    Ev (fun k => spec_pzAll.l0 k (p : Int) l (if (b && (l.drop i).all (fitsB (riv p n))) = true then out ++ [riv p n] else out) ((n + 1 : Nat) : Int)) res →
    Ev (fun k => spec_pzAll.l1 k (p : Int) l out (n : Int) (riv p n) b l (l.length : Int) (i : Int)) res := by
  have h256 := (two_p p h1 h2).2
  induction e with
  | zero =>
    intro i b hi h
    rw [List.drop_of_length_le (by omega)] at h
    refine Ev.step (fun k => by rw [spec_pzAll.l1]) ?_
    rw [i1 n (by omega)]
    refine evNeg (by omega) ?_
    cases b with
    | true => exact evPos rfl (evPos (by omega) h)
    | false => exact evNeg (by simp) h
  | succ e ih =>
    intro i b hi h
    have hd : l.drop i = rd_T25 l i :: l.drop (i + 1) := getD_drop_cons l i z25 (by omega)
    have hmem : rd_T25 l i ∈ l := by
      have e : rd_T25 l i = l[i]'(by omega) := (getElem_getD l i z25 (by omega)).symm
      rw [e]
      exact List.getElem_mem (by omega)
    refine Ev.step (fun k => by rw [spec_pzAll.l1]) ?_
    rw [i1 i (by omega)]
    refine evPos (by omega) (evPos (by omega) (evPos (by omega) ?_))
    rw [hd, List.all_cons] at h
    cases b with
    | true =>
      refine evPos rfl (Ev.bind (fits_spec p n h1 h2 _ (hok _ hmem)) (ih (i + 1) _ (by omega) ?_))
      simpa using h
    | false =>
      refine evNeg (by simp) (ih (i + 1) false (by omega) ?_)
      simpa using h
theorem all_l0 (p : Nat) (h1 : 1 ≤ p) (h2 : p ≤ 8) (l : List S25) (hl : l.length ≤ 6) (hok : ∀ c ∈ l, okClue (p : Int) c = true) (e : Nat) : ∀ n : Nat, n + e = 2 ^ p → Ev (fun k => spec_pzAll.l0 k (p : Int) l (solsTo p l n) (n : Int)) (sols p l) := by
  obtain ⟨hsh, h256⟩ := two_p p h1 h2
  induction e with
  | zero =>
    intro n hn
    refine Ev.step (fun k => by rw [spec_pzAll.l0]) ?_
    rw [hsh]
    refine evPos (by omega) (evNeg (by omega) (evSome ?_))
    rw [Nat.add_zero] at hn
    rw [hn]
    rfl
  | succ e ih =>
    intro n hn
    refine Ev.step (fun k => by rw [spec_pzAll.l0]) ?_
    rw [hsh]
    refine evPos (by omega) (evPos (by omega) (Ev.bind (river_ev p n h1 h2 (by omega)) ?_))
    have hlen := solsTo_len p l n
    refine all_l1 p h1 h2 l hl hok n (by omega) _ (by omega) _ l.length 0 true (Nat.zero_add _) ?_
    have h := ih (n + 1) (by omega)
    rw [solsTo_next] at h
    simpa using h
theorem all_ev (p : Nat) (h1 : 1 ≤ p) (h2 : p ≤ 8) (l : List S25) (hl : l.length ≤ 6) (hok : ∀ c ∈ l, okClue (p : Int) c = true) : Ev (fun k => spec_pzAll.f k (p : Int) l) (sols p l) := by
  unfold spec_pzAll.f
  exact all_l0 p h1 h2 l hl hok (2 ^ p) 0 (Nat.zero_add _)
/-! ### The program -/
theorem solutions_1_ev (p n : Nat) (h1 : 1 ≤ p) (h2 : p ≤ 8) (h3 : n < 2 ^ p) (c : S25) (h : okClue (p : Int) c = true) : Ev (fun k => impl_solutions_1.f k c.f0 c.f1 c.f2 (riv p n)) (!fitsB (riv p n) c) := by
  unfold impl_solutions_1.f
  exact Ev.bind (fits_impl p n h1 h2 h3 c h) (evSome rfl)
theorem IndexSol_l0 (p n : Nat) (h1 : 1 ≤ p) (h2 : p ≤ 8) (h3 : n < 2 ^ p) (l : List S25) (hl : l.length ≤ 6) (hok : ∀ c ∈ l, okClue (p : Int) c = true) (e : Nat) : ∀ i : Nat, i + e = l.length →
    ∃ r, Ev (fun k => slices_IndexFunc_Clue__solutions_1.l0 k l (l.length : Int) (i : Int) (riv p n)) r ∧ (decide (r ≥ 0) = !(l.drop i).all (fitsB (riv p n))) := by
  induction e with
  | zero =>
    intro i hi
    refine ⟨-1, ?_, ?_⟩
    · refine Ev.step (fun k => by rw [slices_IndexFunc_Clue__solutions_1.l0]) ?_
      exact evNeg (by omega) (evSome rfl)
    · rw [List.drop_of_length_le (by omega)]; rfl
  | succ e ih =>
    intro i hi
    have hd : l.drop i = rd_T25 l i :: l.drop (i + 1) := getD_drop_cons l i z25 (by omega)
    have hmem : rd_T25 l i ∈ l := by
      have e : rd_T25 l i = l[i]'(by omega) := (getElem_getD l i z25 (by omega)).symm
      rw [e]
      exact List.getElem_mem (by omega)
    have h4 := solutions_1_ev p n h1 h2 h3 _ (hok _ hmem)
    cases hb : fitsB (riv p n) (rd_T25 l i) with
    | true =>
      obtain ⟨r, hr, hr2⟩ := ih (i + 1) (by omega)
      rw [hb] at h4
      refine ⟨r, ?_, ?_⟩
      · refine Ev.step (fun k => by rw [slices_IndexFunc_Clue__solutions_1.l0]) ?_
        rw [i1 i (by omega)]
        refine evPos (by omega) (evPos (by omega) (evPos (by omega) (Ev.bind h4 (evNeg (by simp) hr))))
      · rw [hr2, hd, List.all_cons, hb]; rfl
    | false =>
      rw [hb] at h4
      refine ⟨(i : Int), ?_, ?_⟩
      · refine Ev.step (fun k => by rw [slices_IndexFunc_Clue__solutions_1.l0]) ?_
        refine evPos (by omega) (evPos (by omega) (evPos (by omega) (Ev.bind h4 (evPos (by simp) (evSome rfl)))))
      · rw [hd, List.all_cons, hb]
        simp
theorem ContainsSol_ev (p n : Nat) (h1 : 1 ≤ p) (h2 : p ≤ 8) (h3 : n < 2 ^ p) (l : List S25) (hl : l.length ≤ 6) (hok : ∀ c ∈ l, okClue (p : Int) c = true) : Ev (fun k => slices_ContainsFunc_Clue__solutions_1.f k l (riv p n)) (!l.all (fitsB (riv p n))) := by
  obtain ⟨r, hr, hr2⟩ := IndexSol_l0 p n h1 h2 h3 l hl hok l.length 0 (Nat.zero_add _)
  unfold slices_ContainsFunc_Clue__solutions_1.f slices_IndexFunc_Clue__solutions_1.f
  refine Ev.bind hr (evSome ?_)
  rw [hr2, List.drop_zero]
theorem sol_l1 (p n : Nat) (h1 : 1 ≤ p) (h2 : p ≤ 8) (h3 : n < 2 ^ p) (l : List S25) (hl : l.length ≤ 6) (hok : ∀ c ∈ l, okClue (p : Int) c = true) (out : List ByteArray) (ho : out.length ≤ 256) (m : Int) (res : List ByteArray)
    (h : Ev (fun k => impl_solutions.l0 k (p : Int) l (if l.all (fitsB (riv p n)) = true then out ++ [riv p n] else out) m ((n + 1 : Nat) : Int)) res) (e : Nat) : ∀ i : Nat, i + e = p →
    Ev (fun k => impl_solutions.l1 k (p : Int) l out (n : Int) (dgs p n i) ((p : Int) - 1 - (i : Int)) m (n : Int)) res := by
  have h256 := (two_p p h1 h2).2
  induction e with
  | zero =>
    intro i hi
    obtain rfl : i = p := by omega
    refine Ev.step (fun k => by rw [impl_solutions.l1]) ?_
    rw [i1 n (by omega), signs_eq i n h1 h2 h3]
    refine evNeg (by omega) (Ev.bind (ContainsSol_ev i n h1 h2 h3 l hl hok) ?_)
    cases hb : l.all (fitsB (riv i n)) with
    | true =>
      rw [if_pos hb] at h
      exact evNeg (by simp) (evPos (by omega) h)
    | false =>
      rw [if_neg (by rw [hb]; exact Bool.false_ne_true)] at h
      exact evPos rfl h
  | succ e ih =>
    intro i hi
    have h5 := ih (i + 1) (by omega)
    have hlen : (dgs p n i).length = i := by simp [dgs]
    have hk : ((p : Int) - 1 - (i : Int)) = ((p - 1 - i : Nat) : Int) := by omega
    have hin := dgN_in n (p - 1 - i) (by omega) (by omega)
    have hnext : dgs p n (i + 1) = dgs p n i ++ [bt (⟨#[46, 111]⟩ : ByteArray) (dgN n (p - 1 - i))] := by
      unfold dgs
      rw [List.range_succ, List.map_append]
      rfl
    rw [hnext] at h5
    refine Ev.step (fun k => by rw [impl_solutions.l1]) ?_
    rw [w64 (x := (p : Int) - 1 - (i : Int) - 1) (by omega) (by omega), show (p : Int) - 1 - (i : Int) - 1 = (p : Int) - 1 - ((i + 1 : Nat) : Int) by omega, hk]
    exact evPos (by omega) (evPos (by omega) (evPos hin.1 (evPos hin.2 (evPos (by omega) h5))))
theorem sol_l0 (p : Nat) (h1 : 1 ≤ p) (h2 : p ≤ 8) (l : List S25) (hl : l.length ≤ 6) (hok : ∀ c ∈ l, okClue (p : Int) c = true) (e : Nat) : ∀ n : Nat, n + e = 2 ^ p → Ev (fun k => impl_solutions.l0 k (p : Int) l (solsTo p l n) ((2 ^ p : Nat) : Int) (n : Int)) (sols p l) := by
  have h256 := (two_p p h1 h2).2
  induction e with
  | zero =>
    intro n hn
    refine Ev.step (fun k => by rw [impl_solutions.l0]) ?_
    refine evNeg (by omega) (evSome ?_)
    rw [Nat.add_zero] at hn
    rw [hn]
    rfl
  | succ e ih =>
    intro n hn
    refine Ev.step (fun k => by rw [impl_solutions.l0]) ?_
    refine evPos (by omega) ?_
    have hlen := solsTo_len p l n
    have h := ih (n + 1) (by omega)
    rw [solsTo_next] at h
    have h5 := sol_l1 p n h1 h2 (by omega) l hl hok (solsTo p l n) (by omega) ((2 ^ p : Nat) : Int) _ h p 0 (Nat.zero_add _)
    rw [w64 (x := (p : Int) - 1) (by omega) (by omega)]
    rw [show (p : Int) - 1 - ((0 : Nat) : Int) = (p : Int) - 1 by omega] at h5
    exact h5
theorem sol_ev (p : Nat) (h1 : 1 ≤ p) (h2 : p ≤ 8) (l : List S25) (hl : l.length ≤ 6) (hok : ∀ c ∈ l, okClue (p : Int) c = true) : Ev (fun k => impl_solutions.f k (p : Int) l) (sols p l) := by
  unfold impl_solutions.f
  rw [(two_p p h1 h2).1]
  exact evPos (by omega) (sol_l0 p h1 h2 l hl hok (2 ^ p) 0 (Nat.zero_add _))
theorem goodB_parts (q : Int) (l : List S25) (h : goodB q l = true) : ∃ p : Nat, q = (p : Int) ∧ 1 ≤ p ∧ p ≤ 8 ∧ l.length ≤ 6 ∧ ∀ c ∈ l, okClue (p : Int) c = true := by
  unfold goodB inB at h
  simp only [Bool.and_eq_true, decide_eq_true_eq, List.all_eq_true] at h
  obtain ⟨p, rfl⟩ : ∃ p : Nat, q = (p : Int) := ⟨q.toNat, by omega⟩
  exact ⟨p, rfl, by omega, by omega, h.1.2, h.2⟩
end Go.Proofs.Ytonifgfgeollaaa.X
end
section
/- A puzzle's solutions. -/
--! needs LBase LPzGood LSols impl_Solutions
namespace Go.Proofs.Ytonifgfgeollaaa.X
open Go.Proofs.Ytonifgfgeollaaa.Sq Go.RowKit Go.Proofs.YtonifgfgeollaaaW.PrintWords Go.Proofs.YtonifgfgeollaaaW.PrintLast Go.Proofs.YtonifgfgeollaaaW.PrintMore
attribute [local go_sem] max2_int min2_int max_two min_two max_three min_three max_four min_four   -- for this text's walks alone
set_option linter.unusedVariables false
set_option linter.unusedSimpArgs false
def solC (q : Int) (l : List S25) : List ByteArray := if goodB q l = true then sols q.toNat l else []
theorem Solutions_impl (q : Int) (l : List S25) : Ev (fun k => impl_Solutions.f k q l) (solC q l, goodB q l) := by
  unfold impl_Solutions.f solC
  refine Ev.bind (IsPuzzle_impl q l) ?_
  cases hg : goodB q l with
  | false => exact evNeg (by simp) (evSome rfl)
  | true =>
    obtain ⟨p, rfl, h1, h2, h3, h4⟩ := goodB_parts q l hg
    refine evPos rfl (Ev.bind (sol_ev p h1 h2 l h3 h4) (evSome ?_))
    rw [if_pos rfl, Int.toNat_natCast]
theorem all_spec (q : Int) (l : List S25) (hg : goodB q l = true) : Ev (fun k => spec_pzAll.f k q l) (solC q l) := by
  unfold solC
  rw [if_pos hg]
  obtain ⟨p, rfl, h1, h2, h3, h4⟩ := goodB_parts q l hg
  rw [Int.toNat_natCast]
  exact all_ev p h1 h2 l h3 h4
theorem solC_not (q : Int) (l : List S25) (hg : goodB q l = false) : solC q l = [] := by
  unfold solC
  rw [hg]
  rfl
end Go.Proofs.Ytonifgfgeollaaa.X
end
