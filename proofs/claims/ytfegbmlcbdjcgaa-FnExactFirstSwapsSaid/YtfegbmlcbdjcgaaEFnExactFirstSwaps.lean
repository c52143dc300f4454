/- The law over FirstSwaps, walked by hand: rows of rows are written. -/
--! fn laws.FnExactFirstSwaps|laws_FnExactFirstSwaps|rounds|making
--! uses laws.toIntS; spec.FirstSwaps; impl.FirstSwaps; laws.eqIntSS; laws.eqIntS; laws.markIntS; laws.markIntSS; laws.heldIntSS
import Derived.Test.YtfegbmlcbdjcgaaX0
import Derived.Test.YtfegbmlcbdjcgaaX1
import Derived.Test.YtfegbmlcbdjcgaaX5
import Derived.Test.YtfegbmlcbdjcgaaEFirstSwaps
import Derived.Test.YtfegbmlcbdjcgaaX8
import Derived.Test.YtfegbmlcbdjcgaaX9
import Derived.Test.YtfegbmlcbdjcgaaEMarkIntSS
import Derived.Test.YtfegbmlcbdjcgaaX10
namespace Go.Proofs.Ytfegbmlcbdjcgaa.X
open Go.Proofs.Ytfegbmlcbdjcgaa.Sq Go.RowKit Go.Proofs.YtfegbmlcbdjcgaaW.PrintWords Go.Proofs.YtfegbmlcbdjcgaaW.PrintLast Go.Proofs.YtfegbmlcbdjcgaaW.PrintMore
attribute [local go_sem] max2_int min2_int max_two min_two max_three min_three max_four min_four   -- for this text's walks alone
set_option linter.unusedVariables false
set_option linter.unusedSimpArgs false

def laws_FnExactFirstSwaps.f (k : Nat) (l0 : List Int) : Option Bool := if l0.length > 1048576 then some true else ((laws_toIntS.f k l0).bind fun x => ((spec_FirstSwaps.f k x).bind fun W => ((impl_FirstSwaps.f k x).bind fun G => (if G = W ∧ laws_eqIntSS.f k W.1 W.1 = some true ∧ laws_eqIntS.f k x x = some true then ((laws_markIntS.f k x 1).bind fun m => (if 0 ≤ m.1 then ((laws_markIntSS.f k W.1 1).bind fun M => (if laws_heldIntSS.f k M.2 1 = some M.1 ∧ 0 ≤ M.1 then some true else none)) else none)) else none))))
theorem FB_to {w w2 wa wb : World} (h : Below w.heap.size w wa) (hb : Below w2.heap.size w2 wa) (hw : w.heap.size ≤ w2.heap.size) (hn : Below w2.heap.size w2 wb) : Below w.heap.size w wb :=
  ⟨(hn.os.trans hb.os.symm).trans h.os, (hn.tape.trans hb.tape.symm).trans h.tape, (hn.output.trans hb.output.symm).trans h.output, Nat.le_trans hw hn.size, fun k hk => ((hn.block k (Nat.lt_of_lt_of_le hk hw)).trans (hb.block k (Nat.lt_of_lt_of_le hk hw)).symm).trans (h.block k hk)⟩
set_option maxHeartbeats 8000000 in
set_option maxRecDepth 100000 in
theorem laws_FnExactFirstSwaps.calls (k : Nat) (A0 : Option Addr) (c0 : Nat) (l0 : List Int) (r : Bool) (w : World) (hr0 : Kd.C (Kd.int .i64) w A0 l0.length l0) (hc0 : l0.length ≤ c0) (h : laws_FnExactFirstSwaps.f k l0 = some r) :
  Calls Try.prog 8 #[.slice A0 l0.length c0] w fun e w' => e = .returned (.bool r) ∧ Below w.heap.size w w' := by
  unfold laws_FnExactFirstSwaps.f at h
  have HR0 := am hr0
  by_cases hbig : l0.length > 1048576
  · rw [if_pos hbig] at h
    obtain rfl := Option.some.inj h
    have hd : decide (1048576 < l0.length) = true := decide_eq_true hbig
    have hd2 : decide ((1048576 : Int) < (l0.length : Int)) = true := decide_eq_true (by omega)
    clear h
    go_enter Try.func8, Try.ntmps8
    go_wp2
    go_ret
    exact ⟨rfl, Below.refl _ _⟩
  rw [if_neg hbig] at h
  have hd : decide (1048576 < l0.length) = false := decide_eq_false hbig
  have hd2 : decide ((1048576 : Int) < (l0.length : Int)) = false := decide_eq_false (by omega)
  obtain ⟨x, hx, h⟩ := Option.bind_eq_some_iff.1 h
  obtain ⟨⟨W1, W2⟩, hW, h⟩ := Option.bind_eq_some_iff.1 h
  obtain ⟨G, hG, h⟩ := Option.bind_eq_some_iff.1 h
  by_cases hc : G = (W1, W2) ∧ laws_eqIntSS.f k W1 W1 = some true ∧ laws_eqIntS.f k x x = some true
  rotate_left
  · rw [if_neg hc] at h
    cases h
  rw [if_pos hc] at h
  obtain ⟨rfl, hE, hEx⟩ := hc
  obtain ⟨⟨m1, m2⟩, hm, h⟩ := Option.bind_eq_some_iff.1 h
  by_cases hm0 : 0 ≤ m1
  rotate_left
  · rw [if_neg hm0] at h
    cases h
  rw [if_pos hm0] at h
  obtain ⟨⟨M1, M2⟩, hM, h⟩ := Option.bind_eq_some_iff.1 h
  by_cases hq : laws_heldIntSS.f k M2 1 = some M1 ∧ 0 ≤ M1
  rotate_left
  · rw [if_neg hq] at h
    cases h
  rw [if_pos hq] at h
  obtain rfl := Option.some.inj h
  obtain ⟨hH, hM0⟩ := hq
  have hm0d : decide (m1 < 0) = false := decide_eq_false (by omega)
  have hM0d : decide (M1 < 0) = false := decide_eq_false (by omega)
  clear h hr0 hbig
  have HX := am hx
  have HW := am hW
  have HG := am hG
  have HE := am hE
  have HEX := am hEx
  have HM := am hm
  have HMM := am hM
  have HH := am hH
  clear hx hW hG hE hEx hm hM hH
  go_enter Try.func8, Try.ntmps8
  -- the reference's
  go_wp2_with (go_at_call 11; (with_reducible refine (laws_toIntS.calls k _ _ l0 x _ HR0.out hc0 HX.out).mono ?_); rintro e w1 ⟨v1, rfl, h1, hb1⟩; obtain ⟨A1, c1, rfl, hl1, hC1⟩ := Kd.R_reads h1)
  go_wp2_with (go_at_call 27; (with_reducible refine (spec_FirstSwaps.calls k (fun _ => True) _ _ x W1 W2 _ (Kd.R_V h1) HW.out).mono ?_); rintro e w2 ⟨vW, rfl, h2, hb2⟩; obtain ⟨AW, cW, rfl⟩ := Kd.S_slice h2; have FW := am (Kd.S_mono (ok' := fun k_ => k_ < w2.heap.size) (Kd.S_bound h2) (fun _ hk => hk.2.2.1)); have FA := am (below_step hb1 hb2); clear h1 h2 hb1 hb2 hC1 hl1)
  go_wp2_with (go_at_call 11; (with_reducible refine (laws_toIntS.calls k _ _ l0 x _ (Kd.C_below HR0.out FA.out) hc0 HX.out).mono ?_); rintro e w3 ⟨v3, rfl, h3, hb3⟩; obtain ⟨A3, c3, rfl, hl3, hC3⟩ := Kd.R_reads h3; have FX := am (Kd.R_mono (ok' := fun k_ => w2.heap.size ≤ k_ ∧ k_ < w3.heap.size) (Kd.R_bound h3) (fun _ hk => ⟨hk.2.1, hk.2.2.1⟩)); have n0 := am (Kd.S_below FW.out hb3); have n1 := am (below_step FA.out hb3); have FB := am hb3; have HW12 := am (below_size FA.out); clear FW FA; have FW := n0; have FA := n1; clear n0 n1 h3 hb3 hC3)
  go_wp2_with (go_at_call 28; (with_reducible refine (impl_FirstSwaps.calls k _ _ x W1 W2 _ (Kd.R_reads' FX.out).2.2 hl3 HG.out).mono ?_); rintro e w4 ⟨vG, rfl, h4, hb4⟩; obtain ⟨AG, cG, rfl⟩ := Kd.S_slice h4; have FG := am (Kd.S_mono (ok' := fun k_ => w3.heap.size ≤ k_) (Kd.S_bound h4) (fun _ hk => hk.2.1)); have n0 := am (Kd.S_below FW.out hb4); have n1 := am (below_step FA.out hb4); have n2 := am (Kd.R_below FX.out hb4); have n3 := am (below_step FB.out hb4); have HS34 := am (below_size FB.out); clear FW FA FX FB; have FW := n0; have FA := n1; have FX := n2; have FB := n3; clear n0 n1 n2 n3 h4 hb4)
  go_wp2_with (go_at_call 24; (with_reducible refine (laws_eqIntSS.calls k _ _ W1 _ _ W1 true _ (Kd.S_reads' FG.out).2.2 (Kd.S_reads' FG.out).2.1 (Kd.S_reads' FW.out).2.2 (Kd.S_reads' FW.out).2.1 HE.out).mono ?_); rintro e w5 ⟨rfl, hd5⟩; have hb5 := hd5.below; have n0 := am (Kd.S_below FW.out hb5); have n1 := am (below_step FA.out hb5); have n2 := am (Kd.R_below FX.out hb5); have n3 := am (below_step FB.out hb5); have n4 := am (Kd.S_below FG.out hb5); clear FW FA FX FB FG; have FW := n0; have FA := n1; have FX := n2; have FB := n3; have FG := n4; clear n0 n1 n2 n3 n4 hd5 hb5)
  -- the argument, compared and written over
  go_wp2_with (go_at_call 11; (with_reducible refine (laws_toIntS.calls k _ _ l0 x _ (Kd.C_below HR0.out FA.out) hc0 HX.out).mono ?_); rintro e w6 ⟨v6, rfl, h6, hb6⟩; obtain ⟨A6, c6, rfl, hl6, hC6⟩ := Kd.R_reads h6; have n0 := am (Kd.S_below FW.out hb6); have n1 := am (below_step FA.out hb6); have n2 := am (Kd.R_below FX.out hb6); have n3 := am (below_step FB.out hb6); have n4 := am (Kd.S_below FG.out hb6); have FY := am h6; clear FW FA FX FB FG; have FW := n0; have FA := n1; have FX := n2; have FB := n3; have FG := n4; clear n0 n1 n2 n3 n4 h6 hb6 hC6)
  go_wp2_with (go_at_call 13; (with_reducible refine (laws_eqIntS.calls k _ _ x _ _ x true _ (Kd.R_reads' FX.out).2.2 (Kd.R_reads' FX.out).2.1 (Kd.R_reads' FY.out).2.2 (Kd.R_reads' FY.out).2.1 HEX.out).mono ?_); rintro e w7 ⟨rfl, hd7⟩; have hb7 := hd7.below; have n0 := am (Kd.S_below FW.out hb7); have n1 := am (below_step FA.out hb7); have n2 := am (Kd.R_below FX.out hb7); have n3 := am (below_step FB.out hb7); have n4 := am (Kd.S_below FG.out hb7); clear FW FA FX FB FG FY; have FW := n0; have FA := n1; have FX := n2; have FB := n3; have FG := n4; clear n0 n1 n2 n3 n4 hd7 hb7)
  go_wp2_with (go_at_call 16; (with_reducible refine (laws_markIntS.calls k _ _ x 1 m1 m2 w2 _ FB.out FX.out HM.out).mono ?_); rintro e w8 ⟨rfl, _, hb8, hk8⟩; have HS2 := am (below_size FB.out); have n0 := am (Kd.S_kept FW.out hk8 (fun k_ ho_ hs_ => Nat.not_lt.2 hs_.1 ho_)); have n4 := am (Kd.S_kept FG.out hk8 (fun k_ ho_ hs_ => Nat.not_lt.2 ho_ hs_.2)); have n1 := am (FB_to FA.out FB.out HW12.out hb8); have n3 := am hb8; clear FW FA FX FB FG; have FW := n0; have FA := n1; have FB := n3; have FG := n4; clear n0 n1 n3 n4 hb8 hk8)
  go_wp2_with (go_at_call 24; (with_reducible refine (laws_eqIntSS.calls k _ _ W1 _ _ W1 true _ (Kd.S_reads' FG.out).2.2 (Kd.S_reads' FG.out).2.1 (Kd.S_reads' FW.out).2.2 (Kd.S_reads' FW.out).2.1 HE.out).mono ?_); rintro e w9 ⟨rfl, hd9⟩; have hb9 := hd9.below; have n0 := am (Kd.S_below FW.out hb9); have n1 := am (below_step FA.out hb9); have n3 := am (below_step FB.out hb9); have n4 := am (Kd.S_below FG.out hb9); clear FW FA FB FG; have FW := n0; have FA := n1; have FB := n3; have FG := n4; clear n0 n1 n3 n4 hd9 hb9)
  -- what came back, written over and held
  go_wp2_with (go_at_call 25; (with_reducible refine (laws_markIntSS.calls k _ _ W1 1 M1 M2 w2 _ FB.out (Kd.S_lower FG.out HS34.out) HMM.out).mono ?_); rintro e w10 ⟨rfl, h10, hb10, hk10⟩; have n0 := am (Kd.S_kept FW.out hk10 (fun k_ ho_ hs_ => Nat.not_lt.2 (Nat.le_trans HS34.out hs_) ho_)); have n1 := am (FB_to FA.out FB.out HW12.out hb10); have n3 := am hb10; have n4 := am h10; clear FW FA FB FG; have FW := n0; have FA := n1; have FB := n3; have FG := n4; clear n0 n1 n3 n4 h10 hb10 hk10)
  have HML := am (Kd.S_reads' FG.out).1
  have n4 := FG.out
  rw [HML.out] at n4
  have n0 := am n4
  clear FG n4
  have FG := n0
  clear n0
  go_wp2_with (go_at_call 26; refine calls_of_args (args' := #[.slice AG M2.length cG, .int .i64 1]) (by rw [HML.out]) ?_; (with_reducible refine (laws_heldIntSS.calls k _ _ M2 1 M1 _ (Kd.S_reads' FG.out).2.2 (Kd.S_reads' FG.out).2.1 HH.out).mono ?_); rintro e w11 ⟨rfl, hd11⟩; have hb11 := hd11.below; have n0 := am (Kd.S_below FW.out hb11); have n1 := am (below_step FA.out hb11); have n4 := am (Kd.S_below FG.out hb11); clear FW FA FB FG; have FW := n0; have FA := n1; have FG := n4; clear n0 n1 n4 hd11 hb11)
  -- once more
  go_wp2_with (go_at_call 11; (with_reducible refine (laws_toIntS.calls k _ _ l0 x _ (Kd.C_below HR0.out FA.out) hc0 HX.out).mono ?_); rintro e w12 ⟨v12, rfl, h12, hb12⟩; obtain ⟨A12, c12, rfl, hl12, hC12⟩ := Kd.R_reads h12; have n0 := am (Kd.S_below FW.out hb12); have n1 := am (below_step FA.out hb12); have n4 := am (Kd.S_below FG.out hb12); clear FW FA FG; have FW := n0; have FA := n1; have FG := n4; have HC12 := am hC12; clear n0 n1 n4 h12 hb12 hC12)
  go_wp2_with (go_at_call 28; (with_reducible refine (impl_FirstSwaps.calls k _ _ x W1 W2 _ HC12.out hl12 HG.out).mono ?_); rintro e w13 ⟨vH, rfl, h13, hb13⟩; obtain ⟨AH, cH, rfl⟩ := Kd.S_slice h13; have n0 := am (Kd.S_below FW.out hb13); have n1 := am (below_step FA.out hb13); have n4 := am (Kd.S_below FG.out hb13); have FH := am h13; clear FW FA FG HC12; have FW := n0; have FA := n1; have FG := n4; clear n0 n1 n4 h13 hb13)
  go_wp2_with (go_at_call 24; (with_reducible refine (laws_eqIntSS.calls k _ _ W1 _ _ W1 true _ (Kd.S_reads' FH.out).2.2 (Kd.S_reads' FH.out).2.1 (Kd.S_reads' FW.out).2.2 (Kd.S_reads' FW.out).2.1 HE.out).mono ?_); rintro e w14 ⟨rfl, hd14⟩; have hb14 := hd14.below; have n1 := am (below_step FA.out hb14); have n4 := am (Kd.S_below FG.out hb14); clear FW FA FG FH; have FA := n1; have FG := n4; clear n1 n4 hd14 hb14)
  go_wp2_with (go_at_call 26; refine calls_of_args (args' := #[.slice AG M2.length cG, .int .i64 1]) (by rw [HML.out]) ?_; (with_reducible refine (laws_heldIntSS.calls k _ _ M2 1 M1 _ (Kd.S_reads' FG.out).2.2 (Kd.S_reads' FG.out).2.1 HH.out).mono ?_); rintro e w15 ⟨rfl, hd15⟩; have hb15 := hd15.below; have n1 := am (below_step FA.out hb15); clear FA FG; have FA := n1; clear n1 hd15 hb15)
  go_ret
  exact ⟨rfl, FA.out⟩
end Go.Proofs.Ytfegbmlcbdjcgaa.X
