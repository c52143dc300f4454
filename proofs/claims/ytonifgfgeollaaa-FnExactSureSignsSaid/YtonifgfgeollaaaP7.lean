import Derived.Test.YtonifgfgeollaaaP4
import Derived.Test.YtonifgfgeollaaaP5
import Derived.Test.YtonifgfgeollaaaP6
section
/- rvCount: the print's walk of a like function, the alias row tied by its cell. -/
--! fn spec.rvCount|spec_rvCount|rounds|making
--! uses spec.rvStand; spec.l1Most; spec.l1Least
namespace Go.Proofs.Ytonifgfgeollaaa.X
open Go.Proofs.Ytonifgfgeollaaa.Sq Go.RowKit Go.Proofs.YtonifgfgeollaaaW.PrintWords Go.Proofs.YtonifgfgeollaaaW.PrintLast Go.Proofs.YtonifgfgeollaaaW.PrintMore
attribute [local go_sem] max2_int min2_int max_two min_two max_three min_three max_four min_four   -- for this text's walks alone
set_option linter.unusedVariables false
set_option linter.unusedSimpArgs false
mutual
def spec_rvCount.l0 : Nat → ByteArray → Int → Int → List (List Int) → Int → Int → Option (List Int)
 | 0, _, _, _, _, _, _ => none
 | k + 1, x0, x1, x5, x6, x19, x20 => if x20 < x19 then (if 0 ≤ (wrap64 (x5 + 1)) then (if (wrap64 (x5 + 1) : Int).toNat ≤ 35184372088832 then (if 0 ≤ x20 then (if x20 < (x6.length : Int) then ((some (x6.set (x20 : Int).toNat (List.replicate (wrap64 (x5 + 1) : Int).toNat 0) : List (List Int))).bind fun y156 => (if x20 = 0 then (if 0 < ((rd_L3 y156 x20).length : Int) then (spec_rvCount.j1 k x0 x1 x5 (y156.set (x20 : Int).toNat ((rd_L3 y156 x20).set (0 : Int).toNat 1)) x20 x19 x20) else (none)) else (spec_rvCount.j1 k x0 x1 x5 y156 x20 x19 x20))) else (none)) else (none)) else (none)) else (none)) else (if 0 ≤ x5 then (if x5 < (x6.length : Int) then (some (rd_L3 x6 x5)) else (none)) else (none))
def spec_rvCount.j1 : Nat → ByteArray → Int → Int → List (List Int) → Int → Int → Int → Option (List Int)
 | 0, _, _, _, _, _, _, _ => none
 | k + 1, x0, x1, x5, x6, x7, x19, x20 => (spec_rvStand.f x0 x7).bind fun t162 => (if t162 = true then ((spec_l1Most.f 0 (wrap64 (x7 - x1))).bind fun t163 => (spec_rvCount.l1 k x0 x1 x5 x6 x7 t163 x19 x20)) else (spec_rvCount.l0 k x0 x1 x5 x6 x19 (wrap64 (x20 + 1))))
def spec_rvCount.l1 : Nat → ByteArray → Int → Int → List (List Int) → Int → Int → Int → Int → Option (List Int)
 | 0, _, _, _, _, _, _, _, _ => none
 | k + 1, x0, x1, x5, x6, x7, x9, x19, x20 => if x9 < x7 then (if 0 ≤ x9 then (if x9 < (x6.length : Int) then (if 0 ≤ x5 then (if x5 ≤ ((rd_L3 x6 x9).length : Int) then ((some ((rd_L3 x6 x9).take (x5 : Int).toNat : List Int)).bind fun y165 => (spec_rvCount.l2 k x0 x1 x5 x6 x7 x9 x19 x20 y165 (y165.length : Int) 0)) else (none)) else (none)) else (none)) else (none)) else (spec_rvCount.l0 k x0 x1 x5 x6 x19 (wrap64 (x20 + 1)))
def spec_rvCount.l2 : Nat → ByteArray → Int → Int → List (List Int) → Int → Int → Int → Int → List Int → Int → Int → Option (List Int)
 | 0, _, _, _, _, _, _, _, _, _, _, _ => none
 | k + 1, x0, x1, x5, x6, x7, x9, x19, x20, x55, x56, x57 => if x57 < x56 then (if 0 ≤ x57 then (if x57 < (x55.length : Int) then (if 0 ≤ x7 then (if x7 < (x6.length : Int) then (if 0 ≤ (wrap64 (x57 + 1)) then (if (wrap64 (x57 + 1)) < ((rd_L3 x6 x7).length : Int) then ((spec_l1Least.f (wrap64 ((rd (rd_L3 x6 x7) (wrap64 (x57 + 1))) + (rd x55 x57))) 1000000000000001).bind fun t173 => (spec_rvCount.l2 k x0 x1 x5 (x6.set (x7 : Int).toNat ((rd_L3 x6 x7).set ((wrap64 (x57 + 1)) : Int).toNat t173)) x7 x9 x19 x20 x55 x56 (wrap64 (x57 + 1)))) else (none)) else (none)) else (none)) else (none)) else (none)) else (none)) else (spec_rvCount.l1 k x0 x1 x5 x6 x7 (wrap64 (x9 + 1)) x19 x20)
end
def spec_rvCount.f (k : Nat) (a0 : ByteArray) (a1 : Int) : Option (List Int) := if 0 ≤ (wrap64 ((wrap64 ((a0.size : Int) + 1)) + 1)) then (if (wrap64 ((wrap64 ((a0.size : Int) + 1)) + 1) : Int).toNat ≤ 11728124029610 then ((some (List.replicate (wrap64 ((wrap64 ((a0.size : Int) + 1)) + 1) : Int).toNat [] : List (List Int))).bind fun y149 => (spec_rvCount.l0 k a0 a1 (wrap64 ((a0.size : Int) + 1)) y149 (y149.length : Int) 0)) else (none)) else (none)
theorem spec_rvCount.cS {W W' : World} {a : Addr} {v : Value} (h : W.cell? a = some v) [s : Pst W W'] : W'.cell? a = some v := (s.out.cell (World.block_lt_of_cell? W a h)).trans h
theorem spec_rvCount.cQ {W W' : World} {n : Nat} {a : Addr} {v : Value} (hq : World.drewN W n = W') (h : W.cell? a = some v) : W'.cell? a = some v := by subst hq; exact spec_rvCount.cS h
set_option maxHeartbeats 8000000 in
set_option maxRecDepth 100000 in
theorem spec_rvCount.calls (k : Nat) (a0 : ByteArray) (a1 : Int) (r : List Int) (w : World) (h : spec_rvCount.f k a0 a1 = some r) :
  Calls Try.prog 81 #[.string a0, .int .i64 a1] w fun e w' => ∃ v0_ : Value, e = .returned (v0_) ∧ Kd.R (Kd.int .i64) 3 w' w.heap.size (fun _ => True) v0_ r ∧ Below w.heap.size w w' := by
 have HB := am (Below.refl w.heap.size w)
 have H : (if 0 ≤ (wrap64 ((wrap64 ((a0.size : Int) + 1)) + 1)) then (if (wrap64 ((wrap64 ((a0.size : Int) + 1)) + 1) : Int).toNat ≤ 11728124029610 then ((some (List.replicate (wrap64 ((wrap64 ((a0.size : Int) + 1)) + 1) : Int).toNat [] : List (List Int))).bind fun y149 => (spec_rvCount.l0 k a0 a1 (wrap64 ((a0.size : Int) + 1)) y149 (y149.length : Int) 0)) else (none)) else (none)) = some r := h
 clear h
 obtain ⟨ji3, hji3⟩ : ∃ j_ : Int, (wrap64 ((wrap64 ((a0.size : Int) + 1)) + 1)) = j_ := ⟨_, rfl⟩
 replace H : (if 0 ≤ (ji3) then (if (ji3 : Int).toNat ≤ 11728124029610 then ((some (List.replicate (ji3 : Int).toNat [] : List (List Int))).bind fun y149 => (spec_rvCount.l0 k a0 a1 (wrap64 ((a0.size : Int) + 1)) y149 (y149.length : Int) 0)) else (none)) else (none)) = some r := by first | (rw [hji3] at H; exact H) | (simp only [hji3] at H ⊢; exact H)
 have hji3w : (IntKind.i64.wrap ((wrap64 ((a0.size : Int) + 1)) + 1)) = ji3 := (i64_w _).trans hji3
 by_cases c4 : 0 ≤ (ji3)
 ·rw [if_pos c4] at H
  have c4b0 := eq_true c4
  have c4b1 : decide (0 ≤ (ji3)) = true := decide_eq_true c4
  clear c4
  by_cases c5 : (ji3 : Int).toNat ≤ 11728124029610
  ·rw [if_pos c5] at H
   have c5b0 := eq_true c5
   have c5b1 : decide ((ji3 : Int).toNat ≤ 11728124029610) = true := decide_eq_true c5
   clear c5
   obtain ⟨y149, hy149⟩ : ∃ y_ : List (List Int), y_ = (List.replicate (ji3 : Int).toNat []) := ⟨_, rfl⟩
   replace H : (spec_rvCount.l0 k a0 a1 (wrap64 ((a0.size : Int) + 1)) y149 (y149.length : Int) 0) = some r := by first | (rw [hy149]; with_reducible exact H) | (have H2_ := (Option.bind_some _ _).symm.trans H; rw [hy149]; with_reducible exact H2_) | (have H2_ := (Option.bind_some _ _).symm.trans H; with_reducible exact H2_) | with_reducible exact H | (rw [hy149]; exact H) | exact H
   have Ny149 := am hy149
   clear hy149
   have H' := am H
   clear H
   go_enter Try.func81, Try.ntmps81
   go_wp2_with (first | ((with_reducible refine gate_dst (N := 17) rfl ?_); refine Kd.S_make (Kd.slice 3 (Kd.int .i64)) _ 51 rfl (N := 17) rfl 90 _ _ rfl ji3 rfl rfl Try.underlying90 (.slice none 0 0) 24 info51 rfl (by decide) (by omega) [] (ok := fun _ => True) (okp := fun _ => True) ⟨_, rfl, Kd.R_nil _ _ _ _ _⟩ (fun _ hk => hk) trivial (of_decide_eq_true (by first | (with_reducible assumption) | assumption)) (Nat.le_trans (Nat.mul_le_mul_right _ (of_decide_eq_true (by first | (with_reducible assumption) | assumption) : ji3.toNat ≤ 11728124029610)) (by omega)) (Below.refl _ _) (Nat.le_refl _) ?_; intro v150 w6 ho7 hb hg_ hnew_; clear hg_ hnew_; (first | rw [← Ny149.out] at ho7 | (simp only [Int.reduceToNat] at ho7; rw [← Ny149.out] at ho7)); have n0_ := am (Kd.S_lower ho7 (below_size (hbS HB.out))); have n1_ := am (below_step (hbS HB.out) hb); clear HB; have HO151 := n0_; have HB := n1_; clear n0_ n1_; clear hb ho7; obtain ⟨Ao8, co8, eo8⟩ := Kd.S_slice HO151.out; subst eo8))
   go_loopg [20] k (fun kq v20 w' => ∃ (x6_1 : List (List Int)) (x20_1 : Int), v20 = .int .i64 x20_1 ∧ Aside0 (spec_rvCount.l0 kq a0 a1 (wrap64 ((a0.size : Int) + 1)) x6_1 (y149.length : Int) x20_1 = some r) ∧ Aside0 (kq ≤ k) ∧ Aside0 (Kd.S (Kd.slice 3 (Kd.int .i64)) 51 w' w.heap.size (fun _ => True) (.slice Ao8 y149.length co8) x6_1) ∧ Aside0 (Below w.heap.size w w'))
   case atStart => exact ⟨(y149), (0), (by first | rfl | (simp; done) | (simp [*]; done)), H', ⟨Nat.le_refl _⟩, ⟨by (with_reducible repeat (first | apply Kd.S_alloc | apply Kd.S_drewN | apply Kd.S_drew)); exact HO151.out⟩, ⟨hbS HB.out⟩⟩
   case round =>
    clear H'
    try clear p2
    try clear c4
    try clear c4b0
    try clear c4b1
    try clear c5
    try clear c5b0
    try clear c5b1
    try clear p6
    try clear c8
    obtain ⟨x6_1, x20_1, rfl, HA, HK1, HO_6, HB⟩ := hrel
    have hl6_1 := (Kd.S_reads' HO_6.out).1
    rw [hl6_1] at HO_6
    (try simp only [hl6_1])
    cases gk with
    | zero => exact absurd HA.out (by simp [spec_rvCount.l0])
    | succ k1 =>
     have H := HA.out
     clear HA
     simp only [spec_rvCount.l0] at H
     by_cases c9 : x20_1 < (y149.length : Int)
     ·rw [if_pos c9] at H
      have c9b0 : decide (x20_1 < (y149.length : Int)) = true := decide_eq_true c9
      (try rw [hl6_1] at c9b0)
      clear c9
      obtain ⟨ji10, hji10⟩ : ∃ j_ : Int, (wrap64 ((wrap64 ((a0.size : Int) + 1)) + 1)) = j_ := ⟨_, rfl⟩
      replace H : (if 0 ≤ (ji10) then (if (ji10 : Int).toNat ≤ 35184372088832 then (if 0 ≤ x20_1 then (if x20_1 < (x6_1.length : Int) then ((some (x6_1.set (x20_1 : Int).toNat (List.replicate (ji10 : Int).toNat 0) : List (List Int))).bind fun y156 => (if x20_1 = 0 then (if 0 < ((rd_L3 y156 x20_1).length : Int) then (spec_rvCount.j1 k1 a0 a1 (wrap64 ((a0.size : Int) + 1)) (y156.set (x20_1 : Int).toNat ((rd_L3 y156 x20_1).set (0 : Int).toNat 1)) x20_1 (y149.length : Int) x20_1) else (none)) else (spec_rvCount.j1 k1 a0 a1 (wrap64 ((a0.size : Int) + 1)) y156 x20_1 (y149.length : Int) x20_1))) else (none)) else (none)) else (none)) else (none)) = some r := by first | (rw [hji10] at H; exact H) | (simp only [hji10] at H ⊢; exact H)
      have hji10w : (IntKind.i64.wrap ((wrap64 ((a0.size : Int) + 1)) + 1)) = ji10 := (i64_w _).trans hji10
      have hjj_ : ji10 = ji3 := hji10.symm.trans hji3
      subst hjj_
      by_cases c11 : 0 ≤ (ji10)
      ·rw [if_pos c11] at H
       have c11b0 := eq_true c11
       have c11b1 : decide (0 ≤ (ji10)) = true := decide_eq_true c11
       clear c11
       by_cases c12 : (ji10 : Int).toNat ≤ 35184372088832
       ·rw [if_pos c12] at H
        have c12b0 := eq_true c12
        have c12b1 : decide ((ji10 : Int).toNat ≤ 35184372088832) = true := decide_eq_true c12
        clear c12
        obtain ⟨y153, hy153⟩ : ∃ y_ : List Int, y_ = (List.replicate (ji10 : Int).toNat 0) := ⟨_, rfl⟩
        replace H : (if 0 ≤ x20_1 then (if x20_1 < (x6_1.length : Int) then ((some (x6_1.set (x20_1 : Int).toNat y153 : List (List Int))).bind fun y156 => (if x20_1 = 0 then (if 0 < ((rd_L3 y156 x20_1).length : Int) then (spec_rvCount.j1 k1 a0 a1 (wrap64 ((a0.size : Int) + 1)) (y156.set (x20_1 : Int).toNat ((rd_L3 y156 x20_1).set (0 : Int).toNat 1)) x20_1 (y149.length : Int) x20_1) else (none)) else (spec_rvCount.j1 k1 a0 a1 (wrap64 ((a0.size : Int) + 1)) y156 x20_1 (y149.length : Int) x20_1))) else (none)) else (none)) = some r := by first | (rw [hy153]; with_reducible exact H) | (have H2_ := (Option.bind_some _ _).symm.trans H; rw [hy153]; with_reducible exact H2_) | (have H2_ := (Option.bind_some _ _).symm.trans H; with_reducible exact H2_) | with_reducible exact H | (rw [hy153]; exact H) | exact H
        have Ny153 := am hy153
        clear hy153
        by_cases c13 : 0 ≤ x20_1
        ·rw [if_pos c13] at H
         have c13b0 : decide (0 ≤ x20_1) = true := decide_eq_true c13
         clear c13
         by_cases c14 : x20_1 < (x6_1.length : Int)
         ·rw [if_pos c14] at H
          have c14b0 : decide (x20_1 < (x6_1.length : Int)) = true := decide_eq_true c14
          clear c14
          obtain ⟨y156, hy156⟩ : ∃ y_ : List (List Int), y_ = (x6_1.set (x20_1 : Int).toNat y153) := ⟨_, rfl⟩
          replace H : (if x20_1 = 0 then (if 0 < ((rd_L3 y156 x20_1).length : Int) then (spec_rvCount.j1 k1 a0 a1 (wrap64 ((a0.size : Int) + 1)) (y156.set (x20_1 : Int).toNat ((rd_L3 y156 x20_1).set (0 : Int).toNat 1)) x20_1 (y149.length : Int) x20_1) else (none)) else (spec_rvCount.j1 k1 a0 a1 (wrap64 ((a0.size : Int) + 1)) y156 x20_1 (y149.length : Int) x20_1)) = some r := by first | (rw [hy156]; with_reducible exact H) | (have H2_ := (Option.bind_some _ _).symm.trans H; rw [hy156]; with_reducible exact H2_) | (have H2_ := (Option.bind_some _ _).symm.trans H; with_reducible exact H2_) | with_reducible exact H | (rw [hy156]; exact H) | exact H
          have Ny156 := am hy156
          clear hy156
          have HC16 := am H
          clear H
          go_upto_if 34 with (first | ((with_reducible refine gate_dst (N := 27) rfl ?_); refine Kd.R_make (Kd.int .i64) _ 3 rfl (N := 27) rfl 51 _ _ rfl ji10 rfl rfl Try.underlying51 (.int .i64 0) 8 info3 rfl (by decide) (by omega) 0 (ok := fun _ => True) (okp := fun _ => True) rfl (fun _ hk => hk) trivial (of_decide_eq_true (by first | (with_reducible assumption) | assumption)) (Nat.le_trans (Nat.mul_le_mul_right _ (of_decide_eq_true (by first | (with_reducible assumption) | assumption) : ji10.toNat ≤ 35184372088832)) (by omega)) (Below.refl _ _) (Nat.le_refl _) ?_; intro v154 w17 ho18 hb hg_ hnew_; clear hg_ hnew_; (first | rw [← Ny153.out] at ho18 | (simp only [Int.reduceToNat] at ho18; rw [← Ny153.out] at ho18)); have n0_ := am (Kd.S_elder' (by (with_reducible repeat (first | apply Kd.S_alloc | apply Kd.S_drewN | apply Kd.S_drew)); exact HO_6.out) (Kd.R_base ho18) hb); have n1_ := am (Kd.R_lower ho18 (below_size (hbS HB.out))); have n2_ := am (below_step (hbS HB.out) hb); clear HO_6; clear HB; have HO_6 := n0_; have HO155 := n1_; have HB := n2_; clear n0_ n1_ n2_; clear hb ho18; have p15 : 0 ≤ (x20_1 : Int) := of_decide_eq_true (by first | (with_reducible assumption) | assumption); have q15 : (x20_1 : Int) < ((x6_1.length : Int) : Int) := of_decide_eq_true (by first | (with_reducible assumption) | assumption); obtain ⟨go15, co15, eo15, gb15, gl15, cl15, HG15⟩ := Kd.S_form HO_6.out (by omega); (first | cases eo15 | (injection eo15 with ea_ en_ ec_; (first | subst ea_ | (injection ea_ with ea_; subst ea_)); subst ec_; clear en_)); have GB15 := am gb15; have GG15 := am HG15; clear gb15 gl15 HG15; obtain ⟨_, ce15, hcl15, hM15, hcc15, hfr15, _, _⟩ := Kd.S_elem HO_6.out [] (x20_1 : Int) p15 q15; obtain ⟨ve15_0, rfl, ge15_0⟩ := hM15; have hx15_0 := hcc15 0 _ rfl; have hf15_0 := hfr15 0; (try simp only [show ((Kd.slice 3 (Kd.int .i64))).sz = 1 from rfl, Nat.mul_one, Nat.add_zero] at hx15_0); (try simp only [show ((Kd.slice 3 (Kd.int .i64))).sz = 1 from rfl, Nat.mul_one, Nat.add_zero] at hf15_0); (try clear hM15); (try clear hcl15 hcc15 hfr15); replace p15 := eq_true p15; replace q15 := eq_true q15; have n_ := am (Kd.S_mono (ok' := (fun k_ => some k_ ≠ (v154 : Value).ownBlock)) HO_6.out (fun k_ hk => hk.2)); clear HO_6; have HO_6 := n_; clear n_; have HX19 := am (show Kd.S (Kd.slice 3 (Kd.int .i64)) 51 w17 w.heap.size (fun k_ => ((fun _ => True)) k_ ∧ ¬ ((fun k_ => some k_ = (v154 : Value).ownBlock)) k_) (.slice (some ⟨go15, 0, none⟩) x6_1.length co8) x6_1 from (by (with_reducible repeat (first | apply Kd.S_alloc | apply Kd.S_drewN | apply Kd.S_drew)); exact Kd.S_mono HO_6.out (fun k_ hk => ⟨trivial, fun e_ => hk e_⟩))); obtain ⟨oki19, ce19, hcl19, hM19, hcc19, hfr19, hoki19, hH19⟩ := Kd.S_elem HX19.out [] (x20_1 : Int) (of_decide_eq_true (by first | (with_reducible assumption) | assumption)) (by have h_ : (x20_1 : Int) < ((x6_1.length : Int) : Int) := of_decide_eq_true (by first | (with_reducible assumption) | assumption); first | exact h_ | (have e_ := (Kd.S_reads' HO_6.out).1; omega) | simpa using h_); obtain ⟨ve19_0, rfl, ge19_0⟩ := hM19; have HP19 := Kd.S_seg hH19 (of_decide_eq_true (by first | (with_reducible assumption) | assumption)) (by have h_ : (x20_1 : Int) < ((x6_1.length : Int) : Int) := of_decide_eq_true (by first | (with_reducible assumption) | assumption); first | exact h_ | (have e_ := (Kd.S_reads' HO_6.out).1; omega) | simpa using h_) (seg := [v154]) (j := 0) (show 1 ≤ 1 from by decide) (x' := y153) (Kd.M_row (Kd.R_mono (Kd.R_tight rfl (Kd.R_mono (ok' := fun k_ => ((fun _ => True)) k_ ∧ k_ ≠ go15) (Kd.R_apart' (HO155.out) (Kd.S_typed HO_6.out) (by decide)) (fun k_ hk => ⟨trivial, fun e_ => (hk.2) (by rw [e_]; rfl)⟩))) (fun _ h_ => Or.inr (h_)))) (fun _ hk => hk) (fun k_ hk_ => ((Kd.R_mono (ok' := fun k_ => ((fun _ => True)) k_ ∧ k_ ≠ go15) (Kd.R_apart' (HO155.out) (Kd.S_typed HO_6.out) (by decide)) (fun k_ hk => ⟨trivial, fun e_ => (hk.2) (by rw [e_]; rfl)⟩))).1 k_ hk_.symm); have hx19_0 := hcc19 0 _ rfl; (try simp only [show ((Kd.slice 3 (Kd.int .i64))).sz = 1 from rfl, Nat.mul_one, Nat.add_zero] at hx19_0); have hf19_0 := hfr19 0; (try simp only [show ((Kd.slice 3 (Kd.int .i64))).sz = 1 from rfl, Nat.mul_one, Nat.add_zero] at hf19_0); (try clear hM19); (try clear hcl19 hcc19 hfr19 hoki19 hH19); (try simp only [show ((Kd.slice 3 (Kd.int .i64))).sz = 1 from rfl, Nat.mul_one, Nat.add_zero] at HP19)) | ((with_reducible refine gate_store (t := 51) (p := 28) rfl ?_); refine store_event (t := 51) (p := 28) (v := ?vo_w20) (w1 := (w17.setCell ⟨go15, (x20_1 : Int).toNat, none⟩ (v154))) ?hg ?ho ?hn ?hr ?_; (case ho => rfl); (case hg => rfl); (case hn => rfl); (case hr => (obtain ⟨_, _, ev_⟩ := Kd.R_slice HO155.out; subst ev_; first | (go_simp; done) | (go_simp; rfl))); intro w20 hw; have hg : w17.grownBy w20 (some go15) := (by rw [hw]; exact HP19.2); have hp_ : Kd.S (Kd.slice 3 (Kd.int .i64)) 51 w20 w.heap.size (fun _ => True) (.slice (some ⟨go15, 0, none⟩) x6_1.length co8) y156 := (by rw [hw, Ny156.out]; exact HP19.1); clear HP19; have n0_ := am (hp_); have n1_ := am ((by rw [hw]; exact below_set (HB.out) GB15.out : Below w.heap.size w w20)); clear HO_6; clear HB; clear HO155; have HO_6 := n0_; have HB := n1_; clear n0_ n1_; clear hg hw hp_; have p157 : 0 ≤ (x20_1 : Int) := of_decide_eq_true (by first | (with_reducible assumption) | assumption); have q157 : x20_1 < (y156.length : Int) := (by have h_ : (x20_1 : Int) < ((x6_1.length : Int) : Int) := of_decide_eq_true (by first | (with_reducible assumption) | assumption); first | (have e_ := (Kd.S_reads' HO_6.out).1; omega) | simpa only [Ny156.out, List.length_set] using h_); have ql157 : ((x20_1 : Int) < ((x6_1.length : Int) : Int)) = True := eq_true (of_decide_eq_true (by first | (with_reducible assumption) | assumption)); obtain ⟨ad157, A157_0, c157_0, e157, hx157_0, hl157_0, hi157_0⟩ := at_L3 (Kd.S_reads' HO_6.out).2.2 x20_1 p157 q157; obtain rfl : (⟨go15, 0, none⟩ : Addr) = ad157 := (by injection e157); obtain ⟨ce157, hce157, hMe157, hcc157⟩ := Kd.S_get HO_6.out [] x20_1 p157 (by first | exact q157 | exact of_decide_eq_true (by first | (with_reducible assumption) | assumption) | (have e_ := (Kd.S_reads' HO_6.out).1; omega)); obtain ⟨ve157_0, rfl, ge157_0⟩ := hMe157; have hv157_0 := hcc157 0 _ rfl; rw [Nat.add_zero, show ((Kd.slice 3 (Kd.int .i64))).sz = 1 from rfl, Nat.mul_one] at hv157_0; replace hv157_0 := Option.some.inj (hv157_0.symm.trans hx157_0); rw [hv157_0] at ge157_0; have HL157_0 := am (show Kd.R (Kd.int .i64) 3 _ _ _ _ (rd_L3 y156 x20_1) from ge157_0); clear hv157_0 ge157_0; have HX157_0 := am hx157_0; clear hcc157 hce157; (first | simp only [add_plain] at hx157_0 | simp only [add_at] at hx157_0 | simp only [Addr.add, Nat.zero_add] at hx157_0 | skip); have HR157_0 := am hi157_0; have HC157_0 := am hl157_0; clear hi157_0 hl157_0; replace p157 := eq_true p157; replace q157 := eq_true q157))
          (try simp only [Act.put, List.setIfInBounds_toArray, List.set_cons_zero, List.set_cons_succ])
          go_cut [] (fun wc => ∃ (kq : Nat) (x6_15 : List (List Int)), Aside0 (spec_rvCount.j1 kq a0 a1 (wrap64 ((a0.size : Int) + 1)) x6_15 x20_1 (y149.length : Int) x20_1 = some r) ∧ Aside0 (kq ≤ k1) ∧ Aside0 (Kd.S (Kd.slice 3 (Kd.int .i64)) 51 wc w.heap.size (fun _ => True) (.slice (some ⟨go15, 0, none⟩) x6_1.length co8) x6_15) ∧ Aside0 (wc.cell? ((⟨go15, 0, none⟩ : Addr).add x20_1.toNat) = some (.slice A157_0 (rd_L3 y156 x20_1).length c157_0)) ∧ Aside0 (Below w.heap.size w wc))
          case first =>
           have H := HC16.out
           clear HC16
           by_cases c21 : x20_1 = 0
           ·rw [if_pos c21] at H
            have c21b0 : (x20_1 == 0) = true := beq_iff_eq.mpr c21
            have c21b1 : (x20_1 != 0) = false := bne_eq_false_iff_eq.mpr c21
            clear c21
            (first | rw [c21b0] | (simp only [i64_w, i32_w]; rw [c21b0]) | skip)
            by_cases c22 : 0 < ((rd_L3 y156 x20_1).length : Int)
            ·rw [if_pos c22] at H
             have c22b0 : decide (0 < ((rd_L3 y156 x20_1).length : Int)) = true := decide_eq_true c22
             have c22b1 : decide (0 < (rd_L3 y156 x20_1).length) = true := decide_eq_true (by omega)
             clear c22
             obtain ⟨y159, hy159⟩ : ∃ y_ : List Int, y_ = ((rd_L3 y156 x20_1).set (0 : Int).toNat 1) := ⟨_, rfl⟩
             replace H : (spec_rvCount.j1 k1 a0 a1 (wrap64 ((a0.size : Int) + 1)) (y156.set (x20_1 : Int).toNat y159) x20_1 (y149.length : Int) x20_1) = some r := by first | (rw [hy159]; with_reducible exact H) | (have H2_ := (Option.bind_some _ _).symm.trans H; rw [hy159]; with_reducible exact H2_) | (have H2_ := (Option.bind_some _ _).symm.trans H; with_reducible exact H2_) | with_reducible exact H | (rw [hy159]; exact H) | exact H
             have Ny159 := am hy159
             clear hy159
             obtain ⟨y161, hy161⟩ : ∃ y_ : List (List Int), y_ = (y156.set (x20_1 : Int).toNat y159) := ⟨_, rfl⟩
             replace H : (spec_rvCount.j1 k1 a0 a1 (wrap64 ((a0.size : Int) + 1)) y161 x20_1 (y149.length : Int) x20_1) = some r := by first | (rw [hy161]; with_reducible exact H) | (have H2_ := (Option.bind_some _ _).symm.trans H; rw [hy161]; with_reducible exact H2_) | (have H2_ := (Option.bind_some _ _).symm.trans H; with_reducible exact H2_) | with_reducible exact H | (rw [hy161]; exact H) | exact H
             have Ny161 := am hy161
             clear hy161
             have H' := am H
             clear H
             have p158 : 0 ≤ (x20_1 : Int) := of_decide_eq_true (by first | (with_reducible assumption) | assumption)
             have q158 : x20_1 < (y156.length : Int) := (by have h_ : (x20_1 : Int) < ((x6_1.length : Int) : Int) := of_decide_eq_true (by first | (with_reducible assumption) | assumption); first | (have e_ := (Kd.S_reads' HO_6.out).1; omega) | simpa only [Ny156.out, List.length_set] using h_)
             have ql158 : ((x20_1 : Int) < ((x6_1.length : Int) : Int)) = True := eq_true (of_decide_eq_true (by first | (with_reducible assumption) | assumption))
             obtain ⟨ad158, A158_0, c158_0, e158, hx158_0, hl158_0, hi158_0⟩ := at_L3 (Kd.S_reads' HO_6.out).2.2 x20_1 p158 q158
             obtain rfl : (⟨go15, 0, none⟩ : Addr) = ad158 := (by injection e158)
             obtain ⟨ce158, hce158, hMe158, hcc158⟩ := Kd.S_get HO_6.out [] x20_1 p158 (by first | exact q158 | exact of_decide_eq_true (by first | (with_reducible assumption) | assumption) | (have e_ := (Kd.S_reads' HO_6.out).1; omega))
             obtain ⟨ve158_0, rfl, ge158_0⟩ := hMe158
             have hv158_0 := hcc158 0 _ rfl
             rw [Nat.add_zero, show ((Kd.slice 3 (Kd.int .i64))).sz = 1 from rfl, Nat.mul_one] at hv158_0
             replace hv158_0 := Option.some.inj (hv158_0.symm.trans hx158_0)
             rw [hv158_0] at ge158_0
             have HL158_0 := am (show Kd.R (Kd.int .i64) 3 _ _ _ _ (rd_L3 y156 x20_1) from ge158_0)
             clear hv158_0 ge158_0
             have HX158_0 := am hx158_0
             clear hcc158 hce158
             (first | simp only [add_plain] at hx158_0 | simp only [add_at] at hx158_0 | simp only [Addr.add, Nat.zero_add] at hx158_0 | skip)
             have HR158_0 := am hi158_0
             have HC158_0 := am hl158_0
             clear hi158_0 hl158_0
             replace p158 := eq_true p158
             replace q158 := eq_true q158
             have ea_ := Option.some.inj (HX158_0.out.symm.trans HX157_0.out)
             injection ea_ with ea_ en_ ec_
             subst ea_
             subst ec_
             clear en_
             have p23 : 0 ≤ (0 : Int) := (by omega)
             have q23 : (0 : Int) < (((rd_L3 y156 x20_1).length : Int) : Int) := of_decide_eq_true (by first | (with_reducible assumption) | assumption)
             have qi23 : (0 < (rd_L3 y156 x20_1).length) = True := eq_true (by omega)
             obtain ⟨go23, co23, eo23, gb23, gl23, cl23, HG23⟩ := Kd.R_form HL158_0.out (by omega)
             (first | cases eo23 | (injection eo23 with ea_ en_ ec_; (first | subst ea_ | (injection ea_ with ea_; subst ea_)); subst ec_; clear en_))
             have GB23 := am gb23
             have GG23 := am HG23
             clear gb23 gl23 HG23
             obtain ⟨hx23_0, hf23_0⟩ := Kd.R_celln 0 HL158_0.out (0 : Int) p23 q23
             (try rw [show ((0 : Int)).toNat = 0 from rfl] at hx23_0)
             (try simp only [Nat.reduceMul, Nat.zero_mul, Nat.zero_add, Nat.reduceAdd] at hx23_0)
             (try rw [show ((0 : Int)).toNat = 0 from rfl] at hf23_0)
             (try simp only [Nat.reduceMul, Nat.zero_mul, Nat.zero_add, Nat.reduceAdd] at hf23_0)
             replace p23 := eq_true p23
             replace q23 := eq_true q23
             have hq24 : (x20_1 : Int) < (y156.length : Int) := (by have h_ : (x20_1 : Int) < ((x6_1.length : Int) : Int) := of_decide_eq_true (by first | (with_reducible assumption) | assumption); first | exact h_ | (have e_ := (Kd.S_reads' HO_6.out).1; omega) | simpa only [Ny156.out, List.length_set] using h_)
             obtain ⟨oki24, ce24, hcl24, hM24, hcc24, hok24, hbk24⟩ := Kd.S_borrow HO_6.out [] (x20_1 : Int) (of_decide_eq_true (by first | (with_reducible assumption) | assumption)) (by first | exact hq24 | exact of_decide_eq_true (by first | (with_reducible assumption) | assumption))
             obtain ⟨ve24_0, rfl, ge24_0⟩ := hM24
             have hv24 := hcc24 0 _ rfl
             rw [Nat.add_zero, show ((Kd.slice 3 (Kd.int .i64))).sz = 1 from rfl, Nat.mul_one] at hv24
             replace hv24 := Option.some.inj (hv24.symm.trans HX158_0.out)
             subst hv24
             clear hcc24 hcl24
             replace ge24_0 := (show Kd.R (Kd.int .i64) 3 _ _ _ _ (rd_L3 y156 x20_1) from ge24_0)
             have HP24 := Kd.R_putg ge24_0 (0 : Int) 1
             go_wp2_with (first | ((with_reducible refine gate_store (t := 3) (p := 36) rfl ?_); refine store_event (t := 3) (p := 36) (v := ?vo_w25) (w1 := (w20.setCell ⟨go23, 0, none⟩ (.int .i64 1))) ?hg ?ho ?hn ?hr ?_; (case ho => rfl); (case hg => rfl); (case hn => rfl); (case hr => first | (go_simp; done) | (go_simp; rfl)); intro w25 hw; have hg : w20.grownBy w25 (some go23) := (by rw [hw]; exact HP24.2); have hb_ := hok24 go23 (ge24_0.1 go23 rfl); have HXq := am ((World.cell?_of_block (hg.block _ (World.block_lt_of_cell? _ _ HX157_0.out) (fun e_ => hb_.2 (by rw [← e_]; simp only [Value.ownBlock, Addr.add]; try (split <;> rfl))))).trans HX157_0.out); clear hb_; have hz_ : Kd.R (Kd.int .i64) 3 w25 w.heap.size oki24 (.slice (some ⟨go23, 0, none⟩) (rd_L3 y156 x20_1).length c158_0) y159 := (by rw [hw, Ny159.out]; exact HP24.1); have hp_ : Kd.S (Kd.slice 3 (Kd.int .i64)) 51 w25 w.heap.size (fun _ => True) (.slice (some ⟨go15, 0, none⟩) x6_1.length co8) y161 := (by rw [Ny161.out]; exact hbk24 hg (fun k_ e_ => by injection e_ with e_; subst e_; exact ge24_0.1 _ rfl) (Kd.M_row hz_)); have hm_ := Kd.R_mono hz_ hok24; clear HP24 hbk24; have n0_ := am (hp_); have n1_ := am ((by rw [hw]; exact below_set (HB.out) GB23.out : Below w.heap.size w w25)); have n2_ := am (hm_); have n3_ := am ((Kd.R_reads' hm_).2.1); clear HO_6; clear HB; clear HL157_0; clear HL158_0; have HO_6 := n0_; have HB := n1_; have HL177 := n2_; have HC160 := n3_; clear n0_ n1_ n2_ n3_; clear hg hw hp_ hz_ hm_ hok24))
             go_meet
             case rel => exact ⟨_, (y161), H', ⟨by have := HK1.out; first | omega | exact Nat.le_refl _⟩, ⟨by (try simp only [hl6_1]); (with_reducible repeat (first | apply Kd.S_alloc | apply Kd.S_drewN | apply Kd.S_drew)); exact HO_6.out⟩, ⟨spec_rvCount.cS HXq.out⟩, ⟨hbS HB.out⟩⟩
            ·rw [if_neg c22] at H
             exact absurd H (by simp)
           ·rw [if_neg c21] at H
            have c21b0 : (x20_1 == 0) = false := beq_eq_false_iff_ne.mpr c21
            have c21b1 : (x20_1 != 0) = true := bne_iff_ne.mpr c21
            (first | rw [c21b0] | (simp only [i64_w, i32_w]; rw [c21b0]) | skip)
            have H' := am H
            clear H
            clear c21 c21b1
            go_wp2
            go_meet
            case rel => exact ⟨_, (y156), H', ⟨by have := HK1.out; first | omega | exact Nat.le_refl _⟩, ⟨by (try simp only [hl6_1]); (with_reducible repeat (first | apply Kd.S_alloc | apply Kd.S_drewN | apply Kd.S_drew)); exact HO_6.out⟩, ⟨spec_rvCount.cS HX157_0.out⟩, ⟨hbS HB.out⟩⟩
          case rest =>
           clear HC16
           try clear c1
           try clear p1
           try clear q1
           try clear hx1
           try clear c2
           try clear p2
           try clear q2
           try clear hx2
           try clear qi2
           try clear hf2
           try clear c4
           try clear c4b0
           try clear c4b1
           try clear c5
           try clear c5b0
           try clear c5b1
           try clear p6
           try clear c8
           try clear c9
           try clear c9b0
           try clear c11
           try clear c11b0
           try clear c11b1
           try clear c12
           try clear c12b0
           try clear c12b1
           try clear c13
           try clear c13b0
           try clear c14
           try clear c14b0
           try clear c15
           try clear p15
           try clear q15
           try clear hx15
           try clear hf15
           try clear c19
           try clear hx19
           try clear hf19
           try clear c21
           try clear c21b0
           try clear c21b1
           try clear c22
           try clear c22b0
           try clear c22b1
           try clear p23
           try clear q23
           try clear hx23
           try clear qi23
           try clear hf23
           try clear c24
           try clear q24
           try clear hx157_0
           try clear hx158_0
           try clear hx15_0
           try clear hx19_0
           try clear hx23_0
           try clear p15
           try clear p157
           try clear p158
           try clear p2
           try clear p23
           try clear p6
           try clear q15
           try clear q157
           try clear q158
           try clear q23
           obtain ⟨kq, x6_15, HA, HJ15, HO_6, HXR, HB⟩ := hcut
           have hl6_15 := (Kd.S_reads' HO_6.out).1
           rw [hl6_15] at HO_6
           (try simp only [hl6_15])
           cases kq with
           | zero => exact absurd HA.out (by simp [spec_rvCount.j1])
           | succ kj15 =>
            have H := HA.out
            clear HA
            simp only [spec_rvCount.j1] at H
            replace H := Option.bind_eq_some_iff.mp H
            obtain ⟨t162, A260, H⟩ := H
            replace H : (if t162 = true then ((spec_l1Most.f 0 (wrap64 (x20_1 - a1))).bind fun t163 => (spec_rvCount.l1 kj15 a0 a1 (wrap64 ((a0.size : Int) + 1)) x6_15 x20_1 t163 (y149.length : Int) x20_1)) else (spec_rvCount.l0 kj15 a0 a1 (wrap64 ((a0.size : Int) + 1)) x6_15 (y149.length : Int) (wrap64 (x20_1 + 1)))) = some r := H
            have A26 := am A260
            clear A260
            by_cases c27 : t162 = true
            ·subst c27
             have H1 : ((spec_l1Most.f 0 (wrap64 (x20_1 - a1))).bind fun t163 => (spec_rvCount.l1 kj15 a0 a1 (wrap64 ((a0.size : Int) + 1)) x6_15 x20_1 t163 (y149.length : Int) x20_1)) = some r := by rw [if_pos rfl] at H; exact H
             clear H
             have H := H1
             clear H1
             replace H := Option.bind_eq_some_iff.mp H
             obtain ⟨t163, A280, H⟩ := H
             replace H : (spec_rvCount.l1 kj15 a0 a1 (wrap64 ((a0.size : Int) + 1)) x6_15 x20_1 t163 (y149.length : Int) x20_1) = some r := H
             have A28 := am A280
             clear A280
             have H' := am H
             clear H
             go_wp2_with (first | ((with_reducible refine gate_callee (f := 77) rfl ?_); refine goesL_ (some 39) rfl rfl Try.func77 (by kernel_rfl) rfl #[.string a0, .int .i64 x20_1] rfl (by (try simp only [List.map_toArray, List.map_cons, List.map_nil]); first | done | rfl | (simp only [List.length_drop, List.length_take]; rfl)) ?_; (with_reducible refine (spec_rvStand.calls a0 x20_1 true _ A26.out).mono ?_); rintro e w' ⟨rfl, ⟨nd, rfl⟩⟩; refine ⟨_, rfl, ?_⟩) | ((with_reducible refine gate_callee (f := 78) rfl ?_); refine goesL_ (some 44) rfl rfl Try.func78 (by kernel_rfl) rfl #[.int .i64 0, .int .i64 (wrap64 (x20_1 - a1))] rfl (by (try simp only [List.map_toArray, List.map_cons, List.map_nil]); first | done | rfl | (simp only [List.length_drop, List.length_take]; rfl)) ?_; (with_reducible refine (spec_l1Most.calls 0 (wrap64 (x20_1 - a1)) t163 _ A28.out).mono ?_); rintro e w' ⟨rfl, ⟨nd, rfl⟩⟩; refine ⟨_, rfl, ?_⟩))
             go_loopg [9] kj15 (fun kq v9 w' => ∃ (x6_3 : List (List Int)) (x9_3 : Int), v9 = .int .i64 x9_3 ∧ Aside0 (spec_rvCount.l1 kq a0 a1 (wrap64 ((a0.size : Int) + 1)) x6_3 x20_1 x9_3 (y149.length : Int) x20_1 = some r) ∧ Aside0 (kq ≤ kj15) ∧ Aside0 (Kd.S (Kd.slice 3 (Kd.int .i64)) 51 w' w.heap.size (fun _ => True) (.slice (some ⟨go15, 0, none⟩) x6_15.length co8) x6_3) ∧ Aside0 (w'.cell? ((⟨go15, 0, none⟩ : Addr).add x20_1.toNat) = some (.slice A157_0 (rd_L3 y156 x20_1).length c157_0)) ∧ Aside0 (Below w.heap.size w w'))
             case atStart => exact ⟨(x6_15), (t163), (by first | rfl | (simp; done) | (simp [*]; done)), H', ⟨Nat.le_refl _⟩, ⟨by (try simp only [hl6_1]); (try simp only [hl6_15]); (with_reducible repeat (first | apply Kd.S_alloc | apply Kd.S_drewN | apply Kd.S_drew)); exact HO_6.out⟩, ⟨spec_rvCount.cS HXR.out⟩, ⟨hbS HB.out⟩⟩
             case round =>
              clear H'
              try clear c1
              try clear p1
              try clear q1
              try clear hx1
              try clear c2
              try clear p2
              try clear q2
              try clear hx2
              try clear qi2
              try clear hf2
              try clear c4
              try clear c4b0
              try clear c4b1
              try clear c5
              try clear c5b0
              try clear c5b1
              try clear p6
              try clear c7
              try clear c8
              try clear c9
              try clear c9b0
              try clear c11
              try clear c11b0
              try clear c11b1
              try clear c12
              try clear c12b0
              try clear c12b1
              try clear c13
              try clear c13b0
              try clear c14
              try clear c14b0
              try clear c15
              try clear p15
              try clear q15
              try clear hx15
              try clear hf15
              try clear c19
              try clear hx19
              try clear hf19
              try clear c21
              try clear c21b0
              try clear c21b1
              try clear c22
              try clear c22b0
              try clear c22b1
              try clear p23
              try clear q23
              try clear hx23
              try clear qi23
              try clear hf23
              try clear c24
              try clear q24
              try clear c27
              try clear hx157_0
              try clear hx158_0
              try clear hx15_0
              try clear hx19_0
              try clear hx23_0
              try clear p1
              try clear p15
              try clear p157
              try clear p158
              try clear p2
              try clear p23
              try clear p6
              try clear q1
              try clear q15
              try clear q157
              try clear q158
              try clear q2
              try clear q23
              try clear q24
              obtain ⟨x6_3, x9_3, rfl, HA, HK3, HO_6, HXR, HB⟩ := hrel
              have hl6_3 := (Kd.S_reads' HO_6.out).1
              rw [hl6_3] at HO_6
              (try simp only [hl6_3])
              cases gk with
              | zero => exact absurd HA.out (by simp [spec_rvCount.l1])
              | succ k3 =>
               have H := HA.out
               clear HA
               simp only [spec_rvCount.l1] at H
               by_cases c29 : x9_3 < x20_1
               ·rw [if_pos c29] at H
                have c29b0 : decide (x9_3 < x20_1) = true := decide_eq_true c29
                clear c29
                by_cases c30 : 0 ≤ x9_3
                ·rw [if_pos c30] at H
                 have c30b0 : decide (0 ≤ x9_3) = true := decide_eq_true c30
                 clear c30
                 by_cases c31 : x9_3 < (x6_3.length : Int)
                 ·rw [if_pos c31] at H
                  have c31b0 : decide (x9_3 < (x6_3.length : Int)) = true := decide_eq_true c31
                  clear c31
                  obtain ⟨ji32, hji32⟩ : ∃ j_ : Int, (wrap64 ((a0.size : Int) + 1)) = j_ := ⟨_, rfl⟩
                  replace H : (if 0 ≤ (ji32) then (if (ji32) ≤ ((rd_L3 x6_3 x9_3).length : Int) then ((some ((rd_L3 x6_3 x9_3).take ((ji32) : Int).toNat : List Int)).bind fun y165 => (spec_rvCount.l2 k3 a0 a1 (ji32) x6_3 x20_1 x9_3 (y149.length : Int) x20_1 y165 (y165.length : Int) 0)) else (none)) else (none)) = some r := by first | (rw [hji32] at H; exact H) | (simp only [hji32] at H ⊢; exact H)
                  have hji32w : (IntKind.i64.wrap ((a0.size : Int) + 1)) = ji32 := (i64_w _).trans hji32
                  by_cases c33 : 0 ≤ (ji32)
                  ·rw [if_pos c33] at H
                   have c33b0 := eq_true c33
                   have c33b1 : decide (0 ≤ (ji32)) = true := decide_eq_true c33
                   clear c33
                   by_cases c34 : (ji32) ≤ ((rd_L3 x6_3 x9_3).length : Int)
                   ·rw [if_pos c34] at H
                    have c34b0 := eq_true c34
                    have c34b1 : decide ((ji32) ≤ ((rd_L3 x6_3 x9_3).length : Int)) = true := decide_eq_true c34
                    clear c34
                    obtain ⟨y165, hy165⟩ : ∃ y_ : List Int, y_ = ((rd_L3 x6_3 x9_3).take ((ji32) : Int).toNat) := ⟨_, rfl⟩
                    replace H : (spec_rvCount.l2 k3 a0 a1 (ji32) x6_3 x20_1 x9_3 (y149.length : Int) x20_1 y165 (y165.length : Int) 0) = some r := by first | (rw [hy165]; with_reducible exact H) | (have H2_ := (Option.bind_some _ _).symm.trans H; rw [hy165]; with_reducible exact H2_) | (have H2_ := (Option.bind_some _ _).symm.trans H; with_reducible exact H2_) | with_reducible exact H | (rw [hy165]; exact H) | exact H
                    have Ny165 := am hy165
                    have BP : Aside0 (0 ≤ x9_3) := am (of_decide_eq_true c30b0)
                    have BQ : Aside0 (x9_3 < (x6_3.length : Int)) := am (of_decide_eq_true c31b0)
                    have BN : Aside0 (x9_3 < x20_1) := am (of_decide_eq_true c29b0)
                    have BL : Aside0 ((ji32 : Int).toNat ≤ (rd_L3 x6_3 x9_3).length) := am (by have := of_decide_eq_true c34b1; omega)
                    clear hy165
                    have H' := am H
                    clear H
                    have p164 : 0 ≤ (x9_3 : Int) := of_decide_eq_true (by first | (with_reducible assumption) | assumption)
                    have q164 : x9_3 < (x6_3.length : Int) := of_decide_eq_true (by first | (with_reducible assumption) | assumption)
                    obtain ⟨ad164, A164_0, c164_0, e164, hx164_0, hl164_0, hi164_0⟩ := at_L3 (Kd.S_reads' HO_6.out).2.2 x9_3 p164 q164
                    obtain rfl : (⟨go15, 0, none⟩ : Addr) = ad164 := (by injection e164)
                    obtain ⟨ce164, hce164, hMe164, hcc164⟩ := Kd.S_get HO_6.out [] x9_3 p164 (by first | exact q164 | exact of_decide_eq_true (by first | (with_reducible assumption) | assumption) | (have e_ := (Kd.S_reads' HO_6.out).1; omega))
                    obtain ⟨ve164_0, rfl, ge164_0⟩ := hMe164
                    have hv164_0 := hcc164 0 _ rfl
                    rw [Nat.add_zero, show ((Kd.slice 3 (Kd.int .i64))).sz = 1 from rfl, Nat.mul_one] at hv164_0
                    replace hv164_0 := Option.some.inj (hv164_0.symm.trans hx164_0)
                    rw [hv164_0] at ge164_0
                    have HL164_0 := am (show Kd.R (Kd.int .i64) 3 _ _ _ _ (rd_L3 x6_3 x9_3) from ge164_0)
                    clear hv164_0 ge164_0
                    have HX164_0 := am hx164_0
                    clear hcc164 hce164
                    (first | simp only [add_plain] at hx164_0 | simp only [add_at] at hx164_0 | simp only [Addr.add, Nat.zero_add] at hx164_0 | skip)
                    have HR164_0 := am hi164_0
                    have HC164_0 := am hl164_0
                    clear hi164_0 hl164_0
                    replace p164 := eq_true p164
                    replace q164 := eq_true q164
                    have q35 : ((ji32) : Int) ≤ (((rd_L3 x6_3 x9_3).length : Int) : Int) := of_decide_eq_true (by first | (with_reducible assumption) | assumption)
                    obtain ⟨i035, hi035, _, hsz35, _⟩ := info_parts info3
                    have hroom35 : (rd_L3 x6_3 x9_3).length ≤ c164_0 := HC164_0.out
                    have hC35 : Kd.C (Kd.int .i64) _ A164_0 (rd_L3 x6_3 x9_3).length (rd_L3 x6_3 x9_3) := (by repeat (first | (with_reducible exact HR164_0.out) | (with_reducible refine Kd.C_alloc ?_ _) | (with_reducible refine Kd.C_drewN ?_ _) | (with_reducible refine Kd.C_drew ?_) | exact HR164_0.out))
                    have hcut35 := cut_to (P := Try.prog) 51 3 .i64 Try.underlying51 hi035 A164_0 (rd_L3 x6_3 x9_3).length c164_0 (ji32) (of_decide_eq_true (by first | (with_reducible assumption) | assumption)) q35 hroom35
                    have hr35 := Kd.C_take (m := ((ji32) : Int).toNat) hC35 (by omega)
                    have hy35 : y165.length = ((ji32) : Int).toNat := (by rw [Ny165.out, List.length_take]; omega)
                    rw [← Ny165.out] at hr35
                    rw [← hy35] at hcut35
                    have HR168 := am hr35
                    have HC168 := am (show y165.length ≤ c164_0 from by omega)
                    clear hr35 hC35 hroom35 hi035 hsz35
                    have KY35 := am hy35
                    clear hy35
                    replace q35 := eq_true q35
                    go_wp2
                    go_loopg [57] k3 (fun kq v57 w' => ∃ (x6_4 : List (List Int)) (x57_4 : Int), v57 = .int .i64 x57_4 ∧ Aside0 (spec_rvCount.l2 kq a0 a1 (ji32) x6_4 x20_1 x9_3 (y149.length : Int) x20_1 y165 (y165.length : Int) x57_4 = some r) ∧ Aside0 (kq ≤ k3) ∧ Aside0 (Kd.S (Kd.slice 3 (Kd.int .i64)) 51 w' w.heap.size (fun _ => True) (.slice (some ⟨go15, 0, none⟩) x6_3.length co8) x6_4) ∧ Aside0 (w'.cell? ((⟨go15, 0, none⟩ : Addr).add x20_1.toNat) = some (.slice A157_0 (rd_L3 y156 x20_1).length c157_0)) ∧ Aside0 (w'.cell? ((⟨go15, 0, none⟩ : Addr).add x9_3.toNat) = some (.slice A164_0 (rd_L3 x6_3 x9_3).length c164_0)) ∧ Aside0 (rd_L3 x6_4 x9_3 = rd_L3 x6_3 x9_3) ∧ Aside0 (Below w.heap.size w w'))
                    case atStart => exact ⟨(x6_3), (0), (by first | rfl | (simp; done) | (simp [*]; done)), H', ⟨Nat.le_refl _⟩, ⟨by (try simp only [hl6_1]); (try simp only [hl6_15]); (try simp only [hl6_3]); (with_reducible repeat (first | apply Kd.S_alloc | apply Kd.S_drewN | apply Kd.S_drew)); exact HO_6.out⟩, ⟨spec_rvCount.cS HXR.out⟩, ⟨spec_rvCount.cS HX164_0.out⟩, ⟨rfl⟩, ⟨hbS HB.out⟩⟩
                    case round =>
                     clear H'
                     try clear c1
                     try clear p1
                     try clear q1
                     try clear hx1
                     try clear c2
                     try clear p2
                     try clear q2
                     try clear hx2
                     try clear qi2
                     try clear hf2
                     try clear c3
                     try clear q3
                     try clear c4
                     try clear c4b0
                     try clear c4b1
                     try clear c5
                     try clear c5b0
                     try clear c5b1
                     try clear p6
                     try clear c7
                     try clear c8
                     try clear c9
                     try clear c9b0
                     try clear c11
                     try clear c11b0
                     try clear c11b1
                     try clear c12
                     try clear c12b0
                     try clear c12b1
                     try clear c13
                     try clear c13b0
                     try clear c14
                     try clear c14b0
                     try clear c15
                     try clear p15
                     try clear q15
                     try clear hx15
                     try clear hf15
                     try clear c16
                     try clear p16
                     try clear q16
                     try clear hx16
                     try clear c19
                     try clear hx19
                     try clear hf19
                     try clear c21
                     try clear c21b0
                     try clear c21b1
                     try clear c22
                     try clear c22b0
                     try clear c22b1
                     try clear p23
                     try clear q23
                     try clear hx23
                     try clear qi23
                     try clear hf23
                     try clear c24
                     try clear q24
                     try clear c27
                     try clear c29
                     try clear c29b0
                     try clear c30
                     try clear c30b0
                     try clear c31
                     try clear c31b0
                     try clear c33
                     try clear c33b0
                     try clear c33b1
                     try clear c34
                     try clear c34b0
                     try clear c34b1
                     try clear q35
                     try clear hx157_0
                     try clear hx158_0
                     try clear hx15_0
                     try clear hx164_0
                     try clear hx19_0
                     try clear hx23_0
                     try clear p1
                     try clear p15
                     try clear p157
                     try clear p158
                     try clear p164
                     try clear p2
                     try clear p23
                     try clear p6
                     try clear q1
                     try clear q15
                     try clear q157
                     try clear q158
                     try clear q164
                     try clear q2
                     try clear q23
                     try clear q24
                     try clear q35
                     obtain ⟨x6_4, x57_4, rfl, HA, HK4, HO_6, HXR, HXB, HEB, HB⟩ := hrel
                     have hl6_4 := (Kd.S_reads' HO_6.out).1
                     rw [hl6_4] at HO_6
                     (try simp only [hl6_4])
                     cases gk with
                     | zero => exact absurd HA.out (by simp [spec_rvCount.l2])
                     | succ k4 =>
                      have H := HA.out
                      clear HA
                      simp only [spec_rvCount.l2] at H
                      by_cases c36 : x57_4 < (y165.length : Int)
                      ·rw [if_pos c36] at H
                       have c36b0 : decide (x57_4 < (y165.length : Int)) = true := decide_eq_true c36
                       clear c36
                       by_cases c37 : 0 ≤ x57_4
                       ·rw [if_pos c37] at H
                        have c37b0 : decide (0 ≤ x57_4) = true := decide_eq_true c37
                        clear c37
                        by_cases c38 : x57_4 < (y165.length : Int)
                        ·rw [if_pos c38] at H
                         have c38b0 : decide (x57_4 < (y165.length : Int)) = true := decide_eq_true c38
                         clear c38
                         by_cases c39 : 0 ≤ x20_1
                         ·rw [if_pos c39] at H
                          have c39b0 : decide (0 ≤ x20_1) = true := decide_eq_true c39
                          clear c39
                          by_cases c40 : x20_1 < (x6_4.length : Int)
                          ·rw [if_pos c40] at H
                           have c40b0 : decide (x20_1 < (x6_4.length : Int)) = true := decide_eq_true c40
                           clear c40
                           obtain ⟨ji41, hji41⟩ : ∃ j_ : Int, (wrap64 (x57_4 + 1)) = j_ := ⟨_, rfl⟩
                           replace H : (if 0 ≤ (ji41) then (if (ji41) < ((rd_L3 x6_4 x20_1).length : Int) then ((spec_l1Least.f (wrap64 ((rd (rd_L3 x6_4 x20_1) (ji41)) + (rd y165 x57_4))) 1000000000000001).bind fun t173 => (spec_rvCount.l2 k4 a0 a1 (ji32) (x6_4.set (x20_1 : Int).toNat ((rd_L3 x6_4 x20_1).set ((ji41) : Int).toNat t173)) x20_1 x9_3 (y149.length : Int) x20_1 y165 (y165.length : Int) ji41)) else (none)) else (none)) = some r := by first | (rw [hji41] at H; exact H) | (simp only [hji41] at H ⊢; exact H)
                           have hji41w : (IntKind.i64.wrap (x57_4 + 1)) = ji41 := (i64_w _).trans hji41
                           by_cases c42 : 0 ≤ (ji41)
                           ·rw [if_pos c42] at H
                            have c42b0 : decide (0 ≤ (ji41)) = true := decide_eq_true c42
                            clear c42
                            by_cases c43 : (ji41) < ((rd_L3 x6_4 x20_1).length : Int)
                            ·rw [if_pos c43] at H
                             have c43b0 : decide ((ji41) < ((rd_L3 x6_4 x20_1).length : Int)) = true := decide_eq_true c43
                             clear c43
                             replace H := Option.bind_eq_some_iff.mp H
                             obtain ⟨t173, A440, H⟩ := H
                             replace H : (spec_rvCount.l2 k4 a0 a1 (ji32) (x6_4.set (x20_1 : Int).toNat ((rd_L3 x6_4 x20_1).set ((ji41) : Int).toNat t173)) x20_1 x9_3 (y149.length : Int) x20_1 y165 (y165.length : Int) ji41) = some r := H
                             have A44 := am A440
                             clear A440
                             obtain ⟨y174, hy174⟩ : ∃ y_ : List Int, y_ = ((rd_L3 x6_4 x20_1).set ((ji41) : Int).toNat t173) := ⟨_, rfl⟩
                             replace H : (spec_rvCount.l2 k4 a0 a1 (ji32) (x6_4.set (x20_1 : Int).toNat y174) x20_1 x9_3 (y149.length : Int) x20_1 y165 (y165.length : Int) ji41) = some r := by first | (rw [hy174]; with_reducible exact H) | (have H2_ := (Option.bind_some _ _).symm.trans H; rw [hy174]; with_reducible exact H2_) | (have H2_ := (Option.bind_some _ _).symm.trans H; with_reducible exact H2_) | with_reducible exact H | (rw [hy174]; exact H) | exact H
                             have Ny174 := am hy174
                             clear hy174
                             obtain ⟨y176, hy176⟩ : ∃ y_ : List (List Int), y_ = (x6_4.set (x20_1 : Int).toNat y174) := ⟨_, rfl⟩
                             replace H : (spec_rvCount.l2 k4 a0 a1 (ji32) y176 x20_1 x9_3 (y149.length : Int) x20_1 y165 (y165.length : Int) ji41) = some r := by first | (rw [hy176]; with_reducible exact H) | (have H2_ := (Option.bind_some _ _).symm.trans H; rw [hy176]; with_reducible exact H2_) | (have H2_ := (Option.bind_some _ _).symm.trans H; with_reducible exact H2_) | with_reducible exact H | (rw [hy176]; exact H) | exact H
                             have Ny176 := am hy176
                             clear hy176
                             have H' := am H
                             clear H
                             have p169 : 0 ≤ (x57_4 : Int) := of_decide_eq_true (by first | (with_reducible assumption) | assumption)
                             have q169 : x57_4 < (y165.length : Int) := of_decide_eq_true (by first | (with_reducible assumption) | assumption)
                             obtain ⟨adB, AB, cB, eB, hxB, hlB, hiB⟩ := at_L3 (Kd.S_reads' HO_6.out).2.2 x9_3 BP.out (by have := BQ.out; have := hl6_4; omega)
                             obtain rfl : (⟨go15, 0, none⟩ : Addr) = adB := (by injection eB)
                             have eB2 := Option.some.inj (hxB.symm.trans HXB.out)
                             injection eB2 with eB2 eB3 eB4
                             rw [eB2, HEB.out] at hiB
                             have hrB := Kd.C_take (m := (ji32 : Int).toNat) hiB BL.out
                             have HR168w : Aside0 (Kd.C (Kd.int .i64) _ A164_0 y165.length y165) := am (by rw [Ny165.out]; exact hrB)
                             clear hrB hiB hxB hlB
                             obtain ⟨ad169, e169, hx169_0⟩ := Kd.at_int HR168w.out x57_4 p169 q169
                             cases e169

                             replace p169 := eq_true p169
                             replace q169 := eq_true q169
                             have p170 : 0 ≤ (x20_1 : Int) := of_decide_eq_true (by first | (with_reducible assumption) | assumption)
                             have q170 : x20_1 < (x6_4.length : Int) := of_decide_eq_true (by first | (with_reducible assumption) | assumption)
                             obtain ⟨ad170, A170_0, c170_0, e170, hx170_0, hl170_0, hi170_0⟩ := at_L3 (Kd.S_reads' HO_6.out).2.2 x20_1 p170 q170
                             obtain rfl : (⟨go15, 0, none⟩ : Addr) = ad170 := (by injection e170)
                             obtain ⟨ce170, hce170, hMe170, hcc170⟩ := Kd.S_get HO_6.out [] x20_1 p170 (by first | exact q170 | exact of_decide_eq_true (by first | (with_reducible assumption) | assumption) | (have e_ := (Kd.S_reads' HO_6.out).1; omega))
                             obtain ⟨ve170_0, rfl, ge170_0⟩ := hMe170
                             have hv170_0 := hcc170 0 _ rfl
                             rw [Nat.add_zero, show ((Kd.slice 3 (Kd.int .i64))).sz = 1 from rfl, Nat.mul_one] at hv170_0
                             replace hv170_0 := Option.some.inj (hv170_0.symm.trans hx170_0)
                             rw [hv170_0] at ge170_0
                             have HL170_0 := am (show Kd.R (Kd.int .i64) 3 _ _ _ _ (rd_L3 x6_4 x20_1) from ge170_0)
                             clear hv170_0 ge170_0
                             have HX170_0 := am hx170_0
                             clear hcc170 hce170
                             (first | simp only [add_plain] at hx170_0 | simp only [add_at] at hx170_0 | simp only [Addr.add, Nat.zero_add] at hx170_0 | skip)
                             have HR170_0 := am hi170_0
                             have HC170_0 := am hl170_0
                             clear hi170_0 hl170_0
                             replace p170 := eq_true p170
                             replace q170 := eq_true q170
                             have ea_ := Option.some.inj (HX170_0.out.symm.trans HXR.out)
                             injection ea_ with ea_ en1_ ec_
                             have EN1 := am en1_.symm
                             subst ea_
                             subst ec_
                             clear en1_
                             have p171 : 0 ≤ (x20_1 : Int) := of_decide_eq_true (by first | (with_reducible assumption) | assumption)
                             have q171 : x20_1 < (x6_4.length : Int) := of_decide_eq_true (by first | (with_reducible assumption) | assumption)
                             obtain ⟨ad171, A171_0, c171_0, e171, hx171_0, hl171_0, hi171_0⟩ := at_L3 (Kd.S_reads' HO_6.out).2.2 x20_1 p171 q171
                             obtain rfl : (⟨go15, 0, none⟩ : Addr) = ad171 := (by injection e171)
                             obtain ⟨ce171, hce171, hMe171, hcc171⟩ := Kd.S_get HO_6.out [] x20_1 p171 (by first | exact q171 | exact of_decide_eq_true (by first | (with_reducible assumption) | assumption) | (have e_ := (Kd.S_reads' HO_6.out).1; omega))
                             obtain ⟨ve171_0, rfl, ge171_0⟩ := hMe171
                             have hv171_0 := hcc171 0 _ rfl
                             rw [Nat.add_zero, show ((Kd.slice 3 (Kd.int .i64))).sz = 1 from rfl, Nat.mul_one] at hv171_0
                             replace hv171_0 := Option.some.inj (hv171_0.symm.trans hx171_0)
                             rw [hv171_0] at ge171_0
                             have HL171_0 := am (show Kd.R (Kd.int .i64) 3 _ _ _ _ (rd_L3 x6_4 x20_1) from ge171_0)
                             clear hv171_0 ge171_0
                             have HX171_0 := am hx171_0
                             clear hcc171 hce171
                             (first | simp only [add_plain] at hx171_0 | simp only [add_at] at hx171_0 | simp only [Addr.add, Nat.zero_add] at hx171_0 | skip)
                             have HR171_0 := am hi171_0
                             have HC171_0 := am hl171_0
                             clear hi171_0 hl171_0
                             replace p171 := eq_true p171
                             replace q171 := eq_true q171
                             have ea_ := Option.some.inj (hx170_0.symm.trans hx171_0)
                             injection ea_ with ea_ en_ ec_
                             subst ea_
                             subst ec_
                             clear en_
                             have p172 : 0 ≤ ((ji41) : Int) := of_decide_eq_true (by first | (with_reducible assumption) | assumption)
                             have q172 : (ji41) < ((rd_L3 x6_4 x20_1).length : Int) := of_decide_eq_true (by first | (with_reducible assumption) | assumption)
                             obtain ⟨ad172, e172, hx172_0⟩ := Kd.at_int (by repeat (first | (with_reducible exact HR171_0.out) | (with_reducible refine Kd.C_alloc ?_ _) | (with_reducible refine Kd.C_drewN ?_ _) | (with_reducible refine Kd.C_drew ?_) | exact HR171_0.out)) (ji41) p172 q172
                             cases e172
                             replace p172 := eq_true p172
                             replace q172 := eq_true q172
                             (try simp only [EN1.out])
                             go_wp2_with (first | ((with_reducible refine gate_callee (f := 88) rfl ?_); refine goesL_ (some 72) rfl rfl Try.func88 (by kernel_rfl) rfl #[.int .i64 (wrap64 ((rd (rd_L3 x6_4 x20_1) (ji41)) + (rd y165 x57_4))), .int .i64 1000000000000001] rfl (by (try simp only [List.map_toArray, List.map_cons, List.map_nil]); first | done | (simp only [hji41]; rfl) | rfl | (simp only [List.length_drop, List.length_take]; rfl)) ?_; (with_reducible refine (spec_l1Least.calls (wrap64 ((rd (rd_L3 x6_4 x20_1) (ji41)) + (rd y165 x57_4))) 1000000000000001 t173 _ A44.out).mono ?_); rintro e w' ⟨rfl, ⟨nd, rfl⟩⟩; refine ⟨_, rfl, ?_⟩; (try (rw [drewN_self wr]; generalize hq_ : World.drewN wr _ = wr; have n0_ : Aside0 (Kd.R (Kd.int .i64) 3 wr w.heap.size (fun k_ => some k_ ≠ (.slice (some ⟨go15, 0, none⟩) x6_4.length co8 : Value).ownBlock) (.slice (some ad172) (rd_L3 x6_4 x20_1).length c170_0) (rd_L3 x6_4 x20_1)) := ⟨by rw [← hq_]; exact (by (with_reducible repeat (first | apply Kd.R_alloc | apply Kd.R_drewN | apply Kd.R_drew)); exact Kd.R_mono HL170_0.out (fun _ hk => hk.2))⟩; have n1_ : Aside0 (Kd.R (Kd.int .i64) 3 wr w.heap.size (fun k_ => some k_ ≠ (.slice (some ⟨go15, 0, none⟩) x6_4.length co8 : Value).ownBlock) (.slice (some ad172) (rd_L3 x6_4 x20_1).length c170_0) (rd_L3 x6_4 x20_1)) := ⟨by rw [← hq_]; exact (by (with_reducible repeat (first | apply Kd.R_alloc | apply Kd.R_drewN | apply Kd.R_drew)); exact Kd.R_mono HL171_0.out (fun _ hk => hk.2))⟩; have n2_ : Aside0 (Kd.S (Kd.slice 3 (Kd.int .i64)) 51 wr w.heap.size (fun _ => True) (.slice (some ⟨go15, 0, none⟩) x6_4.length co8) x6_4) := ⟨by rw [← hq_]; exact (by (with_reducible repeat (first | apply Kd.S_alloc | apply Kd.S_drewN | apply Kd.S_drew)); exact HO_6.out)⟩; have n3_ : Aside0 (Below w.heap.size w wr) := ⟨by rw [← hq_]; exact (hbS HB.out)⟩; have n4_ : Aside0 (Kd.C (Kd.int .i64) wr (some ad172) (rd_L3 x6_4 x20_1).length (rd_L3 x6_4 x20_1)) := ⟨by rw [← hq_]; exact (by repeat (first | (with_reducible exact HR170_0.out) | (with_reducible refine Kd.C_alloc ?_ _) | (with_reducible refine Kd.C_drewN ?_ _) | (with_reducible refine Kd.C_drew ?_) | exact HR170_0.out))⟩; have n5_ : Aside0 (Kd.C (Kd.int .i64) wr (some ad172) (rd_L3 x6_4 x20_1).length (rd_L3 x6_4 x20_1)) := ⟨by rw [← hq_]; exact (by repeat (first | (with_reducible exact HR171_0.out) | (with_reducible refine Kd.C_alloc ?_ _) | (with_reducible refine Kd.C_drewN ?_ _) | (with_reducible refine Kd.C_drew ?_) | exact HR171_0.out))⟩; have n6_ := am (spec_rvCount.cQ hq_ HX170_0.out); have n7_ := am (spec_rvCount.cQ hq_ HXB.out); clear HL170_0 HL171_0 HO_6 HB HR170_0 HR171_0 HX170_0 HX171_0 HXB HXR hq_; have HX170_0 := n6_; have HXR := n6_; have HXB := n7_; clear n6_ n7_; have HL170_0 := n0_; have HL171_0 := n1_; have HO_6 := n2_; have HB := n3_; have HR170_0 := n4_; have HR171_0 := n5_; clear n0_ n1_ n2_ n3_ n4_ n5_)); have p45 : 0 ≤ ((ji41) : Int) := of_decide_eq_true (by first | (with_reducible assumption) | assumption); have q45 : ((ji41) : Int) < (((rd_L3 x6_4 x20_1).length : Int) : Int) := of_decide_eq_true (by first | (with_reducible assumption) | assumption); obtain ⟨go45, co45, eo45, gb45, gl45, cl45, HG45⟩ := Kd.R_form HL170_0.out (by omega); (first | cases eo45 | (injection eo45 with ea_ en_ ec_; (first | subst ea_ | (injection ea_ with ea_; subst ea_)); subst ec_; clear en_)); have GB45 := am gb45; have GG45 := am HG45; clear gb45 gl45 HG45; (first | simp only [add_plain] at hx172_0 | skip); obtain ⟨hx45_0, hf45_0⟩ := Kd.R_celln 0 HL170_0.out ((ji41) : Int) p45 q45; replace p45 := eq_true p45; replace q45 := eq_true q45; have hq46 : (x20_1 : Int) < (x6_4.length : Int) := (by have h_ : (x20_1 : Int) < ((x6_4.length : Int) : Int) := of_decide_eq_true (by first | (with_reducible assumption) | assumption); first | exact h_ | (have e_ := (Kd.S_reads' HO_6.out).1; omega) | simpa only [List.length_set, List.length_set] using h_); obtain ⟨oki46, ce46, hcl46, hM46, hcc46, hok46, hbk46⟩ := Kd.S_borrow HO_6.out [] (x20_1 : Int) (of_decide_eq_true (by first | (with_reducible assumption) | assumption)) hq46; obtain ⟨ve46_0, rfl, ge46_0⟩ := hM46; have hv46 := hcc46 0 _ rfl; rw [Nat.add_zero, show ((Kd.slice 3 (Kd.int .i64))).sz = 1 from rfl, Nat.mul_one] at hv46; replace hv46 := Option.some.inj (hv46.symm.trans HX170_0.out); subst hv46; clear hcc46 hcl46; replace ge46_0 := (show Kd.R (Kd.int .i64) 3 _ _ _ _ (rd_L3 x6_4 x20_1) from ge46_0); have HP46 := Kd.R_putg ge46_0 ((ji41) : Int) t173) | ((with_reducible refine gate_store (t := 3) (p := 73) rfl ?_); refine store_event (t := 3) (p := 73) (v := ?vo_w47) (w1 := (wr.setCell ⟨go45, ((ji41) : Int).toNat, none⟩ (.int .i64 t173))) ?hg ?ho ?hn ?hr ?_; (case ho => rfl); (case hg => rfl); (case hn => rfl); (case hr => first | (go_simp; done) | (go_simp; rfl)); intro w47 hw; have hg : wr.grownBy w47 (some go45) := (by rw [hw]; exact HP46.2); have hb_ := hok46 go45 (ge46_0.1 go45 rfl); have HXRq := am ((World.cell?_of_block (hg.block _ (World.block_lt_of_cell? _ _ HXR.out) (fun e_ => hb_.2 (by rw [← e_]; simp only [Value.ownBlock, Addr.add]; try (split <;> rfl))))).trans HXR.out); have HXBq := am ((World.cell?_of_block (hg.block _ (World.block_lt_of_cell? _ _ HXB.out) (fun e_ => hb_.2 (by rw [← e_]; simp only [Value.ownBlock, Addr.add]; try (split <;> rfl))))).trans HXB.out); clear hb_; have hz_ : Kd.R (Kd.int .i64) 3 w47 w.heap.size oki46 (.slice (some ⟨go45, 0, none⟩) (rd_L3 x6_4 x20_1).length c170_0) y174 := (by rw [hw, Ny174.out]; exact HP46.1); have hp_ : Kd.S (Kd.slice 3 (Kd.int .i64)) 51 w47 w.heap.size (fun _ => True) (.slice (some ⟨go15, 0, none⟩) x6_4.length co8) y176 := (by rw [Ny176.out]; exact hbk46 hg (fun k_ e_ => by injection e_ with e_; subst e_; exact ge46_0.1 _ rfl) (Kd.M_row hz_)); have hm_ := Kd.R_mono hz_ hok46; clear HP46 hbk46; have n0_ := am (hp_); have n1_ := am ((by rw [hw]; exact below_set (HB.out) GB45.out : Below w.heap.size w w47)); have n2_ := am (hm_); have n3_ := am ((Kd.R_reads' hm_).2.1); clear HO_6; clear HB; clear HL170_0; clear HL171_0; have HO_6 := n0_; have HB := n1_; have HL178 := n2_; have HC175 := n3_; clear n0_ n1_ n2_ n3_; clear hg hw hp_ hz_ hm_ hok46))
                             (try simp only [← hl6_4])
                             (try simp only [← EN1.out])
                             go_roundg k4
                             case measure => have := HK1.out; have := HJ15.out; have := HK3.out; have := HK4.out; omega
                             case rel => exact ⟨(y176), (ji41), (by first | rfl | (simp; done) | (simp only [← hji41] <;> (first | rfl | simp)) | (simp [*]; done)), H', ⟨by have := HK1.out; have := HJ15.out; have := HK3.out; have := HK4.out; omega⟩, ⟨by (try simp only [hl6_1]); (try simp only [hl6_15]); (try simp only [hl6_3]); (try simp only [hl6_4]); (with_reducible repeat (first | apply Kd.S_alloc | apply Kd.S_drewN | apply Kd.S_drew)); exact HO_6.out⟩, ⟨by first | exact spec_rvCount.cS HXRq.out | (rw [EN1.out]; exact spec_rvCount.cS HXRq.out)⟩, ⟨spec_rvCount.cS HXBq.out⟩, ⟨by rw [Ny176.out]; unfold rd_L3; rw [List.getD_eq_getElem?_getD, List.getElem?_set_ne (by have := BP.out; have := BN.out; omega), ← List.getD_eq_getElem?_getD]; exact HEB.out⟩, ⟨hbS HB.out⟩⟩
                            ·rw [if_neg c43] at H
                             exact absurd H (by simp)
                           ·rw [if_neg c42] at H
                            exact absurd H (by simp)
                          ·rw [if_neg c40] at H
                           exact absurd H (by simp)
                         ·rw [if_neg c39] at H
                          exact absurd H (by simp)
                        ·rw [if_neg c38] at H
                         exact absurd H (by simp)
                       ·rw [if_neg c37] at H
                        exact absurd H (by simp)
                      ·rw [if_neg c36] at H
                       have c36b0 : decide (x57_4 < (y165.length : Int)) = false := decide_eq_false c36
                       clear c36
                       have H' := am H
                       clear H
                       go_wp2
                       (try simp only [← hl6_3, ← hl6_4])
                       subst hji32
                       go_roundg k4
                       case measure => have := HK1.out; have := HJ15.out; have := HK3.out; have := HK4.out; omega
                       case rel => exact ⟨(x6_4), (wrap64 (x9_3 + 1)), (by first | rfl | (simp; done) | (simp [*]; done)), H', ⟨by have := HK1.out; have := HJ15.out; have := HK3.out; have := HK4.out; omega⟩, ⟨by (try simp only [hl6_1]); (try simp only [hl6_15]); (try simp only [hl6_3]); (try simp only [hl6_4]); (with_reducible repeat (first | apply Kd.S_alloc | apply Kd.S_drewN | apply Kd.S_drew)); exact HO_6.out⟩, ⟨spec_rvCount.cS HXR.out⟩, ⟨hbS HB.out⟩⟩
                   ·rw [if_neg c34] at H
                    exact absurd H (by simp)
                  ·rw [if_neg c33] at H
                   exact absurd H (by simp)
                 ·rw [if_neg c31] at H
                  exact absurd H (by simp)
                ·rw [if_neg c30] at H
                 exact absurd H (by simp)
               ·rw [if_neg c29] at H
                have c29b0 : decide (x9_3 < x20_1) = false := decide_eq_false c29
                clear c29
                have H' := am H
                clear H
                go_wp2
                (try simp only [← hl6_1, ← hl6_15, ← hl6_3])
                go_roundg k3
                case measure => have := HK1.out; have := HJ15.out; have := HK3.out; omega
                case rel => exact ⟨(x6_3), (wrap64 (x20_1 + 1)), (by first | rfl | (simp; done) | (simp [*]; done)), H', ⟨by have := HK1.out; have := HJ15.out; have := HK3.out; omega⟩, ⟨by (try simp only [hl6_1]); (try simp only [hl6_15]); (try simp only [hl6_3]); (with_reducible repeat (first | apply Kd.S_alloc | apply Kd.S_drewN | apply Kd.S_drew)); exact HO_6.out⟩, ⟨hbS HB.out⟩⟩
            ·replace c27 := Bool.eq_false_iff.mpr c27
             subst c27
             have H1 : (spec_rvCount.l0 kj15 a0 a1 (wrap64 ((a0.size : Int) + 1)) x6_15 (y149.length : Int) (wrap64 (x20_1 + 1))) = some r := by rw [if_neg (show ¬ (false = true) by decide)] at H; exact H
             clear H
             have H := H1
             clear H1
             have H' := am H
             clear H
             go_wp2_with (first | ((with_reducible refine gate_callee (f := 77) rfl ?_); refine goesL_ (some 39) rfl rfl Try.func77 (by kernel_rfl) rfl #[.string a0, .int .i64 x20_1] rfl (by (try simp only [List.map_toArray, List.map_cons, List.map_nil]); first | done | rfl | (simp only [List.length_drop, List.length_take]; rfl)) ?_; (with_reducible refine (spec_rvStand.calls a0 x20_1 false _ A26.out).mono ?_); rintro e w' ⟨rfl, ⟨nd, rfl⟩⟩; refine ⟨_, rfl, ?_⟩))
             (try simp only [← hl6_1, ← hl6_15])
             go_roundg kj15
             case measure => have := HK1.out; have := HJ15.out; omega
             case rel => exact ⟨(x6_15), (wrap64 (x20_1 + 1)), (by first | rfl | (simp; done) | (simp [*]; done)), H', ⟨by have := HK1.out; have := HJ15.out; omega⟩, ⟨by (try simp only [hl6_1]); (try simp only [hl6_15]); (with_reducible repeat (first | apply Kd.S_alloc | apply Kd.S_drewN | apply Kd.S_drew)); exact HO_6.out⟩, ⟨hbS HB.out⟩⟩
         ·rw [if_neg c14] at H
          exact absurd H (by simp)
        ·rw [if_neg c13] at H
         exact absurd H (by simp)
       ·rw [if_neg c12] at H
        exact absurd H (by simp)
      ·rw [if_neg c11] at H
       exact absurd H (by simp)
     ·rw [if_neg c9] at H
      have c9b0 : decide (x20_1 < (y149.length : Int)) = false := decide_eq_false c9
      (try rw [hl6_1] at c9b0)
      clear c9
      obtain ⟨ji48, hji48⟩ : ∃ j_ : Int, (wrap64 ((a0.size : Int) + 1)) = j_ := ⟨_, rfl⟩
      replace H : (if 0 ≤ (ji48) then (if (ji48) < (x6_1.length : Int) then (some (rd_L3 x6_1 (ji48))) else (none)) else (none)) = some r := by first | (rw [hji48] at H; exact H) | (simp only [hji48] at H ⊢; exact H)
      have hji48w : (IntKind.i64.wrap ((a0.size : Int) + 1)) = ji48 := (i64_w _).trans hji48
      by_cases c49 : 0 ≤ (ji48)
      ·rw [if_pos c49] at H
       have c49b0 : decide (0 ≤ (ji48)) = true := decide_eq_true c49
       clear c49
       by_cases c50 : (ji48) < (x6_1.length : Int)
       ·rw [if_pos c50] at H
        have c50b0 : decide ((ji48) < (x6_1.length : Int)) = true := decide_eq_true c50
        clear c50
        obtain rfl := Option.some.inj H
        have p152 : 0 ≤ ((ji48) : Int) := of_decide_eq_true (by first | (with_reducible assumption) | assumption)
        have q152 : (ji48) < (x6_1.length : Int) := of_decide_eq_true (by first | (with_reducible assumption) | assumption)
        obtain ⟨ad152, A152_0, c152_0, e152, hx152_0, hl152_0, hi152_0⟩ := at_L3 (Kd.S_reads' HO_6.out).2.2 (ji48) p152 q152
        cases e152
        obtain ⟨ce152, hce152, hMe152, hcc152⟩ := Kd.S_get HO_6.out [] (ji48) p152 (by first | exact q152 | exact of_decide_eq_true (by first | (with_reducible assumption) | assumption) | (have e_ := (Kd.S_reads' HO_6.out).1; omega))
        obtain ⟨ve152_0, rfl, ge152_0⟩ := hMe152
        have hv152_0 := hcc152 0 _ rfl
        rw [Nat.add_zero, show ((Kd.slice 3 (Kd.int .i64))).sz = 1 from rfl, Nat.mul_one] at hv152_0
        replace hv152_0 := Option.some.inj (hv152_0.symm.trans hx152_0)
        rw [hv152_0] at ge152_0
        have HL152_0 := am (show Kd.R (Kd.int .i64) 3 _ _ _ _ (rd_L3 x6_1 (ji48)) from ge152_0)
        clear hv152_0 ge152_0
        have HX152_0 := am hx152_0
        clear hcc152 hce152
        have HR152_0 := am hi152_0
        have HC152_0 := am hl152_0
        clear hi152_0 hl152_0
        replace p152 := eq_true p152
        replace q152 := eq_true q152
        go_wp2
        go_ret
        exact ⟨_, by first | rfl | (simp [errW_none, errW_some] <;> rfl) | (simp only [← hji3, ← hji48]; first | rfl | (simp [errW_none, errW_some] <;> rfl)) | (simp [*, errW_none, errW_some] <;> rfl), by (with_reducible repeat (first | apply Kd.R_alloc | apply Kd.R_drewN | apply Kd.R_drew)); exact Kd.R_mono HL152_0.out (fun _ hk => trivial), hbS HB.out⟩
       ·rw [if_neg c50] at H
        exact absurd H (by simp)
      ·rw [if_neg c49] at H
       exact absurd H (by simp)
  ·rw [if_neg c5] at H
   exact absurd H (by simp)
 ·rw [if_neg c4] at H
  exact absurd H (by simp)
end Go.Proofs.Ytonifgfgeollaaa.X
end
