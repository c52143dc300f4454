import Derived.Test.YtonifgfgeollaaaP4
import Derived.Test.YtonifgfgeollaaaP9
section
/- countBy: the print's walk, its loops carrying the rows that are ranged over. -/
--! fn impl.countBy|impl_countBy|rounds|making
--! uses impl.stand
namespace Go.Proofs.Ytonifgfgeollaaa.X
open Go.Proofs.Ytonifgfgeollaaa.Sq Go.RowKit Go.Proofs.YtonifgfgeollaaaW.PrintWords Go.Proofs.YtonifgfgeollaaaW.PrintLast Go.Proofs.YtonifgfgeollaaaW.PrintMore
attribute [local go_sem] max2_int min2_int max_two min_two max_three min_three max_four min_four   -- for this text's walks alone
set_option linter.unusedVariables false
set_option linter.unusedSimpArgs false
mutual
def impl_countBy.l0 : Nat → ByteArray → Int → Int → List (List Int) → Int → Int → Option (List Int)
 | 0, _, _, _, _, _, _ => none
 | k + 1, x0, x1, x5, x6, x20, x21 => if x21 < x20 then (if 42 ≤ 35184372088832 then (if 0 ≤ x21 then (if x21 < (x6.length : Int) then (impl_countBy.l0 k x0 x1 x5 (x6.set (x21 : Int).toNat (List.replicate 42 0)) x20 (wrap64 (x21 + 1))) else (none)) else (none)) else (none)) else (if 0 < (x6.length : Int) then (if 0 < ((rd_L3 x6 0).length : Int) then ((impl_stand.f k x0).bind fun t237 => (if 1 ≤ (t237.length : Int) then ((some (t237.drop 1 : List Int)).bind fun y240 => (impl_countBy.l1 k x1 x5 (x6.set (0 : Int).toNat ((rd_L3 x6 0).set (0 : Int).toNat 1)) y240 (y240.length : Int) 0)) else (none))) else (none)) else (none))
def impl_countBy.l1 : Nat → Int → Int → List (List Int) → List Int → Int → Int → Option (List Int)
 | 0, _, _, _, _, _, _ => none
 | k + 1, x1, x5, x6, x35, x36, x37 => if x37 < x36 then (if 0 ≤ x37 then (if x37 < (x35.length : Int) then (impl_countBy.l2 k x1 x5 x6 (rd x35 x37) (mx 0 (wrap64 ((rd x35 x37) - x1))) x35 x36 x37) else (none)) else (none)) else (if 0 ≤ x5 then (if x5 < (x6.length : Int) then (some (rd_L3 x6 x5)) else (none)) else (none))
def impl_countBy.l2 : Nat → Int → Int → List (List Int) → Int → Int → List Int → Int → Int → Option (List Int)
 | 0, _, _, _, _, _, _, _, _ => none
 | k + 1, x1, x5, x6, x9, x10, x35, x36, x37 => if x10 < x9 then (if 0 ≤ x10 then (if x10 < (x6.length : Int) then (if 41 ≤ ((rd_L3 x6 x10).length : Int) then ((some ((rd_L3 x6 x10).take 41 : List Int)).bind fun y247 => (impl_countBy.l3 k x1 x5 x6 x9 x10 x35 x36 x37 y247 (y247.length : Int) 0)) else (none)) else (none)) else (none)) else (impl_countBy.l1 k x1 x5 x6 x35 x36 (wrap64 (x37 + 1)))
def impl_countBy.l3 : Nat → Int → Int → List (List Int) → Int → Int → List Int → Int → Int → List Int → Int → Int → Option (List Int)
 | 0, _, _, _, _, _, _, _, _, _, _, _ => none
 | k + 1, x1, x5, x6, x9, x10, x35, x36, x37, x54, x55, x56 => if x56 < x55 then (if 0 ≤ x56 then (if x56 < (x54.length : Int) then (if 0 ≤ x9 then (if x9 < (x6.length : Int) then (if 0 ≤ (wrap64 (x56 + 1)) then (if (wrap64 (x56 + 1)) < ((rd_L3 x6 x9).length : Int) then (impl_countBy.l3 k x1 x5 (x6.set (x9 : Int).toNat ((rd_L3 x6 x9).set ((wrap64 (x56 + 1)) : Int).toNat (mn (wrap64 ((rd (rd_L3 x6 x9) (wrap64 (x56 + 1))) + (rd x54 x56))) 1000000000000001))) x9 x10 x35 x36 x37 x54 x55 (wrap64 (x56 + 1))) else (none)) else (none)) else (none)) else (none)) else (none)) else (none)) else (impl_countBy.l2 k x1 x5 x6 x9 (wrap64 (x10 + 1)) x35 x36 x37)
end
def impl_countBy.f (k : Nat) (a0 : ByteArray) (a1 : Int) : Option (List Int) := if 0 ≤ (wrap64 ((wrap64 ((a0.size : Int) + 1)) + 1)) then (if (wrap64 ((wrap64 ((a0.size : Int) + 1)) + 1) : Int).toNat ≤ 11728124029610 then ((some (List.replicate (wrap64 ((wrap64 ((a0.size : Int) + 1)) + 1) : Int).toNat [] : List (List Int))).bind fun y226 => (impl_countBy.l0 k a0 a1 (wrap64 ((a0.size : Int) + 1)) y226 (y226.length : Int) 0)) else (none)) else (none)
def impl_countBy.T18 : Bool × List (List Nat × List Nat) := (true, [([], []), ([], []), ([0, 1], [0, 1]), ([2], [2]), ([], []), ([4], [4]), ([], []), ([], []), ([6, 7], [6, 7]), ([8], [8]), ([], []), ([10], [10]), ([9, 11], [9, 11]), ([12], [12]), ([], []), ([13, 14], [13, 14]), ([15], [15]), ([3, 5, 0, 1, 2, 3, 4, 5, 6, 7, 8, 9, 10, 11, 12, 13, 14, 15, 16], [3, 5]), ([17, 16, 0, 1, 2, 3, 4, 5, 6, 7, 8, 9, 10, 11, 12, 13, 14, 15, 16], [16, 17])])
def impl_countBy.B18 : List Nat := [0, 0, 3, 7, 0, 16, 0, 0, 192, 448, 0, 1024, 4032, 8128, 0, 32704, 65472, 131071, 262143]
theorem impl_countBy.tab18 : rtab .any (opsOf Try.f87 18) = impl_countBy.T18 := by kernel_rfl
theorem impl_countBy.bits18 : waitsOk impl_countBy.T18.2 impl_countBy.B18 = true := by kernel_rfl
set_option maxHeartbeats 8000000 in
set_option maxRecDepth 100000 in
theorem impl_countBy.calls (k : Nat) (a0 : ByteArray) (a1 : Int) (r : List Int) (w : World) (h : impl_countBy.f k a0 a1 = some r) :
  Calls Try.prog 87 #[.string a0, .int .i64 a1] w fun e w' => ∃ v0_ : Value, e = .returned (v0_) ∧ Kd.R (Kd.int .i64) 3 w' w.heap.size (fun _ => True) v0_ r ∧ Below w.heap.size w w' := by
 have HB := am (Below.refl w.heap.size w)
 have H : (if 0 ≤ (wrap64 ((wrap64 ((a0.size : Int) + 1)) + 1)) then (if (wrap64 ((wrap64 ((a0.size : Int) + 1)) + 1) : Int).toNat ≤ 11728124029610 then ((some (List.replicate (wrap64 ((wrap64 ((a0.size : Int) + 1)) + 1) : Int).toNat [] : List (List Int))).bind fun y226 => (impl_countBy.l0 k a0 a1 (wrap64 ((a0.size : Int) + 1)) y226 (y226.length : Int) 0)) else (none)) else (none)) = some r := h
 clear h
 obtain ⟨ji3, hji3⟩ : ∃ j_ : Int, (wrap64 ((wrap64 ((a0.size : Int) + 1)) + 1)) = j_ := ⟨_, rfl⟩
 replace H : (if 0 ≤ (ji3) then (if (ji3 : Int).toNat ≤ 11728124029610 then ((some (List.replicate (ji3 : Int).toNat [] : List (List Int))).bind fun y226 => (impl_countBy.l0 k a0 a1 (wrap64 ((a0.size : Int) + 1)) y226 (y226.length : Int) 0)) else (none)) else (none)) = some r := by first | (rw [hji3] at H; exact H) | (simp only [hji3] at H ⊢; exact H)
 have hji3w : (IntKind.i64.wrap ((wrap64 ((a0.size : Int) + 1)) + 1)) = ji3 := (i64_w _).trans hji3
 by_cases c4 : 0 ≤ (ji3)
 ·rw [if_pos c4] at H
  have c4b0 := eq_true c4
  have c4b1 : decide (0 ≤ (ji3)) = true := decide_eq_true c4
  clear c4
  by_cases c5 : (ji3 : Int).toNat ≤ 11728124029610
  ·rw [if_pos c5] at H
   have c5b0 := eq_true c5
   have c5b1 : decide ((ji3 : Int).toNat ≤ 11728124029610) = true := decide_eq_true c5
   clear c5
   obtain ⟨y226, hy226⟩ : ∃ y_ : List (List Int), y_ = (List.replicate (ji3 : Int).toNat []) := ⟨_, rfl⟩
   replace H : (impl_countBy.l0 k a0 a1 (wrap64 ((a0.size : Int) + 1)) y226 (y226.length : Int) 0) = some r := by first | (rw [hy226]; with_reducible exact H) | (have H2_ := (Option.bind_some _ _).symm.trans H; rw [hy226]; with_reducible exact H2_) | (have H2_ := (Option.bind_some _ _).symm.trans H; with_reducible exact H2_) | with_reducible exact H | (rw [hy226]; exact H) | exact H
   have Ny226 := am hy226
   clear hy226
   have H' := am H
   clear H
   go_enter Try.func87, Try.ntmps87
   go_wp2_with (first | ((with_reducible refine gate_dst (N := 18) rfl ?_); refine Kd.S_make (Kd.slice 3 (Kd.int .i64)) _ 51 rfl (N := 18) rfl 90 _ _ rfl ji3 rfl rfl Try.underlying90 (.slice none 0 0) 24 info51 rfl (by decide) (by omega) [] (ok := fun _ => True) (okp := fun _ => True) ⟨_, rfl, Kd.R_nil _ _ _ _ _⟩ (fun _ hk => hk) trivial (of_decide_eq_true (by first | (with_reducible assumption) | assumption)) (Nat.le_trans (Nat.mul_le_mul_right _ (of_decide_eq_true (by first | (with_reducible assumption) | assumption) : ji3.toNat ≤ 11728124029610)) (by omega)) (Below.refl _ _) (Nat.le_refl _) ?_; intro v227 w6 ho7 hb hg_ hnew_; clear hg_ hnew_; (first | rw [← Ny226.out] at ho7 | (simp only [Int.reduceToNat] at ho7; rw [← Ny226.out] at ho7)); have n0_ := am (Kd.S_lower ho7 (below_size (hbS HB.out))); have n1_ := am (below_step (hbS HB.out) hb); clear HB; have HO228 := n0_; have HB := n1_; clear n0_ n1_; clear hb ho7; obtain ⟨Ao8, co8, eo8⟩ := Kd.S_slice HO228.out; subst eo8))
   go_loopg [21] k (fun kq v21 w' => ∃ (x6_1 : List (List Int)) (x21_1 : Int), v21 = .int .i64 x21_1 ∧ Aside0 (impl_countBy.l0 kq a0 a1 (wrap64 ((a0.size : Int) + 1)) x6_1 (y226.length : Int) x21_1 = some r) ∧ Aside0 (kq ≤ k) ∧ Aside0 (Kd.S (Kd.slice 3 (Kd.int .i64)) 51 w' w.heap.size (fun _ => True) (.slice Ao8 y226.length co8) x6_1) ∧ Aside0 (Below w.heap.size w w'))
   case atStart => exact ⟨(y226), (0), (by first | rfl | (simp; done) | (simp [*]; done)), H', ⟨Nat.le_refl _⟩, ⟨by (with_reducible repeat (first | apply Kd.S_alloc | apply Kd.S_drewN | apply Kd.S_drew)); exact HO228.out⟩, ⟨hbS HB.out⟩⟩
   case round =>
    clear H'
    try clear p2
    try clear c4
    try clear c4b0
    try clear c4b1
    try clear c5
    try clear c5b0
    try clear c5b1
    try clear p6
    try clear c8
    obtain ⟨x6_1, x21_1, rfl, HA, HK1, HO_6, HB⟩ := hrel
    have hl6_1 := (Kd.S_reads' HO_6.out).1
    rw [hl6_1] at HO_6
    (try simp only [hl6_1])
    cases gk with
    | zero => exact absurd HA.out (by simp [impl_countBy.l0])
    | succ k1 =>
     have H := HA.out
     clear HA
     simp only [impl_countBy.l0] at H
     by_cases c9 : x21_1 < (y226.length : Int)
     ·rw [if_pos c9] at H
      have c9b0 : decide (x21_1 < (y226.length : Int)) = true := decide_eq_true c9
      (try rw [hl6_1] at c9b0)
      clear c9
      by_cases c10 : 42 ≤ 35184372088832
      ·rw [if_pos c10] at H
       have c10b0 := eq_true c10
       have c10b1 : decide (42 ≤ 35184372088832) = true := decide_eq_true c10
       clear c10
       obtain ⟨y229, hy229⟩ : ∃ y_ : List Int, y_ = (List.replicate 42 0) := ⟨_, rfl⟩
       replace H : (if 0 ≤ x21_1 then (if x21_1 < (x6_1.length : Int) then (impl_countBy.l0 k1 a0 a1 (wrap64 ((a0.size : Int) + 1)) (x6_1.set (x21_1 : Int).toNat y229) (y226.length : Int) (wrap64 (x21_1 + 1))) else (none)) else (none)) = some r := by first | (rw [hy229]; with_reducible exact H) | (have H2_ := (Option.bind_some _ _).symm.trans H; rw [hy229]; with_reducible exact H2_) | (have H2_ := (Option.bind_some _ _).symm.trans H; with_reducible exact H2_) | with_reducible exact H | (rw [hy229]; exact H) | exact H
       have Ny229 := am hy229
       clear hy229
       by_cases c11 : 0 ≤ x21_1
       ·rw [if_pos c11] at H
        have c11b0 : decide (0 ≤ x21_1) = true := decide_eq_true c11
        clear c11
        by_cases c12 : x21_1 < (x6_1.length : Int)
        ·rw [if_pos c12] at H
         have c12b0 : decide (x21_1 < (x6_1.length : Int)) = true := decide_eq_true c12
         clear c12
         obtain ⟨y232, hy232⟩ : ∃ y_ : List (List Int), y_ = (x6_1.set (x21_1 : Int).toNat y229) := ⟨_, rfl⟩
         replace H : (impl_countBy.l0 k1 a0 a1 (wrap64 ((a0.size : Int) + 1)) y232 (y226.length : Int) (wrap64 (x21_1 + 1))) = some r := by first | (rw [hy232]; with_reducible exact H) | (have H2_ := (Option.bind_some _ _).symm.trans H; rw [hy232]; with_reducible exact H2_) | (have H2_ := (Option.bind_some _ _).symm.trans H; with_reducible exact H2_) | with_reducible exact H | (rw [hy232]; exact H) | exact H
         have Ny232 := am hy232
         clear hy232
         have H' := am H
         clear H
         go_wp2_with (first | ((with_reducible refine gate_dst (N := 26) rfl ?_); refine Kd.R_make (Kd.int .i64) _ 3 rfl (N := 26) rfl 51 _ _ rfl 42 rfl rfl Try.underlying51 (.int .i64 0) 8 info3 rfl (by decide) (by omega) 0 (ok := fun _ => True) (okp := fun _ => True) rfl (fun _ hk => hk) trivial (by omega) (by omega) (Below.refl _ _) (Nat.le_refl _) ?_; intro v230 w14 ho15 hb hg_ hnew_; clear hg_ hnew_; (first | rw [← Ny229.out] at ho15 | (simp only [Int.reduceToNat] at ho15; rw [← Ny229.out] at ho15)); have n0_ := am (Kd.S_elder' (by (with_reducible repeat (first | apply Kd.S_alloc | apply Kd.S_drewN | apply Kd.S_drew)); exact HO_6.out) (Kd.R_base ho15) hb); have n1_ := am (Kd.R_lower ho15 (below_size (hbS HB.out))); have n2_ := am (below_step (hbS HB.out) hb); clear HO_6; clear HB; have HO_6 := n0_; have HO231 := n1_; have HB := n2_; clear n0_ n1_ n2_; clear hb ho15; have p13 : 0 ≤ (x21_1 : Int) := of_decide_eq_true (by first | (with_reducible assumption) | assumption); have q13 : (x21_1 : Int) < ((x6_1.length : Int) : Int) := of_decide_eq_true (by first | (with_reducible assumption) | assumption); obtain ⟨go13, co13, eo13, gb13, gl13, cl13, HG13⟩ := Kd.S_form HO_6.out (by omega); (first | cases eo13 | (injection eo13 with ea_ en_ ec_; (first | subst ea_ | (injection ea_ with ea_; subst ea_)); subst ec_; clear en_)); have GB13 := am gb13; have GG13 := am HG13; clear gb13 gl13 HG13; obtain ⟨_, ce13, hcl13, hM13, hcc13, hfr13, _, _⟩ := Kd.S_elem HO_6.out [] (x21_1 : Int) p13 q13; obtain ⟨ve13_0, rfl, ge13_0⟩ := hM13; have hx13_0 := hcc13 0 _ rfl; have hf13_0 := hfr13 0; (try simp only [show ((Kd.slice 3 (Kd.int .i64))).sz = 1 from rfl, Nat.mul_one, Nat.add_zero] at hx13_0); (try simp only [show ((Kd.slice 3 (Kd.int .i64))).sz = 1 from rfl, Nat.mul_one, Nat.add_zero] at hf13_0); (try clear hM13); (try clear hcl13 hcc13 hfr13); replace p13 := eq_true p13; replace q13 := eq_true q13; have n_ := am (Kd.S_mono (ok' := (fun k_ => some k_ ≠ (v230 : Value).ownBlock)) HO_6.out (fun k_ hk => hk.2)); clear HO_6; have HO_6 := n_; clear n_; have HX16 := am (show Kd.S (Kd.slice 3 (Kd.int .i64)) 51 w14 w.heap.size (fun k_ => ((fun _ => True)) k_ ∧ ¬ ((fun k_ => some k_ = (v230 : Value).ownBlock)) k_) (.slice (some ⟨go13, 0, none⟩) x6_1.length co8) x6_1 from (by (with_reducible repeat (first | apply Kd.S_alloc | apply Kd.S_drewN | apply Kd.S_drew)); exact Kd.S_mono HO_6.out (fun k_ hk => ⟨trivial, fun e_ => hk e_⟩))); obtain ⟨oki16, ce16, hcl16, hM16, hcc16, hfr16, hoki16, hH16⟩ := Kd.S_elem HX16.out [] (x21_1 : Int) (of_decide_eq_true (by first | (with_reducible assumption) | assumption)) (by have h_ : (x21_1 : Int) < ((x6_1.length : Int) : Int) := of_decide_eq_true (by first | (with_reducible assumption) | assumption); first | exact h_ | (have e_ := (Kd.S_reads' HO_6.out).1; omega) | simpa using h_); obtain ⟨ve16_0, rfl, ge16_0⟩ := hM16; have HP16 := Kd.S_seg hH16 (of_decide_eq_true (by first | (with_reducible assumption) | assumption)) (by have h_ : (x21_1 : Int) < ((x6_1.length : Int) : Int) := of_decide_eq_true (by first | (with_reducible assumption) | assumption); first | exact h_ | (have e_ := (Kd.S_reads' HO_6.out).1; omega) | simpa using h_) (seg := [v230]) (j := 0) (show 1 ≤ 1 from by decide) (x' := y229) (Kd.M_row (Kd.R_mono (Kd.R_tight rfl (Kd.R_mono (ok' := fun k_ => ((fun _ => True)) k_ ∧ k_ ≠ go13) (Kd.R_apart' (HO231.out) (Kd.S_typed HO_6.out) (by decide)) (fun k_ hk => ⟨trivial, fun e_ => (hk.2) (by rw [e_]; rfl)⟩))) (fun _ h_ => Or.inr (h_)))) (fun _ hk => hk) (fun k_ hk_ => ((Kd.R_mono (ok' := fun k_ => ((fun _ => True)) k_ ∧ k_ ≠ go13) (Kd.R_apart' (HO231.out) (Kd.S_typed HO_6.out) (by decide)) (fun k_ hk => ⟨trivial, fun e_ => (hk.2) (by rw [e_]; rfl)⟩))).1 k_ hk_.symm); have hx16_0 := hcc16 0 _ rfl; (try simp only [show ((Kd.slice 3 (Kd.int .i64))).sz = 1 from rfl, Nat.mul_one, Nat.add_zero] at hx16_0); have hf16_0 := hfr16 0; (try simp only [show ((Kd.slice 3 (Kd.int .i64))).sz = 1 from rfl, Nat.mul_one, Nat.add_zero] at hf16_0); (try clear hM16); (try clear hcl16 hcc16 hfr16 hoki16 hH16); (try simp only [show ((Kd.slice 3 (Kd.int .i64))).sz = 1 from rfl, Nat.mul_one, Nat.add_zero] at HP16)) | ((with_reducible refine gate_store (t := 51) (p := 27) rfl ?_); refine store_event (t := 51) (p := 27) (v := ?vo_w17) (w1 := (w14.setCell ⟨go13, (x21_1 : Int).toNat, none⟩ (v230))) ?hg ?ho ?hn ?hr ?_; (case ho => rfl); (case hg => rfl); (case hn => rfl); (case hr => first | (obtain ⟨_, _, ev_⟩ := Kd.R_slice HO231.out; subst ev_; first | (go_simp; done) | (go_simp; rfl)) | (go_simp; done) | (go_simp; rfl)); intro w17 hw; have hg : w14.grownBy w17 (some go13) := (by rw [hw]; exact HP16.2); have hp_ : Kd.S (Kd.slice 3 (Kd.int .i64)) 51 w17 w.heap.size (fun _ => True) (.slice (some ⟨go13, 0, none⟩) x6_1.length co8) y232 := (by rw [hw, Ny232.out]; exact HP16.1); clear HP16; have n0_ := am (hp_); have n1_ := am ((by rw [hw]; exact below_set (HB.out) GB13.out : Below w.heap.size w w17)); clear HO_6; clear HB; clear HO231; have HO_6 := n0_; have HB := n1_; clear n0_ n1_; clear hg hw hp_))
         (try simp only [← hl6_1])
         go_roundg k1
         case measure => have := HK1.out; omega
         case rel => exact ⟨(y232), (wrap64 (x21_1 + 1)), (by first | rfl | (simp; done) | (simp [*]; done)), H', ⟨by have := HK1.out; omega⟩, ⟨by (try simp only [hl6_1]); (with_reducible repeat (first | apply Kd.S_alloc | apply Kd.S_drewN | apply Kd.S_drew)); exact HO_6.out⟩, ⟨hbS HB.out⟩⟩
        ·rw [if_neg c12] at H
         exact absurd H (by simp)
       ·rw [if_neg c11] at H
        exact absurd H (by simp)
      ·rw [if_neg c10] at H
       exact absurd H (by simp)
     ·rw [if_neg c9] at H
      have c9b0 : decide (x21_1 < (y226.length : Int)) = false := decide_eq_false c9
      (try rw [hl6_1] at c9b0)
      clear c9
      by_cases c18 : 0 < (x6_1.length : Int)
      ·rw [if_pos c18] at H
       have c18b0 : decide (0 < (x6_1.length : Int)) = true := decide_eq_true c18
       have c18b1 : decide (0 < x6_1.length) = true := decide_eq_true (by omega)
       clear c18
       by_cases c19 : 0 < ((rd_L3 x6_1 0).length : Int)
       ·rw [if_pos c19] at H
        have c19b0 : decide (0 < ((rd_L3 x6_1 0).length : Int)) = true := decide_eq_true c19
        have c19b1 : decide (0 < (rd_L3 x6_1 0).length) = true := decide_eq_true (by omega)
        clear c19
        obtain ⟨y234, hy234⟩ : ∃ y_ : List Int, y_ = ((rd_L3 x6_1 0).set (0 : Int).toNat 1) := ⟨_, rfl⟩
        replace H : ((impl_stand.f k1 a0).bind fun t237 => (if 1 ≤ (t237.length : Int) then ((some (t237.drop 1 : List Int)).bind fun y240 => (impl_countBy.l1 k1 a1 (wrap64 ((a0.size : Int) + 1)) (x6_1.set (0 : Int).toNat y234) y240 (y240.length : Int) 0)) else (none))) = some r := by first | (rw [hy234]; with_reducible exact H) | (have H2_ := (Option.bind_some _ _).symm.trans H; rw [hy234]; with_reducible exact H2_) | (have H2_ := (Option.bind_some _ _).symm.trans H; with_reducible exact H2_) | with_reducible exact H | (rw [hy234]; exact H) | exact H
        have Ny234 := am hy234
        clear hy234
        obtain ⟨y236, hy236⟩ : ∃ y_ : List (List Int), y_ = (x6_1.set (0 : Int).toNat y234) := ⟨_, rfl⟩
        replace H : ((impl_stand.f k1 a0).bind fun t237 => (if 1 ≤ (t237.length : Int) then ((some (t237.drop 1 : List Int)).bind fun y240 => (impl_countBy.l1 k1 a1 (wrap64 ((a0.size : Int) + 1)) y236 y240 (y240.length : Int) 0)) else (none))) = some r := by first | (rw [hy236]; with_reducible exact H) | (have H2_ := (Option.bind_some _ _).symm.trans H; rw [hy236]; with_reducible exact H2_) | (have H2_ := (Option.bind_some _ _).symm.trans H; with_reducible exact H2_) | with_reducible exact H | (rw [hy236]; exact H) | exact H
        have Ny236 := am hy236
        clear hy236
        replace H := Option.bind_eq_some_iff.mp H
        obtain ⟨t237, A210, H⟩ := H
        replace H : (if 1 ≤ (t237.length : Int) then ((some (t237.drop 1 : List Int)).bind fun y240 => (impl_countBy.l1 k1 a1 (wrap64 ((a0.size : Int) + 1)) y236 y240 (y240.length : Int) 0)) else (none)) = some r := H
        have A21 := am A210
        clear A210
        by_cases c22 : 1 ≤ (t237.length : Int)
        ·rw [if_pos c22] at H
         have c22b0 := eq_true c22
         have c22b1 : decide (1 ≤ (t237.length : Int)) = true := decide_eq_true c22
         clear c22
         obtain ⟨y240, hy240⟩ : ∃ y_ : List Int, y_ = (t237.drop 1) := ⟨_, rfl⟩
         replace H : (impl_countBy.l1 k1 a1 (wrap64 ((a0.size : Int) + 1)) y236 y240 (y240.length : Int) 0) = some r := by first | (rw [hy240]; with_reducible exact H) | (have H2_ := (Option.bind_some _ _).symm.trans H; rw [hy240]; with_reducible exact H2_) | (have H2_ := (Option.bind_some _ _).symm.trans H; with_reducible exact H2_) | with_reducible exact H | (rw [hy240]; exact H) | exact H
         have Ny240 := am hy240
         clear hy240
         have H' := am H
         clear H
         have p233 : 0 ≤ (0 : Int) := (by omega)
         have q233 : 0 < (x6_1.length : Int) := of_decide_eq_true (by first | (with_reducible assumption) | assumption)
         obtain ⟨ad233, A233_0, c233_0, e233, hx233_0, hl233_0, hi233_0⟩ := at_L3 (Kd.S_reads' HO_6.out).2.2 0 p233 q233
         cases e233
         obtain ⟨ce233, hce233, hMe233, hcc233⟩ := Kd.S_get HO_6.out [] 0 p233 (by first | exact q233 | exact of_decide_eq_true (by first | (with_reducible assumption) | assumption) | (have e_ := (Kd.S_reads' HO_6.out).1; omega))
         obtain ⟨ve233_0, rfl, ge233_0⟩ := hMe233
         have hv233_0 := hcc233 0 _ rfl
         rw [Nat.add_zero, show ((Kd.slice 3 (Kd.int .i64))).sz = 1 from rfl, Nat.mul_one] at hv233_0
         replace hv233_0 := Option.some.inj (hv233_0.symm.trans hx233_0)
         rw [hv233_0] at ge233_0
         have HL233_0 := am (show Kd.R (Kd.int .i64) 3 _ _ _ _ (rd_L3 x6_1 0) from ge233_0)
         clear hv233_0 ge233_0
         have HX233_0 := am hx233_0
         clear hcc233 hce233
         have qi233 : (0 < x6_1.length) = True := eq_true (by omega)
         (try rw [show ((0 : Int)).toNat = 0 from rfl] at hx233_0)
         (try rw [Addr.add_zero'] at hx233_0)
         have HR233_0 := am hi233_0
         have HC233_0 := am hl233_0
         clear hi233_0 hl233_0
         replace p233 := eq_true p233
         replace q233 := eq_true q233
         have p20 : 0 ≤ (0 : Int) := (by omega)
         have q20 : (0 : Int) < (((rd_L3 x6_1 0).length : Int) : Int) := of_decide_eq_true (by first | (with_reducible assumption) | assumption)
         have qi20 : (0 < (rd_L3 x6_1 0).length) = True := eq_true (by omega)
         obtain ⟨go20, co20, eo20, gb20, gl20, cl20, HG20⟩ := Kd.R_form HL233_0.out (by omega)
         (first | cases eo20 | (injection eo20 with ea_ en_ ec_; (first | subst ea_ | (injection ea_ with ea_; subst ea_)); subst ec_; clear en_))
         have GB20 := am gb20
         have GG20 := am HG20
         clear gb20 gl20 HG20
         obtain ⟨hx20_0, hf20_0⟩ := Kd.R_celln 0 HL233_0.out (0 : Int) p20 q20
         (try rw [show ((0 : Int)).toNat = 0 from rfl] at hx20_0)
         (try simp only [Nat.reduceMul, Nat.zero_mul, Nat.zero_add, Nat.reduceAdd] at hx20_0)
         (try rw [show ((0 : Int)).toNat = 0 from rfl] at hf20_0)
         (try simp only [Nat.reduceMul, Nat.zero_mul, Nat.zero_add, Nat.reduceAdd] at hf20_0)
         replace p20 := eq_true p20
         replace q20 := eq_true q20
         have hq23 : (0 : Int) < (x6_1.length : Int) := (by have h_ : (0 : Int) < ((x6_1.length : Int) : Int) := of_decide_eq_true (by first | (with_reducible assumption) | assumption); first | exact h_ | (have e_ := (Kd.S_reads' HO_6.out).1; omega) | simpa only [List.length_set, List.length_set] using h_)
         obtain ⟨oki23, ce23, hcl23, hM23, hcc23, hok23, hbk23⟩ := Kd.S_borrow HO_6.out [] (0 : Int) (by omega) hq23
         obtain ⟨ve23_0, rfl, ge23_0⟩ := hM23
         have hv23 := hcc23 0 _ rfl
         rw [Nat.add_zero, show ((Kd.slice 3 (Kd.int .i64))).sz = 1 from rfl, Nat.mul_one] at hv23
         replace hv23 := Option.some.inj (hv23.symm.trans HX233_0.out)
         subst hv23
         clear hcc23 hcl23
         replace ge23_0 := (show Kd.R (Kd.int .i64) 3 _ _ _ _ (rd_L3 x6_1 0) from ge23_0)
         have HP23 := Kd.R_putg ge23_0 (0 : Int) 1
         go_wp2_with (first | ((with_reducible refine gate_store (t := 3) (p := 32) rfl ?_); refine store_event (t := 3) (p := 32) (v := ?vo_w24) (w1 := (wr.setCell ⟨go20, 0, none⟩ (.int .i64 1))) ?hg ?ho ?hn ?hr ?_; (case ho => rfl); (case hg => rfl); (case hn => rfl); (case hr => first | (go_simp; done) | (go_simp; rfl)); intro w24 hw; have hg : wr.grownBy w24 (some go20) := (by rw [hw]; exact HP23.2); have hz_ : Kd.R (Kd.int .i64) 3 w24 w.heap.size oki23 (.slice (some ⟨go20, 0, none⟩) (rd_L3 x6_1 0).length c233_0) y234 := (by rw [hw, Ny234.out]; exact HP23.1); have hp_ : Kd.S (Kd.slice 3 (Kd.int .i64)) 51 w24 w.heap.size (fun _ => True) (.slice (some ad233) x6_1.length co8) y236 := (by rw [Ny236.out]; exact hbk23 hg (fun k_ e_ => by injection e_ with e_; subst e_; exact ge23_0.1 _ rfl) (Kd.M_row hz_)); have hm_ := Kd.R_mono hz_ hok23; clear HP23 hbk23; have n0_ := am (hp_); have n1_ := am ((by rw [hw]; exact below_set (HB.out) GB20.out : Below w.heap.size w w24)); have n2_ := am (hm_); have n3_ := am ((Kd.R_reads' hm_).2.1); clear HO_6; clear HB; clear HL233_0; have HO_6 := n0_; have HB := n1_; have HL258 := n2_; have HC235 := n3_; clear n0_ n1_ n2_ n3_; clear hg hw hp_ hz_ hm_ hok23) | ((with_reducible refine gate_callee (f := 89) rfl ?_); refine goesL_ (some 34) rfl rfl Try.func89 (by kernel_rfl) rfl #[.string a0] rfl (by (try simp only [List.map_toArray, List.map_cons, List.map_nil]); first | done | rfl | (simp only [List.length_drop, List.length_take]; rfl)) ?_; (with_reducible refine (impl_stand.calls k1 a0 t237 _ A21.out).mono ?_); rintro e w25 ⟨v238, rfl, ho0, hb⟩; refine ⟨_, rfl, ?_⟩; have n0_ := am (Kd.S_elder' (by (with_reducible repeat (first | apply Kd.S_alloc | apply Kd.S_drewN | apply Kd.S_drew)); exact HO_6.out) (Kd.R_base ho0) hb); have n1_ := am (Kd.R_elder' (roS HL258.out) (Kd.R_base ho0) hb); have n2_ := am (Kd.R_lower (Kd.R_new' ho0 (Kd.R_lt (roS HL258.out))) (below_size (hbS HB.out))); have n3_ := am (below_step (hbS HB.out) hb); clear HO_6; clear HL258; clear HB; have HO_6 := n0_; have HL258 := n1_; have HO239 := n2_; have HB := n3_; clear n0_ n1_ n2_ n3_; (try clear hb); (try clear hb2); (try clear hk); (try clear hi); (try clear ho0); obtain ⟨Ao27, co27, eo27⟩ := Kd.R_slice HO239.out; subst eo27; have q26 : (1 : Int) ≤ ((t237.length : Int) : Int) := of_decide_eq_true (by first | (with_reducible assumption) | assumption); obtain ⟨i026, hi026, _, hsz26, _⟩ := info_parts info3; have hroom26 : t237.length ≤ co27 := (Kd.R_reads' HO239.out).2.1; have hC26 : Kd.C (Kd.int .i64) _ Ao27 t237.length t237 := (Kd.R_reads' HO239.out).2.2; have hcut26 := cut_from (P := Try.prog) 51 3 .i64 Try.underlying51 hi026 1 hsz26 Ao27 t237.length co27 1 (by omega) q26; have hr26 := Kd.C_drop (m := (1 : Int).toNat) (c := co27) hC26 (by omega) hroom26; obtain ⟨A26, hA26⟩ : ∃ A1, A1 = (if co27 = (1 : Int).toNat then Ao27 else (Ao27 : Option Addr).map (·.add ((1 : Int).toNat * 1))) := ⟨_, rfl⟩; obtain ⟨c26, hc26⟩ : ∃ c1, c1 = co27 - (1 : Int).toNat := ⟨_, rfl⟩; have hy26 : y240.length = t237.length - (1 : Int).toNat := (by rw [Ny240.out, List.length_drop] <;> omega); rw [show (t237).drop (1 : Int).toNat = y240 from Ny240.out.symm] at hr26; replace hr26 : Kd.C (Kd.int .i64) _ A26 y240.length y240 := (by rw [hA26]; exact hr26); rw [← hy26, ← hA26, ← hc26] at hcut26; have HR243 := am hr26; have HC243 := am (show y240.length ≤ c26 from by rw [hy26, hc26]; exact Nat.sub_le_sub_right hroom26 _); clear hr26 hC26 hroom26 hi026 hsz26 hc26; have KY26 := am hy26; have KA26 := am hA26; clear hy26 hA26; have KL26 := am (show 1 ≤ t237.length from by omega); replace q26 := eq_true q26))
         go_loopg [37] k1 (fun kq v37 w' => ∃ (x6_2 : List (List Int)) (x37_2 : Int), v37 = .int .i64 x37_2 ∧ Aside0 (impl_countBy.l1 kq a1 (wrap64 ((a0.size : Int) + 1)) x6_2 y240 (y240.length : Int) x37_2 = some r) ∧ Aside0 (kq ≤ k1) ∧ Aside0 (Kd.S (Kd.slice 3 (Kd.int .i64)) 51 w' w.heap.size (fun k_ => some k_ ≠ (Value.slice Ao27 t237.length co27 : Value).ownBlock) (.slice (some ad233) x6_1.length co8) x6_2) ∧ Aside0 (Kd.R (Kd.int .i64) 3 w' w.heap.size (fun k_ => some k_ = (Value.slice Ao27 t237.length co27 : Value).ownBlock) (.slice Ao27 t237.length co27) t237) ∧ Aside0 (Below w.heap.size w w'))
         case atStart => exact ⟨(y236), (0), (by first | rfl | (simp; done) | (simp [*]; done)), H', ⟨Nat.le_refl _⟩, ⟨by (try simp only [hl6_1]); (with_reducible repeat (first | apply Kd.S_alloc | apply Kd.S_drewN | apply Kd.S_drew)); exact Kd.S_mono HO_6.out (fun _ hk => hk.2)⟩, ⟨Kd.R_tight rfl HO239.out⟩, ⟨hbS HB.out⟩⟩
         case round =>
          clear H'
          try clear c1
          try clear p1
          try clear q1
          try clear hx1
          try clear c2
          try clear p2
          try clear q2
          try clear hx2
          try clear qi2
          try clear hf2
          try clear c4
          try clear c4b0
          try clear c4b1
          try clear c5
          try clear c5b0
          try clear c5b1
          try clear p6
          try clear c8
          try clear c9
          try clear c9b0
          try clear c10
          try clear c10b0
          try clear c10b1
          try clear c11
          try clear c11b0
          try clear c12
          try clear c12b0
          try clear c13
          try clear p13
          try clear q13
          try clear hx13
          try clear hf13
          try clear c16
          try clear hx16
          try clear hf16
          try clear c18
          try clear c18b0
          try clear c18b1
          try clear c19
          try clear c19b0
          try clear c19b1
          try clear p20
          try clear q20
          try clear hx20
          try clear qi20
          try clear hf20
          try clear c22
          try clear c22b0
          try clear c22b1
          try clear c23
          try clear p23
          try clear q23
          try clear hx23
          try clear qi23
          try clear c26
          try clear q26
          try clear hx13_0
          try clear hx16_0
          try clear hx20_0
          try clear hx233_0
          try clear p13
          try clear p2
          try clear p20
          try clear p233
          try clear p6
          try clear q13
          try clear q20
          try clear q233
          try clear q26
          obtain ⟨x6_2, x37_2, rfl, HA, HK2, HO_6, HS, HB⟩ := hrel
          have hl6_2 := (Kd.S_reads' HO_6.out).1
          rw [hl6_2] at HO_6
          (try simp only [hl6_2])
          cases gk with
          | zero => exact absurd HA.out (by simp [impl_countBy.l1])
          | succ k2 =>
           have H := HA.out
           clear HA
           simp only [impl_countBy.l1] at H
           by_cases c28 : x37_2 < (y240.length : Int)
           ·rw [if_pos c28] at H
            have c28b0 : decide (x37_2 < (y240.length : Int)) = true := decide_eq_true c28
            clear c28
            by_cases c29 : 0 ≤ x37_2
            ·rw [if_pos c29] at H
             have c29b0 : decide (0 ≤ x37_2) = true := decide_eq_true c29
             clear c29
             by_cases c30 : x37_2 < (y240.length : Int)
             ·rw [if_pos c30] at H
              have c30b0 : decide (x37_2 < (y240.length : Int)) = true := decide_eq_true c30
              clear c30
              obtain ⟨ji31, hji31⟩ : ∃ j_ : Int, (mx 0 (wrap64 ((rd y240 x37_2) - a1))) = j_ := ⟨_, rfl⟩
              replace H : (impl_countBy.l2 k2 a1 (wrap64 ((a0.size : Int) + 1)) x6_2 (rd y240 x37_2) ji31 y240 (y240.length : Int) x37_2) = some r := by first | (rw [hji31] at H; exact H) | (simp only [hji31] at H ⊢; exact H)
              have hji31_ : (if 0 < (wrap64 ((rd y240 x37_2) - a1)) then (wrap64 ((rd y240 x37_2) - a1)) else 0) = ji31 := hji31
              have H' := am H
              clear H
              have p245 : 0 ≤ (x37_2 : Int) := of_decide_eq_true (by first | (with_reducible assumption) | assumption)
              have q245 : x37_2 < (y240.length : Int) := of_decide_eq_true (by first | (with_reducible assumption) | assumption)
              have hr26 := Kd.C_drop (m := (1 : Int).toNat) (c := co27) (Kd.R_reads' HS.out).2.2 (by have := KL26.out; omega) (Kd.R_reads' HS.out).2.1
              rw [show t237.drop (1 : Int).toNat = y240 from Ny240.out.symm] at hr26
              have HR243w : Aside0 (Kd.C (Kd.int .i64) _ A26 y240.length y240) := am (by rw [KA26.out]; exact hr26)
              clear hr26
              obtain ⟨ad245, e245, hx245_0⟩ := Kd.at_int HR243w.out x37_2 p245 q245
              cases e245

              replace p245 := eq_true p245
              replace q245 := eq_true q245
              go_wp2
              go_loopg [10] k2 (fun kq v10 w' => ∃ (x6_3 : List (List Int)) (x10_3 : Int), v10 = .int .i64 x10_3 ∧ Aside0 (impl_countBy.l2 kq a1 (wrap64 ((a0.size : Int) + 1)) x6_3 (rd y240 x37_2) x10_3 y240 (y240.length : Int) x37_2 = some r) ∧ Aside0 (kq ≤ k2) ∧ Aside0 (Kd.S (Kd.slice 3 (Kd.int .i64)) 51 w' w.heap.size (fun k_ => some k_ ≠ (Value.slice Ao27 t237.length co27 : Value).ownBlock) (.slice (some ad233) x6_2.length co8) x6_3) ∧ Aside0 (Kd.R (Kd.int .i64) 3 w' w.heap.size (fun k_ => some k_ = (Value.slice Ao27 t237.length co27 : Value).ownBlock) (.slice Ao27 t237.length co27) t237) ∧ Aside0 (Below w.heap.size w w'))
              case atStart => exact ⟨(x6_2), (ji31), (by first | rfl | (simp; done) | (simp only [← hji31] <;> (first | rfl | simp)) | (simp [*]; done)), H', ⟨Nat.le_refl _⟩, ⟨by (try simp only [hl6_1]); (try simp only [hl6_2]); (with_reducible repeat (first | apply Kd.S_alloc | apply Kd.S_drewN | apply Kd.S_drew)); exact HO_6.out⟩, ⟨roS HS.out⟩, ⟨hbS HB.out⟩⟩
              case round =>
               clear H'
               try clear c1
               try clear p1
               try clear q1
               try clear hx1
               try clear c2
               try clear p2
               try clear q2
               try clear hx2
               try clear qi2
               try clear hf2
               try clear c3
               try clear c4
               try clear c4b0
               try clear c4b1
               try clear c5
               try clear c5b0
               try clear c5b1
               try clear p6
               try clear c8
               try clear c9
               try clear c9b0
               try clear c10
               try clear c10b0
               try clear c10b1
               try clear c11
               try clear c11b0
               try clear c12
               try clear c12b0
               try clear c13
               try clear p13
               try clear q13
               try clear hx13
               try clear hf13
               try clear c16
               try clear hx16
               try clear hf16
               try clear c18
               try clear c18b0
               try clear c18b1
               try clear c19
               try clear c19b0
               try clear c19b1
               try clear p20
               try clear q20
               try clear hx20
               try clear qi20
               try clear hf20
               try clear c22
               try clear c22b0
               try clear c22b1
               try clear c23
               try clear p23
               try clear q23
               try clear hx23
               try clear qi23
               try clear p24
               try clear q24
               try clear hx24
               try clear c26
               try clear q26
               try clear c28
               try clear c28b0
               try clear c29
               try clear c29b0
               try clear c30
               try clear c30b0
               try clear hx13_0
               try clear hx16_0
               try clear hx20_0
               try clear hx233_0
               try clear hx245_0
               try clear p1
               try clear p13
               try clear p2
               try clear p20
               try clear p23
               try clear p233
               try clear p245
               try clear p6
               try clear q1
               try clear q13
               try clear q2
               try clear q20
               try clear q23
               try clear q233
               try clear q245
               try clear q26
               obtain ⟨x6_3, x10_3, rfl, HA, HK3, HO_6, HS, HB⟩ := hrel
               have hl6_3 := (Kd.S_reads' HO_6.out).1
               rw [hl6_3] at HO_6
               (try simp only [hl6_3])
               cases gk with
               | zero => exact absurd HA.out (by simp [impl_countBy.l2])
               | succ k3 =>
                have H := HA.out
                clear HA
                simp only [impl_countBy.l2] at H
                by_cases c32 : x10_3 < (rd y240 x37_2)
                ·rw [if_pos c32] at H
                 have c32b0 : decide (x10_3 < (rd y240 x37_2)) = true := decide_eq_true c32
                 clear c32
                 by_cases c33 : 0 ≤ x10_3
                 ·rw [if_pos c33] at H
                  have c33b0 : decide (0 ≤ x10_3) = true := decide_eq_true c33
                  clear c33
                  by_cases c34 : x10_3 < (x6_3.length : Int)
                  ·rw [if_pos c34] at H
                   have c34b0 : decide (x10_3 < (x6_3.length : Int)) = true := decide_eq_true c34
                   clear c34
                   by_cases c35 : 41 ≤ ((rd_L3 x6_3 x10_3).length : Int)
                   ·rw [if_pos c35] at H
                    have c35b0 := eq_true c35
                    have c35b1 : decide (41 ≤ ((rd_L3 x6_3 x10_3).length : Int)) = true := decide_eq_true c35
                    clear c35
                    obtain ⟨y247, hy247⟩ : ∃ y_ : List Int, y_ = ((rd_L3 x6_3 x10_3).take 41) := ⟨_, rfl⟩
                    replace H : (impl_countBy.l3 k3 a1 (wrap64 ((a0.size : Int) + 1)) x6_3 (rd y240 x37_2) x10_3 y240 (y240.length : Int) x37_2 y247 (y247.length : Int) 0) = some r := by first | (rw [hy247]; with_reducible exact H) | (have H2_ := (Option.bind_some _ _).symm.trans H; rw [hy247]; with_reducible exact H2_) | (have H2_ := (Option.bind_some _ _).symm.trans H; with_reducible exact H2_) | with_reducible exact H | (rw [hy247]; exact H) | exact H
                    have Ny247 := am hy247
                    have BP : Aside0 (0 ≤ x10_3) := am (of_decide_eq_true c33b0)
                    have BQ : Aside0 (x10_3 < (x6_3.length : Int)) := am (of_decide_eq_true c34b0)
                    have BN : Aside0 (x10_3 < (rd y240 x37_2)) := am (of_decide_eq_true c32b0)
                    have BL : Aside0 (41 ≤ (rd_L3 x6_3 x10_3).length) := am (by have := of_decide_eq_true c35b1; omega)
                    clear hy247
                    have H' := am H
                    clear H
                    have p246 : 0 ≤ (x10_3 : Int) := of_decide_eq_true (by first | (with_reducible assumption) | assumption)
                    have q246 : x10_3 < (x6_3.length : Int) := of_decide_eq_true (by first | (with_reducible assumption) | assumption)
                    obtain ⟨ad246, A246_0, c246_0, e246, hx246_0, hl246_0, hi246_0⟩ := at_L3 (Kd.S_reads' HO_6.out).2.2 x10_3 p246 q246
                    obtain rfl : ad233 = ad246 := (by injection e246)
                    obtain ⟨ce246, hce246, hMe246, hcc246⟩ := Kd.S_get HO_6.out [] x10_3 p246 (by first | exact q246 | exact of_decide_eq_true (by first | (with_reducible assumption) | assumption) | (have e_ := (Kd.S_reads' HO_6.out).1; omega))
                    obtain ⟨ve246_0, rfl, ge246_0⟩ := hMe246
                    have hv246_0 := hcc246 0 _ rfl
                    rw [Nat.add_zero, show ((Kd.slice 3 (Kd.int .i64))).sz = 1 from rfl, Nat.mul_one] at hv246_0
                    replace hv246_0 := Option.some.inj (hv246_0.symm.trans hx246_0)
                    rw [hv246_0] at ge246_0
                    have HL246_0 := am (show Kd.R (Kd.int .i64) 3 _ _ _ _ (rd_L3 x6_3 x10_3) from ge246_0)
                    clear hv246_0 ge246_0
                    have HX246_0 := am hx246_0
                    clear hcc246 hce246
                    have HR246_0 := am hi246_0
                    have HC246_0 := am hl246_0
                    clear hi246_0 hl246_0
                    replace p246 := eq_true p246
                    replace q246 := eq_true q246
                    have q36 : (41 : Int) ≤ (((rd_L3 x6_3 x10_3).length : Int) : Int) := of_decide_eq_true (by first | (with_reducible assumption) | assumption)
                    obtain ⟨i036, hi036, _, hsz36, _⟩ := info_parts info3
                    have hroom36 : (rd_L3 x6_3 x10_3).length ≤ c246_0 := HC246_0.out
                    have hC36 : Kd.C (Kd.int .i64) _ A246_0 (rd_L3 x6_3 x10_3).length (rd_L3 x6_3 x10_3) := (by repeat (first | (with_reducible exact HR246_0.out) | (with_reducible refine Kd.C_alloc ?_ _) | (with_reducible refine Kd.C_drewN ?_ _) | (with_reducible refine Kd.C_drew ?_) | exact HR246_0.out))
                    have hcut36 := cut_to (P := Try.prog) 51 3 .i64 Try.underlying51 hi036 A246_0 (rd_L3 x6_3 x10_3).length c246_0 41 (by omega) q36 hroom36
                    have hr36 := Kd.C_take (m := 41) hC36 (by omega)
                    have hy36 : y247.length = (41 : Int).toNat := (by rw [Ny247.out, List.length_take]; omega)
                    rw [← Ny247.out] at hr36
                    rw [← hy36] at hcut36
                    have HR250 := am hr36
                    have HC250 := am (show y247.length ≤ c246_0 from by omega)
                    clear hr36 hC36 hroom36 hi036 hsz36
                    have KY36 := am hy36
                    clear hy36
                    replace q36 := eq_true q36
                    go_wp2
                    go_loopg [56] k3 (fun kq v56 w' => ∃ (x6_4 : List (List Int)) (x56_4 : Int), v56 = .int .i64 x56_4 ∧ Aside0 (impl_countBy.l3 kq a1 (wrap64 ((a0.size : Int) + 1)) x6_4 (rd y240 x37_2) x10_3 y240 (y240.length : Int) x37_2 y247 (y247.length : Int) x56_4 = some r) ∧ Aside0 (kq ≤ k3) ∧ Aside0 (Kd.S (Kd.slice 3 (Kd.int .i64)) 51 w' w.heap.size (fun k_ => some k_ ≠ (Value.slice Ao27 t237.length co27 : Value).ownBlock) (.slice (some ad233) x6_3.length co8) x6_4) ∧ Aside0 (Kd.R (Kd.int .i64) 3 w' w.heap.size (fun k_ => some k_ = (Value.slice Ao27 t237.length co27 : Value).ownBlock) (.slice Ao27 t237.length co27) t237) ∧ Aside0 (w'.cell? (ad233.add x10_3.toNat) = some (.slice A246_0 (rd_L3 x6_3 x10_3).length c246_0)) ∧ Aside0 (rd_L3 x6_4 x10_3 = rd_L3 x6_3 x10_3) ∧ Aside0 (Below w.heap.size w w'))
                    case atStart => exact ⟨(x6_3), (0), (by first | rfl | (simp; done) | (simp [*]; done)), H', ⟨Nat.le_refl _⟩, ⟨by (try simp only [hl6_1]); (try simp only [hl6_2]); (try simp only [hl6_3]); (with_reducible repeat (first | apply Kd.S_alloc | apply Kd.S_drewN | apply Kd.S_drew)); exact HO_6.out⟩, ⟨roS HS.out⟩, ⟨HX246_0.out⟩, ⟨rfl⟩, ⟨hbS HB.out⟩⟩
                    case round =>
                     clear H'
                     try clear c1
                     try clear p1
                     try clear q1
                     try clear hx1
                     try clear c2
                     try clear p2
                     try clear q2
                     try clear hx2
                     try clear qi2
                     try clear hf2
                     try clear c3
                     try clear q3
                     try clear c4
                     try clear c4b0
                     try clear c4b1
                     try clear c5
                     try clear c5b0
                     try clear c5b1
                     try clear p6
                     try clear c8
                     try clear c9
                     try clear c9b0
                     try clear c10
                     try clear c10b0
                     try clear c10b1
                     try clear c11
                     try clear c11b0
                     try clear c12
                     try clear c12b0
                     try clear c13
                     try clear p13
                     try clear q13
                     try clear hx13
                     try clear hf13
                     try clear c16
                     try clear hx16
                     try clear hf16
                     try clear c18
                     try clear c18b0
                     try clear c18b1
                     try clear c19
                     try clear c19b0
                     try clear c19b1
                     try clear p20
                     try clear q20
                     try clear hx20
                     try clear qi20
                     try clear hf20
                     try clear c22
                     try clear c22b0
                     try clear c22b1
                     try clear c23
                     try clear p23
                     try clear q23
                     try clear hx23
                     try clear qi23
                     try clear c24
                     try clear p24
                     try clear q24
                     try clear hx24
                     try clear c26
                     try clear q26
                     try clear c28
                     try clear c28b0
                     try clear c29
                     try clear c29b0
                     try clear c30
                     try clear c30b0
                     try clear c32
                     try clear c32b0
                     try clear c33
                     try clear c33b0
                     try clear c34
                     try clear c34b0
                     try clear c35
                     try clear c35b0
                     try clear c35b1
                     try clear q36
                     try clear hx13_0
                     try clear hx16_0
                     try clear hx20_0
                     try clear hx233_0
                     try clear hx245_0
                     try clear hx246_0
                     try clear p1
                     try clear p13
                     try clear p2
                     try clear p20
                     try clear p23
                     try clear p233
                     try clear p24
                     try clear p245
                     try clear p246
                     try clear p6
                     try clear q1
                     try clear q13
                     try clear q2
                     try clear q20
                     try clear q23
                     try clear q233
                     try clear q24
                     try clear q245
                     try clear q246
                     try clear q26
                     try clear q36
                     obtain ⟨x6_4, x56_4, rfl, HA, HK4, HO_6, HS, HXB, HEB, HB⟩ := hrel
                     have hl6_4 := (Kd.S_reads' HO_6.out).1
                     rw [hl6_4] at HO_6
                     (try simp only [hl6_4])
                     cases gk with
                     | zero => exact absurd HA.out (by simp [impl_countBy.l3])
                     | succ k4 =>
                      have H := HA.out
                      clear HA
                      simp only [impl_countBy.l3] at H
                      by_cases c37 : x56_4 < (y247.length : Int)
                      ·rw [if_pos c37] at H
                       have c37b0 : decide (x56_4 < (y247.length : Int)) = true := decide_eq_true c37
                       clear c37
                       by_cases c38 : 0 ≤ x56_4
                       ·rw [if_pos c38] at H
                        have c38b0 : decide (0 ≤ x56_4) = true := decide_eq_true c38
                        clear c38
                        by_cases c39 : x56_4 < (y247.length : Int)
                        ·rw [if_pos c39] at H
                         have c39b0 : decide (x56_4 < (y247.length : Int)) = true := decide_eq_true c39
                         clear c39
                         by_cases c40 : 0 ≤ (rd y240 x37_2)
                         ·rw [if_pos c40] at H
                          have c40b0 : decide (0 ≤ (rd y240 x37_2)) = true := decide_eq_true c40
                          clear c40
                          by_cases c41 : (rd y240 x37_2) < (x6_4.length : Int)
                          ·rw [if_pos c41] at H
                           have c41b0 : decide ((rd y240 x37_2) < (x6_4.length : Int)) = true := decide_eq_true c41
                           clear c41
                           obtain ⟨ji42, hji42⟩ : ∃ j_ : Int, (wrap64 (x56_4 + 1)) = j_ := ⟨_, rfl⟩
                           replace H : (if 0 ≤ (ji42) then (if (ji42) < ((rd_L3 x6_4 (rd y240 x37_2)).length : Int) then (impl_countBy.l3 k4 a1 (wrap64 ((a0.size : Int) + 1)) (x6_4.set ((rd y240 x37_2) : Int).toNat ((rd_L3 x6_4 (rd y240 x37_2)).set ((ji42) : Int).toNat (mn (wrap64 ((rd (rd_L3 x6_4 (rd y240 x37_2)) (ji42)) + (rd y247 x56_4))) 1000000000000001))) (rd y240 x37_2) x10_3 y240 (y240.length : Int) x37_2 y247 (y247.length : Int) ji42) else (none)) else (none)) = some r := by first | (rw [hji42] at H; exact H) | (simp only [hji42] at H ⊢; exact H)
                           have hji42w : (IntKind.i64.wrap (x56_4 + 1)) = ji42 := (i64_w _).trans hji42
                           by_cases c43 : 0 ≤ (ji42)
                           ·rw [if_pos c43] at H
                            have c43b0 : decide (0 ≤ (ji42)) = true := decide_eq_true c43
                            clear c43
                            by_cases c44 : (ji42) < ((rd_L3 x6_4 (rd y240 x37_2)).length : Int)
                            ·rw [if_pos c44] at H
                             have c44b0 : decide ((ji42) < ((rd_L3 x6_4 (rd y240 x37_2)).length : Int)) = true := decide_eq_true c44
                             clear c44
                             obtain ⟨ji45, hji45⟩ : ∃ j_ : Int, (mn (wrap64 ((rd (rd_L3 x6_4 (rd y240 x37_2)) (ji42)) + (rd y247 x56_4))) 1000000000000001) = j_ := ⟨_, rfl⟩
                             replace H : (impl_countBy.l3 k4 a1 (wrap64 ((a0.size : Int) + 1)) (x6_4.set ((rd y240 x37_2) : Int).toNat ((rd_L3 x6_4 (rd y240 x37_2)).set ((ji42) : Int).toNat (ji45))) (rd y240 x37_2) x10_3 y240 (y240.length : Int) x37_2 y247 (y247.length : Int) ji42) = some r := by first | (rw [hji45] at H; exact H) | (simp only [hji45] at H ⊢; exact H)
                             have hji45_ : (if 1000000000000001 < (wrap64 ((rd (rd_L3 x6_4 (rd y240 x37_2)) (ji42)) + (rd y247 x56_4))) then 1000000000000001 else (wrap64 ((rd (rd_L3 x6_4 (rd y240 x37_2)) (ji42)) + (rd y247 x56_4)))) = ji45 := hji45
                             obtain ⟨y255, hy255⟩ : ∃ y_ : List Int, y_ = ((rd_L3 x6_4 (rd y240 x37_2)).set ((ji42) : Int).toNat (ji45)) := ⟨_, rfl⟩
                             replace H : (impl_countBy.l3 k4 a1 (wrap64 ((a0.size : Int) + 1)) (x6_4.set ((rd y240 x37_2) : Int).toNat y255) (rd y240 x37_2) x10_3 y240 (y240.length : Int) x37_2 y247 (y247.length : Int) ji42) = some r := by first | (rw [hy255]; with_reducible exact H) | (have H2_ := (Option.bind_some _ _).symm.trans H; rw [hy255]; with_reducible exact H2_) | (have H2_ := (Option.bind_some _ _).symm.trans H; with_reducible exact H2_) | with_reducible exact H | (rw [hy255]; exact H) | exact H
                             have Ny255 := am hy255
                             clear hy255
                             obtain ⟨y257, hy257⟩ : ∃ y_ : List (List Int), y_ = (x6_4.set ((rd y240 x37_2) : Int).toNat y255) := ⟨_, rfl⟩
                             replace H : (impl_countBy.l3 k4 a1 (wrap64 ((a0.size : Int) + 1)) y257 (rd y240 x37_2) x10_3 y240 (y240.length : Int) x37_2 y247 (y247.length : Int) ji42) = some r := by first | (rw [hy257]; with_reducible exact H) | (have H2_ := (Option.bind_some _ _).symm.trans H; rw [hy257]; with_reducible exact H2_) | (have H2_ := (Option.bind_some _ _).symm.trans H; with_reducible exact H2_) | with_reducible exact H | (rw [hy257]; exact H) | exact H
                             have Ny257 := am hy257
                             clear hy257
                             have H' := am H
                             clear H
                             have p251 : 0 ≤ (x56_4 : Int) := of_decide_eq_true (by first | (with_reducible assumption) | assumption)
                             have q251 : x56_4 < (y247.length : Int) := of_decide_eq_true (by first | (with_reducible assumption) | assumption)
                             obtain ⟨adB, AB, cB, eB, hxB, hlB, hiB⟩ := at_L3 (Kd.S_reads' HO_6.out).2.2 x10_3 BP.out (by have := BQ.out; have := hl6_4; omega)
                             obtain rfl : ad233 = adB := (by injection eB)
                             have eB2 := Option.some.inj (hxB.symm.trans HXB.out)
                             injection eB2 with eB2 eB3 eB4
                             rw [eB2, HEB.out] at hiB
                             have hrB := Kd.C_take (m := 41) hiB BL.out
                             have HR250w : Aside0 (Kd.C (Kd.int .i64) _ A246_0 y247.length y247) := am (by rw [Ny247.out]; exact hrB)
                             clear hrB hiB hxB hlB
                             obtain ⟨ad251, e251, hx251_0⟩ := Kd.at_int HR250w.out x56_4 p251 q251
                             cases e251

                             replace p251 := eq_true p251
                             replace q251 := eq_true q251
                             try go_wp2
                             have HSd := am (Kd.R_drew HS.out)
                             have n0_ := am (Kd.S_drew HO_6.out)
                             have n1_ := am (below_drew1 HB.out)
                             clear HO_6
                             clear HB
                             have HO_6 := n0_
                             have HB := n1_
                             clear n0_ n1_
                             have p252 : 0 ≤ ((rd y240 x37_2) : Int) := of_decide_eq_true (by first | (with_reducible assumption) | assumption)
                             have q252 : (rd y240 x37_2) < (x6_4.length : Int) := of_decide_eq_true (by first | (with_reducible assumption) | assumption)
                             obtain ⟨ad252, A252_0, c252_0, e252, hx252_0, hl252_0, hi252_0⟩ := at_L3 (Kd.S_reads' HO_6.out).2.2 (rd y240 x37_2) p252 q252
                             obtain rfl : ad233 = ad252 := (by injection e252)
                             obtain ⟨ce252, hce252, hMe252, hcc252⟩ := Kd.S_get HO_6.out [] (rd y240 x37_2) p252 (by first | exact q252 | exact of_decide_eq_true (by first | (with_reducible assumption) | assumption) | (have e_ := (Kd.S_reads' HO_6.out).1; omega))
                             obtain ⟨ve252_0, rfl, ge252_0⟩ := hMe252
                             have hv252_0 := hcc252 0 _ rfl
                             rw [Nat.add_zero, show ((Kd.slice 3 (Kd.int .i64))).sz = 1 from rfl, Nat.mul_one] at hv252_0
                             replace hv252_0 := Option.some.inj (hv252_0.symm.trans hx252_0)
                             rw [hv252_0] at ge252_0
                             have HL252_0 := am (show Kd.R (Kd.int .i64) 3 _ _ _ _ (rd_L3 x6_4 (rd y240 x37_2)) from ge252_0)
                             clear hv252_0 ge252_0
                             have HX252_0 := am hx252_0
                             clear hcc252 hce252
                             have HR252_0 := am hi252_0
                             have HC252_0 := am hl252_0
                             clear hi252_0 hl252_0
                             replace p252 := eq_true p252
                             replace q252 := eq_true q252
                             have p253 : 0 ≤ ((rd y240 x37_2) : Int) := of_decide_eq_true (by first | (with_reducible assumption) | assumption)
                             have q253 : (rd y240 x37_2) < (x6_4.length : Int) := of_decide_eq_true (by first | (with_reducible assumption) | assumption)
                             obtain ⟨ad253, A253_0, c253_0, e253, hx253_0, hl253_0, hi253_0⟩ := at_L3 (Kd.S_reads' HO_6.out).2.2 (rd y240 x37_2) p253 q253
                             obtain rfl : ad233 = ad253 := (by injection e253)
                             obtain ⟨ce253, hce253, hMe253, hcc253⟩ := Kd.S_get HO_6.out [] (rd y240 x37_2) p253 (by first | exact q253 | exact of_decide_eq_true (by first | (with_reducible assumption) | assumption) | (have e_ := (Kd.S_reads' HO_6.out).1; omega))
                             obtain ⟨ve253_0, rfl, ge253_0⟩ := hMe253
                             have hv253_0 := hcc253 0 _ rfl
                             rw [Nat.add_zero, show ((Kd.slice 3 (Kd.int .i64))).sz = 1 from rfl, Nat.mul_one] at hv253_0
                             replace hv253_0 := Option.some.inj (hv253_0.symm.trans hx253_0)
                             rw [hv253_0] at ge253_0
                             have HL253_0 := am (show Kd.R (Kd.int .i64) 3 _ _ _ _ (rd_L3 x6_4 (rd y240 x37_2)) from ge253_0)
                             clear hv253_0 ge253_0
                             have HX253_0 := am hx253_0
                             clear hcc253 hce253
                             have HR253_0 := am hi253_0
                             have HC253_0 := am hl253_0
                             clear hi253_0 hl253_0
                             replace p253 := eq_true p253
                             replace q253 := eq_true q253
                             have ea_ := Option.some.inj (hx252_0.symm.trans hx253_0)
                             injection ea_ with ea_ en_ ec_
                             subst ea_
                             subst ec_
                             clear en_
                             have p254 : 0 ≤ ((ji42) : Int) := of_decide_eq_true (by first | (with_reducible assumption) | assumption)
                             have q254 : (ji42) < ((rd_L3 x6_4 (rd y240 x37_2)).length : Int) := of_decide_eq_true (by first | (with_reducible assumption) | assumption)
                             obtain ⟨ad254, e254, hx254_0⟩ := Kd.at_int (by repeat (first | (with_reducible exact HR253_0.out) | (with_reducible refine Kd.C_alloc ?_ _) | (with_reducible refine Kd.C_drewN ?_ _) | (with_reducible refine Kd.C_drew ?_) | exact HR253_0.out)) (ji42) p254 q254
                             cases e254
                             replace p254 := eq_true p254
                             replace q254 := eq_true q254
                             have p46 : 0 ≤ ((ji42) : Int) := of_decide_eq_true (by first | (with_reducible assumption) | assumption)
                             have q46 : ((ji42) : Int) < (((rd_L3 x6_4 (rd y240 x37_2)).length : Int) : Int) := of_decide_eq_true (by first | (with_reducible assumption) | assumption)
                             obtain ⟨go46, co46, eo46, gb46, gl46, cl46, HG46⟩ := Kd.R_form HL252_0.out (by omega)
                             (first | cases eo46 | (injection eo46 with ea_ en_ ec_; (first | subst ea_ | (injection ea_ with ea_; subst ea_)); subst ec_; clear en_))
                             have GB46 := am gb46
                             have GG46 := am HG46
                             clear gb46 gl46 HG46
                             (first | simp only [add_plain] at hx254_0 | skip)
                             obtain ⟨hx46_0, hf46_0⟩ := Kd.R_celln 0 HL252_0.out ((ji42) : Int) p46 q46
                             replace p46 := eq_true p46
                             replace q46 := eq_true q46
                             have hq48 : ((rd y240 x37_2) : Int) < (x6_4.length : Int) := (by have h_ : ((rd y240 x37_2) : Int) < ((x6_4.length : Int) : Int) := of_decide_eq_true (by first | (with_reducible assumption) | assumption); first | exact h_ | (have e_ := (Kd.S_reads' HO_6.out).1; omega) | simpa only [List.length_set, List.length_set] using h_)
                             obtain ⟨oki48, ce48, hcl48, hM48, hcc48, hok48, hbk48⟩ := Kd.S_borrow HO_6.out [] ((rd y240 x37_2) : Int) (of_decide_eq_true (by first | (with_reducible assumption) | assumption)) hq48
                             obtain ⟨ve48_0, rfl, ge48_0⟩ := hM48
                             have hv48 := hcc48 0 _ rfl
                             rw [Nat.add_zero, show ((Kd.slice 3 (Kd.int .i64))).sz = 1 from rfl, Nat.mul_one] at hv48
                             replace hv48 := Option.some.inj (hv48.symm.trans HX252_0.out)
                             subst hv48
                             clear hcc48 hcl48
                             replace ge48_0 := (show Kd.R (Kd.int .i64) 3 _ _ _ _ (rd_L3 x6_4 (rd y240 x37_2)) from ge48_0)
                             have HP48 := Kd.R_putg ge48_0 ((ji42) : Int) ji45
                             rw [← Ny255.out] at HP48
                             have HS48 := hbk48 HP48.2 (fun k_ e_ => by injection e_ with e_; subst e_; exact ge48_0.1 _ rfl) (x' := y255) (Kd.M_row HP48.1)
                             rw [← Ny257.out] at HS48
                             have hb_ := hok48 go46 (ge48_0.1 go46 rfl)
                             have HSq := am (Kd.R_step HSd.out (fun k_ hk_ hlt_ => HP48.2.block k_ hlt_ (fun e_ => hb_.1 (by rw [← e_]; exact hk_))))
                             have HXq := am ((World.cell?_of_block (HP48.2.block _ (World.block_lt_of_cell? _ _ HXB.out) (fun e_ => hb_.2 (by rw [← e_]; simp only [Value.ownBlock, Addr.add]; try (split <;> rfl))))).trans HXB.out)
                             have HQ48 := am HS48
                             clear HP48 HS48 hbk48 hok48
                             refine start_ (n := 19) (S := fun w' => w'.cell? (ad233.add ((rd y240 x37_2)).toNat) = some (.slice (some ⟨go46, 0, none⟩) (rd_L3 x6_4 (rd y240 x37_2)).length c252_0) ∧ w'.cell? (ad233.add ((rd y240 x37_2)).toNat) = some (.slice (some ⟨go46, 0, none⟩) (rd_L3 x6_4 (rd y240 x37_2)).length c252_0) ∧ w'.cell? ⟨go46, ((ji42)).toNat, none⟩ = some (.int .i64 (rd (rd_L3 x6_4 (rd y240 x37_2)) (ji42)))) (ds := [18]) #[false, false, false, false, false, false, false, false, false, false, false, false, false, false, false, false, false, false, false] (by kernel_rfl) rfl rfl ⟨hx252_0, hx253_0, hx254_0⟩ (fun hHeld => ?_); refine with_tabW impl_countBy.tab18 impl_countBy.bits18 (fun HT_ HW_ => ?_)
                             generalize wr.drew = w47 at HO_6 HB GG46 HL252_0 HL253_0 HQ48 HSq HXq HR252_0 HR253_0 HX252_0 HX253_0 hf46_0 hx252_0 hx253_0 hx254_0 hx46_0 hHeld ⊢
                             refine pure_ (i := 0) (N := some 61) (v := ?_) (a' := ?_) #[true, false, false, false, false, false, false, false, false, false, false, false, false, false, false, false, false, false, false] rfl rfl (any_of HT_.out (by kernel_rfl)) (fun _ _ _ h => h) (Or.inl ⟨by rfl, ?_⟩) ?_ ?_
                             rotate_left
                             ·intro w'
                              go_simp
                              with_reducible rfl
                             rotate_left
                             ·simp only [Act.put, List.setIfInBounds_toArray, List.set_cons_zero, List.set_cons_succ, i64_w, i32_w]
                              rfl
                             refine pure_ (i := 1) (N := some 62) (v := ?_) (a' := ?_) #[true, true, false, false, false, false, false, false, false, false, false, false, false, false, false, false, false, false, false] rfl rfl (any_of HT_.out (by kernel_rfl)) (fun _ _ _ h => h) (Or.inl ⟨by rfl, ?_⟩) ?_ ?_
                             rotate_left
                             ·intro w'
                              go_simp
                              with_reducible rfl
                             rotate_left
                             ·simp only [Act.put, List.setIfInBounds_toArray, List.set_cons_zero, List.set_cons_succ, i64_w, i32_w]
                              rfl
                             refine pure_ (i := 2) (N := some 63) (v := ?_) (a' := ?_) #[true, true, true, false, false, false, false, false, false, false, false, false, false, false, false, false, false, false, false] rfl rfl (any_of HT_.out (by kernel_rfl)) (fun _ _ _ h => h) (Or.inl ⟨by rfl, ?_⟩) ?_ ?_
                             rotate_left
                             ·intro w'
                              go_simp
                              with_reducible rfl
                             rotate_left
                             ·simp only [Act.put, List.setIfInBounds_toArray, List.set_cons_zero, List.set_cons_succ, i64_w, i32_w]
                              rfl
                             refine pure_ (i := 4) (N := some 65) (v := ?_) (a' := ?_) #[true, true, true, false, true, false, false, false, false, false, false, false, false, false, false, false, false, false, false] rfl rfl (any_of HT_.out (by kernel_rfl)) (fun _ _ _ h => h) (Or.inl ⟨by rfl, ?_⟩) ?_ ?_
                             rotate_left
                             ·intro w'
                              go_simp
                              with_reducible rfl
                             rotate_left
                             ·simp only [Act.put, List.setIfInBounds_toArray, List.set_cons_zero, List.set_cons_succ, i64_w, i32_w]
                              rfl
                             refine pure_ (i := 5) (N := some 66) (v := ?_) (a' := ?_) #[true, true, true, false, true, true, false, false, false, false, false, false, false, false, false, false, false, false, false] rfl rfl (any_of HT_.out (by kernel_rfl)) (fun _ _ _ h => h) (Or.inl ⟨by rfl, ?_⟩) ?_ ?_
                             rotate_left
                             ·intro w'
                              go_simp
                              with_reducible rfl
                             rotate_left
                             ·simp only [Act.put, List.setIfInBounds_toArray, List.set_cons_zero, List.set_cons_succ, i64_w, i32_w]
                              rfl
                             refine pure_ (i := 6) (N := some 67) (v := ?_) (a' := ?_) #[true, true, true, false, true, true, true, false, false, false, false, false, false, false, false, false, false, false, false] rfl rfl (any_of HT_.out (by kernel_rfl)) (fun _ _ _ h => h) (Or.inl ⟨by rfl, ?_⟩) ?_ ?_
                             rotate_left
                             ·intro w'
                              go_simp
                              with_reducible rfl
                             rotate_left
                             ·simp only [Act.put, List.setIfInBounds_toArray, List.set_cons_zero, List.set_cons_succ, i64_w, i32_w]
                              rfl
                             refine pure_ (i := 7) (N := some 68) (v := ?_) (a' := ?_) #[true, true, true, false, true, true, true, true, false, false, false, false, false, false, false, false, false, false, false] rfl rfl (any_of HT_.out (by kernel_rfl)) (fun _ _ _ h => h) (Or.inl ⟨by rfl, ?_⟩) ?_ ?_
                             rotate_left
                             ·intro w'
                              go_simp
                              with_reducible rfl
                             rotate_left
                             ·simp only [Act.put, List.setIfInBounds_toArray, List.set_cons_zero, List.set_cons_succ, i64_w, i32_w]
                              rfl
                             refine pure_ (i := 8) (N := some 69) (v := ?_) (a' := ?_) #[true, true, true, false, true, true, true, true, true, false, false, false, false, false, false, false, false, false, false] rfl rfl (any_of HT_.out (by kernel_rfl)) (fun _ _ _ h => h) (Or.inl ⟨by rfl, ?_⟩) ?_ ?_
                             rotate_left
                             ·intro w'
                              go_simp
                              with_reducible rfl
                             rotate_left
                             ·simp only [Act.put, List.setIfInBounds_toArray, List.set_cons_zero, List.set_cons_succ, i64_w, i32_w]
                              rfl
                             refine pure_ (i := 10) (N := some 71) (v := ?_) (a' := ?_) #[true, true, true, false, true, true, true, true, true, false, true, false, false, false, false, false, false, false, false] rfl rfl (any_of HT_.out (by kernel_rfl)) (fun _ _ _ h => h) (Or.inl ⟨by rfl, ?_⟩) ?_ ?_
                             rotate_left
                             ·intro w'
                              go_simp
                              with_reducible rfl
                             rotate_left
                             ·simp only [Act.put, List.setIfInBounds_toArray, List.set_cons_zero, List.set_cons_succ, i64_w, i32_w]
                              rfl
                             refine pure_ (i := 11) (N := some 72) (v := ?_) (a' := ?_) #[true, true, true, false, true, true, true, true, true, false, true, true, false, false, false, false, false, false, false] rfl rfl (any_of HT_.out (by kernel_rfl)) (fun _ _ _ h => h) (Or.inl ⟨by rfl, ?_⟩) ?_ ?_
                             rotate_left
                             ·intro w'
                              go_simp
                              with_reducible rfl
                             rotate_left
                             ·simp only [Act.put, List.setIfInBounds_toArray, List.set_cons_zero, List.set_cons_succ, i64_w, i32_w]
                              rfl
                             refine pure_ (i := 14) (N := some 75) (v := ?_) (a' := ?_) #[true, true, true, false, true, true, true, true, true, false, true, true, false, false, true, false, false, false, false] rfl rfl (any_of HT_.out (by kernel_rfl)) (fun _ _ _ h => h) (Or.inl ⟨by rfl, ?_⟩) ?_ ?_
                             rotate_left
                             ·intro w'
                              go_simp
                              with_reducible rfl
                             rotate_left
                             ·simp only [Act.put, List.setIfInBounds_toArray, List.set_cons_zero, List.set_cons_succ, i64_w, i32_w]
                              rfl
                             refine take_ (i := 3) (N := some 64) (v := ?_) (a' := ?_) #[true, true, true, true, true, true, true, true, true, false, true, true, false, false, true, false, false, false, false] rfl rfl (take_ofW HT_.out HW_.out (by kernel_rfl)) (fun _ _ _ h => h) (Or.inl ⟨by rfl, ?_⟩) hHeld ?_ ?_
                             rotate_left
                             ·rintro w' ⟨s0, s1, s2⟩
                              go_simp
                              with_reducible rfl
                             rotate_left
                             ·simp only [Act.put, List.setIfInBounds_toArray, List.set_cons_zero, List.set_cons_succ, i64_w, i32_w]
                              rfl
                             refine take_ (i := 9) (N := some 70) (v := ?_) (a' := ?_) #[true, true, true, true, true, true, true, true, true, true, true, true, false, false, true, false, false, false, false] rfl rfl (take_ofW HT_.out HW_.out (by kernel_rfl)) (fun _ _ _ h => h) (Or.inl ⟨by rfl, ?_⟩) hHeld ?_ ?_
                             rotate_left
                             ·rintro w' ⟨s0, s1, s2⟩
                              go_simp
                              with_reducible rfl
                             rotate_left
                             ·simp only [Act.put, List.setIfInBounds_toArray, List.set_cons_zero, List.set_cons_succ, i64_w, i32_w]
                              rfl
                             refine pure_ (i := 12) (N := some 73) (v := ?_) (a' := ?_) #[true, true, true, true, true, true, true, true, true, true, true, true, true, false, true, false, false, false, false] rfl rfl (any_of HT_.out (by kernel_rfl)) (fun _ _ _ h => h) (Or.inl ⟨by rfl, ?_⟩) ?_ ?_
                             rotate_left
                             ·intro w'
                              go_simp
                              with_reducible rfl
                             rotate_left
                             ·simp only [Act.put, List.setIfInBounds_toArray, List.set_cons_zero, List.set_cons_succ, i64_w, i32_w]
                              rfl
                             refine take_ (i := 13) (N := some 74) (v := ?_) (a' := ?_) #[true, true, true, true, true, true, true, true, true, true, true, true, true, true, true, false, false, false, false] rfl rfl (take_ofW HT_.out HW_.out (by kernel_rfl)) (fun _ _ _ h => h) (Or.inl ⟨by rfl, ?_⟩) hHeld ?_ ?_
                             rotate_left
                             ·rintro w' ⟨s0, s1, s2⟩
                              go_simp
                              with_reducible rfl
                             rotate_left
                             ·simp only [Act.put, List.setIfInBounds_toArray, List.set_cons_zero, List.set_cons_succ, i64_w, i32_w]
                              rfl
                             refine pure_ (i := 15) (N := some 76) (v := ?_) (a' := ?_) #[true, true, true, true, true, true, true, true, true, true, true, true, true, true, true, true, false, false, false] rfl rfl (any_of HT_.out (by kernel_rfl)) (fun _ _ _ h => h) (Or.inl ⟨by rfl, ?_⟩) ?_ ?_
                             rotate_left
                             ·intro w'
                              go_simp
                              with_reducible rfl
                             rotate_left
                             ·simp only [Act.put, List.setIfInBounds_toArray, List.set_cons_zero, List.set_cons_succ, i64_w, i32_w]
                              rfl
                             refine pure_ (i := 16) (N := some 77) (v := ?_) (a' := ?_) #[true, true, true, true, true, true, true, true, true, true, true, true, true, true, true, true, true, false, false] rfl rfl (any_of HT_.out (by kernel_rfl)) (fun _ _ _ h => h) (Or.inl ⟨by rfl, ?_⟩) ?_ ?_
                             rotate_left
                             ·intro w'
                              go_simp
                              with_reducible rfl
                             rotate_left
                             ·simp only [Act.put, List.setIfInBounds_toArray, List.set_cons_zero, List.set_cons_succ, i64_w, i32_w]
                              rfl
                             refine pure_ (i := 17) (N := some 78) (v := ?_) (a' := ?_) #[true, true, true, true, true, true, true, true, true, true, true, true, true, true, true, true, true, true, false] rfl rfl (any_of HT_.out (by kernel_rfl)) (fun _ _ _ h => h) (Or.inl ⟨by rfl, ?_⟩) ?_ ?_
                             rotate_left
                             ·intro w'
                              go_simp
                              with_reducible rfl
                             rotate_left
                             ·simp only [Act.put, List.setIfInBounds_toArray, List.set_cons_zero, List.set_cons_succ, i64_w, i32_w]
                              rfl
                             refine last_ (i := 18) (N := none) #[true, true, true, true, true, true, true, true, true, true, true, true, true, true, true, true, true, true, true] rfl rfl (one_of HT_.out (by kernel_rfl)) (by decide) (fun K hK => ?_)
                             refine skip_ (w1 := ?_) (by rfl) rfl ?_ ?_
                             rotate_left
                             ·go_simp
                              rfl
                             refine hK.out _ _ ?_
                             clear hK K
                             refine done_ (done_of HT_.out (by kernel_rfl)) ?_
                             try go_wp2
                             (try simp only [← hl6_4])
                             go_roundg k4
                             case measure => have := HK1.out; have := HK2.out; have := HK3.out; have := HK4.out; omega
                             case rel => exact ⟨(y257), (ji42), (by first | rfl | (simp; done) | (simp only [← hji42] <;> (first | rfl | simp)) | (simp [*]; done)), H', ⟨by have := HK1.out; have := HK2.out; have := HK3.out; have := HK4.out; omega⟩, ⟨by (try simp only [hl6_1]); (try simp only [hl6_2]); (try simp only [hl6_3]); (try simp only [hl6_4]); (with_reducible repeat (first | apply Kd.S_alloc | apply Kd.S_drewN | apply Kd.S_drew)); exact HQ48.out⟩, ⟨HSq.out⟩, ⟨HXq.out⟩, ⟨by rw [Ny257.out]; unfold rd_L3; rw [List.getD_eq_getElem?_getD, List.getElem?_set_ne (by have := BP.out; have := BN.out; omega), ← List.getD_eq_getElem?_getD]; exact HEB.out⟩, ⟨by repeat (first | (with_reducible first | exact HB.out | apply below_alloc | apply pw_below_drewN | apply below_drew1 | refine below_set ?_ GB46.out) | exact HB.out)⟩⟩
                            ·rw [if_neg c44] at H
                             exact absurd H (by simp)
                           ·rw [if_neg c43] at H
                            exact absurd H (by simp)
                          ·rw [if_neg c41] at H
                           exact absurd H (by simp)
                         ·rw [if_neg c40] at H
                          exact absurd H (by simp)
                        ·rw [if_neg c39] at H
                         exact absurd H (by simp)
                       ·rw [if_neg c38] at H
                        exact absurd H (by simp)
                      ·rw [if_neg c37] at H
                       have c37b0 : decide (x56_4 < (y247.length : Int)) = false := decide_eq_false c37
                       clear c37
                       have H' := am H
                       clear H
                       go_wp2
                       (try simp only [← hl6_3, ← hl6_4])
                       go_roundg k4
                       case measure => have := HK1.out; have := HK2.out; have := HK3.out; have := HK4.out; omega
                       case rel => exact ⟨(x6_4), (wrap64 (x10_3 + 1)), (by first | rfl | (simp; done) | (simp [*]; done)), H', ⟨by have := HK1.out; have := HK2.out; have := HK3.out; have := HK4.out; omega⟩, ⟨by (try simp only [hl6_1]); (try simp only [hl6_2]); (try simp only [hl6_3]); (try simp only [hl6_4]); (with_reducible repeat (first | apply Kd.S_alloc | apply Kd.S_drewN | apply Kd.S_drew)); exact HO_6.out⟩, ⟨roS HS.out⟩, ⟨hbS HB.out⟩⟩
                   ·rw [if_neg c35] at H
                    exact absurd H (by simp)
                  ·rw [if_neg c34] at H
                   exact absurd H (by simp)
                 ·rw [if_neg c33] at H
                  exact absurd H (by simp)
                ·rw [if_neg c32] at H
                 have c32b0 : decide (x10_3 < (rd y240 x37_2)) = false := decide_eq_false c32
                 clear c32
                 have H' := am H
                 clear H
                 go_wp2
                 (try simp only [← hl6_2, ← hl6_3])
                 go_roundg k3
                 case measure => have := HK1.out; have := HK2.out; have := HK3.out; omega
                 case rel => exact ⟨(x6_3), (wrap64 (x37_2 + 1)), (by first | rfl | (simp; done) | (simp [*]; done)), H', ⟨by have := HK1.out; have := HK2.out; have := HK3.out; omega⟩, ⟨by (try simp only [hl6_1]); (try simp only [hl6_2]); (try simp only [hl6_3]); (with_reducible repeat (first | apply Kd.S_alloc | apply Kd.S_drewN | apply Kd.S_drew)); exact HO_6.out⟩, ⟨roS HS.out⟩, ⟨hbS HB.out⟩⟩
             ·rw [if_neg c30] at H
              exact absurd H (by simp)
            ·rw [if_neg c29] at H
             exact absurd H (by simp)
           ·rw [if_neg c28] at H
            have c28b0 : decide (x37_2 < (y240.length : Int)) = false := decide_eq_false c28
            clear c28
            obtain ⟨ji50, hji50⟩ : ∃ j_ : Int, (wrap64 ((a0.size : Int) + 1)) = j_ := ⟨_, rfl⟩
            replace H : (if 0 ≤ (ji50) then (if (ji50) < (x6_2.length : Int) then (some (rd_L3 x6_2 (ji50))) else (none)) else (none)) = some r := by first | (rw [hji50] at H; exact H) | (simp only [hji50] at H ⊢; exact H)
            have hji50w : (IntKind.i64.wrap ((a0.size : Int) + 1)) = ji50 := (i64_w _).trans hji50
            by_cases c51 : 0 ≤ (ji50)
            ·rw [if_pos c51] at H
             have c51b0 : decide (0 ≤ (ji50)) = true := decide_eq_true c51
             clear c51
             by_cases c52 : (ji50) < (x6_2.length : Int)
             ·rw [if_pos c52] at H
              have c52b0 : decide ((ji50) < (x6_2.length : Int)) = true := decide_eq_true c52
              clear c52
              obtain rfl := Option.some.inj H
              have p244 : 0 ≤ ((ji50) : Int) := of_decide_eq_true (by first | (with_reducible assumption) | assumption)
              have q244 : (ji50) < (x6_2.length : Int) := of_decide_eq_true (by first | (with_reducible assumption) | assumption)
              obtain ⟨ad244, A244_0, c244_0, e244, hx244_0, hl244_0, hi244_0⟩ := at_L3 (Kd.S_reads' HO_6.out).2.2 (ji50) p244 q244
              obtain rfl : ad233 = ad244 := (by injection e244)
              obtain ⟨ce244, hce244, hMe244, hcc244⟩ := Kd.S_get HO_6.out [] (ji50) p244 (by first | exact q244 | exact of_decide_eq_true (by first | (with_reducible assumption) | assumption) | (have e_ := (Kd.S_reads' HO_6.out).1; omega))
              obtain ⟨ve244_0, rfl, ge244_0⟩ := hMe244
              have hv244_0 := hcc244 0 _ rfl
              rw [Nat.add_zero, show ((Kd.slice 3 (Kd.int .i64))).sz = 1 from rfl, Nat.mul_one] at hv244_0
              replace hv244_0 := Option.some.inj (hv244_0.symm.trans hx244_0)
              rw [hv244_0] at ge244_0
              have HL244_0 := am (show Kd.R (Kd.int .i64) 3 _ _ _ _ (rd_L3 x6_2 (ji50)) from ge244_0)
              clear hv244_0 ge244_0
              have HX244_0 := am hx244_0
              clear hcc244 hce244
              have HR244_0 := am hi244_0
              have HC244_0 := am hl244_0
              clear hi244_0 hl244_0
              replace p244 := eq_true p244
              replace q244 := eq_true q244
              go_wp2
              go_ret
              exact ⟨_, by first | rfl | (simp [errW_none, errW_some] <;> rfl) | (simp only [← hji3, ← hji50]; first | rfl | (simp [errW_none, errW_some] <;> rfl)) | (simp [*, errW_none, errW_some] <;> rfl), by (with_reducible repeat (first | apply Kd.R_alloc | apply Kd.R_drewN | apply Kd.R_drew)); exact Kd.R_mono HL244_0.out (fun _ hk => trivial), hbS HB.out⟩
             ·rw [if_neg c52] at H
              exact absurd H (by simp)
            ·rw [if_neg c51] at H
             exact absurd H (by simp)
        ·rw [if_neg c22] at H
         exact absurd H (by simp)
       ·rw [if_neg c19] at H
        exact absurd H (by simp)
      ·rw [if_neg c18] at H
       exact absurd H (by simp)
  ·rw [if_neg c5] at H
   exact absurd H (by simp)
 ·rw [if_neg c4] at H
  exact absurd H (by simp)
end Go.Proofs.Ytonifgfgeollaaa.X
end
