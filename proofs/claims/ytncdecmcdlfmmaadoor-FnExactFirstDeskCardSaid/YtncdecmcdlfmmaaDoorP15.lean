import Derived.Test.YtncdecmcdlfmmaaDoorP5
import Derived.Test.YtncdecmcdlfmmaaDoorP8
import Derived.Test.YtncdecmcdlfmmaaDoorP14
section
-- Written by a program of this session (wip/tools/mp.py) over the kit's print of the translation.
namespace Go.Proofs.YtncdecmcdlfmmaaDoor.X
open Go.Proofs.YtncdecmcdlfmmaaDoor.Sq Go.RowKit Go.Proofs.YtncdecmcdlfmmaaDoorW.PrintWords Go.Proofs.YtncdecmcdlfmmaaDoorW.PrintLast Go.Proofs.YtncdecmcdlfmmaaDoorW.PrintMore
attribute [local go_sem] max2_int min2_int max_two min_two max_three min_three max_four min_four   -- for this text's walks alone
set_option linter.unusedVariables false
set_option linter.unusedSimpArgs false
/-! ### impl_islesText: function 45 -/
def impl_islesText.l0 : Nat → List ByteArray → List (S51) → Int → Int → Int → List (S51) → Option (ByteArray)
 | 0, _, _, _, _, _, _ => none
 | k + 1, x3, x8, x9, x10, x132000, x132001 => if x10 < x9 then (if 0 ≤ x10 then (if x10 < (x8.length : Int) then ((strconv_Itoa.f ((rd_T51 x8 x10).f0)).bind fun t137 => (if t137.size + 1 ≤ 9223372036854775807 then ((strconv_Itoa.f ((rd_T51 x8 x10).f1)).bind fun t138 => (if (t137 ++ (⟨#[45]⟩ : ByteArray)).size + t138.size ≤ 9223372036854775807 then (if ((t137 ++ (⟨#[45]⟩ : ByteArray)) ++ t138).size + 1 ≤ 9223372036854775807 then ((strconv_Itoa.f ((rd_T51 x8 x10).f2)).bind fun t139 => (if (((t137 ++ (⟨#[45]⟩ : ByteArray)) ++ t138) ++ (⟨#[58]⟩ : ByteArray)).size + t139.size ≤ 9223372036854775807 then (if x3.length < 8796093022208 then (impl_islesText.l0 k (x3 ++ [(((t137 ++ (⟨#[45]⟩ : ByteArray)) ++ t138) ++ (⟨#[58]⟩ : ByteArray)) ++ t139]) x8 x9 (wrap64 (x10 + 1)) x132000 x132001) else (none)) else (none))) else (none)) else (none))) else (none))) else (none)) else (none)) else ((strconv_Itoa.f x132000).bind fun t143 => (if t143.size + 1 ≤ 9223372036854775807 then ((strings_Join.f x3 (⟨#[44]⟩ : ByteArray)).bind fun t144 => (if (t143 ++ (⟨#[105]⟩ : ByteArray)).size + t144.size ≤ 9223372036854775807 then (some ((t143 ++ (⟨#[105]⟩ : ByteArray)) ++ t144)) else (none))) else (none)))
def impl_islesText.f (k : Nat) (a0_0 : Int) (l0_1 : List (S51)) : Option (ByteArray) := impl_islesText.l0 k (([] : List ByteArray)) l0_1 (l0_1.length : Int) 0 a0_0 l0_1
def impl_islesText.T5 : Bool × List (List Nat × List Nat) := (true, [([], []), ([], []), ([1], [1]), ([2], [2]), ([3], [3]), ([], []), ([5], [5]), ([6, 3], [6]), ([4, 7], [4, 7]), ([8], [8]), ([], []), ([10], [10]), ([11, 7], [11]), ([9, 12], [9, 12]), ([13], [13]), ([0, 14, 12], [0, 14]), ([15, 15, 0, 1, 2, 3, 4, 5, 6, 7, 8, 9, 10, 11, 12, 13, 14, 15], [0, 15])])
def impl_islesText.B5 : List Nat := [0, 0, 2, 6, 14, 0, 32, 110, 254, 510, 0, 1024, 3310, 8190, 16382, 32767, 65535]
theorem impl_islesText.tab5 : rtab .any (opsOf Tryd.f45 5) = impl_islesText.T5 := by kernel_rfl
theorem impl_islesText.bits5 : waitsOk impl_islesText.T5.2 impl_islesText.B5 = true := by kernel_rfl
set_option maxHeartbeats 8000000 in
set_option maxRecDepth 100000 in
theorem impl_islesText.calls (k : Nat) (a0_0 : Int) (A0_1 : Option Addr) (c0_1 : Nat) (l0_1 : List (S51)) (r : ByteArray) (w : World) (hr0_1 : Kd.C k51 w A0_1 l0_1.length l0_1) (hc0_1 : l0_1.length ≤ c0_1) (hT_pow10 : Tab_pow10 w) (h : impl_islesText.f k a0_0 l0_1 = some r) :
  Calls Tryd.prog 45 #[.agg #[.int .i64 a0_0, .slice A0_1 l0_1.length c0_1]] w fun e w' => e = .returned (.string r) ∧ Below w.heap.size w w' := by
 have hu32 := Tryd.underlying32
 have hu51 := Tryd.underlying51
 have HR0_1 := am hr0_1
 have HC0_1 := am hc0_1
 clear hr0_1 hc0_1
 have HT_pow10 := am hT_pow10
 clear hT_pow10
 have HB := am (Below.refl w.heap.size w)
 have H : (impl_islesText.l0 k (([] : List ByteArray)) l0_1 (l0_1.length : Int) 0 a0_0 l0_1) = some r := h
 clear h
 obtain ⟨y132, hy132⟩ : ∃ y_ : List ByteArray, y_ = (([] : List ByteArray)) := ⟨_, rfl⟩
 replace H : (impl_islesText.l0 k y132 l0_1 (l0_1.length : Int) 0 a0_0 l0_1) = some r := by first | (rw [hy132]; with_reducible exact H) | (have H2_ := (Option.bind_some _ _).symm.trans H; rw [hy132]; with_reducible exact H2_) | (have H2_ := (Option.bind_some _ _).symm.trans H; with_reducible exact H2_) | with_reducible exact H | (rw [hy132]; exact H) | exact H
 have Ny132 := am hy132
 clear hy132
 have H' := am H
 clear H
 go_enter Tryd.func45, Tryd.ntmps45
 go_wp2_with (first | ((with_reducible refine gate_dst (N := 1) rfl ?_); refine box_event ?hg (N := 1) ?hd (cs := #[.int .i64 a0_0, .slice A0_1 l0_1.length c0_1]) (t := 32) ?hr ?_; (case hd => rfl); (case hg => rfl); (case hr => first | (go_simp; done) | (go_simp; rfl)); intro gb131 hg w2 hbox hb; have n0_ := am (below_step (hbS HB.out) hb); have n1_ := am (hbox); have n2_ := am (gwL (hbS HB.out) hg); have n3_ := n2_; clear HB; have HB := n0_; have BK131 := n1_; have GW131 := n2_; have GE131 := n3_; clear n0_ n1_ n2_ n3_; clear hb hbox hg) | ((with_reducible refine gate_dst (N := 6) rfl ?_); refine Kd.R_lit Kd.string _ 9 ?hg (N := 6) ?hd (xs := ([] : List ByteArray)) (inner := []) (ok := fun _ => True) (okp := fun _ => True) ?hr ?hp (fun _ hk => hk) trivial (Below.refl _ _) (Nat.le_refl _) (by simp) ?_; (case hd => rfl); (case hg => rfl); (case hr => first | (go_simp; done) | (go_simp; rfl)); (case hp => exact (Reps.none _ _)); intro v133 w3 ho4 hb hg_ hnew_; clear hg_ hnew_; (first | rw [← Ny132.out] at ho4 | (simp only [Int.reduceToNat] at ho4; rw [← Ny132.out] at ho4)); have n0_ := am (Kd.R_lower ho4 (below_size (by repeat (first | (with_reducible first | exact HB.out | apply below_alloc | apply pw_below_drewN | apply below_drew1 | refine below_set ?_ GE131.out) | exact HB.out)))); have n1_ := am (blk_below (bkS BK131.out) hb); have n2_ := am (below_step (by repeat (first | (with_reducible first | exact HB.out | apply below_alloc | apply pw_below_drewN | apply below_drew1 | refine below_set ?_ GE131.out) | exact HB.out)) hb); clear BK131; clear HB; have HO134 := n0_; have BK131 := n1_; have HB := n2_; clear n0_ n1_ n2_; clear hb ho4; have hcz5_0 : w3.cell? ⟨gb131, 0, none⟩ = some (.int .i64 a0_0) := (blk_cell BK131.out 0).trans rfl; have hcz5_1 : w3.cell? ⟨gb131, 1, none⟩ = some (.slice A0_1 l0_1.length c0_1) := (blk_cell BK131.out 1).trans rfl; have hfz5_0 := blk_frozen BK131.out 0; have hfz5_1 := blk_frozen BK131.out 1))
 go_loopg [3, 10] k (fun kq v3 v10 w' => ∃ (x3_1 : List ByteArray) (x10_1 : Int), v10 = .int .i64 x10_1 ∧ Aside0 (impl_islesText.l0 kq x3_1 l0_1 (l0_1.length : Int) x10_1 a0_0 l0_1 = some r) ∧ Aside0 (kq ≤ k) ∧ Aside0 (Kd.R Kd.string 9 w' w.heap.size (fun _ => True) v3 x3_1) ∧ Aside0 (w'.heap[gb131]? = some (.cells #[.int .i64 a0_0, (.slice A0_1 l0_1.length c0_1)] 32 (0, 0))) ∧ Aside0 (Below w.heap.size w w'))
 case atStart => exact ⟨(y132), (0), (by first | rfl | (simp; done) | (simp [*]; done)), H', ⟨Nat.le_refl _⟩, ⟨roS HO134.out⟩, ⟨bkS BK131.out⟩, ⟨by repeat (first | (with_reducible first | exact HB.out | apply below_alloc | apply pw_below_drewN | apply below_drew1 | refine below_set ?_ GE131.out) | exact HB.out)⟩⟩
 case round =>
  clear H'
  try clear p2
  try clear c4
  try clear hcz5_0
  try clear hcz5_1
  try clear hfz5_0
  try clear hfz5_1
  obtain ⟨x3_1, x10_1, rfl, HA, HK1, HO_3, BK131, HB⟩ := hrel
  cases gk with
  | zero => exact absurd HA.out (by simp [impl_islesText.l0])
  | succ k1 =>
   have H := HA.out
   clear HA
   simp only [impl_islesText.l0] at H
   by_cases c6 : x10_1 < (l0_1.length : Int)
   ·rw [if_pos c6] at H
    have c6b0 : decide (x10_1 < (l0_1.length : Int)) = true := decide_eq_true c6
    clear c6
    by_cases c7 : 0 ≤ x10_1
    ·rw [if_pos c7] at H
     have c7b0 : decide (0 ≤ x10_1) = true := decide_eq_true c7
     clear c7
     by_cases c8 : x10_1 < (l0_1.length : Int)
     ·rw [if_pos c8] at H
      have c8b0 : decide (x10_1 < (l0_1.length : Int)) = true := decide_eq_true c8
      clear c8
      replace H := Option.bind_eq_some_iff.mp H
      obtain ⟨t137, A90, H⟩ := H
      replace H : (if t137.size + 1 ≤ 9223372036854775807 then ((strconv_Itoa.f ((rd_T51 l0_1 x10_1).f1)).bind fun t138 => (if (t137 ++ (⟨#[45]⟩ : ByteArray)).size + t138.size ≤ 9223372036854775807 then (if ((t137 ++ (⟨#[45]⟩ : ByteArray)) ++ t138).size + 1 ≤ 9223372036854775807 then ((strconv_Itoa.f ((rd_T51 l0_1 x10_1).f2)).bind fun t139 => (if (((t137 ++ (⟨#[45]⟩ : ByteArray)) ++ t138) ++ (⟨#[58]⟩ : ByteArray)).size + t139.size ≤ 9223372036854775807 then (if x3_1.length < 8796093022208 then (impl_islesText.l0 k1 (x3_1 ++ [(((t137 ++ (⟨#[45]⟩ : ByteArray)) ++ t138) ++ (⟨#[58]⟩ : ByteArray)) ++ t139]) l0_1 (l0_1.length : Int) (wrap64 (x10_1 + 1)) a0_0 l0_1) else (none)) else (none))) else (none)) else (none))) else (none)) = some r := H
      have A9 := am A90
      clear A90
      by_cases c10 : t137.size + 1 ≤ 9223372036854775807
      ·rw [if_pos c10] at H
       have c10b0 := eq_true c10
       have c10b1 : decide (t137.size + 1 ≤ 9223372036854775807) = true := decide_eq_true c10
       try have c10b2 : (9223372036854775807 < t137.size + 1) = False := eq_false (Nat.not_lt.2 c10)
       replace H := Option.bind_eq_some_iff.mp H
       obtain ⟨t138, A110, H⟩ := H
       replace H : (if (t137 ++ (⟨#[45]⟩ : ByteArray)).size + t138.size ≤ 9223372036854775807 then (if ((t137 ++ (⟨#[45]⟩ : ByteArray)) ++ t138).size + 1 ≤ 9223372036854775807 then ((strconv_Itoa.f ((rd_T51 l0_1 x10_1).f2)).bind fun t139 => (if (((t137 ++ (⟨#[45]⟩ : ByteArray)) ++ t138) ++ (⟨#[58]⟩ : ByteArray)).size + t139.size ≤ 9223372036854775807 then (if x3_1.length < 8796093022208 then (impl_islesText.l0 k1 (x3_1 ++ [(((t137 ++ (⟨#[45]⟩ : ByteArray)) ++ t138) ++ (⟨#[58]⟩ : ByteArray)) ++ t139]) l0_1 (l0_1.length : Int) (wrap64 (x10_1 + 1)) a0_0 l0_1) else (none)) else (none))) else (none)) else (none)) = some r := H
       have A11 := am A110
       clear A110
       by_cases c12 : (t137 ++ (⟨#[45]⟩ : ByteArray)).size + t138.size ≤ 9223372036854775807
       ·rw [if_pos c12] at H
        have c12b0 := eq_true c12
        have c12b1 : decide ((t137 ++ (⟨#[45]⟩ : ByteArray)).size + t138.size ≤ 9223372036854775807) = true := decide_eq_true c12
        try have c12b2 : (9223372036854775807 < (t137 ++ (⟨#[45]⟩ : ByteArray)).size + t138.size) = False := eq_false (Nat.not_lt.2 c12)
        try have c12b3 : (9223372036854775807 < t137.size + 1 + t138.size) = False := by first | exact c12b2 | (rw [← c12b2]; simp only [ByteArray.size_append]; rfl) | (simpa [ByteArray.size_append] using c12b2)
        by_cases c13 : ((t137 ++ (⟨#[45]⟩ : ByteArray)) ++ t138).size + 1 ≤ 9223372036854775807
        ·rw [if_pos c13] at H
         have c13b0 := eq_true c13
         have c13b1 : decide (((t137 ++ (⟨#[45]⟩ : ByteArray)) ++ t138).size + 1 ≤ 9223372036854775807) = true := decide_eq_true c13
         try have c13b2 : (9223372036854775807 < ((t137 ++ (⟨#[45]⟩ : ByteArray)) ++ t138).size + 1) = False := eq_false (Nat.not_lt.2 c13)
         try have c13b3 : (9223372036854775807 < t137.size + 1 + t138.size + 1) = False := by first | exact c13b2 | (rw [← c13b2]; simp only [ByteArray.size_append]; rfl) | (simpa [ByteArray.size_append] using c13b2)
         replace H := Option.bind_eq_some_iff.mp H
         obtain ⟨t139, A140, H⟩ := H
         replace H : (if (((t137 ++ (⟨#[45]⟩ : ByteArray)) ++ t138) ++ (⟨#[58]⟩ : ByteArray)).size + t139.size ≤ 9223372036854775807 then (if x3_1.length < 8796093022208 then (impl_islesText.l0 k1 (x3_1 ++ [(((t137 ++ (⟨#[45]⟩ : ByteArray)) ++ t138) ++ (⟨#[58]⟩ : ByteArray)) ++ t139]) l0_1 (l0_1.length : Int) (wrap64 (x10_1 + 1)) a0_0 l0_1) else (none)) else (none)) = some r := H
         have A14 := am A140
         clear A140
         by_cases c15 : (((t137 ++ (⟨#[45]⟩ : ByteArray)) ++ t138) ++ (⟨#[58]⟩ : ByteArray)).size + t139.size ≤ 9223372036854775807
         ·rw [if_pos c15] at H
          have c15b0 := eq_true c15
          have c15b1 : decide ((((t137 ++ (⟨#[45]⟩ : ByteArray)) ++ t138) ++ (⟨#[58]⟩ : ByteArray)).size + t139.size ≤ 9223372036854775807) = true := decide_eq_true c15
          try have c15b2 : (9223372036854775807 < (((t137 ++ (⟨#[45]⟩ : ByteArray)) ++ t138) ++ (⟨#[58]⟩ : ByteArray)).size + t139.size) = False := eq_false (Nat.not_lt.2 c15)
          try have c15b3 : (9223372036854775807 < t137.size + 1 + t138.size + 1 + t139.size) = False := by first | exact c15b2 | (rw [← c15b2]; simp only [ByteArray.size_append]; rfl) | (simpa [ByteArray.size_append] using c15b2)
          by_cases c16 : x3_1.length < 8796093022208
          ·rw [if_pos c16] at H
           have LMc16 := am c16
           clear c16
           obtain ⟨y140, hy140⟩ : ∃ y_ : List ByteArray, y_ = (x3_1 ++ [(((t137 ++ (⟨#[45]⟩ : ByteArray)) ++ t138) ++ (⟨#[58]⟩ : ByteArray)) ++ t139]) := ⟨_, rfl⟩
           replace H : (impl_islesText.l0 k1 y140 l0_1 (l0_1.length : Int) (wrap64 (x10_1 + 1)) a0_0 l0_1) = some r := by first | (rw [hy140]; with_reducible exact H) | (have H2_ := (Option.bind_some _ _).symm.trans H; rw [hy140]; with_reducible exact H2_) | (have H2_ := (Option.bind_some _ _).symm.trans H; with_reducible exact H2_) | with_reducible exact H | (rw [hy140]; exact H) | exact H
           have Ny140 := am hy140
           clear hy140
           have H' := am H
           clear H
           have p135 : 0 ≤ (x10_1 : Int) := of_decide_eq_true (by first | (with_reducible assumption) | assumption)
           have q135 : x10_1 < (l0_1.length : Int) := of_decide_eq_true (by first | (with_reducible assumption) | assumption)
           obtain ⟨ad135, e135, hx135_0, hx135_1, hx135_2⟩ := at_T51 HR0_1.out x10_1 p135 q135
           cases e135
           (try replace hx135_0 := (HB.out.cell (World.block_lt_of_cell? w _ hx135_0)).trans hx135_0)
           (try replace hx135_1 := (HB.out.cell (World.block_lt_of_cell? w _ hx135_1)).trans hx135_1)
           (try replace hx135_2 := (HB.out.cell (World.block_lt_of_cell? w _ hx135_2)).trans hx135_2)
           replace p135 := eq_true p135
           replace q135 := eq_true q135
           try go_wp2_with (first | ((with_reducible refine gate_dst (N := 5) rfl ?_); refine box_event ?hg (N := 5) ?hd (cs := #[.int .i64 0, .int .i64 0, .int .i64 0]) (t := 51) ?hr ?_; (case hd => rfl); (case hg => rfl); (case hr => first | (go_simp; done) | (go_simp; rfl)); intro gb136 hg w17 hbox hb; have n0_ := am (Kd.R_below (roS HO_3.out) hb); have n1_ := am (blk_below (bkS BK131.out) hb); have n2_ := am (below_step (by repeat (first | (with_reducible first | exact HB.out | apply below_alloc | apply pw_below_drewN | apply below_drew1 | refine below_set ?_ GE131.out) | exact HB.out)) hb); have n3_ := am (hbox); have n4_ := am (gwL (by repeat (first | (with_reducible first | exact HB.out | apply below_alloc | apply pw_below_drewN | apply below_drew1 | refine below_set ?_ GE131.out) | exact HB.out)) hg); have n5_ := n4_; have n6_ := am (nbL (bkS BK131.out) hg); have n7_ := am (nbG (bkS BK131.out) hg); clear HO_3; clear BK131; clear HB; have HO_3 := n0_; have BK131 := n1_; have HB := n2_; have BK136 := n3_; have GW136 := n4_; have GE136 := n5_; have NB131_136 := n6_; have NB136_131 := n7_; clear n0_ n1_ n2_ n3_ n4_ n5_ n6_ n7_; clear hb hbox hg; have hnb18 := NB136_131.out; have hnc18 := NB131_136.out; have hcz19_0 : w17.cell? ⟨gb136, 0, none⟩ = some (.int .i64 0) := (blk_cell BK136.out 0).trans rfl; have hcz19_1 : w17.cell? ⟨gb136, 1, none⟩ = some (.int .i64 0) := (blk_cell BK136.out 1).trans rfl; have hcz19_2 : w17.cell? ⟨gb136, 2, none⟩ = some (.int .i64 0) := (blk_cell BK136.out 2).trans rfl; have hfz19_0 := blk_frozen BK136.out 0; have hfz19_1 := blk_frozen BK136.out 1; have hfz19_2 := blk_frozen BK136.out 2))
           have n0_ : Aside0 (Kd.R Kd.string 9 (((w17.setCell ⟨gb136, 0, none⟩ (.int .i64 ((rd_T51 l0_1 x10_1).f0))).setCell ⟨gb136, 1, none⟩ (.int .i64 ((rd_T51 l0_1 x10_1).f1))).setCell ⟨gb136, 2, none⟩ (.int .i64 ((rd_T51 l0_1 x10_1).f2))) w.heap.size (fun _ => True) u3 x3_1) := ⟨by (with_reducible repeat (first | apply Kd.R_alloc | apply Kd.R_drewN | apply Kd.R_drew)); exact Kd.R_mono (Kd.R_far (p := ⟨gb136, 2, none⟩) (Kd.R_far (p := ⟨gb136, 1, none⟩) (Kd.R_far (p := ⟨gb136, 0, none⟩) (Kd.R_types HO_3.out BK136.out (by decide)) (fun _ hk => hk.2) (.int .i64 ((rd_T51 l0_1 x10_1).f0))) (fun _ hk => hk.2) (.int .i64 ((rd_T51 l0_1 x10_1).f1))) (fun _ hk => hk.2) (.int .i64 ((rd_T51 l0_1 x10_1).f2))) (fun _ hk => trivial)⟩
           have n1_ : Aside0 ((((w17.setCell ⟨gb136, 0, none⟩ (.int .i64 ((rd_T51 l0_1 x10_1).f0))).setCell ⟨gb136, 1, none⟩ (.int .i64 ((rd_T51 l0_1 x10_1).f1))).setCell ⟨gb136, 2, none⟩ (.int .i64 ((rd_T51 l0_1 x10_1).f2))).heap[gb131]? = some (.cells #[.int .i64 a0_0, .slice (some ad135) l0_1.length c0_1] 32 (0, 0))) := ⟨by (with_reducible repeat (first | refine blk_drewN ?_ _ | refine blk_drew ?_ | refine blk_alloc ?_ _)); refine blk_far ?_ NB131_136.out _; (with_reducible repeat (first | refine blk_drewN ?_ _ | refine blk_drew ?_ | refine blk_alloc ?_ _)); refine blk_far ?_ NB131_136.out _; (with_reducible repeat (first | refine blk_drewN ?_ _ | refine blk_drew ?_ | refine blk_alloc ?_ _)); refine blk_far ?_ NB131_136.out _; (with_reducible repeat (first | refine blk_drewN ?_ _ | refine blk_drew ?_ | refine blk_alloc ?_ _)); exact BK131.out⟩
           have n2_ : Aside0 ((((w17.setCell ⟨gb136, 0, none⟩ (.int .i64 ((rd_T51 l0_1 x10_1).f0))).setCell ⟨gb136, 1, none⟩ (.int .i64 ((rd_T51 l0_1 x10_1).f1))).setCell ⟨gb136, 2, none⟩ (.int .i64 ((rd_T51 l0_1 x10_1).f2))).heap[gb136]? = some (.cells #[.int .i64 ((rd_T51 l0_1 x10_1).f0), .int .i64 ((rd_T51 l0_1 x10_1).f1), .int .i64 ((rd_T51 l0_1 x10_1).f2)] 51 (0, 0))) := ⟨by (with_reducible repeat (first | refine blk_drewN ?_ _ | refine blk_drew ?_ | refine blk_alloc ?_ _)); refine blk_put (cs := #[.int .i64 ((rd_T51 l0_1 x10_1).f0), .int .i64 ((rd_T51 l0_1 x10_1).f1), .int .i64 0]) ?_ 2 _ rfl; (with_reducible repeat (first | refine blk_drewN ?_ _ | refine blk_drew ?_ | refine blk_alloc ?_ _)); refine blk_put (cs := #[.int .i64 ((rd_T51 l0_1 x10_1).f0), .int .i64 0, .int .i64 0]) ?_ 1 _ rfl; (with_reducible repeat (first | refine blk_drewN ?_ _ | refine blk_drew ?_ | refine blk_alloc ?_ _)); refine blk_put (cs := #[.int .i64 0, .int .i64 0, .int .i64 0]) ?_ 0 _ rfl; (with_reducible repeat (first | refine blk_drewN ?_ _ | refine blk_drew ?_ | refine blk_alloc ?_ _)); exact BK136.out⟩
           have n3_ : Aside0 (Below w.heap.size w (((w17.setCell ⟨gb136, 0, none⟩ (.int .i64 ((rd_T51 l0_1 x10_1).f0))).setCell ⟨gb136, 1, none⟩ (.int .i64 ((rd_T51 l0_1 x10_1).f1))).setCell ⟨gb136, 2, none⟩ (.int .i64 ((rd_T51 l0_1 x10_1).f2)))) := ⟨by repeat (first | (with_reducible first | exact HB.out | apply below_alloc | apply pw_below_drewN | apply below_drew1 | refine below_set ?_ (Aside0.out (by assumption))) | exact HB.out)⟩
           (try clear HO_3)
           (try clear BK131)
           (try clear BK136)
           (try clear HB)
           generalize (((w17.setCell ⟨gb136, 0, none⟩ (.int .i64 ((rd_T51 l0_1 x10_1).f0))).setCell ⟨gb136, 1, none⟩ (.int .i64 ((rd_T51 l0_1 x10_1).f1))).setCell ⟨gb136, 2, none⟩ (.int .i64 ((rd_T51 l0_1 x10_1).f2))) = w20 at n0_ n1_ n2_ n3_ ⊢
           have HO_3 := n0_
           have BK131 := n1_
           have BK136 := n2_
           have HB := n3_
           clear n0_ n1_ n2_ n3_
           have n0_ := am (Kd.R_drew HO_3.out)
           have n1_ := am (blk_drew BK131.out)
           have n2_ := am (blk_drew BK136.out)
           have n3_ := am (below_drew1 HB.out)
           clear HO_3
           clear BK131
           clear BK136
           clear HB
           have HO_3 := n0_
           have BK131 := n1_
           have BK136 := n2_
           have HB := n3_
           clear n0_ n1_ n2_ n3_
           refine start_ (n := 17) (S := fun w' => w'.cell? ⟨gb136, 0, none⟩ = some (.int .i64 ((rd_T51 l0_1 x10_1).f0)) ∧ w'.cell? ⟨gb136, 1, none⟩ = some (.int .i64 ((rd_T51 l0_1 x10_1).f1)) ∧ w'.cell? ⟨gb136, 2, none⟩ = some (.int .i64 ((rd_T51 l0_1 x10_1).f2))) (ds := []) #[false, false, false, false, false, false, false, false, false, false, false, false, false, false, false, false, false] (by kernel_rfl) rfl rfl ⟨(blk_cell BK136.out 0).trans rfl, (blk_cell BK136.out 1).trans rfl, (blk_cell BK136.out 2).trans rfl⟩ (fun hHeld => ?_); refine with_tabW impl_islesText.tab5 impl_islesText.bits5 (fun HT_ HW_ => ?_)
           generalize w20.drew = w21 at HO_3 BK131 BK136 HB hHeld ⊢
           refine pure_ (i := 0) (N := some 14) (v := ?_) (a' := ?_) #[true, false, false, false, false, false, false, false, false, false, false, false, false, false, false, false, false] rfl rfl (any_of HT_.out (by kernel_rfl)) (fun _ _ _ h => h) (Or.inl ⟨by rfl, ?_⟩) ?_ ?_
           rotate_left
           ·intro w'
            go_simp
            with_reducible rfl
           rotate_left
           ·simp only [Act.put, List.setIfInBounds_toArray, List.set_cons_zero, List.set_cons_succ, i64_w, i32_w]
            rfl
           refine pure_ (i := 1) (N := some 15) (v := ?_) (a' := ?_) #[true, true, false, false, false, false, false, false, false, false, false, false, false, false, false, false, false] rfl rfl (any_of HT_.out (by kernel_rfl)) (fun _ _ _ h => h) (Or.inl ⟨by rfl, ?_⟩) ?_ ?_
           rotate_left
           ·intro w'
            go_simp
            with_reducible rfl
           rotate_left
           ·simp only [Act.put, List.setIfInBounds_toArray, List.set_cons_zero, List.set_cons_succ, i64_w, i32_w]
            rfl
           refine pure_ (i := 5) (N := some 19) (v := ?_) (a' := ?_) #[true, true, false, false, false, true, false, false, false, false, false, false, false, false, false, false, false] rfl rfl (any_of HT_.out (by kernel_rfl)) (fun _ _ _ h => h) (Or.inl ⟨by rfl, ?_⟩) ?_ ?_
           rotate_left
           ·intro w'
            go_simp
            with_reducible rfl
           rotate_left
           ·simp only [Act.put, List.setIfInBounds_toArray, List.set_cons_zero, List.set_cons_succ, i64_w, i32_w]
            rfl
           refine pure_ (i := 10) (N := some 24) (v := ?_) (a' := ?_) #[true, true, false, false, false, true, false, false, false, false, true, false, false, false, false, false, false] rfl rfl (any_of HT_.out (by kernel_rfl)) (fun _ _ _ h => h) (Or.inl ⟨by rfl, ?_⟩) ?_ ?_
           rotate_left
           ·intro w'
            go_simp
            with_reducible rfl
           rotate_left
           ·simp only [Act.put, List.setIfInBounds_toArray, List.set_cons_zero, List.set_cons_succ, i64_w, i32_w]
            rfl
           refine take_ (i := 2) (N := some 16) (v := ?_) (a' := ?_) #[true, true, true, false, false, true, false, false, false, false, true, false, false, false, false, false, false] rfl rfl (take_ofW HT_.out HW_.out (by kernel_rfl)) (fun _ _ _ h => h) (Or.inl ⟨by rfl, ?_⟩) hHeld ?_ ?_
           rotate_left
           ·rintro w' ⟨s0, s1, s2⟩
            go_simp
            with_reducible rfl
           rotate_left
           ·simp only [Act.put, List.setIfInBounds_toArray, List.set_cons_zero, List.set_cons_succ, i64_w, i32_w]
            rfl
           refine take_ (i := 6) (N := some 20) (v := ?_) (a' := ?_) #[true, true, true, false, false, true, true, false, false, false, true, false, false, false, false, false, false] rfl rfl (take_ofW HT_.out HW_.out (by kernel_rfl)) (fun _ _ _ h => h) (Or.inl ⟨by rfl, ?_⟩) hHeld ?_ ?_
           rotate_left
           ·rintro w' ⟨s0, s1, s2⟩
            go_simp
            with_reducible rfl
           rotate_left
           ·simp only [Act.put, List.setIfInBounds_toArray, List.set_cons_zero, List.set_cons_succ, i64_w, i32_w]
            rfl
           refine take_ (i := 11) (N := some 25) (v := ?_) (a' := ?_) #[true, true, true, false, false, true, true, false, false, false, true, true, false, false, false, false, false] rfl rfl (take_ofW HT_.out HW_.out (by kernel_rfl)) (fun _ _ _ h => h) (Or.inl ⟨by rfl, ?_⟩) hHeld ?_ ?_
           rotate_left
           ·rintro w' ⟨s0, s1, s2⟩
            go_simp
            with_reducible rfl
           rotate_left
           ·simp only [Act.put, List.setIfInBounds_toArray, List.set_cons_zero, List.set_cons_succ, i64_w, i32_w]
            rfl
           refine one_ (i := 3) (N := some 17) #[true, true, true, true, false, true, true, false, false, false, true, true, false, false, false, false, false] rfl rfl (one_of HT_.out (by kernel_rfl)) (by decide) (fun K hK => ?_)
           refine goes_ Tryd.func70 (by kernel_rfl) rfl #[.int .i64 ((rd_T51 l0_1 x10_1).f0)] (by rfl) rfl rfl (by (try simp only [List.map_toArray, List.map_cons, List.map_nil]); first | done | rfl | (simp only [List.length_drop, List.length_take]; rfl)) ?_
           with_reducible refine (strconv_Itoa.calls ((rd_T51 l0_1 x10_1).f0) t137 _ ?side1 A9.out).mono ?_
           (case side1 => exact Tab_pow10.below HT_pow10.out (by repeat (first | (with_reducible first | exact HB.out | apply below_alloc | apply pw_below_drewN | apply below_drew1 | refine below_set ?_ (Aside0.out (by assumption))) | exact HB.out)))
           rintro e w22 ⟨rfl, hb⟩
           refine ⟨_, rfl, ?_⟩
           have n0_ := am (Kd.R_below (roS HO_3.out) hb)
           have n1_ := am (blk_below (bkS BK131.out) hb)
           have n2_ := am (blk_below (g := gb136) (o := .cells #[.int .i64 ((rd_T51 l0_1 x10_1).f0), .int .i64 ((rd_T51 l0_1 x10_1).f1), .int .i64 ((rd_T51 l0_1 x10_1).f2)] 51 (0, 0)) (bkS BK136.out) hb)
           have n3_ := am (below_step (by repeat (first | (with_reducible first | exact HB.out | apply below_alloc | apply pw_below_drewN | apply below_drew1 | refine below_set ?_ (Aside0.out (by assumption))) | exact HB.out)) hb)
           clear HO_3
           clear BK131
           clear BK136
           clear HB
           have HO_3 := n0_
           have BK131 := n1_
           have BK136 := n2_
           have HB := n3_
           clear n0_ n1_ n2_ n3_
           (try clear hb)
           (try clear hb2)
           (try clear hk)
           (try clear hi)
           refine hK.out _ _ ⟨(blk_cell BK136.out 0).trans rfl, (blk_cell BK136.out 1).trans rfl, (blk_cell BK136.out 2).trans rfl⟩ (fun hHeld => ?_)
           clear hK K
           refine norm_ (a' := ?_) ?_ ?_
           rotate_left
           ·show Act.put _ (some 17) _ = _
            simp only [Act.put, List.setIfInBounds_toArray, List.set_cons_zero, List.set_cons_succ, i64_w, i32_w]
            rfl
           refine pure_ (i := 4) (N := some 18) (v := ?_) (a' := ?_) #[true, true, true, true, true, true, true, false, false, false, true, true, false, false, false, false, false] rfl rfl (any_of HT_.out (by kernel_rfl)) (fun _ _ _ h => h) (Or.inl ⟨by rfl, ?_⟩) ?_ ?_
           rotate_left
           ·intro w'
            go_simp
            with_reducible rfl
           rotate_left
           ·simp only [Act.put, List.setIfInBounds_toArray, List.set_cons_zero, List.set_cons_succ, i64_w, i32_w]
            rfl
           refine one_ (i := 7) (N := some 21) #[true, true, true, true, true, true, true, true, false, false, true, true, false, false, false, false, false] rfl rfl (one_of HT_.out (by kernel_rfl)) (by decide) (fun K hK => ?_)
           refine goes_ Tryd.func70 (by kernel_rfl) rfl #[.int .i64 ((rd_T51 l0_1 x10_1).f1)] (by rfl) rfl rfl (by (try simp only [List.map_toArray, List.map_cons, List.map_nil]); first | done | rfl | (simp only [List.length_drop, List.length_take]; rfl)) ?_
           with_reducible refine (strconv_Itoa.calls ((rd_T51 l0_1 x10_1).f1) t138 _ ?side1 A11.out).mono ?_
           (case side1 => exact Tab_pow10.below HT_pow10.out (by repeat (first | (with_reducible first | exact HB.out | apply below_alloc | apply pw_below_drewN | apply below_drew1 | refine below_set ?_ (Aside0.out (by assumption))) | exact HB.out)))
           rintro e w23 ⟨rfl, hb⟩
           refine ⟨_, rfl, ?_⟩
           have n0_ := am (Kd.R_below (roS HO_3.out) hb)
           have n1_ := am (blk_below (bkS BK131.out) hb)
           have n2_ := am (blk_below (g := gb136) (o := .cells #[.int .i64 ((rd_T51 l0_1 x10_1).f0), .int .i64 ((rd_T51 l0_1 x10_1).f1), .int .i64 ((rd_T51 l0_1 x10_1).f2)] 51 (0, 0)) (bkS BK136.out) hb)
           have n3_ := am (below_step (by repeat (first | (with_reducible first | exact HB.out | apply below_alloc | apply pw_below_drewN | apply below_drew1 | refine below_set ?_ (Aside0.out (by assumption))) | exact HB.out)) hb)
           clear HO_3
           clear BK131
           clear BK136
           clear HB
           have HO_3 := n0_
           have BK131 := n1_
           have BK136 := n2_
           have HB := n3_
           clear n0_ n1_ n2_ n3_
           (try clear hb)
           (try clear hb2)
           (try clear hk)
           (try clear hi)
           refine hK.out _ _ ⟨(blk_cell BK136.out 0).trans rfl, (blk_cell BK136.out 1).trans rfl, (blk_cell BK136.out 2).trans rfl⟩ (fun hHeld => ?_)
           clear hK K
           refine norm_ (a' := ?_) ?_ ?_
           rotate_left
           ·show Act.put _ (some 21) _ = _
            simp only [Act.put, List.setIfInBounds_toArray, List.set_cons_zero, List.set_cons_succ, i64_w, i32_w]
            rfl
           refine pure_ (i := 8) (N := some 22) (v := ?_) (a' := ?_) #[true, true, true, true, true, true, true, true, true, false, true, true, false, false, false, false, false] rfl rfl (any_of HT_.out (by kernel_rfl)) (fun _ _ _ h => h) (Or.inl ⟨by rfl, ?_⟩) ?_ ?_
           rotate_left
           ·intro w'
            go_simp
            with_reducible rfl
           rotate_left
           ·simp only [Act.put, List.setIfInBounds_toArray, List.set_cons_zero, List.set_cons_succ, i64_w, i32_w]
            rfl
           refine pure_ (i := 9) (N := some 23) (v := ?_) (a' := ?_) #[true, true, true, true, true, true, true, true, true, true, true, true, false, false, false, false, false] rfl rfl (any_of HT_.out (by kernel_rfl)) (fun _ _ _ h => h) (Or.inl ⟨by rfl, ?_⟩) ?_ ?_
           rotate_left
           ·intro w'
            go_simp
            with_reducible rfl
           rotate_left
           ·simp only [Act.put, List.setIfInBounds_toArray, List.set_cons_zero, List.set_cons_succ, i64_w, i32_w]
            rfl
           refine one_ (i := 12) (N := some 26) #[true, true, true, true, true, true, true, true, true, true, true, true, true, false, false, false, false] rfl rfl (one_of HT_.out (by kernel_rfl)) (by decide) (fun K hK => ?_)
           refine goes_ Tryd.func70 (by kernel_rfl) rfl #[.int .i64 ((rd_T51 l0_1 x10_1).f2)] (by rfl) rfl rfl (by (try simp only [List.map_toArray, List.map_cons, List.map_nil]); first | done | rfl | (simp only [List.length_drop, List.length_take]; rfl)) ?_
           with_reducible refine (strconv_Itoa.calls ((rd_T51 l0_1 x10_1).f2) t139 _ ?side1 A14.out).mono ?_
           (case side1 => exact Tab_pow10.below HT_pow10.out (by repeat (first | (with_reducible first | exact HB.out | apply below_alloc | apply pw_below_drewN | apply below_drew1 | refine below_set ?_ (Aside0.out (by assumption))) | exact HB.out)))
           rintro e w24 ⟨rfl, hb⟩
           refine ⟨_, rfl, ?_⟩
           have n0_ := am (Kd.R_below (roS HO_3.out) hb)
           have n1_ := am (blk_below (bkS BK131.out) hb)
           have n2_ := am (blk_below (g := gb136) (o := .cells #[.int .i64 ((rd_T51 l0_1 x10_1).f0), .int .i64 ((rd_T51 l0_1 x10_1).f1), .int .i64 ((rd_T51 l0_1 x10_1).f2)] 51 (0, 0)) (bkS BK136.out) hb)
           have n3_ := am (below_step (by repeat (first | (with_reducible first | exact HB.out | apply below_alloc | apply pw_below_drewN | apply below_drew1 | refine below_set ?_ (Aside0.out (by assumption))) | exact HB.out)) hb)
           clear HO_3
           clear BK131
           clear BK136
           clear HB
           have HO_3 := n0_
           have BK131 := n1_
           have BK136 := n2_
           have HB := n3_
           clear n0_ n1_ n2_ n3_
           (try clear hb)
           (try clear hb2)
           (try clear hk)
           (try clear hi)
           refine hK.out _ _ ⟨(blk_cell BK136.out 0).trans rfl, (blk_cell BK136.out 1).trans rfl, (blk_cell BK136.out 2).trans rfl⟩ (fun hHeld => ?_)
           clear hK K
           refine norm_ (a' := ?_) ?_ ?_
           rotate_left
           ·show Act.put _ (some 26) _ = _
            simp only [Act.put, List.setIfInBounds_toArray, List.set_cons_zero, List.set_cons_succ, i64_w, i32_w]
            rfl
           refine pure_ (i := 13) (N := some 27) (v := ?_) (a' := ?_) #[true, true, true, true, true, true, true, true, true, true, true, true, true, true, false, false, false] rfl rfl (any_of HT_.out (by kernel_rfl)) (fun _ _ _ h => h) (Or.inl ⟨by rfl, ?_⟩) ?_ ?_
           rotate_left
           ·intro w'
            go_simp
            with_reducible rfl
           rotate_left
           ·simp only [Act.put, List.setIfInBounds_toArray, List.set_cons_zero, List.set_cons_succ, i64_w, i32_w]
            rfl
           refine one_ (i := 14) (N := some 28) #[true, true, true, true, true, true, true, true, true, true, true, true, true, true, true, false, false] rfl rfl (one_of HT_.out (by kernel_rfl)) (by decide) (fun K hK => ?_)
           refine value_ (w1 := ?_) (v := ?_) (by rfl) rfl ?_ ?_
           rotate_left 2
           ·go_simp
            constructor
            ·rfl
            ·rfl
           refine hK.out _ _ ⟨(blk_cell (blk_alloc BK136.out _) 0).trans rfl, (blk_cell (blk_alloc BK136.out _) 1).trans rfl, (blk_cell (blk_alloc BK136.out _) 2).trans rfl⟩ (fun hHeld => ?_)
           clear hK K
           refine norm_ (a' := ?_) ?_ ?_
           rotate_left
           ·show Act.put _ (some 28) _ = _
            simp only [Act.put, List.setIfInBounds_toArray, List.set_cons_zero, List.set_cons_succ, i64_w, i32_w]
            rfl
           refine one_ (i := 15) (N := some 29) #[true, true, true, true, true, true, true, true, true, true, true, true, true, true, true, true, false] rfl rfl (one_of HT_.out (by kernel_rfl)) (by decide) (fun K hK => ?_)
           refine Kd.R_append_step Kd.string (w0 := w) w.heap.size (by rfl) (.tmp 14) (.tmp 28) 89 9 (.string ⟨#[]⟩) 16 rfl Tryd.underlying89 info9 rfl (by decide) (by omega) u3 x3_1 ((((t137 ++ (⟨#[45]⟩ : ByteArray)) ++ t138) ++ (⟨#[58]⟩ : ByteArray)) ++ t139) [.string ((((t137 ++ (⟨#[45]⟩ : ByteArray)) ++ t138) ++ (⟨#[58]⟩ : ByteArray)) ++ t139)] (fun _ => True) (fun _ => False) rfl rfl ?aP (fun _ hk => hk.elim) ?aF ?aO ?aB ?aS ?aL ?_
           (case aP => exact rfl)
           (case aB => exact (by repeat (first | (with_reducible first | exact HB.out | apply below_alloc | apply pw_below_drewN | apply below_drew1 | refine below_set ?_ (Aside0.out (by assumption))) | exact HB.out)))
           (case aF => exact (fun _ _ => trivial))
           (case aO => exact (roS HO_3.out))
           (case aS => exact (below_size (by repeat (first | (with_reducible first | exact HB.out | apply below_alloc | apply pw_below_drewN | apply below_drew1 | refine below_set ?_ (Aside0.out (by assumption))) | exact HB.out))))
           (case aL => have := LMc16.out; omega)
           intro v141 w25 ho hb hg hat
           rw [← Ny140.out] at ho
           have n0_ := am (blk_grown (g := gb131) (o := .cells #[.int .i64 a0_0, .slice (some ad135) l0_1.length c0_1] 32 (0, 0)) (bkS BK131.out) hg (Kd.R_ne HO_3.out BK131.out (by decide)))
           have n1_ := am (blk_grown (g := gb136) (o := .cells #[.int .i64 ((rd_T51 l0_1 x10_1).f0), .int .i64 ((rd_T51 l0_1 x10_1).f1), .int .i64 ((rd_T51 l0_1 x10_1).f2)] 51 (0, 0)) (bkS BK136.out) hg (Kd.R_ne HO_3.out BK136.out (by decide)))
           have n2_ := am (hb)
           have n3_ := am (ho)
           clear BK131
           clear BK136
           clear HB
           clear HO_3
           have BK131 := n0_
           have BK136 := n1_
           have HB := n2_
           have HO142 := n3_
           clear n0_ n1_ n2_ n3_
           clear ho hb hg hat
           refine hK.out _ _ ⟨(blk_cell BK136.out 0).trans rfl, (blk_cell BK136.out 1).trans rfl, (blk_cell BK136.out 2).trans rfl⟩ (fun hHeld => ?_)
           clear hK K
           refine norm_ (a' := ?_) ?_ ?_
           rotate_left
           ·show Act.put _ (some 29) _ = _
            simp only [Act.put, List.setIfInBounds_toArray, List.set_cons_zero, List.set_cons_succ, i64_w, i32_w]
            rfl
           refine pure_ (i := 16) (N := some 3) (v := ?_) (a' := ?_) #[true, true, true, true, true, true, true, true, true, true, true, true, true, true, true, true, true] rfl rfl (any_of HT_.out (by kernel_rfl)) (fun _ _ _ h => h) (Or.inl ⟨by rfl, ?_⟩) ?_ ?_
           rotate_left
           ·intro w'
            go_simp
            with_reducible rfl
           rotate_left
           ·simp only [Act.put, List.setIfInBounds_toArray, List.set_cons_zero, List.set_cons_succ, i64_w, i32_w]
            rfl
           refine done_ (done_of HT_.out (by kernel_rfl)) ?_
           try go_wp2
           go_roundg k1
           case measure => have := HK1.out; omega
           case rel => exact ⟨(y140), (wrap64 (x10_1 + 1)), (by first | rfl | (simp; done) | (simp [*]; done)), H', ⟨by have := HK1.out; omega⟩, ⟨roS HO142.out⟩, ⟨bkS BK131.out⟩, ⟨by repeat (first | (with_reducible first | exact HB.out | apply below_alloc | apply pw_below_drewN | apply below_drew1 | refine below_set ?_ (Aside0.out (by assumption))) | exact HB.out)⟩⟩
          ·rw [if_neg c16] at H
           exact absurd H (by simp)
         ·rw [if_neg c15] at H
          exact absurd H (by simp)
        ·rw [if_neg c13] at H
         exact absurd H (by simp)
       ·rw [if_neg c12] at H
        exact absurd H (by simp)
      ·rw [if_neg c10] at H
       exact absurd H (by simp)
     ·rw [if_neg c8] at H
      exact absurd H (by simp)
    ·rw [if_neg c7] at H
     exact absurd H (by simp)
   ·rw [if_neg c6] at H
    have c6b0 : decide (x10_1 < (l0_1.length : Int)) = false := decide_eq_false c6
    clear c6
    replace H := Option.bind_eq_some_iff.mp H
    obtain ⟨t143, A260, H⟩ := H
    replace H : (if t143.size + 1 ≤ 9223372036854775807 then ((strings_Join.f x3_1 (⟨#[44]⟩ : ByteArray)).bind fun t144 => (if (t143 ++ (⟨#[105]⟩ : ByteArray)).size + t144.size ≤ 9223372036854775807 then (some ((t143 ++ (⟨#[105]⟩ : ByteArray)) ++ t144)) else (none))) else (none)) = some r := H
    have A26 := am A260
    clear A260
    by_cases c27 : t143.size + 1 ≤ 9223372036854775807
    ·rw [if_pos c27] at H
     have c27b0 := eq_true c27
     have c27b1 : decide (t143.size + 1 ≤ 9223372036854775807) = true := decide_eq_true c27
     try have c27b2 : (9223372036854775807 < t143.size + 1) = False := eq_false (Nat.not_lt.2 c27)
     replace H := Option.bind_eq_some_iff.mp H
     obtain ⟨t144, A280, H⟩ := H
     replace H : (if (t143 ++ (⟨#[105]⟩ : ByteArray)).size + t144.size ≤ 9223372036854775807 then (some ((t143 ++ (⟨#[105]⟩ : ByteArray)) ++ t144)) else (none)) = some r := H
     have A28 := am A280
     clear A280
     by_cases c29 : (t143 ++ (⟨#[105]⟩ : ByteArray)).size + t144.size ≤ 9223372036854775807
     ·rw [if_pos c29] at H
      have c29b0 := eq_true c29
      have c29b1 : decide ((t143 ++ (⟨#[105]⟩ : ByteArray)).size + t144.size ≤ 9223372036854775807) = true := decide_eq_true c29
      try have c29b2 : (9223372036854775807 < (t143 ++ (⟨#[105]⟩ : ByteArray)).size + t144.size) = False := eq_false (Nat.not_lt.2 c29)
      try have c29b3 : (9223372036854775807 < t143.size + 1 + t144.size) = False := by first | exact c29b2 | (rw [← c29b2]; simp only [ByteArray.size_append]; rfl) | (simpa [ByteArray.size_append] using c29b2)
      obtain rfl := Option.some.inj H
      have hcz30_0 : wr.cell? ⟨gb131, 0, none⟩ = some (.int .i64 a0_0) := (blk_cell BK131.out 0).trans rfl
      have hcz30_1 : wr.cell? ⟨gb131, 1, none⟩ = some (.slice A0_1 l0_1.length c0_1) := (blk_cell BK131.out 1).trans rfl
      have hfz30_0 := blk_frozen BK131.out 0
      have hfz30_1 := blk_frozen BK131.out 1
      go_wp2_with (first | ((with_reducible refine gate_callee (f := 70) rfl ?_); refine goesL_ (some 33) rfl rfl Tryd.func70 (by kernel_rfl) rfl #[.int .i64 a0_0] rfl (by (try simp only [List.map_toArray, List.map_cons, List.map_nil]); first | done | rfl | (simp only [List.length_drop, List.length_take]; rfl)) ?_; (with_reducible refine (strconv_Itoa.calls a0_0 t143 _ ?side1 A26.out).mono ?_); (case side1 => exact Tab_pow10.below HT_pow10.out (by repeat (first | (with_reducible first | exact HB.out | apply below_alloc | apply pw_below_drewN | apply below_drew1 | refine below_set ?_ GE131.out) | exact HB.out))); rintro e w31 ⟨rfl, hb⟩; refine ⟨_, rfl, ?_⟩; have n0_ := am (Kd.R_below (roS HO_3.out) hb); have n1_ := am (blk_below (bkS BK131.out) hb); have n2_ := am (below_step (by repeat (first | (with_reducible first | exact HB.out | apply below_alloc | apply pw_below_drewN | apply below_drew1 | refine below_set ?_ GE131.out) | exact HB.out)) hb); clear HO_3; clear BK131; clear HB; have HO_3 := n0_; have BK131 := n1_; have HB := n2_; clear n0_ n1_ n2_; (try clear hb); (try clear hb2); (try clear hk); (try clear hi); obtain ⟨Ao32, co32, eo32⟩ := Kd.R_slice HO_3.out; subst eo32) | ((with_reducible refine gate_callee (f := 71) rfl ?_); refine goesL_ (some 36) rfl rfl Tryd.func71 (by kernel_rfl) rfl #[.slice Ao32 x3_1.length co32, .string (⟨#[44]⟩ : ByteArray)] rfl (by (try simp only [List.map_toArray, List.map_cons, List.map_nil]); first | done | rfl | (simp only [List.length_drop, List.length_take]; rfl)) ?_; (with_reducible refine (strings_Join.calls _ _ x3_1 (⟨#[44]⟩ : ByteArray) t144 _ ?side1 ?side2 A28.out).mono ?_); (case side1 => repeat (first | exact (Kd.R_reads' HO_3.out).2.2 | (with_reducible refine Kd.C_alloc ?_ _) | (with_reducible refine Kd.C_drewN ?_ _) | (with_reducible refine Kd.C_drew ?_))); (case side2 => exact (Kd.R_reads' HO_3.out).2.1); rintro e w33 ⟨rfl, hb⟩; refine ⟨_, rfl, ?_⟩; have n0_ := am (Kd.R_below (roS HO_3.out) hb); have n1_ := am (blk_below (bkS BK131.out) hb); have n2_ := am (below_step (by repeat (first | (with_reducible first | exact HB.out | apply below_alloc | apply pw_below_drewN | apply below_drew1 | refine below_set ?_ GE131.out) | exact HB.out)) hb); clear HO_3; clear BK131; clear HB; have HO_3 := n0_; have BK131 := n1_; have HB := n2_; clear n0_ n1_ n2_; (try clear hb); (try clear hb2); (try clear hk); (try clear hi)))
      go_ret
      exact ⟨by first | rfl | (simp [errW_none, errW_some] <;> rfl) | (simp [*, errW_none, errW_some] <;> rfl), by repeat (first | (with_reducible first | exact HB.out | apply below_alloc | apply pw_below_drewN | apply below_drew1 | refine below_set ?_ GE131.out) | exact HB.out)⟩
     ·rw [if_neg c29] at H
      exact absurd H (by simp)
    ·rw [if_neg c27] at H
     exact absurd H (by simp)
end Go.Proofs.YtncdecmcdlfmmaaDoor.X
end
