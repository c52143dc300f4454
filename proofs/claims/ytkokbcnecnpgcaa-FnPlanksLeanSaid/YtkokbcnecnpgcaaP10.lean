import Derived.Test.YtkokbcnecnpgcaaP4
import Derived.Test.YtkokbcnecnpgcaaP5
import Derived.Test.YtkokbcnecnpgcaaP8
import Derived.Test.YtkokbcnecnpgcaaP9
section
-- Written by a program of this session (wip/tools/mp.py) over the kit's print of the translation.
namespace Go.Proofs.Ytkokbcnecnpgcaa.X
open Go.Proofs.Ytkokbcnecnpgcaa.Sq Go.RowKit Go.Proofs.YtkokbcnecnpgcaaW.PrintWords Go.Proofs.YtkokbcnecnpgcaaW.PrintLast Go.Proofs.YtkokbcnecnpgcaaW.PrintMore
attribute [local go_sem] max2_int min2_int max_two min_two max_three min_three max_four min_four   -- for this text's walks alone
set_option linter.unusedVariables false
set_option linter.unusedSimpArgs false
/-! ### spec_DrawCanTurn: function 29 -/
def spec_DrawCanTurn.f (l0 : List Int) : Option (Int × Int × Int) := (spec_l1Cur_corner.f l0 0 0).bind fun bt330 => ((spec_l1Cur_among.f l0 bt330.2.2.1 bt330.2.2.2 (([1, 5, 8, 10, 12, 20, 22, 28, 30, 200, 201, 0] : List Int))).bind fun bt338 => (some (bt330.1, bt330.2.1, bt338.1)))
def spec_DrawCanTurn.T3 : Bool × List (List Nat × List Nat) := (true, [([], []), ([0], [0]), ([], []), ([2], [2]), ([], []), ([], []), ([4, 5], [4, 5]), ([1, 6, 0, 1], [1]), ([3, 7, 0, 1, 2, 3, 7], [3]), ([6, 8, 0, 1, 2, 3, 4, 5, 6, 7, 8], [6])])
def spec_DrawCanTurn.B3 : List Nat := [0, 1, 0, 4, 0, 0, 48, 115, 255, 511]
theorem spec_DrawCanTurn.tab3 : rtab .any (opsOf Try.f29 3) = spec_DrawCanTurn.T3 := by kernel_rfl
theorem spec_DrawCanTurn.bits3 : waitsOk spec_DrawCanTurn.T3.2 spec_DrawCanTurn.B3 = true := by kernel_rfl
set_option maxHeartbeats 8000000 in
set_option maxRecDepth 100000 in
theorem spec_DrawCanTurn.calls (A0 : Option Addr) (c0 : Nat) (l0 : List Int) (r1 : Int) (r2 : Int) (r3 : Int) (w : World) (hr0 : Kd.C (Kd.int .u8) w A0 l0.length l0) (hc0 : l0.length ≤ c0) (h : spec_DrawCanTurn.f l0 = some (r1, r2, r3)) :
  Calls Try.prog 29 #[.slice A0 l0.length c0] w fun e w' => e = .returned (.tuple #[.int .i64 r1, .int .i64 r2, .int .i64 r3]) ∧ Below w.heap.size w w' := by
 have hu46 := Try.underlying46
 have hu60 := Try.underlying60
 have HR0 := am hr0
 have HC0 := am hc0
 clear hr0 hc0
 have HB := am (Below.refl w.heap.size w)
 have H : ((spec_l1Cur_corner.f l0 0 0).bind fun bt330 => ((spec_l1Cur_among.f l0 bt330.2.2.1 bt330.2.2.2 (([1, 5, 8, 10, 12, 20, 22, 28, 30, 200, 201, 0] : List Int))).bind fun bt338 => (some (bt330.1, bt330.2.1, bt338.1)))) = some (r1, r2, r3) := h
 clear h
 replace H := Option.bind_eq_some_iff.mp H
 obtain ⟨⟨t330, t331, t332, t333⟩, A20, H⟩ := H
 replace H : ((spec_l1Cur_among.f l0 t332 t333 (([1, 5, 8, 10, 12, 20, 22, 28, 30, 200, 201, 0] : List Int))).bind fun bt338 => (some (t330, t331, bt338.1))) = some (r1, r2, r3) := H
 have A2 := am A20
 clear A20
 obtain ⟨y335, hy335⟩ : ∃ y_ : List Int, y_ = (([1, 5, 8, 10, 12, 20, 22, 28, 30, 200, 201, 0] : List Int)) := ⟨_, rfl⟩
 replace H : ((spec_l1Cur_among.f l0 t332 t333 y335).bind fun bt338 => (some (t330, t331, bt338.1))) = some (r1, r2, r3) := by first | (rw [hy335]; with_reducible exact H) | (have H2_ := (Option.bind_some _ _).symm.trans H; rw [hy335]; with_reducible exact H2_) | (have H2_ := (Option.bind_some _ _).symm.trans H; with_reducible exact H2_) | with_reducible exact H | (rw [hy335]; exact H) | exact H
 have Ny335 := am hy335
 clear hy335
 replace H := Option.bind_eq_some_iff.mp H
 obtain ⟨⟨t338, t339, t340⟩, A30, H⟩ := H
 replace H : (some (t330, t331, t338)) = some (r1, r2, r3) := H
 have A3 := am A30
 clear A30
 simp only [Option.some.injEq, Prod.mk.injEq] at H
 obtain ⟨rfl, rfl, rfl⟩ := H
 go_enter Try.func29, Try.ntmps29
 try go_wp2_with (first | ((with_reducible refine gate_dst (N := 9) rfl ?_); refine box_event ?hg (N := 9) ?hd (cs := #[.slice A0 l0.length c0, .int .i64 0, .int .u64 0]) (t := 46) ?hr ?_; (case hd => rfl); (case hg => rfl); (case hr => first | (go_simp; done) | (go_simp; rfl)); intro g329 hg w4 hbox hb; have n0_ := am (below_step (hbS HB.out) hb); have n1_ := am ((⟨A0, c0, hbox, (by rw [hg]; exact (below_size (hbS HB.out))), HR0.out⟩ : IsS46 w w4 g329 l0 0 0)); clear HB; have HB := n0_; have HI329 := n1_; clear n0_ n1_; clear hb hbox hg) | ((with_reducible refine gate_callee (f := 52) rfl ?_); refine goesL_ (some 11) rfl rfl Try.func52 (by kernel_rfl) rfl #[.pointer (some ⟨g329, 0, none⟩)] rfl (by (try simp only [List.map_toArray, List.map_cons, List.map_nil]); first | done | rfl | (simp only [List.length_drop, List.length_take]; rfl)) ?_; (with_reducible refine (spec_l1Cur_corner.calls g329 l0 0 0 t330 t331 t332 t333 w _ ?side1 ?side2 A2.out).mono ?_); (case side1 => repeat (first | (with_reducible first | exact HI329.out | apply IsS46.alloc | apply IsS46.drewN | apply IsS46.drew | apply IsS46.set_1 | apply IsS46.set_2) | exact HI329.out)); (case side2 => repeat (first | (with_reducible first | exact HB.out | apply below_alloc | apply pw_below_drewN | apply below_drew1 | refine below_set ?_ (IsS46.ge HI329.out)) | exact HB.out)); rintro e w5 ⟨rfl, hi, hb, hk⟩; refine ⟨_, rfl, ?_⟩; have n0_ := am (hb); have n1_ := am (hi); clear HB; clear HI329; have HB := n0_; have HI329 := n1_; clear n0_ n1_; (try clear hb); (try clear hb2); (try clear hk); (try clear hi)) | ((with_reducible refine gate_dst (N := 6) rfl ?_); refine box_event ?hg (N := 6) ?hd (cs := #[.int .i64 0, .int .i64 0]) (t := 60) ?hr ?_; (case hd => rfl); (case hg => rfl); (case hr => first | (go_simp; done) | (go_simp; rfl)); intro gb334 hg w6 hbox hb; have n0_ := am (IsS46.below (by repeat (first | (with_reducible first | exact HI329.out | apply IsS46.alloc | apply IsS46.drewN | apply IsS46.drew | apply IsS46.set_1 | apply IsS46.set_2) | exact HI329.out)) hb); have n1_ := am (below_step (by repeat (first | (with_reducible first | exact HB.out | apply below_alloc | apply pw_below_drewN | apply below_drew1 | refine below_set ?_ (IsS46.ge HI329.out)) | exact HB.out)) hb); have n2_ := am (hbox); have n3_ := am (gwL (by repeat (first | (with_reducible first | exact HB.out | apply below_alloc | apply pw_below_drewN | apply below_drew1 | refine below_set ?_ (IsS46.ge HI329.out)) | exact HB.out)) hg); have n4_ := n3_; have n5_ := am ((by rw [hg]; exact Nat.ne_of_lt (IsS46.lt (show IsS46 w _ g329 l0 t332 t333 from by repeat (first | (with_reducible first | exact HI329.out | apply IsS46.alloc | apply IsS46.drewN | apply IsS46.drew | apply IsS46.set_1 | apply IsS46.set_2) | exact HI329.out))) : g329 ≠ gb334)); have n6_ := am ((by rw [hg]; exact Nat.ne_of_gt (IsS46.lt (show IsS46 w _ g329 l0 t332 t333 from by repeat (first | (with_reducible first | exact HI329.out | apply IsS46.alloc | apply IsS46.drewN | apply IsS46.drew | apply IsS46.set_1 | apply IsS46.set_2) | exact HI329.out))) : gb334 ≠ g329)); clear HI329; clear HB; have HI329 := n0_; have HB := n1_; have BK334 := n2_; have GW334 := n3_; have GE334 := n4_; have NB329_334 := n5_; have NB334_329 := n6_; clear n0_ n1_ n2_ n3_ n4_ n5_ n6_; clear hb hbox hg; have hnb7 := NB334_329.out; have hnc7 := NB329_334.out; have hcz8_0 : w6.cell? ⟨gb334, 0, none⟩ = some (.int .i64 0) := (blk_cell BK334.out 0).trans rfl; have hcz8_1 : w6.cell? ⟨gb334, 1, none⟩ = some (.int .i64 0) := (blk_cell BK334.out 1).trans rfl; have hfz8_0 := blk_frozen BK334.out 0; have hfz8_1 := blk_frozen BK334.out 1))
 have n0_ : Aside0 (((w6.setCell ⟨gb334, 0, none⟩ (.int .i64 t330)).setCell ⟨gb334, 1, none⟩ (.int .i64 t331)).heap[gb334]? = some (.cells #[.int .i64 t330, .int .i64 t331] 60 (0, 0))) := ⟨by (with_reducible repeat (first | refine blk_drewN ?_ _ | refine blk_drew ?_ | refine blk_alloc ?_ _)); refine blk_put (cs := #[.int .i64 t330, .int .i64 0]) ?_ 1 _ rfl; (with_reducible repeat (first | refine blk_drewN ?_ _ | refine blk_drew ?_ | refine blk_alloc ?_ _)); refine blk_put (cs := #[.int .i64 0, .int .i64 0]) ?_ 0 _ rfl; (with_reducible repeat (first | refine blk_drewN ?_ _ | refine blk_drew ?_ | refine blk_alloc ?_ _)); exact BK334.out⟩
 have n1_ : Aside0 (IsS46 w ((w6.setCell ⟨gb334, 0, none⟩ (.int .i64 t330)).setCell ⟨gb334, 1, none⟩ (.int .i64 t331)) g329 l0 t332 t333) := ⟨by repeat (first | (with_reducible first | exact HI329.out | apply IsS46.alloc | apply IsS46.drewN | apply IsS46.drew | apply IsS46.set_1 | apply IsS46.set_2 | refine IsS46.far ?_ NB329_334.out _) | exact HI329.out)⟩
 have n2_ : Aside0 (Below w.heap.size w ((w6.setCell ⟨gb334, 0, none⟩ (.int .i64 t330)).setCell ⟨gb334, 1, none⟩ (.int .i64 t331))) := ⟨by repeat (first | (with_reducible first | exact HB.out | apply below_alloc | apply pw_below_drewN | apply below_drew1 | refine below_set ?_ (IsS46.ge HI329.out) | refine below_set ?_ GE334.out) | exact HB.out)⟩
 (try clear BK334)
 (try clear HI329)
 (try clear HB)
 generalize ((w6.setCell ⟨gb334, 0, none⟩ (.int .i64 t330)).setCell ⟨gb334, 1, none⟩ (.int .i64 t331)) = w9 at n0_ n1_ n2_ ⊢
 have BK334 := n0_
 have HI329 := n1_
 have HB := n2_
 clear n0_ n1_ n2_
 have n0_ := am (blk_drew BK334.out)
 have n1_ := am (IsS46.drew HI329.out)
 have n2_ := am (below_drew1 HB.out)
 clear BK334
 clear HI329
 clear HB
 have BK334 := n0_
 have HI329 := n1_
 have HB := n2_
 clear n0_ n1_ n2_
 refine start_ (n := 10) (S := fun w' => w'.cell? ⟨gb334, 0, none⟩ = some (.int .i64 t330) ∧ w'.cell? ⟨gb334, 1, none⟩ = some (.int .i64 t331)) (ds := []) #[false, false, false, false, false, false, false, false, false, false] (by kernel_rfl) rfl rfl ⟨(blk_cell BK334.out 0).trans rfl, (blk_cell BK334.out 1).trans rfl⟩ (fun hHeld => ?_); refine with_tabW spec_DrawCanTurn.tab3 spec_DrawCanTurn.bits3 (fun HT_ HW_ => ?_)
 generalize w9.drew = w10 at BK334 HI329 HB hHeld ⊢
 refine pure_ (i := 0) (N := some 12) (v := ?_) (a' := ?_) #[true, false, false, false, false, false, false, false, false, false] rfl rfl (any_of HT_.out (by kernel_rfl)) (fun _ _ _ h => h) (Or.inl ⟨by rfl, ?_⟩) ?_ ?_
 rotate_left
 ·intro w'
  go_simp
  with_reducible rfl
 rotate_left
 ·simp only [Act.put, List.setIfInBounds_toArray, List.set_cons_zero, List.set_cons_succ, i64_w, i32_w]
  rfl
 refine pure_ (i := 2) (N := some 14) (v := ?_) (a' := ?_) #[true, false, true, false, false, false, false, false, false, false] rfl rfl (any_of HT_.out (by kernel_rfl)) (fun _ _ _ h => h) (Or.inl ⟨by rfl, ?_⟩) ?_ ?_
 rotate_left
 ·intro w'
  go_simp
  with_reducible rfl
 rotate_left
 ·simp only [Act.put, List.setIfInBounds_toArray, List.set_cons_zero, List.set_cons_succ, i64_w, i32_w]
  rfl
 refine pure_ (i := 4) (N := some 16) (v := ?_) (a' := ?_) #[true, false, true, false, true, false, false, false, false, false] rfl rfl (any_of HT_.out (by kernel_rfl)) (fun _ _ _ h => h) (Or.inl ⟨by rfl, ?_⟩) ?_ ?_
 rotate_left
 ·intro w'
  go_simp
  with_reducible rfl
 rotate_left
 ·simp only [Act.put, List.setIfInBounds_toArray, List.set_cons_zero, List.set_cons_succ, i64_w, i32_w]
  rfl
 refine take_ (i := 1) (N := some 13) (v := ?_) (a' := ?_) #[true, true, true, false, true, false, false, false, false, false] rfl rfl (take_ofW HT_.out HW_.out (by kernel_rfl)) (fun _ _ _ h => h) (Or.inl ⟨by rfl, ?_⟩) hHeld ?_ ?_
 rotate_left
 ·rintro w' ⟨s0, s1⟩
  go_simp
  with_reducible rfl
 rotate_left
 ·simp only [Act.put, List.setIfInBounds_toArray, List.set_cons_zero, List.set_cons_succ, i64_w, i32_w]
  rfl
 refine take_ (i := 3) (N := some 15) (v := ?_) (a' := ?_) #[true, true, true, true, true, false, false, false, false, false] rfl rfl (take_ofW HT_.out HW_.out (by kernel_rfl)) (fun _ _ _ h => h) (Or.inl ⟨by rfl, ?_⟩) hHeld ?_ ?_
 rotate_left
 ·rintro w' ⟨s0, s1⟩
  go_simp
  with_reducible rfl
 rotate_left
 ·simp only [Act.put, List.setIfInBounds_toArray, List.set_cons_zero, List.set_cons_succ, i64_w, i32_w]
  rfl
 refine one_ (i := 5) (N := some 17) #[true, true, true, true, true, true, false, false, false, false] rfl rfl (one_of HT_.out (by kernel_rfl)) (by decide) (fun K hK => ?_)
 refine Kd.R_lit_step (Kd.int .i64) _ 3 ?hg (N := 17) ?hd (xs := ([1, 5, 8, 10, 12, 20, 22, 28, 30, 200, 201, 0] : List Int)) (inner := [.int .i64 1, .int .i64 5, .int .i64 8, .int .i64 10, .int .i64 12, .int .i64 20, .int .i64 22, .int .i64 28, .int .i64 30, .int .i64 200, .int .i64 201, .int .i64 0]) (ok := fun _ => True) (okp := fun _ => True) ?hr ?hp (fun _ hk => hk) trivial (Below.refl _ _) (Nat.le_refl _) (by simp) ?_; (case hd => rfl); (case hg => rfl); (case hr => first | (go_simp; done) | (go_simp; rfl)); (case hp => exact (Reps.one (show Kd.M (Kd.int .i64) _ _ _ 1 [.int .i64 1] from rfl) (Reps.one (show Kd.M (Kd.int .i64) _ _ _ 5 [.int .i64 5] from rfl) (Reps.one (show Kd.M (Kd.int .i64) _ _ _ 8 [.int .i64 8] from rfl) (Reps.one (show Kd.M (Kd.int .i64) _ _ _ 10 [.int .i64 10] from rfl) (Reps.one (show Kd.M (Kd.int .i64) _ _ _ 12 [.int .i64 12] from rfl) (Reps.one (show Kd.M (Kd.int .i64) _ _ _ 20 [.int .i64 20] from rfl) (Reps.one (show Kd.M (Kd.int .i64) _ _ _ 22 [.int .i64 22] from rfl) (Reps.one (show Kd.M (Kd.int .i64) _ _ _ 28 [.int .i64 28] from rfl) (Reps.one (show Kd.M (Kd.int .i64) _ _ _ 30 [.int .i64 30] from rfl) (Reps.one (show Kd.M (Kd.int .i64) _ _ _ 200 [.int .i64 200] from rfl) (Reps.one (show Kd.M (Kd.int .i64) _ _ _ 201 [.int .i64 201] from rfl) (Reps.one (show Kd.M (Kd.int .i64) _ _ _ 0 [.int .i64 0] from rfl) (Reps.none _ _))))))))))))))
 intro v336 w11 ho12 hb hg_ hnew_
 clear hg_ hnew_
 (first | rw [← Ny335.out] at ho12 | (simp only [Int.reduceToNat] at ho12; rw [← Ny335.out] at ho12))
 have n0_ := am (Kd.R_lower ho12 (below_size (by repeat (first | (with_reducible first | exact HB.out | apply below_alloc | apply pw_below_drewN | apply below_drew1 | refine below_set ?_ (IsS46.ge HI329.out) | refine below_set ?_ GE334.out) | exact HB.out))))
 have n1_ := am (IsS46.below (by repeat (first | (with_reducible first | exact HI329.out | apply IsS46.alloc | apply IsS46.drewN | apply IsS46.drew | apply IsS46.set_1 | apply IsS46.set_2 | refine IsS46.far ?_ NB329_334.out _) | exact HI329.out)) hb)
 have n2_ := am (blk_below (bkS BK334.out) hb)
 have n3_ := am (below_step (by repeat (first | (with_reducible first | exact HB.out | apply below_alloc | apply pw_below_drewN | apply below_drew1 | refine below_set ?_ (IsS46.ge HI329.out) | refine below_set ?_ GE334.out) | exact HB.out)) hb)
 clear HI329
 clear BK334
 clear HB
 have HO337 := n0_
 have HI329 := n1_
 have BK334 := n2_
 have HB := n3_
 clear n0_ n1_ n2_ n3_
 clear hb ho12
 obtain ⟨Ao13, co13, eo13⟩ := Kd.R_slice HO337.out
 (first | subst eo13 | (injection eo13 with f1_ f2_ f3_; have f4_ := f1_.symm; have f5_ := f3_.symm; clear f1_ f2_ f3_; subst f4_; subst f5_))
 refine hK.out _ _ ⟨(blk_cell BK334.out 0).trans rfl, (blk_cell BK334.out 1).trans rfl⟩ (fun hHeld => ?_)
 clear hK K
 refine norm_ (a' := ?_) ?_ ?_
 rotate_left
 ·show Act.put _ (some 17) _ = _
  simp only [Act.put, List.setIfInBounds_toArray, List.set_cons_zero, List.set_cons_succ, i64_w, i32_w]
  rfl
 refine one_ (i := 6) (N := some 18) #[true, true, true, true, true, true, true, false, false, false] rfl rfl (one_of HT_.out (by kernel_rfl)) (by decide) (fun K hK => ?_)
 refine goes_ Try.func33 (by kernel_rfl) rfl #[.pointer (some ⟨g329, 0, none⟩), .slice Ao13 y335.length co13] (by rfl) rfl rfl (by (try simp only [List.map_toArray, List.map_cons, List.map_nil]); first | done | rfl | (simp only [List.length_drop, List.length_take]; rfl)) ?_
 with_reducible refine (spec_l1Cur_among.calls g329 l0 t332 t333 _ _ y335 t338 t339 t340 w _ ?side1 ?side2 ?side3 ?side4 ?side5 A3.out).mono ?_
 (case side1 => repeat (first | (with_reducible first | exact HI329.out | apply IsS46.alloc | apply IsS46.drewN | apply IsS46.drew | apply IsS46.set_1 | apply IsS46.set_2 | refine IsS46.far ?_ NB329_334.out _) | exact HI329.out))
 (case side2 => repeat (first | (with_reducible first | exact HB.out | apply below_alloc | apply pw_below_drewN | apply below_drew1 | refine below_set ?_ (IsS46.ge HI329.out) | refine below_set ?_ GE334.out) | exact HB.out))
 (case side3 => repeat (first | exact (Kd.R_reads' HO337.out).2.2 | (with_reducible refine Kd.C_alloc ?_ _) | (with_reducible refine Kd.C_drewN ?_ _) | (with_reducible refine Kd.C_drew ?_)))
 (case side4 => exact (Kd.R_reads' HO337.out).2.1)
 (case side5 => exact far_slice (IsS46.own_ne HI329.out HO337.out (by decide)))
 rintro e w14 ⟨rfl, hi, hb, hk⟩
 refine ⟨_, rfl, ?_⟩
 have n0_ := am (KeepBut.blk hk (g' := gb334) (o := .cells #[.int .i64 t330, .int .i64 t331] 60 (0, 0)) (bkS BK334.out) NB334_329.out (by simp))
 have n1_ := am (Kd.R_mono (Kd.R_keep (IsS46.apart (show IsS46 w _ g329 l0 t332 t333 from by repeat (first | (with_reducible first | exact HI329.out | apply IsS46.alloc | apply IsS46.drewN | apply IsS46.drew | apply IsS46.set_1 | apply IsS46.set_2 | refine IsS46.far ?_ NB329_334.out _) | exact HI329.out)) (roS HO337.out) (by decide)) hk (fun _ h => h.2)) (fun _ h => h.1))
 have n2_ := am (hb)
 have n3_ := am (hi)
 clear BK334
 clear HO337
 clear HB
 clear HI329
 have BK334 := n0_
 have HO337 := n1_
 have HB := n2_
 have HI329 := n3_
 clear n0_ n1_ n2_ n3_
 (try clear hb)
 (try clear hb2)
 (try clear hk)
 (try clear hi)
 refine hK.out _ _ ⟨(blk_cell BK334.out 0).trans rfl, (blk_cell BK334.out 1).trans rfl⟩ (fun hHeld => ?_)
 clear hK K
 refine norm_ (a' := ?_) ?_ ?_
 rotate_left
 ·show Act.put _ (some 18) _ = _
  simp only [Act.put, List.setIfInBounds_toArray, List.set_cons_zero, List.set_cons_succ, i64_w, i32_w]
  rfl
 refine pure_ (i := 7) (N := some 2) (v := ?_) (a' := ?_) #[true, true, true, true, true, true, true, true, false, false] rfl rfl (any_of HT_.out (by kernel_rfl)) (fun _ _ _ h => h) (Or.inl ⟨by rfl, ?_⟩) ?_ ?_
 rotate_left
 ·intro w'
  go_simp
  with_reducible rfl
 rotate_left
 ·simp only [Act.put, List.setIfInBounds_toArray, List.set_cons_zero, List.set_cons_succ, i64_w, i32_w]
  rfl
 refine pure_ (i := 8) (N := some 3) (v := ?_) (a' := ?_) #[true, true, true, true, true, true, true, true, true, false] rfl rfl (any_of HT_.out (by kernel_rfl)) (fun _ _ _ h => h) (Or.inl ⟨by rfl, ?_⟩) ?_ ?_
 rotate_left
 ·intro w'
  go_simp
  with_reducible rfl
 rotate_left
 ·simp only [Act.put, List.setIfInBounds_toArray, List.set_cons_zero, List.set_cons_succ, i64_w, i32_w]
  rfl
 refine pure_ (i := 9) (N := some 4) (v := ?_) (a' := ?_) #[true, true, true, true, true, true, true, true, true, true] rfl rfl (any_of HT_.out (by kernel_rfl)) (fun _ _ _ h => h) (Or.inl ⟨by rfl, ?_⟩) ?_ ?_
 rotate_left
 ·intro w'
  go_simp
  with_reducible rfl
 rotate_left
 ·simp only [Act.put, List.setIfInBounds_toArray, List.set_cons_zero, List.set_cons_succ, i64_w, i32_w]
  rfl
 refine done_ (done_of HT_.out (by kernel_rfl)) ?_
 try go_wp2
 go_ret3
 exact ⟨by first | rfl | (simp [errW_none, errW_some] <;> rfl) | (simp [*, errW_none, errW_some] <;> rfl), by repeat (first | (with_reducible first | exact HB.out | apply below_alloc | apply pw_below_drewN | apply below_drew1 | refine below_set ?_ (IsS46.ge HI329.out) | refine below_set ?_ GE334.out) | exact HB.out)⟩
/-! ### impl_CanTurn: function 30 -/
mutual
def impl_CanTurn.j0 : Nat → Int → Int → Int → Bool → Option (Bool × Bool)
 | 0, _, _, _, _ => none
 | k + 1, x0, x1, x2, x21 => if x21 = true then (some (false, false)) else (impl_CanTurn.l0 k x0 x1 x2 (wrap64 (x0 + 1)))
def impl_CanTurn.l0 : Nat → Int → Int → Int → Int → Option (Bool × Bool)
 | 0, _, _, _, _ => none
 | k + 1, x0, x1, x2, x8 => if x8 < x2 then (if (wrap64 ((wrap64 ((wrap64 ((wrap64 (x2 * x2)) - (wrap64 (x8 * x8)))) * (wrap64 (x8 - x0)))) * (wrap64 (x8 - x0)))) > (wrap64 ((wrap64 ((wrap64 (x1 * x1)) * x8)) * x8)) then (some (false, true)) else (impl_CanTurn.l0 k x0 x1 x2 (wrap64 (x8 + 1)))) else (some (true, true))
end
def impl_CanTurn.f (k : Nat) (a0 : Int) (a1 : Int) (a2 : Int) : Option (Bool × Bool) := (impl_isDitch.f a0).bind fun t341 => (if t341 = true then ((impl_isDitch.f a1).bind fun t342 => (if t342 = true then ((impl_isPlankLong.f a2).bind fun t343 => (impl_CanTurn.j0 k a0 a1 a2 (!t343))) else (impl_CanTurn.j0 k a0 a1 a2 true))) else (impl_CanTurn.j0 k a0 a1 a2 true))
set_option maxHeartbeats 8000000 in
set_option maxRecDepth 100000 in
theorem impl_CanTurn.calls (k : Nat) (a0 : Int) (a1 : Int) (a2 : Int) (r1 : Bool) (r2 : Bool) (w : World) (h : impl_CanTurn.f k a0 a1 a2 = some (r1, r2)) :
  Calls Try.prog 30 #[.int .i64 a0, .int .i64 a1, .int .i64 a2] w fun e w' => e = .returned (.tuple #[.bool r1, .bool r2]) ∧ Drawn0 w w' := by
 have H : ((impl_isDitch.f a0).bind fun t341 => (if t341 = true then ((impl_isDitch.f a1).bind fun t342 => (if t342 = true then ((impl_isPlankLong.f a2).bind fun t343 => (impl_CanTurn.j0 k a0 a1 a2 (!t343))) else (impl_CanTurn.j0 k a0 a1 a2 true))) else (impl_CanTurn.j0 k a0 a1 a2 true))) = some (r1, r2) := h
 clear h
 have HC4 := am H
 clear H
 go_enter Try.func30, Try.ntmps30
 go_upto_region 1 with (fail)
 go_cut [21] (fun v21 wc => ∃ (kq : Nat) (x21_3 : Bool), v21 = .bool x21_3 ∧ Aside0 (impl_CanTurn.j0 kq a0 a1 a2 x21_3 = some (r1, r2)) ∧ Aside0 (kq ≤ k) ∧ Drawn0 w wc)
 case first =>
  have H := HC4.out
  clear HC4
  replace H := Option.bind_eq_some_iff.mp H
  obtain ⟨t341, A50, H⟩ := H
  replace H : (if t341 = true then ((impl_isDitch.f a1).bind fun t342 => (if t342 = true then ((impl_isPlankLong.f a2).bind fun t343 => (impl_CanTurn.j0 k a0 a1 a2 (!t343))) else (impl_CanTurn.j0 k a0 a1 a2 true))) else (impl_CanTurn.j0 k a0 a1 a2 true)) = some (r1, r2) := H
  have A5 := am A50
  clear A50
  by_cases c6 : t341 = true
  ·subst c6
   have H1 : ((impl_isDitch.f a1).bind fun t342 => (if t342 = true then ((impl_isPlankLong.f a2).bind fun t343 => (impl_CanTurn.j0 k a0 a1 a2 (!t343))) else (impl_CanTurn.j0 k a0 a1 a2 true))) = some (r1, r2) := by rw [if_pos rfl] at H; exact H
   clear H
   have H := H1
   clear H1
   replace H := Option.bind_eq_some_iff.mp H
   obtain ⟨t342, A70, H⟩ := H
   replace H : (if t342 = true then ((impl_isPlankLong.f a2).bind fun t343 => (impl_CanTurn.j0 k a0 a1 a2 (!t343))) else (impl_CanTurn.j0 k a0 a1 a2 true)) = some (r1, r2) := H
   have A7 := am A70
   clear A70
   by_cases c8 : t342 = true
   ·subst c8
    have H1 : ((impl_isPlankLong.f a2).bind fun t343 => (impl_CanTurn.j0 k a0 a1 a2 (!t343))) = some (r1, r2) := by rw [if_pos rfl] at H; exact H
    clear H
    have H := H1
    clear H1
    replace H := Option.bind_eq_some_iff.mp H
    obtain ⟨t343, A90, H⟩ := H
    replace H : (impl_CanTurn.j0 k a0 a1 a2 (!t343)) = some (r1, r2) := H
    have A9 := am A90
    clear A90
    have H' := am H
    clear H
    go_wp2_with (first | ((with_reducible refine gate_callee (f := 49) rfl ?_); refine goesL_ (some 10) rfl rfl Try.func49 (by kernel_rfl) rfl #[.int .i64 a0] rfl (by (try simp only [List.map_toArray, List.map_cons, List.map_nil]); first | done | rfl | (simp only [List.length_drop, List.length_take]; rfl)) ?_; (with_reducible refine (impl_isDitch.calls a0 true _ A5.out).mono ?_); rintro e w' ⟨rfl, ⟨nd, rfl⟩⟩; refine ⟨_, rfl, ?_⟩) | (go_at_call 49; (with_reducible refine (impl_isDitch.calls a1 true _ A7.out).mono ?_); rintro e w' ⟨rfl, ⟨nd, rfl⟩⟩) | (go_at_call 35; (with_reducible refine (impl_isPlankLong.calls a2 t343 _ A9.out).mono ?_); rintro e w' ⟨rfl, ⟨nd, rfl⟩⟩))
    go_meet
    case rel => exact ⟨_, (!t343), (by first | rfl | (simp; done) | (simp [*]; done)), H', ⟨by first | omega | exact Nat.le_refl _⟩, by repeat (first | exact Drawn0.refl _ | apply Drawn0.step)⟩
   ·replace c8 := Bool.eq_false_iff.mpr c8
    subst c8
    have H1 : (impl_CanTurn.j0 k a0 a1 a2 true) = some (r1, r2) := by rw [if_neg (show ¬ (false = true) by decide)] at H; exact H
    clear H
    have H := H1
    clear H1
    have H' := am H
    clear H
    go_wp2_with (first | ((with_reducible refine gate_callee (f := 49) rfl ?_); refine goesL_ (some 10) rfl rfl Try.func49 (by kernel_rfl) rfl #[.int .i64 a0] rfl (by (try simp only [List.map_toArray, List.map_cons, List.map_nil]); first | done | rfl | (simp only [List.length_drop, List.length_take]; rfl)) ?_; (with_reducible refine (impl_isDitch.calls a0 true _ A5.out).mono ?_); rintro e w' ⟨rfl, ⟨nd, rfl⟩⟩; refine ⟨_, rfl, ?_⟩) | (go_at_call 49; (with_reducible refine (impl_isDitch.calls a1 false _ A7.out).mono ?_); rintro e w' ⟨rfl, ⟨nd, rfl⟩⟩))
    go_meet
    case rel => exact ⟨_, (true), (by first | rfl | (simp; done) | (simp [*]; done)), H', ⟨by first | omega | exact Nat.le_refl _⟩, by repeat (first | exact Drawn0.refl _ | apply Drawn0.step)⟩
  ·replace c6 := Bool.eq_false_iff.mpr c6
   subst c6
   have H1 : (impl_CanTurn.j0 k a0 a1 a2 true) = some (r1, r2) := by rw [if_neg (show ¬ (false = true) by decide)] at H; exact H
   clear H
   have H := H1
   clear H1
   have H' := am H
   clear H
   go_wp2_with (first | ((with_reducible refine gate_callee (f := 49) rfl ?_); refine goesL_ (some 10) rfl rfl Try.func49 (by kernel_rfl) rfl #[.int .i64 a0] rfl (by (try simp only [List.map_toArray, List.map_cons, List.map_nil]); first | done | rfl | (simp only [List.length_drop, List.length_take]; rfl)) ?_; (with_reducible refine (impl_isDitch.calls a0 false _ A5.out).mono ?_); rintro e w' ⟨rfl, ⟨nd, rfl⟩⟩; refine ⟨_, rfl, ?_⟩))
   go_meet
   case rel => exact ⟨_, (true), (by first | rfl | (simp; done) | (simp [*]; done)), H', ⟨by first | omega | exact Nat.le_refl _⟩, by repeat (first | exact Drawn0.refl _ | apply Drawn0.step)⟩
 case rest =>
  clear HC4
  try clear p2
  try clear c3
  try clear c4
  try clear c6
  try clear c8
  obtain ⟨kq, x21_3, rfl, HA, HJ3, ⟨mc3, rfl⟩⟩ := hcut
  cases kq with
  | zero => exact absurd HA.out (by simp [impl_CanTurn.j0])
  | succ kj3 =>
   have H := HA.out
   clear HA
   simp only [impl_CanTurn.j0] at H
   by_cases c10 : x21_3 = true
   ·subst c10
    have H1 : (some (false, false)) = some (r1, r2) := by rw [if_pos rfl] at H; exact H
    clear H
    have H := H1
    clear H1
    simp only [Option.some.injEq, Prod.mk.injEq] at H
    obtain ⟨rfl, rfl⟩ := H
    go_wp2
    go_ret2
    exact ⟨by first | rfl | (simp; done) | (simp [*]; done), by repeat (first | exact Drawn0.refl _ | apply Drawn0.step)⟩
   ·replace c10 := Bool.eq_false_iff.mpr c10
    subst c10
    have H1 : (impl_CanTurn.l0 kj3 a0 a1 a2 (wrap64 (a0 + 1))) = some (r1, r2) := by rw [if_neg (show ¬ (false = true) by decide)] at H; exact H
    clear H
    have H := H1
    clear H1
    have H' := am H
    clear H
    go_wp2
    go_loopg [8] kj3 (fun kq v8 w' => ∃ (x8_2 : Int), v8 = .int .i64 x8_2 ∧ Aside0 (impl_CanTurn.l0 kq a0 a1 a2 x8_2 = some (r1, r2)) ∧ Aside0 (kq ≤ kj3) ∧ Drawn0 w w')
    case atStart => exact ⟨(wrap64 (a0 + 1)), (by first | rfl | (simp; done) | (simp [*]; done)), H', ⟨Nat.le_refl _⟩, by repeat (first | exact Drawn0.refl _ | apply Drawn0.step)⟩
    case round =>
     clear H'
     try clear c1
     try clear p2
     try clear c3
     try clear c4
     try clear c6
     try clear p6
     try clear c8
     try clear c10
     try clear p2
     obtain ⟨x8_2, rfl, HA, HK2, ⟨m2, rfl⟩⟩ := hrel
     cases gk with
     | zero => exact absurd HA.out (by simp [impl_CanTurn.l0])
     | succ k2 =>
      have H := HA.out
      clear HA
      simp only [impl_CanTurn.l0] at H
      by_cases c11 : x8_2 < a2
      ·rw [if_pos c11] at H
       have c11b0 : decide (x8_2 < a2) = true := decide_eq_true c11
       clear c11
       by_cases c12 : (wrap64 ((wrap64 ((wrap64 ((wrap64 (a2 * a2)) - (wrap64 (x8_2 * x8_2)))) * (wrap64 (x8_2 - a0)))) * (wrap64 (x8_2 - a0)))) > (wrap64 ((wrap64 ((wrap64 (a1 * a1)) * x8_2)) * x8_2))
       ·rw [if_pos c12] at H
        have c12b0 : decide ((wrap64 ((wrap64 ((wrap64 (a1 * a1)) * x8_2)) * x8_2)) < (wrap64 ((wrap64 ((wrap64 ((wrap64 (a2 * a2)) - (wrap64 (x8_2 * x8_2)))) * (wrap64 (x8_2 - a0)))) * (wrap64 (x8_2 - a0))))) = true := decide_eq_true c12
        clear c12
        simp only [Option.some.injEq, Prod.mk.injEq] at H
        obtain ⟨rfl, rfl⟩ := H
        go_wp2
        go_ret2
        exact ⟨by first | rfl | (simp; done) | (simp [*]; done), by repeat (first | exact Drawn0.refl _ | apply Drawn0.step)⟩
       ·rw [if_neg c12] at H
        have c12b0 : decide ((wrap64 ((wrap64 ((wrap64 (a1 * a1)) * x8_2)) * x8_2)) < (wrap64 ((wrap64 ((wrap64 ((wrap64 (a2 * a2)) - (wrap64 (x8_2 * x8_2)))) * (wrap64 (x8_2 - a0)))) * (wrap64 (x8_2 - a0))))) = false := decide_eq_false c12
        clear c12
        have H' := am H
        clear H
        go_wp2
        go_roundg k2
        case measure => have := HJ3.out; have := HK2.out; omega
        case rel => exact ⟨(wrap64 (x8_2 + 1)), (by first | rfl | (simp; done) | (simp [*]; done)), H', ⟨by have := HJ3.out; have := HK2.out; omega⟩, by repeat (first | exact Drawn0.refl _ | apply Drawn0.step)⟩
      ·rw [if_neg c11] at H
       have c11b0 : decide (x8_2 < a2) = false := decide_eq_false c11
       clear c11
       simp only [Option.some.injEq, Prod.mk.injEq] at H
       obtain ⟨rfl, rfl⟩ := H
       go_wp2
       go_ret2
       exact ⟨by first | rfl | (simp; done) | (simp [*]; done), by repeat (first | exact Drawn0.refl _ | apply Drawn0.step)⟩
end Go.Proofs.Ytkokbcnecnpgcaa.X
end
section
-- Written by a program of this session (wip/tools/mp.py) over the kit's print of the translation.
namespace Go.Proofs.Ytkokbcnecnpgcaa.X
open Go.Proofs.Ytkokbcnecnpgcaa.Sq Go.RowKit Go.Proofs.YtkokbcnecnpgcaaW.PrintWords Go.Proofs.YtkokbcnecnpgcaaW.PrintLast Go.Proofs.YtkokbcnecnpgcaaW.PrintMore
attribute [local go_sem] max2_int min2_int max_two min_two max_three min_three max_four min_four   -- for this text's walks alone
set_option linter.unusedVariables false
set_option linter.unusedSimpArgs false
/-! ### spec_CanTurn: function 31 -/
mutual
def spec_CanTurn.j0 : Nat → Int → Int → Int → Bool → Option (Bool × Bool)
 | 0, _, _, _, _ => none
 | k + 1, x0, x1, x2, x22 => if x22 = true then (some (false, false)) else (spec_CanTurn.l0 k x0 x1 x2 (wrap64 (x0 + 1)))
def spec_CanTurn.l0 : Nat → Int → Int → Int → Int → Option (Bool × Bool)
 | 0, _, _, _, _ => none
 | k + 1, x0, x1, x2, x8 => if x8 < x2 then (if (wrap64 ((wrap64 ((wrap64 ((wrap64 (x2 * x2)) - (wrap64 (x8 * x8)))) * (wrap64 (x8 - x0)))) * (wrap64 (x8 - x0)))) > (wrap64 ((wrap64 ((wrap64 (x1 * x1)) * x8)) * x8)) then (some (false, true)) else (spec_CanTurn.l0 k x0 x1 x2 (wrap64 (x8 + 1)))) else (some (true, true))
end
def spec_CanTurn.f (k : Nat) (a0 : Int) (a1 : Int) (a2 : Int) : Option (Bool × Bool) := (spec_cnDitch.f a0).bind fun t344 => (if t344 = true then ((spec_cnDitch.f a1).bind fun t345 => (if t345 = true then ((spec_cnPlank.f a2).bind fun t346 => (spec_CanTurn.j0 k a0 a1 a2 (!t346))) else (spec_CanTurn.j0 k a0 a1 a2 true))) else (spec_CanTurn.j0 k a0 a1 a2 true))
set_option maxHeartbeats 8000000 in
set_option maxRecDepth 100000 in
theorem spec_CanTurn.calls (k : Nat) (a0 : Int) (a1 : Int) (a2 : Int) (r1 : Bool) (r2 : Bool) (w : World) (h : spec_CanTurn.f k a0 a1 a2 = some (r1, r2)) :
  Calls Try.prog 31 #[.int .i64 a0, .int .i64 a1, .int .i64 a2] w fun e w' => e = .returned (.tuple #[.bool r1, .bool r2]) ∧ Drawn0 w w' := by
 have H : ((spec_cnDitch.f a0).bind fun t344 => (if t344 = true then ((spec_cnDitch.f a1).bind fun t345 => (if t345 = true then ((spec_cnPlank.f a2).bind fun t346 => (spec_CanTurn.j0 k a0 a1 a2 (!t346))) else (spec_CanTurn.j0 k a0 a1 a2 true))) else (spec_CanTurn.j0 k a0 a1 a2 true))) = some (r1, r2) := h
 clear h
 have HC4 := am H
 clear H
 go_enter Try.func31, Try.ntmps31
 go_upto_region 1 with (fail)
 go_cut [22] (fun v22 wc => ∃ (kq : Nat) (x22_3 : Bool), v22 = .bool x22_3 ∧ Aside0 (spec_CanTurn.j0 kq a0 a1 a2 x22_3 = some (r1, r2)) ∧ Aside0 (kq ≤ k) ∧ Drawn0 w wc)
 case first =>
  have H := HC4.out
  clear HC4
  replace H := Option.bind_eq_some_iff.mp H
  obtain ⟨t344, A50, H⟩ := H
  replace H : (if t344 = true then ((spec_cnDitch.f a1).bind fun t345 => (if t345 = true then ((spec_cnPlank.f a2).bind fun t346 => (spec_CanTurn.j0 k a0 a1 a2 (!t346))) else (spec_CanTurn.j0 k a0 a1 a2 true))) else (spec_CanTurn.j0 k a0 a1 a2 true)) = some (r1, r2) := H
  have A5 := am A50
  clear A50
  by_cases c6 : t344 = true
  ·subst c6
   have H1 : ((spec_cnDitch.f a1).bind fun t345 => (if t345 = true then ((spec_cnPlank.f a2).bind fun t346 => (spec_CanTurn.j0 k a0 a1 a2 (!t346))) else (spec_CanTurn.j0 k a0 a1 a2 true))) = some (r1, r2) := by rw [if_pos rfl] at H; exact H
   clear H
   have H := H1
   clear H1
   replace H := Option.bind_eq_some_iff.mp H
   obtain ⟨t345, A70, H⟩ := H
   replace H : (if t345 = true then ((spec_cnPlank.f a2).bind fun t346 => (spec_CanTurn.j0 k a0 a1 a2 (!t346))) else (spec_CanTurn.j0 k a0 a1 a2 true)) = some (r1, r2) := H
   have A7 := am A70
   clear A70
   by_cases c8 : t345 = true
   ·subst c8
    have H1 : ((spec_cnPlank.f a2).bind fun t346 => (spec_CanTurn.j0 k a0 a1 a2 (!t346))) = some (r1, r2) := by rw [if_pos rfl] at H; exact H
    clear H
    have H := H1
    clear H1
    replace H := Option.bind_eq_some_iff.mp H
    obtain ⟨t346, A90, H⟩ := H
    replace H : (spec_CanTurn.j0 k a0 a1 a2 (!t346)) = some (r1, r2) := H
    have A9 := am A90
    clear A90
    have H' := am H
    clear H
    go_wp2_with (first | ((with_reducible refine gate_callee (f := 51) rfl ?_); refine goesL_ (some 11) rfl rfl Try.func51 (by kernel_rfl) rfl #[.int .i64 a0] rfl (by (try simp only [List.map_toArray, List.map_cons, List.map_nil]); first | done | rfl | (simp only [List.length_drop, List.length_take]; rfl)) ?_; (with_reducible refine (spec_cnDitch.calls a0 true _ A5.out).mono ?_); rintro e w' ⟨rfl, ⟨nd, rfl⟩⟩; refine ⟨_, rfl, ?_⟩) | (go_at_call 51; (with_reducible refine (spec_cnDitch.calls a1 true _ A7.out).mono ?_); rintro e w' ⟨rfl, ⟨nd, rfl⟩⟩) | (go_at_call 37; (with_reducible refine (spec_cnPlank.calls a2 t346 _ A9.out).mono ?_); rintro e w' ⟨rfl, ⟨nd, rfl⟩⟩))
    go_meet
    case rel => exact ⟨_, (!t346), (by first | rfl | (simp; done) | (simp [*]; done)), H', ⟨by first | omega | exact Nat.le_refl _⟩, by repeat (first | exact Drawn0.refl _ | apply Drawn0.step)⟩
   ·replace c8 := Bool.eq_false_iff.mpr c8
    subst c8
    have H1 : (spec_CanTurn.j0 k a0 a1 a2 true) = some (r1, r2) := by rw [if_neg (show ¬ (false = true) by decide)] at H; exact H
    clear H
    have H := H1
    clear H1
    have H' := am H
    clear H
    go_wp2_with (first | ((with_reducible refine gate_callee (f := 51) rfl ?_); refine goesL_ (some 11) rfl rfl Try.func51 (by kernel_rfl) rfl #[.int .i64 a0] rfl (by (try simp only [List.map_toArray, List.map_cons, List.map_nil]); first | done | rfl | (simp only [List.length_drop, List.length_take]; rfl)) ?_; (with_reducible refine (spec_cnDitch.calls a0 true _ A5.out).mono ?_); rintro e w' ⟨rfl, ⟨nd, rfl⟩⟩; refine ⟨_, rfl, ?_⟩) | (go_at_call 51; (with_reducible refine (spec_cnDitch.calls a1 false _ A7.out).mono ?_); rintro e w' ⟨rfl, ⟨nd, rfl⟩⟩))
    go_meet
    case rel => exact ⟨_, (true), (by first | rfl | (simp; done) | (simp [*]; done)), H', ⟨by first | omega | exact Nat.le_refl _⟩, by repeat (first | exact Drawn0.refl _ | apply Drawn0.step)⟩
  ·replace c6 := Bool.eq_false_iff.mpr c6
   subst c6
   have H1 : (spec_CanTurn.j0 k a0 a1 a2 true) = some (r1, r2) := by rw [if_neg (show ¬ (false = true) by decide)] at H; exact H
   clear H
   have H := H1
   clear H1
   have H' := am H
   clear H
   go_wp2_with (first | ((with_reducible refine gate_callee (f := 51) rfl ?_); refine goesL_ (some 11) rfl rfl Try.func51 (by kernel_rfl) rfl #[.int .i64 a0] rfl (by (try simp only [List.map_toArray, List.map_cons, List.map_nil]); first | done | rfl | (simp only [List.length_drop, List.length_take]; rfl)) ?_; (with_reducible refine (spec_cnDitch.calls a0 false _ A5.out).mono ?_); rintro e w' ⟨rfl, ⟨nd, rfl⟩⟩; refine ⟨_, rfl, ?_⟩))
   go_meet
   case rel => exact ⟨_, (true), (by first | rfl | (simp; done) | (simp [*]; done)), H', ⟨by first | omega | exact Nat.le_refl _⟩, by repeat (first | exact Drawn0.refl _ | apply Drawn0.step)⟩
 case rest =>
  clear HC4
  try clear p2
  try clear c3
  try clear c5
  try clear c6
  try clear c8
  obtain ⟨kq, x22_3, rfl, HA, HJ3, ⟨mc3, rfl⟩⟩ := hcut
  cases kq with
  | zero => exact absurd HA.out (by simp [spec_CanTurn.j0])
  | succ kj3 =>
   have H := HA.out
   clear HA
   simp only [spec_CanTurn.j0] at H
   by_cases c10 : x22_3 = true
   ·subst c10
    have H1 : (some (false, false)) = some (r1, r2) := by rw [if_pos rfl] at H; exact H
    clear H
    have H := H1
    clear H1
    simp only [Option.some.injEq, Prod.mk.injEq] at H
    obtain ⟨rfl, rfl⟩ := H
    go_wp2
    go_ret2
    exact ⟨by first | rfl | (simp; done) | (simp [*]; done), by repeat (first | exact Drawn0.refl _ | apply Drawn0.step)⟩
   ·replace c10 := Bool.eq_false_iff.mpr c10
    subst c10
    have H1 : (spec_CanTurn.l0 kj3 a0 a1 a2 (wrap64 (a0 + 1))) = some (r1, r2) := by rw [if_neg (show ¬ (false = true) by decide)] at H; exact H
    clear H
    have H := H1
    clear H1
    have H' := am H
    clear H
    go_wp2
    go_loopg [8] kj3 (fun kq v8 w' => ∃ (x8_2 : Int), v8 = .int .i64 x8_2 ∧ Aside0 (spec_CanTurn.l0 kq a0 a1 a2 x8_2 = some (r1, r2)) ∧ Aside0 (kq ≤ kj3) ∧ Drawn0 w w')
    case atStart => exact ⟨(wrap64 (a0 + 1)), (by first | rfl | (simp; done) | (simp [*]; done)), H', ⟨Nat.le_refl _⟩, by repeat (first | exact Drawn0.refl _ | apply Drawn0.step)⟩
    case round =>
     clear H'
     try clear c1
     try clear p2
     try clear c3
     try clear c5
     try clear c6
     try clear p6
     try clear c8
     try clear c10
     try clear p2
     obtain ⟨x8_2, rfl, HA, HK2, ⟨m2, rfl⟩⟩ := hrel
     cases gk with
     | zero => exact absurd HA.out (by simp [spec_CanTurn.l0])
     | succ k2 =>
      have H := HA.out
      clear HA
      simp only [spec_CanTurn.l0] at H
      by_cases c11 : x8_2 < a2
      ·rw [if_pos c11] at H
       have c11b0 : decide (x8_2 < a2) = true := decide_eq_true c11
       clear c11
       by_cases c12 : (wrap64 ((wrap64 ((wrap64 ((wrap64 (a2 * a2)) - (wrap64 (x8_2 * x8_2)))) * (wrap64 (x8_2 - a0)))) * (wrap64 (x8_2 - a0)))) > (wrap64 ((wrap64 ((wrap64 (a1 * a1)) * x8_2)) * x8_2))
       ·rw [if_pos c12] at H
        have c12b0 : decide ((wrap64 ((wrap64 ((wrap64 (a1 * a1)) * x8_2)) * x8_2)) < (wrap64 ((wrap64 ((wrap64 ((wrap64 (a2 * a2)) - (wrap64 (x8_2 * x8_2)))) * (wrap64 (x8_2 - a0)))) * (wrap64 (x8_2 - a0))))) = true := decide_eq_true c12
        clear c12
        simp only [Option.some.injEq, Prod.mk.injEq] at H
        obtain ⟨rfl, rfl⟩ := H
        go_wp2
        go_ret2
        exact ⟨by first | rfl | (simp; done) | (simp [*]; done), by repeat (first | exact Drawn0.refl _ | apply Drawn0.step)⟩
       ·rw [if_neg c12] at H
        have c12b0 : decide ((wrap64 ((wrap64 ((wrap64 (a1 * a1)) * x8_2)) * x8_2)) < (wrap64 ((wrap64 ((wrap64 ((wrap64 (a2 * a2)) - (wrap64 (x8_2 * x8_2)))) * (wrap64 (x8_2 - a0)))) * (wrap64 (x8_2 - a0))))) = false := decide_eq_false c12
        clear c12
        have H' := am H
        clear H
        go_wp2
        go_roundg k2
        case measure => have := HJ3.out; have := HK2.out; omega
        case rel => exact ⟨(wrap64 (x8_2 + 1)), (by first | rfl | (simp; done) | (simp [*]; done)), H', ⟨by have := HJ3.out; have := HK2.out; omega⟩, by repeat (first | exact Drawn0.refl _ | apply Drawn0.step)⟩
      ·rw [if_neg c11] at H
       have c11b0 : decide (x8_2 < a2) = false := decide_eq_false c11
       clear c11
       simp only [Option.some.injEq, Prod.mk.injEq] at H
       obtain ⟨rfl, rfl⟩ := H
       go_wp2
       go_ret2
       exact ⟨by first | rfl | (simp; done) | (simp [*]; done), by repeat (first | exact Drawn0.refl _ | apply Drawn0.step)⟩
end Go.Proofs.Ytkokbcnecnpgcaa.X
end
