import Derived.Test.YtclmmnphmlmnmaaP4
import Derived.Test.YtclmmnphmlmnmaaP15
section
namespace Go.Proofs.Ytclmmnphmlmnmaa.X
open Go.Proofs.Ytclmmnphmlmnmaa.Sq Go.RowKit Go.Proofs.YtclmmnphmlmnmaaW.PrintWords Go.Proofs.YtclmmnphmlmnmaaW.PrintLast Go.Proofs.YtclmmnphmlmnmaaW.PrintMore
attribute [local go_sem] max2_int min2_int max_two min_two max_three min_three max_four min_four   -- for this text's walks alone
set_option linter.unusedVariables false
set_option linter.unusedSimpArgs false
set_option maxHeartbeats 8000000 in
set_option maxRecDepth 1000000 in
theorem laws_FnBoatsFollow.part_j0 {u0 u2 u3 u4 u5 u6 u7 u8 u9 u10 u11 u12 u13 u14 u15 u16 u17 u18 u19 u20 u21 u22 u23 u24 u25 u26 u27 u28 u29 u30 u31 u32 u33 u34 u35 u36 u37 u38 u39 u40 u41 u42 u43 u44 u45 u46 u47 u48 u49 u50 u51 u52 u53 u54 u55 u56 u57 u58 u59 u60 u61 u62 u63 u64 u65 u66 u67 u68 u69 u70 u71 u72 u73 u74 u75 u76 u77 u78 u79 u80 u81 u82 u83 u84 u85 u86 u87 u88 u89 u90 u91 u92 u93 u94 u95 u96 u97 u98 u99 u100 u101 u102 u103 u104 u105 u106 u107 u108 u109 u110 u111 u112 u113 u114 u115 u116 u117 u118 u119 u120 u121 u122 u123 u124 u125 u126 u127 u128 u129 u130 u131 u132 u133 u134 u135 u136 u137 u138 u139 u140 u141 u142 u143 u144 u145 u146 u147 u148 u149 u150 u151 u152 u153 u154 u155 u156 u157 u158 u159 u160 u161 u162 u163 u164 u165 u166 u167 u168 u169 u170 u171 u172 u173 u174 u175 u176 u177 u178 u179 u180 u181 u182 u183 u184 u185 u186 u187 u188 u189 u190 u191 u192 u193 u194 u195 u196 u197 u198 u199 u200 u201 u202 u203 u204 u205 u206 u207 u208 u209 u210 u211 u212 u213 u214 u215 u216 u217 u218 u219 u220 u221 u222 u223 u224 u225 u226 u227 u228 u229 u230 u231 u232 u233 u234 u235 u236 u237 u238 u239 u240 u241 u242 u243 u244 u245 u246 u247 u248 u249 u250 u251 u252 u253 u254 u255 u256 u257 u258 u259 u260 u261 u262 u263 u264 u265 u266 u267 u268 u269 u270 u271 u272 u273 u274 u275 u276 u277 u278 u279 u280 u281 u282 u283 u284 u285 u286 u287 u288 u289 u290 u291 u292 u293 u294 u295 u296 u297 u298 u299 u300 u301 u302 u303 u304 u305 u306 u307 u308 u309 u310 u311 u312 u313 u314 u315 u316 u317 u318 u319 u320 u321 u322 u323 u324 u325 u326 u327 u328 u329 u330 u331 u332 u333 u334 u335 u336 u337 u338 u339 u340 u341 u342 u343 u344 u345 u346 u347 u348 u349 u350 u351 u352 u353 u354 u355 u356 u357 u358 u359 u360 u361 u362 u363 u364 u365 u366 u367 u368 u369 u370 u371 u372 u373 u374 u375 u376 u377 u378 u379 u380 u381 u382 u383 u384 u385 u386 u387 u388 u389 u390 u391 u392 u393 u394 u395 u396 u397 u398 u399 u400 u401 u402 u403 u404 u405 u406 u407 u408 u409 u410 u411 u412 u413 u414 u415 u416 u417 u418 u419 u420 u421 u422 u423 u424 u425 u426 u427 u428 u429 u430 u431 u432 u433 u434 u435 u436 u437 u438 u439 u440 u441 u442 u443 u444 u445 u446 u447 u448 u449 u450 u451 u452 u453 u454 u455 u456 u457 u458 u459 u460 u461 u462 u463 u464 u465 u466 u467 u468 u469 u470 u471 u472 u473 u474 u475 u476 u477 u478 u479 u480 u481 u482 u483 u484 u485 u486 u487 u488 u489 u490 u491 u492 u493 u494 u495 u496 u497 u498 u499 u500 u501 u502 : Value} (kq k : Nat)  (l1 : List Int) (A1 : Option Addr) (c1 : Nat) (r : Bool) (w wc : World) (HR1 : Aside0 (Kd.C (Kd.int .u8) w A1 l1.length l1)) (HC1 : Aside0 (l1.length ≤ c1)) (HA : Aside0 (laws_FnBoatsFollow.j0 kq l1 = some r)) (HJ10 : Aside0 (kq ≤ k)) (HB : Aside0 (Below w.heap.size w wc)) :
  Code.wp Try.prog (dropTo 15 (Try.f3.body.getD .skip)) (bodyPost Try.prog Try.f3 fun e w' => e = .returned (.bool r) ∧ Below w.heap.size w w') ⟨#[u0, .slice A1 l1.length c1, u2, u3, u4, u5, u6, u7, u8, u9, u10, u11, u12, u13, u14, u15, u16, u17, u18, u19, u20, u21, u22, u23, u24, u25, u26, u27, u28, u29, u30, u31, u32, u33, u34, u35, u36, u37, u38, u39, u40, u41, u42, u43, u44, u45, u46, u47, u48, u49, u50, u51, u52, u53, u54, u55, u56, u57, u58, u59, u60, u61, u62, u63, u64, u65, u66, u67, u68, u69, u70, u71, u72, u73, u74, u75, u76, u77, u78, u79, u80, u81, u82, u83, u84, u85, u86, u87, u88, u89, u90, u91, u92, u93, u94, u95, u96, u97, u98, u99, u100, u101, u102, u103, u104, u105, u106, u107, u108, u109, u110, u111, u112, u113, u114, u115, u116, u117, u118, u119, u120, u121, u122, u123, u124, u125, u126, u127, u128, u129, u130, u131, u132, u133, u134, u135, u136, u137, u138, u139, u140, u141, u142, u143, u144, u145, u146, u147, u148, u149, u150, u151, u152, u153, u154, u155, u156, u157, u158, u159, u160, u161, u162, u163, u164, u165, u166, u167, u168, u169, u170, u171, u172, u173, u174, u175, u176, u177, u178, u179, u180, u181, u182, u183, u184, u185, u186, u187, u188, u189, u190, u191, u192, u193, u194, u195, u196, u197, u198, u199, u200, u201, u202, u203, u204, u205, u206, u207, u208, u209, u210, u211, u212, u213, u214, u215, u216, u217, u218, u219, u220, u221, u222, u223, u224, u225, u226, u227, u228, u229, u230, u231, u232, u233, u234, u235, u236, u237, u238, u239, u240, u241, u242, u243, u244, u245, u246, u247, u248, u249, u250, u251, u252, u253, u254, u255, u256, u257, u258, u259, u260, u261, u262, u263, u264, u265, u266, u267, u268, u269, u270, u271, u272, u273, u274, u275, u276, u277, u278, u279, u280, u281, u282, u283, u284, u285, u286, u287, u288, u289, u290, u291, u292, u293, u294, u295, u296, u297, u298, u299, u300, u301, u302, u303, u304, u305, u306, u307, u308, u309, u310, u311, u312, u313, u314, u315, u316, u317, u318, u319, u320, u321, u322, u323, u324, u325, u326, u327, u328, u329, u330, u331, u332, u333, u334, u335, u336, u337, u338, u339, u340, u341, u342, u343, u344, u345, u346, u347, u348, u349, u350, u351, u352, u353, u354, u355, u356, u357, u358, u359, u360, u361, u362, u363, u364, u365, u366, u367, u368, u369, u370, u371, u372, u373, u374, u375, u376, u377, u378, u379, u380, u381, u382, u383, u384, u385, u386, u387, u388, u389, u390, u391, u392, u393, u394, u395, u396, u397, u398, u399, u400, u401, u402, u403, u404, u405, u406, u407, u408, u409, u410, u411, u412, u413, u414, u415, u416, u417, u418, u419, u420, u421, u422, u423, u424, u425, u426, u427, u428, u429, u430, u431, u432, u433, u434, u435, u436, u437, u438, u439, u440, u441, u442, u443, u444, u445, u446, u447, u448, u449, u450, u451, u452, u453, u454, u455, u456, u457, u458, u459, u460, u461, u462, u463, u464, u465, u466, u467, u468, u469, u470, u471, u472, u473, u474, u475, u476, u477, u478, u479, u480, u481, u482, u483, u484, u485, u486, u487, u488, u489, u490, u491, u492, u493, u494, u495, u496, u497, u498, u499, u500, u501, u502], []⟩ wc := by
 conv => arg 2; whnf
 (try dsimp only [List.append])
 cases kq with
 | zero => exact absurd HA.out (by simp [laws_FnBoatsFollow.j0])
 | succ kj10 =>
  have H := HA.out
  clear HA
  simp only [laws_FnBoatsFollow.j0] at H
  replace H := Option.bind_eq_some_iff.mp H; obtain ⟨t572, A410, H⟩ := H; (try dsimp only at H); have A41 := am A410; clear A410; replace H := Option.bind_eq_some_iff.mp H; obtain ⟨⟨t575, t576⟩, A420, H⟩ := H; (try dsimp only at H); have A42 := am A420; clear A420; replace H := Option.bind_eq_some_iff.mp H; obtain ⟨⟨t577, t578⟩, A430, H⟩ := H; (try dsimp only at H); have A43 := am A430; clear A430; replace H := Option.bind_eq_some_iff.mp H; obtain ⟨⟨t579, t580⟩, A440, H⟩ := H; (try dsimp only at H); have A44 := am A440; clear A440; replace H := Option.bind_eq_some_iff.mp H; obtain ⟨⟨t583, t584⟩, A450, H⟩ := H; (try dsimp only at H); have A45 := am A450; clear A450; replace H := Option.bind_eq_some_iff.mp H; obtain ⟨⟨t587, t588⟩, A460, H⟩ := H; (try dsimp only at H); have A46 := am A460; clear A460; replace H := Option.bind_eq_some_iff.mp H; obtain ⟨⟨t589, t590⟩, A470, H⟩ := H; (try dsimp only at H); have A47 := am A470; clear A470; replace H := Option.bind_eq_some_iff.mp H; obtain ⟨⟨t591, t592⟩, A480, H⟩ := H; (try dsimp only at H); have A48 := am A480; clear A480; replace H := Option.bind_eq_some_iff.mp H; obtain ⟨⟨t593, t594⟩, A490, H⟩ := H; (try dsimp only at H); have A49 := am A490; clear A490; replace H := Option.bind_eq_some_iff.mp H; obtain ⟨⟨t595, t596⟩, A500, H⟩ := H; (try dsimp only at H); have A50 := am A500; clear A500; replace H := Option.bind_eq_some_iff.mp H; obtain ⟨⟨t597, t598⟩, A510, H⟩ := H; (try dsimp only at H); have A51 := am A510; clear A510; replace H := Option.bind_eq_some_iff.mp H; obtain ⟨⟨t599, t600⟩, A520, H⟩ := H; (try dsimp only at H); have A52 := am A520; clear A520; replace H := Option.bind_eq_some_iff.mp H; obtain ⟨⟨t601, t602⟩, A530, H⟩ := H; (try dsimp only at H); have A53 := am A530; clear A530; replace H := Option.bind_eq_some_iff.mp H; obtain ⟨⟨t603, t604⟩, A540, H⟩ := H; (try dsimp only at H); have A54 := am A540; clear A540; replace H := Option.bind_eq_some_iff.mp H; obtain ⟨⟨t605, t606⟩, A550, H⟩ := H; (try dsimp only at H); have A55 := am A550; clear A550; replace H := Option.bind_eq_some_iff.mp H; obtain ⟨⟨t609, t610⟩, A560, H⟩ := H; (try dsimp only at H); have A56 := am A560; clear A560; obtain ⟨c57, H⟩ := itN H
  have c57b0 : (t576 != t578) = false := by simpa using c57
  (try (have c57b1 : decide (t576 = t578) = true := by simpa using c57))
  (try (have c57b2 : (t576 == t578) = true := by simpa using c57))
  clear c57; obtain ⟨c58, H⟩ := itP H
  have c58b0 : (t575 == t577) = true := beq_iff_eq.mpr c58
  have c58b1 : (t575 != t577) = false := bne_eq_false_iff_eq.mpr c58
  clear c58; obtain ⟨c59, H⟩ := itN H
  have c59b0 : (t580 != t584) = false := by simpa using c59
  (try (have c59b1 : decide (t580 = t584) = true := by simpa using c59))
  (try (have c59b2 : (t580 == t584) = true := by simpa using c59))
  clear c59; replace H := Option.bind_eq_some_iff.mp H; obtain ⟨t613, A600, H⟩ := H; (try dsimp only at H); have A60 := am A600; clear A600
  by_cases c61 : t613 = true
  rotate_left
  ·replace c61 := Bool.eq_false_iff.mpr c61
   subst c61
   rw [if_neg (show ¬ (false = true) by decide)] at H
   (try dsimp only at H)
   exact absurd H (by simp)
  subst c61
  rw [if_pos rfl] at H
  (try dsimp only at H); obtain ⟨c62, H⟩ := itN H
  have c62b0 : (t588 != t590) = false := by simpa using c62
  (try (have c62b1 : decide (t588 = t590) = true := by simpa using c62))
  (try (have c62b2 : (t588 == t590) = true := by simpa using c62))
  clear c62; obtain ⟨c63, H⟩ := itP H
  have c63b0 : (t587 == t589) = true := beq_iff_eq.mpr c63
  have c63b1 : (t587 != t589) = false := bne_eq_false_iff_eq.mpr c63
  clear c63; obtain ⟨c64, H⟩ := itN H
  have c64b0 : (t580 != t576) = false := by simpa using c64
  (try (have c64b1 : decide (t580 = t576) = true := by simpa using c64))
  (try (have c64b2 : (t580 == t576) = true := by simpa using c64))
  clear c64; obtain ⟨c65, H⟩ := itN H
  have c65b0 : (t588 != t576) = false := by simpa using c65
  (try (have c65b1 : decide (t588 = t576) = true := by simpa using c65))
  (try (have c65b2 : (t588 == t576) = true := by simpa using c65))
  clear c65; obtain ⟨c66, H⟩ := itN H
  have c66b0 : (t594 != t596) = false := by simpa using c66
  (try (have c66b1 : decide (t594 = t596) = true := by simpa using c66))
  (try (have c66b2 : (t594 == t596) = true := by simpa using c66))
  clear c66; obtain ⟨c67, H⟩ := itP H
  have c67b0 : (t593 == t595) = true := beq_iff_eq.mpr c67
  have c67b1 : (t593 != t595) = false := bne_eq_false_iff_eq.mpr c67
  clear c67; obtain ⟨c68, H⟩ := itN H
  have c68b0 : (t600 != t602) = false := by simpa using c68
  (try (have c68b1 : decide (t600 = t602) = true := by simpa using c68))
  (try (have c68b2 : (t600 == t602) = true := by simpa using c68))
  clear c68; obtain ⟨c69, H⟩ := itP H
  have c69b0 : (t599 == t601) = true := beq_iff_eq.mpr c69
  have c69b1 : (t599 != t601) = false := bne_eq_false_iff_eq.mpr c69
  clear c69; obtain ⟨c70, H⟩ := itN H
  have c70b0 : (t606 != t610) = false := by simpa using c70
  (try (have c70b1 : decide (t606 = t610) = true := by simpa using c70))
  (try (have c70b2 : (t606 == t610) = true := by simpa using c70))
  clear c70; replace H := Option.bind_eq_some_iff.mp H; obtain ⟨t614, A710, H⟩ := H; (try dsimp only at H); have A71 := am A710; clear A710
  by_cases c72 : t614 = true
  rotate_left
  ·replace c72 := Bool.eq_false_iff.mpr c72
   subst c72
   rw [if_neg (show ¬ (false = true) by decide)] at H
   (try dsimp only at H)
   exact absurd H (by simp)
  subst c72
  rw [if_pos rfl] at H
  (try dsimp only at H); have HC73 := am H; clear H
  go_upto_if 307 with (first | ((with_reducible refine gate_callee (f := 11) rfl ?_); refine goesL_ (some 155) rfl rfl Try.func11 (by kernel_rfl) rfl #[.slice A1 l1.length c1] rfl (by (try simp only [List.map_toArray, List.map_cons, List.map_nil]); first | done | rfl | (simp only [List.length_drop, List.length_take]; rfl)) ?_; (with_reducible refine (spec_DrawRoundsHome.calls kj10 _ _ l1 t572 _ ?side1 ?side2 A41.out).mono ?_); (case side1 => repeat (first | exact (Kd.C_below HR1.out HB.out) | (with_reducible refine Kd.C_alloc ?_ _) | (with_reducible refine Kd.C_drewN ?_ _) | (with_reducible refine Kd.C_drew ?_))); (case side2 => exact HC1.out); rintro e w74 ⟨v573, rfl, ho0, hb⟩; refine ⟨_, rfl, ?_⟩; have n0_ := am (Kd.V_lower (Kd.V_mono (ok' := fun k_ => True) ho0 (fun k_ hk_ => trivial)) (below_size (hbS HB.out))); have n1_ := am (below_step (hbS HB.out) hb); clear HB; have HO574 := n0_; have HB := n1_; clear n0_ n1_; (try clear hb); (try clear hb2); (try clear hk); (try clear hi); (try clear ho0); obtain ⟨Ao75, co75, eo75⟩ := Kd.V_slice HO574.out; subst eo75) | ((with_reducible refine gate_callee (f := 12) rfl ?_); refine goesL_ (some 158) rfl rfl Try.func12 (by kernel_rfl) rfl #[.slice Ao75 t572.length co75] rfl (by (try simp only [List.map_toArray, List.map_cons, List.map_nil]); first | done | rfl | (simp only [List.length_drop, List.length_take]; rfl)) ?_; (with_reducible refine (impl_RoundsHome.calls kj10 _ _ t572 t575 t576 _ ?side1 ?side2 A42.out).mono ?_); (case side1 => repeat (first | exact (Kd.V_reads' HO574.out).2.2 | (with_reducible refine Kd.C_alloc ?_ _) | (with_reducible refine Kd.C_drewN ?_ _) | (with_reducible refine Kd.C_drew ?_))); (case side2 => exact (Kd.V_reads' HO574.out).2.1); rintro e w76 ⟨rfl, hb⟩; refine ⟨_, rfl, ?_⟩; have n0_ := am (Kd.V_below (by (with_reducible repeat (first | apply Kd.V_alloc | apply Kd.V_drewN | apply Kd.V_drew)); exact HO574.out) hb); have n1_ := am (below_step (hbS HB.out) hb); clear HO574; clear HB; have HO574 := n0_; have HB := n1_; clear n0_ n1_; (try clear hb); (try clear hb2); (try clear hk); (try clear hi)) | ((with_reducible refine gate_callee (f := 13) rfl ?_); refine goesL_ (some 163) rfl rfl Try.func13 (by kernel_rfl) rfl #[.slice Ao75 t572.length co75] rfl (by (try simp only [List.map_toArray, List.map_cons, List.map_nil]); first | done | rfl | (simp only [List.length_drop, List.length_take]; rfl)) ?_; (with_reducible refine (spec_RoundsHome.calls kj10 (fun k_ => True) _ _ t572 t577 t578 _ ?side1 A43.out).mono ?_); (case side1 => exact HO574.out); rintro e w77 ⟨rfl, hb⟩; refine ⟨_, rfl, ?_⟩; have n0_ := am (Kd.V_below (by (with_reducible repeat (first | apply Kd.V_alloc | apply Kd.V_drewN | apply Kd.V_drew)); exact HO574.out) hb); have n1_ := am (below_step (hbS HB.out) hb); clear HO574; clear HB; have HO574 := n0_; have HB := n1_; clear n0_ n1_; (try clear hb); (try clear hb2); (try clear hk); (try clear hi)) | ((with_reducible refine gate_callee (f := 9) rfl ?_); refine goesL_ (some 168) rfl rfl Try.func9 (by kernel_rfl) rfl #[.slice Ao75 t572.length co75] rfl (by (try simp only [List.map_toArray, List.map_cons, List.map_nil]); first | done | rfl | (simp only [List.length_drop, List.length_take]; rfl)) ?_; (with_reducible refine (impl_BackOrder.calls kj10 _ _ t572 t579 t580 _ ?side1 ?side2 A44.out).mono ?_); (case side1 => repeat (first | exact (Kd.V_reads' HO574.out).2.2 | (with_reducible refine Kd.C_alloc ?_ _) | (with_reducible refine Kd.C_drewN ?_ _) | (with_reducible refine Kd.C_drew ?_))); (case side2 => exact (Kd.V_reads' HO574.out).2.1); rintro e w78 ⟨v581, rfl, ho0, hb⟩; refine ⟨_, rfl, ?_⟩; have n0_ := am (Kd.V_elder' (by (with_reducible repeat (first | apply Kd.V_alloc | apply Kd.V_drewN | apply Kd.V_drew)); exact HO574.out) (Kd.R_base ho0) hb); have n1_ := am (Kd.R_lower ho0 (below_size (hbS HB.out))); have n2_ := am (below_step (hbS HB.out) hb); clear HO574; clear HB; have HO574 := n0_; have HO582 := n1_; have HB := n2_; clear n0_ n1_ n2_; (try clear hb); (try clear hb2); (try clear hk); (try clear hi); (try clear ho0)) | ((with_reducible refine gate_callee (f := 14) rfl ?_); refine goesL_ (some 173) rfl rfl Try.func14 (by kernel_rfl) rfl #[.slice Ao75 t572.length co75] rfl (by (try simp only [List.map_toArray, List.map_cons, List.map_nil]); first | done | rfl | (simp only [List.length_drop, List.length_take]; rfl)) ?_; (with_reducible refine (spec_BackOrder.calls kj10 _ _ t572 t583 t584 _ ?side1 ?side2 A45.out).mono ?_); (case side1 => repeat (first | exact (Kd.V_reads' HO574.out).2.2 | (with_reducible refine Kd.C_alloc ?_ _) | (with_reducible refine Kd.C_drewN ?_ _) | (with_reducible refine Kd.C_drew ?_))); (case side2 => exact (Kd.V_reads' HO574.out).2.1); rintro e w79 ⟨v585, rfl, ho0, hb⟩; refine ⟨_, rfl, ?_⟩; have n0_ := am (Kd.V_elder' (by (with_reducible repeat (first | apply Kd.V_alloc | apply Kd.V_drewN | apply Kd.V_drew)); exact HO574.out) (Kd.R_base ho0) hb); have n1_ := am (Kd.R_elder' (roS HO582.out) (Kd.R_base ho0) hb); have n2_ := am (Kd.R_lower (Kd.R_new' ho0 (Kd.R_lt (roS HO582.out))) (below_size (hbS HB.out))); have n3_ := am (below_step (hbS HB.out) hb); clear HO574; clear HO582; clear HB; have HO574 := n0_; have HO582 := n1_; have HO586 := n2_; have HB := n3_; clear n0_ n1_ n2_ n3_; (try clear hb); (try clear hb2); (try clear hk); (try clear hi); (try clear ho0)) | ((with_reducible refine gate_callee (f := 15) rfl ?_); refine goesL_ (some 178) rfl rfl Try.func15 (by kernel_rfl) rfl #[.slice Ao75 t572.length co75] rfl (by (try simp only [List.map_toArray, List.map_cons, List.map_nil]); first | done | rfl | (simp only [List.length_drop, List.length_take]; rfl)) ?_; (with_reducible refine (impl_RankOfOrder.calls kj10 _ _ t572 t587 t588 _ ?side1 ?side2 A46.out).mono ?_); (case side1 => repeat (first | exact (Kd.V_reads' HO574.out).2.2 | (with_reducible refine Kd.C_alloc ?_ _) | (with_reducible refine Kd.C_drewN ?_ _) | (with_reducible refine Kd.C_drew ?_))); (case side2 => exact (Kd.V_reads' HO574.out).2.1); rintro e w80 ⟨rfl, hb⟩; refine ⟨_, rfl, ?_⟩; have n0_ := am (Kd.V_below (by (with_reducible repeat (first | apply Kd.V_alloc | apply Kd.V_drewN | apply Kd.V_drew)); exact HO574.out) hb); have n1_ := am (Kd.R_below (roS HO582.out) hb); have n2_ := am (Kd.R_below (roS HO586.out) hb); have n3_ := am (below_step (hbS HB.out) hb); clear HO574; clear HO582; clear HO586; clear HB; have HO574 := n0_; have HO582 := n1_; have HO586 := n2_; have HB := n3_; clear n0_ n1_ n2_ n3_; (try clear hb); (try clear hb2); (try clear hk); (try clear hi)) | ((with_reducible refine gate_callee (f := 16) rfl ?_); refine goesL_ (some 183) rfl rfl Try.func16 (by kernel_rfl) rfl #[.slice Ao75 t572.length co75] rfl (by (try simp only [List.map_toArray, List.map_cons, List.map_nil]); first | done | rfl | (simp only [List.length_drop, List.length_take]; rfl)) ?_; (with_reducible refine (spec_RankOfOrder.calls kj10 _ _ t572 t589 t590 _ ?side1 ?side2 A47.out).mono ?_); (case side1 => repeat (first | exact (Kd.V_reads' HO574.out).2.2 | (with_reducible refine Kd.C_alloc ?_ _) | (with_reducible refine Kd.C_drewN ?_ _) | (with_reducible refine Kd.C_drew ?_))); (case side2 => exact (Kd.V_reads' HO574.out).2.1); rintro e w' ⟨rfl, ⟨nd, rfl⟩⟩; refine ⟨_, rfl, ?_⟩) | ((with_reducible refine gate_callee (f := 17) rfl ?_); refine goesL_ (some 188) rfl rfl Try.func17 (by kernel_rfl) rfl #[.slice A1 l1.length c1] rfl (by (try simp only [List.map_toArray, List.map_cons, List.map_nil]); first | done | rfl | (simp only [List.length_drop, List.length_take]; rfl)) ?_; (with_reducible refine (spec_DrawCountWithInverted.calls _ _ l1 t591 t592 _ ?side1 ?side2 A48.out).mono ?_); (case side1 => repeat (first | exact (Kd.C_below HR1.out (hbS HB.out)) | (with_reducible refine Kd.C_alloc ?_ _) | (with_reducible refine Kd.C_drewN ?_ _) | (with_reducible refine Kd.C_drew ?_))); (case side2 => exact HC1.out); rintro e w81 ⟨rfl, hb⟩; refine ⟨_, rfl, ?_⟩; have n0_ := am (Kd.V_below (by (with_reducible repeat (first | apply Kd.V_alloc | apply Kd.V_drewN | apply Kd.V_drew)); exact HO574.out) hb); have n1_ := am (Kd.R_below (roS HO582.out) hb); have n2_ := am (Kd.R_below (roS HO586.out) hb); have n3_ := am (below_step (hbS HB.out) hb); clear HO574; clear HO582; clear HO586; clear HB; have HO574 := n0_; have HO582 := n1_; have HO586 := n2_; have HB := n3_; clear n0_ n1_ n2_ n3_; (try clear hb); (try clear hb2); (try clear hk); (try clear hi)) | ((with_reducible refine gate_callee (f := 18) rfl ?_); refine goesL_ (some 194) rfl rfl Try.func18 (by kernel_rfl) rfl #[.int .i64 t591, .int .i64 t592] rfl (by (try simp only [List.map_toArray, List.map_cons, List.map_nil]); first | done | rfl | (simp only [List.length_drop, List.length_take]; rfl)) ?_; (with_reducible refine (impl_CountWithInverted.calls kj10 t591 t592 t593 t594 _ A49.out).mono ?_); rintro e w82 ⟨rfl, hb⟩; refine ⟨_, rfl, ?_⟩; have n0_ := am (Kd.V_below (by (with_reducible repeat (first | apply Kd.V_alloc | apply Kd.V_drewN | apply Kd.V_drew)); exact HO574.out) hb); have n1_ := am (Kd.R_below (roS HO582.out) hb); have n2_ := am (Kd.R_below (roS HO586.out) hb); have n3_ := am (below_step (hbS HB.out) hb); clear HO574; clear HO582; clear HO586; clear HB; have HO574 := n0_; have HO582 := n1_; have HO586 := n2_; have HB := n3_; clear n0_ n1_ n2_ n3_; (try clear hb); (try clear hb2); (try clear hk); (try clear hi)) | ((with_reducible refine gate_callee (f := 19) rfl ?_); refine goesL_ (some 200) rfl rfl Try.func19 (by kernel_rfl) rfl #[.int .i64 t591, .int .i64 t592] rfl (by (try simp only [List.map_toArray, List.map_cons, List.map_nil]); first | done | rfl | (simp only [List.length_drop, List.length_take]; rfl)) ?_; (with_reducible refine (spec_CountWithInverted.calls kj10 t591 t592 t595 t596 _ A50.out).mono ?_); rintro e w83 ⟨rfl, hb⟩; refine ⟨_, rfl, ?_⟩; have n0_ := am (Kd.V_below (by (with_reducible repeat (first | apply Kd.V_alloc | apply Kd.V_drewN | apply Kd.V_drew)); exact HO574.out) hb); have n1_ := am (Kd.R_below (roS HO582.out) hb); have n2_ := am (Kd.R_below (roS HO586.out) hb); have n3_ := am (below_step (hbS HB.out) hb); clear HO574; clear HO582; clear HO586; clear HB; have HO574 := n0_; have HO582 := n1_; have HO586 := n2_; have HB := n3_; clear n0_ n1_ n2_ n3_; (try clear hb); (try clear hb2); (try clear hk); (try clear hi)) | ((with_reducible refine gate_callee (f := 20) rfl ?_); refine goesL_ (some 205) rfl rfl Try.func20 (by kernel_rfl) rfl #[.slice A1 l1.length c1] rfl (by (try simp only [List.map_toArray, List.map_cons, List.map_nil]); first | done | rfl | (simp only [List.length_drop, List.length_take]; rfl)) ?_; (with_reducible refine (spec_DrawCountWithCycles.calls _ _ l1 t597 t598 _ ?side1 ?side2 A51.out).mono ?_); (case side1 => repeat (first | exact (Kd.C_below HR1.out HB.out) | (with_reducible refine Kd.C_alloc ?_ _) | (with_reducible refine Kd.C_drewN ?_ _) | (with_reducible refine Kd.C_drew ?_))); (case side2 => exact HC1.out); rintro e w84 ⟨rfl, hb⟩; refine ⟨_, rfl, ?_⟩; have n0_ := am (Kd.V_below (by (with_reducible repeat (first | apply Kd.V_alloc | apply Kd.V_drewN | apply Kd.V_drew)); exact HO574.out) hb); have n1_ := am (Kd.R_below (roS HO582.out) hb); have n2_ := am (Kd.R_below (roS HO586.out) hb); have n3_ := am (below_step (hbS HB.out) hb); clear HO574; clear HO582; clear HO586; clear HB; have HO574 := n0_; have HO582 := n1_; have HO586 := n2_; have HB := n3_; clear n0_ n1_ n2_ n3_; (try clear hb); (try clear hb2); (try clear hk); (try clear hi)) | ((with_reducible refine gate_callee (f := 21) rfl ?_); refine goesL_ (some 211) rfl rfl Try.func21 (by kernel_rfl) rfl #[.int .i64 t597, .int .i64 t598] rfl (by (try simp only [List.map_toArray, List.map_cons, List.map_nil]); first | done | rfl | (simp only [List.length_drop, List.length_take]; rfl)) ?_; (with_reducible refine (impl_CountWithCycles.calls kj10 t597 t598 t599 t600 _ A52.out).mono ?_); rintro e w85 ⟨rfl, hb⟩; refine ⟨_, rfl, ?_⟩; have n0_ := am (Kd.V_below (by (with_reducible repeat (first | apply Kd.V_alloc | apply Kd.V_drewN | apply Kd.V_drew)); exact HO574.out) hb); have n1_ := am (Kd.R_below (roS HO582.out) hb); have n2_ := am (Kd.R_below (roS HO586.out) hb); have n3_ := am (below_step (hbS HB.out) hb); clear HO574; clear HO582; clear HO586; clear HB; have HO574 := n0_; have HO582 := n1_; have HO586 := n2_; have HB := n3_; clear n0_ n1_ n2_ n3_; (try clear hb); (try clear hb2); (try clear hk); (try clear hi)) | ((with_reducible refine gate_callee (f := 22) rfl ?_); refine goesL_ (some 217) rfl rfl Try.func22 (by kernel_rfl) rfl #[.int .i64 t597, .int .i64 t598] rfl (by (try simp only [List.map_toArray, List.map_cons, List.map_nil]); first | done | rfl | (simp only [List.length_drop, List.length_take]; rfl)) ?_; (with_reducible refine (spec_CountWithCycles.calls kj10 t597 t598 t601 t602 _ A53.out).mono ?_); rintro e w86 ⟨rfl, hb⟩; refine ⟨_, rfl, ?_⟩; have n0_ := am (Kd.V_below (by (with_reducible repeat (first | apply Kd.V_alloc | apply Kd.V_drewN | apply Kd.V_drew)); exact HO574.out) hb); have n1_ := am (Kd.R_below (roS HO582.out) hb); have n2_ := am (Kd.R_below (roS HO586.out) hb); have n3_ := am (below_step (hbS HB.out) hb); clear HO574; clear HO582; clear HO586; clear HB; have HO574 := n0_; have HO582 := n1_; have HO586 := n2_; have HB := n3_; clear n0_ n1_ n2_ n3_; (try clear hb); (try clear hb2); (try clear hk); (try clear hi)) | ((with_reducible refine gate_callee (f := 23) rfl ?_); refine goesL_ (some 222) rfl rfl Try.func23 (by kernel_rfl) rfl #[.slice A1 l1.length c1] rfl (by (try simp only [List.map_toArray, List.map_cons, List.map_nil]); first | done | rfl | (simp only [List.length_drop, List.length_take]; rfl)) ?_; (with_reducible refine (spec_DrawOrderOfRank.calls _ _ l1 t603 t604 _ ?side1 ?side2 A54.out).mono ?_); (case side1 => repeat (first | exact (Kd.C_below HR1.out HB.out) | (with_reducible refine Kd.C_alloc ?_ _) | (with_reducible refine Kd.C_drewN ?_ _) | (with_reducible refine Kd.C_drew ?_))); (case side2 => exact HC1.out); rintro e w87 ⟨rfl, hb⟩; refine ⟨_, rfl, ?_⟩; have n0_ := am (Kd.V_below (by (with_reducible repeat (first | apply Kd.V_alloc | apply Kd.V_drewN | apply Kd.V_drew)); exact HO574.out) hb); have n1_ := am (Kd.R_below (roS HO582.out) hb); have n2_ := am (Kd.R_below (roS HO586.out) hb); have n3_ := am (below_step (hbS HB.out) hb); clear HO574; clear HO582; clear HO586; clear HB; have HO574 := n0_; have HO582 := n1_; have HO586 := n2_; have HB := n3_; clear n0_ n1_ n2_ n3_; (try clear hb); (try clear hb2); (try clear hk); (try clear hi)) | ((with_reducible refine gate_callee (f := 24) rfl ?_); refine goesL_ (some 228) rfl rfl Try.func24 (by kernel_rfl) rfl #[.int .i64 t603, .int .i64 t604] rfl (by (try simp only [List.map_toArray, List.map_cons, List.map_nil]); first | done | rfl | (simp only [List.length_drop, List.length_take]; rfl)) ?_; (with_reducible refine (impl_OrderOfRank.calls kj10 t603 t604 t605 t606 _ A55.out).mono ?_); rintro e w88 ⟨v607, rfl, ho0, hb⟩; refine ⟨_, rfl, ?_⟩; have n0_ := am (Kd.V_elder' (by (with_reducible repeat (first | apply Kd.V_alloc | apply Kd.V_drewN | apply Kd.V_drew)); exact HO574.out) (Kd.R_base ho0) hb); have n1_ := am (Kd.R_elder' (roS HO582.out) (Kd.R_base ho0) hb); have n2_ := am (Kd.R_elder' (roS HO586.out) (Kd.R_base ho0) hb); have n3_ := am (Kd.R_lower (Kd.R_new' (Kd.R_new' ho0 (Kd.R_lt (roS HO582.out))) (Kd.R_lt (roS HO586.out))) (below_size (hbS HB.out))); have n4_ := am (below_step (hbS HB.out) hb); clear HO574; clear HO582; clear HO586; clear HB; have HO574 := n0_; have HO582 := n1_; have HO586 := n2_; have HO608 := n3_; have HB := n4_; clear n0_ n1_ n2_ n3_ n4_; (try clear hb); (try clear hb2); (try clear hk); (try clear hi); (try clear ho0)) | ((with_reducible refine gate_callee (f := 25) rfl ?_); refine goesL_ (some 234) rfl rfl Try.func25 (by kernel_rfl) rfl #[.int .i64 t603, .int .i64 t604] rfl (by (try simp only [List.map_toArray, List.map_cons, List.map_nil]); first | done | rfl | (simp only [List.length_drop, List.length_take]; rfl)) ?_; (with_reducible refine (spec_OrderOfRank.calls kj10 t603 t604 t609 t610 _ A56.out).mono ?_); rintro e w89 ⟨v611, rfl, ho0, hb⟩; refine ⟨_, rfl, ?_⟩; have n0_ := am (Kd.V_elder' (by (with_reducible repeat (first | apply Kd.V_alloc | apply Kd.V_drewN | apply Kd.V_drew)); exact HO574.out) (Kd.R_base ho0) hb); have n1_ := am (Kd.R_elder' (roS HO582.out) (Kd.R_base ho0) hb); have n2_ := am (Kd.R_elder' (roS HO586.out) (Kd.R_base ho0) hb); have n3_ := am (Kd.R_elder' (roS HO608.out) (Kd.R_base ho0) hb); have n4_ := am (Kd.R_lower (Kd.R_new' (Kd.R_new' (Kd.R_new' ho0 (Kd.R_lt (roS HO582.out))) (Kd.R_lt (roS HO586.out))) (Kd.R_lt (roS HO608.out))) (below_size (hbS HB.out))); have n5_ := am (below_step (hbS HB.out) hb); clear HO574; clear HO582; clear HO586; clear HO608; clear HB; have HO574 := n0_; have HO582 := n1_; have HO586 := n2_; have HO608 := n3_; have HO612 := n4_; have HB := n5_; clear n0_ n1_ n2_ n3_ n4_ n5_; (try clear hb); (try clear hb2); (try clear hk); (try clear hi); (try clear ho0); obtain ⟨Ao90, co90, eo90⟩ := Kd.R_slice HO582.out; subst eo90; obtain ⟨Ao91, co91, eo91⟩ := Kd.R_slice HO586.out; subst eo91) | (go_at_call 8; (with_reducible refine (laws_kSame.calls kj10 _ _ t579 _ _ t583 true _ ?side1 ?side2 ?side3 ?side4 A60.out).mono ?_); (case side1 => repeat (first | exact (Kd.R_reads' HO582.out).2.2 | (with_reducible refine Kd.C_alloc ?_ _) | (with_reducible refine Kd.C_drewN ?_ _) | (with_reducible refine Kd.C_drew ?_))); (case side2 => exact (Kd.R_reads' HO582.out).2.1); (case side3 => repeat (first | exact (Kd.R_reads' HO586.out).2.2 | (with_reducible refine Kd.C_alloc ?_ _) | (with_reducible refine Kd.C_drewN ?_ _) | (with_reducible refine Kd.C_drew ?_))); (case side4 => exact (Kd.R_reads' HO586.out).2.1); rintro e w' ⟨rfl, ⟨nd, rfl⟩⟩; obtain ⟨Ao92, co92, eo92⟩ := Kd.R_slice HO608.out; subst eo92; obtain ⟨Ao93, co93, eo93⟩ := Kd.R_slice HO612.out; subst eo93) | (go_at_call 8; (with_reducible refine (laws_kSame.calls kj10 _ _ t605 _ _ t609 true _ ?side1 ?side2 ?side3 ?side4 A71.out).mono ?_); (case side1 => repeat (first | exact (Kd.R_reads' HO608.out).2.2 | (with_reducible refine Kd.C_alloc ?_ _) | (with_reducible refine Kd.C_drewN ?_ _) | (with_reducible refine Kd.C_drew ?_))); (case side2 => exact (Kd.R_reads' HO608.out).2.1); (case side3 => repeat (first | exact (Kd.R_reads' HO612.out).2.2 | (with_reducible refine Kd.C_alloc ?_ _) | (with_reducible refine Kd.C_drewN ?_ _) | (with_reducible refine Kd.C_drew ?_))); (case side4 => exact (Kd.R_reads' HO612.out).2.1); rintro e w' ⟨rfl, ⟨nd, rfl⟩⟩))
  (try simp only [Act.put, List.setIfInBounds_toArray, List.set_cons_zero, List.set_cons_succ])
  go_cut [] from 9999 (fun wc => ∃ (kq : Nat), Aside0 (laws_FnBoatsFollow.j3 kq t591 t592 t593 t594 t597 t598 t599 t600 t603 t604 t605 t606 = some r) ∧ Aside0 (kq ≤ kj10) ∧ Aside0 (Kd.R (Kd.int .i64) 3 wc w.heap.size (fun _ => True) (.slice Ao92 t605.length co92) t605) ∧ Aside0 (Below w.heap.size w wc))
  case first =>
   have H := HC73.out
   clear HC73
   by_cases c94 : t576 = true
   ·subst c94
    rw [if_pos rfl] at H
    (try dsimp only at H); have HC95 := am H; clear H
    go_upto_block 0 with (fail)
    go_cut [51] from 9999 (fun v51 wc => ∃ (kq : Nat) (x51_94 : Int), v51 = .int .i64 x51_94 ∧ Aside0 (laws_FnBoatsFollow.j2 kq t572 t575 t579 t587 t591 t592 t593 t594 t597 t598 t599 t600 t603 t604 t605 t606 x51_94 = some r) ∧ Aside0 (kq ≤ kj10) ∧ Aside0 (Kd.V (Kd.int .i64) 3 wc w.heap.size (fun k_ => some k_ ≠ ((.slice Ao90 t579.length co90) : Value).ownBlock ∧ some k_ ≠ ((.slice Ao92 t605.length co92) : Value).ownBlock) (.slice Ao75 t572.length co75) t572) ∧ Aside0 (Kd.R (Kd.int .i64) 3 wc w.heap.size (fun k_ => some k_ ≠ ((.slice Ao92 t605.length co92) : Value).ownBlock) (.slice Ao90 t579.length co90) t579) ∧ Aside0 (Kd.R (Kd.int .i64) 3 wc w.heap.size (fun k_ => some k_ ≠ ((.slice Ao90 t579.length co90) : Value).ownBlock) (.slice Ao92 t605.length co92) t605) ∧ Aside0 (Below w.heap.size w wc))
    case first =>
     have H := HC95.out
     clear HC95
     have H' := am H
     clear H
     go_wp2
     go_loopg [50, 51] kj10 (fun kq v50 v51 w' => ∃ (x50_2 : List Int) (x51_2 : Int), v51 = .int .i64 x51_2 ∧ Aside0 (laws_FnBoatsFollow.l0 kq t572 t575 t579 t587 t591 t592 t593 t594 t597 t598 t599 t600 t603 t604 t605 t606 x50_2 x51_2 = some r) ∧ Aside0 (kq ≤ kj10) ∧ Aside0 (Kd.V (Kd.int .i64) 3 w' w.heap.size (fun k_ => some k_ ≠ ((.slice Ao90 t579.length co90) : Value).ownBlock ∧ some k_ ≠ ((.slice Ao92 t605.length co92) : Value).ownBlock) (.slice Ao75 t572.length co75) t572) ∧ Aside0 (Kd.R (Kd.int .i64) 3 w' w.heap.size (fun k_ => some k_ ≠ ((.slice Ao92 t605.length co92) : Value).ownBlock) (.slice Ao90 t579.length co90) t579) ∧ Aside0 (Kd.R (Kd.int .i64) 3 w' w.heap.size (fun k_ => some k_ ≠ ((.slice Ao90 t579.length co90) : Value).ownBlock) (.slice Ao92 t605.length co92) t605) ∧ Aside0 (Kd.V (Kd.int .i64) 3 w' w.heap.size (fun k_ => some k_ ≠ ((.slice Ao90 t579.length co90) : Value).ownBlock ∧ some k_ ≠ ((.slice Ao92 t605.length co92) : Value).ownBlock) v50 x50_2) ∧ Aside0 (Below w.heap.size w w'))
     case atStart => exact ⟨(t572), (1), (by first | rfl | (simp; done) | (simp [*]; done)), H', ⟨Nat.le_refl _⟩, ⟨by (with_reducible repeat (first | apply Kd.V_alloc | apply Kd.V_drewN | apply Kd.V_drew)); exact Kd.V_mono HO574.out (fun _ hk => ⟨hk.1.1.1.2, hk.1.2⟩)⟩, ⟨by (with_reducible repeat (first | apply Kd.R_alloc | apply Kd.R_drewN | apply Kd.R_drew)); exact Kd.R_mono HO582.out (fun _ hk => hk.1.2)⟩, ⟨by (with_reducible repeat (first | apply Kd.R_alloc | apply Kd.R_drewN | apply Kd.R_drew)); exact Kd.R_mono HO608.out (fun _ hk => hk.1.1.2)⟩, ⟨by (with_reducible repeat (first | apply Kd.V_alloc | apply Kd.V_drewN | apply Kd.V_drew)); exact Kd.V_mono HO574.out (fun _ hk => ⟨hk.1.1.1.2, hk.1.2⟩)⟩, ⟨hbS HB.out⟩⟩
     case round =>
      clear H'
      (try clear c1); (try clear c2); (try clear p2); (try clear c3); (try clear c4); (try clear c5); (try clear c6); (try clear c7); (try clear c8); (try clear c8b0); (try clear c8b1); (try clear c8b2); (try clear c9); (try clear c10); (try clear c11); (try clear c12); (try clear c13); (try clear c14); (try clear c15); (try clear c16); (try clear c17); (try clear c18); (try clear c19); (try clear c20); (try clear c21); (try clear c22); (try clear c23); (try clear c24); (try clear c25); (try clear c26); (try clear c27); (try clear c29); (try clear c31); (try clear c57); (try clear c57b0); (try clear c57b1); (try clear c57b2); (try clear c58); (try clear c58b0); (try clear c58b1); (try clear c59); (try clear c59b0); (try clear c59b1); (try clear c59b2); (try clear c61); (try clear c62); (try clear c62b0); (try clear c62b1); (try clear c62b2); (try clear c63); (try clear c63b0); (try clear c63b1); (try clear c64); (try clear c64b0); (try clear c64b1); (try clear c64b2); (try clear c65); (try clear c65b0); (try clear c65b1); (try clear c65b2); (try clear c66); (try clear c66b0); (try clear c66b1); (try clear c66b2); (try clear c67); (try clear c67b0); (try clear c67b1); (try clear c68); (try clear c68b0); (try clear c68b1); (try clear c68b2); (try clear c69); (try clear c69b0); (try clear c69b1); (try clear c70); (try clear c70b0); (try clear c70b1); (try clear c70b2); (try clear c72); (try clear c94); (try clear p2); obtain ⟨x50_2, x51_2, rfl, HA, HK2, HO_19, HO_24, HO_46, HO_50, HB⟩ := hrel
      cases gk with
      | zero => exact absurd HA.out (by simp [laws_FnBoatsFollow.l0])
      | succ k2 =>
       have H := HA.out
       clear HA
       simp only [laws_FnBoatsFollow.l0] at H
       replace H := Option.bind_eq_some_iff.mp H; obtain ⟨⟨t645, t646⟩, A960, H⟩ := H; (try dsimp only at H); have A96 := am A960; clear A960
       by_cases c97 : t646 = true
       rotate_left
       ·replace c97 := Bool.eq_false_iff.mpr c97
        subst c97
        rw [if_neg (show ¬ (false = true) by decide)] at H
        (try dsimp only at H)
        exact absurd H (by simp)
       subst c97
       rw [if_pos rfl] at H
       (try dsimp only at H)
       by_cases c98 : t645 = 0
       ·rw [if_pos c98] at H
        have c98b0 : (t645 == 0) = true := beq_iff_eq.mpr c98
        have c98b1 : (t645 != 0) = false := bne_eq_false_iff_eq.mpr c98
        clear c98
        (first | rw [c98b0] | (simp only [i64_w, i32_w]; rw [c98b0]) | skip)
        have H' := am H
        clear H
        obtain ⟨Ao99, co99, eo99⟩ := Kd.V_slice HO_50.out
        subst eo99
        go_wp2_with (first | ((with_reducible refine gate_callee (f := 26) rfl ?_); refine goesL_ (some 311) rfl rfl Try.func26 (by kernel_rfl) rfl #[.slice Ao99 x50_2.length co99] rfl (by (try simp only [List.map_toArray, List.map_cons, List.map_nil]); first | done | rfl | (simp only [List.length_drop, List.length_take]; rfl)) ?_; (with_reducible refine (impl_CountInverted.calls k2 _ _ x50_2 t645 true _ ?side1 ?side2 A96.out).mono ?_); (case side1 => repeat (first | exact (Kd.V_reads' HO_50.out).2.2 | (with_reducible refine Kd.C_alloc ?_ _) | (with_reducible refine Kd.C_drewN ?_ _) | (with_reducible refine Kd.C_drew ?_))); (case side2 => exact (Kd.V_reads' HO_50.out).2.1); rintro e w100 ⟨rfl, hb⟩; refine ⟨_, rfl, ?_⟩; have n0_ := am (Kd.V_below (by (with_reducible repeat (first | apply Kd.V_alloc | apply Kd.V_drewN | apply Kd.V_drew)); exact HO_19.out) hb); have n1_ := am (Kd.R_below (roS HO_24.out) hb); have n2_ := am (Kd.R_below (roS HO_46.out) hb); have n3_ := am (Kd.V_below (by (with_reducible repeat (first | apply Kd.V_alloc | apply Kd.V_drewN | apply Kd.V_drew)); exact HO_50.out) hb); have n4_ := am (below_step (hbS HB.out) hb); clear HO_19; clear HO_24; clear HO_46; clear HO_50; clear HB; have HO_19 := n0_; have HO_24 := n1_; have HO_46 := n2_; have HO_50 := n3_; have HB := n4_; clear n0_ n1_ n2_ n3_ n4_; (try clear hb); (try clear hb2); (try clear hk); (try clear hi)))
        go_meet
        case rel => exact ⟨_, (x51_2), (by first | rfl | (simp; done) | (simp [*]; done)), H', ⟨by have := HJ10.out; have := HK2.out; first | omega | exact Nat.le_refl _⟩, ⟨by (with_reducible repeat (first | apply Kd.V_alloc | apply Kd.V_drewN | apply Kd.V_drew)); exact HO_19.out⟩, ⟨roS HO_24.out⟩, ⟨roS HO_46.out⟩, ⟨hbS HB.out⟩⟩
       ·rw [if_neg c98] at H
        have c98b0 : (t645 == 0) = false := beq_eq_false_iff_ne.mpr c98
        have c98b1 : (t645 != 0) = true := bne_iff_ne.mpr c98
        (first | rw [c98b0] | (simp only [i64_w, i32_w]; rw [c98b0]) | skip)
        replace H := Option.bind_eq_some_iff.mp H; obtain ⟨⟨t651, t652⟩, A1010, H⟩ := H; (try dsimp only at H); have A101 := am A1010; clear A1010
        by_cases c102 : t652 = true
        rotate_left
        ·replace c102 := Bool.eq_false_iff.mpr c102
         subst c102
         rw [if_neg (show ¬ (false = true) by decide)] at H
         (try dsimp only at H)
         exact absurd H (by simp)
        subst c102
        rw [if_pos rfl] at H
        (try dsimp only at H); obtain ⟨c103, H⟩ := itN H; have c103b0 : decide (20 < x51_2) = false := decide_eq_false c103; clear c103
        have H' := am H
        clear H
        obtain ⟨Ao104, co104, eo104⟩ := Kd.V_slice HO_50.out
        subst eo104
        go_wp2_with (first | ((with_reducible refine gate_callee (f := 26) rfl ?_); refine goesL_ (some 311) rfl rfl Try.func26 (by kernel_rfl) rfl #[.slice Ao104 x50_2.length co104] rfl (by (try simp only [List.map_toArray, List.map_cons, List.map_nil]); first | done | rfl | (simp only [List.length_drop, List.length_take]; rfl)) ?_; (with_reducible refine (impl_CountInverted.calls k2 _ _ x50_2 t645 true _ ?side1 ?side2 A96.out).mono ?_); (case side1 => repeat (first | exact (Kd.V_reads' HO_50.out).2.2 | (with_reducible refine Kd.C_alloc ?_ _) | (with_reducible refine Kd.C_drewN ?_ _) | (with_reducible refine Kd.C_drew ?_))); (case side2 => exact (Kd.V_reads' HO_50.out).2.1); rintro e w105 ⟨rfl, hb⟩; refine ⟨_, rfl, ?_⟩; have n0_ := am (Kd.V_below (by (with_reducible repeat (first | apply Kd.V_alloc | apply Kd.V_drewN | apply Kd.V_drew)); exact HO_19.out) hb); have n1_ := am (Kd.R_below (roS HO_24.out) hb); have n2_ := am (Kd.R_below (roS HO_46.out) hb); have n3_ := am (Kd.V_below (by (with_reducible repeat (first | apply Kd.V_alloc | apply Kd.V_drewN | apply Kd.V_drew)); exact HO_50.out) hb); have n4_ := am (below_step (hbS HB.out) hb); clear HO_19; clear HO_24; clear HO_46; clear HO_50; clear HB; have HO_19 := n0_; have HO_24 := n1_; have HO_46 := n2_; have HO_50 := n3_; have HB := n4_; clear n0_ n1_ n2_ n3_ n4_; (try clear hb); (try clear hb2); (try clear hk); (try clear hi)) | ((with_reducible refine gate_callee (f := 6) rfl ?_); refine goesL_ (some 321) rfl rfl Try.func6 (by kernel_rfl) rfl #[.slice Ao104 x50_2.length co104, .slice Ao75 t572.length co75] rfl (by (try simp only [List.map_toArray, List.map_cons, List.map_nil]); first | done | rfl | (simp only [List.length_drop, List.length_take]; rfl)) ?_; (with_reducible refine (impl_FollowOrder.calls k2 _ _ x50_2 _ _ t572 t651 true _ ?side1 ?side2 ?side3 ?side4 A101.out).mono ?_); (case side1 => repeat (first | exact (Kd.V_reads' HO_50.out).2.2 | (with_reducible refine Kd.C_alloc ?_ _) | (with_reducible refine Kd.C_drewN ?_ _) | (with_reducible refine Kd.C_drew ?_))); (case side2 => exact (Kd.V_reads' HO_50.out).2.1); (case side3 => repeat (first | exact (Kd.V_reads' HO_19.out).2.2 | (with_reducible refine Kd.C_alloc ?_ _) | (with_reducible refine Kd.C_drewN ?_ _) | (with_reducible refine Kd.C_drew ?_))); (case side4 => exact (Kd.V_reads' HO_19.out).2.1); rintro e w106 ⟨v653, rfl, ho0, hb⟩; refine ⟨_, rfl, ?_⟩; have n0_ := am (Kd.V_elder' (by (with_reducible repeat (first | apply Kd.V_alloc | apply Kd.V_drewN | apply Kd.V_drew)); exact HO_19.out) (Kd.R_base ho0) hb); have n1_ := am (Kd.R_elder' (roS HO_24.out) (Kd.R_base ho0) hb); have n2_ := am (Kd.R_elder' (roS HO_46.out) (Kd.R_base ho0) hb); have n3_ := am (Kd.V_elder' (by (with_reducible repeat (first | apply Kd.V_alloc | apply Kd.V_drewN | apply Kd.V_drew)); exact HO_50.out) (Kd.R_base ho0) hb); have n4_ := am (Kd.R_lower (Kd.R_new' (Kd.R_new' ho0 (Kd.R_lt (roS HO_24.out))) (Kd.R_lt (roS HO_46.out))) (below_size (hbS HB.out))); have n5_ := am (below_step (hbS HB.out) hb); clear HO_19; clear HO_24; clear HO_46; clear HO_50; clear HB; have HO_19 := n0_; have HO_24 := n1_; have HO_46 := n2_; have HO_50 := n3_; have HO654 := n4_; have HB := n5_; clear n0_ n1_ n2_ n3_ n4_ n5_; (try clear hb); (try clear hb2); (try clear hk); (try clear hi); (try clear ho0)))
        go_roundg k2
        case measure => have := HJ10.out; have := HK2.out; omega
        case rel => exact ⟨(t651), (wrap64 (x51_2 + 1)), (by first | rfl | (simp; done) | (simp [*]; done)), H', ⟨by have := HJ10.out; have := HK2.out; omega⟩, ⟨by (with_reducible repeat (first | apply Kd.V_alloc | apply Kd.V_drewN | apply Kd.V_drew)); exact Kd.V_mono HO_19.out (fun _ hk => ⟨hk.1.1, hk.1.2⟩)⟩, ⟨by (with_reducible repeat (first | apply Kd.R_alloc | apply Kd.R_drewN | apply Kd.R_drew)); exact Kd.R_mono HO_24.out (fun _ hk => hk.1)⟩, ⟨by (with_reducible repeat (first | apply Kd.R_alloc | apply Kd.R_drewN | apply Kd.R_drew)); exact Kd.R_mono HO_46.out (fun _ hk => hk.1)⟩, ⟨Kd.R_V (by (with_reducible repeat (first | apply Kd.R_alloc | apply Kd.R_drewN | apply Kd.R_drew)); exact Kd.R_mono HO654.out (fun _ hk => ⟨hk.1.2, hk.2⟩))⟩, ⟨hbS HB.out⟩⟩
    case rest =>
     clear HC95; (try clear c1); (try clear c2); (try clear p2); (try clear c3); (try clear c4); (try clear c5); (try clear c6); (try clear p6); (try clear c7); (try clear c8); (try clear c8b0); (try clear c8b1); (try clear c8b2); (try clear c9); (try clear c10); (try clear c11); (try clear c12); (try clear c13); (try clear c14); (try clear c15); (try clear c16); (try clear c17); (try clear c18); (try clear c19); (try clear c20); (try clear c21); (try clear c22); (try clear c23); (try clear c24); (try clear c25); (try clear c26); (try clear c27); (try clear c29); (try clear c31); (try clear c57); (try clear c57b0); (try clear c57b1); (try clear c57b2); (try clear c58); (try clear c58b0); (try clear c58b1); (try clear c59); (try clear c59b0); (try clear c59b1); (try clear c59b2); (try clear c61); (try clear c62); (try clear c62b0); (try clear c62b1); (try clear c62b2); (try clear c63); (try clear c63b0); (try clear c63b1); (try clear c64); (try clear c64b0); (try clear c64b1); (try clear c64b2); (try clear p64); (try clear c65); (try clear c65b0); (try clear c65b1); (try clear c65b2); (try clear c66); (try clear c66b0); (try clear c66b1); (try clear c66b2); (try clear c67); (try clear c67b0); (try clear c67b1); (try clear c68); (try clear c68b0); (try clear c68b1); (try clear c68b2); (try clear c69); (try clear c69b0); (try clear c69b1); (try clear c70); (try clear c70b0); (try clear c70b1); (try clear c70b2); (try clear c72); (try clear c94); (try clear c97); (try clear c98); (try clear c98b0); (try clear c98b1); (try clear c102); (try clear c103); (try clear c103b0); (try clear p2); obtain ⟨kq, x51_94, rfl, HA, HJ94, HO_19, HO_24, HO_46, HB⟩ := hcut
     cases kq with
     | zero => exact absurd HA.out (by simp [laws_FnBoatsFollow.j2])
     | succ kj94 =>
      have H := HA.out
      clear HA
      simp only [laws_FnBoatsFollow.j2] at H
      replace H := Option.bind_eq_some_iff.mp H; obtain ⟨⟨t683, t684⟩, A1070, H⟩ := H; (try dsimp only at H); have A107 := am A1070; clear A1070; replace H := Option.bind_eq_some_iff.mp H; obtain ⟨⟨t687, t688⟩, A1080, H⟩ := H; (try dsimp only at H); have A108 := am A1080; clear A1080; replace H := Option.bind_eq_some_iff.mp H; obtain ⟨⟨t689, t690⟩, A1090, H⟩ := H; (try dsimp only at H); have A109 := am A1090; clear A1090; replace H := Option.bind_eq_some_iff.mp H; obtain ⟨⟨t691, t692⟩, A1100, H⟩ := H; (try dsimp only at H); have A110 := am A1100; clear A1100; replace H := Option.bind_eq_some_iff.mp H; obtain ⟨⟨t693, t694⟩, A1110, H⟩ := H; (try dsimp only at H); have A111 := am A1110; clear A1110; obtain ⟨c112, H⟩ := itP H
      have c112b0 : (x51_94 == t575) = true := beq_iff_eq.mpr c112
      have c112b1 : (x51_94 != t575) = false := bne_eq_false_iff_eq.mpr c112
      clear c112
      by_cases c113 : t684 = true
      rotate_left
      ·replace c113 := Bool.eq_false_iff.mpr c113
       subst c113
       rw [if_neg (show ¬ (false = true) by decide)] at H
       (try dsimp only at H)
       exact absurd H (by simp)
      subst c113
      rw [if_pos rfl] at H
      (try dsimp only at H)
      by_cases c114 : t688 = true
      rotate_left
      ·replace c114 := Bool.eq_false_iff.mpr c114
       subst c114
       rw [if_neg (show ¬ (false = true) by decide)] at H
       (try dsimp only at H)
       exact absurd H (by simp)
      subst c114
      rw [if_pos rfl] at H
      (try dsimp only at H)
      by_cases c115 : t690 = true
      rotate_left
      ·replace c115 := Bool.eq_false_iff.mpr c115
       subst c115
       rw [if_neg (show ¬ (false = true) by decide)] at H
       (try dsimp only at H)
       exact absurd H (by simp)
      subst c115
      rw [if_pos rfl] at H
      (try dsimp only at H); obtain ⟨c116, H⟩ := itP H
      have c116b0 : (t687 == t689) = true := beq_iff_eq.mpr c116
      have c116b1 : (t687 != t689) = false := bne_eq_false_iff_eq.mpr c116
      clear c116
      by_cases c117 : t692 = true
      rotate_left
      ·replace c117 := Bool.eq_false_iff.mpr c117
       subst c117
       rw [if_neg (show ¬ (false = true) by decide)] at H
       (try dsimp only at H)
       exact absurd H (by simp)
      subst c117
      rw [if_pos rfl] at H
      (try dsimp only at H); obtain ⟨c118, H⟩ := itP H
      have c118b0 : (t691 == 0) = true := beq_iff_eq.mpr c118
      have c118b1 : (t691 != 0) = false := bne_eq_false_iff_eq.mpr c118
      clear c118
      by_cases c119 : t694 = true
      rotate_left
      ·replace c119 := Bool.eq_false_iff.mpr c119
       subst c119
       rw [if_neg (show ¬ (false = true) by decide)] at H
       (try dsimp only at H)
       exact absurd H (by simp)
      subst c119
      rw [if_pos rfl] at H
      (try dsimp only at H); replace H := Option.bind_eq_some_iff.mp H; obtain ⟨t697, A1200, H⟩ := H; (try dsimp only at H); have A120 := am A1200; clear A1200
      by_cases c121 : t697 = true
      rotate_left
      ·replace c121 := Bool.eq_false_iff.mpr c121
       subst c121
       rw [if_neg (show ¬ (false = true) by decide)] at H
       (try dsimp only at H)
       exact absurd H (by simp)
      subst c121
      rw [if_pos rfl] at H
      (try dsimp only at H)
      have H' := am H
      clear H
      go_wp2_with (first | ((with_reducible refine gate_callee (f := 6) rfl ?_); refine goesL_ (some 336) rfl rfl Try.func6 (by kernel_rfl) rfl #[.slice Ao75 t572.length co75, .slice Ao90 t579.length co90] rfl (by (try simp only [List.map_toArray, List.map_cons, List.map_nil]); first | done | rfl | (simp only [List.length_drop, List.length_take]; rfl)) ?_; (with_reducible refine (impl_FollowOrder.calls kj94 _ _ t572 _ _ t579 t683 true _ ?side1 ?side2 ?side3 ?side4 A107.out).mono ?_); (case side1 => repeat (first | exact (Kd.V_reads' HO_19.out).2.2 | (with_reducible refine Kd.C_alloc ?_ _) | (with_reducible refine Kd.C_drewN ?_ _) | (with_reducible refine Kd.C_drew ?_))); (case side2 => exact (Kd.V_reads' HO_19.out).2.1); (case side3 => repeat (first | exact (Kd.R_reads' HO_24.out).2.2 | (with_reducible refine Kd.C_alloc ?_ _) | (with_reducible refine Kd.C_drewN ?_ _) | (with_reducible refine Kd.C_drew ?_))); (case side4 => exact (Kd.R_reads' HO_24.out).2.1); rintro e w122 ⟨v685, rfl, ho0, hb⟩; refine ⟨_, rfl, ?_⟩; have n0_ := am (Kd.V_elder' (by (with_reducible repeat (first | apply Kd.V_alloc | apply Kd.V_drewN | apply Kd.V_drew)); exact HO_19.out) (Kd.R_base ho0) hb); have n1_ := am (Kd.R_elder' (roS HO_24.out) (Kd.R_base ho0) hb); have n2_ := am (Kd.R_elder' (roS HO_46.out) (Kd.R_base ho0) hb); have n3_ := am (Kd.R_lower (Kd.R_new' (Kd.R_new' ho0 (Kd.R_lt (roS HO_24.out))) (Kd.R_lt (roS HO_46.out))) (below_size (hbS HB.out))); have n4_ := am (below_step (hbS HB.out) hb); clear HO_19; clear HO_24; clear HO_46; clear HB; have HO_19 := n0_; have HO_24 := n1_; have HO_46 := n2_; have HO686 := n3_; have HB := n4_; clear n0_ n1_ n2_ n3_ n4_; (try clear hb); (try clear hb2); (try clear hk); (try clear hi); (try clear ho0)) | ((with_reducible refine gate_callee (f := 26) rfl ?_); refine goesL_ (some 341) rfl rfl Try.func26 (by kernel_rfl) rfl #[.slice Ao75 t572.length co75] rfl (by (try simp only [List.map_toArray, List.map_cons, List.map_nil]); first | done | rfl | (simp only [List.length_drop, List.length_take]; rfl)) ?_; (with_reducible refine (impl_CountInverted.calls kj94 _ _ t572 t687 true _ ?side1 ?side2 A108.out).mono ?_); (case side1 => repeat (first | exact (Kd.V_reads' HO_19.out).2.2 | (with_reducible refine Kd.C_alloc ?_ _) | (with_reducible refine Kd.C_drewN ?_ _) | (with_reducible refine Kd.C_drew ?_))); (case side2 => exact (Kd.V_reads' HO_19.out).2.1); rintro e w123 ⟨rfl, hb⟩; refine ⟨_, rfl, ?_⟩; have n0_ := am (Kd.V_below (by (with_reducible repeat (first | apply Kd.V_alloc | apply Kd.V_drewN | apply Kd.V_drew)); exact HO_19.out) hb); have n1_ := am (Kd.R_below (roS HO_24.out) hb); have n2_ := am (Kd.R_below (roS HO_46.out) hb); have n3_ := am (Kd.R_below (roS HO686.out) hb); have n4_ := am (below_step (hbS HB.out) hb); clear HO_19; clear HO_24; clear HO_46; clear HO686; clear HB; have HO_19 := n0_; have HO_24 := n1_; have HO_46 := n2_; have HO686 := n3_; have HB := n4_; clear n0_ n1_ n2_ n3_ n4_; (try clear hb); (try clear hb2); (try clear hk); (try clear hi)) | ((with_reducible refine gate_callee (f := 26) rfl ?_); refine goesL_ (some 346) rfl rfl Try.func26 (by kernel_rfl) rfl #[.slice Ao90 t579.length co90] rfl (by (try simp only [List.map_toArray, List.map_cons, List.map_nil]); first | done | rfl | (simp only [List.length_drop, List.length_take]; rfl)) ?_; (with_reducible refine (impl_CountInverted.calls kj94 _ _ t579 t689 true _ ?side1 ?side2 A109.out).mono ?_); (case side1 => repeat (first | exact (Kd.R_reads' HO_24.out).2.2 | (with_reducible refine Kd.C_alloc ?_ _) | (with_reducible refine Kd.C_drewN ?_ _) | (with_reducible refine Kd.C_drew ?_))); (case side2 => exact (Kd.R_reads' HO_24.out).2.1); rintro e w124 ⟨rfl, hb⟩; refine ⟨_, rfl, ?_⟩; have n0_ := am (Kd.V_below (by (with_reducible repeat (first | apply Kd.V_alloc | apply Kd.V_drewN | apply Kd.V_drew)); exact HO_19.out) hb); have n1_ := am (Kd.R_below (roS HO_24.out) hb); have n2_ := am (Kd.R_below (roS HO_46.out) hb); have n3_ := am (Kd.R_below (roS HO686.out) hb); have n4_ := am (below_step (hbS HB.out) hb); clear HO_19; clear HO_24; clear HO_46; clear HO686; clear HB; have HO_19 := n0_; have HO_24 := n1_; have HO_46 := n2_; have HO686 := n3_; have HB := n4_; clear n0_ n1_ n2_ n3_ n4_; (try clear hb); (try clear hb2); (try clear hk); (try clear hi); obtain ⟨Ao125, co125, eo125⟩ := Kd.R_slice HO686.out; subst eo125) | ((with_reducible refine gate_callee (f := 26) rfl ?_); refine goesL_ (some 351) rfl rfl Try.func26 (by kernel_rfl) rfl #[.slice Ao125 t683.length co125] rfl (by (try simp only [List.map_toArray, List.map_cons, List.map_nil]); first | done | rfl | (simp only [List.length_drop, List.length_take]; rfl)) ?_; (with_reducible refine (impl_CountInverted.calls kj94 _ _ t683 t691 true _ ?side1 ?side2 A110.out).mono ?_); (case side1 => repeat (first | exact (Kd.R_reads' HO686.out).2.2 | (with_reducible refine Kd.C_alloc ?_ _) | (with_reducible refine Kd.C_drewN ?_ _) | (with_reducible refine Kd.C_drew ?_))); (case side2 => exact (Kd.R_reads' HO686.out).2.1); rintro e w126 ⟨rfl, hb⟩; refine ⟨_, rfl, ?_⟩; have n0_ := am (Kd.V_below (by (with_reducible repeat (first | apply Kd.V_alloc | apply Kd.V_drewN | apply Kd.V_drew)); exact HO_19.out) hb); have n1_ := am (Kd.R_below (roS HO_24.out) hb); have n2_ := am (Kd.R_below (roS HO_46.out) hb); have n3_ := am (Kd.R_below (roS HO686.out) hb); have n4_ := am (below_step (hbS HB.out) hb); clear HO_19; clear HO_24; clear HO_46; clear HO686; clear HB; have HO_19 := n0_; have HO_24 := n1_; have HO_46 := n2_; have HO686 := n3_; have HB := n4_; clear n0_ n1_ n2_ n3_ n4_; (try clear hb); (try clear hb2); (try clear hk); (try clear hi)) | ((with_reducible refine gate_callee (f := 24) rfl ?_); refine goesL_ (some 358) rfl rfl Try.func24 (by kernel_rfl) rfl #[.int .i64 (t572.length : Int), .int .i64 t587] rfl (by (try simp only [List.map_toArray, List.map_cons, List.map_nil]); first | done | rfl | (simp only [List.length_drop, List.length_take]; rfl)) ?_; (with_reducible refine (impl_OrderOfRank.calls kj94 (t572.length : Int) t587 t693 true _ A111.out).mono ?_); rintro e w127 ⟨v695, rfl, ho0, hb⟩; refine ⟨_, rfl, ?_⟩; have n0_ := am (Kd.V_elder' (by (with_reducible repeat (first | apply Kd.V_alloc | apply Kd.V_drewN | apply Kd.V_drew)); exact HO_19.out) (Kd.R_base ho0) hb); have n1_ := am (Kd.R_elder' (roS HO_24.out) (Kd.R_base ho0) hb); have n2_ := am (Kd.R_elder' (roS HO_46.out) (Kd.R_base ho0) hb); have n3_ := am (Kd.R_elder' (roS HO686.out) (Kd.R_base ho0) hb); have n4_ := am (Kd.R_lower (Kd.R_new' (Kd.R_new' (Kd.R_new' ho0 (Kd.R_lt (roS HO_24.out))) (Kd.R_lt (roS HO_46.out))) (Kd.R_lt (roS HO686.out))) (below_size (hbS HB.out))); have n5_ := am (below_step (hbS HB.out) hb); clear HO_19; clear HO_24; clear HO_46; clear HO686; clear HB; have HO_19 := n0_; have HO_24 := n1_; have HO_46 := n2_; have HO686 := n3_; have HO696 := n4_; have HB := n5_; clear n0_ n1_ n2_ n3_ n4_ n5_; (try clear hb); (try clear hb2); (try clear hk); (try clear hi); (try clear ho0); obtain ⟨Ao128, co128, eo128⟩ := Kd.R_slice HO696.out; subst eo128) | (go_at_call 8; (with_reducible refine (laws_kSame.calls kj94 _ _ t693 _ _ t572 true _ ?side1 ?side2 ?side3 ?side4 A120.out).mono ?_); (case side1 => repeat (first | exact (Kd.R_reads' HO696.out).2.2 | (with_reducible refine Kd.C_alloc ?_ _) | (with_reducible refine Kd.C_drewN ?_ _) | (with_reducible refine Kd.C_drew ?_))); (case side2 => exact (Kd.R_reads' HO696.out).2.1); (case side3 => repeat (first | exact (Kd.V_reads' HO_19.out).2.2 | (with_reducible refine Kd.C_alloc ?_ _) | (with_reducible refine Kd.C_drewN ?_ _) | (with_reducible refine Kd.C_drew ?_))); (case side4 => exact (Kd.V_reads' HO_19.out).2.1); rintro e w' ⟨rfl, ⟨nd, rfl⟩⟩))
      go_meet
      case rel => exact ⟨_, H', ⟨by have := HJ10.out; have := HJ94.out; first | omega | exact Nat.le_refl _⟩, ⟨by (with_reducible repeat (first | apply Kd.R_alloc | apply Kd.R_drewN | apply Kd.R_drew)); exact Kd.R_mono HO_46.out (fun _ hk => trivial)⟩, ⟨hbS HB.out⟩⟩
   ·replace c94 := Bool.eq_false_iff.mpr c94
    subst c94
    rw [if_neg (show ¬ (false = true) by decide)] at H
    (try dsimp only at H)
    have H' := am H
    clear H
    go_wp2
    go_meet
    case rel => exact ⟨_, H', ⟨by have := HJ10.out; first | omega | exact Nat.le_refl _⟩, ⟨by (with_reducible repeat (first | apply Kd.R_alloc | apply Kd.R_drewN | apply Kd.R_drew)); exact Kd.R_mono HO608.out (fun _ hk => trivial)⟩, ⟨hbS HB.out⟩⟩
  case rest =>
   clear HC73; (try clear c1); (try clear c2); (try clear p2); (try clear c3); (try clear c4); (try clear c5); (try clear c6); (try clear p6); (try clear c7); (try clear c8); (try clear c8b0); (try clear c8b1); (try clear c8b2); (try clear c9); (try clear c10); (try clear c11); (try clear c12); (try clear c13); (try clear c14); (try clear c15); (try clear c16); (try clear c17); (try clear c18); (try clear c19); (try clear c20); (try clear c21); (try clear c22); (try clear c23); (try clear c24); (try clear c25); (try clear c26); (try clear c27); (try clear c29); (try clear c31); (try clear c57); (try clear c57b0); (try clear c57b1); (try clear c57b2); (try clear c58); (try clear c58b0); (try clear c58b1); (try clear c59); (try clear c59b0); (try clear c59b1); (try clear c59b2); (try clear c61); (try clear c62); (try clear c62b0); (try clear c62b1); (try clear c62b2); (try clear c63); (try clear c63b0); (try clear c63b1); (try clear c64); (try clear c64b0); (try clear c64b1); (try clear c64b2); (try clear p64); (try clear c65); (try clear c65b0); (try clear c65b1); (try clear c65b2); (try clear c66); (try clear c66b0); (try clear c66b1); (try clear c66b2); (try clear c67); (try clear c67b0); (try clear c67b1); (try clear c68); (try clear c68b0); (try clear c68b1); (try clear c68b2); (try clear c69); (try clear c69b0); (try clear c69b1); (try clear c70); (try clear c70b0); (try clear c70b1); (try clear c70b2); (try clear c72); (try clear c94); (try clear c97); (try clear c98); (try clear c98b0); (try clear c98b1); (try clear c102); (try clear c103); (try clear c103b0); (try clear c112); (try clear c112b0); (try clear c112b1); (try clear c113); (try clear c114); (try clear c115); (try clear c116); (try clear c116b0); (try clear c116b1); (try clear c117); (try clear c118); (try clear c118b0); (try clear c118b1); (try clear c119); (try clear c121); (try clear p2); (try clear p6); (try clear p64); obtain ⟨kq, HA, HJ72, HO_46, HB⟩ := hcut
   go_step
   exact laws_FnBoatsFollow.part_j3 kq _ t591 t592 t593 t594 t597 t598 t599 t600 t603 t604 t605 t606 Ao92 co92 r w wc HA HJ72 HO_46 HB
end Go.Proofs.Ytclmmnphmlmnmaa.X
end
section
namespace Go.Proofs.Ytclmmnphmlmnmaa.X
open Go.Proofs.Ytclmmnphmlmnmaa.Sq Go.RowKit Go.Proofs.YtclmmnphmlmnmaaW.PrintWords Go.Proofs.YtclmmnphmlmnmaaW.PrintLast Go.Proofs.YtclmmnphmlmnmaaW.PrintMore
attribute [local go_sem] max2_int min2_int max_two min_two max_three min_three max_four min_four   -- for this text's walks alone
set_option linter.unusedVariables false
set_option linter.unusedSimpArgs false
set_option maxHeartbeats 8000000 in
set_option maxRecDepth 100000 in
theorem laws_FnBoatsFollow.calls (k : Nat) (A0 : Option Addr) (c0 : Nat) (l0 : List Int) (A1 : Option Addr) (c1 : Nat) (l1 : List Int) (r : Bool) (w : World) (hr0 : Kd.C (Kd.int .u8) w A0 l0.length l0) (hc0 : l0.length ≤ c0) (hr1 : Kd.C (Kd.int .u8) w A1 l1.length l1) (hc1 : l1.length ≤ c1) (h : laws_FnBoatsFollow.f k l0 l1 = some r) :
  Calls Try.prog 3 #[.slice A0 l0.length c0, .slice A1 l1.length c1] w fun e w' => e = .returned (.bool r) ∧ Below w.heap.size w w' := by
 have HR0 := am hr0; have HC0 := am hc0; clear hr0 hc0; have HR1 := am hr1; have HC1 := am hc1; clear hr1 hc1
 have HB := am (Below.refl w.heap.size w)
 have H : ((laws_big.f l0 l1).bind fun t442 => (if t442 = true then (some true) else ((spec_DrawFollowOrder.f k l0).bind fun bt457 => ((impl_FollowOrder.f k bt457.1 bt457.2).bind fun bt463 => ((spec_FollowOrder.f k bt457.1 bt457.2).bind fun bt467 => (if (bt463.2 != bt467.2) = true then (none) else ((laws_kSame.f k bt463.1 bt467.1).bind fun t471 => (if t471 = true then (if bt463.2 = true then ((impl_BackOrder.f k bt457.1).bind fun bt520 => ((impl_BackOrder.f k bt457.2).bind fun bt524 => ((impl_BackOrder.f k bt463.1).bind fun bt528 => ((impl_FollowOrder.f k bt524.1 bt520.1).bind fun bt532 => (if bt520.2 = true then (if bt524.2 = true then (if bt528.2 = true then (if bt532.2 = true then ((laws_kSame.f k bt528.1 bt532.1).bind fun t536 => (if t536 = true then ((impl_IsOrder.f bt463.1).bind fun t537 => (if t537 = true then (laws_FnBoatsFollow.j0 k l1) else (none))) else (none))) else (none)) else (none)) else (none)) else (none)))))) else (laws_FnBoatsFollow.j0 k l1)) else (none))))))))) = some r := h
 clear h; replace H := Option.bind_eq_some_iff.mp H; obtain ⟨t442, A30, H⟩ := H; (try dsimp only at H); have A3 := am A30; clear A30
 by_cases c4 : t442 = true
 ·subst c4
  rw [if_pos rfl] at H
  (try dsimp only at H)
  obtain rfl := Option.some.inj H
  go_enter Try.func3, Try.ntmps3
  (try dsimp only [List.append])
  go_wp2_with (first | ((with_reducible refine gate_callee (f := 4) rfl ?_); refine goesL_ (some 80) rfl rfl Try.func4 (by kernel_rfl) rfl #[.slice A0 l0.length c0, .slice A1 l1.length c1] rfl (by (try simp only [List.map_toArray, List.map_cons, List.map_nil]); first | done | rfl | (simp only [List.length_drop, List.length_take]; rfl)) ?_; (with_reducible refine (laws_big.calls _ _ l0 _ _ l1 true _ ?side1 ?side2 ?side3 ?side4 A3.out).mono ?_); (case side1 => repeat (first | exact HR0.out | (with_reducible refine Kd.C_alloc ?_ _) | (with_reducible refine Kd.C_drewN ?_ _) | (with_reducible refine Kd.C_drew ?_))); (case side2 => exact HC0.out); (case side3 => repeat (first | exact HR1.out | (with_reducible refine Kd.C_alloc ?_ _) | (with_reducible refine Kd.C_drewN ?_ _) | (with_reducible refine Kd.C_drew ?_))); (case side4 => exact HC1.out); rintro e w' ⟨rfl, ⟨nd, rfl⟩⟩; refine ⟨_, rfl, ?_⟩))
  go_ret
  exact ⟨by first | rfl | (simp [errW_none, errW_some] <;> rfl) | (simp [*, errW_none, errW_some] <;> rfl), hbS HB.out⟩
 ·replace c4 := Bool.eq_false_iff.mpr c4
  subst c4
  rw [if_neg (show ¬ (false = true) by decide)] at H
  (try dsimp only at H); replace H := Option.bind_eq_some_iff.mp H; obtain ⟨⟨t457, t460⟩, A50, H⟩ := H; (try dsimp only at H); have A5 := am A50; clear A50; replace H := Option.bind_eq_some_iff.mp H; obtain ⟨⟨t463, t464⟩, A60, H⟩ := H; (try dsimp only at H); have A6 := am A60; clear A60; replace H := Option.bind_eq_some_iff.mp H; obtain ⟨⟨t467, t468⟩, A70, H⟩ := H; (try dsimp only at H); have A7 := am A70; clear A70; obtain ⟨c8, H⟩ := itN H
  have c8b0 : (t464 != t468) = false := by simpa using c8
  (try (have c8b1 : decide (t464 = t468) = true := by simpa using c8))
  (try (have c8b2 : (t464 == t468) = true := by simpa using c8))
  clear c8; replace H := Option.bind_eq_some_iff.mp H; obtain ⟨t471, A90, H⟩ := H; (try dsimp only at H); have A9 := am A90; clear A90
  by_cases c10 : t471 = true
  ·subst c10
   rw [if_pos rfl] at H
   (try dsimp only at H); have HC11 := am H; clear H
   go_enter Try.func3, Try.ntmps3
   (try dsimp only [List.append])
   go_upto_if 107 with (first | ((with_reducible refine gate_callee (f := 4) rfl ?_); refine goesL_ (some 80) rfl rfl Try.func4 (by kernel_rfl) rfl #[.slice A0 l0.length c0, .slice A1 l1.length c1] rfl (by (try simp only [List.map_toArray, List.map_cons, List.map_nil]); first | done | rfl | (simp only [List.length_drop, List.length_take]; rfl)) ?_; (with_reducible refine (laws_big.calls _ _ l0 _ _ l1 false _ ?side1 ?side2 ?side3 ?side4 A3.out).mono ?_); (case side1 => repeat (first | exact HR0.out | (with_reducible refine Kd.C_alloc ?_ _) | (with_reducible refine Kd.C_drewN ?_ _) | (with_reducible refine Kd.C_drew ?_))); (case side2 => exact HC0.out); (case side3 => repeat (first | exact HR1.out | (with_reducible refine Kd.C_alloc ?_ _) | (with_reducible refine Kd.C_drewN ?_ _) | (with_reducible refine Kd.C_drew ?_))); (case side4 => exact HC1.out); rintro e w' ⟨rfl, ⟨nd, rfl⟩⟩; refine ⟨_, rfl, ?_⟩) | ((with_reducible refine gate_callee (f := 5) rfl ?_); refine goesL_ (some 83) rfl rfl Try.func5 (by kernel_rfl) rfl #[.slice A0 l0.length c0] rfl (by (try simp only [List.map_toArray, List.map_cons, List.map_nil]); first | done | rfl | (simp only [List.length_drop, List.length_take]; rfl)) ?_; (with_reducible refine (spec_DrawFollowOrder.calls k _ _ l0 t457 t460 _ ?side1 ?side2 A5.out).mono ?_); (case side1 => repeat (first | exact HR0.out | (with_reducible refine Kd.C_alloc ?_ _) | (with_reducible refine Kd.C_drewN ?_ _) | (with_reducible refine Kd.C_drew ?_))); (case side2 => exact HC0.out); rintro e w12 ⟨v458, v461, rfl, ho0, ho1, hb⟩; refine ⟨_, rfl, ?_⟩; have n0_ := am (Kd.V_lower (Kd.V_mono (ok' := fun k_ => True) ho0 (fun k_ hk_ => trivial)) (below_size (hbS HB.out))); have n1_ := am (Kd.V_lower (Kd.V_mono (ok' := fun k_ => True) ho1 (fun k_ hk_ => trivial)) (below_size (hbS HB.out))); have n2_ := am (below_step (hbS HB.out) hb); clear HB; have HO459 := n0_; have HO462 := n1_; have HB := n2_; clear n0_ n1_ n2_; (try clear hb); (try clear hb2); (try clear hk); (try clear hi); (try clear ho0); (try clear ho1); obtain ⟨Ao13, co13, eo13⟩ := Kd.V_slice HO459.out; subst eo13; obtain ⟨Ao14, co14, eo14⟩ := Kd.V_slice HO462.out; subst eo14) | ((with_reducible refine gate_callee (f := 6) rfl ?_); refine goesL_ (some 89) rfl rfl Try.func6 (by kernel_rfl) rfl #[.slice Ao13 t457.length co13, .slice Ao14 t460.length co14] rfl (by (try simp only [List.map_toArray, List.map_cons, List.map_nil]); first | done | rfl | (simp only [List.length_drop, List.length_take]; rfl)) ?_; (with_reducible refine (impl_FollowOrder.calls k _ _ t457 _ _ t460 t463 t464 _ ?side1 ?side2 ?side3 ?side4 A6.out).mono ?_); (case side1 => repeat (first | exact (Kd.V_reads' HO459.out).2.2 | (with_reducible refine Kd.C_alloc ?_ _) | (with_reducible refine Kd.C_drewN ?_ _) | (with_reducible refine Kd.C_drew ?_))); (case side2 => exact (Kd.V_reads' HO459.out).2.1); (case side3 => repeat (first | exact (Kd.V_reads' HO462.out).2.2 | (with_reducible refine Kd.C_alloc ?_ _) | (with_reducible refine Kd.C_drewN ?_ _) | (with_reducible refine Kd.C_drew ?_))); (case side4 => exact (Kd.V_reads' HO462.out).2.1); rintro e w15 ⟨v465, rfl, ho0, hb⟩; refine ⟨_, rfl, ?_⟩; have n0_ := am (Kd.V_elder' (by (with_reducible repeat (first | apply Kd.V_alloc | apply Kd.V_drewN | apply Kd.V_drew)); exact HO459.out) (Kd.R_base ho0) hb); have n1_ := am (Kd.V_elder' (by (with_reducible repeat (first | apply Kd.V_alloc | apply Kd.V_drewN | apply Kd.V_drew)); exact HO462.out) (Kd.R_base ho0) hb); have n2_ := am (Kd.R_lower ho0 (below_size (hbS HB.out))); have n3_ := am (below_step (hbS HB.out) hb); clear HO459; clear HO462; clear HB; have HO459 := n0_; have HO462 := n1_; have HO466 := n2_; have HB := n3_; clear n0_ n1_ n2_ n3_; (try clear hb); (try clear hb2); (try clear hk); (try clear hi); (try clear ho0)) | ((with_reducible refine gate_callee (f := 7) rfl ?_); refine goesL_ (some 95) rfl rfl Try.func7 (by kernel_rfl) rfl #[.slice Ao13 t457.length co13, .slice Ao14 t460.length co14] rfl (by (try simp only [List.map_toArray, List.map_cons, List.map_nil]); first | done | rfl | (simp only [List.length_drop, List.length_take]; rfl)) ?_; (with_reducible refine (spec_FollowOrder.calls k _ _ t457 _ _ t460 t467 t468 _ ?side1 ?side2 ?side3 ?side4 A7.out).mono ?_); (case side1 => repeat (first | exact (Kd.V_reads' HO459.out).2.2 | (with_reducible refine Kd.C_alloc ?_ _) | (with_reducible refine Kd.C_drewN ?_ _) | (with_reducible refine Kd.C_drew ?_))); (case side2 => exact (Kd.V_reads' HO459.out).2.1); (case side3 => repeat (first | exact (Kd.V_reads' HO462.out).2.2 | (with_reducible refine Kd.C_alloc ?_ _) | (with_reducible refine Kd.C_drewN ?_ _) | (with_reducible refine Kd.C_drew ?_))); (case side4 => exact (Kd.V_reads' HO462.out).2.1); rintro e w16 ⟨v469, rfl, ho0, hb⟩; refine ⟨_, rfl, ?_⟩; have n0_ := am (Kd.V_elder' (by (with_reducible repeat (first | apply Kd.V_alloc | apply Kd.V_drewN | apply Kd.V_drew)); exact HO459.out) (Kd.R_base ho0) hb); have n1_ := am (Kd.V_elder' (by (with_reducible repeat (first | apply Kd.V_alloc | apply Kd.V_drewN | apply Kd.V_drew)); exact HO462.out) (Kd.R_base ho0) hb); have n2_ := am (Kd.R_elder' (roS HO466.out) (Kd.R_base ho0) hb); have n3_ := am (Kd.R_lower (Kd.R_new' ho0 (Kd.R_lt (roS HO466.out))) (below_size (hbS HB.out))); have n4_ := am (below_step (hbS HB.out) hb); clear HO459; clear HO462; clear HO466; clear HB; have HO459 := n0_; have HO462 := n1_; have HO466 := n2_; have HO470 := n3_; have HB := n4_; clear n0_ n1_ n2_ n3_ n4_; (try clear hb); (try clear hb2); (try clear hk); (try clear hi); (try clear ho0); obtain ⟨Ao17, co17, eo17⟩ := Kd.R_slice HO466.out; subst eo17; obtain ⟨Ao18, co18, eo18⟩ := Kd.R_slice HO470.out; subst eo18) | (go_at_call 8; (with_reducible refine (laws_kSame.calls k _ _ t463 _ _ t467 true _ ?side1 ?side2 ?side3 ?side4 A9.out).mono ?_); (case side1 => repeat (first | exact (Kd.R_reads' HO466.out).2.2 | (with_reducible refine Kd.C_alloc ?_ _) | (with_reducible refine Kd.C_drewN ?_ _) | (with_reducible refine Kd.C_drew ?_))); (case side2 => exact (Kd.R_reads' HO466.out).2.1); (case side3 => repeat (first | exact (Kd.R_reads' HO470.out).2.2 | (with_reducible refine Kd.C_alloc ?_ _) | (with_reducible refine Kd.C_drewN ?_ _) | (with_reducible refine Kd.C_drew ?_))); (case side4 => exact (Kd.R_reads' HO470.out).2.1); rintro e w' ⟨rfl, ⟨nd, rfl⟩⟩))
   (try simp only [Act.put, List.setIfInBounds_toArray, List.set_cons_zero, List.set_cons_succ])
   go_cut [] from 9999 (fun wc => ∃ (kq : Nat), Aside0 (laws_FnBoatsFollow.j0 kq l1 = some r) ∧ Aside0 (kq ≤ k) ∧ Aside0 (Below w.heap.size w wc))
   case first =>
    have H := HC11.out
    clear HC11
    by_cases c19 : t464 = true
    ·subst c19
     rw [if_pos rfl] at H
     (try dsimp only at H); replace H := Option.bind_eq_some_iff.mp H; obtain ⟨⟨t520, t521⟩, A200, H⟩ := H; (try dsimp only at H); have A20 := am A200; clear A200; replace H := Option.bind_eq_some_iff.mp H; obtain ⟨⟨t524, t525⟩, A210, H⟩ := H; (try dsimp only at H); have A21 := am A210; clear A210; replace H := Option.bind_eq_some_iff.mp H; obtain ⟨⟨t528, t529⟩, A220, H⟩ := H; (try dsimp only at H); have A22 := am A220; clear A220; replace H := Option.bind_eq_some_iff.mp H; obtain ⟨⟨t532, t533⟩, A230, H⟩ := H; (try dsimp only at H); have A23 := am A230; clear A230
     by_cases c24 : t521 = true
     rotate_left
     ·replace c24 := Bool.eq_false_iff.mpr c24
      subst c24
      rw [if_neg (show ¬ (false = true) by decide)] at H
      (try dsimp only at H)
      exact absurd H (by simp)
     subst c24
     rw [if_pos rfl] at H
     (try dsimp only at H)
     by_cases c25 : t525 = true
     rotate_left
     ·replace c25 := Bool.eq_false_iff.mpr c25
      subst c25
      rw [if_neg (show ¬ (false = true) by decide)] at H
      (try dsimp only at H)
      exact absurd H (by simp)
     subst c25
     rw [if_pos rfl] at H
     (try dsimp only at H)
     by_cases c26 : t529 = true
     rotate_left
     ·replace c26 := Bool.eq_false_iff.mpr c26
      subst c26
      rw [if_neg (show ¬ (false = true) by decide)] at H
      (try dsimp only at H)
      exact absurd H (by simp)
     subst c26
     rw [if_pos rfl] at H
     (try dsimp only at H)
     by_cases c27 : t533 = true
     rotate_left
     ·replace c27 := Bool.eq_false_iff.mpr c27
      subst c27
      rw [if_neg (show ¬ (false = true) by decide)] at H
      (try dsimp only at H)
      exact absurd H (by simp)
     subst c27
     rw [if_pos rfl] at H
     (try dsimp only at H); replace H := Option.bind_eq_some_iff.mp H; obtain ⟨t536, A280, H⟩ := H; (try dsimp only at H); have A28 := am A280; clear A280
     by_cases c29 : t536 = true
     rotate_left
     ·replace c29 := Bool.eq_false_iff.mpr c29
      subst c29
      rw [if_neg (show ¬ (false = true) by decide)] at H
      (try dsimp only at H)
      exact absurd H (by simp)
     subst c29
     rw [if_pos rfl] at H
     (try dsimp only at H); replace H := Option.bind_eq_some_iff.mp H; obtain ⟨t537, A300, H⟩ := H; (try dsimp only at H); have A30 := am A300; clear A300
     by_cases c31 : t537 = true
     rotate_left
     ·replace c31 := Bool.eq_false_iff.mpr c31
      subst c31
      rw [if_neg (show ¬ (false = true) by decide)] at H
      (try dsimp only at H)
      exact absurd H (by simp)
     subst c31
     rw [if_pos rfl] at H
     (try dsimp only at H)
     have H' := am H
     clear H
     go_wp2_with (first | ((with_reducible refine gate_callee (f := 9) rfl ?_); refine goesL_ (some 110) rfl rfl Try.func9 (by kernel_rfl) rfl #[.slice Ao13 t457.length co13] rfl (by (try simp only [List.map_toArray, List.map_cons, List.map_nil]); first | done | rfl | (simp only [List.length_drop, List.length_take]; rfl)) ?_; (with_reducible refine (impl_BackOrder.calls k _ _ t457 t520 true _ ?side1 ?side2 A20.out).mono ?_); (case side1 => repeat (first | exact (Kd.V_reads' HO459.out).2.2 | (with_reducible refine Kd.C_alloc ?_ _) | (with_reducible refine Kd.C_drewN ?_ _) | (with_reducible refine Kd.C_drew ?_))); (case side2 => exact (Kd.V_reads' HO459.out).2.1); rintro e w32 ⟨v522, rfl, ho0, hb⟩; refine ⟨_, rfl, ?_⟩; have n0_ := am (Kd.V_elder' (by (with_reducible repeat (first | apply Kd.V_alloc | apply Kd.V_drewN | apply Kd.V_drew)); exact HO459.out) (Kd.R_base ho0) hb); have n1_ := am (Kd.V_elder' (by (with_reducible repeat (first | apply Kd.V_alloc | apply Kd.V_drewN | apply Kd.V_drew)); exact HO462.out) (Kd.R_base ho0) hb); have n2_ := am (Kd.R_elder' (roS HO466.out) (Kd.R_base ho0) hb); have n3_ := am (Kd.R_elder' (roS HO470.out) (Kd.R_base ho0) hb); have n4_ := am (Kd.R_lower (Kd.R_new' (Kd.R_new' ho0 (Kd.R_lt (roS HO466.out))) (Kd.R_lt (roS HO470.out))) (below_size (hbS HB.out))); have n5_ := am (below_step (hbS HB.out) hb); clear HO459; clear HO462; clear HO466; clear HO470; clear HB; have HO459 := n0_; have HO462 := n1_; have HO466 := n2_; have HO470 := n3_; have HO523 := n4_; have HB := n5_; clear n0_ n1_ n2_ n3_ n4_ n5_; (try clear hb); (try clear hb2); (try clear hk); (try clear hi); (try clear ho0)) | ((with_reducible refine gate_callee (f := 9) rfl ?_); refine goesL_ (some 115) rfl rfl Try.func9 (by kernel_rfl) rfl #[.slice Ao14 t460.length co14] rfl (by (try simp only [List.map_toArray, List.map_cons, List.map_nil]); first | done | rfl | (simp only [List.length_drop, List.length_take]; rfl)) ?_; (with_reducible refine (impl_BackOrder.calls k _ _ t460 t524 true _ ?side1 ?side2 A21.out).mono ?_); (case side1 => repeat (first | exact (Kd.V_reads' HO462.out).2.2 | (with_reducible refine Kd.C_alloc ?_ _) | (with_reducible refine Kd.C_drewN ?_ _) | (with_reducible refine Kd.C_drew ?_))); (case side2 => exact (Kd.V_reads' HO462.out).2.1); rintro e w33 ⟨v526, rfl, ho0, hb⟩; refine ⟨_, rfl, ?_⟩; have n0_ := am (Kd.V_elder' (by (with_reducible repeat (first | apply Kd.V_alloc | apply Kd.V_drewN | apply Kd.V_drew)); exact HO459.out) (Kd.R_base ho0) hb); have n1_ := am (Kd.V_elder' (by (with_reducible repeat (first | apply Kd.V_alloc | apply Kd.V_drewN | apply Kd.V_drew)); exact HO462.out) (Kd.R_base ho0) hb); have n2_ := am (Kd.R_elder' (roS HO466.out) (Kd.R_base ho0) hb); have n3_ := am (Kd.R_elder' (roS HO470.out) (Kd.R_base ho0) hb); have n4_ := am (Kd.R_elder' (roS HO523.out) (Kd.R_base ho0) hb); have n5_ := am (Kd.R_lower (Kd.R_new' (Kd.R_new' (Kd.R_new' ho0 (Kd.R_lt (roS HO466.out))) (Kd.R_lt (roS HO470.out))) (Kd.R_lt (roS HO523.out))) (below_size (hbS HB.out))); have n6_ := am (below_step (hbS HB.out) hb); clear HO459; clear HO462; clear HO466; clear HO470; clear HO523; clear HB; have HO459 := n0_; have HO462 := n1_; have HO466 := n2_; have HO470 := n3_; have HO523 := n4_; have HO527 := n5_; have HB := n6_; clear n0_ n1_ n2_ n3_ n4_ n5_ n6_; (try clear hb); (try clear hb2); (try clear hk); (try clear hi); (try clear ho0)) | ((with_reducible refine gate_callee (f := 9) rfl ?_); refine goesL_ (some 120) rfl rfl Try.func9 (by kernel_rfl) rfl #[.slice Ao17 t463.length co17] rfl (by (try simp only [List.map_toArray, List.map_cons, List.map_nil]); first | done | rfl | (simp only [List.length_drop, List.length_take]; rfl)) ?_; (with_reducible refine (impl_BackOrder.calls k _ _ t463 t528 true _ ?side1 ?side2 A22.out).mono ?_); (case side1 => repeat (first | exact (Kd.R_reads' HO466.out).2.2 | (with_reducible refine Kd.C_alloc ?_ _) | (with_reducible refine Kd.C_drewN ?_ _) | (with_reducible refine Kd.C_drew ?_))); (case side2 => exact (Kd.R_reads' HO466.out).2.1); rintro e w34 ⟨v530, rfl, ho0, hb⟩; refine ⟨_, rfl, ?_⟩; have n0_ := am (Kd.V_elder' (by (with_reducible repeat (first | apply Kd.V_alloc | apply Kd.V_drewN | apply Kd.V_drew)); exact HO459.out) (Kd.R_base ho0) hb); have n1_ := am (Kd.V_elder' (by (with_reducible repeat (first | apply Kd.V_alloc | apply Kd.V_drewN | apply Kd.V_drew)); exact HO462.out) (Kd.R_base ho0) hb); have n2_ := am (Kd.R_elder' (roS HO466.out) (Kd.R_base ho0) hb); have n3_ := am (Kd.R_elder' (roS HO470.out) (Kd.R_base ho0) hb); have n4_ := am (Kd.R_elder' (roS HO523.out) (Kd.R_base ho0) hb); have n5_ := am (Kd.R_elder' (roS HO527.out) (Kd.R_base ho0) hb); have n6_ := am (Kd.R_lower (Kd.R_new' (Kd.R_new' (Kd.R_new' (Kd.R_new' ho0 (Kd.R_lt (roS HO466.out))) (Kd.R_lt (roS HO470.out))) (Kd.R_lt (roS HO523.out))) (Kd.R_lt (roS HO527.out))) (below_size (hbS HB.out))); have n7_ := am (below_step (hbS HB.out) hb); clear HO459; clear HO462; clear HO466; clear HO470; clear HO523; clear HO527; clear HB; have HO459 := n0_; have HO462 := n1_; have HO466 := n2_; have HO470 := n3_; have HO523 := n4_; have HO527 := n5_; have HO531 := n6_; have HB := n7_; clear n0_ n1_ n2_ n3_ n4_ n5_ n6_ n7_; (try clear hb); (try clear hb2); (try clear hk); (try clear hi); (try clear ho0); obtain ⟨Ao35, co35, eo35⟩ := Kd.R_slice HO527.out; subst eo35; obtain ⟨Ao36, co36, eo36⟩ := Kd.R_slice HO523.out; subst eo36) | ((with_reducible refine gate_callee (f := 6) rfl ?_); refine goesL_ (some 126) rfl rfl Try.func6 (by kernel_rfl) rfl #[.slice Ao35 t524.length co35, .slice Ao36 t520.length co36] rfl (by (try simp only [List.map_toArray, List.map_cons, List.map_nil]); first | done | rfl | (simp only [List.length_drop, List.length_take]; rfl)) ?_; (with_reducible refine (impl_FollowOrder.calls k _ _ t524 _ _ t520 t532 true _ ?side1 ?side2 ?side3 ?side4 A23.out).mono ?_); (case side1 => repeat (first | exact (Kd.R_reads' HO527.out).2.2 | (with_reducible refine Kd.C_alloc ?_ _) | (with_reducible refine Kd.C_drewN ?_ _) | (with_reducible refine Kd.C_drew ?_))); (case side2 => exact (Kd.R_reads' HO527.out).2.1); (case side3 => repeat (first | exact (Kd.R_reads' HO523.out).2.2 | (with_reducible refine Kd.C_alloc ?_ _) | (with_reducible refine Kd.C_drewN ?_ _) | (with_reducible refine Kd.C_drew ?_))); (case side4 => exact (Kd.R_reads' HO523.out).2.1); rintro e w37 ⟨v534, rfl, ho0, hb⟩; refine ⟨_, rfl, ?_⟩; have n0_ := am (Kd.V_elder' (by (with_reducible repeat (first | apply Kd.V_alloc | apply Kd.V_drewN | apply Kd.V_drew)); exact HO459.out) (Kd.R_base ho0) hb); have n1_ := am (Kd.V_elder' (by (with_reducible repeat (first | apply Kd.V_alloc | apply Kd.V_drewN | apply Kd.V_drew)); exact HO462.out) (Kd.R_base ho0) hb); have n2_ := am (Kd.R_elder' (roS HO466.out) (Kd.R_base ho0) hb); have n3_ := am (Kd.R_elder' (roS HO470.out) (Kd.R_base ho0) hb); have n4_ := am (Kd.R_elder' (roS HO523.out) (Kd.R_base ho0) hb); have n5_ := am (Kd.R_elder' (roS HO527.out) (Kd.R_base ho0) hb); have n6_ := am (Kd.R_elder' (roS HO531.out) (Kd.R_base ho0) hb); have n7_ := am (Kd.R_lower (Kd.R_new' (Kd.R_new' (Kd.R_new' (Kd.R_new' (Kd.R_new' ho0 (Kd.R_lt (roS HO466.out))) (Kd.R_lt (roS HO470.out))) (Kd.R_lt (roS HO523.out))) (Kd.R_lt (roS HO527.out))) (Kd.R_lt (roS HO531.out))) (below_size (hbS HB.out))); have n8_ := am (below_step (hbS HB.out) hb); clear HO459; clear HO462; clear HO466; clear HO470; clear HO523; clear HO527; clear HO531; clear HB; have HO459 := n0_; have HO462 := n1_; have HO466 := n2_; have HO470 := n3_; have HO523 := n4_; have HO527 := n5_; have HO531 := n6_; have HO535 := n7_; have HB := n8_; clear n0_ n1_ n2_ n3_ n4_ n5_ n6_ n7_ n8_; (try clear hb); (try clear hb2); (try clear hk); (try clear hi); (try clear ho0); obtain ⟨Ao38, co38, eo38⟩ := Kd.R_slice HO531.out; subst eo38; obtain ⟨Ao39, co39, eo39⟩ := Kd.R_slice HO535.out; subst eo39) | (go_at_call 8; (with_reducible refine (laws_kSame.calls k _ _ t528 _ _ t532 true _ ?side1 ?side2 ?side3 ?side4 A28.out).mono ?_); (case side1 => repeat (first | exact (Kd.R_reads' HO531.out).2.2 | (with_reducible refine Kd.C_alloc ?_ _) | (with_reducible refine Kd.C_drewN ?_ _) | (with_reducible refine Kd.C_drew ?_))); (case side2 => exact (Kd.R_reads' HO531.out).2.1); (case side3 => repeat (first | exact (Kd.R_reads' HO535.out).2.2 | (with_reducible refine Kd.C_alloc ?_ _) | (with_reducible refine Kd.C_drewN ?_ _) | (with_reducible refine Kd.C_drew ?_))); (case side4 => exact (Kd.R_reads' HO535.out).2.1); rintro e w' ⟨rfl, ⟨nd, rfl⟩⟩) | (go_at_call 10; (with_reducible refine (impl_IsOrder.calls _ _ t463 true _ ?side1 ?side2 A30.out).mono ?_); (case side1 => repeat (first | exact (Kd.R_reads' HO466.out).2.2 | (with_reducible refine Kd.C_alloc ?_ _) | (with_reducible refine Kd.C_drewN ?_ _) | (with_reducible refine Kd.C_drew ?_))); (case side2 => exact (Kd.R_reads' HO466.out).2.1); rintro e w40 ⟨rfl, hb⟩; have n0_ := am (Kd.V_below (by (with_reducible repeat (first | apply Kd.V_alloc | apply Kd.V_drewN | apply Kd.V_drew)); exact HO459.out) hb); have n1_ := am (Kd.V_below (by (with_reducible repeat (first | apply Kd.V_alloc | apply Kd.V_drewN | apply Kd.V_drew)); exact HO462.out) hb); have n2_ := am (Kd.R_below (roS HO466.out) hb); have n3_ := am (Kd.R_below (roS HO470.out) hb); have n4_ := am (Kd.R_below (roS HO523.out) hb); have n5_ := am (Kd.R_below (roS HO527.out) hb); have n6_ := am (Kd.R_below (roS HO531.out) hb); have n7_ := am (Kd.R_below (roS HO535.out) hb); have n8_ := am (below_step (hbS HB.out) hb); clear HO459; clear HO462; clear HO466; clear HO470; clear HO523; clear HO527; clear HO531; clear HO535; clear HB; have HO459 := n0_; have HO462 := n1_; have HO466 := n2_; have HO470 := n3_; have HO523 := n4_; have HO527 := n5_; have HO531 := n6_; have HO535 := n7_; have HB := n8_; clear n0_ n1_ n2_ n3_ n4_ n5_ n6_ n7_ n8_; (try clear hb); (try clear hb2); (try clear hk); (try clear hi)))
     go_meet
     case rel => exact ⟨_, H', ⟨by first | omega | exact Nat.le_refl _⟩, ⟨hbS HB.out⟩⟩
    ·replace c19 := Bool.eq_false_iff.mpr c19
     subst c19
     rw [if_neg (show ¬ (false = true) by decide)] at H
     (try dsimp only at H)
     have H' := am H
     clear H
     go_wp2
     go_meet
     case rel => exact ⟨_, H', ⟨by first | omega | exact Nat.le_refl _⟩, ⟨hbS HB.out⟩⟩
   case rest =>
    clear HC11; (try clear c1); (try clear c2); (try clear p2); (try clear c3); (try clear c4); (try clear c5); (try clear c6); (try clear c7); (try clear c8); (try clear c8b0); (try clear c8b1); (try clear c8b2); (try clear c9); (try clear c10); (try clear c19); (try clear c24); (try clear c25); (try clear c26); (try clear c27); (try clear c29); (try clear c31); obtain ⟨kq, HA, HJ10, HB⟩ := hcut
    go_step
    exact laws_FnBoatsFollow.part_j0 kq _ l1 A1 c1 r w wc HR1 HC1 HA HJ10 HB
  ·replace c10 := Bool.eq_false_iff.mpr c10
   subst c10
   rw [if_neg (show ¬ (false = true) by decide)] at H
   (try dsimp only at H)
   exact absurd H (by simp)
/-- THE ONE PURE STATEMENT of laws_FnBoatsFollow: yours. -/
def laws_FnBoatsFollow.Pure : Prop := ∀ (l0 : List Int) (l1 : List Int), l0.length ≤ maxLen → l0.length * 1 ≤ 140737488351232 → (∀ x ∈ l0, (Lit.int .u8 x).wf = true) → l1.length ≤ maxLen → l1.length * 1 ≤ 140737488351232 → (∀ x ∈ l1, (Lit.int .u8 x).wf = true) → ∃ k, laws_FnBoatsFollow.f k l0 l1 = some true
end Go.Proofs.Ytclmmnphmlmnmaa.X
end
section
-- Written by a program of this session (wip/tools/mp.py) over the kit's print of the translation.
namespace Go.Proofs.Ytclmmnphmlmnmaa.X
open Go.RowKit Go.Proofs.YtclmmnphmlmnmaaW.PrintWords Go.Proofs.YtclmmnphmlmnmaaW.PrintLast Go.Proofs.YtclmmnphmlmnmaaW.PrintMore
attribute [local go_sem] max2_int min2_int max_two min_two max_three min_three max_four min_four   -- for this text's walks alone
set_option linter.unusedVariables false
set_option linter.unusedSimpArgs false
/-- The pure statement of FnBoatsFollow. -/
def laws_FnBoatsFollow.PureQ : Prop := ∀ (l0 : List Int) (l1 : List Int), (l0.length ≤ maxLen ∧ ∀ y ∈ l0, (Lit.int .u8 y).wf = true) → l0.length * 1 ≤ 140737488351232 → (l1.length ≤ maxLen ∧ ∀ y ∈ l1, (Lit.int .u8 y).wf = true) → l1.length * 1 ≤ 140737488351232 → ∃ k, laws_FnBoatsFollow.f k l0 l1 = some true
end Go.Proofs.Ytclmmnphmlmnmaa.X
end
section
/- Small words on rounds, numbers and lists. -/
namespace Go.Proofs.Ytclmmnphmlmnmaa.X
open Go.Proofs.Ytclmmnphmlmnmaa.Sq Go.RowKit Go.Proofs.YtclmmnphmlmnmaaW.PrintWords Go.Proofs.YtclmmnphmlmnmaaW.PrintLast Go.Proofs.YtclmmnphmlmnmaaW.PrintMore
attribute [local go_sem] max2_int min2_int max_two min_two max_three min_three max_four min_four   -- for this text's walks alone
set_option linter.unusedVariables false
set_option linter.unusedSimpArgs false
theorem w64 {x : Int} (h : -9223372036854775808 ≤ x) (h' : x ≤ 9223372036854775807) : wrap64 x = x := by
  unfold wrap64
  omega
theorem evPos {α : Type} {c : Prop} [Decidable c] {g f : Nat → Option α} {r : α} (hc : c) (h : Ev g r) : Ev (fun k => if c then g k else f k) r := by
  obtain ⟨K, hK⟩ := h
  exact ⟨K, fun k hk => (if_pos hc).trans (hK k hk)⟩
theorem evNeg {α : Type} {c : Prop} [Decidable c] {g f : Nat → Option α} {r : α} (hc : ¬ c) (h : Ev f r) : Ev (fun k => if c then g k else f k) r := by
  obtain ⟨K, hK⟩ := h
  exact ⟨K, fun k hk => (if_neg hc).trans (hK k hk)⟩
theorem evSplit {α : Type} {c : Prop} [Decidable c] {g f : Nat → Option α} {r : α} (h : c → Ev g r) (h' : ¬ c → Ev f r) : Ev (fun k => if c then g k else f k) r := by
  by_cases hc : c
  · exact evPos hc (h hc)
  · exact evNeg hc (h' hc)
theorem evBind0 {α β : Type} {o : Option α} {f : Nat → α → Option β} {a : α} {r : β} (h : o = some a) (k : Ev (fun n => f n a) r) : Ev (fun n => o.bind (f n)) r := by
  obtain ⟨K, hK⟩ := k
  exact ⟨K, fun k hk => by rw [h]; exact hK k hk⟩
theorem evEq {α : Type} {g : Nat → Option α} {r r' : α} (h : Ev g r) (e : r = r') : Ev g r' := e ▸ h
theorem evSome {α : Type} {r r' : α} (e : r = r') : Ev (fun _ => some r) r' := ⟨0, fun _ _ => by rw [e]⟩
theorem getD_drop_cons {α : Type} (l : List α) (i : Nat) (d : α) (h : i < l.length) : l.drop i = l.getD i d :: l.drop (i + 1) := by
  rw [List.drop_eq_getElem_cons h, List.getD_eq_getElem?_getD, List.getElem?_eq_getElem h]
  rfl
theorem getElem_getD {α : Type} (l : List α) (i : Nat) (d : α) (h : i < l.length) : l[i]'h = l.getD i d := by
  rw [List.getD_eq_getElem?_getD, List.getElem?_eq_getElem h]
  rfl
theorem getD_set_same {α : Type} (l : List α) (i : Nat) (a d : α) (h : i < l.length) : (l.set i a).getD i d = a := by
  rw [List.getD_eq_getElem?_getD, List.getElem?_set_self h]
  rfl
theorem getD_range_map {α : Type} (f : Nat → α) (n i : Nat) (d : α) (h : i < n) : ((List.range n).map f).getD i d = f i := by
  rw [List.getD_eq_getElem?_getD, List.getElem?_map, List.getElem?_range h]
  rfl
end Go.Proofs.Ytclmmnphmlmnmaa.X
end
