import Derived.Test.YtfoflpomfmbjoaaDoorP18
import Derived.Test.YtfoflpomfmbjoaaDoorP19
section
namespace Go.Proofs.YtfoflpomfmbjoaaDoor.X
open Go.Proofs.YtfoflpomfmbjoaaDoor.Sq Go.RowKit Go.Proofs.YtfoflpomfmbjoaaDoorW.PrintWords Go.Proofs.YtfoflpomfmbjoaaDoorW.PrintLast Go.Proofs.YtfoflpomfmbjoaaDoorW.PrintMore
attribute [local go_sem] max2_int min2_int max_two min_two max_three min_three max_four min_four   -- for this text's walks alone
set_option linter.unusedVariables false
set_option linter.unusedSimpArgs false
set_option maxHeartbeats 8000000 in
set_option maxRecDepth 1000000 in
theorem laws_FnRiversCrossed.part_j9 {u0 u2 u3 u4 u9 u10 u12 u13 u14 u15 u16 u17 u18 u19 u20 u21 u22 u23 u24 u25 u26 u28 u29 u30 u32 u33 u34 u36 u37 u38 u39 u40 u41 u42 u43 u44 u45 u46 u47 u48 u49 u50 u51 u52 u53 u54 u55 u56 u57 u58 u59 u60 u61 u62 u63 u64 u65 u66 u67 u68 u69 u70 u71 u72 u73 u74 u75 u76 u77 u78 u79 u80 u81 u82 u83 u84 u85 u86 u87 u88 u89 u90 u91 u92 u93 u94 u95 u96 u97 u98 u99 u100 u101 u102 u103 u104 u105 u106 u107 u108 u109 u110 u111 u112 u113 u114 u115 u116 u117 u118 u119 u120 u121 u122 u123 u124 u125 u126 u127 u128 u129 u130 u131 u132 u133 u134 u135 u136 u137 u138 u139 u140 u141 u142 u143 u144 u145 u146 u147 u148 u149 u150 u151 u152 u153 u154 u155 u156 u157 u158 u159 u160 u161 u162 u163 u164 u165 u166 u167 u168 u169 u170 u171 u172 u173 u174 u175 u176 u177 u178 u179 u180 u181 u182 u183 u184 u185 u186 u187 u188 u189 u190 u191 u192 u193 u194 u195 u196 u197 u198 u199 u200 u201 u202 u203 u204 u205 u206 u207 u208 u209 u210 u211 u212 u213 u214 u215 u216 u217 u218 u219 u220 u221 u222 u223 u224 u225 u226 u227 u228 u229 u230 u231 u232 u233 u234 u235 u236 u237 u238 u239 u240 u241 u242 u243 u244 u245 u246 u247 u248 u249 u250 u251 u252 u253 u254 u255 u256 u257 u258 u259 u260 u261 u262 u263 u264 u265 u266 u267 u268 u269 u270 u271 u272 u273 u274 u275 u276 u277 u278 u279 u280 u281 u282 u283 u284 u285 u286 u287 u288 u289 u290 u291 u292 u293 u294 u295 u296 u297 u298 u299 u300 u301 u302 u303 u304 u305 u306 u307 u308 u309 u310 u311 u312 u313 u314 u315 u316 u317 u318 u319 u320 u321 u322 u323 u324 u325 u326 u327 u328 u329 u330 u331 u332 u333 u334 u335 u336 u337 u338 u339 u340 u341 u342 u343 u344 u345 u346 u347 u348 u349 u350 u351 u352 u353 u354 u355 u356 u357 u358 u359 u360 u361 u362 u363 u364 u365 u366 u367 u368 u369 u370 u371 u372 u373 u374 u375 u376 u377 u378 u379 u380 u381 u382 u383 u384 u385 u386 u387 u388 u389 u390 u391 u392 u393 u394 u395 u396 u397 u398 u399 u400 u401 u402 u403 u404 u405 u406 u407 u408 u409 u410 u411 u412 u413 u414 u415 u416 u417 u418 u419 u420 u421 u422 u423 u424 u425 u426 u427 u428 u429 u430 u431 u432 u433 u434 u435 u436 u437 u438 u439 u440 u441 u442 u443 u444 u445 u446 u447 u448 u449 u450 u451 u452 u453 u454 u455 u456 u457 u458 u459 u460 u461 u462 u463 u464 u465 u466 u467 u468 u469 u470 u471 u472 u473 u474 u475 u476 u477 u478 u479 u480 u481 u482 u483 u484 u485 u486 u487 u488 u489 u490 u491 u492 u493 u494 u495 u496 u497 u498 u499 u500 u501 u502 u503 u504 u505 u506 u507 u508 u509 u510 u511 u512 u513 u514 u515 u516 u517 u518 u519 u520 u521 u522 u523 u524 u525 u526 u527 u528 u529 u530 u531 u532 u533 u534 u535 u536 u537 u538 u539 u540 u541 u542 u543 u544 u545 u546 u547 u548 u549 u550 u551 u552 u553 u554 u555 u556 u557 u558 u559 u560 u561 u562 u563 u564 u565 u566 u567 u568 u569 u570 u571 u572 u573 u574 u575 u576 u577 u578 u579 u580 u581 u582 u583 u584 u585 u586 u587 u588 u589 u590 u591 u592 u593 u594 u595 u596 u597 u598 u599 u600 u601 u602 u603 u604 u605 u606 u607 u608 u609 u610 u611 u612 u613 u614 u615 u616 u617 u618 u619 u620 u621 u622 u623 u624 u625 u626 u627 u628 u629 u630 u631 u632 u633 u634 u635 u636 u637 u638 u639 u640 u641 u642 u643 u644 u645 u646 u647 u648 u649 u650 u651 u652 u653 u654 : Value} (kq kj19 : Nat)  (l1 : List Int) (t420 : ByteArray) (t421 : Int) (t422 : List Int) (v424 : Value) (t423 : Bool) (t430 : Int) (t446 : List Int) (v448 : Value) (t454 : List Int) (v455 : Value) (A1 : Option Addr) (c1 : Nat) (r : Bool) (w wc : World) (HR1 : Aside0 (Kd.C (Kd.int .u8) w A1 l1.length l1)) (HC1 : Aside0 (l1.length ≤ c1)) (HA : Aside0 (laws_FnRiversCrossed.j9 kq l1 t420 t421 t422 t423 t430 t446 t454 (wrap64 ((t420.size : Int) + 1)) = some r)) (HJ93 : Aside0 (kq ≤ kj19)) (HO_7 : Aside0 (Kd.R (Kd.int .i64) 3 wc w.heap.size (fun k_ => some k_ ≠ (v448 : Value).ownBlock) v424 t422)) (HO_27 : Aside0 (Kd.R (Kd.int .i64) 3 wc w.heap.size (fun k_ => some k_ ≠ (v424 : Value).ownBlock) v448 t446)) (HO_31 : Aside0 (Kd.V (Kd.int .i64) 3 wc w.heap.size (fun k_ => some k_ ≠ (v424 : Value).ownBlock ∧ some k_ ≠ (v448 : Value).ownBlock) v455 t454)) (HB : Aside0 (Below w.heap.size w wc)) :
  Code.wp Tryd.prog (dropTo 48 (Tryd.f4.body.getD .skip)) (bodyPost Tryd.prog Tryd.f4 fun e w' => e = .returned (.bool r) ∧ Below w.heap.size w w') ⟨#[u0, .slice A1 l1.length c1, u2, u3, u4, Value.string t420, Value.int .i64 t421, v424, Value.bool t423, u9, u10, Value.int .i64 t430, u12, u13, u14, u15, u16, u17, u18, u19, u20, u21, u22, u23, u24, u25, u26, v448, u28, u29, u30, v455, u32, u33, u34, Value.int .i64 (wrap64 ((t420.size : Int) + 1)), u36, u37, u38, u39, u40, u41, u42, u43, u44, u45, u46, u47, u48, u49, u50, u51, u52, u53, u54, u55, u56, u57, u58, u59, u60, u61, u62, u63, u64, u65, u66, u67, u68, u69, u70, u71, u72, u73, u74, u75, u76, u77, u78, u79, u80, u81, u82, u83, u84, u85, u86, u87, u88, u89, u90, u91, u92, u93, u94, u95, u96, u97, u98, u99, u100, u101, u102, u103, u104, u105, u106, u107, u108, u109, u110, u111, u112, u113, u114, u115, u116, u117, u118, u119, u120, u121, u122, u123, u124, u125, u126, u127, u128, u129, u130, u131, u132, u133, u134, u135, u136, u137, u138, u139, u140, u141, u142, u143, u144, u145, u146, u147, u148, u149, u150, u151, u152, u153, u154, u155, u156, u157, u158, u159, u160, u161, u162, u163, u164, u165, u166, u167, u168, u169, u170, u171, u172, u173, u174, u175, u176, u177, u178, u179, u180, u181, u182, u183, u184, u185, u186, u187, u188, u189, u190, u191, u192, u193, u194, u195, u196, u197, u198, u199, u200, u201, u202, u203, u204, u205, u206, u207, u208, u209, u210, u211, u212, u213, u214, u215, u216, u217, u218, u219, u220, u221, u222, u223, u224, u225, u226, u227, u228, u229, u230, u231, u232, u233, u234, u235, u236, u237, u238, u239, u240, u241, u242, u243, u244, u245, u246, u247, u248, u249, u250, u251, u252, u253, u254, u255, u256, u257, u258, u259, u260, u261, u262, u263, u264, u265, u266, u267, u268, u269, u270, u271, u272, u273, u274, u275, u276, u277, u278, u279, u280, u281, u282, u283, u284, u285, u286, u287, u288, u289, u290, u291, u292, u293, u294, u295, u296, u297, u298, u299, u300, u301, u302, u303, u304, u305, u306, u307, u308, u309, u310, u311, u312, u313, u314, u315, u316, u317, u318, u319, u320, u321, u322, u323, u324, u325, u326, u327, u328, u329, u330, u331, u332, u333, u334, u335, u336, u337, u338, u339, u340, u341, u342, u343, u344, u345, u346, u347, u348, u349, u350, u351, u352, u353, u354, u355, u356, u357, u358, u359, u360, u361, u362, u363, u364, u365, u366, u367, u368, u369, u370, u371, u372, u373, u374, u375, u376, u377, u378, u379, u380, u381, u382, u383, u384, u385, u386, u387, u388, u389, u390, u391, u392, u393, u394, u395, u396, u397, u398, u399, u400, u401, u402, u403, u404, u405, u406, u407, u408, u409, u410, u411, u412, u413, u414, u415, u416, u417, u418, u419, u420, u421, u422, u423, u424, u425, u426, u427, u428, u429, u430, u431, u432, u433, u434, u435, u436, u437, u438, u439, u440, u441, u442, u443, u444, u445, u446, u447, u448, u449, u450, u451, u452, u453, u454, u455, u456, u457, u458, u459, u460, u461, u462, u463, u464, u465, u466, u467, u468, u469, u470, u471, u472, u473, u474, u475, u476, u477, u478, u479, u480, u481, u482, u483, u484, u485, u486, u487, u488, u489, u490, u491, u492, u493, u494, u495, u496, u497, u498, u499, u500, u501, u502, u503, u504, u505, u506, u507, u508, u509, u510, u511, u512, u513, u514, u515, u516, u517, u518, u519, u520, u521, u522, u523, u524, u525, u526, u527, u528, u529, u530, u531, u532, u533, u534, u535, u536, u537, u538, u539, u540, u541, u542, u543, u544, u545, u546, u547, u548, u549, u550, u551, u552, u553, u554, u555, u556, u557, u558, u559, u560, u561, u562, u563, u564, u565, u566, u567, u568, u569, u570, u571, u572, u573, u574, u575, u576, u577, u578, u579, u580, u581, u582, u583, u584, u585, u586, u587, u588, u589, u590, u591, u592, u593, u594, u595, u596, u597, u598, u599, u600, u601, u602, u603, u604, u605, u606, u607, u608, u609, u610, u611, u612, u613, u614, u615, u616, u617, u618, u619, u620, u621, u622, u623, u624, u625, u626, u627, u628, u629, u630, u631, u632, u633, u634, u635, u636, u637, u638, u639, u640, u641, u642, u643, u644, u645, u646, u647, u648, u649, u650, u651, u652, u653, u654], []⟩ wc := by
 (conv => arg 2; whnf); (try dsimp only [List.append])
 cases kq with
 | zero => exact absurd HA.out (by simp [laws_FnRiversCrossed.j9])
 | succ kj93 =>
  have H := HA.out; clear HA; simp only [laws_FnRiversCrossed.j9] at H; have HC178 := am H; clear H; go_upto_if 472 with (fail); go_cut [] from 9999 (fun wc => ∃ (kq : Nat), Aside0 (laws_FnRiversCrossed.j11 kq l1 = some r) ∧ Aside0 (kq ≤ kj93) ∧ Aside0 (Below w.heap.size w wc))
  case first =>
   have H := HC178.out; clear HC178; by_cases c179 : t423 = true
   ·subst c179; rw [if_pos rfl] at H; (try dsimp only at H); obtain ⟨c180, H⟩ := itP H; have c180b0 : decide (0 < (t446.length : Int)) = true := decide_eq_true c180; have c180b1 : decide (0 < t446.length) = true := decide_eq_true (by omega); clear c180; (first | rw [c180b0] | (simp only [i64_w, i32_w]; rw [c180b0]) | rw [c180b1] | skip); obtain ⟨c181, H⟩ := itP H; have c181b0 : (t430 == (rd t446 0)) = true := beq_iff_eq.mpr c181; have c181b1 : (t430 != (rd t446 0)) = false := bne_eq_false_iff_eq.mpr c181; clear c181; obtain ⟨c182, H⟩ := itP H; have c182b0 : ((t422.length : Int) == (wrap64 (t430 + 1))) = true := beq_iff_eq.mpr c182; have c182b1 : ((t422.length : Int) != (wrap64 (t430 + 1))) = false := bne_eq_false_iff_eq.mpr c182; clear c182; obtain ⟨c183, H⟩ := itP H; have c183b0 : decide (0 < (t422.length : Int)) = true := decide_eq_true c183; have c183b1 : decide (0 < t422.length) = true := decide_eq_true (by omega); clear c183; obtain ⟨c184, H⟩ := itP H; have c184b0 : ((rd t422 0) == 0) = true := beq_iff_eq.mpr c184; have c184b1 : ((rd t422 0) != 0) = false := bne_eq_false_iff_eq.mpr c184; clear c184; obtain ⟨c185, H⟩ := itP H; have c185b0 : decide (0 ≤ t430) = true := decide_eq_true c185; clear c185; obtain ⟨c186, H⟩ := itP H; have c186b0 : decide (t430 < (t422.length : Int)) = true := decide_eq_true c186; clear c186; obtain ⟨c187, H⟩ := itP H; have c187b0 : ((rd t422 t430) == (wrap64 ((t420.size : Int) + 1))) = true := beq_iff_eq.mpr c187; have c187b1 : ((rd t422 t430) != (wrap64 ((t420.size : Int) + 1))) = false := bne_eq_false_iff_eq.mpr c187; clear c187; have H' := am H; clear H; obtain ⟨Ao188, co188, eo188⟩ := Kd.R_slice HO_27.out; subst eo188; have p593 : 0 ≤ (0 : Int) := (by omega); have q593 : 0 < (t446.length : Int) := of_decide_eq_true (by first | (with_reducible assumption) | assumption); obtain ⟨ad593, e593, hx593_0⟩ := Kd.at_int (Kd.R_reads' HO_27.out).2.2 0 p593 q593; cases e593; have qi593 : (0 < t446.length) = True := eq_true (by omega); (try rw [show ((0 : Int)).toNat = 0 from rfl] at hx593_0); (try rw [Addr.add_zero'] at hx593_0); replace p593 := eq_true p593; replace q593 := eq_true q593; obtain ⟨Ao189, co189, eo189⟩ := Kd.R_slice HO_7.out; subst eo189; have p594 : 0 ≤ (0 : Int) := (by omega); have q594 : 0 < (t422.length : Int) := of_decide_eq_true (by first | (with_reducible assumption) | assumption); obtain ⟨ad594, e594, hx594_0⟩ := Kd.at_int (Kd.R_reads' HO_7.out).2.2 0 p594 q594; cases e594; have qi594 : (0 < t422.length) = True := eq_true (by omega); (try rw [show ((0 : Int)).toNat = 0 from rfl] at hx594_0); (try rw [Addr.add_zero'] at hx594_0); replace p594 := eq_true p594; replace q594 := eq_true q594; have p595 : 0 ≤ (t430 : Int) := of_decide_eq_true (by first | (with_reducible assumption) | assumption); have q595 : t430 < (t422.length : Int) := of_decide_eq_true (by first | (with_reducible assumption) | assumption); obtain ⟨ad595, e595, hx595_0⟩ := Kd.at_int (Kd.R_reads' HO_7.out).2.2 t430 p595 q595; obtain rfl : ad594 = ad595 := (by injection e595); replace p595 := eq_true p595; replace q595 := eq_true q595; go_wp2; go_loopg [46, 47] kj93 (fun kq v46 v47 w' => ∃ (x46_3 : List Int) (x47_3 : Int), v47 = .int .i64 x47_3 ∧ Aside0 (laws_FnRiversCrossed.l3 kq l1 t420 t421 t422 t430 t454 (wrap64 ((t420.size : Int) + 1)) x46_3 x47_3 = some r) ∧ Aside0 (kq ≤ kj93) ∧ Aside0 (Kd.R (Kd.int .i64) 3 w' w.heap.size (fun k_ => some k_ ≠ (v46 : Value).ownBlock) (.slice (some ad594) t422.length co189) t422) ∧ Aside0 (Kd.V (Kd.int .i64) 3 w' w.heap.size (fun k_ => some k_ ≠ ((.slice (some ad594) t422.length co189) : Value).ownBlock ∧ some k_ ≠ (v46 : Value).ownBlock) v455 t454) ∧ Aside0 (Kd.R (Kd.int .i64) 3 w' w.heap.size (fun k_ => some k_ ≠ ((.slice (some ad594) t422.length co189) : Value).ownBlock) v46 x46_3) ∧ Aside0 (Below w.heap.size w w'))
    case atStart => exact ⟨(([] : List Int)), (1), (by first | rfl | (simp; done) | (simp [*]; done)), H', ⟨Nat.le_refl _⟩, ⟨by (with_reducible repeat (first | apply Kd.R_alloc | apply Kd.R_drewN | apply Kd.R_drew)); exact Kd.R_mono HO_7.out (fun _ hk => (by simp [Value.ownBlock]))⟩, ⟨by (with_reducible repeat (first | apply Kd.V_alloc | apply Kd.V_drewN | apply Kd.V_drew)); exact Kd.V_mono HO_31.out (fun _ hk => ⟨hk.1, (by simp [Value.ownBlock])⟩)⟩, ⟨by first | exact Kd.R_nil _ _ _ _ _ | exact Kd.N_nil _ _ _ _ _ | exact Kd.V_nil _ _ _ _ _ | exact Kd.Q_nil _ _ _ _ _ | exact Kd.S_nil _ _ _ _ _⟩, ⟨hbS HB.out⟩⟩
    case round =>
     clear H'; (try clear c1); (try clear c179); (try clear c180); (try clear c180b0); (try clear c180b1); (try clear c181); (try clear c181b0); (try clear c181b1); (try clear c182); (try clear c182b0); (try clear c182b1); (try clear c183); (try clear c183b0); (try clear c183b1); (try clear c184); (try clear c184b0); (try clear c184b1); (try clear c185); (try clear c185b0); (try clear c186); (try clear c186b0); (try clear c187); (try clear c187b0); (try clear c187b1); (try clear hx593_0); (try clear hx594_0); (try clear hx595_0); (try clear p593); (try clear p594); (try clear p595); (try clear q593); (try clear q594); (try clear q595); obtain ⟨x46_3, x47_3, rfl, HA, HK3, HO_7, HO_31, HO_46, HB⟩ := hrel
     cases gk with
     | zero => exact absurd HA.out (by simp [laws_FnRiversCrossed.l3])
     | succ k3 =>
      have H := HA.out; clear HA; simp only [laws_FnRiversCrossed.l3] at H; by_cases c190 : x47_3 < (t422.length : Int)
      ·rw [if_pos c190] at H; have c190b0 : decide (x47_3 < (t422.length : Int)) = true := decide_eq_true c190; clear c190; obtain ⟨c191, H⟩ := itP H; have c191b0 : decide (0 ≤ x47_3) = true := decide_eq_true c191; clear c191; obtain ⟨ji192, hji192⟩ : ∃ j_ : Int, (wrap64 (x47_3 - 1)) = j_ := ⟨_, rfl⟩; (replace H : (if 0 ≤ (ji192) then (if (ji192) < (t422.length : Int) then (if (rd t422 x47_3) ≤ (rd t422 (ji192)) then (none) else (if (wrap64 ((rd t422 x47_3) - (rd t422 (ji192)))) > t421 then (none) else (if x47_3 < t430 then ((laws_dHas.f k3 t454 (rd t422 x47_3)).bind fun t607 => (if t607 = true then (if x46_3.length < 17592186044416 then (laws_FnRiversCrossed.l3 k3 l1 t420 t421 t422 t430 t454 (wrap64 ((t420.size : Int) + 1)) (x46_3 ++ [wrap64 ((rd t422 x47_3) - (rd t422 (ji192)))]) (wrap64 (x47_3 + 1))) else (none)) else (none))) else (if x46_3.length < 17592186044416 then (laws_FnRiversCrossed.l3 k3 l1 t420 t421 t422 t430 t454 (wrap64 ((t420.size : Int) + 1)) (x46_3 ++ [wrap64 ((rd t422 x47_3) - (rd t422 (ji192)))]) (wrap64 (x47_3 + 1))) else (none))))) else (none)) else (none)) = some r := by first | (rw [hji192] at H; exact H) | (simp only [hji192] at H ⊢; exact H)); have hji192w : (IntKind.i64.wrap (x47_3 - 1)) = ji192 := (i64_w _).trans hji192; obtain ⟨c193, H⟩ := itP H; have c193b0 : decide (0 ≤ (ji192)) = true := decide_eq_true c193; clear c193; obtain ⟨c194, H⟩ := itP H; have c194b0 : decide ((ji192) < (t422.length : Int)) = true := decide_eq_true c194; clear c194; by_cases c195 : (rd t422 x47_3) ≤ (rd t422 (ji192))
       ·rw [if_pos c195] at H; have c195b0 : decide ((rd t422 x47_3) ≤ (rd t422 (ji192))) = true := decide_eq_true c195; clear c195; exact absurd H (by simp)
       rw [if_neg c195] at H; have c195b0 : decide ((rd t422 x47_3) ≤ (rd t422 (ji192))) = false := decide_eq_false c195; clear c195; by_cases c196 : (wrap64 ((rd t422 x47_3) - (rd t422 (ji192)))) > t421
       ·rw [if_pos c196] at H; have c196b0 : decide (t421 < (wrap64 ((rd t422 x47_3) - (rd t422 (ji192))))) = true := decide_eq_true c196; clear c196; exact absurd H (by simp)
       rw [if_neg c196] at H; have c196b0 : decide (t421 < (wrap64 ((rd t422 x47_3) - (rd t422 (ji192))))) = false := decide_eq_false c196; clear c196; by_cases c197 : x47_3 < t430
       ·rw [if_pos c197] at H; have c197b0 : decide (x47_3 < t430) = true := decide_eq_true c197; clear c197; replace H := Option.bind_eq_some_iff.mp H; obtain ⟨t607, A1980, H⟩ := H; (try dsimp only at H); have A198 := am A1980; clear A1980; by_cases c199 : t607 = true; rotate_left
        ·replace c199 := Bool.eq_false_iff.mpr c199; subst c199; rw [if_neg (show ¬ (false = true) by decide)] at H; (try dsimp only at H); exact absurd H (by simp)
        subst c199; rw [if_pos rfl] at H; (try dsimp only at H); obtain ⟨c200, H⟩ := itP H; have LMc200 := am c200; clear c200; obtain ⟨y610, hy610⟩ : ∃ y_ : List Int, y_ = (x46_3 ++ [wrap64 ((rd t422 x47_3) - (rd t422 (ji192)))]) := ⟨_, rfl⟩; (replace H : (laws_FnRiversCrossed.l3 k3 l1 t420 t421 t422 t430 t454 (wrap64 ((t420.size : Int) + 1)) y610 (wrap64 (x47_3 + 1))) = some r := by first | (rw [hy610]; with_reducible exact H) | (have H2_ := (Option.bind_some _ _).symm.trans H; rw [hy610]; with_reducible exact H2_) | (have H2_ := (Option.bind_some _ _).symm.trans H; with_reducible exact H2_) | with_reducible exact H | (rw [hy610]; exact H) | exact H); have Ny610 := am hy610; clear hy610; have H' := am H; clear H; (try go_wp2); replace HO_7 := am (Kd.R_drew HO_7.out); replace HO_31 := am (Kd.V_drew HO_31.out); replace HO_46 := am (Kd.R_drew HO_46.out); replace HB := am (below_drew1 HB.out); have p602 : 0 ≤ (x47_3 : Int) := of_decide_eq_true (by first | (with_reducible assumption) | assumption); have q602 : x47_3 < (t422.length : Int) := of_decide_eq_true (by first | (with_reducible assumption) | assumption); obtain ⟨ad602, e602, hx602_0⟩ := Kd.at_int (Kd.R_reads' HO_7.out).2.2 x47_3 p602 q602; obtain rfl : ad594 = ad602 := (by injection e602); replace p602 := eq_true p602; replace q602 := eq_true q602; have p603 : 0 ≤ ((ji192) : Int) := of_decide_eq_true (by first | (with_reducible assumption) | assumption); have q603 : (ji192) < (t422.length : Int) := of_decide_eq_true (by first | (with_reducible assumption) | assumption); obtain ⟨ad603, e603, hx603_0⟩ := Kd.at_int (Kd.R_reads' HO_7.out).2.2 (ji192) p603 q603; obtain rfl : ad594 = ad603 := (by injection e603); replace p603 := eq_true p603; replace q603 := eq_true q603; have p604 : 0 ≤ (x47_3 : Int) := of_decide_eq_true (by first | (with_reducible assumption) | assumption); have q604 : x47_3 < (t422.length : Int) := of_decide_eq_true (by first | (with_reducible assumption) | assumption); obtain ⟨ad604, e604, hx604_0⟩ := Kd.at_int (Kd.R_reads' HO_7.out).2.2 x47_3 p604 q604; obtain rfl : ad594 = ad604 := (by injection e604); replace p604 := eq_true p604; replace q604 := eq_true q604; have p605 : 0 ≤ ((ji192) : Int) := of_decide_eq_true (by first | (with_reducible assumption) | assumption); have q605 : (ji192) < (t422.length : Int) := of_decide_eq_true (by first | (with_reducible assumption) | assumption); obtain ⟨ad605, e605, hx605_0⟩ := Kd.at_int (Kd.R_reads' HO_7.out).2.2 (ji192) p605 q605; obtain rfl : ad594 = ad605 := (by injection e605); replace p605 := eq_true p605; replace q605 := eq_true q605; have p606 : 0 ≤ (x47_3 : Int) := of_decide_eq_true (by first | (with_reducible assumption) | assumption); have q606 : x47_3 < (t422.length : Int) := of_decide_eq_true (by first | (with_reducible assumption) | assumption); obtain ⟨ad606, e606, hx606_0⟩ := Kd.at_int (Kd.R_reads' HO_7.out).2.2 x47_3 p606 q606; obtain rfl : ad594 = ad606 := (by injection e606); replace p606 := eq_true p606; replace q606 := eq_true q606; obtain ⟨Ao202, co202, eo202⟩ := Kd.V_slice HO_31.out; (first | subst eo202 | (injection eo202 with f1_ f2_ f3_; have f4_ := f1_.symm; have f5_ := f3_.symm; clear f1_ f2_ f3_; subst f4_; subst f5_)); refine start_ (n := 38) (S := fun w' => w'.cell? (ad594.add (x47_3).toNat) = some (.int .i64 (rd t422 x47_3)) ∧ w'.cell? (ad594.add ((ji192)).toNat) = some (.int .i64 (rd t422 (ji192))) ∧ w'.cell? (ad594.add (x47_3).toNat) = some (.int .i64 (rd t422 x47_3)) ∧ w'.cell? (ad594.add ((ji192)).toNat) = some (.int .i64 (rd t422 (ji192))) ∧ w'.cell? (ad594.add (x47_3).toNat) = some (.int .i64 (rd t422 x47_3))) (ds := []) (dn_ 38 0) (by kernel_rfl) rfl rfl ⟨hx602_0, hx603_0, hx604_0, hx605_0, hx606_0⟩ (fun hHeld => ?_); refine with_tabW laws_FnRiversCrossed.tab55 laws_FnRiversCrossed.bits55 (fun HT_ HW_ => ?_); generalize wr.drew = w201 at HO_7 HO_31 HO_46 HB hx602_0 hx603_0 hx604_0 hx605_0 hx606_0 hHeld ⊢; refine pure_ (i := 0) (N := some 505) (v := ?_) (a' := ?_) (dn_ 38 1) rfl rfl (any_of HT_.out (by kernel_rfl)) (fun _ _ _ h => h) (Or.inl ⟨by rfl, ?_⟩) ?_ ?_; rotate_left
        ·intro w'; go_simp; with_reducible rfl
        rotate_left
        ·simp only [Act.put, List.setIfInBounds_toArray, List.set_cons_zero, List.set_cons_succ, i64_w, i32_w]; rfl
        refine pure_ (i := 1) (N := some 506) (v := ?_) (a' := ?_) (dn_ 38 3) rfl rfl (any_of HT_.out (by kernel_rfl)) (fun _ _ _ h => h) (Or.inl ⟨by rfl, ?_⟩) ?_ ?_; rotate_left
        ·intro w'; go_simp; with_reducible rfl
        rotate_left
        ·simp only [Act.put, List.setIfInBounds_toArray, List.set_cons_zero, List.set_cons_succ, i64_w, i32_w]; rfl
        refine pure_ (i := 2) (N := some 507) (v := ?_) (a' := ?_) (dn_ 38 7) rfl rfl (any_of HT_.out (by kernel_rfl)) (fun _ _ _ h => h) (Or.inl ⟨by rfl, ?_⟩) ?_ ?_; rotate_left
        ·intro w'; go_simp; with_reducible rfl
        rotate_left
        ·simp only [Act.put, List.setIfInBounds_toArray, List.set_cons_zero, List.set_cons_succ, i64_w, i32_w]; rfl
        refine pure_ (i := 4) (N := some 509) (v := ?_) (a' := ?_) (dn_ 38 23) rfl rfl (any_of HT_.out (by kernel_rfl)) (fun _ _ _ h => h) (Or.inl ⟨by rfl, ?_⟩) ?_ ?_; rotate_left
        ·intro w'; go_simp; with_reducible rfl
        rotate_left
        ·simp only [Act.put, List.setIfInBounds_toArray, List.set_cons_zero, List.set_cons_succ, i64_w, i32_w]; rfl
        refine pure_ (i := 5) (N := some 510) (v := ?_) (a' := ?_) (dn_ 38 55) rfl rfl (any_of HT_.out (by kernel_rfl)) (fun _ _ _ h => h) (Or.inl ⟨by rfl, ?_⟩) ?_ ?_; rotate_left
        ·intro w'; go_simp; with_reducible rfl
        rotate_left
        ·simp only [Act.put, List.setIfInBounds_toArray, List.set_cons_zero, List.set_cons_succ, i64_w, i32_w]; rfl
        refine pure_ (i := 6) (N := some 511) (v := ?_) (a' := ?_) (dn_ 38 119) rfl rfl (any_of HT_.out (by kernel_rfl)) (fun _ _ _ h => h) (Or.inl ⟨by rfl, ?_⟩) ?_ ?_; rotate_left
        ·intro w'; go_simp; with_reducible rfl
        rotate_left
        ·simp only [Act.put, List.setIfInBounds_toArray, List.set_cons_zero, List.set_cons_succ, i64_w, i32_w]; rfl
        refine pure_ (i := 7) (N := some 512) (v := ?_) (a' := ?_) (dn_ 38 247) rfl rfl (any_of HT_.out (by kernel_rfl)) (fun _ _ _ h => h) (Or.inl ⟨by rfl, ?_⟩) ?_ ?_; rotate_left
        ·intro w'; go_simp; with_reducible rfl
        rotate_left
        ·simp only [Act.put, List.setIfInBounds_toArray, List.set_cons_zero, List.set_cons_succ, i64_w, i32_w]; rfl
        refine take_ (i := 3) (N := some 508) (v := ?_) (a' := ?_) (dn_ 38 255) rfl rfl (take_ofW HT_.out HW_.out (by kernel_rfl)) (fun _ _ _ h => h) (Or.inl ⟨by rfl, ?_⟩) hHeld ?_ ?_; rotate_left
        ·rintro w' ⟨s0, s1, s2, s3, s4⟩; go_simp; with_reducible rfl
        rotate_left
        ·simp only [Act.put, List.setIfInBounds_toArray, List.set_cons_zero, List.set_cons_succ, i64_w, i32_w]; rfl
        refine take_ (i := 8) (N := some 513) (v := ?_) (a' := ?_) (dn_ 38 511) rfl rfl (take_ofW HT_.out HW_.out (by kernel_rfl)) (fun _ _ _ h => h) (Or.inl ⟨by rfl, ?_⟩) hHeld ?_ ?_; rotate_left
        ·rintro w' ⟨s0, s1, s2, s3, s4⟩; go_simp; with_reducible rfl
        rotate_left
        ·simp only [Act.put, List.setIfInBounds_toArray, List.set_cons_zero, List.set_cons_succ, i64_w, i32_w]; rfl
        refine pure_ (i := 9) (N := some 514) (v := ?_) (a' := ?_) (dn_ 38 1023) rfl rfl (any_of HT_.out (by kernel_rfl)) (fun _ _ _ h => h) (Or.inl ⟨by rfl, ?_⟩) ?_ ?_; rotate_left
        ·intro w'; go_simp; with_reducible rfl
        rotate_left
        ·simp only [Act.put, List.setIfInBounds_toArray, List.set_cons_zero, List.set_cons_succ, i64_w, i32_w]; rfl
        refine pure_ (i := 10) (N := some 515) (v := ?_) (a' := ?_) (dn_ 38 2047) rfl rfl (any_of HT_.out (by kernel_rfl)) (fun _ _ _ h => h) (Or.inl ⟨by rfl, ?_⟩) ?_ ?_; rotate_left
        ·intro w'; go_simp; with_reducible rfl
        rotate_left
        ·simp only [Act.put, List.setIfInBounds_toArray, List.set_cons_zero, List.set_cons_succ, i64_w, i32_w]; rfl
        refine pure_ (i := 11) (N := some 516) (v := ?_) (a' := ?_) (dn_ 38 4095) rfl rfl (any_of HT_.out (by kernel_rfl)) (fun _ _ _ h => h) (Or.inl ⟨by rfl, ?_⟩) ?_ ?_; rotate_left
        ·intro w'; go_simp; with_reducible rfl
        rotate_left
        ·simp only [Act.put, List.setIfInBounds_toArray, List.set_cons_zero, List.set_cons_succ, i64_w, i32_w]; rfl
        refine pure_ (i := 12) (N := some 517) (v := ?_) (a' := ?_) (dn_ 38 8191) rfl rfl (any_of HT_.out (by kernel_rfl)) (fun _ _ _ h => h) (Or.inl ⟨by rfl, ?_⟩) ?_ ?_; rotate_left
        ·intro w'; go_simp; with_reducible rfl
        rotate_left
        ·simp only [Act.put, List.setIfInBounds_toArray, List.set_cons_zero, List.set_cons_succ, i64_w, i32_w]; rfl
        refine pure_ (i := 13) (N := some 518) (v := ?_) (a' := ?_) (dn_ 38 16383) rfl rfl (any_of HT_.out (by kernel_rfl)) (fun _ _ _ h => h) (Or.inl ⟨by rfl, ?_⟩) ?_ ?_; rotate_left
        ·intro w'; go_simp; with_reducible rfl
        rotate_left
        ·simp only [Act.put, List.setIfInBounds_toArray, List.set_cons_zero, List.set_cons_succ, i64_w, i32_w]; rfl
        refine pure_ (i := 15) (N := some 520) (v := ?_) (a' := ?_) (dn_ 38 49151) rfl rfl (any_of HT_.out (by kernel_rfl)) (fun _ _ _ h => h) (Or.inl ⟨by rfl, ?_⟩) ?_ ?_; rotate_left
        ·intro w'; go_simp; with_reducible rfl
        rotate_left
        ·simp only [Act.put, List.setIfInBounds_toArray, List.set_cons_zero, List.set_cons_succ, i64_w, i32_w]; rfl
        refine pure_ (i := 16) (N := some 521) (v := ?_) (a' := ?_) (dn_ 38 114687) rfl rfl (any_of HT_.out (by kernel_rfl)) (fun _ _ _ h => h) (Or.inl ⟨by rfl, ?_⟩) ?_ ?_; rotate_left
        ·intro w'; go_simp; with_reducible rfl
        rotate_left
        ·simp only [Act.put, List.setIfInBounds_toArray, List.set_cons_zero, List.set_cons_succ, i64_w, i32_w]; rfl
        refine pure_ (i := 17) (N := some 522) (v := ?_) (a' := ?_) (dn_ 38 245759) rfl rfl (any_of HT_.out (by kernel_rfl)) (fun _ _ _ h => h) (Or.inl ⟨by rfl, ?_⟩) ?_ ?_; rotate_left
        ·intro w'; go_simp; with_reducible rfl
        rotate_left
        ·simp only [Act.put, List.setIfInBounds_toArray, List.set_cons_zero, List.set_cons_succ, i64_w, i32_w]; rfl
        refine pure_ (i := 18) (N := some 523) (v := ?_) (a' := ?_) (dn_ 38 507903) rfl rfl (any_of HT_.out (by kernel_rfl)) (fun _ _ _ h => h) (Or.inl ⟨by rfl, ?_⟩) ?_ ?_; rotate_left
        ·intro w'; go_simp; with_reducible rfl
        rotate_left
        ·simp only [Act.put, List.setIfInBounds_toArray, List.set_cons_zero, List.set_cons_succ, i64_w, i32_w]; rfl
        refine pure_ (i := 21) (N := some 526) (v := ?_) (a' := ?_) (dn_ 38 2605055) rfl rfl (any_of HT_.out (by kernel_rfl)) (fun _ _ _ h => h) (Or.inl ⟨by rfl, ?_⟩) ?_ ?_; rotate_left
        ·intro w'; go_simp; with_reducible rfl
        rotate_left
        ·simp only [Act.put, List.setIfInBounds_toArray, List.set_cons_zero, List.set_cons_succ, i64_w, i32_w]; rfl
        refine take_ (i := 14) (N := some 519) (v := ?_) (a' := ?_) (dn_ 38 2621439) rfl rfl (take_ofW HT_.out HW_.out (by kernel_rfl)) (fun _ _ _ h => h) (Or.inl ⟨by rfl, ?_⟩) hHeld ?_ ?_; rotate_left
        ·rintro w' ⟨s0, s1, s2, s3, s4⟩; go_simp; with_reducible rfl
        rotate_left
        ·simp only [Act.put, List.setIfInBounds_toArray, List.set_cons_zero, List.set_cons_succ, i64_w, i32_w]; rfl
        refine take_ (i := 19) (N := some 524) (v := ?_) (a' := ?_) (dn_ 38 3145727) rfl rfl (take_ofW HT_.out HW_.out (by kernel_rfl)) (fun _ _ _ h => h) (Or.inl ⟨by rfl, ?_⟩) hHeld ?_ ?_; rotate_left
        ·rintro w' ⟨s0, s1, s2, s3, s4⟩; go_simp; with_reducible rfl
        rotate_left
        ·simp only [Act.put, List.setIfInBounds_toArray, List.set_cons_zero, List.set_cons_succ, i64_w, i32_w]; rfl
        refine pure_ (i := 20) (N := some 525) (v := ?_) (a' := ?_) (dn_ 38 4194303) rfl rfl (any_of HT_.out (by kernel_rfl)) (fun _ _ _ h => h) (Or.inl ⟨by rfl, ?_⟩) ?_ ?_; rotate_left
        ·intro w'; go_simp; with_reducible rfl
        rotate_left
        ·simp only [Act.put, List.setIfInBounds_toArray, List.set_cons_zero, List.set_cons_succ, i64_w, i32_w]; rfl
        refine pure_ (i := 22) (N := some 527) (v := ?_) (a' := ?_) (dn_ 38 8388607) rfl rfl (any_of HT_.out (by kernel_rfl)) (fun _ _ _ h => h) (Or.inl ⟨by rfl, ?_⟩) ?_ ?_; rotate_left
        ·intro w'; go_simp; with_reducible rfl
        rotate_left
        ·simp only [Act.put, List.setIfInBounds_toArray, List.set_cons_zero, List.set_cons_succ, i64_w, i32_w]; rfl
        refine pure_ (i := 23) (N := some 528) (v := ?_) (a' := ?_) (dn_ 38 16777215) rfl rfl (any_of HT_.out (by kernel_rfl)) (fun _ _ _ h => h) (Or.inl ⟨by rfl, ?_⟩) ?_ ?_; rotate_left
        ·intro w'; go_simp; with_reducible rfl
        rotate_left
        ·simp only [Act.put, List.setIfInBounds_toArray, List.set_cons_zero, List.set_cons_succ, i64_w, i32_w]; rfl
        refine pure_ (i := 24) (N := some 529) (v := ?_) (a' := ?_) (dn_ 38 33554431) rfl rfl (any_of HT_.out (by kernel_rfl)) (fun _ _ _ h => h) (Or.inl ⟨by rfl, ?_⟩) ?_ ?_; rotate_left
        ·intro w'; go_simp; with_reducible rfl
        rotate_left
        ·simp only [Act.put, List.setIfInBounds_toArray, List.set_cons_zero, List.set_cons_succ, i64_w, i32_w]; rfl
        refine pure_ (i := 25) (N := some 530) (v := ?_) (a' := ?_) (dn_ 38 67108863) rfl rfl (any_of HT_.out (by kernel_rfl)) (fun _ _ _ h => h) (Or.inl ⟨by rfl, ?_⟩) ?_ ?_; rotate_left
        ·intro w'; go_simp; with_reducible rfl
        rotate_left
        ·simp only [Act.put, List.setIfInBounds_toArray, List.set_cons_zero, List.set_cons_succ, i64_w, i32_w]; rfl
        refine pure_ (i := 26) (N := some 531) (v := ?_) (a' := ?_) (dn_ 38 134217727) rfl rfl (any_of HT_.out (by kernel_rfl)) (fun _ _ _ h => h) (Or.inl ⟨by rfl, ?_⟩) ?_ ?_; rotate_left
        ·intro w'; go_simp; with_reducible rfl
        rotate_left
        ·simp only [Act.put, List.setIfInBounds_toArray, List.set_cons_zero, List.set_cons_succ, i64_w, i32_w]; rfl
        refine pure_ (i := 27) (N := some 532) (v := ?_) (a' := ?_) (dn_ 38 268435455) rfl rfl (any_of HT_.out (by kernel_rfl)) (fun _ _ _ h => h) (Or.inl ⟨by rfl, ?_⟩) ?_ ?_; rotate_left
        ·intro w'; go_simp; with_reducible rfl
        rotate_left
        ·simp only [Act.put, List.setIfInBounds_toArray, List.set_cons_zero, List.set_cons_succ, i64_w, i32_w]; rfl
        refine pure_ (i := 28) (N := some 533) (v := ?_) (a' := ?_) (dn_ 38 536870911) rfl rfl (any_of HT_.out (by kernel_rfl)) (fun _ _ _ h => h) (Or.inl ⟨by rfl, ?_⟩) ?_ ?_; rotate_left
        ·intro w'; go_simp; with_reducible rfl
        rotate_left
        ·simp only [Act.put, List.setIfInBounds_toArray, List.set_cons_zero, List.set_cons_succ, i64_w, i32_w]; rfl
        refine pure_ (i := 29) (N := some 534) (v := ?_) (a' := ?_) (dn_ 38 1073741823) rfl rfl (any_of HT_.out (by kernel_rfl)) (fun _ _ _ h => h) (Or.inl ⟨by rfl, ?_⟩) ?_ ?_; rotate_left
        ·intro w'; go_simp; with_reducible rfl
        rotate_left
        ·simp only [Act.put, List.setIfInBounds_toArray, List.set_cons_zero, List.set_cons_succ, i64_w, i32_w]; rfl
        refine pure_ (i := 30) (N := some 535) (v := ?_) (a' := ?_) (dn_ 38 2147483647) rfl rfl (any_of HT_.out (by kernel_rfl)) (fun _ _ _ h => h) (Or.inl ⟨by rfl, ?_⟩) ?_ ?_; rotate_left
        ·intro w'; go_simp; with_reducible rfl
        rotate_left
        ·simp only [Act.put, List.setIfInBounds_toArray, List.set_cons_zero, List.set_cons_succ, i64_w, i32_w]; rfl
        refine pure_ (i := 31) (N := some 536) (v := ?_) (a' := ?_) (dn_ 38 4294967295) rfl rfl (any_of HT_.out (by kernel_rfl)) (fun _ _ _ h => h) (Or.inl ⟨by rfl, ?_⟩) ?_ ?_; rotate_left
        ·intro w'; go_simp; with_reducible rfl
        rotate_left
        ·simp only [Act.put, List.setIfInBounds_toArray, List.set_cons_zero, List.set_cons_succ, i64_w, i32_w]; rfl
        refine pure_ (i := 32) (N := some 537) (v := ?_) (a' := ?_) (dn_ 38 8589934591) rfl rfl (any_of HT_.out (by kernel_rfl)) (fun _ _ _ h => h) (Or.inl ⟨by rfl, ?_⟩) ?_ ?_; rotate_left
        ·intro w'; go_simp; with_reducible rfl
        rotate_left
        ·simp only [Act.put, List.setIfInBounds_toArray, List.set_cons_zero, List.set_cons_succ, i64_w, i32_w]; rfl
        refine take_ (i := 33) (N := some 538) (v := ?_) (a' := ?_) (dn_ 38 17179869183) rfl rfl (take_ofW HT_.out HW_.out (by kernel_rfl)) (fun _ _ _ h => h) (Or.inl ⟨by rfl, ?_⟩) hHeld ?_ ?_; rotate_left
        ·rintro w' ⟨s0, s1, s2, s3, s4⟩; go_simp; with_reducible rfl
        rotate_left
        ·simp only [Act.put, List.setIfInBounds_toArray, List.set_cons_zero, List.set_cons_succ, i64_w, i32_w]; rfl
        refine one_ (i := 34) (N := some 539) (dn_ 38 34359738367) rfl rfl (one_of HT_.out (by kernel_rfl)) (by decide) (fun K hK => ?_); refine goes_ Tryd.func19 (by kernel_rfl) rfl #[.slice Ao202 t454.length co202, .int .i64 (rd t422 x47_3)] (by rfl) rfl rfl (by (try simp only [List.map_toArray, List.map_cons, List.map_nil]); first | done | rfl | (simp only [List.length_drop, List.length_take]; rfl)) ?_; with_reducible refine (laws_dHas.calls k3 _ _ t454 (rd t422 x47_3) true _ ?side1 ?side2 A198.out).mono ?_
        (case side1 => repeat (first | exact (Kd.V_reads' HO_31.out).2.2 | (with_reducible refine Kd.C_alloc ?_ _) | (with_reducible refine Kd.C_drewN ?_ _) | (with_reducible refine Kd.C_drew ?_)))
        (case side2 => exact (Kd.V_reads' HO_31.out).2.1)
        rintro e w' ⟨rfl, ⟨nd, rfl⟩⟩; refine ⟨_, rfl, ?_⟩; refine hK.out _ _ ⟨hHeld.1, hHeld.2.1, hHeld.2.2.1, hHeld.2.2.2.1, hHeld.2.2.2.2⟩ (fun hHeld => ?_); clear hK K; refine norm_ (a' := ?_) ?_ ?_; rotate_left
        ·show Act.put _ (some 539) _ = _; simp only [Act.put, List.setIfInBounds_toArray, List.set_cons_zero, List.set_cons_succ, i64_w, i32_w]; rfl
        refine pure_ (i := 35) (N := some 540) (v := ?_) (a' := ?_) (dn_ 38 68719476735) rfl rfl (any_of HT_.out (by kernel_rfl)) (fun _ _ _ h => h) (Or.inl ⟨by rfl, ?_⟩) ?_ ?_; rotate_left
        ·intro w'; go_simp; with_reducible rfl
        rotate_left
        ·simp only [Act.put, List.setIfInBounds_toArray, List.set_cons_zero, List.set_cons_succ, i64_w, i32_w]; rfl
        refine pure_ (i := 36) (N := some 541) (v := ?_) (a' := ?_) (dn_ 38 137438953471) rfl rfl (any_of HT_.out (by kernel_rfl)) (fun _ _ _ h => h) (Or.inl ⟨by rfl, ?_⟩) ?_ ?_; rotate_left
        ·intro w'; go_simp; with_reducible rfl
        rotate_left
        ·simp only [Act.put, List.setIfInBounds_toArray, List.set_cons_zero, List.set_cons_succ, i64_w, i32_w]; rfl
        refine pure_ (i := 37) (N := some 542) (v := ?_) (a' := ?_) (dn_ 38 274877906943) rfl rfl (any_of HT_.out (by kernel_rfl)) (fun _ _ _ h => h) (Or.inl ⟨by rfl, ?_⟩) ?_ ?_; rotate_left
        ·intro w'; go_simp; with_reducible rfl
        rotate_left
        ·simp only [Act.put, List.setIfInBounds_toArray, List.set_cons_zero, List.set_cons_succ, i64_w, i32_w]; rfl
        refine done_ (done_of HT_.out (by kernel_rfl)) ?_; (try go_wp2); (try (rw [drewN_self w201]; generalize hq_ : World.drewN w201 _ = w201; have n0_ : Aside0 (Kd.V (Kd.int .i64) 3 w201 w.heap.size (fun k_ => some k_ ≠ (u46 : Value).ownBlock ∧ some k_ ≠ (.slice (some ad594) t422.length co189 : Value).ownBlock) (.slice Ao202 t454.length co202) t454) := ⟨by rw [← hq_]; exact (by (with_reducible repeat (first | apply Kd.V_alloc | apply Kd.V_drewN | apply Kd.V_drew)); exact Kd.V_mono HO_31.out (fun _ hk => ⟨hk.2, hk.1⟩))⟩; have n1_ : Aside0 (Kd.R (Kd.int .i64) 3 w201 w.heap.size (fun k_ => some k_ ≠ (.slice (some ad594) t422.length co189 : Value).ownBlock) u46 x46_3) := ⟨by rw [← hq_]; exact (roS HO_46.out)⟩; have n2_ : Aside0 (Kd.R (Kd.int .i64) 3 w201 w.heap.size (fun k_ => some k_ ≠ (u46 : Value).ownBlock) (.slice (some ad594) t422.length co189) t422) := ⟨by rw [← hq_]; exact (roS HO_7.out)⟩; have n3_ : Aside0 (Below w.heap.size w w201) := ⟨by rw [← hq_]; exact (hbS HB.out)⟩; clear HO_31 HO_46 HO_7 HB hq_; have HO_31 := n0_; have HO_46 := n1_; have HO_7 := n2_; have HB := n3_; clear n0_ n1_ n2_ n3_)); replace HO_7 := am (Kd.R_drew HO_7.out); replace HO_31 := am (Kd.V_drew HO_31.out); replace HO_46 := am (Kd.R_drew HO_46.out); replace HB := am (below_drew1 HB.out); have p608 : 0 ≤ (x47_3 : Int) := of_decide_eq_true (by first | (with_reducible assumption) | assumption); have q608 : x47_3 < (t422.length : Int) := of_decide_eq_true (by first | (with_reducible assumption) | assumption); obtain ⟨ad608, e608, hx608_0⟩ := Kd.at_int (Kd.R_reads' HO_7.out).2.2 x47_3 p608 q608; obtain rfl : ad594 = ad608 := (by injection e608); replace p608 := eq_true p608; replace q608 := eq_true q608; have p609 : 0 ≤ ((ji192) : Int) := of_decide_eq_true (by first | (with_reducible assumption) | assumption); have q609 : (ji192) < (t422.length : Int) := of_decide_eq_true (by first | (with_reducible assumption) | assumption); obtain ⟨ad609, e609, hx609_0⟩ := Kd.at_int (Kd.R_reads' HO_7.out).2.2 (ji192) p609 q609; obtain rfl : ad594 = ad609 := (by injection e609); replace p609 := eq_true p609; replace q609 := eq_true q609; refine start_ (n := 14) (S := fun w' => w'.cell? (ad594.add (x47_3).toNat) = some (.int .i64 (rd t422 x47_3)) ∧ w'.cell? (ad594.add ((ji192)).toNat) = some (.int .i64 (rd t422 (ji192)))) (ds := [11, 12]) (dn_ 14 0) (by kernel_rfl) rfl rfl ⟨hx608_0, hx609_0⟩ (fun hHeld => ?_); refine with_tabW laws_FnRiversCrossed.tab57 laws_FnRiversCrossed.bits57 (fun HT_ HW_ => ?_); generalize w201.drew = w203 at HO_7 HO_31 HO_46 HB hx608_0 hx609_0 hHeld ⊢; refine pure_ (i := 0) (N := some 543) (v := ?_) (a' := ?_) (dn_ 14 1) rfl rfl (any_of HT_.out (by kernel_rfl)) (fun _ _ _ h => h) (Or.inl ⟨by rfl, ?_⟩) ?_ ?_; rotate_left
        ·intro w'; go_simp; with_reducible rfl
        rotate_left
        ·simp only [Act.put, List.setIfInBounds_toArray, List.set_cons_zero, List.set_cons_succ, i64_w, i32_w]; rfl
        refine pure_ (i := 1) (N := some 544) (v := ?_) (a' := ?_) (dn_ 14 3) rfl rfl (any_of HT_.out (by kernel_rfl)) (fun _ _ _ h => h) (Or.inl ⟨by rfl, ?_⟩) ?_ ?_; rotate_left
        ·intro w'; go_simp; with_reducible rfl
        rotate_left
        ·simp only [Act.put, List.setIfInBounds_toArray, List.set_cons_zero, List.set_cons_succ, i64_w, i32_w]; rfl
        refine pure_ (i := 2) (N := some 545) (v := ?_) (a' := ?_) (dn_ 14 7) rfl rfl (any_of HT_.out (by kernel_rfl)) (fun _ _ _ h => h) (Or.inl ⟨by rfl, ?_⟩) ?_ ?_; rotate_left
        ·intro w'; go_simp; with_reducible rfl
        rotate_left
        ·simp only [Act.put, List.setIfInBounds_toArray, List.set_cons_zero, List.set_cons_succ, i64_w, i32_w]; rfl
        refine pure_ (i := 3) (N := some 546) (v := ?_) (a' := ?_) (dn_ 14 15) rfl rfl (any_of HT_.out (by kernel_rfl)) (fun _ _ _ h => h) (Or.inl ⟨by rfl, ?_⟩) ?_ ?_; rotate_left
        ·intro w'; go_simp; with_reducible rfl
        rotate_left
        ·simp only [Act.put, List.setIfInBounds_toArray, List.set_cons_zero, List.set_cons_succ, i64_w, i32_w]; rfl
        refine pure_ (i := 5) (N := some 548) (v := ?_) (a' := ?_) (dn_ 14 47) rfl rfl (any_of HT_.out (by kernel_rfl)) (fun _ _ _ h => h) (Or.inl ⟨by rfl, ?_⟩) ?_ ?_; rotate_left
        ·intro w'; go_simp; with_reducible rfl
        rotate_left
        ·simp only [Act.put, List.setIfInBounds_toArray, List.set_cons_zero, List.set_cons_succ, i64_w, i32_w]; rfl
        refine pure_ (i := 6) (N := some 549) (v := ?_) (a' := ?_) (dn_ 14 111) rfl rfl (any_of HT_.out (by kernel_rfl)) (fun _ _ _ h => h) (Or.inl ⟨by rfl, ?_⟩) ?_ ?_; rotate_left
        ·intro w'; go_simp; with_reducible rfl
        rotate_left
        ·simp only [Act.put, List.setIfInBounds_toArray, List.set_cons_zero, List.set_cons_succ, i64_w, i32_w]; rfl
        refine pure_ (i := 7) (N := some 550) (v := ?_) (a' := ?_) (dn_ 14 239) rfl rfl (any_of HT_.out (by kernel_rfl)) (fun _ _ _ h => h) (Or.inl ⟨by rfl, ?_⟩) ?_ ?_; rotate_left
        ·intro w'; go_simp; with_reducible rfl
        rotate_left
        ·simp only [Act.put, List.setIfInBounds_toArray, List.set_cons_zero, List.set_cons_succ, i64_w, i32_w]; rfl
        refine pure_ (i := 8) (N := some 551) (v := ?_) (a' := ?_) (dn_ 14 495) rfl rfl (any_of HT_.out (by kernel_rfl)) (fun _ _ _ h => h) (Or.inl ⟨by rfl, ?_⟩) ?_ ?_; rotate_left
        ·intro w'; go_simp; with_reducible rfl
        rotate_left
        ·simp only [Act.put, List.setIfInBounds_toArray, List.set_cons_zero, List.set_cons_succ, i64_w, i32_w]; rfl
        refine take_ (i := 4) (N := some 547) (v := ?_) (a' := ?_) (dn_ 14 511) rfl rfl (take_ofW HT_.out HW_.out (by kernel_rfl)) (fun _ _ _ h => h) (Or.inl ⟨by rfl, ?_⟩) hHeld ?_ ?_; rotate_left
        ·rintro w' ⟨s0, s1⟩; go_simp; with_reducible rfl
        rotate_left
        ·simp only [Act.put, List.setIfInBounds_toArray, List.set_cons_zero, List.set_cons_succ, i64_w, i32_w]; rfl
        refine take_ (i := 9) (N := some 552) (v := ?_) (a' := ?_) (dn_ 14 1023) rfl rfl (take_ofW HT_.out HW_.out (by kernel_rfl)) (fun _ _ _ h => h) (Or.inl ⟨by rfl, ?_⟩) hHeld ?_ ?_; rotate_left
        ·rintro w' ⟨s0, s1⟩; go_simp; with_reducible rfl
        rotate_left
        ·simp only [Act.put, List.setIfInBounds_toArray, List.set_cons_zero, List.set_cons_succ, i64_w, i32_w]; rfl
        refine pure_ (i := 10) (N := some 553) (v := ?_) (a' := ?_) (dn_ 14 2047) rfl rfl (any_of HT_.out (by kernel_rfl)) (fun _ _ _ h => h) (Or.inl ⟨by rfl, ?_⟩) ?_ ?_; rotate_left
        ·intro w'; go_simp; with_reducible rfl
        rotate_left
        ·simp only [Act.put, List.setIfInBounds_toArray, List.set_cons_zero, List.set_cons_succ, i64_w, i32_w]; rfl
        refine last_ (i := 11) (N := some 554) (dn_ 14 4095) rfl rfl (one_of HT_.out (by kernel_rfl)) (by decide) (fun K hK => ?_); refine value_ (w1 := ?_) (v := ?_) (by rfl) rfl ?_ ?_; rotate_left 2
        ·go_simp; constructor
         ·rfl
         ·rfl
        refine hK.out _ _ ?_; clear hK K; refine norm_ (a' := ?_) ?_ ?_; rotate_left
        ·show Act.put _ (some 554) _ = _; simp only [Act.put, List.setIfInBounds_toArray, List.set_cons_zero, List.set_cons_succ, i64_w, i32_w]; rfl
        refine last_ (i := 12) (N := some 555) (dn_ 14 8191) rfl rfl (one_of HT_.out (by kernel_rfl)) (by decide) (fun K hK => ?_); refine Kd.R_append_step (Kd.int .i64) (w0 := w) w.heap.size (by rfl) (.tmp 543) (.tmp 554) 26 3 (.int .i64 0) 8 rfl Tryd.underlying26 info3 rfl (by decide) (by omega) u46 x46_3 (wrap64 ((rd t422 x47_3) - (rd t422 (ji192)))) [.int .i64 (wrap64 ((rd t422 x47_3) - (rd t422 (ji192))))] (fun k_ => some k_ ≠ (.slice (some ad594) t422.length co189 : Value).ownBlock) (fun _ => False) rfl rfl ?aP (fun _ hk => hk.elim) ?aF ?aO ?aB ?aS ?aL ?_
        (case aP => exact rfl)
        (case aB => exact (hbS HB.out))
        (case aF => exact (fun k_ hk => Kd.fresh' (Kd.R_lt (roS HO_7.out)) k_ hk))
        (case aO => exact (roS HO_46.out))
        (case aS => exact (below_size (hbS HB.out)))
        (case aL => have := LMc200.out; omega)
        intro v611 w204 ho hb hg hat; rw [← Ny610.out] at ho; have n0_ := am (Kd.R_after (ok := (fun _ => True)) (by (with_reducible repeat (first | apply Kd.R_alloc | apply Kd.R_drewN | apply Kd.R_drew)); exact Kd.R_mono HO_7.out (fun _ hk => ⟨trivial, hk⟩)) hg hat); have n1_ := am (Kd.V_afterv (ok := (fun k_ => some k_ ≠ (.slice (some ad594) t422.length co189 : Value).ownBlock)) (by (with_reducible repeat (first | apply Kd.V_alloc | apply Kd.V_drewN | apply Kd.V_drew)); (first | exact HO_31.out | exact Kd.V_mono HO_31.out (fun _ hk => ⟨hk.2, hk.1⟩))) hg hat); have n2_ := am (hb); have n3_ := am (ho); clear HO_7; clear HO_31; clear HB; clear HO_46; have HO_7 := n0_; have HO_31 := n1_; have HB := n2_; have HO612 := n3_; clear n0_ n1_ n2_ n3_; clear ho hb hg hat; refine hK.out _ _ ?_; clear hK K; refine norm_ (a' := ?_) ?_ ?_; rotate_left
        ·show Act.put _ (some 555) _ = _; simp only [Act.put, List.setIfInBounds_toArray, List.set_cons_zero, List.set_cons_succ, i64_w, i32_w]; rfl
        refine pure_ (i := 13) (N := some 46) (v := ?_) (a' := ?_) (dn_ 14 16383) rfl rfl (any_of HT_.out (by kernel_rfl)) (fun _ _ _ h => h) (Or.inl ⟨by rfl, ?_⟩) ?_ ?_; rotate_left
        ·intro w'; go_simp; with_reducible rfl
        rotate_left
        ·simp only [Act.put, List.setIfInBounds_toArray, List.set_cons_zero, List.set_cons_succ, i64_w, i32_w]; rfl
        refine done_ (done_of HT_.out (by kernel_rfl)) ?_; (try go_wp2); go_roundg k3
        case measure => have := HJ93.out; have := HK3.out; omega
        case rel => exact ⟨(y610), (wrap64 (x47_3 + 1)), (by first | rfl | (simp; done) | (simp [*]; done)), H', ⟨by have := HJ93.out; have := HK3.out; omega⟩, ⟨by (with_reducible repeat (first | apply Kd.R_alloc | apply Kd.R_drewN | apply Kd.R_drew)); exact Kd.R_mono HO_7.out (fun _ hk => hk.2)⟩, ⟨by (with_reducible repeat (first | apply Kd.V_alloc | apply Kd.V_drewN | apply Kd.V_drew)); (first | exact HO_31.out | exact Kd.V_mono HO_31.out (fun _ hk => ⟨hk.2, hk.1⟩))⟩, ⟨roS HO612.out⟩, ⟨hbS HB.out⟩⟩
       ·rw [if_neg c197] at H; have c197b0 : decide (x47_3 < t430) = false := decide_eq_false c197; clear c197; obtain ⟨c205, H⟩ := itP H; have LMc205 := am c205; clear c205; obtain ⟨y615, hy615⟩ : ∃ y_ : List Int, y_ = (x46_3 ++ [wrap64 ((rd t422 x47_3) - (rd t422 (ji192)))]) := ⟨_, rfl⟩; (replace H : (laws_FnRiversCrossed.l3 k3 l1 t420 t421 t422 t430 t454 (wrap64 ((t420.size : Int) + 1)) y615 (wrap64 (x47_3 + 1))) = some r := by first | (rw [hy615]; with_reducible exact H) | (have H2_ := (Option.bind_some _ _).symm.trans H; rw [hy615]; with_reducible exact H2_) | (have H2_ := (Option.bind_some _ _).symm.trans H; with_reducible exact H2_) | with_reducible exact H | (rw [hy615]; exact H) | exact H); have Ny615 := am hy615; clear hy615; have H' := am H; clear H; (try go_wp2); replace HO_7 := am (Kd.R_drew HO_7.out); replace HO_31 := am (Kd.V_drew HO_31.out); replace HO_46 := am (Kd.R_drew HO_46.out); replace HB := am (below_drew1 HB.out); have p602 : 0 ≤ (x47_3 : Int) := of_decide_eq_true (by first | (with_reducible assumption) | assumption); have q602 : x47_3 < (t422.length : Int) := of_decide_eq_true (by first | (with_reducible assumption) | assumption); obtain ⟨ad602, e602, hx602_0⟩ := Kd.at_int (Kd.R_reads' HO_7.out).2.2 x47_3 p602 q602; obtain rfl : ad594 = ad602 := (by injection e602); replace p602 := eq_true p602; replace q602 := eq_true q602; have p603 : 0 ≤ ((ji192) : Int) := of_decide_eq_true (by first | (with_reducible assumption) | assumption); have q603 : (ji192) < (t422.length : Int) := of_decide_eq_true (by first | (with_reducible assumption) | assumption); obtain ⟨ad603, e603, hx603_0⟩ := Kd.at_int (Kd.R_reads' HO_7.out).2.2 (ji192) p603 q603; obtain rfl : ad594 = ad603 := (by injection e603); replace p603 := eq_true p603; replace q603 := eq_true q603; have p604 : 0 ≤ (x47_3 : Int) := of_decide_eq_true (by first | (with_reducible assumption) | assumption); have q604 : x47_3 < (t422.length : Int) := of_decide_eq_true (by first | (with_reducible assumption) | assumption); obtain ⟨ad604, e604, hx604_0⟩ := Kd.at_int (Kd.R_reads' HO_7.out).2.2 x47_3 p604 q604; obtain rfl : ad594 = ad604 := (by injection e604); replace p604 := eq_true p604; replace q604 := eq_true q604; have p605 : 0 ≤ ((ji192) : Int) := of_decide_eq_true (by first | (with_reducible assumption) | assumption); have q605 : (ji192) < (t422.length : Int) := of_decide_eq_true (by first | (with_reducible assumption) | assumption); obtain ⟨ad605, e605, hx605_0⟩ := Kd.at_int (Kd.R_reads' HO_7.out).2.2 (ji192) p605 q605; obtain rfl : ad594 = ad605 := (by injection e605); replace p605 := eq_true p605; replace q605 := eq_true q605; refine start_ (n := 38) (S := fun w' => w'.cell? (ad594.add (x47_3).toNat) = some (.int .i64 (rd t422 x47_3)) ∧ w'.cell? (ad594.add ((ji192)).toNat) = some (.int .i64 (rd t422 (ji192))) ∧ w'.cell? (ad594.add (x47_3).toNat) = some (.int .i64 (rd t422 x47_3)) ∧ w'.cell? (ad594.add ((ji192)).toNat) = some (.int .i64 (rd t422 (ji192)))) (ds := []) (dn_ 38 0) (by kernel_rfl) rfl rfl ⟨hx602_0, hx603_0, hx604_0, hx605_0⟩ (fun hHeld => ?_); refine with_tabW laws_FnRiversCrossed.tab55 laws_FnRiversCrossed.bits55 (fun HT_ HW_ => ?_); generalize wr.drew = w206 at HO_7 HO_31 HO_46 HB hx602_0 hx603_0 hx604_0 hx605_0 hHeld ⊢; refine pure_ (i := 0) (N := some 505) (v := ?_) (a' := ?_) (dn_ 38 1) rfl rfl (any_of HT_.out (by kernel_rfl)) (fun _ _ _ h => h) (Or.inl ⟨by rfl, ?_⟩) ?_ ?_; rotate_left
        ·intro w'; go_simp; with_reducible rfl
        rotate_left
        ·simp only [Act.put, List.setIfInBounds_toArray, List.set_cons_zero, List.set_cons_succ, i64_w, i32_w]; rfl
        refine pure_ (i := 1) (N := some 506) (v := ?_) (a' := ?_) (dn_ 38 3) rfl rfl (any_of HT_.out (by kernel_rfl)) (fun _ _ _ h => h) (Or.inl ⟨by rfl, ?_⟩) ?_ ?_; rotate_left
        ·intro w'; go_simp; with_reducible rfl
        rotate_left
        ·simp only [Act.put, List.setIfInBounds_toArray, List.set_cons_zero, List.set_cons_succ, i64_w, i32_w]; rfl
        refine pure_ (i := 2) (N := some 507) (v := ?_) (a' := ?_) (dn_ 38 7) rfl rfl (any_of HT_.out (by kernel_rfl)) (fun _ _ _ h => h) (Or.inl ⟨by rfl, ?_⟩) ?_ ?_; rotate_left
        ·intro w'; go_simp; with_reducible rfl
        rotate_left
        ·simp only [Act.put, List.setIfInBounds_toArray, List.set_cons_zero, List.set_cons_succ, i64_w, i32_w]; rfl
        refine pure_ (i := 4) (N := some 509) (v := ?_) (a' := ?_) (dn_ 38 23) rfl rfl (any_of HT_.out (by kernel_rfl)) (fun _ _ _ h => h) (Or.inl ⟨by rfl, ?_⟩) ?_ ?_; rotate_left
        ·intro w'; go_simp; with_reducible rfl
        rotate_left
        ·simp only [Act.put, List.setIfInBounds_toArray, List.set_cons_zero, List.set_cons_succ, i64_w, i32_w]; rfl
        refine pure_ (i := 5) (N := some 510) (v := ?_) (a' := ?_) (dn_ 38 55) rfl rfl (any_of HT_.out (by kernel_rfl)) (fun _ _ _ h => h) (Or.inl ⟨by rfl, ?_⟩) ?_ ?_; rotate_left
        ·intro w'; go_simp; with_reducible rfl
        rotate_left
        ·simp only [Act.put, List.setIfInBounds_toArray, List.set_cons_zero, List.set_cons_succ, i64_w, i32_w]; rfl
        refine pure_ (i := 6) (N := some 511) (v := ?_) (a' := ?_) (dn_ 38 119) rfl rfl (any_of HT_.out (by kernel_rfl)) (fun _ _ _ h => h) (Or.inl ⟨by rfl, ?_⟩) ?_ ?_; rotate_left
        ·intro w'; go_simp; with_reducible rfl
        rotate_left
        ·simp only [Act.put, List.setIfInBounds_toArray, List.set_cons_zero, List.set_cons_succ, i64_w, i32_w]; rfl
        refine pure_ (i := 7) (N := some 512) (v := ?_) (a' := ?_) (dn_ 38 247) rfl rfl (any_of HT_.out (by kernel_rfl)) (fun _ _ _ h => h) (Or.inl ⟨by rfl, ?_⟩) ?_ ?_; rotate_left
        ·intro w'; go_simp; with_reducible rfl
        rotate_left
        ·simp only [Act.put, List.setIfInBounds_toArray, List.set_cons_zero, List.set_cons_succ, i64_w, i32_w]; rfl
        refine take_ (i := 3) (N := some 508) (v := ?_) (a' := ?_) (dn_ 38 255) rfl rfl (take_ofW HT_.out HW_.out (by kernel_rfl)) (fun _ _ _ h => h) (Or.inl ⟨by rfl, ?_⟩) hHeld ?_ ?_; rotate_left
        ·rintro w' ⟨s0, s1, s2, s3⟩; go_simp; with_reducible rfl
        rotate_left
        ·simp only [Act.put, List.setIfInBounds_toArray, List.set_cons_zero, List.set_cons_succ, i64_w, i32_w]; rfl
        refine take_ (i := 8) (N := some 513) (v := ?_) (a' := ?_) (dn_ 38 511) rfl rfl (take_ofW HT_.out HW_.out (by kernel_rfl)) (fun _ _ _ h => h) (Or.inl ⟨by rfl, ?_⟩) hHeld ?_ ?_; rotate_left
        ·rintro w' ⟨s0, s1, s2, s3⟩; go_simp; with_reducible rfl
        rotate_left
        ·simp only [Act.put, List.setIfInBounds_toArray, List.set_cons_zero, List.set_cons_succ, i64_w, i32_w]; rfl
        refine pure_ (i := 9) (N := some 514) (v := ?_) (a' := ?_) (dn_ 38 1023) rfl rfl (any_of HT_.out (by kernel_rfl)) (fun _ _ _ h => h) (Or.inl ⟨by rfl, ?_⟩) ?_ ?_; rotate_left
        ·intro w'; go_simp; with_reducible rfl
        rotate_left
        ·simp only [Act.put, List.setIfInBounds_toArray, List.set_cons_zero, List.set_cons_succ, i64_w, i32_w]; rfl
        refine pure_ (i := 10) (N := some 515) (v := ?_) (a' := ?_) (dn_ 38 2047) rfl rfl (any_of HT_.out (by kernel_rfl)) (fun _ _ _ h => h) (Or.inl ⟨by rfl, ?_⟩) ?_ ?_; rotate_left
        ·intro w'; go_simp; with_reducible rfl
        rotate_left
        ·simp only [Act.put, List.setIfInBounds_toArray, List.set_cons_zero, List.set_cons_succ, i64_w, i32_w]; rfl
        refine pure_ (i := 11) (N := some 516) (v := ?_) (a' := ?_) (dn_ 38 4095) rfl rfl (any_of HT_.out (by kernel_rfl)) (fun _ _ _ h => h) (Or.inl ⟨by rfl, ?_⟩) ?_ ?_; rotate_left
        ·intro w'; go_simp; with_reducible rfl
        rotate_left
        ·simp only [Act.put, List.setIfInBounds_toArray, List.set_cons_zero, List.set_cons_succ, i64_w, i32_w]; rfl
        refine pure_ (i := 12) (N := some 517) (v := ?_) (a' := ?_) (dn_ 38 8191) rfl rfl (any_of HT_.out (by kernel_rfl)) (fun _ _ _ h => h) (Or.inl ⟨by rfl, ?_⟩) ?_ ?_; rotate_left
        ·intro w'; go_simp; with_reducible rfl
        rotate_left
        ·simp only [Act.put, List.setIfInBounds_toArray, List.set_cons_zero, List.set_cons_succ, i64_w, i32_w]; rfl
        refine pure_ (i := 13) (N := some 518) (v := ?_) (a' := ?_) (dn_ 38 16383) rfl rfl (any_of HT_.out (by kernel_rfl)) (fun _ _ _ h => h) (Or.inl ⟨by rfl, ?_⟩) ?_ ?_; rotate_left
        ·intro w'; go_simp; with_reducible rfl
        rotate_left
        ·simp only [Act.put, List.setIfInBounds_toArray, List.set_cons_zero, List.set_cons_succ, i64_w, i32_w]; rfl
        refine pure_ (i := 15) (N := some 520) (v := ?_) (a' := ?_) (dn_ 38 49151) rfl rfl (any_of HT_.out (by kernel_rfl)) (fun _ _ _ h => h) (Or.inl ⟨by rfl, ?_⟩) ?_ ?_; rotate_left
        ·intro w'; go_simp; with_reducible rfl
        rotate_left
        ·simp only [Act.put, List.setIfInBounds_toArray, List.set_cons_zero, List.set_cons_succ, i64_w, i32_w]; rfl
        refine pure_ (i := 16) (N := some 521) (v := ?_) (a' := ?_) (dn_ 38 114687) rfl rfl (any_of HT_.out (by kernel_rfl)) (fun _ _ _ h => h) (Or.inl ⟨by rfl, ?_⟩) ?_ ?_; rotate_left
        ·intro w'; go_simp; with_reducible rfl
        rotate_left
        ·simp only [Act.put, List.setIfInBounds_toArray, List.set_cons_zero, List.set_cons_succ, i64_w, i32_w]; rfl
        refine pure_ (i := 17) (N := some 522) (v := ?_) (a' := ?_) (dn_ 38 245759) rfl rfl (any_of HT_.out (by kernel_rfl)) (fun _ _ _ h => h) (Or.inl ⟨by rfl, ?_⟩) ?_ ?_; rotate_left
        ·intro w'; go_simp; with_reducible rfl
        rotate_left
        ·simp only [Act.put, List.setIfInBounds_toArray, List.set_cons_zero, List.set_cons_succ, i64_w, i32_w]; rfl
        refine pure_ (i := 18) (N := some 523) (v := ?_) (a' := ?_) (dn_ 38 507903) rfl rfl (any_of HT_.out (by kernel_rfl)) (fun _ _ _ h => h) (Or.inl ⟨by rfl, ?_⟩) ?_ ?_; rotate_left
        ·intro w'; go_simp; with_reducible rfl
        rotate_left
        ·simp only [Act.put, List.setIfInBounds_toArray, List.set_cons_zero, List.set_cons_succ, i64_w, i32_w]; rfl
        refine pure_ (i := 21) (N := some 526) (v := ?_) (a' := ?_) (dn_ 38 2605055) rfl rfl (any_of HT_.out (by kernel_rfl)) (fun _ _ _ h => h) (Or.inl ⟨by rfl, ?_⟩) ?_ ?_; rotate_left
        ·intro w'; go_simp; with_reducible rfl
        rotate_left
        ·simp only [Act.put, List.setIfInBounds_toArray, List.set_cons_zero, List.set_cons_succ, i64_w, i32_w]; rfl
        refine take_ (i := 14) (N := some 519) (v := ?_) (a' := ?_) (dn_ 38 2621439) rfl rfl (take_ofW HT_.out HW_.out (by kernel_rfl)) (fun _ _ _ h => h) (Or.inl ⟨by rfl, ?_⟩) hHeld ?_ ?_; rotate_left
        ·rintro w' ⟨s0, s1, s2, s3⟩; go_simp; with_reducible rfl
        rotate_left
        ·simp only [Act.put, List.setIfInBounds_toArray, List.set_cons_zero, List.set_cons_succ, i64_w, i32_w]; rfl
        refine take_ (i := 19) (N := some 524) (v := ?_) (a' := ?_) (dn_ 38 3145727) rfl rfl (take_ofW HT_.out HW_.out (by kernel_rfl)) (fun _ _ _ h => h) (Or.inl ⟨by rfl, ?_⟩) hHeld ?_ ?_; rotate_left
        ·rintro w' ⟨s0, s1, s2, s3⟩; go_simp; with_reducible rfl
        rotate_left
        ·simp only [Act.put, List.setIfInBounds_toArray, List.set_cons_zero, List.set_cons_succ, i64_w, i32_w]; rfl
        refine pure_ (i := 20) (N := some 525) (v := ?_) (a' := ?_) (dn_ 38 4194303) rfl rfl (any_of HT_.out (by kernel_rfl)) (fun _ _ _ h => h) (Or.inl ⟨by rfl, ?_⟩) ?_ ?_; rotate_left
        ·intro w'; go_simp; with_reducible rfl
        rotate_left
        ·simp only [Act.put, List.setIfInBounds_toArray, List.set_cons_zero, List.set_cons_succ, i64_w, i32_w]; rfl
        refine pure_ (i := 22) (N := some 527) (v := ?_) (a' := ?_) (dn_ 38 8388607) rfl rfl (any_of HT_.out (by kernel_rfl)) (fun _ _ _ h => h) (Or.inl ⟨by rfl, ?_⟩) ?_ ?_; rotate_left
        ·intro w'; go_simp; with_reducible rfl
        rotate_left
        ·simp only [Act.put, List.setIfInBounds_toArray, List.set_cons_zero, List.set_cons_succ, i64_w, i32_w]; rfl
        refine pure_ (i := 23) (N := some 528) (v := ?_) (a' := ?_) (dn_ 38 16777215) rfl rfl (any_of HT_.out (by kernel_rfl)) (fun _ _ _ h => h) (Or.inl ⟨by rfl, ?_⟩) ?_ ?_; rotate_left
        ·intro w'; go_simp; with_reducible rfl
        rotate_left
        ·simp only [Act.put, List.setIfInBounds_toArray, List.set_cons_zero, List.set_cons_succ, i64_w, i32_w]; rfl
        refine pure_ (i := 24) (N := some 529) (v := ?_) (a' := ?_) (dn_ 38 33554431) rfl rfl (any_of HT_.out (by kernel_rfl)) (fun _ _ _ h => h) (Or.inl ⟨by rfl, ?_⟩) ?_ ?_; rotate_left
        ·intro w'; go_simp; with_reducible rfl
        rotate_left
        ·simp only [Act.put, List.setIfInBounds_toArray, List.set_cons_zero, List.set_cons_succ, i64_w, i32_w]; rfl
        refine pure_ (i := 25) (N := some 530) (v := ?_) (a' := ?_) (dn_ 38 67108863) rfl rfl (any_of HT_.out (by kernel_rfl)) (fun _ _ _ h => h) (Or.inl ⟨by rfl, ?_⟩) ?_ ?_; rotate_left
        ·intro w'; go_simp; with_reducible rfl
        rotate_left
        ·simp only [Act.put, List.setIfInBounds_toArray, List.set_cons_zero, List.set_cons_succ, i64_w, i32_w]; rfl
        refine pure_ (i := 26) (N := some 531) (v := ?_) (a' := ?_) (dn_ 38 134217727) rfl rfl (any_of HT_.out (by kernel_rfl)) (fun _ _ _ h => h) (Or.inl ⟨by rfl, ?_⟩) ?_ ?_; rotate_left
        ·intro w'; go_simp; with_reducible rfl
        rotate_left
        ·simp only [Act.put, List.setIfInBounds_toArray, List.set_cons_zero, List.set_cons_succ, i64_w, i32_w]; rfl
        refine pure_ (i := 27) (N := some 532) (v := ?_) (a' := ?_) (dn_ 38 268435455) rfl rfl (any_of HT_.out (by kernel_rfl)) (fun _ _ _ h => h) (Or.inl ⟨by rfl, ?_⟩) ?_ ?_; rotate_left
        ·intro w'; go_simp; with_reducible rfl
        rotate_left
        ·simp only [Act.put, List.setIfInBounds_toArray, List.set_cons_zero, List.set_cons_succ, i64_w, i32_w]; rfl
        refine pure_ (i := 28) (N := some 533) (v := ?_) (a' := ?_) (dn_ 38 536870911) rfl rfl (any_of HT_.out (by kernel_rfl)) (fun _ _ _ h => h) (Or.inl ⟨by rfl, ?_⟩) ?_ ?_; rotate_left
        ·intro w'; go_simp; with_reducible rfl
        rotate_left
        ·simp only [Act.put, List.setIfInBounds_toArray, List.set_cons_zero, List.set_cons_succ, i64_w, i32_w]; rfl
        refine pure_ (i := 29) (N := some 534) (v := undef) (a' := ?_) (dn_ 38 1073741823) rfl rfl (any_of HT_.out (by kernel_rfl)) (fun _ _ _ h => h) (Or.inr ⟨by rfl, rfl⟩) ?_ ?_; rotate_left
        ·simp only [Act.put, List.setIfInBounds_toArray, List.set_cons_zero, List.set_cons_succ, i64_w, i32_w]; rfl
        refine pure_ (i := 30) (N := some 535) (v := undef) (a' := ?_) (dn_ 38 2147483647) rfl rfl (any_of HT_.out (by kernel_rfl)) (fun _ _ _ h => h) (Or.inr ⟨by rfl, rfl⟩) ?_ ?_; rotate_left
        ·simp only [Act.put, List.setIfInBounds_toArray, List.set_cons_zero, List.set_cons_succ, i64_w, i32_w]; rfl
        refine pure_ (i := 31) (N := some 536) (v := undef) (a' := ?_) (dn_ 38 4294967295) rfl rfl (any_of HT_.out (by kernel_rfl)) (fun _ _ _ h => h) (Or.inr ⟨by rfl, rfl⟩) ?_ ?_; rotate_left
        ·simp only [Act.put, List.setIfInBounds_toArray, List.set_cons_zero, List.set_cons_succ, i64_w, i32_w]; rfl
        refine pure_ (i := 32) (N := some 537) (v := undef) (a' := ?_) (dn_ 38 8589934591) rfl rfl (any_of HT_.out (by kernel_rfl)) (fun _ _ _ h => h) (Or.inr ⟨by rfl, rfl⟩) ?_ ?_; rotate_left
        ·simp only [Act.put, List.setIfInBounds_toArray, List.set_cons_zero, List.set_cons_succ, i64_w, i32_w]; rfl
        refine pure_ (i := 33) (N := some 538) (v := undef) (a' := ?_) (dn_ 38 17179869183) rfl rfl (any_of HT_.out (by kernel_rfl)) (fun _ _ _ h => h) (Or.inr ⟨by rfl, rfl⟩) ?_ ?_; rotate_left
        ·simp only [Act.put, List.setIfInBounds_toArray, List.set_cons_zero, List.set_cons_succ, i64_w, i32_w]; rfl
        refine pure_ (i := 34) (N := some 539) (v := undef) (a' := ?_) (dn_ 38 34359738367) rfl rfl (any_of HT_.out (by kernel_rfl)) (fun _ _ _ h => h) (Or.inr ⟨by rfl, rfl⟩) ?_ ?_; rotate_left
        ·simp only [Act.put, List.setIfInBounds_toArray, List.set_cons_zero, List.set_cons_succ, i64_w, i32_w]; rfl
        refine pure_ (i := 35) (N := some 540) (v := undef) (a' := ?_) (dn_ 38 68719476735) rfl rfl (any_of HT_.out (by kernel_rfl)) (fun _ _ _ h => h) (Or.inr ⟨by rfl, rfl⟩) ?_ ?_; rotate_left
        ·simp only [Act.put, List.setIfInBounds_toArray, List.set_cons_zero, List.set_cons_succ, i64_w, i32_w]; rfl
        refine pure_ (i := 36) (N := some 541) (v := ?_) (a' := ?_) (dn_ 38 137438953471) rfl rfl (any_of HT_.out (by kernel_rfl)) (fun _ _ _ h => h) (Or.inl ⟨by rfl, ?_⟩) ?_ ?_; rotate_left
        ·intro w'; go_simp; with_reducible rfl
        rotate_left
        ·simp only [Act.put, List.setIfInBounds_toArray, List.set_cons_zero, List.set_cons_succ, i64_w, i32_w]; rfl
        refine pure_ (i := 37) (N := some 542) (v := ?_) (a' := ?_) (dn_ 38 274877906943) rfl rfl (any_of HT_.out (by kernel_rfl)) (fun _ _ _ h => h) (Or.inl ⟨by rfl, ?_⟩) ?_ ?_; rotate_left
        ·intro w'; go_simp; with_reducible rfl
        rotate_left
        ·simp only [Act.put, List.setIfInBounds_toArray, List.set_cons_zero, List.set_cons_succ, i64_w, i32_w]; rfl
        refine done_ (done_of HT_.out (by kernel_rfl)) ?_; (try go_wp2); replace HO_7 := am (Kd.R_drew HO_7.out); replace HO_31 := am (Kd.V_drew HO_31.out); replace HO_46 := am (Kd.R_drew HO_46.out); replace HB := am (below_drew1 HB.out); have p613 : 0 ≤ (x47_3 : Int) := of_decide_eq_true (by first | (with_reducible assumption) | assumption); have q613 : x47_3 < (t422.length : Int) := of_decide_eq_true (by first | (with_reducible assumption) | assumption); obtain ⟨ad613, e613, hx613_0⟩ := Kd.at_int (Kd.R_reads' HO_7.out).2.2 x47_3 p613 q613; obtain rfl : ad594 = ad613 := (by injection e613); replace p613 := eq_true p613; replace q613 := eq_true q613; have p614 : 0 ≤ ((ji192) : Int) := of_decide_eq_true (by first | (with_reducible assumption) | assumption); have q614 : (ji192) < (t422.length : Int) := of_decide_eq_true (by first | (with_reducible assumption) | assumption); obtain ⟨ad614, e614, hx614_0⟩ := Kd.at_int (Kd.R_reads' HO_7.out).2.2 (ji192) p614 q614; obtain rfl : ad594 = ad614 := (by injection e614); replace p614 := eq_true p614; replace q614 := eq_true q614; refine start_ (n := 14) (S := fun w' => w'.cell? (ad594.add (x47_3).toNat) = some (.int .i64 (rd t422 x47_3)) ∧ w'.cell? (ad594.add ((ji192)).toNat) = some (.int .i64 (rd t422 (ji192)))) (ds := [11, 12]) (dn_ 14 0) (by kernel_rfl) rfl rfl ⟨hx613_0, hx614_0⟩ (fun hHeld => ?_); refine with_tabW laws_FnRiversCrossed.tab57 laws_FnRiversCrossed.bits57 (fun HT_ HW_ => ?_); generalize w206.drew = w207 at HO_7 HO_31 HO_46 HB hx613_0 hx614_0 hHeld ⊢; refine pure_ (i := 0) (N := some 543) (v := ?_) (a' := ?_) (dn_ 14 1) rfl rfl (any_of HT_.out (by kernel_rfl)) (fun _ _ _ h => h) (Or.inl ⟨by rfl, ?_⟩) ?_ ?_; rotate_left
        ·intro w'; go_simp; with_reducible rfl
        rotate_left
        ·simp only [Act.put, List.setIfInBounds_toArray, List.set_cons_zero, List.set_cons_succ, i64_w, i32_w]; rfl
        refine pure_ (i := 1) (N := some 544) (v := ?_) (a' := ?_) (dn_ 14 3) rfl rfl (any_of HT_.out (by kernel_rfl)) (fun _ _ _ h => h) (Or.inl ⟨by rfl, ?_⟩) ?_ ?_; rotate_left
        ·intro w'; go_simp; with_reducible rfl
        rotate_left
        ·simp only [Act.put, List.setIfInBounds_toArray, List.set_cons_zero, List.set_cons_succ, i64_w, i32_w]; rfl
        refine pure_ (i := 2) (N := some 545) (v := ?_) (a' := ?_) (dn_ 14 7) rfl rfl (any_of HT_.out (by kernel_rfl)) (fun _ _ _ h => h) (Or.inl ⟨by rfl, ?_⟩) ?_ ?_; rotate_left
        ·intro w'; go_simp; with_reducible rfl
        rotate_left
        ·simp only [Act.put, List.setIfInBounds_toArray, List.set_cons_zero, List.set_cons_succ, i64_w, i32_w]; rfl
        refine pure_ (i := 3) (N := some 546) (v := ?_) (a' := ?_) (dn_ 14 15) rfl rfl (any_of HT_.out (by kernel_rfl)) (fun _ _ _ h => h) (Or.inl ⟨by rfl, ?_⟩) ?_ ?_; rotate_left
        ·intro w'; go_simp; with_reducible rfl
        rotate_left
        ·simp only [Act.put, List.setIfInBounds_toArray, List.set_cons_zero, List.set_cons_succ, i64_w, i32_w]; rfl
        refine pure_ (i := 5) (N := some 548) (v := ?_) (a' := ?_) (dn_ 14 47) rfl rfl (any_of HT_.out (by kernel_rfl)) (fun _ _ _ h => h) (Or.inl ⟨by rfl, ?_⟩) ?_ ?_; rotate_left
        ·intro w'; go_simp; with_reducible rfl
        rotate_left
        ·simp only [Act.put, List.setIfInBounds_toArray, List.set_cons_zero, List.set_cons_succ, i64_w, i32_w]; rfl
        refine pure_ (i := 6) (N := some 549) (v := ?_) (a' := ?_) (dn_ 14 111) rfl rfl (any_of HT_.out (by kernel_rfl)) (fun _ _ _ h => h) (Or.inl ⟨by rfl, ?_⟩) ?_ ?_; rotate_left
        ·intro w'; go_simp; with_reducible rfl
        rotate_left
        ·simp only [Act.put, List.setIfInBounds_toArray, List.set_cons_zero, List.set_cons_succ, i64_w, i32_w]; rfl
        refine pure_ (i := 7) (N := some 550) (v := ?_) (a' := ?_) (dn_ 14 239) rfl rfl (any_of HT_.out (by kernel_rfl)) (fun _ _ _ h => h) (Or.inl ⟨by rfl, ?_⟩) ?_ ?_; rotate_left
        ·intro w'; go_simp; with_reducible rfl
        rotate_left
        ·simp only [Act.put, List.setIfInBounds_toArray, List.set_cons_zero, List.set_cons_succ, i64_w, i32_w]; rfl
        refine pure_ (i := 8) (N := some 551) (v := ?_) (a' := ?_) (dn_ 14 495) rfl rfl (any_of HT_.out (by kernel_rfl)) (fun _ _ _ h => h) (Or.inl ⟨by rfl, ?_⟩) ?_ ?_; rotate_left
        ·intro w'; go_simp; with_reducible rfl
        rotate_left
        ·simp only [Act.put, List.setIfInBounds_toArray, List.set_cons_zero, List.set_cons_succ, i64_w, i32_w]; rfl
        refine take_ (i := 4) (N := some 547) (v := ?_) (a' := ?_) (dn_ 14 511) rfl rfl (take_ofW HT_.out HW_.out (by kernel_rfl)) (fun _ _ _ h => h) (Or.inl ⟨by rfl, ?_⟩) hHeld ?_ ?_; rotate_left
        ·rintro w' ⟨s0, s1⟩; go_simp; with_reducible rfl
        rotate_left
        ·simp only [Act.put, List.setIfInBounds_toArray, List.set_cons_zero, List.set_cons_succ, i64_w, i32_w]; rfl
        refine take_ (i := 9) (N := some 552) (v := ?_) (a' := ?_) (dn_ 14 1023) rfl rfl (take_ofW HT_.out HW_.out (by kernel_rfl)) (fun _ _ _ h => h) (Or.inl ⟨by rfl, ?_⟩) hHeld ?_ ?_; rotate_left
        ·rintro w' ⟨s0, s1⟩; go_simp; with_reducible rfl
        rotate_left
        ·simp only [Act.put, List.setIfInBounds_toArray, List.set_cons_zero, List.set_cons_succ, i64_w, i32_w]; rfl
        refine pure_ (i := 10) (N := some 553) (v := ?_) (a' := ?_) (dn_ 14 2047) rfl rfl (any_of HT_.out (by kernel_rfl)) (fun _ _ _ h => h) (Or.inl ⟨by rfl, ?_⟩) ?_ ?_; rotate_left
        ·intro w'; go_simp; with_reducible rfl
        rotate_left
        ·simp only [Act.put, List.setIfInBounds_toArray, List.set_cons_zero, List.set_cons_succ, i64_w, i32_w]; rfl
        refine last_ (i := 11) (N := some 554) (dn_ 14 4095) rfl rfl (one_of HT_.out (by kernel_rfl)) (by decide) (fun K hK => ?_); refine value_ (w1 := ?_) (v := ?_) (by rfl) rfl ?_ ?_; rotate_left 2
        ·go_simp; constructor
         ·rfl
         ·rfl
        refine hK.out _ _ ?_; clear hK K; refine norm_ (a' := ?_) ?_ ?_; rotate_left
        ·show Act.put _ (some 554) _ = _; simp only [Act.put, List.setIfInBounds_toArray, List.set_cons_zero, List.set_cons_succ, i64_w, i32_w]; rfl
        refine last_ (i := 12) (N := some 555) (dn_ 14 8191) rfl rfl (one_of HT_.out (by kernel_rfl)) (by decide) (fun K hK => ?_); refine Kd.R_append_step (Kd.int .i64) (w0 := w) w.heap.size (by rfl) (.tmp 543) (.tmp 554) 26 3 (.int .i64 0) 8 rfl Tryd.underlying26 info3 rfl (by decide) (by omega) u46 x46_3 (wrap64 ((rd t422 x47_3) - (rd t422 (ji192)))) [.int .i64 (wrap64 ((rd t422 x47_3) - (rd t422 (ji192))))] (fun k_ => some k_ ≠ (.slice (some ad594) t422.length co189 : Value).ownBlock) (fun _ => False) rfl rfl ?aP (fun _ hk => hk.elim) ?aF ?aO ?aB ?aS ?aL ?_
        (case aP => exact rfl)
        (case aB => exact (hbS HB.out))
        (case aF => exact (fun k_ hk => Kd.fresh' (Kd.R_lt (roS HO_7.out)) k_ hk))
        (case aO => exact (roS HO_46.out))
        (case aS => exact (below_size (hbS HB.out)))
        (case aL => have := LMc205.out; omega)
        intro v616 w208 ho hb hg hat; rw [← Ny615.out] at ho; have n0_ := am (Kd.R_after (ok := (fun _ => True)) (by (with_reducible repeat (first | apply Kd.R_alloc | apply Kd.R_drewN | apply Kd.R_drew)); exact Kd.R_mono HO_7.out (fun _ hk => ⟨trivial, hk⟩)) hg hat); have n1_ := am (Kd.V_afterv (ok := (fun k_ => some k_ ≠ (.slice (some ad594) t422.length co189 : Value).ownBlock)) (by (with_reducible repeat (first | apply Kd.V_alloc | apply Kd.V_drewN | apply Kd.V_drew)); (first | exact HO_31.out | exact Kd.V_mono HO_31.out (fun _ hk => ⟨hk.2, hk.1⟩))) hg hat); have n2_ := am (hb); have n3_ := am (ho); clear HO_7; clear HO_31; clear HB; clear HO_46; have HO_7 := n0_; have HO_31 := n1_; have HB := n2_; have HO617 := n3_; clear n0_ n1_ n2_ n3_; clear ho hb hg hat; refine hK.out _ _ ?_; clear hK K; refine norm_ (a' := ?_) ?_ ?_; rotate_left
        ·show Act.put _ (some 555) _ = _; simp only [Act.put, List.setIfInBounds_toArray, List.set_cons_zero, List.set_cons_succ, i64_w, i32_w]; rfl
        refine pure_ (i := 13) (N := some 46) (v := ?_) (a' := ?_) (dn_ 14 16383) rfl rfl (any_of HT_.out (by kernel_rfl)) (fun _ _ _ h => h) (Or.inl ⟨by rfl, ?_⟩) ?_ ?_; rotate_left
        ·intro w'; go_simp; with_reducible rfl
        rotate_left
        ·simp only [Act.put, List.setIfInBounds_toArray, List.set_cons_zero, List.set_cons_succ, i64_w, i32_w]; rfl
        refine done_ (done_of HT_.out (by kernel_rfl)) ?_; (try go_wp2); go_roundg k3
        case measure => have := HJ93.out; have := HK3.out; omega
        case rel => exact ⟨(y615), (wrap64 (x47_3 + 1)), (by first | rfl | (simp; done) | (simp [*]; done)), H', ⟨by have := HJ93.out; have := HK3.out; omega⟩, ⟨by (with_reducible repeat (first | apply Kd.R_alloc | apply Kd.R_drewN | apply Kd.R_drew)); exact Kd.R_mono HO_7.out (fun _ hk => hk.2)⟩, ⟨by (with_reducible repeat (first | apply Kd.V_alloc | apply Kd.V_drewN | apply Kd.V_drew)); (first | exact HO_31.out | exact Kd.V_mono HO_31.out (fun _ hk => ⟨hk.2, hk.1⟩))⟩, ⟨roS HO617.out⟩, ⟨hbS HB.out⟩⟩
      ·rw [if_neg c190] at H; have c190b0 : decide (x47_3 < (t422.length : Int)) = false := decide_eq_false c190; clear c190; replace H := Option.bind_eq_some_iff.mp H; obtain ⟨⟨t618, t619⟩, A2090, H⟩ := H; (try dsimp only at H); have A209 := am A2090; clear A2090; by_cases c210 : t619 = true; rotate_left
       ·replace c210 := Bool.eq_false_iff.mpr c210; subst c210; rw [if_neg (show ¬ (false = true) by decide)] at H; (try dsimp only at H); exact absurd H (by simp)
       subst c210; rw [if_pos rfl] at H; (try dsimp only at H); obtain ⟨c211, H⟩ := itP H; have c211b0 : (t618 == (wrap64 ((t420.size : Int) + 1))) = true := beq_iff_eq.mpr c211; have c211b1 : (t618 != (wrap64 ((t420.size : Int) + 1))) = false := bne_eq_false_iff_eq.mpr c211; clear c211; have H' := am H; clear H; obtain ⟨Ao212, co212, eo212⟩ := Kd.R_slice HO_46.out; subst eo212; go_wp2_with (first | ((with_reducible refine gate_callee (f := 51) rfl ?_); refine goesL_ (some 559) rfl rfl Tryd.func51 (by kernel_rfl) rfl #[.string t420, .slice Ao212 x46_3.length co212] rfl (by (try simp only [List.map_toArray, List.map_cons, List.map_nil]); first | done | rfl | (simp only [List.length_drop, List.length_take]; rfl)) ?_; (with_reducible refine (impl_LeapAlong.calls k3 t420 _ _ x46_3 t618 true _ ?side1 ?side2 A209.out).mono ?_); (case side1 => repeat (first | exact (Kd.R_reads' HO_46.out).2.2 | (with_reducible refine Kd.C_alloc ?_ _) | (with_reducible refine Kd.C_drewN ?_ _) | (with_reducible refine Kd.C_drew ?_))); (case side2 => exact (Kd.R_reads' HO_46.out).2.1); rintro e w213 ⟨rfl, hb⟩; refine ⟨_, rfl, ?_⟩; replace HO_7 := am (Kd.R_below (roS HO_7.out) hb); replace HO_31 := am (Kd.V_below (by (with_reducible repeat (first | apply Kd.V_alloc | apply Kd.V_drewN | apply Kd.V_drew)); (first | exact HO_31.out | exact Kd.V_mono HO_31.out (fun _ hk => ⟨hk.2, hk.1⟩))) hb); replace HO_46 := am (Kd.R_below (roS HO_46.out) hb); replace HB := am (below_step (hbS HB.out) hb); (try clear hb); (try clear hk); )); (try subst hji192); go_meet
       case rel => exact ⟨_, H', ⟨by have := HJ93.out; have := HK3.out; first | omega | exact Nat.le_refl _⟩, ⟨hbS HB.out⟩⟩
   ·replace c179 := Bool.eq_false_iff.mpr c179; subst c179; rw [if_neg (show ¬ (false = true) by decide)] at H; (try dsimp only at H); have H' := am H; clear H; go_wp2; go_meet
    case rel => exact ⟨_, H', ⟨by have := HJ93.out; first | omega | exact Nat.le_refl _⟩, ⟨hbS HB.out⟩⟩
  case rest =>
   clear HC178; (try clear c1); (try clear c179); (try clear c180); (try clear c181); (try clear c182); (try clear c183); (try clear c184); (try clear c185); (try clear c186); (try clear c187); (try clear c190); (try clear c190b0); (try clear c191); (try clear c193); (try clear c194); (try clear c197); (try clear c197b0); (try clear c199); (try clear c200); (try clear c205); (try clear c210); (try clear c211); (try clear c211b0); (try clear c211b1); (try clear hx602_0); (try clear hx603_0); (try clear hx604_0); (try clear hx605_0); (try clear hx613_0); (try clear hx614_0); (try clear p602); (try clear p603); (try clear p604); (try clear p605); (try clear p613); (try clear p614); (try clear q602); (try clear q603); (try clear q604); (try clear q605); (try clear q613); (try clear q614); obtain ⟨kq, HA, HJ177, HB⟩ := hcut; go_step; exact laws_FnRiversCrossed.part_j11 kq _ l1 A1 c1 r w wc HR1 HC1 HA HJ177 HB
end Go.Proofs.YtfoflpomfmbjoaaDoor.X
end
