import Derived.Test.YtkokbcnecnpgcaaP4
import Derived.Test.YtkokbcnecnpgcaaP5
import Derived.Test.YtkokbcnecnpgcaaP6
import Derived.Test.YtkokbcnecnpgcaaP7
import Derived.Test.YtkokbcnecnpgcaaP8
import Derived.Test.YtkokbcnecnpgcaaP9
import Derived.Test.YtkokbcnecnpgcaaP10
import Derived.Test.YtkokbcnecnpgcaaP11
section
namespace Go.Proofs.Ytkokbcnecnpgcaa.X
open Go.Proofs.Ytkokbcnecnpgcaa.Sq Go.RowKit Go.Proofs.YtkokbcnecnpgcaaW.PrintWords Go.Proofs.YtkokbcnecnpgcaaW.PrintLast Go.Proofs.YtkokbcnecnpgcaaW.PrintMore
attribute [local go_sem] max2_int min2_int max_two min_two max_three min_three max_four min_four   -- for this text's walks alone
set_option linter.unusedVariables false
set_option linter.unusedSimpArgs false
/-- The region of a number. -/
def regionIn (i : Nat) : Code → Option Code
  | .region j o d => if j = i then some (.region j o d) else none
  | .seq a b => (regionIn i a).or (regionIn i b)
  | .cond _ a b => (regionIn i a).or (regionIn i b)
  | .block _ a => regionIn i a
  | .loop a => regionIn i a
  | _ => none
def regionAt (i : Nat) (c : Code) : Code := (regionIn i c).getD .skip
end Go.Proofs.Ytkokbcnecnpgcaa.X
end
section
namespace Go.Proofs.Ytkokbcnecnpgcaa.X
open Go.Proofs.Ytkokbcnecnpgcaa.Sq Go.RowKit Go.Proofs.YtkokbcnecnpgcaaW.PrintWords Go.Proofs.YtkokbcnecnpgcaaW.PrintLast Go.Proofs.YtkokbcnecnpgcaaW.PrintMore
attribute [local go_sem] max2_int min2_int max_two min_two max_three min_three max_four min_four   -- for this text's walks alone
set_option linter.unusedVariables false
set_option linter.unusedSimpArgs false
set_option maxHeartbeats 8000000 in
set_option maxRecDepth 1000000 in
theorem laws_FnPlanksLean.part529a {u0 u1 u2 u3 u4 u5 u6 u7 u8 u9 u10 u11 u12 u13 u14 u15 u16 u19 u20 u21 u22 u23 u24 u25 u26 u27 u28 u29 u30 u31 u32 u33 u34 u35 u36 u37 u38 u39 u40 u41 u42 u43 u44 u45 u46 u47 u48 u49 u50 u51 u52 u53 u54 u55 u56 u57 u58 u59 u60 u61 u62 u63 u64 u65 u66 u69 u70 u71 u72 u73 u74 u75 u76 u77 u78 u79 u80 u81 u82 u83 u84 u85 u86 u87 u88 u89 u90 u91 u92 u93 u94 u95 u96 u97 u98 u99 u100 u101 u102 u103 u104 u105 u106 u107 u108 u109 u110 u111 u112 u113 u114 u115 u116 u117 u118 u119 u120 u121 u122 u123 u124 u125 u126 u127 u128 u129 u130 u131 u132 u133 u134 u135 u136 u137 u138 u139 u140 u141 u142 u143 u144 u145 u146 u147 u148 u149 u150 u151 u152 u153 u154 u155 u156 u157 u158 u159 u160 u161 u162 u163 u164 u165 u166 u167 u168 u169 u170 u171 u172 u173 u174 u175 u176 u177 u178 u179 u180 u181 u182 u183 u184 u185 u186 u187 u188 u189 u190 u191 u192 u193 u194 u195 u196 u197 u198 u199 u200 u201 u202 u203 u204 u205 u206 u207 u208 u209 u210 u211 u212 u213 u214 u215 u216 u217 u218 u219 u220 u221 u222 u223 u224 u225 u226 u227 u228 u229 u230 u231 u232 u233 u234 u235 u236 u237 u238 u239 u240 u241 u242 u243 u244 u245 u246 u247 u248 u249 u250 u251 u252 u253 u254 u255 u256 u257 u258 u259 u260 u261 u262 u263 u264 u265 u266 u267 u268 u269 u270 u271 u272 u273 u274 u275 u276 u277 u278 u279 u280 u281 u282 u283 u284 u285 u286 u287 u288 u289 u290 u291 u292 u293 u294 u295 u296 u297 u298 u299 u300 u301 u302 u303 u304 u305 u306 u307 u308 u309 u310 u311 u312 u313 u314 u315 u316 u317 u318 u319 u320 u321 u322 u323 u324 u325 u326 u327 u328 u329 u330 u331 u332 u333 u334 u335 u336 u337 u338 u339 u340 u341 u342 u343 u344 u345 u346 u347 u348 u349 u350 u351 u352 u353 u354 u355 u356 u357 u358 u359 u360 u361 u362 u363 u364 u365 u366 u367 u368 u369 u370 u371 u372 u373 u374 u375 u376 u377 u378 u379 u380 u381 u382 u383 u384 u385 u386 u387 u388 u389 u390 u391 u392 u393 u394 u395 u396 u397 u398 u399 u400 u401 u402 u403 u404 u405 u406 u407 u408 u409 u410 u411 u412 u413 u414 u415 u416 u417 u418 u419 u420 u421 u422 u423 u424 u425 u426 u427 u428 u429 u430 u431 u432 u433 u434 u435 u436 u437 u438 u439 u440 u441 u442 u443 u444 u445 u446 u447 u448 u449 u450 u451 u452 u453 u454 u455 u456 u457 u458 u459 u460 u461 u462 u463 u464 u465 u466 u467 u468 u469 u470 u471 u472 u473 u474 u475 u476 u477 u478 u479 u480 u481 u482 u483 u484 u485 u486 u487 u488 u489 u490 u491 u492 u493 u494 u495 u496 u497 u498 u499 u500 u501 u502 u503 u504 u505 u506 u507 u508 u509 u510 u511 u512 u513 u514 u515 u516 u517 u518 u519 u520 u521 u522 u523 u524 u525 u526 u527 u528 u529 u530 u531 u532 u533 u534 u535 u536 u537 u538 u539 u540 u541 u542 u543 u544 u545 u546 u547 u548 u549 u550 u551 u552 u553 u554 u555 u556 u557 u558 u559 u560 u561 u562 u563 u564 u565 u566 u567 u568 u569 u570 u571 u572 u573 u574 u575 u576 u577 u578 u579 u580 u581 u582 u583 u584 u585 u586 u587 u588 u589 u590 u591 u592 u593 u594 u595 u596 u597 u598 u599 u600 u601 u602 u603 u604 u605 u606 u607 u608 u609 u610 u611 u612 u613 u614 u615 u616 u617 u618 u619 u620 u621 u622 u623 u624 u625 u626 u627 u628 u629 u630 u631 u632 u633 u634 u635 u636 u637 u638 u639 u640 u641 u642 u643 u644 u645 u646 u647 u648 u649 u650 u651 u652 u653 u654 u655 u656 u657 u658 u659 u660 u661 u662 u663 u664 u665 u666 u667 u668 u669 u670 u671 u672 u673 u674 u675 u676 u677 u678 u679 u680 u681 u682 u683 u684 u685 u686 u687 u688 u689 u690 u691 u692 u693 u694 u695 u696 u697 u698 u699 u700 u701 u702 u703 u704 u705 u706 u707 u708 u709 u710 u711 u712 u713 u714 u715 u716 u717 u718 u719 u720 u721 u722 u723 u724 u725 u726 u727 u728 u729 u730 : Value} (kj10 k2 : Nat) (t524 : Int) (t525 : List (List Int)) (t533 : List (List Int)) (t541 : Int) (t542 : Int) (t543 : Int) (t544 : Int) (t545 : Int) (t546 : Bool) (t550 : Int) (t551 : Int) (t552 : Int) (t553 : Int) (t554 : Bool) (t558 : Int) (t559 : Int) (t560 : Bool) (t561 : Bool) (t564 : Int) (t565 : Int) (t566 : Bool) (t569 : Int) (t570 : Int) (t571 : Bool) (t574 : Int) (t575 : Int) (t576 : Int) (t577 : Bool) (t578 : Bool) (x66_2 x438_2 : Int) (ad612 : Addr) (A612_0 Ao104 : Option Addr) (c612_0 co102 co104 : Nat) (r : Bool) (w wr : World) (HK2 : Aside0 (k2 + 1 ≤ kj10)) (HO_18 : Aside0 (Kd.N (Kd.slice 3 (Kd.int .i64)) 29 wr w.heap.size (fun k_ => some k_ ≠ ((.slice Ao104 t533.length co104) : Value).ownBlock) (.slice (some ad612) t525.length co102) t525)) (HO_22 : Aside0 (Kd.N (Kd.slice 3 (Kd.int .i64)) 29 wr w.heap.size (fun k_ => some k_ ≠ ((.slice (some ad612) t525.length co102) : Value).ownBlock ∧ some k_ ≠ ((.slice (some ad612) t525.length co102) : Value).ownBlock) (.slice Ao104 t533.length co104) t533)) (HO_436 : Aside0 (Kd.N (Kd.slice 3 (Kd.int .i64)) 29 wr w.heap.size (fun k_ => some k_ ≠ ((.slice Ao104 t533.length co104) : Value).ownBlock) (.slice (some ad612) t525.length co102) t525)) (HR612_0 : Aside0 (Kd.C (Kd.int .i64) wr A612_0 (rd_L2 t525 x438_2).length (rd_L2 t525 x438_2))) (HC612_0 : Aside0 ((rd_L2 t525 x438_2).length ≤ c612_0)) (HB : Aside0 (Below w.heap.size w wr)) (HC110 : Aside0 ((if ((rd_L2 t525 x438_2).length : Int) = 3 then (if 0 < ((rd_L2 t525 x438_2).length : Int) then (if 1 < ((rd_L2 t525 x438_2).length : Int) then (if 2 < ((rd_L2 t525 x438_2).length : Int) then (if (wrap64 ((wrap64 ((rd (rd_L2 t525 x438_2) 0) * (rd (rd_L2 t525 x438_2) 0))) + (wrap64 ((rd (rd_L2 t525 x438_2) 1) * (rd (rd_L2 t525 x438_2) 1))))) = (wrap64 ((rd (rd_L2 t525 x438_2) 2) * (rd (rd_L2 t525 x438_2) 2))) then (if (rd (rd_L2 t525 x438_2) 2) > t524 then (none) else (if (rd (rd_L2 t525 x438_2) 0) > (rd (rd_L2 t525 x438_2) 1) then (none) else (if x438_2 > 0 then (if 0 ≤ (wrap64 (x438_2 - 1)) then (if (wrap64 (x438_2 - 1)) < (t525.length : Int) then (if 2 < ((rd_L2 t525 (wrap64 (x438_2 - 1))).length : Int) then (if (rd (rd_L2 t525 (wrap64 (x438_2 - 1))) 2) > (rd (rd_L2 t525 x438_2) 2) then (none) else (if (rd (rd_L2 t525 (wrap64 (x438_2 - 1))) 2) = (rd (rd_L2 t525 x438_2) 2) then (if 0 < ((rd_L2 t525 (wrap64 (x438_2 - 1))).length : Int) then (laws_FnPlanksLean.j4 k2 t524 t525 t533 t541 t542 t543 t544 t545 t546 t550 t551 t552 t553 t554 t558 t559 t560 t561 t564 t565 t566 t569 t570 t571 t574 t575 t576 t577 t578 x66_2 (rd_L2 t525 x438_2) t525 (t525.length : Int) x438_2 (decide ((rd (rd_L2 t525 (wrap64 (x438_2 - 1))) 0) ≥ (rd (rd_L2 t525 x438_2) 0)))) else (none)) else (laws_FnPlanksLean.j4 k2 t524 t525 t533 t541 t542 t543 t544 t545 t546 t550 t551 t552 t553 t554 t558 t559 t560 t561 t564 t565 t566 t569 t570 t571 t574 t575 t576 t577 t578 x66_2 (rd_L2 t525 x438_2) t525 (t525.length : Int) x438_2 false))) else (none)) else (none)) else (none)) else (laws_FnPlanksLean.j4 k2 t524 t525 t533 t541 t542 t543 t544 t545 t546 t550 t551 t552 t553 t554 t558 t559 t560 t561 t564 t565 t566 t569 t570 t571 t574 t575 t576 t577 t578 x66_2 (rd_L2 t525 x438_2) t525 (t525.length : Int) x438_2 false)))) else (none)) else (none)) else (none)) else (none)) else (none)) = some r)) (hx612_0 : wr.cell? (ad612.add x438_2.toNat) = some (.slice A612_0 (rd_L2 t525 x438_2).length c612_0)) (c107b0 : decide (x438_2 < (t525.length : Int)) = true) (c108b0 : decide (0 ≤ x438_2) = true) (c109b0 : decide (x438_2 < (t525.length : Int)) = true) (p612 : (0 ≤ x438_2) = True) (q612 : (x438_2 < (t525.length : Int)) = True) (hw1 : x438_2 > 0) (hw2 : (rd (rd_L2 t525 (wrap64 (x438_2 - 1))) 2) = (rd (rd_L2 t525 x438_2) 2)) (J K' : Act → World → Prop) (Q' : Exit → Act → World → Prop) (h1 : ∀ (y443 y444 y445 y446 y447 y448 y449 y450 y451 y452 y453 y454 y455 y456 y457 y458 y459 y460 y461 y462 y463 y464 y465 y466 y467 y468 y469 y470 y471 y472 y473 y474 y475 y476 y477 y478 y479 y480 y481 y482 y483 y484 y485 y486 y487 y488 y489 y490 y491 y492 y493 y494 y495 y496 y497 y498 y499 y500 y501 y502 y503 y504 y505 y506 y507 y508 y509 y510 y511 y512 y513 y514 y515 y516 y517 y518 y519 y520 y521 y522 y523 y524 y525 y526 y527 y528 : Value) (v529 : Value) (wc : World), (∃ (kq : Nat) (x529_109 : Bool), v529 = .bool x529_109 ∧ Aside0 (laws_FnPlanksLean.j4 kq t524 t525 t533 t541 t542 t543 t544 t545 t546 t550 t551 t552 t553 t554 t558 t559 t560 t561 t564 t565 t566 t569 t570 t571 t574 t575 t576 t577 t578 x66_2 (rd_L2 t525 x438_2) t525 (t525.length : Int) x438_2 x529_109 = some r) ∧ Aside0 (kq ≤ k2) ∧ Aside0 (Kd.N (Kd.slice 3 (Kd.int .i64)) 29 wc w.heap.size (fun k_ => some k_ ≠ ((.slice Ao104 t533.length co104) : Value).ownBlock) (.slice (some ad612) t525.length co102) t525) ∧ Aside0 (Kd.N (Kd.slice 3 (Kd.int .i64)) 29 wc w.heap.size (fun k_ => some k_ ≠ ((.slice (some ad612) t525.length co102) : Value).ownBlock ∧ some k_ ≠ ((.slice (some ad612) t525.length co102) : Value).ownBlock) (.slice Ao104 t533.length co104) t533) ∧ Aside0 (Kd.N (Kd.slice 3 (Kd.int .i64)) 29 wc w.heap.size (fun k_ => some k_ ≠ ((.slice Ao104 t533.length co104) : Value).ownBlock) (.slice (some ad612) t525.length co102) t525) ∧ Aside0 (Kd.C (Kd.int .i64) wc A612_0 (rd_L2 t525 x438_2).length (rd_L2 t525 x438_2)) ∧ Aside0 (Below w.heap.size w wc)) → J ⟨#[u0, u1, u2, u3, u4, u5, u6, u7, u8, u9, u10, u11, u12, u13, u14, u15, u16, Value.int .i64 t524, .slice (some ad612) t525.length co102, u19, u20, u21, u22, u23, u24, u25, u26, u27, u28, u29, u30, u31, u32, u33, u34, u35, u36, u37, u38, u39, u40, u41, u42, u43, u44, u45, u46, u47, u48, u49, u50, u51, u52, u53, u54, u55, u56, u57, u58, u59, u60, u61, u62, u63, u64, u65, u66, Value.int .i64 x438_2, .slice A612_0 (rd_L2 t525 x438_2).length c612_0, u69, u70, u71, u72, u73, u74, u75, u76, u77, u78, u79, u80, u81, u82, u83, u84, u85, u86, u87, u88, u89, u90, u91, u92, u93, u94, u95, u96, u97, u98, u99, u100, u101, u102, u103, u104, u105, u106, u107, u108, u109, u110, u111, u112, u113, u114, u115, u116, u117, u118, u119, u120, u121, u122, u123, u124, u125, u126, u127, u128, u129, u130, u131, u132, u133, u134, u135, u136, u137, u138, u139, u140, u141, u142, u143, u144, u145, u146, u147, u148, u149, u150, u151, u152, u153, u154, u155, u156, u157, u158, u159, u160, u161, u162, u163, u164, u165, u166, u167, u168, u169, u170, u171, u172, u173, u174, u175, u176, u177, u178, u179, u180, u181, u182, u183, u184, u185, u186, u187, u188, u189, u190, u191, u192, u193, u194, u195, u196, u197, u198, u199, u200, u201, u202, u203, u204, u205, u206, u207, u208, u209, u210, u211, u212, u213, u214, u215, u216, u217, u218, u219, u220, u221, u222, u223, u224, u225, u226, u227, u228, u229, u230, u231, u232, u233, u234, u235, u236, u237, u238, u239, u240, u241, u242, u243, u244, u245, u246, u247, u248, u249, u250, u251, u252, u253, u254, u255, u256, u257, u258, u259, u260, u261, u262, u263, u264, u265, u266, u267, u268, u269, u270, u271, u272, u273, u274, u275, u276, u277, u278, u279, u280, u281, u282, u283, u284, u285, u286, u287, u288, u289, u290, u291, u292, u293, u294, u295, u296, u297, u298, u299, u300, u301, u302, u303, u304, u305, u306, u307, u308, u309, u310, u311, u312, u313, u314, u315, u316, u317, u318, u319, u320, u321, u322, u323, u324, u325, u326, u327, u328, u329, u330, u331, u332, u333, u334, u335, u336, u337, u338, u339, u340, u341, u342, u343, u344, u345, u346, u347, u348, u349, u350, u351, u352, u353, u354, u355, u356, u357, u358, u359, u360, u361, u362, u363, u364, u365, u366, u367, u368, u369, u370, u371, u372, u373, u374, u375, u376, u377, u378, u379, u380, u381, u382, u383, u384, u385, u386, u387, u388, u389, u390, u391, u392, u393, u394, u395, u396, u397, u398, u399, u400, u401, u402, u403, u404, u405, u406, u407, u408, u409, u410, u411, u412, u413, u414, u415, u416, u417, u418, u419, u420, u421, u422, u423, u424, u425, u426, u427, u428, u429, u430, u431, u432, u433, u434, u435, u436, u437, u438, u439, u440, u441, u442, y443, y444, y445, y446, y447, y448, y449, y450, y451, y452, y453, y454, y455, y456, y457, y458, y459, y460, y461, y462, y463, y464, y465, y466, y467, y468, y469, y470, y471, y472, y473, y474, y475, y476, y477, y478, y479, y480, y481, y482, y483, y484, y485, y486, y487, y488, y489, y490, y491, y492, y493, y494, y495, y496, y497, y498, y499, y500, y501, y502, y503, y504, y505, y506, y507, y508, y509, y510, y511, y512, y513, y514, y515, y516, y517, y518, y519, y520, y521, y522, y523, y524, y525, y526, y527, y528, v529, u530, u531, u532, u533, u534, u535, u536, u537, u538, u539, u540, u541, u542, u543, u544, u545, u546, u547, u548, u549, u550, u551, u552, u553, u554, u555, u556, u557, u558, u559, u560, u561, u562, u563, u564, u565, u566, u567, u568, u569, u570, u571, u572, u573, u574, u575, u576, u577, u578, u579, u580, u581, u582, u583, u584, u585, u586, u587, u588, u589, u590, u591, u592, u593, u594, u595, u596, u597, u598, u599, u600, u601, u602, u603, u604, u605, u606, u607, u608, u609, u610, u611, u612, u613, u614, u615, u616, u617, u618, u619, u620, u621, u622, u623, u624, u625, u626, u627, u628, u629, u630, u631, u632, u633, u634, u635, u636, u637, u638, u639, u640, u641, u642, u643, u644, u645, u646, u647, u648, u649, u650, u651, u652, u653, u654, u655, u656, u657, u658, u659, u660, u661, u662, u663, u664, u665, u666, u667, u668, u669, u670, u671, u672, u673, u674, u675, u676, u677, u678, u679, u680, u681, u682, u683, u684, u685, u686, u687, u688, u689, u690, u691, u692, u693, u694, u695, u696, u697, u698, u699, u700, u701, u702, u703, u704, u705, u706, u707, u708, u709, u710, u711, u712, u713, u714, u715, u716, u717, u718, u719, u720, u721, u722, u723, u724, u725, u726, u727, u728, u729, u730], []⟩ wc) (h2 : ∀ (a' : Act) (w' : World), Met J a' w' → K' a' w') :
  Code.wp Try.prog (regionAt 52 (Try.f3.body.getD .skip)) (Exit.then K' Q') ⟨#[u0, u1, u2, u3, u4, u5, u6, u7, u8, u9, u10, u11, u12, u13, u14, u15, u16, Value.int .i64 t524, .slice (some ad612) t525.length co102, u19, u20, u21, u22, u23, u24, u25, u26, u27, u28, u29, u30, u31, u32, u33, u34, u35, u36, u37, u38, u39, u40, u41, u42, u43, u44, u45, u46, u47, u48, u49, u50, u51, u52, u53, u54, u55, u56, u57, u58, u59, u60, u61, u62, u63, u64, u65, u66, Value.int .i64 x438_2, .slice A612_0 (rd_L2 t525 x438_2).length c612_0, u69, u70, u71, u72, u73, u74, u75, u76, u77, u78, u79, u80, u81, u82, u83, u84, u85, u86, u87, u88, u89, u90, u91, u92, u93, u94, u95, u96, u97, u98, u99, u100, u101, u102, u103, u104, u105, u106, u107, u108, u109, u110, u111, u112, u113, u114, u115, u116, u117, u118, u119, u120, u121, u122, u123, u124, u125, u126, u127, u128, u129, u130, u131, u132, u133, u134, u135, u136, u137, u138, u139, u140, u141, u142, u143, u144, u145, u146, u147, u148, u149, u150, u151, u152, u153, u154, u155, u156, u157, u158, u159, u160, u161, u162, u163, u164, u165, u166, u167, u168, u169, u170, u171, u172, u173, u174, u175, u176, u177, u178, u179, u180, u181, u182, u183, u184, u185, u186, u187, u188, u189, u190, u191, u192, u193, u194, u195, u196, u197, u198, u199, u200, u201, u202, u203, u204, u205, u206, u207, u208, u209, u210, u211, u212, u213, u214, u215, u216, u217, u218, u219, u220, u221, u222, u223, u224, u225, u226, u227, u228, u229, u230, u231, u232, u233, u234, u235, u236, u237, u238, u239, u240, u241, u242, u243, u244, u245, u246, u247, u248, u249, u250, u251, u252, u253, u254, u255, u256, u257, u258, u259, u260, u261, u262, u263, u264, u265, u266, u267, u268, u269, u270, u271, u272, u273, u274, u275, u276, u277, u278, u279, u280, u281, u282, u283, u284, u285, u286, u287, u288, u289, u290, u291, u292, u293, u294, u295, u296, u297, u298, u299, u300, u301, u302, u303, u304, u305, u306, u307, u308, u309, u310, u311, u312, u313, u314, u315, u316, u317, u318, u319, u320, u321, u322, u323, u324, u325, u326, u327, u328, u329, u330, u331, u332, u333, u334, u335, u336, u337, u338, u339, u340, u341, u342, u343, u344, u345, u346, u347, u348, u349, u350, u351, u352, u353, u354, u355, u356, u357, u358, u359, u360, u361, u362, u363, u364, u365, u366, u367, u368, u369, u370, u371, u372, u373, u374, u375, u376, u377, u378, u379, u380, u381, u382, u383, u384, u385, u386, u387, u388, u389, u390, u391, u392, u393, u394, u395, u396, u397, u398, u399, u400, u401, u402, u403, u404, u405, u406, u407, u408, u409, u410, u411, u412, u413, u414, u415, u416, u417, u418, u419, u420, u421, u422, u423, u424, u425, u426, u427, u428, u429, u430, u431, u432, u433, u434, u435, u436, u437, u438, u439, u440, u441, u442, u443, u444, u445, u446, u447, u448, u449, u450, u451, u452, u453, u454, u455, u456, u457, u458, u459, u460, u461, u462, u463, u464, u465, u466, u467, u468, u469, u470, u471, u472, u473, u474, u475, u476, u477, u478, u479, u480, u481, u482, u483, u484, u485, u486, u487, u488, u489, u490, u491, u492, u493, u494, u495, u496, u497, u498, u499, u500, u501, u502, u503, u504, u505, u506, u507, u508, u509, u510, u511, u512, u513, u514, u515, u516, u517, u518, u519, u520, u521, u522, u523, u524, u525, u526, u527, u528, u529, u530, u531, u532, u533, u534, u535, u536, u537, u538, u539, u540, u541, u542, u543, u544, u545, u546, u547, u548, u549, u550, u551, u552, u553, u554, u555, u556, u557, u558, u559, u560, u561, u562, u563, u564, u565, u566, u567, u568, u569, u570, u571, u572, u573, u574, u575, u576, u577, u578, u579, u580, u581, u582, u583, u584, u585, u586, u587, u588, u589, u590, u591, u592, u593, u594, u595, u596, u597, u598, u599, u600, u601, u602, u603, u604, u605, u606, u607, u608, u609, u610, u611, u612, u613, u614, u615, u616, u617, u618, u619, u620, u621, u622, u623, u624, u625, u626, u627, u628, u629, u630, u631, u632, u633, u634, u635, u636, u637, u638, u639, u640, u641, u642, u643, u644, u645, u646, u647, u648, u649, u650, u651, u652, u653, u654, u655, u656, u657, u658, u659, u660, u661, u662, u663, u664, u665, u666, u667, u668, u669, u670, u671, u672, u673, u674, u675, u676, u677, u678, u679, u680, u681, u682, u683, u684, u685, u686, u687, u688, u689, u690, u691, u692, u693, u694, u695, u696, u697, u698, u699, u700, u701, u702, u703, u704, u705, u706, u707, u708, u709, u710, u711, u712, u713, u714, u715, u716, u717, u718, u719, u720, u721, u722, u723, u724, u725, u726, u727, u728, u729, u730], []⟩ wr := by
 conv => arg 2; whnf
 (try dsimp only [List.append])
 have H := HC110.out
 clear HC110; obtain ⟨c111, H⟩ := itP H
 have c111b0 : (((rd_L2 t525 x438_2).length : Int) == 3) = true := beq_iff_eq.mpr c111
 have c111b1 : (((rd_L2 t525 x438_2).length : Int) != 3) = false := bne_eq_false_iff_eq.mpr c111
 clear c111
 (first | rw [c111b0] | (simp only [i64_w, i32_w]; rw [c111b0]) | skip)
 obtain ⟨c112, H⟩ := itP H; have c112b0 : decide (0 < ((rd_L2 t525 x438_2).length : Int)) = true := decide_eq_true c112
 have c112b1 : decide (0 < (rd_L2 t525 x438_2).length) = true := decide_eq_true (by omega)
 clear c112; obtain ⟨c113, H⟩ := itP H; have c113b0 : decide (1 < ((rd_L2 t525 x438_2).length : Int)) = true := decide_eq_true c113
 have c113b1 : decide (1 < (rd_L2 t525 x438_2).length) = true := decide_eq_true (by omega)
 clear c113; obtain ⟨c114, H⟩ := itP H; have c114b0 : decide (2 < ((rd_L2 t525 x438_2).length : Int)) = true := decide_eq_true c114
 have c114b1 : decide (2 < (rd_L2 t525 x438_2).length) = true := decide_eq_true (by omega)
 clear c114; obtain ⟨c115, H⟩ := itP H
 have c115b0 : ((wrap64 ((wrap64 ((rd (rd_L2 t525 x438_2) 0) * (rd (rd_L2 t525 x438_2) 0))) + (wrap64 ((rd (rd_L2 t525 x438_2) 1) * (rd (rd_L2 t525 x438_2) 1))))) == (wrap64 ((rd (rd_L2 t525 x438_2) 2) * (rd (rd_L2 t525 x438_2) 2)))) = true := beq_iff_eq.mpr c115
 have c115b1 : ((wrap64 ((wrap64 ((rd (rd_L2 t525 x438_2) 0) * (rd (rd_L2 t525 x438_2) 0))) + (wrap64 ((rd (rd_L2 t525 x438_2) 1) * (rd (rd_L2 t525 x438_2) 1))))) != (wrap64 ((rd (rd_L2 t525 x438_2) 2) * (rd (rd_L2 t525 x438_2) 2)))) = false := bne_eq_false_iff_eq.mpr c115
 clear c115; obtain ⟨c116, H⟩ := itN H; have c116b0 : decide (t524 < (rd (rd_L2 t525 x438_2) 2)) = false := decide_eq_false c116; clear c116; obtain ⟨c117, H⟩ := itN H; have c117b0 : decide ((rd (rd_L2 t525 x438_2) 1) < (rd (rd_L2 t525 x438_2) 0)) = false := decide_eq_false c117; clear c117
 by_cases c118 : x438_2 > 0
 ·rw [if_pos c118] at H
  have c118b0 : decide (0 < x438_2) = true := decide_eq_true c118; clear c118
  obtain ⟨ji119, hji119⟩ : ∃ j_ : Int, (wrap64 (x438_2 - 1)) = j_ := ⟨_, rfl⟩
  replace H : (if 0 ≤ (ji119) then (if (ji119) < (t525.length : Int) then (if 2 < ((rd_L2 t525 (ji119)).length : Int) then (if (rd (rd_L2 t525 (ji119)) 2) > (rd (rd_L2 t525 x438_2) 2) then (none) else (if (rd (rd_L2 t525 (ji119)) 2) = (rd (rd_L2 t525 x438_2) 2) then (if 0 < ((rd_L2 t525 (ji119)).length : Int) then (laws_FnPlanksLean.j4 k2 t524 t525 t533 t541 t542 t543 t544 t545 t546 t550 t551 t552 t553 t554 t558 t559 t560 t561 t564 t565 t566 t569 t570 t571 t574 t575 t576 t577 t578 x66_2 (rd_L2 t525 x438_2) t525 (t525.length : Int) x438_2 (decide ((rd (rd_L2 t525 (ji119)) 0) ≥ (rd (rd_L2 t525 x438_2) 0)))) else (none)) else (laws_FnPlanksLean.j4 k2 t524 t525 t533 t541 t542 t543 t544 t545 t546 t550 t551 t552 t553 t554 t558 t559 t560 t561 t564 t565 t566 t569 t570 t571 t574 t575 t576 t577 t578 x66_2 (rd_L2 t525 x438_2) t525 (t525.length : Int) x438_2 false))) else (none)) else (none)) else (none)) = some r := by first | (rw [hji119] at H; exact H) | (simp only [hji119] at H ⊢; exact H)
  have hji119w : (IntKind.i64.wrap (x438_2 - 1)) = ji119 := (i64_w _).trans hji119
  obtain ⟨c120, H⟩ := itP H; have c120b0 : decide (0 ≤ (ji119)) = true := decide_eq_true c120; clear c120; obtain ⟨c121, H⟩ := itP H; have c121b0 : decide ((ji119) < (t525.length : Int)) = true := decide_eq_true c121; clear c121; obtain ⟨c122, H⟩ := itP H; have c122b0 : decide (2 < ((rd_L2 t525 (ji119)).length : Int)) = true := decide_eq_true c122
  have c122b1 : decide (2 < (rd_L2 t525 (ji119)).length) = true := decide_eq_true (by omega)
  clear c122; obtain ⟨c123, H⟩ := itN H; have c123b0 : decide ((rd (rd_L2 t525 x438_2) 2) < (rd (rd_L2 t525 (ji119)) 2)) = false := decide_eq_false c123; clear c123
  by_cases c124 : (rd (rd_L2 t525 (ji119)) 2) = (rd (rd_L2 t525 x438_2) 2)
  ·rw [if_pos c124] at H
   have c124b0 : ((rd (rd_L2 t525 (ji119)) 2) == (rd (rd_L2 t525 x438_2) 2)) = true := beq_iff_eq.mpr c124
   have c124b1 : ((rd (rd_L2 t525 (ji119)) 2) != (rd (rd_L2 t525 x438_2) 2)) = false := bne_eq_false_iff_eq.mpr c124
   clear c124; obtain ⟨c125, H⟩ := itP H; have c125b0 : decide (0 < ((rd_L2 t525 (ji119)).length : Int)) = true := decide_eq_true c125
   have c125b1 : decide (0 < (rd_L2 t525 (ji119)).length) = true := decide_eq_true (by omega)
   clear c125
   have H' := am H
   clear H
   have p613 : 0 ≤ (0 : Int) := (by omega)
   have q613 : 0 < ((rd_L2 t525 x438_2).length : Int) := of_decide_eq_true (by first | (with_reducible assumption) | assumption)
   obtain ⟨ad613, e613, hx613_0⟩ := Kd.at_int (by repeat (first | (with_reducible exact HR612_0.out) | (with_reducible refine Kd.C_alloc ?_ _) | (with_reducible refine Kd.C_drewN ?_ _) | (with_reducible refine Kd.C_drew ?_) | exact HR612_0.out)) 0 p613 q613
   cases e613
   have qi613 : (0 < (rd_L2 t525 x438_2).length) = True := eq_true (by omega)
   (try rw [show ((0 : Int)).toNat = 0 from rfl] at hx613_0)
   (try rw [Addr.add_zero'] at hx613_0)
   replace p613 := eq_true p613; replace q613 := eq_true q613
   have p614 : 0 ≤ (0 : Int) := (by omega)
   have q614 : 0 < ((rd_L2 t525 x438_2).length : Int) := of_decide_eq_true (by first | (with_reducible assumption) | assumption)
   obtain ⟨ad614, e614, hx614_0⟩ := Kd.at_int (by repeat (first | (with_reducible exact HR612_0.out) | (with_reducible refine Kd.C_alloc ?_ _) | (with_reducible refine Kd.C_drewN ?_ _) | (with_reducible refine Kd.C_drew ?_) | exact HR612_0.out)) 0 p614 q614
   obtain rfl : ad613 = ad614 := (by injection e614)
   have qi614 : (0 < (rd_L2 t525 x438_2).length) = True := eq_true (by omega)
   (try rw [show ((0 : Int)).toNat = 0 from rfl] at hx614_0)
   (try rw [Addr.add_zero'] at hx614_0)
   replace p614 := eq_true p614; replace q614 := eq_true q614
   have p615 : 0 ≤ (1 : Int) := (by omega)
   have q615 : 1 < ((rd_L2 t525 x438_2).length : Int) := of_decide_eq_true (by first | (with_reducible assumption) | assumption)
   obtain ⟨ad615, e615, hx615_0⟩ := Kd.at_int (by repeat (first | (with_reducible exact HR612_0.out) | (with_reducible refine Kd.C_alloc ?_ _) | (with_reducible refine Kd.C_drewN ?_ _) | (with_reducible refine Kd.C_drew ?_) | exact HR612_0.out)) 1 p615 q615
   obtain rfl : ad613 = ad615 := (by injection e615)
   (try simp only [show (1 : Int).toNat = 1 from rfl, Nat.reduceMul, Nat.reduceEqDiff, Go.Addr.add, ↓reduceIte] at hx615_0)
   have qi615 : (1 < (rd_L2 t525 x438_2).length) = True := eq_true (by omega)
   (try rw [show ((1 : Int)).toNat = 1 from rfl] at hx615_0)
   replace p615 := eq_true p615; replace q615 := eq_true q615
   have p616 : 0 ≤ (1 : Int) := (by omega)
   have q616 : 1 < ((rd_L2 t525 x438_2).length : Int) := of_decide_eq_true (by first | (with_reducible assumption) | assumption)
   obtain ⟨ad616, e616, hx616_0⟩ := Kd.at_int (by repeat (first | (with_reducible exact HR612_0.out) | (with_reducible refine Kd.C_alloc ?_ _) | (with_reducible refine Kd.C_drewN ?_ _) | (with_reducible refine Kd.C_drew ?_) | exact HR612_0.out)) 1 p616 q616
   obtain rfl : ad613 = ad616 := (by injection e616)
   (try simp only [show (1 : Int).toNat = 1 from rfl, Nat.reduceMul, Nat.reduceEqDiff, Go.Addr.add, ↓reduceIte] at hx616_0)
   have qi616 : (1 < (rd_L2 t525 x438_2).length) = True := eq_true (by omega)
   (try rw [show ((1 : Int)).toNat = 1 from rfl] at hx616_0)
   replace p616 := eq_true p616; replace q616 := eq_true q616
   have p617 : 0 ≤ (2 : Int) := (by omega)
   have q617 : 2 < ((rd_L2 t525 x438_2).length : Int) := of_decide_eq_true (by first | (with_reducible assumption) | assumption)
   obtain ⟨ad617, e617, hx617_0⟩ := Kd.at_int (by repeat (first | (with_reducible exact HR612_0.out) | (with_reducible refine Kd.C_alloc ?_ _) | (with_reducible refine Kd.C_drewN ?_ _) | (with_reducible refine Kd.C_drew ?_) | exact HR612_0.out)) 2 p617 q617
   obtain rfl : ad613 = ad617 := (by injection e617)
   (try simp only [show (2 : Int).toNat = 2 from rfl, Nat.reduceMul, Nat.reduceEqDiff, Go.Addr.add, ↓reduceIte] at hx617_0)
   have qi617 : (2 < (rd_L2 t525 x438_2).length) = True := eq_true (by omega)
   (try rw [show ((2 : Int)).toNat = 2 from rfl] at hx617_0)
   replace p617 := eq_true p617; replace q617 := eq_true q617
   have p618 : 0 ≤ (2 : Int) := (by omega)
   have q618 : 2 < ((rd_L2 t525 x438_2).length : Int) := of_decide_eq_true (by first | (with_reducible assumption) | assumption)
   obtain ⟨ad618, e618, hx618_0⟩ := Kd.at_int (by repeat (first | (with_reducible exact HR612_0.out) | (with_reducible refine Kd.C_alloc ?_ _) | (with_reducible refine Kd.C_drewN ?_ _) | (with_reducible refine Kd.C_drew ?_) | exact HR612_0.out)) 2 p618 q618
   obtain rfl : ad613 = ad618 := (by injection e618)
   (try simp only [show (2 : Int).toNat = 2 from rfl, Nat.reduceMul, Nat.reduceEqDiff, Go.Addr.add, ↓reduceIte] at hx618_0)
   have qi618 : (2 < (rd_L2 t525 x438_2).length) = True := eq_true (by omega)
   (try rw [show ((2 : Int)).toNat = 2 from rfl] at hx618_0)
   replace p618 := eq_true p618; replace q618 := eq_true q618
   have p619 : 0 ≤ (2 : Int) := (by omega)
   have q619 : 2 < ((rd_L2 t525 x438_2).length : Int) := of_decide_eq_true (by first | (with_reducible assumption) | assumption)
   obtain ⟨ad619, e619, hx619_0⟩ := Kd.at_int (by repeat (first | (with_reducible exact HR612_0.out) | (with_reducible refine Kd.C_alloc ?_ _) | (with_reducible refine Kd.C_drewN ?_ _) | (with_reducible refine Kd.C_drew ?_) | exact HR612_0.out)) 2 p619 q619
   obtain rfl : ad613 = ad619 := (by injection e619)
   (try simp only [show (2 : Int).toNat = 2 from rfl, Nat.reduceMul, Nat.reduceEqDiff, Go.Addr.add, ↓reduceIte] at hx619_0)
   have qi619 : (2 < (rd_L2 t525 x438_2).length) = True := eq_true (by omega)
   (try rw [show ((2 : Int)).toNat = 2 from rfl] at hx619_0)
   replace p619 := eq_true p619; replace q619 := eq_true q619
   have p620 : 0 ≤ (0 : Int) := (by omega)
   have q620 : 0 < ((rd_L2 t525 x438_2).length : Int) := of_decide_eq_true (by first | (with_reducible assumption) | assumption)
   obtain ⟨ad620, e620, hx620_0⟩ := Kd.at_int (by repeat (first | (with_reducible exact HR612_0.out) | (with_reducible refine Kd.C_alloc ?_ _) | (with_reducible refine Kd.C_drewN ?_ _) | (with_reducible refine Kd.C_drew ?_) | exact HR612_0.out)) 0 p620 q620
   obtain rfl : ad613 = ad620 := (by injection e620)
   have qi620 : (0 < (rd_L2 t525 x438_2).length) = True := eq_true (by omega)
   (try rw [show ((0 : Int)).toNat = 0 from rfl] at hx620_0)
   (try rw [Addr.add_zero'] at hx620_0)
   replace p620 := eq_true p620; replace q620 := eq_true q620
   have p621 : 0 ≤ (1 : Int) := (by omega)
   have q621 : 1 < ((rd_L2 t525 x438_2).length : Int) := of_decide_eq_true (by first | (with_reducible assumption) | assumption)
   obtain ⟨ad621, e621, hx621_0⟩ := Kd.at_int (by repeat (first | (with_reducible exact HR612_0.out) | (with_reducible refine Kd.C_alloc ?_ _) | (with_reducible refine Kd.C_drewN ?_ _) | (with_reducible refine Kd.C_drew ?_) | exact HR612_0.out)) 1 p621 q621
   obtain rfl : ad613 = ad621 := (by injection e621)
   (try simp only [show (1 : Int).toNat = 1 from rfl, Nat.reduceMul, Nat.reduceEqDiff, Go.Addr.add, ↓reduceIte] at hx621_0)
   have qi621 : (1 < (rd_L2 t525 x438_2).length) = True := eq_true (by omega)
   (try rw [show ((1 : Int)).toNat = 1 from rfl] at hx621_0)
   replace p621 := eq_true p621; replace q621 := eq_true q621
   have p622 : 0 ≤ ((ji119) : Int) := of_decide_eq_true (by first | (with_reducible assumption) | assumption)
   have q622 : (ji119) < (t525.length : Int) := of_decide_eq_true (by first | (with_reducible assumption) | assumption)
   obtain ⟨ad622, A622_0, c622_0, e622, hx622_0, hl622_0, hi622_0⟩ := at_L2 (Kd.N_reads' HO_18.out).2.2 (ji119) p622 q622
   obtain rfl : ad612 = ad622 := (by injection e622)
   obtain ⟨ce622, hce622, hMe622, hcc622⟩ := Kd.N_get HO_18.out [] (ji119) p622 (by first | exact q622 | exact of_decide_eq_true (by first | (with_reducible assumption) | assumption) | (have e_ := (Kd.N_reads' HO_18.out).1; omega))
   obtain ⟨ua622_0, uc622_0, rfl, ul622_0, ge622_0⟩ := Kd.FK_slice_open hMe622
   have hv622_0 := hcc622 0 _ rfl
   rw [Nat.add_zero, show ((Kd.slice 3 (Kd.int .i64))).sz = 1 from rfl, Nat.mul_one] at hv622_0
   replace hv622_0 := Option.some.inj (hv622_0.symm.trans hx622_0)
   injection hv622_0 with hva_ hvn_ hvc_
   rw [hva_] at ge622_0
   rw [hvc_] at ul622_0
   have HL622_0 := am (show Kd.V (Kd.int .i64) 3 _ w.heap.size _ _ (rd_L2 t525 (ji119)) from Kd.V_mk ul622_0 ge622_0)
   clear hva_ hvn_ hvc_ ge622_0 ul622_0; clear hcc622 hce622; have HR622_0 := am hi622_0; have HC622_0 := am hl622_0; clear hi622_0 hl622_0; replace p622 := eq_true p622; replace q622 := eq_true q622
   have p623 : 0 ≤ (2 : Int) := (by omega)
   have q623 : 2 < ((rd_L2 t525 (ji119)).length : Int) := of_decide_eq_true (by first | (with_reducible assumption) | assumption)
   obtain ⟨ad623, e623, hx623_0⟩ := Kd.at_int (by repeat (first | (with_reducible exact HR622_0.out) | (with_reducible refine Kd.C_alloc ?_ _) | (with_reducible refine Kd.C_drewN ?_ _) | (with_reducible refine Kd.C_drew ?_) | exact HR622_0.out)) 2 p623 q623
   cases e623
   (try simp only [show (2 : Int).toNat = 2 from rfl, Nat.reduceMul, Nat.reduceEqDiff, Go.Addr.add, ↓reduceIte] at hx623_0)
   have qi623 : (2 < (rd_L2 t525 (ji119)).length) = True := eq_true (by omega)
   (try rw [show ((2 : Int)).toNat = 2 from rfl] at hx623_0)
   replace p623 := eq_true p623; replace q623 := eq_true q623
   have p624 : 0 ≤ (2 : Int) := (by omega)
   have q624 : 2 < ((rd_L2 t525 x438_2).length : Int) := of_decide_eq_true (by first | (with_reducible assumption) | assumption)
   obtain ⟨ad624, e624, hx624_0⟩ := Kd.at_int (by repeat (first | (with_reducible exact HR612_0.out) | (with_reducible refine Kd.C_alloc ?_ _) | (with_reducible refine Kd.C_drewN ?_ _) | (with_reducible refine Kd.C_drew ?_) | exact HR612_0.out)) 2 p624 q624
   obtain rfl : ad613 = ad624 := (by injection e624)
   (try simp only [show (2 : Int).toNat = 2 from rfl, Nat.reduceMul, Nat.reduceEqDiff, Go.Addr.add, ↓reduceIte] at hx624_0)
   have qi624 : (2 < (rd_L2 t525 x438_2).length) = True := eq_true (by omega)
   (try rw [show ((2 : Int)).toNat = 2 from rfl] at hx624_0)
   replace p624 := eq_true p624; replace q624 := eq_true q624
   have p625 : 0 ≤ ((ji119) : Int) := of_decide_eq_true (by first | (with_reducible assumption) | assumption)
   have q625 : (ji119) < (t525.length : Int) := of_decide_eq_true (by first | (with_reducible assumption) | assumption)
   obtain ⟨ad625, A625_0, c625_0, e625, hx625_0, hl625_0, hi625_0⟩ := at_L2 (Kd.N_reads' HO_18.out).2.2 (ji119) p625 q625
   obtain rfl : ad612 = ad625 := (by injection e625)
   obtain ⟨ce625, hce625, hMe625, hcc625⟩ := Kd.N_get HO_18.out [] (ji119) p625 (by first | exact q625 | exact of_decide_eq_true (by first | (with_reducible assumption) | assumption) | (have e_ := (Kd.N_reads' HO_18.out).1; omega))
   obtain ⟨ua625_0, uc625_0, rfl, ul625_0, ge625_0⟩ := Kd.FK_slice_open hMe625
   have hv625_0 := hcc625 0 _ rfl
   rw [Nat.add_zero, show ((Kd.slice 3 (Kd.int .i64))).sz = 1 from rfl, Nat.mul_one] at hv625_0
   replace hv625_0 := Option.some.inj (hv625_0.symm.trans hx625_0)
   injection hv625_0 with hva_ hvn_ hvc_
   rw [hva_] at ge625_0
   rw [hvc_] at ul625_0
   have HL625_0 := am (show Kd.V (Kd.int .i64) 3 _ w.heap.size _ _ (rd_L2 t525 (ji119)) from Kd.V_mk ul625_0 ge625_0)
   clear hva_ hvn_ hvc_ ge625_0 ul625_0; clear hcc625 hce625; have HR625_0 := am hi625_0; have HC625_0 := am hl625_0; clear hi625_0 hl625_0; replace p625 := eq_true p625; replace q625 := eq_true q625
   have ea_ := Option.some.inj (hx622_0.symm.trans hx625_0)
   injection ea_ with ea_ en_ ec_; subst ea_; subst ec_; clear en_
   have p626 : 0 ≤ (2 : Int) := (by omega)
   have q626 : 2 < ((rd_L2 t525 (ji119)).length : Int) := of_decide_eq_true (by first | (with_reducible assumption) | assumption)
   obtain ⟨ad626, e626, hx626_0⟩ := Kd.at_int (by repeat (first | (with_reducible exact HR625_0.out) | (with_reducible refine Kd.C_alloc ?_ _) | (with_reducible refine Kd.C_drewN ?_ _) | (with_reducible refine Kd.C_drew ?_) | exact HR625_0.out)) 2 p626 q626
   cases e626
   (try simp only [show (2 : Int).toNat = 2 from rfl, Nat.reduceMul, Nat.reduceEqDiff, Go.Addr.add, ↓reduceIte] at hx626_0)
   have qi626 : (2 < (rd_L2 t525 (ji119)).length) = True := eq_true (by omega)
   (try rw [show ((2 : Int)).toNat = 2 from rfl] at hx626_0)
   replace p626 := eq_true p626; replace q626 := eq_true q626
   have p627 : 0 ≤ (2 : Int) := (by omega)
   have q627 : 2 < ((rd_L2 t525 x438_2).length : Int) := of_decide_eq_true (by first | (with_reducible assumption) | assumption)
   obtain ⟨ad627, e627, hx627_0⟩ := Kd.at_int (by repeat (first | (with_reducible exact HR612_0.out) | (with_reducible refine Kd.C_alloc ?_ _) | (with_reducible refine Kd.C_drewN ?_ _) | (with_reducible refine Kd.C_drew ?_) | exact HR612_0.out)) 2 p627 q627
   obtain rfl : ad613 = ad627 := (by injection e627)
   (try simp only [show (2 : Int).toNat = 2 from rfl, Nat.reduceMul, Nat.reduceEqDiff, Go.Addr.add, ↓reduceIte] at hx627_0)
   have qi627 : (2 < (rd_L2 t525 x438_2).length) = True := eq_true (by omega)
   (try rw [show ((2 : Int)).toNat = 2 from rfl] at hx627_0)
   replace p627 := eq_true p627; replace q627 := eq_true q627
   have p628 : 0 ≤ ((ji119) : Int) := of_decide_eq_true (by first | (with_reducible assumption) | assumption)
   have q628 : (ji119) < (t525.length : Int) := of_decide_eq_true (by first | (with_reducible assumption) | assumption)
   obtain ⟨ad628, A628_0, c628_0, e628, hx628_0, hl628_0, hi628_0⟩ := at_L2 (Kd.N_reads' HO_18.out).2.2 (ji119) p628 q628
   obtain rfl : ad612 = ad628 := (by injection e628)
   obtain ⟨ce628, hce628, hMe628, hcc628⟩ := Kd.N_get HO_18.out [] (ji119) p628 (by first | exact q628 | exact of_decide_eq_true (by first | (with_reducible assumption) | assumption) | (have e_ := (Kd.N_reads' HO_18.out).1; omega))
   obtain ⟨ua628_0, uc628_0, rfl, ul628_0, ge628_0⟩ := Kd.FK_slice_open hMe628
   have hv628_0 := hcc628 0 _ rfl
   rw [Nat.add_zero, show ((Kd.slice 3 (Kd.int .i64))).sz = 1 from rfl, Nat.mul_one] at hv628_0
   replace hv628_0 := Option.some.inj (hv628_0.symm.trans hx628_0)
   injection hv628_0 with hva_ hvn_ hvc_
   rw [hva_] at ge628_0
   rw [hvc_] at ul628_0
   have HL628_0 := am (show Kd.V (Kd.int .i64) 3 _ w.heap.size _ _ (rd_L2 t525 (ji119)) from Kd.V_mk ul628_0 ge628_0)
   clear hva_ hvn_ hvc_ ge628_0 ul628_0; clear hcc628 hce628; have HR628_0 := am hi628_0; have HC628_0 := am hl628_0; clear hi628_0 hl628_0; replace p628 := eq_true p628; replace q628 := eq_true q628
   have ea_ := Option.some.inj (hx622_0.symm.trans hx628_0)
   injection ea_ with ea_ en_ ec_; subst ea_; subst ec_; clear en_
   have p629 : 0 ≤ (0 : Int) := (by omega)
   have q629 : 0 < ((rd_L2 t525 (ji119)).length : Int) := of_decide_eq_true (by first | (with_reducible assumption) | assumption)
   obtain ⟨ad629, e629, hx629_0⟩ := Kd.at_int (by repeat (first | (with_reducible exact HR628_0.out) | (with_reducible refine Kd.C_alloc ?_ _) | (with_reducible refine Kd.C_drewN ?_ _) | (with_reducible refine Kd.C_drew ?_) | exact HR628_0.out)) 0 p629 q629
   cases e629
   have qi629 : (0 < (rd_L2 t525 (ji119)).length) = True := eq_true (by omega)
   (try rw [show ((0 : Int)).toNat = 0 from rfl] at hx629_0)
   (try rw [Addr.add_zero'] at hx629_0)
   replace p629 := eq_true p629; replace q629 := eq_true q629
   have p630 : 0 ≤ (0 : Int) := (by omega)
   have q630 : 0 < ((rd_L2 t525 x438_2).length : Int) := of_decide_eq_true (by first | (with_reducible assumption) | assumption)
   obtain ⟨ad630, e630, hx630_0⟩ := Kd.at_int (by repeat (first | (with_reducible exact HR612_0.out) | (with_reducible refine Kd.C_alloc ?_ _) | (with_reducible refine Kd.C_drewN ?_ _) | (with_reducible refine Kd.C_drew ?_) | exact HR612_0.out)) 0 p630 q630
   obtain rfl : ad613 = ad630 := (by injection e630)
   have qi630 : (0 < (rd_L2 t525 x438_2).length) = True := eq_true (by omega)
   (try rw [show ((0 : Int)).toNat = 0 from rfl] at hx630_0)
   (try rw [Addr.add_zero'] at hx630_0)
   replace p630 := eq_true p630; replace q630 := eq_true q630
   go_wp2
   repeat (go_quiet (fail); try go_wp2)
   (refine Met.intro ?_; refine h1 _ _ _ _ _ _ _ _ _ _ _ _ _ _ _ _ _ _ _ _ _ _ _ _ _ _ _ _ _ _ _ _ _ _ _ _ _ _ _ _ _ _ _ _ _ _ _ _ _ _ _ _ _ _ _ _ _ _ _ _ _ _ _ _ _ _ _ _ _ _ _ _ _ _ _ _ _ _ _ _ _ _ _ _ _ _ _ _ ?_)
   exact ⟨_, (decide ((rd (rd_L2 t525 (ji119)) 0) ≥ (rd (rd_L2 t525 x438_2) 0))), (by first | rfl | (simp; done) | (simp only [← hji119] <;> (first | rfl | simp)) | (simp [*]; done)), H', ⟨by have := HK2.out; first | omega | exact Nat.le_refl _⟩, ⟨by (with_reducible repeat (first | apply Kd.N_alloc | apply Kd.N_drewN | apply Kd.N_drew)); exact HO_18.out⟩, ⟨by (with_reducible repeat (first | apply Kd.N_alloc | apply Kd.N_drewN | apply Kd.N_drew)); exact HO_22.out⟩, ⟨by (with_reducible repeat (first | apply Kd.N_alloc | apply Kd.N_drewN | apply Kd.N_drew)); exact HO_436.out⟩, ⟨by repeat (first | (with_reducible exact HR612_0.out) | (with_reducible refine Kd.C_alloc ?_ _) | (with_reducible refine Kd.C_drewN ?_ _) | (with_reducible refine Kd.C_drew ?_) | exact HR612_0.out)⟩, ⟨hbS HB.out⟩⟩
  ·exact absurd (hji119 ▸ hw2) c124
 ·exact absurd hw1 c118
end Go.Proofs.Ytkokbcnecnpgcaa.X
end
section
namespace Go.Proofs.Ytkokbcnecnpgcaa.X
open Go.Proofs.Ytkokbcnecnpgcaa.Sq Go.RowKit Go.Proofs.YtkokbcnecnpgcaaW.PrintWords Go.Proofs.YtkokbcnecnpgcaaW.PrintLast Go.Proofs.YtkokbcnecnpgcaaW.PrintMore
attribute [local go_sem] max2_int min2_int max_two min_two max_three min_three max_four min_four   -- for this text's walks alone
set_option linter.unusedVariables false
set_option linter.unusedSimpArgs false
set_option maxHeartbeats 8000000 in
set_option maxRecDepth 1000000 in
theorem laws_FnPlanksLean.part529b {u0 u1 u2 u3 u4 u5 u6 u7 u8 u9 u10 u11 u12 u13 u14 u15 u16 u19 u20 u21 u22 u23 u24 u25 u26 u27 u28 u29 u30 u31 u32 u33 u34 u35 u36 u37 u38 u39 u40 u41 u42 u43 u44 u45 u46 u47 u48 u49 u50 u51 u52 u53 u54 u55 u56 u57 u58 u59 u60 u61 u62 u63 u64 u65 u66 u69 u70 u71 u72 u73 u74 u75 u76 u77 u78 u79 u80 u81 u82 u83 u84 u85 u86 u87 u88 u89 u90 u91 u92 u93 u94 u95 u96 u97 u98 u99 u100 u101 u102 u103 u104 u105 u106 u107 u108 u109 u110 u111 u112 u113 u114 u115 u116 u117 u118 u119 u120 u121 u122 u123 u124 u125 u126 u127 u128 u129 u130 u131 u132 u133 u134 u135 u136 u137 u138 u139 u140 u141 u142 u143 u144 u145 u146 u147 u148 u149 u150 u151 u152 u153 u154 u155 u156 u157 u158 u159 u160 u161 u162 u163 u164 u165 u166 u167 u168 u169 u170 u171 u172 u173 u174 u175 u176 u177 u178 u179 u180 u181 u182 u183 u184 u185 u186 u187 u188 u189 u190 u191 u192 u193 u194 u195 u196 u197 u198 u199 u200 u201 u202 u203 u204 u205 u206 u207 u208 u209 u210 u211 u212 u213 u214 u215 u216 u217 u218 u219 u220 u221 u222 u223 u224 u225 u226 u227 u228 u229 u230 u231 u232 u233 u234 u235 u236 u237 u238 u239 u240 u241 u242 u243 u244 u245 u246 u247 u248 u249 u250 u251 u252 u253 u254 u255 u256 u257 u258 u259 u260 u261 u262 u263 u264 u265 u266 u267 u268 u269 u270 u271 u272 u273 u274 u275 u276 u277 u278 u279 u280 u281 u282 u283 u284 u285 u286 u287 u288 u289 u290 u291 u292 u293 u294 u295 u296 u297 u298 u299 u300 u301 u302 u303 u304 u305 u306 u307 u308 u309 u310 u311 u312 u313 u314 u315 u316 u317 u318 u319 u320 u321 u322 u323 u324 u325 u326 u327 u328 u329 u330 u331 u332 u333 u334 u335 u336 u337 u338 u339 u340 u341 u342 u343 u344 u345 u346 u347 u348 u349 u350 u351 u352 u353 u354 u355 u356 u357 u358 u359 u360 u361 u362 u363 u364 u365 u366 u367 u368 u369 u370 u371 u372 u373 u374 u375 u376 u377 u378 u379 u380 u381 u382 u383 u384 u385 u386 u387 u388 u389 u390 u391 u392 u393 u394 u395 u396 u397 u398 u399 u400 u401 u402 u403 u404 u405 u406 u407 u408 u409 u410 u411 u412 u413 u414 u415 u416 u417 u418 u419 u420 u421 u422 u423 u424 u425 u426 u427 u428 u429 u430 u431 u432 u433 u434 u435 u436 u437 u438 u439 u440 u441 u442 u443 u444 u445 u446 u447 u448 u449 u450 u451 u452 u453 u454 u455 u456 u457 u458 u459 u460 u461 u462 u463 u464 u465 u466 u467 u468 u469 u470 u471 u472 u473 u474 u475 u476 u477 u478 u479 u480 u481 u482 u483 u484 u485 u486 u487 u488 u489 u490 u491 u492 u493 u494 u495 u496 u497 u498 u499 u500 u501 u502 u503 u504 u505 u506 u507 u508 u509 u510 u511 u512 u513 u514 u515 u516 u517 u518 u519 u520 u521 u522 u523 u524 u525 u526 u527 u528 u529 u530 u531 u532 u533 u534 u535 u536 u537 u538 u539 u540 u541 u542 u543 u544 u545 u546 u547 u548 u549 u550 u551 u552 u553 u554 u555 u556 u557 u558 u559 u560 u561 u562 u563 u564 u565 u566 u567 u568 u569 u570 u571 u572 u573 u574 u575 u576 u577 u578 u579 u580 u581 u582 u583 u584 u585 u586 u587 u588 u589 u590 u591 u592 u593 u594 u595 u596 u597 u598 u599 u600 u601 u602 u603 u604 u605 u606 u607 u608 u609 u610 u611 u612 u613 u614 u615 u616 u617 u618 u619 u620 u621 u622 u623 u624 u625 u626 u627 u628 u629 u630 u631 u632 u633 u634 u635 u636 u637 u638 u639 u640 u641 u642 u643 u644 u645 u646 u647 u648 u649 u650 u651 u652 u653 u654 u655 u656 u657 u658 u659 u660 u661 u662 u663 u664 u665 u666 u667 u668 u669 u670 u671 u672 u673 u674 u675 u676 u677 u678 u679 u680 u681 u682 u683 u684 u685 u686 u687 u688 u689 u690 u691 u692 u693 u694 u695 u696 u697 u698 u699 u700 u701 u702 u703 u704 u705 u706 u707 u708 u709 u710 u711 u712 u713 u714 u715 u716 u717 u718 u719 u720 u721 u722 u723 u724 u725 u726 u727 u728 u729 u730 : Value} (kj10 k2 : Nat) (t524 : Int) (t525 : List (List Int)) (t533 : List (List Int)) (t541 : Int) (t542 : Int) (t543 : Int) (t544 : Int) (t545 : Int) (t546 : Bool) (t550 : Int) (t551 : Int) (t552 : Int) (t553 : Int) (t554 : Bool) (t558 : Int) (t559 : Int) (t560 : Bool) (t561 : Bool) (t564 : Int) (t565 : Int) (t566 : Bool) (t569 : Int) (t570 : Int) (t571 : Bool) (t574 : Int) (t575 : Int) (t576 : Int) (t577 : Bool) (t578 : Bool) (x66_2 x438_2 : Int) (ad612 : Addr) (A612_0 Ao104 : Option Addr) (c612_0 co102 co104 : Nat) (r : Bool) (w wr : World) (HK2 : Aside0 (k2 + 1 ≤ kj10)) (HO_18 : Aside0 (Kd.N (Kd.slice 3 (Kd.int .i64)) 29 wr w.heap.size (fun k_ => some k_ ≠ ((.slice Ao104 t533.length co104) : Value).ownBlock) (.slice (some ad612) t525.length co102) t525)) (HO_22 : Aside0 (Kd.N (Kd.slice 3 (Kd.int .i64)) 29 wr w.heap.size (fun k_ => some k_ ≠ ((.slice (some ad612) t525.length co102) : Value).ownBlock ∧ some k_ ≠ ((.slice (some ad612) t525.length co102) : Value).ownBlock) (.slice Ao104 t533.length co104) t533)) (HO_436 : Aside0 (Kd.N (Kd.slice 3 (Kd.int .i64)) 29 wr w.heap.size (fun k_ => some k_ ≠ ((.slice Ao104 t533.length co104) : Value).ownBlock) (.slice (some ad612) t525.length co102) t525)) (HR612_0 : Aside0 (Kd.C (Kd.int .i64) wr A612_0 (rd_L2 t525 x438_2).length (rd_L2 t525 x438_2))) (HC612_0 : Aside0 ((rd_L2 t525 x438_2).length ≤ c612_0)) (HB : Aside0 (Below w.heap.size w wr)) (HC110 : Aside0 ((if ((rd_L2 t525 x438_2).length : Int) = 3 then (if 0 < ((rd_L2 t525 x438_2).length : Int) then (if 1 < ((rd_L2 t525 x438_2).length : Int) then (if 2 < ((rd_L2 t525 x438_2).length : Int) then (if (wrap64 ((wrap64 ((rd (rd_L2 t525 x438_2) 0) * (rd (rd_L2 t525 x438_2) 0))) + (wrap64 ((rd (rd_L2 t525 x438_2) 1) * (rd (rd_L2 t525 x438_2) 1))))) = (wrap64 ((rd (rd_L2 t525 x438_2) 2) * (rd (rd_L2 t525 x438_2) 2))) then (if (rd (rd_L2 t525 x438_2) 2) > t524 then (none) else (if (rd (rd_L2 t525 x438_2) 0) > (rd (rd_L2 t525 x438_2) 1) then (none) else (if x438_2 > 0 then (if 0 ≤ (wrap64 (x438_2 - 1)) then (if (wrap64 (x438_2 - 1)) < (t525.length : Int) then (if 2 < ((rd_L2 t525 (wrap64 (x438_2 - 1))).length : Int) then (if (rd (rd_L2 t525 (wrap64 (x438_2 - 1))) 2) > (rd (rd_L2 t525 x438_2) 2) then (none) else (if (rd (rd_L2 t525 (wrap64 (x438_2 - 1))) 2) = (rd (rd_L2 t525 x438_2) 2) then (if 0 < ((rd_L2 t525 (wrap64 (x438_2 - 1))).length : Int) then (laws_FnPlanksLean.j4 k2 t524 t525 t533 t541 t542 t543 t544 t545 t546 t550 t551 t552 t553 t554 t558 t559 t560 t561 t564 t565 t566 t569 t570 t571 t574 t575 t576 t577 t578 x66_2 (rd_L2 t525 x438_2) t525 (t525.length : Int) x438_2 (decide ((rd (rd_L2 t525 (wrap64 (x438_2 - 1))) 0) ≥ (rd (rd_L2 t525 x438_2) 0)))) else (none)) else (laws_FnPlanksLean.j4 k2 t524 t525 t533 t541 t542 t543 t544 t545 t546 t550 t551 t552 t553 t554 t558 t559 t560 t561 t564 t565 t566 t569 t570 t571 t574 t575 t576 t577 t578 x66_2 (rd_L2 t525 x438_2) t525 (t525.length : Int) x438_2 false))) else (none)) else (none)) else (none)) else (laws_FnPlanksLean.j4 k2 t524 t525 t533 t541 t542 t543 t544 t545 t546 t550 t551 t552 t553 t554 t558 t559 t560 t561 t564 t565 t566 t569 t570 t571 t574 t575 t576 t577 t578 x66_2 (rd_L2 t525 x438_2) t525 (t525.length : Int) x438_2 false)))) else (none)) else (none)) else (none)) else (none)) else (none)) = some r)) (hx612_0 : wr.cell? (ad612.add x438_2.toNat) = some (.slice A612_0 (rd_L2 t525 x438_2).length c612_0)) (c107b0 : decide (x438_2 < (t525.length : Int)) = true) (c108b0 : decide (0 ≤ x438_2) = true) (c109b0 : decide (x438_2 < (t525.length : Int)) = true) (p612 : (0 ≤ x438_2) = True) (q612 : (x438_2 < (t525.length : Int)) = True) (hw1 : x438_2 > 0) (hw2 : ¬ (rd (rd_L2 t525 (wrap64 (x438_2 - 1))) 2) = (rd (rd_L2 t525 x438_2) 2)) (J K' : Act → World → Prop) (Q' : Exit → Act → World → Prop) (h1 : ∀ (y443 y444 y445 y446 y447 y448 y449 y450 y451 y452 y453 y454 y455 y456 y457 y458 y459 y460 y461 y462 y463 y464 y465 y466 y467 y468 y469 y470 y471 y472 y473 y474 y475 y476 y477 y478 y479 y480 y481 y482 y483 y484 y485 y486 y487 y488 y489 y490 y491 y492 y493 y494 y495 y496 y497 y498 y499 y500 y501 y502 y503 y504 y505 y506 y507 y508 y509 y510 y511 y512 y513 y514 y515 y516 y517 y518 y519 y520 y521 y522 y523 y524 y525 y526 y527 y528 : Value) (v529 : Value) (wc : World), (∃ (kq : Nat) (x529_109 : Bool), v529 = .bool x529_109 ∧ Aside0 (laws_FnPlanksLean.j4 kq t524 t525 t533 t541 t542 t543 t544 t545 t546 t550 t551 t552 t553 t554 t558 t559 t560 t561 t564 t565 t566 t569 t570 t571 t574 t575 t576 t577 t578 x66_2 (rd_L2 t525 x438_2) t525 (t525.length : Int) x438_2 x529_109 = some r) ∧ Aside0 (kq ≤ k2) ∧ Aside0 (Kd.N (Kd.slice 3 (Kd.int .i64)) 29 wc w.heap.size (fun k_ => some k_ ≠ ((.slice Ao104 t533.length co104) : Value).ownBlock) (.slice (some ad612) t525.length co102) t525) ∧ Aside0 (Kd.N (Kd.slice 3 (Kd.int .i64)) 29 wc w.heap.size (fun k_ => some k_ ≠ ((.slice (some ad612) t525.length co102) : Value).ownBlock ∧ some k_ ≠ ((.slice (some ad612) t525.length co102) : Value).ownBlock) (.slice Ao104 t533.length co104) t533) ∧ Aside0 (Kd.N (Kd.slice 3 (Kd.int .i64)) 29 wc w.heap.size (fun k_ => some k_ ≠ ((.slice Ao104 t533.length co104) : Value).ownBlock) (.slice (some ad612) t525.length co102) t525) ∧ Aside0 (Kd.C (Kd.int .i64) wc A612_0 (rd_L2 t525 x438_2).length (rd_L2 t525 x438_2)) ∧ Aside0 (Below w.heap.size w wc)) → J ⟨#[u0, u1, u2, u3, u4, u5, u6, u7, u8, u9, u10, u11, u12, u13, u14, u15, u16, Value.int .i64 t524, .slice (some ad612) t525.length co102, u19, u20, u21, u22, u23, u24, u25, u26, u27, u28, u29, u30, u31, u32, u33, u34, u35, u36, u37, u38, u39, u40, u41, u42, u43, u44, u45, u46, u47, u48, u49, u50, u51, u52, u53, u54, u55, u56, u57, u58, u59, u60, u61, u62, u63, u64, u65, u66, Value.int .i64 x438_2, .slice A612_0 (rd_L2 t525 x438_2).length c612_0, u69, u70, u71, u72, u73, u74, u75, u76, u77, u78, u79, u80, u81, u82, u83, u84, u85, u86, u87, u88, u89, u90, u91, u92, u93, u94, u95, u96, u97, u98, u99, u100, u101, u102, u103, u104, u105, u106, u107, u108, u109, u110, u111, u112, u113, u114, u115, u116, u117, u118, u119, u120, u121, u122, u123, u124, u125, u126, u127, u128, u129, u130, u131, u132, u133, u134, u135, u136, u137, u138, u139, u140, u141, u142, u143, u144, u145, u146, u147, u148, u149, u150, u151, u152, u153, u154, u155, u156, u157, u158, u159, u160, u161, u162, u163, u164, u165, u166, u167, u168, u169, u170, u171, u172, u173, u174, u175, u176, u177, u178, u179, u180, u181, u182, u183, u184, u185, u186, u187, u188, u189, u190, u191, u192, u193, u194, u195, u196, u197, u198, u199, u200, u201, u202, u203, u204, u205, u206, u207, u208, u209, u210, u211, u212, u213, u214, u215, u216, u217, u218, u219, u220, u221, u222, u223, u224, u225, u226, u227, u228, u229, u230, u231, u232, u233, u234, u235, u236, u237, u238, u239, u240, u241, u242, u243, u244, u245, u246, u247, u248, u249, u250, u251, u252, u253, u254, u255, u256, u257, u258, u259, u260, u261, u262, u263, u264, u265, u266, u267, u268, u269, u270, u271, u272, u273, u274, u275, u276, u277, u278, u279, u280, u281, u282, u283, u284, u285, u286, u287, u288, u289, u290, u291, u292, u293, u294, u295, u296, u297, u298, u299, u300, u301, u302, u303, u304, u305, u306, u307, u308, u309, u310, u311, u312, u313, u314, u315, u316, u317, u318, u319, u320, u321, u322, u323, u324, u325, u326, u327, u328, u329, u330, u331, u332, u333, u334, u335, u336, u337, u338, u339, u340, u341, u342, u343, u344, u345, u346, u347, u348, u349, u350, u351, u352, u353, u354, u355, u356, u357, u358, u359, u360, u361, u362, u363, u364, u365, u366, u367, u368, u369, u370, u371, u372, u373, u374, u375, u376, u377, u378, u379, u380, u381, u382, u383, u384, u385, u386, u387, u388, u389, u390, u391, u392, u393, u394, u395, u396, u397, u398, u399, u400, u401, u402, u403, u404, u405, u406, u407, u408, u409, u410, u411, u412, u413, u414, u415, u416, u417, u418, u419, u420, u421, u422, u423, u424, u425, u426, u427, u428, u429, u430, u431, u432, u433, u434, u435, u436, u437, u438, u439, u440, u441, u442, y443, y444, y445, y446, y447, y448, y449, y450, y451, y452, y453, y454, y455, y456, y457, y458, y459, y460, y461, y462, y463, y464, y465, y466, y467, y468, y469, y470, y471, y472, y473, y474, y475, y476, y477, y478, y479, y480, y481, y482, y483, y484, y485, y486, y487, y488, y489, y490, y491, y492, y493, y494, y495, y496, y497, y498, y499, y500, y501, y502, y503, y504, y505, y506, y507, y508, y509, y510, y511, y512, y513, y514, y515, y516, y517, y518, y519, y520, y521, y522, y523, y524, y525, y526, y527, y528, v529, u530, u531, u532, u533, u534, u535, u536, u537, u538, u539, u540, u541, u542, u543, u544, u545, u546, u547, u548, u549, u550, u551, u552, u553, u554, u555, u556, u557, u558, u559, u560, u561, u562, u563, u564, u565, u566, u567, u568, u569, u570, u571, u572, u573, u574, u575, u576, u577, u578, u579, u580, u581, u582, u583, u584, u585, u586, u587, u588, u589, u590, u591, u592, u593, u594, u595, u596, u597, u598, u599, u600, u601, u602, u603, u604, u605, u606, u607, u608, u609, u610, u611, u612, u613, u614, u615, u616, u617, u618, u619, u620, u621, u622, u623, u624, u625, u626, u627, u628, u629, u630, u631, u632, u633, u634, u635, u636, u637, u638, u639, u640, u641, u642, u643, u644, u645, u646, u647, u648, u649, u650, u651, u652, u653, u654, u655, u656, u657, u658, u659, u660, u661, u662, u663, u664, u665, u666, u667, u668, u669, u670, u671, u672, u673, u674, u675, u676, u677, u678, u679, u680, u681, u682, u683, u684, u685, u686, u687, u688, u689, u690, u691, u692, u693, u694, u695, u696, u697, u698, u699, u700, u701, u702, u703, u704, u705, u706, u707, u708, u709, u710, u711, u712, u713, u714, u715, u716, u717, u718, u719, u720, u721, u722, u723, u724, u725, u726, u727, u728, u729, u730], []⟩ wc) (h2 : ∀ (a' : Act) (w' : World), Met J a' w' → K' a' w') :
  Code.wp Try.prog (regionAt 52 (Try.f3.body.getD .skip)) (Exit.then K' Q') ⟨#[u0, u1, u2, u3, u4, u5, u6, u7, u8, u9, u10, u11, u12, u13, u14, u15, u16, Value.int .i64 t524, .slice (some ad612) t525.length co102, u19, u20, u21, u22, u23, u24, u25, u26, u27, u28, u29, u30, u31, u32, u33, u34, u35, u36, u37, u38, u39, u40, u41, u42, u43, u44, u45, u46, u47, u48, u49, u50, u51, u52, u53, u54, u55, u56, u57, u58, u59, u60, u61, u62, u63, u64, u65, u66, Value.int .i64 x438_2, .slice A612_0 (rd_L2 t525 x438_2).length c612_0, u69, u70, u71, u72, u73, u74, u75, u76, u77, u78, u79, u80, u81, u82, u83, u84, u85, u86, u87, u88, u89, u90, u91, u92, u93, u94, u95, u96, u97, u98, u99, u100, u101, u102, u103, u104, u105, u106, u107, u108, u109, u110, u111, u112, u113, u114, u115, u116, u117, u118, u119, u120, u121, u122, u123, u124, u125, u126, u127, u128, u129, u130, u131, u132, u133, u134, u135, u136, u137, u138, u139, u140, u141, u142, u143, u144, u145, u146, u147, u148, u149, u150, u151, u152, u153, u154, u155, u156, u157, u158, u159, u160, u161, u162, u163, u164, u165, u166, u167, u168, u169, u170, u171, u172, u173, u174, u175, u176, u177, u178, u179, u180, u181, u182, u183, u184, u185, u186, u187, u188, u189, u190, u191, u192, u193, u194, u195, u196, u197, u198, u199, u200, u201, u202, u203, u204, u205, u206, u207, u208, u209, u210, u211, u212, u213, u214, u215, u216, u217, u218, u219, u220, u221, u222, u223, u224, u225, u226, u227, u228, u229, u230, u231, u232, u233, u234, u235, u236, u237, u238, u239, u240, u241, u242, u243, u244, u245, u246, u247, u248, u249, u250, u251, u252, u253, u254, u255, u256, u257, u258, u259, u260, u261, u262, u263, u264, u265, u266, u267, u268, u269, u270, u271, u272, u273, u274, u275, u276, u277, u278, u279, u280, u281, u282, u283, u284, u285, u286, u287, u288, u289, u290, u291, u292, u293, u294, u295, u296, u297, u298, u299, u300, u301, u302, u303, u304, u305, u306, u307, u308, u309, u310, u311, u312, u313, u314, u315, u316, u317, u318, u319, u320, u321, u322, u323, u324, u325, u326, u327, u328, u329, u330, u331, u332, u333, u334, u335, u336, u337, u338, u339, u340, u341, u342, u343, u344, u345, u346, u347, u348, u349, u350, u351, u352, u353, u354, u355, u356, u357, u358, u359, u360, u361, u362, u363, u364, u365, u366, u367, u368, u369, u370, u371, u372, u373, u374, u375, u376, u377, u378, u379, u380, u381, u382, u383, u384, u385, u386, u387, u388, u389, u390, u391, u392, u393, u394, u395, u396, u397, u398, u399, u400, u401, u402, u403, u404, u405, u406, u407, u408, u409, u410, u411, u412, u413, u414, u415, u416, u417, u418, u419, u420, u421, u422, u423, u424, u425, u426, u427, u428, u429, u430, u431, u432, u433, u434, u435, u436, u437, u438, u439, u440, u441, u442, u443, u444, u445, u446, u447, u448, u449, u450, u451, u452, u453, u454, u455, u456, u457, u458, u459, u460, u461, u462, u463, u464, u465, u466, u467, u468, u469, u470, u471, u472, u473, u474, u475, u476, u477, u478, u479, u480, u481, u482, u483, u484, u485, u486, u487, u488, u489, u490, u491, u492, u493, u494, u495, u496, u497, u498, u499, u500, u501, u502, u503, u504, u505, u506, u507, u508, u509, u510, u511, u512, u513, u514, u515, u516, u517, u518, u519, u520, u521, u522, u523, u524, u525, u526, u527, u528, u529, u530, u531, u532, u533, u534, u535, u536, u537, u538, u539, u540, u541, u542, u543, u544, u545, u546, u547, u548, u549, u550, u551, u552, u553, u554, u555, u556, u557, u558, u559, u560, u561, u562, u563, u564, u565, u566, u567, u568, u569, u570, u571, u572, u573, u574, u575, u576, u577, u578, u579, u580, u581, u582, u583, u584, u585, u586, u587, u588, u589, u590, u591, u592, u593, u594, u595, u596, u597, u598, u599, u600, u601, u602, u603, u604, u605, u606, u607, u608, u609, u610, u611, u612, u613, u614, u615, u616, u617, u618, u619, u620, u621, u622, u623, u624, u625, u626, u627, u628, u629, u630, u631, u632, u633, u634, u635, u636, u637, u638, u639, u640, u641, u642, u643, u644, u645, u646, u647, u648, u649, u650, u651, u652, u653, u654, u655, u656, u657, u658, u659, u660, u661, u662, u663, u664, u665, u666, u667, u668, u669, u670, u671, u672, u673, u674, u675, u676, u677, u678, u679, u680, u681, u682, u683, u684, u685, u686, u687, u688, u689, u690, u691, u692, u693, u694, u695, u696, u697, u698, u699, u700, u701, u702, u703, u704, u705, u706, u707, u708, u709, u710, u711, u712, u713, u714, u715, u716, u717, u718, u719, u720, u721, u722, u723, u724, u725, u726, u727, u728, u729, u730], []⟩ wr := by
 conv => arg 2; whnf
 (try dsimp only [List.append])
 have H := HC110.out
 clear HC110; obtain ⟨c111, H⟩ := itP H
 have c111b0 : (((rd_L2 t525 x438_2).length : Int) == 3) = true := beq_iff_eq.mpr c111
 have c111b1 : (((rd_L2 t525 x438_2).length : Int) != 3) = false := bne_eq_false_iff_eq.mpr c111
 clear c111
 (first | rw [c111b0] | (simp only [i64_w, i32_w]; rw [c111b0]) | skip)
 obtain ⟨c112, H⟩ := itP H; have c112b0 : decide (0 < ((rd_L2 t525 x438_2).length : Int)) = true := decide_eq_true c112
 have c112b1 : decide (0 < (rd_L2 t525 x438_2).length) = true := decide_eq_true (by omega)
 clear c112; obtain ⟨c113, H⟩ := itP H; have c113b0 : decide (1 < ((rd_L2 t525 x438_2).length : Int)) = true := decide_eq_true c113
 have c113b1 : decide (1 < (rd_L2 t525 x438_2).length) = true := decide_eq_true (by omega)
 clear c113; obtain ⟨c114, H⟩ := itP H; have c114b0 : decide (2 < ((rd_L2 t525 x438_2).length : Int)) = true := decide_eq_true c114
 have c114b1 : decide (2 < (rd_L2 t525 x438_2).length) = true := decide_eq_true (by omega)
 clear c114; obtain ⟨c115, H⟩ := itP H
 have c115b0 : ((wrap64 ((wrap64 ((rd (rd_L2 t525 x438_2) 0) * (rd (rd_L2 t525 x438_2) 0))) + (wrap64 ((rd (rd_L2 t525 x438_2) 1) * (rd (rd_L2 t525 x438_2) 1))))) == (wrap64 ((rd (rd_L2 t525 x438_2) 2) * (rd (rd_L2 t525 x438_2) 2)))) = true := beq_iff_eq.mpr c115
 have c115b1 : ((wrap64 ((wrap64 ((rd (rd_L2 t525 x438_2) 0) * (rd (rd_L2 t525 x438_2) 0))) + (wrap64 ((rd (rd_L2 t525 x438_2) 1) * (rd (rd_L2 t525 x438_2) 1))))) != (wrap64 ((rd (rd_L2 t525 x438_2) 2) * (rd (rd_L2 t525 x438_2) 2)))) = false := bne_eq_false_iff_eq.mpr c115
 clear c115; obtain ⟨c116, H⟩ := itN H; have c116b0 : decide (t524 < (rd (rd_L2 t525 x438_2) 2)) = false := decide_eq_false c116; clear c116; obtain ⟨c117, H⟩ := itN H; have c117b0 : decide ((rd (rd_L2 t525 x438_2) 1) < (rd (rd_L2 t525 x438_2) 0)) = false := decide_eq_false c117; clear c117
 by_cases c118 : x438_2 > 0
 ·rw [if_pos c118] at H
  have c118b0 : decide (0 < x438_2) = true := decide_eq_true c118; clear c118
  obtain ⟨ji119, hji119⟩ : ∃ j_ : Int, (wrap64 (x438_2 - 1)) = j_ := ⟨_, rfl⟩
  replace H : (if 0 ≤ (ji119) then (if (ji119) < (t525.length : Int) then (if 2 < ((rd_L2 t525 (ji119)).length : Int) then (if (rd (rd_L2 t525 (ji119)) 2) > (rd (rd_L2 t525 x438_2) 2) then (none) else (if (rd (rd_L2 t525 (ji119)) 2) = (rd (rd_L2 t525 x438_2) 2) then (if 0 < ((rd_L2 t525 (ji119)).length : Int) then (laws_FnPlanksLean.j4 k2 t524 t525 t533 t541 t542 t543 t544 t545 t546 t550 t551 t552 t553 t554 t558 t559 t560 t561 t564 t565 t566 t569 t570 t571 t574 t575 t576 t577 t578 x66_2 (rd_L2 t525 x438_2) t525 (t525.length : Int) x438_2 (decide ((rd (rd_L2 t525 (ji119)) 0) ≥ (rd (rd_L2 t525 x438_2) 0)))) else (none)) else (laws_FnPlanksLean.j4 k2 t524 t525 t533 t541 t542 t543 t544 t545 t546 t550 t551 t552 t553 t554 t558 t559 t560 t561 t564 t565 t566 t569 t570 t571 t574 t575 t576 t577 t578 x66_2 (rd_L2 t525 x438_2) t525 (t525.length : Int) x438_2 false))) else (none)) else (none)) else (none)) = some r := by first | (rw [hji119] at H; exact H) | (simp only [hji119] at H ⊢; exact H)
  have hji119w : (IntKind.i64.wrap (x438_2 - 1)) = ji119 := (i64_w _).trans hji119
  obtain ⟨c120, H⟩ := itP H; have c120b0 : decide (0 ≤ (ji119)) = true := decide_eq_true c120; clear c120; obtain ⟨c121, H⟩ := itP H; have c121b0 : decide ((ji119) < (t525.length : Int)) = true := decide_eq_true c121; clear c121; obtain ⟨c122, H⟩ := itP H; have c122b0 : decide (2 < ((rd_L2 t525 (ji119)).length : Int)) = true := decide_eq_true c122
  have c122b1 : decide (2 < (rd_L2 t525 (ji119)).length) = true := decide_eq_true (by omega)
  clear c122; obtain ⟨c123, H⟩ := itN H; have c123b0 : decide ((rd (rd_L2 t525 x438_2) 2) < (rd (rd_L2 t525 (ji119)) 2)) = false := decide_eq_false c123; clear c123
  by_cases c124 : (rd (rd_L2 t525 (ji119)) 2) = (rd (rd_L2 t525 x438_2) 2)
  ·exact absurd (by rw [← hji119] at c124; exact c124) hw2
  ·rw [if_neg c124] at H
   have c124b0 : ((rd (rd_L2 t525 (ji119)) 2) == (rd (rd_L2 t525 x438_2) 2)) = false := beq_eq_false_iff_ne.mpr c124
   have c124b1 : ((rd (rd_L2 t525 (ji119)) 2) != (rd (rd_L2 t525 x438_2) 2)) = true := bne_iff_ne.mpr c124
   have H' := am H
   clear H
   have p613 : 0 ≤ (0 : Int) := (by omega)
   have q613 : 0 < ((rd_L2 t525 x438_2).length : Int) := of_decide_eq_true (by first | (with_reducible assumption) | assumption)
   obtain ⟨ad613, e613, hx613_0⟩ := Kd.at_int (by repeat (first | (with_reducible exact HR612_0.out) | (with_reducible refine Kd.C_alloc ?_ _) | (with_reducible refine Kd.C_drewN ?_ _) | (with_reducible refine Kd.C_drew ?_) | exact HR612_0.out)) 0 p613 q613
   cases e613
   have qi613 : (0 < (rd_L2 t525 x438_2).length) = True := eq_true (by omega)
   (try rw [show ((0 : Int)).toNat = 0 from rfl] at hx613_0)
   (try rw [Addr.add_zero'] at hx613_0)
   replace p613 := eq_true p613; replace q613 := eq_true q613
   have p614 : 0 ≤ (0 : Int) := (by omega)
   have q614 : 0 < ((rd_L2 t525 x438_2).length : Int) := of_decide_eq_true (by first | (with_reducible assumption) | assumption)
   obtain ⟨ad614, e614, hx614_0⟩ := Kd.at_int (by repeat (first | (with_reducible exact HR612_0.out) | (with_reducible refine Kd.C_alloc ?_ _) | (with_reducible refine Kd.C_drewN ?_ _) | (with_reducible refine Kd.C_drew ?_) | exact HR612_0.out)) 0 p614 q614
   obtain rfl : ad613 = ad614 := (by injection e614)
   have qi614 : (0 < (rd_L2 t525 x438_2).length) = True := eq_true (by omega)
   (try rw [show ((0 : Int)).toNat = 0 from rfl] at hx614_0)
   (try rw [Addr.add_zero'] at hx614_0)
   replace p614 := eq_true p614; replace q614 := eq_true q614
   have p615 : 0 ≤ (1 : Int) := (by omega)
   have q615 : 1 < ((rd_L2 t525 x438_2).length : Int) := of_decide_eq_true (by first | (with_reducible assumption) | assumption)
   obtain ⟨ad615, e615, hx615_0⟩ := Kd.at_int (by repeat (first | (with_reducible exact HR612_0.out) | (with_reducible refine Kd.C_alloc ?_ _) | (with_reducible refine Kd.C_drewN ?_ _) | (with_reducible refine Kd.C_drew ?_) | exact HR612_0.out)) 1 p615 q615
   obtain rfl : ad613 = ad615 := (by injection e615)
   (try simp only [show (1 : Int).toNat = 1 from rfl, Nat.reduceMul, Nat.reduceEqDiff, Go.Addr.add, ↓reduceIte] at hx615_0)
   have qi615 : (1 < (rd_L2 t525 x438_2).length) = True := eq_true (by omega)
   (try rw [show ((1 : Int)).toNat = 1 from rfl] at hx615_0)
   replace p615 := eq_true p615; replace q615 := eq_true q615
   have p616 : 0 ≤ (1 : Int) := (by omega)
   have q616 : 1 < ((rd_L2 t525 x438_2).length : Int) := of_decide_eq_true (by first | (with_reducible assumption) | assumption)
   obtain ⟨ad616, e616, hx616_0⟩ := Kd.at_int (by repeat (first | (with_reducible exact HR612_0.out) | (with_reducible refine Kd.C_alloc ?_ _) | (with_reducible refine Kd.C_drewN ?_ _) | (with_reducible refine Kd.C_drew ?_) | exact HR612_0.out)) 1 p616 q616
   obtain rfl : ad613 = ad616 := (by injection e616)
   (try simp only [show (1 : Int).toNat = 1 from rfl, Nat.reduceMul, Nat.reduceEqDiff, Go.Addr.add, ↓reduceIte] at hx616_0)
   have qi616 : (1 < (rd_L2 t525 x438_2).length) = True := eq_true (by omega)
   (try rw [show ((1 : Int)).toNat = 1 from rfl] at hx616_0)
   replace p616 := eq_true p616; replace q616 := eq_true q616
   have p617 : 0 ≤ (2 : Int) := (by omega)
   have q617 : 2 < ((rd_L2 t525 x438_2).length : Int) := of_decide_eq_true (by first | (with_reducible assumption) | assumption)
   obtain ⟨ad617, e617, hx617_0⟩ := Kd.at_int (by repeat (first | (with_reducible exact HR612_0.out) | (with_reducible refine Kd.C_alloc ?_ _) | (with_reducible refine Kd.C_drewN ?_ _) | (with_reducible refine Kd.C_drew ?_) | exact HR612_0.out)) 2 p617 q617
   obtain rfl : ad613 = ad617 := (by injection e617)
   (try simp only [show (2 : Int).toNat = 2 from rfl, Nat.reduceMul, Nat.reduceEqDiff, Go.Addr.add, ↓reduceIte] at hx617_0)
   have qi617 : (2 < (rd_L2 t525 x438_2).length) = True := eq_true (by omega)
   (try rw [show ((2 : Int)).toNat = 2 from rfl] at hx617_0)
   replace p617 := eq_true p617; replace q617 := eq_true q617
   have p618 : 0 ≤ (2 : Int) := (by omega)
   have q618 : 2 < ((rd_L2 t525 x438_2).length : Int) := of_decide_eq_true (by first | (with_reducible assumption) | assumption)
   obtain ⟨ad618, e618, hx618_0⟩ := Kd.at_int (by repeat (first | (with_reducible exact HR612_0.out) | (with_reducible refine Kd.C_alloc ?_ _) | (with_reducible refine Kd.C_drewN ?_ _) | (with_reducible refine Kd.C_drew ?_) | exact HR612_0.out)) 2 p618 q618
   obtain rfl : ad613 = ad618 := (by injection e618)
   (try simp only [show (2 : Int).toNat = 2 from rfl, Nat.reduceMul, Nat.reduceEqDiff, Go.Addr.add, ↓reduceIte] at hx618_0)
   have qi618 : (2 < (rd_L2 t525 x438_2).length) = True := eq_true (by omega)
   (try rw [show ((2 : Int)).toNat = 2 from rfl] at hx618_0)
   replace p618 := eq_true p618; replace q618 := eq_true q618
   have p619 : 0 ≤ (2 : Int) := (by omega)
   have q619 : 2 < ((rd_L2 t525 x438_2).length : Int) := of_decide_eq_true (by first | (with_reducible assumption) | assumption)
   obtain ⟨ad619, e619, hx619_0⟩ := Kd.at_int (by repeat (first | (with_reducible exact HR612_0.out) | (with_reducible refine Kd.C_alloc ?_ _) | (with_reducible refine Kd.C_drewN ?_ _) | (with_reducible refine Kd.C_drew ?_) | exact HR612_0.out)) 2 p619 q619
   obtain rfl : ad613 = ad619 := (by injection e619)
   (try simp only [show (2 : Int).toNat = 2 from rfl, Nat.reduceMul, Nat.reduceEqDiff, Go.Addr.add, ↓reduceIte] at hx619_0)
   have qi619 : (2 < (rd_L2 t525 x438_2).length) = True := eq_true (by omega)
   (try rw [show ((2 : Int)).toNat = 2 from rfl] at hx619_0)
   replace p619 := eq_true p619; replace q619 := eq_true q619
   have p620 : 0 ≤ (0 : Int) := (by omega)
   have q620 : 0 < ((rd_L2 t525 x438_2).length : Int) := of_decide_eq_true (by first | (with_reducible assumption) | assumption)
   obtain ⟨ad620, e620, hx620_0⟩ := Kd.at_int (by repeat (first | (with_reducible exact HR612_0.out) | (with_reducible refine Kd.C_alloc ?_ _) | (with_reducible refine Kd.C_drewN ?_ _) | (with_reducible refine Kd.C_drew ?_) | exact HR612_0.out)) 0 p620 q620
   obtain rfl : ad613 = ad620 := (by injection e620)
   have qi620 : (0 < (rd_L2 t525 x438_2).length) = True := eq_true (by omega)
   (try rw [show ((0 : Int)).toNat = 0 from rfl] at hx620_0)
   (try rw [Addr.add_zero'] at hx620_0)
   replace p620 := eq_true p620; replace q620 := eq_true q620
   have p621 : 0 ≤ (1 : Int) := (by omega)
   have q621 : 1 < ((rd_L2 t525 x438_2).length : Int) := of_decide_eq_true (by first | (with_reducible assumption) | assumption)
   obtain ⟨ad621, e621, hx621_0⟩ := Kd.at_int (by repeat (first | (with_reducible exact HR612_0.out) | (with_reducible refine Kd.C_alloc ?_ _) | (with_reducible refine Kd.C_drewN ?_ _) | (with_reducible refine Kd.C_drew ?_) | exact HR612_0.out)) 1 p621 q621
   obtain rfl : ad613 = ad621 := (by injection e621)
   (try simp only [show (1 : Int).toNat = 1 from rfl, Nat.reduceMul, Nat.reduceEqDiff, Go.Addr.add, ↓reduceIte] at hx621_0)
   have qi621 : (1 < (rd_L2 t525 x438_2).length) = True := eq_true (by omega)
   (try rw [show ((1 : Int)).toNat = 1 from rfl] at hx621_0)
   replace p621 := eq_true p621; replace q621 := eq_true q621
   have p622 : 0 ≤ ((ji119) : Int) := of_decide_eq_true (by first | (with_reducible assumption) | assumption)
   have q622 : (ji119) < (t525.length : Int) := of_decide_eq_true (by first | (with_reducible assumption) | assumption)
   obtain ⟨ad622, A622_0, c622_0, e622, hx622_0, hl622_0, hi622_0⟩ := at_L2 (Kd.N_reads' HO_18.out).2.2 (ji119) p622 q622
   obtain rfl : ad612 = ad622 := (by injection e622)
   obtain ⟨ce622, hce622, hMe622, hcc622⟩ := Kd.N_get HO_18.out [] (ji119) p622 (by first | exact q622 | exact of_decide_eq_true (by first | (with_reducible assumption) | assumption) | (have e_ := (Kd.N_reads' HO_18.out).1; omega))
   obtain ⟨ua622_0, uc622_0, rfl, ul622_0, ge622_0⟩ := Kd.FK_slice_open hMe622
   have hv622_0 := hcc622 0 _ rfl
   rw [Nat.add_zero, show ((Kd.slice 3 (Kd.int .i64))).sz = 1 from rfl, Nat.mul_one] at hv622_0
   replace hv622_0 := Option.some.inj (hv622_0.symm.trans hx622_0)
   injection hv622_0 with hva_ hvn_ hvc_
   rw [hva_] at ge622_0
   rw [hvc_] at ul622_0
   have HL622_0 := am (show Kd.V (Kd.int .i64) 3 _ w.heap.size _ _ (rd_L2 t525 (ji119)) from Kd.V_mk ul622_0 ge622_0)
   clear hva_ hvn_ hvc_ ge622_0 ul622_0; clear hcc622 hce622; have HR622_0 := am hi622_0; have HC622_0 := am hl622_0; clear hi622_0 hl622_0; replace p622 := eq_true p622; replace q622 := eq_true q622
   have p623 : 0 ≤ (2 : Int) := (by omega)
   have q623 : 2 < ((rd_L2 t525 (ji119)).length : Int) := of_decide_eq_true (by first | (with_reducible assumption) | assumption)
   obtain ⟨ad623, e623, hx623_0⟩ := Kd.at_int (by repeat (first | (with_reducible exact HR622_0.out) | (with_reducible refine Kd.C_alloc ?_ _) | (with_reducible refine Kd.C_drewN ?_ _) | (with_reducible refine Kd.C_drew ?_) | exact HR622_0.out)) 2 p623 q623
   cases e623
   (try simp only [show (2 : Int).toNat = 2 from rfl, Nat.reduceMul, Nat.reduceEqDiff, Go.Addr.add, ↓reduceIte] at hx623_0)
   have qi623 : (2 < (rd_L2 t525 (ji119)).length) = True := eq_true (by omega)
   (try rw [show ((2 : Int)).toNat = 2 from rfl] at hx623_0)
   replace p623 := eq_true p623; replace q623 := eq_true q623
   have p624 : 0 ≤ (2 : Int) := (by omega)
   have q624 : 2 < ((rd_L2 t525 x438_2).length : Int) := of_decide_eq_true (by first | (with_reducible assumption) | assumption)
   obtain ⟨ad624, e624, hx624_0⟩ := Kd.at_int (by repeat (first | (with_reducible exact HR612_0.out) | (with_reducible refine Kd.C_alloc ?_ _) | (with_reducible refine Kd.C_drewN ?_ _) | (with_reducible refine Kd.C_drew ?_) | exact HR612_0.out)) 2 p624 q624
   obtain rfl : ad613 = ad624 := (by injection e624)
   (try simp only [show (2 : Int).toNat = 2 from rfl, Nat.reduceMul, Nat.reduceEqDiff, Go.Addr.add, ↓reduceIte] at hx624_0)
   have qi624 : (2 < (rd_L2 t525 x438_2).length) = True := eq_true (by omega)
   (try rw [show ((2 : Int)).toNat = 2 from rfl] at hx624_0)
   replace p624 := eq_true p624; replace q624 := eq_true q624
   have p625 : 0 ≤ ((ji119) : Int) := of_decide_eq_true (by first | (with_reducible assumption) | assumption)
   have q625 : (ji119) < (t525.length : Int) := of_decide_eq_true (by first | (with_reducible assumption) | assumption)
   obtain ⟨ad625, A625_0, c625_0, e625, hx625_0, hl625_0, hi625_0⟩ := at_L2 (Kd.N_reads' HO_18.out).2.2 (ji119) p625 q625
   obtain rfl : ad612 = ad625 := (by injection e625)
   obtain ⟨ce625, hce625, hMe625, hcc625⟩ := Kd.N_get HO_18.out [] (ji119) p625 (by first | exact q625 | exact of_decide_eq_true (by first | (with_reducible assumption) | assumption) | (have e_ := (Kd.N_reads' HO_18.out).1; omega))
   obtain ⟨ua625_0, uc625_0, rfl, ul625_0, ge625_0⟩ := Kd.FK_slice_open hMe625
   have hv625_0 := hcc625 0 _ rfl
   rw [Nat.add_zero, show ((Kd.slice 3 (Kd.int .i64))).sz = 1 from rfl, Nat.mul_one] at hv625_0
   replace hv625_0 := Option.some.inj (hv625_0.symm.trans hx625_0)
   injection hv625_0 with hva_ hvn_ hvc_
   rw [hva_] at ge625_0
   rw [hvc_] at ul625_0
   have HL625_0 := am (show Kd.V (Kd.int .i64) 3 _ w.heap.size _ _ (rd_L2 t525 (ji119)) from Kd.V_mk ul625_0 ge625_0)
   clear hva_ hvn_ hvc_ ge625_0 ul625_0; clear hcc625 hce625; have HR625_0 := am hi625_0; have HC625_0 := am hl625_0; clear hi625_0 hl625_0; replace p625 := eq_true p625; replace q625 := eq_true q625
   have ea_ := Option.some.inj (hx622_0.symm.trans hx625_0)
   injection ea_ with ea_ en_ ec_; subst ea_; subst ec_; clear en_
   have p626 : 0 ≤ (2 : Int) := (by omega)
   have q626 : 2 < ((rd_L2 t525 (ji119)).length : Int) := of_decide_eq_true (by first | (with_reducible assumption) | assumption)
   obtain ⟨ad626, e626, hx626_0⟩ := Kd.at_int (by repeat (first | (with_reducible exact HR625_0.out) | (with_reducible refine Kd.C_alloc ?_ _) | (with_reducible refine Kd.C_drewN ?_ _) | (with_reducible refine Kd.C_drew ?_) | exact HR625_0.out)) 2 p626 q626
   cases e626
   (try simp only [show (2 : Int).toNat = 2 from rfl, Nat.reduceMul, Nat.reduceEqDiff, Go.Addr.add, ↓reduceIte] at hx626_0)
   have qi626 : (2 < (rd_L2 t525 (ji119)).length) = True := eq_true (by omega)
   (try rw [show ((2 : Int)).toNat = 2 from rfl] at hx626_0)
   replace p626 := eq_true p626; replace q626 := eq_true q626
   have p627 : 0 ≤ (2 : Int) := (by omega)
   have q627 : 2 < ((rd_L2 t525 x438_2).length : Int) := of_decide_eq_true (by first | (with_reducible assumption) | assumption)
   obtain ⟨ad627, e627, hx627_0⟩ := Kd.at_int (by repeat (first | (with_reducible exact HR612_0.out) | (with_reducible refine Kd.C_alloc ?_ _) | (with_reducible refine Kd.C_drewN ?_ _) | (with_reducible refine Kd.C_drew ?_) | exact HR612_0.out)) 2 p627 q627
   obtain rfl : ad613 = ad627 := (by injection e627)
   (try simp only [show (2 : Int).toNat = 2 from rfl, Nat.reduceMul, Nat.reduceEqDiff, Go.Addr.add, ↓reduceIte] at hx627_0)
   have qi627 : (2 < (rd_L2 t525 x438_2).length) = True := eq_true (by omega)
   (try rw [show ((2 : Int)).toNat = 2 from rfl] at hx627_0)
   replace p627 := eq_true p627; replace q627 := eq_true q627
   go_wp2
   repeat (go_quiet (fail); try go_wp2)
   (refine Met.intro ?_; refine h1 _ _ _ _ _ _ _ _ _ _ _ _ _ _ _ _ _ _ _ _ _ _ _ _ _ _ _ _ _ _ _ _ _ _ _ _ _ _ _ _ _ _ _ _ _ _ _ _ _ _ _ _ _ _ _ _ _ _ _ _ _ _ _ _ _ _ _ _ _ _ _ _ _ _ _ _ _ _ _ _ _ _ _ _ _ _ _ _ ?_)
   exact ⟨_, (false), (by first | rfl | (simp; done) | (simp [*]; done)), H', ⟨by have := HK2.out; first | omega | exact Nat.le_refl _⟩, ⟨by (with_reducible repeat (first | apply Kd.N_alloc | apply Kd.N_drewN | apply Kd.N_drew)); exact HO_18.out⟩, ⟨by (with_reducible repeat (first | apply Kd.N_alloc | apply Kd.N_drewN | apply Kd.N_drew)); exact HO_22.out⟩, ⟨by (with_reducible repeat (first | apply Kd.N_alloc | apply Kd.N_drewN | apply Kd.N_drew)); exact HO_436.out⟩, ⟨by repeat (first | (with_reducible exact HR612_0.out) | (with_reducible refine Kd.C_alloc ?_ _) | (with_reducible refine Kd.C_drewN ?_ _) | (with_reducible refine Kd.C_drew ?_) | exact HR612_0.out)⟩, ⟨hbS HB.out⟩⟩
 ·exact absurd hw1 c118
end Go.Proofs.Ytkokbcnecnpgcaa.X
end
