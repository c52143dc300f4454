import Derived.Test.YtclmmnphmlmnmaaP4
import Derived.Test.YtclmmnphmlmnmaaP6
import Derived.Test.YtclmmnphmlmnmaaP7
import Derived.Test.YtclmmnphmlmnmaaP8
import Derived.Test.YtclmmnphmlmnmaaP9
import Derived.Test.YtclmmnphmlmnmaaP10
import Derived.Test.YtclmmnphmlmnmaaP11
import Derived.Test.YtclmmnphmlmnmaaP12
import Derived.Test.YtclmmnphmlmnmaaP14
section
-- Written by a program of this session (wip/tools/mp.py) over the kit's print of the translation.
namespace Go.Proofs.Ytclmmnphmlmnmaa.X
open Go.Proofs.Ytclmmnphmlmnmaa.Sq Go.RowKit Go.Proofs.YtclmmnphmlmnmaaW.PrintWords Go.Proofs.YtclmmnphmlmnmaaW.PrintLast Go.Proofs.YtclmmnphmlmnmaaW.PrintMore
attribute [local go_sem] max2_int min2_int max_two min_two max_three min_three max_four min_four   -- for this text's walks alone
set_option linter.unusedVariables false
set_option linter.unusedSimpArgs false
/-! ### laws_FnBoatsFollow: function 3 -/
mutual
def laws_FnBoatsFollow.j0 : Nat → List Int → Option (Bool)
 | 0, _ => none
 | k + 1, x1 => (spec_DrawRoundsHome.f k x1).bind fun t572 => ((impl_RoundsHome.f k t572).bind fun bt575 => ((spec_RoundsHome.f k t572).bind fun bt577 => ((impl_BackOrder.f k t572).bind fun bt579 => ((spec_BackOrder.f k t572).bind fun bt583 => ((impl_RankOfOrder.f k t572).bind fun bt587 => ((spec_RankOfOrder.f k t572).bind fun bt589 => ((spec_DrawCountWithInverted.f x1).bind fun bt591 => ((impl_CountWithInverted.f k bt591.1 bt591.2).bind fun bt593 => ((spec_CountWithInverted.f k bt591.1 bt591.2).bind fun bt595 => ((spec_DrawCountWithCycles.f x1).bind fun bt597 => ((impl_CountWithCycles.f k bt597.1 bt597.2).bind fun bt599 => ((spec_CountWithCycles.f k bt597.1 bt597.2).bind fun bt601 => ((spec_DrawOrderOfRank.f x1).bind fun bt603 => ((impl_OrderOfRank.f k bt603.1 bt603.2).bind fun bt605 => ((spec_OrderOfRank.f k bt603.1 bt603.2).bind fun bt609 => (if (bt575.2 != bt577.2) = true then (none) else (if bt575.1 = bt577.1 then (if (bt579.2 != bt583.2) = true then (none) else ((laws_kSame.f k bt579.1 bt583.1).bind fun t613 => (if t613 = true then (if (bt587.2 != bt589.2) = true then (none) else (if bt587.1 = bt589.1 then (if (bt579.2 != bt575.2) = true then (none) else (if (bt587.2 != bt575.2) = true then (none) else (if (bt593.2 != bt595.2) = true then (none) else (if bt593.1 = bt595.1 then (if (bt599.2 != bt601.2) = true then (none) else (if bt599.1 = bt601.1 then (if (bt605.2 != bt609.2) = true then (none) else ((laws_kSame.f k bt605.1 bt609.1).bind fun t614 => (if t614 = true then (if bt575.2 = true then (laws_FnBoatsFollow.l0 k t572 bt575.1 bt579.1 bt587.1 bt591.1 bt591.2 bt593.1 bt593.2 bt597.1 bt597.2 bt599.1 bt599.2 bt603.1 bt603.2 bt605.1 bt605.2 t572 1) else (laws_FnBoatsFollow.j3 k bt591.1 bt591.2 bt593.1 bt593.2 bt597.1 bt597.2 bt599.1 bt599.2 bt603.1 bt603.2 bt605.1 bt605.2)) else (none)))) else (none))) else (none))))) else (none))) else (none)))) else (none))))))))))))))))))
def laws_FnBoatsFollow.j3 : Nat → Int → Int → Int → Bool → Int → Int → Int → Bool → Int → Int → List Int → Bool → Option (Bool)
 | 0, _, _, _, _, _, _, _, _, _, _, _, _ => none
 | k + 1, x32, x33, x34, x35, x38, x39, x40, x41, x44, x45, x46, x47 => if x35 = true then (laws_FnBoatsFollow.j4 k x32 x33 x34 x38 x39 x40 x41 x44 x45 x46 x47 (decide (x32 > 1))) else (laws_FnBoatsFollow.j4 k x32 x33 x34 x38 x39 x40 x41 x44 x45 x46 x47 false)
def laws_FnBoatsFollow.j4 : Nat → Int → Int → Int → Int → Int → Int → Bool → Int → Int → List Int → Bool → Bool → Option (Bool)
 | 0, _, _, _, _, _, _, _, _, _, _, _, _ => none
 | k + 1, x32, x33, x34, x38, x39, x40, x41, x44, x45, x46, x47, x403 => if x403 = true then (laws_FnBoatsFollow.l1 k x32 x33 x34 x38 x39 x40 x41 x44 x45 x46 x47 1 2) else (laws_FnBoatsFollow.j6 k x38 x39 x40 x41 x44 x45 x46 x47)
def laws_FnBoatsFollow.j6 : Nat → Int → Int → Int → Bool → Int → Int → List Int → Bool → Option (Bool)
 | 0, _, _, _, _, _, _, _, _ => none
 | k + 1, x38, x39, x40, x41, x44, x45, x46, x47 => if x41 = true then (laws_FnBoatsFollow.l2 k x38 x39 x40 x44 x45 x46 x47 0 1 1) else (if x47 = true then ((impl_RankOfOrder.f k x46).bind fun bt744 => (if bt744.2 = true then (if bt744.1 = x45 then (some ((x46.length : Int) == x44)) else (none)) else (none))) else (some true))
def laws_FnBoatsFollow.l2 : Nat → Int → Int → Int → Int → Int → List Int → Bool → Int → Int → Int → Option (Bool)
 | 0, _, _, _, _, _, _, _, _, _, _ => none
 | k + 1, x38, x39, x40, x44, x45, x46, x47, x71, x72, x73 => if x73 ≤ x38 then ((impl_CountWithCycles.f k x38 x73).bind fun bt736 => (if bt736.2 = true then (if bt736.1 < 1 then (none) else (laws_FnBoatsFollow.l2 k x38 x39 x40 x44 x45 x46 x47 (wrap64 (x71 + bt736.1)) (wrap64 (x72 * x73)) (wrap64 (x73 + 1)))) else (none))) else (if x71 = x72 then (if x39 = 0 then (laws_FnBoatsFollow.j8 k x44 x45 x46 x47 (true != (x40 == 0))) else (laws_FnBoatsFollow.j8 k x44 x45 x46 x47 ((decide (x39 > x38)) != (x40 == 0)))) else (none))
def laws_FnBoatsFollow.j8 : Nat → Int → Int → List Int → Bool → Bool → Option (Bool)
 | 0, _, _, _, _, _ => none
 | k + 1, x44, x45, x46, x47, x484 => if x484 = true then (none) else (if x47 = true then ((impl_RankOfOrder.f k x46).bind fun bt742 => (if bt742.2 = true then (if bt742.1 = x45 then (some ((x46.length : Int) == x44)) else (none)) else (none))) else (some true))
def laws_FnBoatsFollow.l1 : Nat → Int → Int → Int → Int → Int → Int → Bool → Int → Int → List Int → Bool → Int → Int → Option (Bool)
 | 0, _, _, _, _, _, _, _, _, _, _, _, _, _ => none
 | k + 1, x32, x33, x34, x38, x39, x40, x41, x44, x45, x46, x47, x66, x67 => if x67 ≤ x32 then (laws_FnBoatsFollow.l1 k x32 x33 x34 x38 x39 x40 x41 x44 x45 x46 x47 (wrap64 (x66 * x67)) (wrap64 (x67 + 1))) else (if x33 ≤ (wrap64 (Int.tdiv (wrap64 (x32 * (wrap64 (x32 - 1)))) 2)) then ((impl_CountWithInverted.f k x32 (wrap64 ((wrap64 (Int.tdiv (wrap64 (x32 * (wrap64 (x32 - 1)))) 2)) - x33))).bind fun bt728 => (if bt728.2 = true then (if bt728.1 = x34 then (if x34 < 1 then (none) else (if x34 > x66 then (none) else (laws_FnBoatsFollow.j6 k x38 x39 x40 x41 x44 x45 x46 x47))) else (none)) else (none))) else (if x34 = 0 then (laws_FnBoatsFollow.j6 k x38 x39 x40 x41 x44 x45 x46 x47) else (none)))
def laws_FnBoatsFollow.j2 : Nat → List Int → Int → List Int → Int → Int → Int → Int → Bool → Int → Int → Int → Bool → Int → Int → List Int → Bool → Int → Option (Bool)
 | 0, _, _, _, _, _, _, _, _, _, _, _, _, _, _, _, _, _ => none
 | k + 1, x19, x20, x24, x28, x32, x33, x34, x35, x38, x39, x40, x41, x44, x45, x46, x47, x51 => (impl_FollowOrder.f k x19 x24).bind fun bt683 => ((impl_CountInverted.f k x19).bind fun bt687 => ((impl_CountInverted.f k x24).bind fun bt689 => ((impl_CountInverted.f k bt683.1).bind fun bt691 => ((impl_OrderOfRank.f k (x19.length : Int) x28).bind fun bt693 => (if x51 = x20 then (if bt683.2 = true then (if bt687.2 = true then (if bt689.2 = true then (if bt687.1 = bt689.1 then (if bt691.2 = true then (if bt691.1 = 0 then (if bt693.2 = true then ((laws_kSame.f k bt693.1 x19).bind fun t697 => (if t697 = true then (laws_FnBoatsFollow.j3 k x32 x33 x34 x35 x38 x39 x40 x41 x44 x45 x46 x47) else (none))) else (none)) else (none)) else (none)) else (none)) else (none)) else (none)) else (none)) else (none))))))
def laws_FnBoatsFollow.l0 : Nat → List Int → Int → List Int → Int → Int → Int → Int → Bool → Int → Int → Int → Bool → Int → Int → List Int → Bool → List Int → Int → Option (Bool)
 | 0, _, _, _, _, _, _, _, _, _, _, _, _, _, _, _, _, _, _ => none
 | k + 1, x19, x20, x24, x28, x32, x33, x34, x35, x38, x39, x40, x41, x44, x45, x46, x47, x50, x51 => (impl_CountInverted.f k x50).bind fun bt645 => (if bt645.2 = true then (if bt645.1 = 0 then (laws_FnBoatsFollow.j2 k x19 x20 x24 x28 x32 x33 x34 x35 x38 x39 x40 x41 x44 x45 x46 x47 x51) else ((impl_FollowOrder.f k x50 x19).bind fun bt651 => (if bt651.2 = true then (if x51 > 20 then (none) else (laws_FnBoatsFollow.l0 k x19 x20 x24 x28 x32 x33 x34 x35 x38 x39 x40 x41 x44 x45 x46 x47 bt651.1 (wrap64 (x51 + 1)))) else (none)))) else (none))
end
def laws_FnBoatsFollow.f (k : Nat) (l0 : List Int) (l1 : List Int) : Option (Bool) := (laws_big.f l0 l1).bind fun t442 => (if t442 = true then (some true) else ((spec_DrawFollowOrder.f k l0).bind fun bt457 => ((impl_FollowOrder.f k bt457.1 bt457.2).bind fun bt463 => ((spec_FollowOrder.f k bt457.1 bt457.2).bind fun bt467 => (if (bt463.2 != bt467.2) = true then (none) else ((laws_kSame.f k bt463.1 bt467.1).bind fun t471 => (if t471 = true then (if bt463.2 = true then ((impl_BackOrder.f k bt457.1).bind fun bt520 => ((impl_BackOrder.f k bt457.2).bind fun bt524 => ((impl_BackOrder.f k bt463.1).bind fun bt528 => ((impl_FollowOrder.f k bt524.1 bt520.1).bind fun bt532 => (if bt520.2 = true then (if bt524.2 = true then (if bt528.2 = true then (if bt532.2 = true then ((laws_kSame.f k bt528.1 bt532.1).bind fun t536 => (if t536 = true then ((impl_IsOrder.f bt463.1).bind fun t537 => (if t537 = true then (laws_FnBoatsFollow.j0 k l1) else (none))) else (none))) else (none)) else (none)) else (none)) else (none)))))) else (laws_FnBoatsFollow.j0 k l1)) else (none))))))))
/-- The statements from the one on whose first region has the number i. -/
def headR : Code → Option Nat
  | .region i _ _ => some i
  | .seq a _ => headR a
  | _ => none
def dropTo (i : Nat) : Code → Code
  | .seq a b => if headR a = some i then .seq a b else dropTo i b
  | c => c
end Go.Proofs.Ytclmmnphmlmnmaa.X
end
section
namespace Go.Proofs.Ytclmmnphmlmnmaa.X
open Go.Proofs.Ytclmmnphmlmnmaa.Sq Go.RowKit Go.Proofs.YtclmmnphmlmnmaaW.PrintWords Go.Proofs.YtclmmnphmlmnmaaW.PrintLast Go.Proofs.YtclmmnphmlmnmaaW.PrintMore
attribute [local go_sem] max2_int min2_int max_two min_two max_three min_three max_four min_four   -- for this text's walks alone
set_option linter.unusedVariables false
set_option linter.unusedSimpArgs false
set_option maxHeartbeats 8000000 in
set_option maxRecDepth 1000000 in
theorem laws_FnBoatsFollow.part_j6 {u0 u1 u2 u3 u4 u5 u6 u7 u8 u9 u10 u11 u12 u13 u14 u15 u16 u17 u18 u19 u20 u21 u22 u23 u24 u25 u26 u27 u28 u29 u30 u31 u32 u33 u34 u35 u36 u37 u42 u43 u48 u49 u50 u51 u52 u53 u54 u55 u56 u57 u58 u59 u60 u61 u62 u63 u64 u65 u66 u67 u68 u69 u70 u71 u72 u73 u74 u75 u76 u77 u78 u79 u80 u81 u82 u83 u84 u85 u86 u87 u88 u89 u90 u91 u92 u93 u94 u95 u96 u97 u98 u99 u100 u101 u102 u103 u104 u105 u106 u107 u108 u109 u110 u111 u112 u113 u114 u115 u116 u117 u118 u119 u120 u121 u122 u123 u124 u125 u126 u127 u128 u129 u130 u131 u132 u133 u134 u135 u136 u137 u138 u139 u140 u141 u142 u143 u144 u145 u146 u147 u148 u149 u150 u151 u152 u153 u154 u155 u156 u157 u158 u159 u160 u161 u162 u163 u164 u165 u166 u167 u168 u169 u170 u171 u172 u173 u174 u175 u176 u177 u178 u179 u180 u181 u182 u183 u184 u185 u186 u187 u188 u189 u190 u191 u192 u193 u194 u195 u196 u197 u198 u199 u200 u201 u202 u203 u204 u205 u206 u207 u208 u209 u210 u211 u212 u213 u214 u215 u216 u217 u218 u219 u220 u221 u222 u223 u224 u225 u226 u227 u228 u229 u230 u231 u232 u233 u234 u235 u236 u237 u238 u239 u240 u241 u242 u243 u244 u245 u246 u247 u248 u249 u250 u251 u252 u253 u254 u255 u256 u257 u258 u259 u260 u261 u262 u263 u264 u265 u266 u267 u268 u269 u270 u271 u272 u273 u274 u275 u276 u277 u278 u279 u280 u281 u282 u283 u284 u285 u286 u287 u288 u289 u290 u291 u292 u293 u294 u295 u296 u297 u298 u299 u300 u301 u302 u303 u304 u305 u306 u307 u308 u309 u310 u311 u312 u313 u314 u315 u316 u317 u318 u319 u320 u321 u322 u323 u324 u325 u326 u327 u328 u329 u330 u331 u332 u333 u334 u335 u336 u337 u338 u339 u340 u341 u342 u343 u344 u345 u346 u347 u348 u349 u350 u351 u352 u353 u354 u355 u356 u357 u358 u359 u360 u361 u362 u363 u364 u365 u366 u367 u368 u369 u370 u371 u372 u373 u374 u375 u376 u377 u378 u379 u380 u381 u382 u383 u384 u385 u386 u387 u388 u389 u390 u391 u392 u393 u394 u395 u396 u397 u398 u399 u400 u401 u402 u403 u404 u405 u406 u407 u408 u409 u410 u411 u412 u413 u414 u415 u416 u417 u418 u419 u420 u421 u422 u423 u424 u425 u426 u427 u428 u429 u430 u431 u432 u433 u434 u435 u436 u437 u438 u439 u440 u441 u442 u443 u444 u445 u446 u447 u448 u449 u450 u451 u452 u453 u454 u455 u456 u457 u458 u459 u460 u461 u462 u463 u464 u465 u466 u467 u468 u469 u470 u471 u472 u473 u474 u475 u476 u477 u478 u479 u480 u481 u482 u483 u484 u485 u486 u487 u488 u489 u490 u491 u492 u493 u494 u495 u496 u497 u498 u499 u500 u501 u502 : Value} (kq kj128 : Nat)  (t597 : Int) (t598 : Int) (t599 : Int) (t600 : Bool) (t603 : Int) (t604 : Int) (t605 : List Int) (t606 : Bool) (Ao92 : Option Addr) (co92 : Nat) (r : Bool) (w wc : World)  (HA : Aside0 (laws_FnBoatsFollow.j6 kq t597 t598 t599 t600 t603 t604 t605 t606 = some r)) (HJ130 : Aside0 (kq ≤ kj128)) (HO_46 : Aside0 (Kd.R (Kd.int .i64) 3 wc w.heap.size (fun _ => True) (.slice Ao92 t605.length co92) t605)) (HB : Aside0 (Below w.heap.size w wc)) :
  Code.wp Try.prog (dropTo 64 (Try.f3.body.getD .skip)) (bodyPost Try.prog Try.f3 fun e w' => e = .returned (.bool r) ∧ Below w.heap.size w w') ⟨#[u0, u1, u2, u3, u4, u5, u6, u7, u8, u9, u10, u11, u12, u13, u14, u15, u16, u17, u18, u19, u20, u21, u22, u23, u24, u25, u26, u27, u28, u29, u30, u31, u32, u33, u34, u35, u36, u37, Value.int .i64 t597, Value.int .i64 t598, Value.int .i64 t599, Value.bool t600, u42, u43, Value.int .i64 t603, Value.int .i64 t604, .slice Ao92 t605.length co92, Value.bool t606, u48, u49, u50, u51, u52, u53, u54, u55, u56, u57, u58, u59, u60, u61, u62, u63, u64, u65, u66, u67, u68, u69, u70, u71, u72, u73, u74, u75, u76, u77, u78, u79, u80, u81, u82, u83, u84, u85, u86, u87, u88, u89, u90, u91, u92, u93, u94, u95, u96, u97, u98, u99, u100, u101, u102, u103, u104, u105, u106, u107, u108, u109, u110, u111, u112, u113, u114, u115, u116, u117, u118, u119, u120, u121, u122, u123, u124, u125, u126, u127, u128, u129, u130, u131, u132, u133, u134, u135, u136, u137, u138, u139, u140, u141, u142, u143, u144, u145, u146, u147, u148, u149, u150, u151, u152, u153, u154, u155, u156, u157, u158, u159, u160, u161, u162, u163, u164, u165, u166, u167, u168, u169, u170, u171, u172, u173, u174, u175, u176, u177, u178, u179, u180, u181, u182, u183, u184, u185, u186, u187, u188, u189, u190, u191, u192, u193, u194, u195, u196, u197, u198, u199, u200, u201, u202, u203, u204, u205, u206, u207, u208, u209, u210, u211, u212, u213, u214, u215, u216, u217, u218, u219, u220, u221, u222, u223, u224, u225, u226, u227, u228, u229, u230, u231, u232, u233, u234, u235, u236, u237, u238, u239, u240, u241, u242, u243, u244, u245, u246, u247, u248, u249, u250, u251, u252, u253, u254, u255, u256, u257, u258, u259, u260, u261, u262, u263, u264, u265, u266, u267, u268, u269, u270, u271, u272, u273, u274, u275, u276, u277, u278, u279, u280, u281, u282, u283, u284, u285, u286, u287, u288, u289, u290, u291, u292, u293, u294, u295, u296, u297, u298, u299, u300, u301, u302, u303, u304, u305, u306, u307, u308, u309, u310, u311, u312, u313, u314, u315, u316, u317, u318, u319, u320, u321, u322, u323, u324, u325, u326, u327, u328, u329, u330, u331, u332, u333, u334, u335, u336, u337, u338, u339, u340, u341, u342, u343, u344, u345, u346, u347, u348, u349, u350, u351, u352, u353, u354, u355, u356, u357, u358, u359, u360, u361, u362, u363, u364, u365, u366, u367, u368, u369, u370, u371, u372, u373, u374, u375, u376, u377, u378, u379, u380, u381, u382, u383, u384, u385, u386, u387, u388, u389, u390, u391, u392, u393, u394, u395, u396, u397, u398, u399, u400, u401, u402, u403, u404, u405, u406, u407, u408, u409, u410, u411, u412, u413, u414, u415, u416, u417, u418, u419, u420, u421, u422, u423, u424, u425, u426, u427, u428, u429, u430, u431, u432, u433, u434, u435, u436, u437, u438, u439, u440, u441, u442, u443, u444, u445, u446, u447, u448, u449, u450, u451, u452, u453, u454, u455, u456, u457, u458, u459, u460, u461, u462, u463, u464, u465, u466, u467, u468, u469, u470, u471, u472, u473, u474, u475, u476, u477, u478, u479, u480, u481, u482, u483, u484, u485, u486, u487, u488, u489, u490, u491, u492, u493, u494, u495, u496, u497, u498, u499, u500, u501, u502], []⟩ wc := by
 conv => arg 2; whnf
 (try dsimp only [List.append])
 cases kq with
 | zero => exact absurd HA.out (by simp [laws_FnBoatsFollow.j6])
 | succ kj130 =>
  have H := HA.out
  clear HA
  simp only [laws_FnBoatsFollow.j6] at H
  by_cases c142 : t600 = true
  ·subst c142
   rw [if_pos rfl] at H
   (try dsimp only at H)
   have H' := am H
   clear H
   go_wp2
   go_loopg [71, 72, 73] kj130 (fun kq v71 v72 v73 w' => ∃ (x71_5 : Int) (x72_5 : Int) (x73_5 : Int), v71 = .int .i64 x71_5 ∧ v72 = .int .i64 x72_5 ∧ v73 = .int .i64 x73_5 ∧ Aside0 (laws_FnBoatsFollow.l2 kq t597 t598 t599 t603 t604 t605 t606 x71_5 x72_5 x73_5 = some r) ∧ Aside0 (kq ≤ kj130) ∧ Aside0 (Kd.R (Kd.int .i64) 3 w' w.heap.size (fun _ => True) (.slice Ao92 t605.length co92) t605) ∧ Aside0 (Below w.heap.size w w'))
   case atStart => exact ⟨(0), (1), (1), (by first | rfl | (simp; done) | (simp [*]; done)), (by first | rfl | (simp; done) | (simp [*]; done)), (by first | rfl | (simp; done) | (simp [*]; done)), H', ⟨Nat.le_refl _⟩, ⟨roS HO_46.out⟩, ⟨hbS HB.out⟩⟩
   case round =>
    clear H'
    (try clear c1); (try clear c2); (try clear p2); (try clear c3); (try clear c4); (try clear c5); (try clear c6); (try clear p6); (try clear c7); (try clear c8); (try clear c8b0); (try clear c8b1); (try clear c8b2); (try clear c9); (try clear c10); (try clear c11); (try clear c12); (try clear c13); (try clear c14); (try clear c15); (try clear c16); (try clear c17); (try clear c18); (try clear c19); (try clear c20); (try clear c21); (try clear c22); (try clear c23); (try clear c24); (try clear c25); (try clear c26); (try clear c27); (try clear c29); (try clear c31); (try clear c57); (try clear c57b0); (try clear c57b1); (try clear c57b2); (try clear c58); (try clear c58b0); (try clear c58b1); (try clear c59); (try clear c59b0); (try clear c59b1); (try clear c59b2); (try clear c61); (try clear c62); (try clear c62b0); (try clear c62b1); (try clear c62b2); (try clear c63); (try clear c63b0); (try clear c63b1); (try clear c64); (try clear c64b0); (try clear c64b1); (try clear c64b2); (try clear p64); (try clear c65); (try clear c65b0); (try clear c65b1); (try clear c65b2); (try clear c66); (try clear c66b0); (try clear c66b1); (try clear c66b2); (try clear c67); (try clear c67b0); (try clear c67b1); (try clear c68); (try clear c68b0); (try clear c68b1); (try clear c68b2); (try clear c69); (try clear c69b0); (try clear c69b1); (try clear c70); (try clear c70b0); (try clear c70b1); (try clear c70b2); (try clear c72); (try clear c94); (try clear c97); (try clear c98); (try clear c98b0); (try clear c98b1); (try clear c102); (try clear c103); (try clear c103b0); (try clear c112); (try clear c112b0); (try clear c112b1); (try clear c113); (try clear c114); (try clear c115); (try clear c116); (try clear c116b0); (try clear c116b1); (try clear c117); (try clear c118); (try clear c118b0); (try clear c118b1); (try clear c119); (try clear c121); (try clear c130); (try clear c132); (try clear c133); (try clear c133b0); (try clear c134); (try clear c134b0); (try clear c136); (try clear c137); (try clear c137b0); (try clear c137b1); (try clear c138); (try clear c138b0); (try clear c139); (try clear c139b0); (try clear c141); (try clear c141b0); (try clear c141b1); (try clear c142); (try clear p2); (try clear p6); (try clear p64); obtain ⟨x71_5, x72_5, x73_5, rfl, rfl, rfl, HA, HK5, HO_46, HB⟩ := hrel
    cases gk with
    | zero => exact absurd HA.out (by simp [laws_FnBoatsFollow.l2])
    | succ k5 =>
     have H := HA.out
     clear HA
     simp only [laws_FnBoatsFollow.l2] at H
     by_cases c143 : x73_5 ≤ t597
     ·rw [if_pos c143] at H
      have c143b0 : decide (x73_5 ≤ t597) = true := decide_eq_true c143; clear c143; replace H := Option.bind_eq_some_iff.mp H; obtain ⟨⟨t736, t737⟩, A1440, H⟩ := H; (try dsimp only at H); have A144 := am A1440; clear A1440
      by_cases c145 : t737 = true
      rotate_left
      ·replace c145 := Bool.eq_false_iff.mpr c145
       subst c145
       rw [if_neg (show ¬ (false = true) by decide)] at H
       (try dsimp only at H)
       exact absurd H (by simp)
      subst c145
      rw [if_pos rfl] at H
      (try dsimp only at H); obtain ⟨c146, H⟩ := itN H; have c146b0 : decide (t736 < 1) = false := decide_eq_false c146; clear c146
      have H' := am H
      clear H
      go_wp2_with (first | ((with_reducible refine gate_callee (f := 21) rfl ?_); refine goesL_ (some 455) rfl rfl Try.func21 (by kernel_rfl) rfl #[.int .i64 t597, .int .i64 x73_5] rfl (by (try simp only [List.map_toArray, List.map_cons, List.map_nil]); first | done | rfl | (simp only [List.length_drop, List.length_take]; rfl)) ?_; (with_reducible refine (impl_CountWithCycles.calls k5 t597 x73_5 t736 true _ A144.out).mono ?_); rintro e w147 ⟨rfl, hb⟩; refine ⟨_, rfl, ?_⟩; have n0_ := am (Kd.R_below (roS HO_46.out) hb); have n1_ := am (below_step (hbS HB.out) hb); clear HO_46; clear HB; have HO_46 := n0_; have HB := n1_; clear n0_ n1_; (try clear hb); (try clear hb2); (try clear hk); (try clear hi)))
      go_roundg k5
      case measure => have := HJ130.out; have := HK5.out; omega
      case rel => exact ⟨(wrap64 (x71_5 + t736)), (wrap64 (x72_5 * x73_5)), (wrap64 (x73_5 + 1)), (by first | rfl | (simp; done) | (simp [*]; done)), (by first | rfl | (simp; done) | (simp [*]; done)), (by first | rfl | (simp; done) | (simp [*]; done)), H', ⟨by have := HJ130.out; have := HK5.out; omega⟩, ⟨roS HO_46.out⟩, ⟨hbS HB.out⟩⟩
     ·rw [if_neg c143] at H
      have c143b0 : decide (x73_5 ≤ t597) = false := decide_eq_false c143; clear c143; have HC148 := am H; clear H
      go_upto_region 74 with (fail)
      go_cut [484] from 9999 (fun v484 wc => ∃ (kq : Nat) (x484_147 : Bool), v484 = .bool x484_147 ∧ Aside0 (laws_FnBoatsFollow.j8 kq t603 t604 t605 t606 x484_147 = some r) ∧ Aside0 (kq ≤ k5) ∧ Aside0 (Kd.R (Kd.int .i64) 3 wc w.heap.size (fun _ => True) (.slice Ao92 t605.length co92) t605) ∧ Aside0 (Below w.heap.size w wc))
      case first =>
       have H := HC148.out
       clear HC148; obtain ⟨c149, H⟩ := itP H
       have c149b0 : (x71_5 == x72_5) = true := beq_iff_eq.mpr c149
       have c149b1 : (x71_5 != x72_5) = false := bne_eq_false_iff_eq.mpr c149
       clear c149
       (first | rw [c149b0] | (simp only [i64_w, i32_w]; rw [c149b0]) | skip)
       by_cases c150 : t598 = 0
       ·rw [if_pos c150] at H
        have c150b0 : (t598 == 0) = true := beq_iff_eq.mpr c150
        have c150b1 : (t598 != 0) = false := bne_eq_false_iff_eq.mpr c150
        clear c150
        have H' := am H
        clear H
        go_wp2
        go_meet
        case rel => exact ⟨_, ((true != (t599 == 0))), (by first | rfl | (simp; done) | (simp [*]; done)), H', ⟨by have := HJ130.out; have := HK5.out; first | omega | exact Nat.le_refl _⟩, ⟨roS HO_46.out⟩, ⟨hbS HB.out⟩⟩
       ·rw [if_neg c150] at H
        have c150b0 : (t598 == 0) = false := beq_eq_false_iff_ne.mpr c150
        have c150b1 : (t598 != 0) = true := bne_iff_ne.mpr c150
        have H' := am H
        clear H
        go_wp2
        go_meet
        case rel => exact ⟨_, (((decide (t598 > t597)) != (t599 == 0))), (by first | rfl | (simp; done) | (simp [*]; done)), H', ⟨by have := HJ130.out; have := HK5.out; first | omega | exact Nat.le_refl _⟩, ⟨roS HO_46.out⟩, ⟨hbS HB.out⟩⟩
      case rest =>
       clear HC148; (try clear c1); (try clear c2); (try clear p2); (try clear c3); (try clear c4); (try clear c5); (try clear c6); (try clear p6); (try clear c7); (try clear c8); (try clear c8b0); (try clear c8b1); (try clear c8b2); (try clear c9); (try clear c10); (try clear c11); (try clear c12); (try clear c13); (try clear c14); (try clear c15); (try clear c16); (try clear c17); (try clear c18); (try clear c19); (try clear c20); (try clear c21); (try clear c22); (try clear c23); (try clear c24); (try clear c25); (try clear c26); (try clear c27); (try clear c29); (try clear c31); (try clear c57); (try clear c57b0); (try clear c57b1); (try clear c57b2); (try clear c58); (try clear c58b0); (try clear c58b1); (try clear c59); (try clear c59b0); (try clear c59b1); (try clear c59b2); (try clear c61); (try clear c62); (try clear c62b0); (try clear c62b1); (try clear c62b2); (try clear c63); (try clear c63b0); (try clear c63b1); (try clear c64); (try clear c64b0); (try clear c64b1); (try clear c64b2); (try clear p64); (try clear c65); (try clear c65b0); (try clear c65b1); (try clear c65b2); (try clear c66); (try clear c66b0); (try clear c66b1); (try clear c66b2); (try clear c67); (try clear c67b0); (try clear c67b1); (try clear c68); (try clear c68b0); (try clear c68b1); (try clear c68b2); (try clear c69); (try clear c69b0); (try clear c69b1); (try clear c70); (try clear c70b0); (try clear c70b1); (try clear c70b2); (try clear c72); (try clear c94); (try clear c97); (try clear c98); (try clear c98b0); (try clear c98b1); (try clear c102); (try clear c103); (try clear c103b0); (try clear c112); (try clear c112b0); (try clear c112b1); (try clear c113); (try clear c114); (try clear c115); (try clear c116); (try clear c116b0); (try clear c116b1); (try clear c117); (try clear c118); (try clear c118b0); (try clear c118b1); (try clear c119); (try clear c121); (try clear c130); (try clear c132); (try clear c133); (try clear c133b0); (try clear c134); (try clear c134b0); (try clear c136); (try clear c137); (try clear c137b0); (try clear c137b1); (try clear c138); (try clear c138b0); (try clear c139); (try clear c139b0); (try clear c141); (try clear c141b0); (try clear c141b1); (try clear c142); (try clear c143); (try clear c143b0); (try clear c145); (try clear c146); (try clear c146b0); (try clear c149); (try clear c149b0); (try clear c149b1); (try clear c150); (try clear c150b0); (try clear c150b1); (try clear p2); (try clear p6); (try clear p64); obtain ⟨kq, x484_147, rfl, HA, HJ147, HO_46, HB⟩ := hcut
       cases kq with
       | zero => exact absurd HA.out (by simp [laws_FnBoatsFollow.j8])
       | succ kj147 =>
        have H := HA.out
        clear HA
        simp only [laws_FnBoatsFollow.j8] at H
        by_cases c151 : x484_147 = true
        ·subst c151
         rw [if_pos rfl] at H
         (try dsimp only at H)
         exact absurd H (by simp)
        replace c151 := Bool.eq_false_iff.mpr c151
        subst c151
        rw [if_neg (show ¬ (false = true) by decide)] at H
        (try dsimp only at H)
        by_cases c152 : t606 = true
        ·subst c152
         rw [if_pos rfl] at H
         (try dsimp only at H); replace H := Option.bind_eq_some_iff.mp H; obtain ⟨⟨t742, t743⟩, A1530, H⟩ := H; (try dsimp only at H); have A153 := am A1530; clear A1530
         by_cases c154 : t743 = true
         rotate_left
         ·replace c154 := Bool.eq_false_iff.mpr c154
          subst c154
          rw [if_neg (show ¬ (false = true) by decide)] at H
          (try dsimp only at H)
          exact absurd H (by simp)
         subst c154
         rw [if_pos rfl] at H
         (try dsimp only at H); obtain ⟨c155, H⟩ := itP H
         have c155b0 : (t742 == t604) = true := beq_iff_eq.mpr c155
         have c155b1 : (t742 != t604) = false := bne_eq_false_iff_eq.mpr c155
         clear c155
         obtain rfl := Option.some.inj H
         go_wp2_with (first | ((with_reducible refine gate_callee (f := 15) rfl ?_); refine goesL_ (some 488) rfl rfl Try.func15 (by kernel_rfl) rfl #[.slice Ao92 t605.length co92] rfl (by (try simp only [List.map_toArray, List.map_cons, List.map_nil]); first | done | rfl | (simp only [List.length_drop, List.length_take]; rfl)) ?_; (with_reducible refine (impl_RankOfOrder.calls kj147 _ _ t605 t742 true _ ?side1 ?side2 A153.out).mono ?_); (case side1 => repeat (first | exact (Kd.R_reads' HO_46.out).2.2 | (with_reducible refine Kd.C_alloc ?_ _) | (with_reducible refine Kd.C_drewN ?_ _) | (with_reducible refine Kd.C_drew ?_))); (case side2 => exact (Kd.R_reads' HO_46.out).2.1); rintro e w156 ⟨rfl, hb⟩; refine ⟨_, rfl, ?_⟩; have n0_ := am (Kd.R_below (roS HO_46.out) hb); have n1_ := am (below_step (hbS HB.out) hb); clear HO_46; clear HB; have HO_46 := n0_; have HB := n1_; clear n0_ n1_; (try clear hb); (try clear hb2); (try clear hk); (try clear hi)))
         go_ret
         exact ⟨by first | rfl | (simp [errW_none, errW_some] <;> rfl) | (simp [*, errW_none, errW_some] <;> rfl), hbS HB.out⟩
        ·replace c152 := Bool.eq_false_iff.mpr c152
         subst c152
         rw [if_neg (show ¬ (false = true) by decide)] at H
         (try dsimp only at H)
         obtain rfl := Option.some.inj H
         go_wp2
         go_ret
         exact ⟨by first | rfl | (simp [errW_none, errW_some] <;> rfl) | (simp [*, errW_none, errW_some] <;> rfl), hbS HB.out⟩
  ·replace c142 := Bool.eq_false_iff.mpr c142
   subst c142
   rw [if_neg (show ¬ (false = true) by decide)] at H
   (try dsimp only at H)
   by_cases c157 : t606 = true
   ·subst c157
    rw [if_pos rfl] at H
    (try dsimp only at H); replace H := Option.bind_eq_some_iff.mp H; obtain ⟨⟨t744, t745⟩, A1580, H⟩ := H; (try dsimp only at H); have A158 := am A1580; clear A1580
    by_cases c159 : t745 = true
    rotate_left
    ·replace c159 := Bool.eq_false_iff.mpr c159
     subst c159
     rw [if_neg (show ¬ (false = true) by decide)] at H
     (try dsimp only at H)
     exact absurd H (by simp)
    subst c159
    rw [if_pos rfl] at H
    (try dsimp only at H); obtain ⟨c160, H⟩ := itP H
    have c160b0 : (t744 == t604) = true := beq_iff_eq.mpr c160
    have c160b1 : (t744 != t604) = false := bne_eq_false_iff_eq.mpr c160
    clear c160
    obtain rfl := Option.some.inj H
    go_wp2_with (first | ((with_reducible refine gate_callee (f := 15) rfl ?_); refine goesL_ (some 488) rfl rfl Try.func15 (by kernel_rfl) rfl #[.slice Ao92 t605.length co92] rfl (by (try simp only [List.map_toArray, List.map_cons, List.map_nil]); first | done | rfl | (simp only [List.length_drop, List.length_take]; rfl)) ?_; (with_reducible refine (impl_RankOfOrder.calls kj130 _ _ t605 t744 true _ ?side1 ?side2 A158.out).mono ?_); (case side1 => repeat (first | exact (Kd.R_reads' HO_46.out).2.2 | (with_reducible refine Kd.C_alloc ?_ _) | (with_reducible refine Kd.C_drewN ?_ _) | (with_reducible refine Kd.C_drew ?_))); (case side2 => exact (Kd.R_reads' HO_46.out).2.1); rintro e w161 ⟨rfl, hb⟩; refine ⟨_, rfl, ?_⟩; have n0_ := am (Kd.R_below (roS HO_46.out) hb); have n1_ := am (below_step (hbS HB.out) hb); clear HO_46; clear HB; have HO_46 := n0_; have HB := n1_; clear n0_ n1_; (try clear hb); (try clear hb2); (try clear hk); (try clear hi)))
    go_ret
    exact ⟨by first | rfl | (simp [errW_none, errW_some] <;> rfl) | (simp [*, errW_none, errW_some] <;> rfl), hbS HB.out⟩
   ·replace c157 := Bool.eq_false_iff.mpr c157
    subst c157
    rw [if_neg (show ¬ (false = true) by decide)] at H
    (try dsimp only at H)
    obtain rfl := Option.some.inj H
    go_wp2
    go_ret
    exact ⟨by first | rfl | (simp [errW_none, errW_some] <;> rfl) | (simp [*, errW_none, errW_some] <;> rfl), hbS HB.out⟩
end Go.Proofs.Ytclmmnphmlmnmaa.X
end
section
namespace Go.Proofs.Ytclmmnphmlmnmaa.X
open Go.Proofs.Ytclmmnphmlmnmaa.Sq Go.RowKit Go.Proofs.YtclmmnphmlmnmaaW.PrintWords Go.Proofs.YtclmmnphmlmnmaaW.PrintLast Go.Proofs.YtclmmnphmlmnmaaW.PrintMore
attribute [local go_sem] max2_int min2_int max_two min_two max_three min_three max_four min_four   -- for this text's walks alone
set_option linter.unusedVariables false
set_option linter.unusedSimpArgs false
set_option maxHeartbeats 8000000 in
set_option maxRecDepth 1000000 in
theorem laws_FnBoatsFollow.part_j3 {u0 u1 u2 u3 u4 u5 u6 u7 u8 u9 u10 u11 u12 u13 u14 u15 u16 u17 u18 u19 u20 u21 u22 u23 u24 u25 u26 u27 u28 u29 u30 u31 u36 u37 u42 u43 u48 u49 u50 u51 u52 u53 u54 u55 u56 u57 u58 u59 u60 u61 u62 u63 u64 u65 u66 u67 u68 u69 u70 u71 u72 u73 u74 u75 u76 u77 u78 u79 u80 u81 u82 u83 u84 u85 u86 u87 u88 u89 u90 u91 u92 u93 u94 u95 u96 u97 u98 u99 u100 u101 u102 u103 u104 u105 u106 u107 u108 u109 u110 u111 u112 u113 u114 u115 u116 u117 u118 u119 u120 u121 u122 u123 u124 u125 u126 u127 u128 u129 u130 u131 u132 u133 u134 u135 u136 u137 u138 u139 u140 u141 u142 u143 u144 u145 u146 u147 u148 u149 u150 u151 u152 u153 u154 u155 u156 u157 u158 u159 u160 u161 u162 u163 u164 u165 u166 u167 u168 u169 u170 u171 u172 u173 u174 u175 u176 u177 u178 u179 u180 u181 u182 u183 u184 u185 u186 u187 u188 u189 u190 u191 u192 u193 u194 u195 u196 u197 u198 u199 u200 u201 u202 u203 u204 u205 u206 u207 u208 u209 u210 u211 u212 u213 u214 u215 u216 u217 u218 u219 u220 u221 u222 u223 u224 u225 u226 u227 u228 u229 u230 u231 u232 u233 u234 u235 u236 u237 u238 u239 u240 u241 u242 u243 u244 u245 u246 u247 u248 u249 u250 u251 u252 u253 u254 u255 u256 u257 u258 u259 u260 u261 u262 u263 u264 u265 u266 u267 u268 u269 u270 u271 u272 u273 u274 u275 u276 u277 u278 u279 u280 u281 u282 u283 u284 u285 u286 u287 u288 u289 u290 u291 u292 u293 u294 u295 u296 u297 u298 u299 u300 u301 u302 u303 u304 u305 u306 u307 u308 u309 u310 u311 u312 u313 u314 u315 u316 u317 u318 u319 u320 u321 u322 u323 u324 u325 u326 u327 u328 u329 u330 u331 u332 u333 u334 u335 u336 u337 u338 u339 u340 u341 u342 u343 u344 u345 u346 u347 u348 u349 u350 u351 u352 u353 u354 u355 u356 u357 u358 u359 u360 u361 u362 u363 u364 u365 u366 u367 u368 u369 u370 u371 u372 u373 u374 u375 u376 u377 u378 u379 u380 u381 u382 u383 u384 u385 u386 u387 u388 u389 u390 u391 u392 u393 u394 u395 u396 u397 u398 u399 u400 u401 u402 u403 u404 u405 u406 u407 u408 u409 u410 u411 u412 u413 u414 u415 u416 u417 u418 u419 u420 u421 u422 u423 u424 u425 u426 u427 u428 u429 u430 u431 u432 u433 u434 u435 u436 u437 u438 u439 u440 u441 u442 u443 u444 u445 u446 u447 u448 u449 u450 u451 u452 u453 u454 u455 u456 u457 u458 u459 u460 u461 u462 u463 u464 u465 u466 u467 u468 u469 u470 u471 u472 u473 u474 u475 u476 u477 u478 u479 u480 u481 u482 u483 u484 u485 u486 u487 u488 u489 u490 u491 u492 u493 u494 u495 u496 u497 u498 u499 u500 u501 u502 : Value} (kq kj10 : Nat)  (t591 : Int) (t592 : Int) (t593 : Int) (t594 : Bool) (t597 : Int) (t598 : Int) (t599 : Int) (t600 : Bool) (t603 : Int) (t604 : Int) (t605 : List Int) (t606 : Bool) (Ao92 : Option Addr) (co92 : Nat) (r : Bool) (w wc : World)  (HA : Aside0 (laws_FnBoatsFollow.j3 kq t591 t592 t593 t594 t597 t598 t599 t600 t603 t604 t605 t606 = some r)) (HJ72 : Aside0 (kq ≤ kj10)) (HO_46 : Aside0 (Kd.R (Kd.int .i64) 3 wc w.heap.size (fun _ => True) (.slice Ao92 t605.length co92) t605)) (HB : Aside0 (Below w.heap.size w wc)) :
  Code.wp Try.prog (dropTo 51 (Try.f3.body.getD .skip)) (bodyPost Try.prog Try.f3 fun e w' => e = .returned (.bool r) ∧ Below w.heap.size w w') ⟨#[u0, u1, u2, u3, u4, u5, u6, u7, u8, u9, u10, u11, u12, u13, u14, u15, u16, u17, u18, u19, u20, u21, u22, u23, u24, u25, u26, u27, u28, u29, u30, u31, Value.int .i64 t591, Value.int .i64 t592, Value.int .i64 t593, Value.bool t594, u36, u37, Value.int .i64 t597, Value.int .i64 t598, Value.int .i64 t599, Value.bool t600, u42, u43, Value.int .i64 t603, Value.int .i64 t604, .slice Ao92 t605.length co92, Value.bool t606, u48, u49, u50, u51, u52, u53, u54, u55, u56, u57, u58, u59, u60, u61, u62, u63, u64, u65, u66, u67, u68, u69, u70, u71, u72, u73, u74, u75, u76, u77, u78, u79, u80, u81, u82, u83, u84, u85, u86, u87, u88, u89, u90, u91, u92, u93, u94, u95, u96, u97, u98, u99, u100, u101, u102, u103, u104, u105, u106, u107, u108, u109, u110, u111, u112, u113, u114, u115, u116, u117, u118, u119, u120, u121, u122, u123, u124, u125, u126, u127, u128, u129, u130, u131, u132, u133, u134, u135, u136, u137, u138, u139, u140, u141, u142, u143, u144, u145, u146, u147, u148, u149, u150, u151, u152, u153, u154, u155, u156, u157, u158, u159, u160, u161, u162, u163, u164, u165, u166, u167, u168, u169, u170, u171, u172, u173, u174, u175, u176, u177, u178, u179, u180, u181, u182, u183, u184, u185, u186, u187, u188, u189, u190, u191, u192, u193, u194, u195, u196, u197, u198, u199, u200, u201, u202, u203, u204, u205, u206, u207, u208, u209, u210, u211, u212, u213, u214, u215, u216, u217, u218, u219, u220, u221, u222, u223, u224, u225, u226, u227, u228, u229, u230, u231, u232, u233, u234, u235, u236, u237, u238, u239, u240, u241, u242, u243, u244, u245, u246, u247, u248, u249, u250, u251, u252, u253, u254, u255, u256, u257, u258, u259, u260, u261, u262, u263, u264, u265, u266, u267, u268, u269, u270, u271, u272, u273, u274, u275, u276, u277, u278, u279, u280, u281, u282, u283, u284, u285, u286, u287, u288, u289, u290, u291, u292, u293, u294, u295, u296, u297, u298, u299, u300, u301, u302, u303, u304, u305, u306, u307, u308, u309, u310, u311, u312, u313, u314, u315, u316, u317, u318, u319, u320, u321, u322, u323, u324, u325, u326, u327, u328, u329, u330, u331, u332, u333, u334, u335, u336, u337, u338, u339, u340, u341, u342, u343, u344, u345, u346, u347, u348, u349, u350, u351, u352, u353, u354, u355, u356, u357, u358, u359, u360, u361, u362, u363, u364, u365, u366, u367, u368, u369, u370, u371, u372, u373, u374, u375, u376, u377, u378, u379, u380, u381, u382, u383, u384, u385, u386, u387, u388, u389, u390, u391, u392, u393, u394, u395, u396, u397, u398, u399, u400, u401, u402, u403, u404, u405, u406, u407, u408, u409, u410, u411, u412, u413, u414, u415, u416, u417, u418, u419, u420, u421, u422, u423, u424, u425, u426, u427, u428, u429, u430, u431, u432, u433, u434, u435, u436, u437, u438, u439, u440, u441, u442, u443, u444, u445, u446, u447, u448, u449, u450, u451, u452, u453, u454, u455, u456, u457, u458, u459, u460, u461, u462, u463, u464, u465, u466, u467, u468, u469, u470, u471, u472, u473, u474, u475, u476, u477, u478, u479, u480, u481, u482, u483, u484, u485, u486, u487, u488, u489, u490, u491, u492, u493, u494, u495, u496, u497, u498, u499, u500, u501, u502], []⟩ wc := by
 conv => arg 2; whnf
 (try dsimp only [List.append])
 cases kq with
 | zero => exact absurd HA.out (by simp [laws_FnBoatsFollow.j3])
 | succ kj72 =>
  have H := HA.out
  clear HA
  simp only [laws_FnBoatsFollow.j3] at H
  have HC129 := am H; clear H
  go_upto_region 51 with (fail)
  go_cut [403] from 9999 (fun v403 wc => ∃ (kq : Nat) (x403_128 : Bool), v403 = .bool x403_128 ∧ Aside0 (laws_FnBoatsFollow.j4 kq t591 t592 t593 t597 t598 t599 t600 t603 t604 t605 t606 x403_128 = some r) ∧ Aside0 (kq ≤ kj72) ∧ Aside0 (Kd.R (Kd.int .i64) 3 wc w.heap.size (fun _ => True) (.slice Ao92 t605.length co92) t605) ∧ Aside0 (Below w.heap.size w wc))
  case first =>
   have H := HC129.out
   clear HC129
   by_cases c130 : t594 = true
   ·subst c130
    rw [if_pos rfl] at H
    (try dsimp only at H)
    have H' := am H
    clear H
    go_wp2
    go_meet
    case rel => exact ⟨_, (decide (t591 > 1)), (by first | rfl | (simp; done) | (simp [*]; done)), H', ⟨by have := HJ72.out; first | omega | exact Nat.le_refl _⟩, ⟨roS HO_46.out⟩, ⟨hbS HB.out⟩⟩
   ·replace c130 := Bool.eq_false_iff.mpr c130
    subst c130
    rw [if_neg (show ¬ (false = true) by decide)] at H
    (try dsimp only at H)
    have H' := am H
    clear H
    go_wp2
    go_meet
    case rel => exact ⟨_, (false), (by first | rfl | (simp; done) | (simp [*]; done)), H', ⟨by have := HJ72.out; first | omega | exact Nat.le_refl _⟩, ⟨roS HO_46.out⟩, ⟨hbS HB.out⟩⟩
  case rest =>
   clear HC129; (try clear c1); (try clear c2); (try clear p2); (try clear c3); (try clear c4); (try clear c5); (try clear c6); (try clear p6); (try clear c7); (try clear c8); (try clear c8b0); (try clear c8b1); (try clear c8b2); (try clear c9); (try clear c10); (try clear c11); (try clear c12); (try clear c13); (try clear c14); (try clear c15); (try clear c16); (try clear c17); (try clear c18); (try clear c19); (try clear c20); (try clear c21); (try clear c22); (try clear c23); (try clear c24); (try clear c25); (try clear c26); (try clear c27); (try clear c29); (try clear c31); (try clear c57); (try clear c57b0); (try clear c57b1); (try clear c57b2); (try clear c58); (try clear c58b0); (try clear c58b1); (try clear c59); (try clear c59b0); (try clear c59b1); (try clear c59b2); (try clear c61); (try clear c62); (try clear c62b0); (try clear c62b1); (try clear c62b2); (try clear c63); (try clear c63b0); (try clear c63b1); (try clear c64); (try clear c64b0); (try clear c64b1); (try clear c64b2); (try clear p64); (try clear c65); (try clear c65b0); (try clear c65b1); (try clear c65b2); (try clear c66); (try clear c66b0); (try clear c66b1); (try clear c66b2); (try clear c67); (try clear c67b0); (try clear c67b1); (try clear c68); (try clear c68b0); (try clear c68b1); (try clear c68b2); (try clear c69); (try clear c69b0); (try clear c69b1); (try clear c70); (try clear c70b0); (try clear c70b1); (try clear c70b2); (try clear c72); (try clear c94); (try clear c97); (try clear c98); (try clear c98b0); (try clear c98b1); (try clear c102); (try clear c103); (try clear c103b0); (try clear c112); (try clear c112b0); (try clear c112b1); (try clear c113); (try clear c114); (try clear c115); (try clear c116); (try clear c116b0); (try clear c116b1); (try clear c117); (try clear c118); (try clear c118b0); (try clear c118b1); (try clear c119); (try clear c121); (try clear c130); (try clear p2); (try clear p6); (try clear p64); obtain ⟨kq, x403_128, rfl, HA, HJ128, HO_46, HB⟩ := hcut
   cases kq with
   | zero => exact absurd HA.out (by simp [laws_FnBoatsFollow.j4])
   | succ kj128 =>
    have H := HA.out
    clear HA
    simp only [laws_FnBoatsFollow.j4] at H
    have HC131 := am H; clear H
    go_upto_if 403 with (fail)
    go_cut [] from 9999 (fun wc => ∃ (kq : Nat), Aside0 (laws_FnBoatsFollow.j6 kq t597 t598 t599 t600 t603 t604 t605 t606 = some r) ∧ Aside0 (kq ≤ kj128) ∧ Aside0 (Kd.R (Kd.int .i64) 3 wc w.heap.size (fun _ => True) (.slice Ao92 t605.length co92) t605) ∧ Aside0 (Below w.heap.size w wc))
    case first =>
     have H := HC131.out
     clear HC131
     by_cases c132 : x403_128 = true
     ·subst c132
      rw [if_pos rfl] at H
      (try dsimp only at H)
      have H' := am H
      clear H
      go_wp2
      go_loopg [66, 67] kj128 (fun kq v66 v67 w' => ∃ (x66_4 : Int) (x67_4 : Int), v66 = .int .i64 x66_4 ∧ v67 = .int .i64 x67_4 ∧ Aside0 (laws_FnBoatsFollow.l1 kq t591 t592 t593 t597 t598 t599 t600 t603 t604 t605 t606 x66_4 x67_4 = some r) ∧ Aside0 (kq ≤ kj128) ∧ Aside0 (Kd.R (Kd.int .i64) 3 w' w.heap.size (fun _ => True) (.slice Ao92 t605.length co92) t605) ∧ Aside0 (Below w.heap.size w w'))
      case atStart => exact ⟨(1), (2), (by first | rfl | (simp; done) | (simp [*]; done)), (by first | rfl | (simp; done) | (simp [*]; done)), H', ⟨Nat.le_refl _⟩, ⟨roS HO_46.out⟩, ⟨hbS HB.out⟩⟩
      case round =>
       clear H'
       (try clear c1); (try clear c2); (try clear p2); (try clear c3); (try clear c4); (try clear c5); (try clear c6); (try clear p6); (try clear c7); (try clear c8); (try clear c8b0); (try clear c8b1); (try clear c8b2); (try clear c9); (try clear c10); (try clear c11); (try clear c12); (try clear c13); (try clear c14); (try clear c15); (try clear c16); (try clear c17); (try clear c18); (try clear c19); (try clear c20); (try clear c21); (try clear c22); (try clear c23); (try clear c24); (try clear c25); (try clear c26); (try clear c27); (try clear c29); (try clear c31); (try clear c57); (try clear c57b0); (try clear c57b1); (try clear c57b2); (try clear c58); (try clear c58b0); (try clear c58b1); (try clear c59); (try clear c59b0); (try clear c59b1); (try clear c59b2); (try clear c61); (try clear c62); (try clear c62b0); (try clear c62b1); (try clear c62b2); (try clear c63); (try clear c63b0); (try clear c63b1); (try clear c64); (try clear c64b0); (try clear c64b1); (try clear c64b2); (try clear p64); (try clear c65); (try clear c65b0); (try clear c65b1); (try clear c65b2); (try clear c66); (try clear c66b0); (try clear c66b1); (try clear c66b2); (try clear c67); (try clear c67b0); (try clear c67b1); (try clear c68); (try clear c68b0); (try clear c68b1); (try clear c68b2); (try clear c69); (try clear c69b0); (try clear c69b1); (try clear c70); (try clear c70b0); (try clear c70b1); (try clear c70b2); (try clear c72); (try clear c94); (try clear c97); (try clear c98); (try clear c98b0); (try clear c98b1); (try clear c102); (try clear c103); (try clear c103b0); (try clear c112); (try clear c112b0); (try clear c112b1); (try clear c113); (try clear c114); (try clear c115); (try clear c116); (try clear c116b0); (try clear c116b1); (try clear c117); (try clear c118); (try clear c118b0); (try clear c118b1); (try clear c119); (try clear c121); (try clear c130); (try clear c132); (try clear p2); (try clear p6); (try clear p64); obtain ⟨x66_4, x67_4, rfl, rfl, HA, HK4, HO_46, HB⟩ := hrel
       cases gk with
       | zero => exact absurd HA.out (by simp [laws_FnBoatsFollow.l1])
       | succ k4 =>
        have H := HA.out
        clear HA
        simp only [laws_FnBoatsFollow.l1] at H
        by_cases c133 : x67_4 ≤ t591
        ·rw [if_pos c133] at H
         have c133b0 : decide (x67_4 ≤ t591) = true := decide_eq_true c133; clear c133
         (first | rw [c133b0] | (simp only [i64_w, i32_w]; rw [c133b0]) | skip)
         have H' := am H
         clear H
         go_wp2
         go_roundg k4
         case measure => have := HJ72.out; have := HJ128.out; have := HK4.out; omega
         case rel => exact ⟨(wrap64 (x66_4 * x67_4)), (wrap64 (x67_4 + 1)), (by first | rfl | (simp; done) | (simp [*]; done)), (by first | rfl | (simp; done) | (simp [*]; done)), H', ⟨by have := HJ72.out; have := HJ128.out; have := HK4.out; omega⟩, ⟨roS HO_46.out⟩, ⟨hbS HB.out⟩⟩
        ·rw [if_neg c133] at H
         have c133b0 : decide (x67_4 ≤ t591) = false := decide_eq_false c133; clear c133
         (first | rw [c133b0] | (simp only [i64_w, i32_w]; rw [c133b0]) | skip)
         by_cases c134 : t592 ≤ (wrap64 (Int.tdiv (wrap64 (t591 * (wrap64 (t591 - 1)))) 2))
         ·rw [if_pos c134] at H
          have c134b0 : decide (t592 ≤ (wrap64 (Int.tdiv (wrap64 (t591 * (wrap64 (t591 - 1)))) 2))) = true := decide_eq_true c134; clear c134; replace H := Option.bind_eq_some_iff.mp H; obtain ⟨⟨t728, t729⟩, A1350, H⟩ := H; (try dsimp only at H); have A135 := am A1350; clear A1350
          by_cases c136 : t729 = true
          rotate_left
          ·replace c136 := Bool.eq_false_iff.mpr c136
           subst c136
           rw [if_neg (show ¬ (false = true) by decide)] at H
           (try dsimp only at H)
           exact absurd H (by simp)
          subst c136
          rw [if_pos rfl] at H
          (try dsimp only at H); obtain ⟨c137, H⟩ := itP H
          have c137b0 : (t728 == t593) = true := beq_iff_eq.mpr c137
          have c137b1 : (t728 != t593) = false := bne_eq_false_iff_eq.mpr c137
          clear c137; obtain ⟨c138, H⟩ := itN H; have c138b0 : decide (t593 < 1) = false := decide_eq_false c138; clear c138; obtain ⟨c139, H⟩ := itN H; have c139b0 : decide (x66_4 < t593) = false := decide_eq_false c139; clear c139
          have H' := am H
          clear H
          go_wp2_with (first | ((with_reducible refine gate_callee (f := 18) rfl ?_); refine goesL_ (some 425) rfl rfl Try.func18 (by kernel_rfl) rfl #[.int .i64 t591, .int .i64 (wrap64 ((wrap64 (Int.tdiv (wrap64 (t591 * (wrap64 (t591 - 1)))) 2)) - t592))] rfl (by (try simp only [List.map_toArray, List.map_cons, List.map_nil]); first | done | rfl | (simp only [List.length_drop, List.length_take]; rfl)) ?_; (with_reducible refine (impl_CountWithInverted.calls k4 t591 (wrap64 ((wrap64 (Int.tdiv (wrap64 (t591 * (wrap64 (t591 - 1)))) 2)) - t592)) t728 true _ A135.out).mono ?_); rintro e w140 ⟨rfl, hb⟩; refine ⟨_, rfl, ?_⟩; have n0_ := am (Kd.R_below (roS HO_46.out) hb); have n1_ := am (below_step (hbS HB.out) hb); clear HO_46; clear HB; have HO_46 := n0_; have HB := n1_; clear n0_ n1_; (try clear hb); (try clear hb2); (try clear hk); (try clear hi)))
          go_meet
          case rel => exact ⟨_, H', ⟨by have := HJ72.out; have := HJ128.out; have := HK4.out; first | omega | exact Nat.le_refl _⟩, ⟨roS HO_46.out⟩, ⟨hbS HB.out⟩⟩
         ·rw [if_neg c134] at H
          have c134b0 : decide (t592 ≤ (wrap64 (Int.tdiv (wrap64 (t591 * (wrap64 (t591 - 1)))) 2))) = false := decide_eq_false c134; clear c134; obtain ⟨c141, H⟩ := itP H
          have c141b0 : (t593 == 0) = true := beq_iff_eq.mpr c141
          have c141b1 : (t593 != 0) = false := bne_eq_false_iff_eq.mpr c141
          clear c141
          have H' := am H
          clear H
          go_wp2
          go_meet
          case rel => exact ⟨_, H', ⟨by have := HJ72.out; have := HJ128.out; have := HK4.out; first | omega | exact Nat.le_refl _⟩, ⟨roS HO_46.out⟩, ⟨hbS HB.out⟩⟩
     ·replace c132 := Bool.eq_false_iff.mpr c132
      subst c132
      rw [if_neg (show ¬ (false = true) by decide)] at H
      (try dsimp only at H)
      have H' := am H
      clear H
      go_wp2
      go_meet
      case rel => exact ⟨_, H', ⟨by have := HJ72.out; have := HJ128.out; first | omega | exact Nat.le_refl _⟩, ⟨roS HO_46.out⟩, ⟨hbS HB.out⟩⟩
    case rest =>
     clear HC131; (try clear c1); (try clear c2); (try clear p2); (try clear c3); (try clear c4); (try clear c5); (try clear c6); (try clear p6); (try clear c7); (try clear c8); (try clear c8b0); (try clear c8b1); (try clear c8b2); (try clear c9); (try clear c10); (try clear c11); (try clear c12); (try clear c13); (try clear c14); (try clear c15); (try clear c16); (try clear c17); (try clear c18); (try clear c19); (try clear c20); (try clear c21); (try clear c22); (try clear c23); (try clear c24); (try clear c25); (try clear c26); (try clear c27); (try clear c29); (try clear c31); (try clear c57); (try clear c57b0); (try clear c57b1); (try clear c57b2); (try clear c58); (try clear c58b0); (try clear c58b1); (try clear c59); (try clear c59b0); (try clear c59b1); (try clear c59b2); (try clear c61); (try clear c62); (try clear c62b0); (try clear c62b1); (try clear c62b2); (try clear c63); (try clear c63b0); (try clear c63b1); (try clear c64); (try clear c64b0); (try clear c64b1); (try clear c64b2); (try clear p64); (try clear c65); (try clear c65b0); (try clear c65b1); (try clear c65b2); (try clear c66); (try clear c66b0); (try clear c66b1); (try clear c66b2); (try clear c67); (try clear c67b0); (try clear c67b1); (try clear c68); (try clear c68b0); (try clear c68b1); (try clear c68b2); (try clear c69); (try clear c69b0); (try clear c69b1); (try clear c70); (try clear c70b0); (try clear c70b1); (try clear c70b2); (try clear c72); (try clear c94); (try clear c97); (try clear c98); (try clear c98b0); (try clear c98b1); (try clear c102); (try clear c103); (try clear c103b0); (try clear c112); (try clear c112b0); (try clear c112b1); (try clear c113); (try clear c114); (try clear c115); (try clear c116); (try clear c116b0); (try clear c116b1); (try clear c117); (try clear c118); (try clear c118b0); (try clear c118b1); (try clear c119); (try clear c121); (try clear c130); (try clear c132); (try clear c133); (try clear c133b0); (try clear c134); (try clear c134b0); (try clear c136); (try clear c137); (try clear c137b0); (try clear c137b1); (try clear c138); (try clear c138b0); (try clear c139); (try clear c139b0); (try clear c141); (try clear c141b0); (try clear c141b1); (try clear p2); (try clear p6); (try clear p64); obtain ⟨kq, HA, HJ130, HO_46, HB⟩ := hcut
     go_step
     exact laws_FnBoatsFollow.part_j6 kq _ t597 t598 t599 t600 t603 t604 t605 t606 Ao92 co92 r w wc HA HJ130 HO_46 HB
end Go.Proofs.Ytclmmnphmlmnmaa.X
end
