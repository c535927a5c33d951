-- WRITTEN BY a program of this session (wip/xprint.py, over the kit's print): Lean checks it.
import Derived.Test.YtbhnpccbjgbcbaaGreatDoorQTx12d
import Derived.Test.YtbhnpccbjgbcbaaGreatDoorQTx12s1r
namespace Go.Proofs.YtbhnpccbjgbcbaaGreatDoor.QT
open Go.Proofs.YtbhnpccbjgbcbaaGreatDoor.X Go.RowKit Go.Proofs.YtbhnpccbjgbcbaaGreatDoorW.PrintWords Go.Proofs.YtbhnpccbjgbcbaaGreatDoorW.PrintLast Go.Proofs.YtbhnpccbjgbcbaaGreatDoorW.PrintMore
attribute [local go_sem] max2_int min2_int max_two min_two max_three min_three max_four min_four   -- for this text's walks alone
set_option linter.unusedVariables false
set_option linter.unusedSimpArgs false

set_option maxHeartbeats 16000000 in
set_option maxRecDepth 1000000 in
theorem lw_.first417 {V1 V2 V3 V4 V5 V6 V7 V8 V9 V10 V11 V12 V14 V15 V16 V17 V18 V19 V20 V21 V22 V23 V24 V25 V26 V27 V28 V29 V30 V31 V32 V34 V35 V36 V37 V38 V39 V40 V41 V42 V48 V49 V50 V51 V52 V53 V54 V55 V56 V57 V58 V59 V60 V61 V62 V63 V64 V65 V66 V67 V68 V69 V70 V71 V72 V73 V74 V75 V76 V77 V78 V79 V80 V81 V82 V83 V84 V85 V86 V87 V88 V89 V90 V91 V92 V93 V94 V95 V96 V97 V98 V99 V100 V101 V102 V103 V104 V105 V106 V107 V108 V109 V110 V111 V112 V113 V114 V115 V116 V117 V118 V119 V120 V121 V122 V123 V124 V125 V126 V127 V128 V129 V130 V131 V132 V133 V134 V135 V136 V137 V138 V139 V140 V141 V142 V143 V144 V145 V146 V147 V148 V149 V150 V151 V152 V153 V154 V155 V156 V157 V158 V159 V160 V161 V162 V163 V164 V165 V166 V167 V168 V169 V170 V171 V172 V173 V174 V175 V176 V177 V178 V179 V180 V181 V182 V183 V184 V185 V186 V187 V188 V189 V190 V191 V192 V193 V194 V195 V196 V197 V198 V199 V200 V201 V202 V203 V204 V205 V206 V207 V208 V209 V210 V211 V212 V213 V214 V215 V216 V217 V218 V219 V220 V221 V222 V223 V224 V225 V226 V227 V228 V229 V230 V231 V232 V233 V234 V235 V236 V237 V238 V239 V240 V241 V242 V243 V244 V245 V246 V247 V248 V249 V250 V251 V252 V253 V254 V255 V256 V257 V258 V259 V260 V261 V262 V263 V264 V265 V266 V267 V268 V269 V270 V271 V272 V273 V274 V275 V276 V277 V278 V279 V280 V281 V282 V283 V284 V285 V286 V287 V288 V289 V290 V291 V292 V293 V294 V295 V296 V297 V298 V299 V300 V301 V302 V303 V304 V305 V306 V307 V308 V309 V310 V311 V312 V313 V314 V315 V316 V317 V318 V319 V320 V321 V322 V323 V324 V325 V326 V327 V328 V329 V330 V331 V332 V333 V334 V335 V336 V337 V338 V339 V340 V341 V342 V343 V344 V345 V346 V347 V348 V417 V418 V419 V420 V421 V422 V423 V424 V425 V426 V427 V428 V429 V430 V431 V432 V433 V434 V435 V436 V437 V438 V439 V440 V441 V442 V443 V444 V445 V446 V447 V448 V449 V450 V451 V452 V453 V454 V455 V456 V457 V458 V459 V460 V461 V462 V463 V464 V465 V466 V467 V468 V469 V470 V471 V472 V473 V474 V475 V476 V477 V478 V479 V480 V481 V482 V483 V484 V485 V486 V487 V488 V489 V490 V491 V492 V493 V494 V495 V496 V497 V498 V499 V500 V501 V502 V503 V504 V505 V506 V507 V508 V509 V510 V511 V512 V513 V514 V515 V516 V517 V518 V519 V520 V521 V522 V523 V524 V525 V526 V527 V528 V529 V530 V531 V532 V533 V534 V535 V536 V537 V538 V539 V540 V541 V542 V543 V544 V545 V546 V547 V548 V549 V550 V551 V552 V553 V554 V555 V556 V557 V558 V559 V560 V561 V562 V563 V564 V565 V566 V567 V568 V569 V570 V571 V572 V573 V574 V575 V576 V577 V578 V579 V580 V581 V582 V583 V584 V585 V586 V587 V588 V589 V590 V591 V592 V593 V594 V595 V596 V597 V598 V599 V600 V601 V602 V603 V604 V605 V606 V607 V608 V609 V610 V611 V612 V613 V614 V615 V616 V617 V618 V619 V620 V621 V622 V623 V624 V625 V626 V627 V628 V629 V630 V631 V632 V633 V634 V635 V636 V637 V638 V639 V640 V641 V642 V643 V644 V645 V646 V647 V648 V649 V650 V651 V652 V653 V654 V655 V656 V657 V658 V659 V660 V661 V662 V663 V664 V665 V666 V667 V668 V669 V670 V671 V672 V673 V674 V675 V676 V677 V678 V679 V680 V681 V682 V683 V684 V685 V686 V687 V688 V689 V690 V691 V692 V693 V694 V695 V696 V697 V698 V699 V700 V701 V702 V703 V704 V705 V706 V707 V708 V709 V710 V711 V712 V713 V714 V715 V716 V717 V718 V719 V720 V721 V722 V723 V724 V725 V726 V727 V728 V729 V730 V731 V732 V733 V734 V735 V736 V737 V738 V739 V740 V741 V742 V743 V744 V745 V746 V747 V748 V749 V750 V751 V752 V753 V754 V755 V756 V757 V758 V759 V760 V761 V762 V763 V764 V765 V766 V767 V768 V769 V770 V771 V772 V773 V774 V775 : Value} {Kz0_ Kz1_ Kz2_ Kz3_ Kz4_ : Act → World → Prop} (k c0 : Nat) (l0 : List S37) (l1 : List S37) (a2 a3 : Int) (l4 : List Int) (a5 : ByteArray) (r : Bool) (w : World) (HR_ : Aside0 (r = Bool.true)) (hu37 : Program.underlying Tryz.prog (37 : Nat) = Option.some (TypeDesc.struct #[Field.mk "Long" (3 : Nat) (0 : Nat) Bool.false "" "" (0 : Nat), Field.mk "Fast" (3 : Nat) (1 : Nat) Bool.false "" "" (8 : Nat)])) (kj6 : Nat) (HJ6 : Aside0 (kj6 + (1 : Nat) ≤ k)) (t391 : List (List Int)) (t405 t415 : Int) (t419 : ByteArray) (v393 : Value) (kj23 : Nat) (HJ23 : Aside0 (kj23 + (1 : Nat) ≤ kj6)) (kj68 : Nat) (HJ68 : Aside0 (kj68 + (1 : Nat) ≤ kj23)) (wr : World) (u349 u350 u351 u352 u353 u354 u355 u356 u357 u358 u359 u360 u361 u362 u363 u364 u365 u366 u367 u368 u369 u370 u371 u372 u373 u374 u375 u376 u377 u378 u379 u380 u381 u382 u383 u384 u385 u386 u387 u388 u389 u390 u391 u392 u393 u394 u395 u396 u397 u398 u399 u400 u401 u402 u403 u404 u405 u406 u407 u408 u409 u410 u411 u412 u413 u414 u415 u416 u417 : Value) (x42_4 x334_4 : Int) (k4 : Nat) (HK4 : Aside0 (k4 + (1 : Nat) ≤ kj68)) (c84b0 : Decidable.decide (x334_4 < (↑(List.length l0) : Int)) = Bool.true) (c85b0 : Decidable.decide ((0 : Int) ≤ x334_4) = Bool.true) (c86b0 : Decidable.decide (x334_4 < (↑(List.length l0) : Int)) = Bool.true) (t435 t436 : Int) (t437 : Bool) (HC88 : Aside0 ((if x334_4 < (↑(List.length t391) : Int) then if (0 : Int) < (↑(List.length (rd_L2 t391 x334_4)) : Int) then if (1 : Int) < (↑(List.length (rd_L2 t391 x334_4)) : Int) then Option.bind (laws_yLow.f k4 (rd (rd_L2 t391 x334_4) (0 : Int)) (rd (rd_L2 t391 x334_4) (1 : Int))) fun t442 => if t442 = Bool.true then if (0 : Int) ≤ t415 then if t415 < (↑(List.length l0) : Int) then if wrap64 (S37.f0 (rd_T37 l0 x334_4) * S37.f1 (rd_T37 l0 t415)) > wrap64 (S37.f0 (rd_T37 l0 t415) * S37.f1 (rd_T37 l0 x334_4)) then lw_.j4 k4 l0 l1 a2 a3 l4 a5 t391 t405 t415 t419 (↑(List.length l0) : Int) (wrap64 (x42_4 + S37.f0 (rd_T37 l0 x334_4))) x334_4 l0 (↑(List.length l0) : Int) x334_4 Bool.true else if x334_4 < t415 then if wrap64 (S37.f0 (rd_T37 l0 x334_4) * S37.f1 (rd_T37 l0 t415)) = wrap64 (S37.f0 (rd_T37 l0 t415) * S37.f1 (rd_T37 l0 x334_4)) then lw_.j4 k4 l0 l1 a2 a3 l4 a5 t391 t405 t415 t419 (↑(List.length l0) : Int) (wrap64 (x42_4 + S37.f0 (rd_T37 l0 x334_4))) x334_4 l0 (↑(List.length l0) : Int) x334_4 Bool.true else if t437 = Bool.true then if t435 = (0 : Int) then lw_.j4 k4 l0 l1 a2 a3 l4 a5 t391 t405 t415 t419 (↑(List.length l0) : Int) (wrap64 (x42_4 + S37.f0 (rd_T37 l0 x334_4))) x334_4 l0 (↑(List.length l0) : Int) x334_4 (t436 != (1 : Int)) else lw_.j4 k4 l0 l1 a2 a3 l4 a5 t391 t405 t415 t419 (↑(List.length l0) : Int) (wrap64 (x42_4 + S37.f0 (rd_T37 l0 x334_4))) x334_4 l0 (↑(List.length l0) : Int) x334_4 Bool.true else lw_.j4 k4 l0 l1 a2 a3 l4 a5 t391 t405 t415 t419 (↑(List.length l0) : Int) (wrap64 (x42_4 + S37.f0 (rd_T37 l0 x334_4))) x334_4 l0 (↑(List.length l0) : Int) x334_4 Bool.true else if t437 = Bool.true then if t435 = (0 : Int) then lw_.j4 k4 l0 l1 a2 a3 l4 a5 t391 t405 t415 t419 (↑(List.length l0) : Int) (wrap64 (x42_4 + S37.f0 (rd_T37 l0 x334_4))) x334_4 l0 (↑(List.length l0) : Int) x334_4 (t436 != (1 : Int)) else lw_.j4 k4 l0 l1 a2 a3 l4 a5 t391 t405 t415 t419 (↑(List.length l0) : Int) (wrap64 (x42_4 + S37.f0 (rd_T37 l0 x334_4))) x334_4 l0 (↑(List.length l0) : Int) x334_4 Bool.true else lw_.j4 k4 l0 l1 a2 a3 l4 a5 t391 t405 t415 t419 (↑(List.length l0) : Int) (wrap64 (x42_4 + S37.f0 (rd_T37 l0 x334_4))) x334_4 l0 (↑(List.length l0) : Int) x334_4 Bool.true else Option.none else Option.none else lw_.j4 k4 l0 l1 a2 a3 l4 a5 t391 t405 t415 t419 (↑(List.length l0) : Int) (wrap64 (x42_4 + S37.f0 (rd_T37 l0 x334_4))) x334_4 l0 (↑(List.length l0) : Int) x334_4 Bool.true else Option.none else Option.none else Option.none) = Option.some r)) (ad433 : Addr) (HR0 : Aside0 (Kd.C k37 w (Option.some ad433) (List.length l0) l0)) (hx433_0 : World.cell? wr (Addr.add ad433 (Int.toNat x334_4 * (2 : Nat))) = Option.some (Value.int IntKind.i64 (S37.f0 (rd_T37 l0 x334_4)))) (hx433_1 : World.cell? wr (Addr.mk (Addr.block (Addr.add ad433 (Int.toNat x334_4 * (2 : Nat)))) (Addr.off (Addr.add ad433 (Int.toNat x334_4 * (2 : Nat))) + (1 : Nat)) Option.none) = Option.some (Value.int IntKind.i64 (S37.f1 (rd_T37 l0 x334_4)))) (p433 : ((0 : Int) ≤ x334_4) = True) (q433 : (x334_4 < (↑(List.length l0) : Int)) = True) (gb434 : Nat) (w89 : World) (GW434 GE434 : Aside0 (Array.size (World.heap w) ≤ gb434)) (hcz90_0 : World.cell? w89 (Addr.mk gb434 (0 : Nat) Option.none) = Option.some (Value.int IntKind.i64 (0 : Int))) (hcz90_1 : World.cell? w89 (Addr.mk gb434 (1 : Nat) Option.none) = Option.some (Value.int IntKind.i64 (0 : Int))) (hfz90_0 : World.frozen? w89 (Addr.mk gb434 (0 : Nat) Option.none) = Bool.false) (hfz90_1 : World.frozen? w89 (Addr.mk gb434 (1 : Nat) Option.none) = Bool.false) (w91 : World) (HO_13 : Aside0 (Kd.S (Kd.slice (3 : Nat) (Kd.int IntKind.i64)) (23 : Nat) w91 (Array.size (World.heap w)) (fun x => True) v393 t391)) (BK434 : Aside0 ((World.heap w91)[gb434]? = Option.some (Obj.cells #[Value.int IntKind.i64 (S37.f0 (rd_T37 l0 x334_4)), Value.int IntKind.i64 (S37.f1 (rd_T37 l0 x334_4))] (37 : TypeId)))) (HB : Aside0 (Below (Array.size (World.heap w)) w w91)) (J_ K_ : Act → World → Prop) (hJ_ : ∀ (a' : Act) (w' : World), (∃ u349 u350 u351 u352 u353 u354 u355 u356 u357 u358 u359 u360 u361 u362 u363 u364 u365 u366 u367 u368 u369 u370 u371 u372 u373 u374 u375 u376 u377 u378 u379 u380 u381 u382 u383 u384 u385 u386 u387 u388 u389 u390 u391 u392 u393 u394 u395 u396 u397 u398 u399 u400 u401 u402 u403 u404 u405 u406 u407 u408 u409 u410 u411 u412 u413 u414 u415 u416 u417, (∃ kq x417_87, u417 = Value.bool x417_87 ∧ Aside0 (lw_.j4 kq l0 l1 a2 a3 l4 a5 t391 t405 t415 t419 (↑(List.length l0) : Int) (wrap64 (x42_4 + S37.f0 (rd_T37 l0 x334_4))) x334_4 l0 (↑(List.length l0) : Int) x334_4 x417_87 = Option.some r) ∧ Aside0 (kq ≤ k4) ∧ Aside0 (Kd.S (Kd.slice (3 : Nat) (Kd.int IntKind.i64)) (23 : Nat) w' (Array.size (World.heap w)) (fun x => True) v393 t391) ∧ Aside0 ((World.heap w')[gb434]? = Option.some (Obj.cells #[Value.int IntKind.i64 (S37.f0 (rd_T37 l0 x334_4)), Value.int IntKind.i64 (S37.f1 (rd_T37 l0 x334_4))] (37 : TypeId))) ∧ Aside0 (Below (Array.size (World.heap w)) w w')) ∧ a' = Act.mk #[Value.slice (Option.some ad433) (List.length l0) c0, V1, V2, V3, V4, V5, V6, V7, V8, V9, V10, V11, V12, v393, V14, V15, V16, V17, V18, V19, V20, V21, V22, V23, V24, V25, V26, V27, V28, V29, V30, V31, V32, Value.int IntKind.i64 t415, V34, V35, V36, V37, V38, V39, V40, V41, V42, Value.int IntKind.i64 x334_4, Value.pointer (Option.some (Addr.mk gb434 (0 : Nat) Option.none)), Value.int IntKind.i64 t435, Value.int IntKind.i64 t436, Value.bool t437, V48, V49, V50, V51, V52, V53, V54, V55, V56, V57, V58, V59, V60, V61, V62, V63, V64, V65, V66, V67, V68, V69, V70, V71, V72, V73, V74, V75, V76, V77, V78, V79, V80, V81, V82, V83, V84, V85, V86, V87, V88, V89, V90, V91, V92, V93, V94, V95, V96, V97, V98, V99, V100, V101, V102, V103, V104, V105, V106, V107, V108, V109, V110, V111, V112, V113, V114, V115, V116, V117, V118, V119, V120, V121, V122, V123, V124, V125, V126, V127, V128, V129, V130, V131, V132, V133, V134, V135, V136, V137, V138, V139, V140, V141, V142, V143, V144, V145, V146, V147, V148, V149, V150, V151, V152, V153, V154, V155, V156, V157, V158, V159, V160, V161, V162, V163, V164, V165, V166, V167, V168, V169, V170, V171, V172, V173, V174, V175, V176, V177, V178, V179, V180, V181, V182, V183, V184, V185, V186, V187, V188, V189, V190, V191, V192, V193, V194, V195, V196, V197, V198, V199, V200, V201, V202, V203, V204, V205, V206, V207, V208, V209, V210, V211, V212, V213, V214, V215, V216, V217, V218, V219, V220, V221, V222, V223, V224, V225, V226, V227, V228, V229, V230, V231, V232, V233, V234, V235, V236, V237, V238, V239, V240, V241, V242, V243, V244, V245, V246, V247, V248, V249, V250, V251, V252, V253, V254, V255, V256, V257, V258, V259, V260, V261, V262, V263, V264, V265, V266, V267, V268, V269, V270, V271, V272, V273, V274, V275, V276, V277, V278, V279, V280, V281, V282, V283, V284, V285, V286, V287, V288, V289, V290, V291, V292, V293, V294, V295, V296, V297, V298, V299, V300, V301, V302, V303, V304, V305, V306, V307, V308, V309, V310, V311, V312, V313, V314, V315, V316, V317, V318, V319, V320, V321, V322, V323, V324, V325, V326, V327, V328, V329, V330, V331, V332, V333, V334, V335, V336, V337, V338, V339, V340, V341, V342, V343, V344, V345, V346, V347, V348, u349, u350, u351, u352, u353, u354, u355, u356, u357, u358, u359, u360, u361, u362, u363, u364, u365, u366, u367, u368, u369, u370, u371, u372, u373, u374, u375, u376, u377, u378, u379, u380, u381, u382, u383, u384, u385, u386, u387, u388, u389, u390, u391, u392, u393, u394, u395, u396, u397, u398, u399, u400, u401, u402, u403, u404, u405, u406, u407, u408, u409, u410, u411, u412, u413, u414, u415, u416, u417, V418, V419, V420, V421, V422, V423, V424, V425, V426, V427, V428, V429, V430, V431, V432, V433, V434, V435, V436, V437, V438, V439, V440, V441, V442, V443, V444, V445, V446, V447, V448, V449, V450, V451, V452, V453, V454, V455, V456, V457, V458, V459, V460, V461, V462, V463, V464, V465, V466, V467, V468, V469, V470, V471, V472, V473, V474, V475, V476, V477, V478, V479, V480, V481, V482, V483, V484, V485, V486, V487, V488, V489, V490, V491, V492, V493, V494, V495, V496, V497, V498, V499, V500, V501, V502, V503, V504, V505, V506, V507, V508, V509, V510, V511, V512, V513, V514, V515, V516, V517, V518, V519, V520, V521, V522, V523, V524, V525, V526, V527, V528, V529, V530, V531, V532, V533, V534, V535, V536, V537, V538, V539, V540, V541, V542, V543, V544, V545, V546, V547, V548, V549, V550, V551, V552, V553, V554, V555, V556, V557, V558, V559, V560, V561, V562, V563, V564, V565, V566, V567, V568, V569, V570, V571, V572, V573, V574, V575, V576, V577, V578, V579, V580, V581, V582, V583, V584, V585, V586, V587, V588, V589, V590, V591, V592, V593, V594, V595, V596, V597, V598, V599, V600, V601, V602, V603, V604, V605, V606, V607, V608, V609, V610, V611, V612, V613, V614, V615, V616, V617, V618, V619, V620, V621, V622, V623, V624, V625, V626, V627, V628, V629, V630, V631, V632, V633, V634, V635, V636, V637, V638, V639, V640, V641, V642, V643, V644, V645, V646, V647, V648, V649, V650, V651, V652, V653, V654, V655, V656, V657, V658, V659, V660, V661, V662, V663, V664, V665, V666, V667, V668, V669, V670, V671, V672, V673, V674, V675, V676, V677, V678, V679, V680, V681, V682, V683, V684, V685, V686, V687, V688, V689, V690, V691, V692, V693, V694, V695, V696, V697, V698, V699, V700, V701, V702, V703, V704, V705, V706, V707, V708, V709, V710, V711, V712, V713, V714, V715, V716, V717, V718, V719, V720, V721, V722, V723, V724, V725, V726, V727, V728, V729, V730, V731, V732, V733, V734, V735, V736, V737, V738, V739, V740, V741, V742, V743, V744, V745, V746, V747, V748, V749, V750, V751, V752, V753, V754, V755, V756, V757, V758, V759, V760, V761, V762, V763, V764, V765, V766, V767, V768, V769, V770, V771, V772, V773, V774, V775] []) → J_ a' w') (hK_ : ∀ a' w', Met J_ a' w' → K_ a' w') :
    Code.wp Tryz.prog ((lw_.reg 27 lw_.body).getD .skip) (Exit.then K_ (Exit.then Kz2_ (Exit.inBlock (1 : Nat) (Exit.then Kz3_ (Exit.then Kz4_ (Exit.inBlock (0 : Nat) (Exit.then Kz1_ (Exit.then Kz0_ (bodyPost Tryz.prog Tryz.f3 fun e w' => e = Ending.returned (Value.bool r) ∧ Below (Array.size (World.heap w)) w w'))))))))) (Act.mk #[Value.slice (Option.some ad433) (List.length l0) c0, V1, V2, V3, V4, V5, V6, V7, V8, V9, V10, V11, V12, v393, V14, V15, V16, V17, V18, V19, V20, V21, V22, V23, V24, V25, V26, V27, V28, V29, V30, V31, V32, Value.int IntKind.i64 t415, V34, V35, V36, V37, V38, V39, V40, V41, V42, Value.int IntKind.i64 x334_4, Value.pointer (Option.some (Addr.mk gb434 (0 : Nat) Option.none)), Value.int IntKind.i64 t435, Value.int IntKind.i64 t436, Value.bool t437, V48, V49, V50, V51, V52, V53, V54, V55, V56, V57, V58, V59, V60, V61, V62, V63, V64, V65, V66, V67, V68, V69, V70, V71, V72, V73, V74, V75, V76, V77, V78, V79, V80, V81, V82, V83, V84, V85, V86, V87, V88, V89, V90, V91, V92, V93, V94, V95, V96, V97, V98, V99, V100, V101, V102, V103, V104, V105, V106, V107, V108, V109, V110, V111, V112, V113, V114, V115, V116, V117, V118, V119, V120, V121, V122, V123, V124, V125, V126, V127, V128, V129, V130, V131, V132, V133, V134, V135, V136, V137, V138, V139, V140, V141, V142, V143, V144, V145, V146, V147, V148, V149, V150, V151, V152, V153, V154, V155, V156, V157, V158, V159, V160, V161, V162, V163, V164, V165, V166, V167, V168, V169, V170, V171, V172, V173, V174, V175, V176, V177, V178, V179, V180, V181, V182, V183, V184, V185, V186, V187, V188, V189, V190, V191, V192, V193, V194, V195, V196, V197, V198, V199, V200, V201, V202, V203, V204, V205, V206, V207, V208, V209, V210, V211, V212, V213, V214, V215, V216, V217, V218, V219, V220, V221, V222, V223, V224, V225, V226, V227, V228, V229, V230, V231, V232, V233, V234, V235, V236, V237, V238, V239, V240, V241, V242, V243, V244, V245, V246, V247, V248, V249, V250, V251, V252, V253, V254, V255, V256, V257, V258, V259, V260, V261, V262, V263, V264, V265, V266, V267, V268, V269, V270, V271, V272, V273, V274, V275, V276, V277, V278, V279, V280, V281, V282, V283, V284, V285, V286, V287, V288, V289, V290, V291, V292, V293, V294, V295, V296, V297, V298, V299, V300, V301, V302, V303, V304, V305, V306, V307, V308, V309, V310, V311, V312, V313, V314, V315, V316, V317, V318, V319, V320, V321, V322, V323, V324, V325, V326, V327, V328, V329, V330, V331, V332, V333, V334, V335, V336, V337, V338, V339, V340, V341, V342, V343, V344, V345, V346, V347, V348, u349, u350, u351, u352, u353, u354, u355, u356, u357, u358, u359, u360, u361, u362, u363, u364, u365, u366, u367, u368, u369, u370, u371, u372, u373, u374, u375, u376, u377, u378, u379, u380, u381, u382, u383, u384, u385, u386, u387, u388, u389, u390, u391, u392, u393, u394, u395, u396, u397, u398, u399, u400, u401, u402, u403, u404, u405, u406, u407, u408, u409, u410, u411, u412, u413, u414, u415, u416, V417, V418, V419, V420, V421, V422, V423, V424, V425, V426, V427, V428, V429, V430, V431, V432, V433, V434, V435, V436, V437, V438, V439, V440, V441, V442, V443, V444, V445, V446, V447, V448, V449, V450, V451, V452, V453, V454, V455, V456, V457, V458, V459, V460, V461, V462, V463, V464, V465, V466, V467, V468, V469, V470, V471, V472, V473, V474, V475, V476, V477, V478, V479, V480, V481, V482, V483, V484, V485, V486, V487, V488, V489, V490, V491, V492, V493, V494, V495, V496, V497, V498, V499, V500, V501, V502, V503, V504, V505, V506, V507, V508, V509, V510, V511, V512, V513, V514, V515, V516, V517, V518, V519, V520, V521, V522, V523, V524, V525, V526, V527, V528, V529, V530, V531, V532, V533, V534, V535, V536, V537, V538, V539, V540, V541, V542, V543, V544, V545, V546, V547, V548, V549, V550, V551, V552, V553, V554, V555, V556, V557, V558, V559, V560, V561, V562, V563, V564, V565, V566, V567, V568, V569, V570, V571, V572, V573, V574, V575, V576, V577, V578, V579, V580, V581, V582, V583, V584, V585, V586, V587, V588, V589, V590, V591, V592, V593, V594, V595, V596, V597, V598, V599, V600, V601, V602, V603, V604, V605, V606, V607, V608, V609, V610, V611, V612, V613, V614, V615, V616, V617, V618, V619, V620, V621, V622, V623, V624, V625, V626, V627, V628, V629, V630, V631, V632, V633, V634, V635, V636, V637, V638, V639, V640, V641, V642, V643, V644, V645, V646, V647, V648, V649, V650, V651, V652, V653, V654, V655, V656, V657, V658, V659, V660, V661, V662, V663, V664, V665, V666, V667, V668, V669, V670, V671, V672, V673, V674, V675, V676, V677, V678, V679, V680, V681, V682, V683, V684, V685, V686, V687, V688, V689, V690, V691, V692, V693, V694, V695, V696, V697, V698, V699, V700, V701, V702, V703, V704, V705, V706, V707, V708, V709, V710, V711, V712, V713, V714, V715, V716, V717, V718, V719, V720, V721, V722, V723, V724, V725, V726, V727, V728, V729, V730, V731, V732, V733, V734, V735, V736, V737, V738, V739, V740, V741, V742, V743, V744, V745, V746, V747, V748, V749, V750, V751, V752, V753, V754, V755, V756, V757, V758, V759, V760, V761, V762, V763, V764, V765, V766, V767, V768, V769, V770, V771, V772, V773, V774, V775] []) w91 := by
  conv => arg 2; whnf
  (try conv => arg 4; dsimp only)
  (try conv => arg 2; dsimp only [List.append_eq, List.cons_append, List.nil_append])
  have H := HC88.out
  clear HC88
  by_cases c92 : x334_4 < (t391.length : Int)
  ·rw [if_pos c92] at H
   have c92b0 := decide_eq_true c92
   clear c92
   (first | rw [c92b0] | (simp only [i64_w, i32_w]; rw [c92b0]) | skip)
   by_cases c93 : 0 < ((rd_L2 t391 x334_4).length : Int)
   ·rw [if_pos c93] at H
    have c93b0 := decide_eq_true c93
    have c93b1 : decide (0 < (rd_L2 t391 x334_4).length) = true := decide_eq_true (by omega)
    clear c93
    by_cases c94 : 1 < ((rd_L2 t391 x334_4).length : Int)
    ·rw [if_pos c94] at H
     have c94b0 := decide_eq_true c94
     have c94b1 : decide (1 < (rd_L2 t391 x334_4).length) = true := decide_eq_true (by omega)
     clear c94
     replace H := Option.bind_eq_some_iff.mp H
     obtain ⟨t442, A950, H⟩ := H
     (try dsimp only at H)
     have A95 := Aside0.mk A950
     clear A950
     by_cases c96 : t442 = true
     ·subst c96
      rw [if_pos rfl] at H
      by_cases c97 : 0 ≤ t415
      ·rw [if_pos c97] at H
       have c97b0 := decide_eq_true c97
       clear c97
       by_cases c98 : t415 < (l0.length : Int)
       ·rw [if_pos c98] at H
        have c98b0 := decide_eq_true c98
        clear c98
        by_cases c99 : (wrap64 (((rd_T37 l0 x334_4).f0) * ((rd_T37 l0 t415).f1))) > (wrap64 (((rd_T37 l0 t415).f0) * ((rd_T37 l0 x334_4).f1)))
        ·rw [if_pos c99] at H
         have c99b0 := decide_eq_true c99
         clear c99
         exact absurd H (by rw [HR_.out]; cases k4 <;> simp [lw_.j4])
        ·rw [if_neg c99] at H
         have c99b0 := decide_eq_false c99
         clear c99
         by_cases c100 : x334_4 < t415
         ·rw [if_pos c100] at H
          have c100b0 := decide_eq_true c100
          clear c100
          by_cases c101 : (wrap64 (((rd_T37 l0 x334_4).f0) * ((rd_T37 l0 t415).f1))) = (wrap64 (((rd_T37 l0 t415).f0) * ((rd_T37 l0 x334_4).f1)))
          ·rw [if_pos c101] at H
           have c101b0 := beq_iff_eq.mpr c101
           have c101b1 := bne_eq_false_iff_eq.mpr c101
           clear c101
           exact absurd H (by rw [HR_.out]; cases k4 <;> simp [lw_.j4])
          ·rw [if_neg c101] at H
           have c101b0 := beq_eq_false_iff_ne.mpr c101
           have c101b1 := bne_iff_ne.mpr c101
           by_cases c102 : t437 = true
           ·subst c102
            rw [if_pos rfl] at H
            by_cases c103 : t435 = 0
            ·rw [if_pos c103] at H
             have c103b0 := beq_iff_eq.mpr c103
             have c103b1 := bne_eq_false_iff_eq.mpr c103
             clear c103
             have H' := Aside0.mk H
             clear H
             try go_wp2
             have n0_ := Aside0.mk (Kd.S_drew HO_13.out)
             have n1_ := Aside0.mk (blk_drew BK434.out)
             have n2_ := Aside0.mk (below_drew1 HB.out)
             clear HO_13
             clear BK434
             clear HB
             have HO_13 := n0_
             have BK434 := n1_
             have HB := n2_
             clear n0_ n1_ n2_
             obtain ⟨Ao105, co105, eo105⟩ := Kd.S_slice HO_13.out
             (first | subst eo105 | (injection eo105 with f1_ f2_ f3_; have f4_ := f1_.symm; have f5_ := f3_.symm; clear f1_ f2_ f3_; subst f4_; subst f5_))
             have p438 : 0 ≤ (x334_4 : Int) := odt_
             have q438 : x334_4 < (t391.length : Int) := odt_
             obtain ⟨ad438, A438_0, c438_0, e438, hx438_0, hl438_0, hi438_0⟩ := at_L2 (Kd.S_reads' HO_13.out).2.2 x334_4 p438 q438
             cases e438
             obtain ⟨ce438, hce438, hMe438, hcc438⟩ := Kd.S_get HO_13.out [] x334_4 p438 (by first | exact q438 | exact of_decide_eq_true (by first | (with_reducible assumption) | assumption) | (have e_ := (Kd.S_reads' HO_13.out).1; omega))
             obtain ⟨ve438_0, rfl, ge438_0⟩ := hMe438
             have hv438_0 := hcc438 0 _ rfl
             rw [Nat.add_zero, show ((Kd.slice 3 (Kd.int .i64))).sz = 1 from rfl, Nat.mul_one] at hv438_0
             replace hv438_0 := Option.some.inj (hv438_0.symm.trans hx438_0)
             rw [hv438_0] at ge438_0
             have HL438_0 := Aside0.mk (show Kd.R (Kd.int .i64) 3 _ _ _ _ (rd_L2 t391 x334_4) from ge438_0)
             clear hv438_0 ge438_0
             clear hcc438 hce438
             have HR438_0 := Aside0.mk hi438_0
             have HC438_0 := Aside0.mk hl438_0
             clear hi438_0 hl438_0
             replace p438 := eq_true p438
             replace q438 := eq_true q438
             have p439 : 0 ≤ (0 : Int) := (by omega)
             have q439 : 0 < ((rd_L2 t391 x334_4).length : Int) := odt_
             obtain ⟨ad439, e439, hx439_0⟩ := Kd.at_int (by repeat (first | (with_reducible exact HR438_0.out) | (with_reducible refine Kd.C_alloc ?_ _) | (with_reducible refine Kd.C_drewN ?_ _) | (with_reducible refine Kd.C_drew ?_) | exact HR438_0.out)) 0 p439 q439
             cases e439
             have qi439 : (0 < (rd_L2 t391 x334_4).length) = True := eq_true (by omega)
             (try rw [show ((0 : Int)).toNat = 0 from rfl] at hx439_0)
             (try rw [Addr.add_zero'] at hx439_0)
             replace p439 := eq_true p439
             replace q439 := eq_true q439
             have p440 : 0 ≤ (x334_4 : Int) := odt_
             have q440 : x334_4 < (t391.length : Int) := odt_
             obtain ⟨ad440, A440_0, c440_0, e440, hx440_0, hl440_0, hi440_0⟩ := at_L2 (Kd.S_reads' HO_13.out).2.2 x334_4 p440 q440
             obtain rfl : ad438 = ad440 := (by injection e440)
             obtain ⟨ce440, hce440, hMe440, hcc440⟩ := Kd.S_get HO_13.out [] x334_4 p440 (by first | exact q440 | exact of_decide_eq_true (by first | (with_reducible assumption) | assumption) | (have e_ := (Kd.S_reads' HO_13.out).1; omega))
             obtain ⟨ve440_0, rfl, ge440_0⟩ := hMe440
             have hv440_0 := hcc440 0 _ rfl
             rw [Nat.add_zero, show ((Kd.slice 3 (Kd.int .i64))).sz = 1 from rfl, Nat.mul_one] at hv440_0
             replace hv440_0 := Option.some.inj (hv440_0.symm.trans hx440_0)
             rw [hv440_0] at ge440_0
             have HL440_0 := Aside0.mk (show Kd.R (Kd.int .i64) 3 _ _ _ _ (rd_L2 t391 x334_4) from ge440_0)
             clear hv440_0 ge440_0
             clear hcc440 hce440
             have HR440_0 := Aside0.mk hi440_0
             have HC440_0 := Aside0.mk hl440_0
             clear hi440_0 hl440_0
             replace p440 := eq_true p440
             replace q440 := eq_true q440
             have ea_ := Option.some.inj (hx438_0.symm.trans hx440_0)
             injection ea_ with ea_ en_ ec_
             subst ea_
             subst ec_
             clear en_
             have p441 : 0 ≤ (1 : Int) := (by omega)
             have q441 : 1 < ((rd_L2 t391 x334_4).length : Int) := odt_
             obtain ⟨ad441, e441, hx441_0⟩ := Kd.at_int (by repeat (first | (with_reducible exact HR440_0.out) | (with_reducible refine Kd.C_alloc ?_ _) | (with_reducible refine Kd.C_drewN ?_ _) | (with_reducible refine Kd.C_drew ?_) | exact HR440_0.out)) 1 p441 q441
             cases e441
             (try simp only [show (1 : Int).toNat = 1 from rfl, Nat.reduceMul, Nat.reduceEqDiff, Go.Addr.add, ↓reduceIte] at hx441_0)
             have qi441 : (1 < (rd_L2 t391 x334_4).length) = True := eq_true (by omega)
             (try rw [show ((1 : Int)).toNat = 1 from rfl] at hx441_0)
             replace p441 := eq_true p441
             replace q441 := eq_true q441
             have p443 : 0 ≤ (t415 : Int) := odt_
             have q443 : t415 < (l0.length : Int) := odt_
             obtain ⟨ad443, e443, hx443_0, hx443_1⟩ := at_T37 HR0.out t415 p443 q443
             have hw443_1 := hx443_1
             have hw443_0 := hx443_0
             obtain rfl : ad433 = ad443 := (by injection e443)
             replace hx443_0 := bx_ HB hx443_0
             replace hx443_1 := bx_ HB hx443_1
             replace p443 := eq_true p443
             replace q443 := eq_true q443
             have p444 : 0 ≤ (t415 : Int) := odt_
             have q444 : t415 < (l0.length : Int) := odt_
             obtain ⟨ad444, e444, hx444_0, hx444_1⟩ := at_T37 HR0.out t415 p444 q444
             have hw444_1 := hx444_1
             have hw444_0 := hx444_0
             obtain rfl : ad433 = ad444 := (by injection e444)
             replace hx444_0 := bx_ HB hx444_0
             replace hx444_1 := bx_ HB hx444_1
             replace p444 := eq_true p444
             replace q444 := eq_true q444
             have p445 : 0 ≤ (t415 : Int) := odt_
             have q445 : t415 < (l0.length : Int) := odt_
             obtain ⟨ad445, e445, hx445_0, hx445_1⟩ := at_T37 HR0.out t415 p445 q445
             have hw445_1 := hx445_1
             have hw445_0 := hx445_0
             obtain rfl : ad433 = ad445 := (by injection e445)
             replace hx445_0 := bx_ HB hx445_0
             replace hx445_1 := bx_ HB hx445_1
             replace p445 := eq_true p445
             replace q445 := eq_true q445
             have p446 : 0 ≤ (t415 : Int) := odt_
             have q446 : t415 < (l0.length : Int) := odt_
             obtain ⟨ad446, e446, hx446_0, hx446_1⟩ := at_T37 HR0.out t415 p446 q446
             have hw446_1 := hx446_1
             have hw446_0 := hx446_0
             obtain rfl : ad433 = ad446 := (by injection e446)
             replace hx446_0 := bx_ HB hx446_0
             replace hx446_1 := bx_ HB hx446_1
             replace p446 := eq_true p446
             replace q446 := eq_true q446
             refine start_ (n := 69) (S := fun w' => w'.cell? ⟨gb434, 0, none⟩ = some (.int .i64 ((rd_T37 l0 x334_4).f0)) ∧ w'.cell? ⟨gb434, 1, none⟩ = some (.int .i64 ((rd_T37 l0 x334_4).f1)) ∧ w'.cell? (ad438.add (x334_4).toNat) = some (.slice (some ad439) (rd_L2 t391 x334_4).length c438_0) ∧ w'.cell? ad439 = some (.int .i64 (rd (rd_L2 t391 x334_4) 0)) ∧ w'.cell? (ad438.add (x334_4).toNat) = some (.slice (some ad439) (rd_L2 t391 x334_4).length c438_0) ∧ w'.cell? ⟨ad439.block, ad439.off + 1, none⟩ = some (.int .i64 (rd (rd_L2 t391 x334_4) 1)) ∧ w'.cell? (ad433.add ((t415).toNat * 2)) = some (.int .i64 ((rd_T37 l0 t415).f0)) ∧ w'.cell? ⟨(ad433.add ((t415).toNat * 2)).block, (ad433.add ((t415).toNat * 2)).off + 1, none⟩ = some (.int .i64 ((rd_T37 l0 t415).f1)) ∧ w'.cell? (ad433.add ((t415).toNat * 2)) = some (.int .i64 ((rd_T37 l0 t415).f0)) ∧ w'.cell? ⟨(ad433.add ((t415).toNat * 2)).block, (ad433.add ((t415).toNat * 2)).off + 1, none⟩ = some (.int .i64 ((rd_T37 l0 t415).f1)) ∧ w'.cell? (ad433.add ((t415).toNat * 2)) = some (.int .i64 ((rd_T37 l0 t415).f0)) ∧ w'.cell? ⟨(ad433.add ((t415).toNat * 2)).block, (ad433.add ((t415).toNat * 2)).off + 1, none⟩ = some (.int .i64 ((rd_T37 l0 t415).f1)) ∧ w'.cell? (ad433.add ((t415).toNat * 2)) = some (.int .i64 ((rd_T37 l0 t415).f0)) ∧ w'.cell? ⟨(ad433.add ((t415).toNat * 2)).block, (ad433.add ((t415).toNat * 2)).off + 1, none⟩ = some (.int .i64 ((rd_T37 l0 t415).f1))) (ds := []) (fr_ [0, 69]) (by kernel_rfl) rfl rfl ⟨(blk_cell BK434.out 0).trans rfl, (blk_cell BK434.out 1).trans rfl, hx438_0, hx439_0, hx440_0, hx441_0, ((HB.out.cell (World.block_lt_of_cell? w _ hw443_0)).trans hw443_0), ((HB.out.cell (World.block_lt_of_cell? w _ hw443_1)).trans hw443_1), ((HB.out.cell (World.block_lt_of_cell? w _ hw444_0)).trans hw444_0), ((HB.out.cell (World.block_lt_of_cell? w _ hw444_1)).trans hw444_1), ((HB.out.cell (World.block_lt_of_cell? w _ hw445_0)).trans hw445_0), ((HB.out.cell (World.block_lt_of_cell? w _ hw445_1)).trans hw445_1), ((HB.out.cell (World.block_lt_of_cell? w _ hw446_0)).trans hw446_0), ((HB.out.cell (World.block_lt_of_cell? w _ hw446_1)).trans hw446_1)⟩ (fun hHeld => ?_); refine with_tabW lw_.tab27 lw_.bits27 (fun HT_ HW_ => ?_)
             generalize w91.drew = w104 at HO_13 BK434 HB HL438_0 HL440_0 HR438_0 HR440_0 hx438_0 hx439_0 hx440_0 hx441_0 hx443_0 hx443_1 hx444_0 hx444_1 hx445_0 hx445_1 hx446_0 hx446_1 hHeld ⊢
             refine purS_ (i := 0) (N := some 349) (fl_ 69 1) HT_.out ?_
             refine purS_ (i := 1) (N := some 350) (fl_ 69 2) HT_.out ?_
             refine purS_ (i := 2) (N := some 351) (fl_ 69 3) HT_.out ?_
             refine purS_ (i := 6) (N := some 355) (fr_ [3, 3, 1, 62]) HT_.out ?_
             refine purS_ (i := 7) (N := some 356) (fr_ [3, 3, 2, 61]) HT_.out ?_
             refine purS_ (i := 8) (N := some 357) (fr_ [3, 3, 3, 60]) HT_.out ?_
             refine take_ (i := 3) (N := some 352) (v := ?_) (a' := ?_) (fr_ [4, 2, 3, 60]) rfl rfl (take_ofW HT_.out HW_.out (by kernel_rfl)) (fun _ _ _ h => h) (Or.inl ⟨by rfl, ?_⟩) hHeld ?_ ?_
             rotate_left
             ·rintro w' ⟨s0, s1, s2, s3, s4, s5, s6, s7, s8, s9, s10, s11, s12, s13⟩
              go_simp
              with_reducible rfl
             rotate_left
             ·simp only [Act.put, List.setIfInBounds_toArray, List.set_cons_zero, List.set_cons_succ, i64_w, i32_w]
              rfl
             refine purS_ (i := 4) (N := some 353) (fr_ [5, 1, 3, 60]) HT_.out ?_
             refine take_ (i := 5) (N := some 354) (v := ?_) (a' := ?_) (fr_ [9, 60]) rfl rfl (take_ofW HT_.out HW_.out (by kernel_rfl)) (fun _ _ _ h => h) (Or.inl ⟨by rfl, ?_⟩) hHeld ?_ ?_
             rotate_left
             ·rintro w' ⟨s0, s1, s2, s3, s4, s5, s6, s7, s8, s9, s10, s11, s12, s13⟩
              go_simp
              with_reducible rfl
             rotate_left
             ·simp only [Act.put, List.setIfInBounds_toArray, List.set_cons_zero, List.set_cons_succ, i64_w, i32_w]
              rfl
             refine take_ (i := 9) (N := some 358) (v := ?_) (a' := ?_) (fr_ [10, 59]) rfl rfl (take_ofW HT_.out HW_.out (by kernel_rfl)) (fun _ _ _ h => h) (Or.inl ⟨by rfl, ?_⟩) hHeld ?_ ?_
             rotate_left
             ·rintro w' ⟨s0, s1, s2, s3, s4, s5, s6, s7, s8, s9, s10, s11, s12, s13⟩
              go_simp
              with_reducible rfl
             rotate_left
             ·simp only [Act.put, List.setIfInBounds_toArray, List.set_cons_zero, List.set_cons_succ, i64_w, i32_w]
              rfl
             refine purS_ (i := 10) (N := some 359) (fl_ 69 11) HT_.out ?_
             refine take_ (i := 11) (N := some 360) (v := ?_) (a' := ?_) (fr_ [12, 57]) rfl rfl (take_ofW HT_.out HW_.out (by kernel_rfl)) (fun _ _ _ h => h) (Or.inl ⟨by rfl, ?_⟩) hHeld ?_ ?_
             rotate_left
             ·rintro w' ⟨s0, s1, s2, s3, s4, s5, s6, s7, s8, s9, s10, s11, s12, s13⟩
              go_simp
              with_reducible rfl
             rotate_left
             ·simp only [Act.put, List.setIfInBounds_toArray, List.set_cons_zero, List.set_cons_succ, i64_w, i32_w]
              rfl
             refine one_ (i := 12) (N := some 361) (fr_ [13, 56]) rfl rfl (one_of HT_.out (by kernel_rfl)) (by decide) (fun K hK => ?_)
             refine goes_ Tryz.func20 (by kernel_rfl) rfl #[.int .i64 (rd (rd_L2 t391 x334_4) 0), .int .i64 (rd (rd_L2 t391 x334_4) 1)] (by rfl) rfl rfl am_ ?_
             with_reducible refine (laws_yLow.calls k4 (rd (rd_L2 t391 x334_4) 0) (rd (rd_L2 t391 x334_4) 1) true _ A95.out).mono ?_
             rintro e w' ⟨rfl, ⟨nd, rfl⟩⟩
             refine ⟨_, rfl, ?_⟩
             refine hK.out _ _ ⟨(blk_cell BK434.out 0).trans rfl, (blk_cell BK434.out 1).trans rfl, hHeld.2.2.1, hHeld.2.2.2.1, hHeld.2.2.2.2.1, hHeld.2.2.2.2.2.1, ((HB.out.cell (World.block_lt_of_cell? w _ hw443_0)).trans hw443_0), ((HB.out.cell (World.block_lt_of_cell? w _ hw443_1)).trans hw443_1), ((HB.out.cell (World.block_lt_of_cell? w _ hw444_0)).trans hw444_0), ((HB.out.cell (World.block_lt_of_cell? w _ hw444_1)).trans hw444_1), ((HB.out.cell (World.block_lt_of_cell? w _ hw445_0)).trans hw445_0), ((HB.out.cell (World.block_lt_of_cell? w _ hw445_1)).trans hw445_1), ((HB.out.cell (World.block_lt_of_cell? w _ hw446_0)).trans hw446_0), ((HB.out.cell (World.block_lt_of_cell? w _ hw446_1)).trans hw446_1)⟩ (fun hHeld => ?_)
             clear hK K
             refine norm_ (a' := ?_) ?_ ?_
             rotate_left
             ·show Act.put _ (some 361) _ = _
              simp only [Act.put, List.setIfInBounds_toArray, List.set_cons_zero, List.set_cons_succ, i64_w, i32_w]
              rfl
             refine purS_ (i := 13) (N := some 362) (fl_ 69 14) HT_.out ?_
             refine purS_ (i := 14) (N := some 363) (fl_ 69 15) HT_.out ?_
             refine purS_ (i := 15) (N := some 364) (fl_ 69 16) HT_.out ?_
             refine purS_ (i := 17) (N := some 366) (fr_ [16, 1, 1, 51]) HT_.out ?_
             refine purS_ (i := 18) (N := some 367) (fr_ [16, 1, 2, 50]) HT_.out ?_
             refine purS_ (i := 19) (N := some 368) (fr_ [16, 1, 3, 49]) HT_.out ?_
             refine purS_ (i := 20) (N := some 369) (fr_ [16, 1, 4, 48]) HT_.out ?_
             refine purS_ (i := 23) (N := some 372) (fr_ [16, 1, 4, 2, 1, 45]) HT_.out ?_
             refine purS_ (i := 24) (N := some 373) (fr_ [16, 1, 4, 2, 2, 44]) HT_.out ?_
             refine purS_ (i := 25) (N := some 374) (fr_ [16, 1, 4, 2, 3, 43]) HT_.out ?_
             refine purS_ (i := 26) (N := some 375) (fr_ [16, 1, 4, 2, 4, 42]) HT_.out ?_
             refine purS_ (i := 28) (N := some 377) (fr_ [16, 1, 4, 2, 4, 1, 1, 40]) HT_.out ?_
             refine take_ (i := 16) (N := some 365) (v := ?_) (a' := ?_) (fr_ [21, 2, 4, 1, 1, 40]) rfl rfl (take_ofW HT_.out HW_.out (by kernel_rfl)) (fun _ _ _ h => h) (Or.inl ⟨by rfl, ?_⟩) hHeld ?_ ?_
             rotate_left
             ·rintro w' ⟨s0, s1, s2, s3, s4, s5, s6, s7, s8, s9, s10, s11, s12, s13⟩
              go_simp
              with_reducible rfl
             rotate_left
             ·simp only [Act.put, List.setIfInBounds_toArray, List.set_cons_zero, List.set_cons_succ, i64_w, i32_w]
              rfl
             refine take_ (i := 21) (N := some 370) (v := ?_) (a' := ?_) (fr_ [22, 1, 4, 1, 1, 40]) rfl rfl (take_ofW HT_.out HW_.out (by kernel_rfl)) (fun _ _ _ h => h) (Or.inl ⟨by rfl, ?_⟩) hHeld ?_ ?_
             rotate_left
             ·rintro w' ⟨s0, s1, s2, s3, s4, s5, s6, s7, s8, s9, s10, s11, s12, s13⟩
              go_simp
              with_reducible rfl
             rotate_left
             ·simp only [Act.put, List.setIfInBounds_toArray, List.set_cons_zero, List.set_cons_succ, i64_w, i32_w]
              rfl
             refine purS_ (i := 22) (N := some 371) (fr_ [27, 1, 1, 40]) HT_.out ?_
             refine take_ (i := 27) (N := some 376) (v := ?_) (a' := ?_) (fr_ [29, 40]) rfl rfl (take_ofW HT_.out HW_.out (by kernel_rfl)) (fun _ _ _ h => h) (Or.inl ⟨by rfl, ?_⟩) hHeld ?_ ?_
             rotate_left
             ·rintro w' ⟨s0, s1, s2, s3, s4, s5, s6, s7, s8, s9, s10, s11, s12, s13⟩
              go_simp
              with_reducible rfl
             rotate_left
             ·simp only [Act.put, List.setIfInBounds_toArray, List.set_cons_zero, List.set_cons_succ, i64_w, i32_w]
              rfl
             refine take_ (i := 29) (N := some 378) (v := ?_) (a' := ?_) (fr_ [30, 39]) rfl rfl (take_ofW HT_.out HW_.out (by kernel_rfl)) (fun _ _ _ h => h) (Or.inl ⟨by rfl, ?_⟩) hHeld ?_ ?_
             rotate_left
             ·rintro w' ⟨s0, s1, s2, s3, s4, s5, s6, s7, s8, s9, s10, s11, s12, s13⟩
              go_simp
              with_reducible rfl
             rotate_left
             ·simp only [Act.put, List.setIfInBounds_toArray, List.set_cons_zero, List.set_cons_succ, i64_w, i32_w]
              rfl
             refine purS_ (i := 30) (N := some 379) (fl_ 69 31) HT_.out ?_
             refine purS_ (i := 31) (N := some 380) (fl_ 69 32) HT_.out ?_
             refine purS_ (i := 32) (N := some 381) (fl_ 69 33) HT_.out ?_
             refine purS_ (i := 33) (N := some 382) (fl_ 69 34) HT_.out ?_
             refine purS_ (i := 34) (N := some 383) (fl_ 69 35) HT_.out ?_
             refine purS_ (i := 35) (N := some 384) (fl_ 69 36) HT_.out ?_
             refine purS_ (i := 36) (N := some 385) (fl_ 69 37) HT_.out ?_
             refine purS_ (i := 37) (N := some 386) (fl_ 69 38) HT_.out ?_
             refine purS_ (i := 38) (N := some 387) (fl_ 69 39) HT_.out ?_
             refine purS_ (i := 40) (N := some 389) (fr_ [39, 1, 1, 28]) HT_.out ?_
             refine purS_ (i := 41) (N := some 390) (fr_ [39, 1, 2, 27]) HT_.out ?_
             refine purS_ (i := 42) (N := some 391) (fr_ [39, 1, 3, 26]) HT_.out ?_
             refine purS_ (i := 43) (N := some 392) (fr_ [39, 1, 4, 25]) HT_.out ?_
             refine purS_ (i := 46) (N := some 395) (fr_ [39, 1, 4, 2, 1, 22]) HT_.out ?_
             refine purS_ (i := 47) (N := some 396) (fr_ [39, 1, 4, 2, 2, 21]) HT_.out ?_
             refine purS_ (i := 48) (N := some 397) (fr_ [39, 1, 4, 2, 3, 20]) HT_.out ?_
             refine purS_ (i := 49) (N := some 398) (fr_ [39, 1, 4, 2, 4, 19]) HT_.out ?_
             refine purS_ (i := 51) (N := some 400) (fr_ [39, 1, 4, 2, 4, 1, 1, 17]) HT_.out ?_
             refine take_ (i := 39) (N := some 388) (v := ?_) (a' := ?_) (fr_ [44, 2, 4, 1, 1, 17]) rfl rfl (take_ofW HT_.out HW_.out (by kernel_rfl)) (fun _ _ _ h => h) (Or.inl ⟨by rfl, ?_⟩) hHeld ?_ ?_
             rotate_left
             ·rintro w' ⟨s0, s1, s2, s3, s4, s5, s6, s7, s8, s9, s10, s11, s12, s13⟩
              go_simp
              with_reducible rfl
             rotate_left
             ·simp only [Act.put, List.setIfInBounds_toArray, List.set_cons_zero, List.set_cons_succ, i64_w, i32_w]
              rfl
             refine take_ (i := 44) (N := some 393) (v := ?_) (a' := ?_) (fr_ [45, 1, 4, 1, 1, 17]) rfl rfl (take_ofW HT_.out HW_.out (by kernel_rfl)) (fun _ _ _ h => h) (Or.inl ⟨by rfl, ?_⟩) hHeld ?_ ?_
             rotate_left
             ·rintro w' ⟨s0, s1, s2, s3, s4, s5, s6, s7, s8, s9, s10, s11, s12, s13⟩
              go_simp
              with_reducible rfl
             rotate_left
             ·simp only [Act.put, List.setIfInBounds_toArray, List.set_cons_zero, List.set_cons_succ, i64_w, i32_w]
              rfl
             refine purS_ (i := 45) (N := some 394) (fr_ [50, 1, 1, 17]) HT_.out ?_
             refine take_ (i := 50) (N := some 399) (v := ?_) (a' := ?_) (fr_ [52, 17]) rfl rfl (take_ofW HT_.out HW_.out (by kernel_rfl)) (fun _ _ _ h => h) (Or.inl ⟨by rfl, ?_⟩) hHeld ?_ ?_
             rotate_left
             ·rintro w' ⟨s0, s1, s2, s3, s4, s5, s6, s7, s8, s9, s10, s11, s12, s13⟩
              go_simp
              with_reducible rfl
             rotate_left
             ·simp only [Act.put, List.setIfInBounds_toArray, List.set_cons_zero, List.set_cons_succ, i64_w, i32_w]
              rfl
             refine take_ (i := 52) (N := some 401) (v := ?_) (a' := ?_) (fr_ [53, 16]) rfl rfl (take_ofW HT_.out HW_.out (by kernel_rfl)) (fun _ _ _ h => h) (Or.inl ⟨by rfl, ?_⟩) hHeld ?_ ?_
             rotate_left
             ·rintro w' ⟨s0, s1, s2, s3, s4, s5, s6, s7, s8, s9, s10, s11, s12, s13⟩
              go_simp
              with_reducible rfl
             rotate_left
             ·simp only [Act.put, List.setIfInBounds_toArray, List.set_cons_zero, List.set_cons_succ, i64_w, i32_w]
              rfl
             refine purS_ (i := 53) (N := some 402) (fl_ 69 54) HT_.out ?_
             refine purS_ (i := 54) (N := some 403) (fl_ 69 55) HT_.out ?_
             refine purS_ (i := 55) (N := some 404) (fl_ 69 56) HT_.out ?_
             refine purS_ (i := 56) (N := some 405) (fl_ 69 57) HT_.out ?_
             refine purS_ (i := 57) (N := some 406) (fl_ 69 58) HT_.out ?_
             refine purS_ (i := 58) (N := some 407) (fl_ 69 59) HT_.out ?_
             refine purS_ (i := 59) (N := some 408) (fl_ 69 60) HT_.out ?_
             refine purS_ (i := 60) (N := some 409) (fl_ 69 61) HT_.out ?_
             refine purS_ (i := 61) (N := some 410) (fl_ 69 62) HT_.out ?_
             refine purS_ (i := 62) (N := some 411) (fl_ 69 63) HT_.out ?_
             refine purS_ (i := 63) (N := some 412) (fl_ 69 64) HT_.out ?_
             refine purS_ (i := 64) (N := some 413) (fl_ 69 65) HT_.out ?_
             refine purS_ (i := 65) (N := some 414) (fl_ 69 66) HT_.out ?_
             refine purS_ (i := 66) (N := some 415) (fl_ 69 67) HT_.out ?_
             refine purS_ (i := 67) (N := some 416) (fl_ 69 68) HT_.out ?_
             refine purS_ (i := 68) (N := some 417) (fl_ 69 69) HT_.out ?_
             refine done_ (done_of HT_.out (by kernel_rfl)) ?_
             try go_wp2
             go_meet
             case rel => exact ⟨_, ((t436 != 1)), rt_, H', ⟨by have := HJ6.out; have := HJ23.out; have := HJ68.out; have := HK4.out; first | omega | exact Nat.le_refl _⟩, ⟨by (with_reducible repeat (first | apply Kd.S_alloc | apply Kd.S_drewN | apply Kd.S_drew)); exact HO_13.out⟩, ⟨blk_to BK434⟩, ⟨below_to1 HB GE434.out⟩⟩
            ·rw [if_neg c103] at H
             have c103b0 := beq_eq_false_iff_ne.mpr c103
             have c103b1 := bne_iff_ne.mpr c103
             exact absurd H (by rw [HR_.out]; cases k4 <;> simp [lw_.j4])
           ·replace c102 := Bool.eq_false_iff.mpr c102
            subst c102
            rw [if_neg (show ¬ (false = true) by decide)] at H
            exact absurd H (by rw [HR_.out]; cases k4 <;> simp [lw_.j4])
         ·rw [if_neg c100] at H
          have c100b0 := decide_eq_false c100
          clear c100
          by_cases c106 : t437 = true
          ·subst c106
           rw [if_pos rfl] at H
           by_cases c107 : t435 = 0
           ·rw [if_pos c107] at H
            have c107b0 := beq_iff_eq.mpr c107
            have c107b1 := bne_eq_false_iff_eq.mpr c107
            clear c107
            have H' := Aside0.mk H
            clear H
            try go_wp2
            have n0_ := Aside0.mk (Kd.S_drew HO_13.out)
            have n1_ := Aside0.mk (blk_drew BK434.out)
            have n2_ := Aside0.mk (below_drew1 HB.out)
            clear HO_13
            clear BK434
            clear HB
            have HO_13 := n0_
            have BK434 := n1_
            have HB := n2_
            clear n0_ n1_ n2_
            obtain ⟨Ao109, co109, eo109⟩ := Kd.S_slice HO_13.out
            (first | subst eo109 | (injection eo109 with f1_ f2_ f3_; have f4_ := f1_.symm; have f5_ := f3_.symm; clear f1_ f2_ f3_; subst f4_; subst f5_))
            have p438 : 0 ≤ (x334_4 : Int) := odt_
            have q438 : x334_4 < (t391.length : Int) := odt_
            obtain ⟨ad438, A438_0, c438_0, e438, hx438_0, hl438_0, hi438_0⟩ := at_L2 (Kd.S_reads' HO_13.out).2.2 x334_4 p438 q438
            cases e438
            obtain ⟨ce438, hce438, hMe438, hcc438⟩ := Kd.S_get HO_13.out [] x334_4 p438 (by first | exact q438 | exact of_decide_eq_true (by first | (with_reducible assumption) | assumption) | (have e_ := (Kd.S_reads' HO_13.out).1; omega))
            obtain ⟨ve438_0, rfl, ge438_0⟩ := hMe438
            have hv438_0 := hcc438 0 _ rfl
            rw [Nat.add_zero, show ((Kd.slice 3 (Kd.int .i64))).sz = 1 from rfl, Nat.mul_one] at hv438_0
            replace hv438_0 := Option.some.inj (hv438_0.symm.trans hx438_0)
            rw [hv438_0] at ge438_0
            have HL438_0 := Aside0.mk (show Kd.R (Kd.int .i64) 3 _ _ _ _ (rd_L2 t391 x334_4) from ge438_0)
            clear hv438_0 ge438_0
            clear hcc438 hce438
            have HR438_0 := Aside0.mk hi438_0
            have HC438_0 := Aside0.mk hl438_0
            clear hi438_0 hl438_0
            replace p438 := eq_true p438
            replace q438 := eq_true q438
            have p439 : 0 ≤ (0 : Int) := (by omega)
            have q439 : 0 < ((rd_L2 t391 x334_4).length : Int) := odt_
            obtain ⟨ad439, e439, hx439_0⟩ := Kd.at_int (by repeat (first | (with_reducible exact HR438_0.out) | (with_reducible refine Kd.C_alloc ?_ _) | (with_reducible refine Kd.C_drewN ?_ _) | (with_reducible refine Kd.C_drew ?_) | exact HR438_0.out)) 0 p439 q439
            cases e439
            have qi439 : (0 < (rd_L2 t391 x334_4).length) = True := eq_true (by omega)
            (try rw [show ((0 : Int)).toNat = 0 from rfl] at hx439_0)
            (try rw [Addr.add_zero'] at hx439_0)
            replace p439 := eq_true p439
            replace q439 := eq_true q439
            have p440 : 0 ≤ (x334_4 : Int) := odt_
            have q440 : x334_4 < (t391.length : Int) := odt_
            obtain ⟨ad440, A440_0, c440_0, e440, hx440_0, hl440_0, hi440_0⟩ := at_L2 (Kd.S_reads' HO_13.out).2.2 x334_4 p440 q440
            obtain rfl : ad438 = ad440 := (by injection e440)
            obtain ⟨ce440, hce440, hMe440, hcc440⟩ := Kd.S_get HO_13.out [] x334_4 p440 (by first | exact q440 | exact of_decide_eq_true (by first | (with_reducible assumption) | assumption) | (have e_ := (Kd.S_reads' HO_13.out).1; omega))
            obtain ⟨ve440_0, rfl, ge440_0⟩ := hMe440
            have hv440_0 := hcc440 0 _ rfl
            rw [Nat.add_zero, show ((Kd.slice 3 (Kd.int .i64))).sz = 1 from rfl, Nat.mul_one] at hv440_0
            replace hv440_0 := Option.some.inj (hv440_0.symm.trans hx440_0)
            rw [hv440_0] at ge440_0
            have HL440_0 := Aside0.mk (show Kd.R (Kd.int .i64) 3 _ _ _ _ (rd_L2 t391 x334_4) from ge440_0)
            clear hv440_0 ge440_0
            clear hcc440 hce440
            have HR440_0 := Aside0.mk hi440_0
            have HC440_0 := Aside0.mk hl440_0
            clear hi440_0 hl440_0
            replace p440 := eq_true p440
            replace q440 := eq_true q440
            have ea_ := Option.some.inj (hx438_0.symm.trans hx440_0)
            injection ea_ with ea_ en_ ec_
            subst ea_
            subst ec_
            clear en_
            have p441 : 0 ≤ (1 : Int) := (by omega)
            have q441 : 1 < ((rd_L2 t391 x334_4).length : Int) := odt_
            obtain ⟨ad441, e441, hx441_0⟩ := Kd.at_int (by repeat (first | (with_reducible exact HR440_0.out) | (with_reducible refine Kd.C_alloc ?_ _) | (with_reducible refine Kd.C_drewN ?_ _) | (with_reducible refine Kd.C_drew ?_) | exact HR440_0.out)) 1 p441 q441
            cases e441
            (try simp only [show (1 : Int).toNat = 1 from rfl, Nat.reduceMul, Nat.reduceEqDiff, Go.Addr.add, ↓reduceIte] at hx441_0)
            have qi441 : (1 < (rd_L2 t391 x334_4).length) = True := eq_true (by omega)
            (try rw [show ((1 : Int)).toNat = 1 from rfl] at hx441_0)
            replace p441 := eq_true p441
            replace q441 := eq_true q441
            have p443 : 0 ≤ (t415 : Int) := odt_
            have q443 : t415 < (l0.length : Int) := odt_
            obtain ⟨ad443, e443, hx443_0, hx443_1⟩ := at_T37 HR0.out t415 p443 q443
            have hw443_1 := hx443_1
            have hw443_0 := hx443_0
            obtain rfl : ad433 = ad443 := (by injection e443)
            replace hx443_0 := bx_ HB hx443_0
            replace hx443_1 := bx_ HB hx443_1
            replace p443 := eq_true p443
            replace q443 := eq_true q443
            have p444 : 0 ≤ (t415 : Int) := odt_
            have q444 : t415 < (l0.length : Int) := odt_
            obtain ⟨ad444, e444, hx444_0, hx444_1⟩ := at_T37 HR0.out t415 p444 q444
            have hw444_1 := hx444_1
            have hw444_0 := hx444_0
            obtain rfl : ad433 = ad444 := (by injection e444)
            replace hx444_0 := bx_ HB hx444_0
            replace hx444_1 := bx_ HB hx444_1
            replace p444 := eq_true p444
            replace q444 := eq_true q444
            refine start_ (n := 69) (S := fun w' => w'.cell? ⟨gb434, 0, none⟩ = some (.int .i64 ((rd_T37 l0 x334_4).f0)) ∧ w'.cell? ⟨gb434, 1, none⟩ = some (.int .i64 ((rd_T37 l0 x334_4).f1)) ∧ w'.cell? (ad438.add (x334_4).toNat) = some (.slice (some ad439) (rd_L2 t391 x334_4).length c438_0) ∧ w'.cell? ad439 = some (.int .i64 (rd (rd_L2 t391 x334_4) 0)) ∧ w'.cell? (ad438.add (x334_4).toNat) = some (.slice (some ad439) (rd_L2 t391 x334_4).length c438_0) ∧ w'.cell? ⟨ad439.block, ad439.off + 1, none⟩ = some (.int .i64 (rd (rd_L2 t391 x334_4) 1)) ∧ w'.cell? (ad433.add ((t415).toNat * 2)) = some (.int .i64 ((rd_T37 l0 t415).f0)) ∧ w'.cell? ⟨(ad433.add ((t415).toNat * 2)).block, (ad433.add ((t415).toNat * 2)).off + 1, none⟩ = some (.int .i64 ((rd_T37 l0 t415).f1)) ∧ w'.cell? (ad433.add ((t415).toNat * 2)) = some (.int .i64 ((rd_T37 l0 t415).f0)) ∧ w'.cell? ⟨(ad433.add ((t415).toNat * 2)).block, (ad433.add ((t415).toNat * 2)).off + 1, none⟩ = some (.int .i64 ((rd_T37 l0 t415).f1))) (ds := []) (fr_ [0, 69]) (by kernel_rfl) rfl rfl ⟨(blk_cell BK434.out 0).trans rfl, (blk_cell BK434.out 1).trans rfl, hx438_0, hx439_0, hx440_0, hx441_0, ((HB.out.cell (World.block_lt_of_cell? w _ hw443_0)).trans hw443_0), ((HB.out.cell (World.block_lt_of_cell? w _ hw443_1)).trans hw443_1), ((HB.out.cell (World.block_lt_of_cell? w _ hw444_0)).trans hw444_0), ((HB.out.cell (World.block_lt_of_cell? w _ hw444_1)).trans hw444_1)⟩ (fun hHeld => ?_); refine with_tabW lw_.tab27 lw_.bits27 (fun HT_ HW_ => ?_)
            generalize w91.drew = w108 at HO_13 BK434 HB HL438_0 HL440_0 HR438_0 HR440_0 hx438_0 hx439_0 hx440_0 hx441_0 hx443_0 hx443_1 hx444_0 hx444_1 hHeld ⊢
            refine purS_ (i := 0) (N := some 349) (fl_ 69 1) HT_.out ?_
            refine purS_ (i := 1) (N := some 350) (fl_ 69 2) HT_.out ?_
            refine purS_ (i := 2) (N := some 351) (fl_ 69 3) HT_.out ?_
            refine purS_ (i := 6) (N := some 355) (fr_ [3, 3, 1, 62]) HT_.out ?_
            refine purS_ (i := 7) (N := some 356) (fr_ [3, 3, 2, 61]) HT_.out ?_
            refine purS_ (i := 8) (N := some 357) (fr_ [3, 3, 3, 60]) HT_.out ?_
            refine take_ (i := 3) (N := some 352) (v := ?_) (a' := ?_) (fr_ [4, 2, 3, 60]) rfl rfl (take_ofW HT_.out HW_.out (by kernel_rfl)) (fun _ _ _ h => h) (Or.inl ⟨by rfl, ?_⟩) hHeld ?_ ?_
            rotate_left
            ·rintro w' ⟨s0, s1, s2, s3, s4, s5, s6, s7, s8, s9⟩
             go_simp
             with_reducible rfl
            rotate_left
            ·simp only [Act.put, List.setIfInBounds_toArray, List.set_cons_zero, List.set_cons_succ, i64_w, i32_w]
             rfl
            refine purS_ (i := 4) (N := some 353) (fr_ [5, 1, 3, 60]) HT_.out ?_
            refine take_ (i := 5) (N := some 354) (v := ?_) (a' := ?_) (fr_ [9, 60]) rfl rfl (take_ofW HT_.out HW_.out (by kernel_rfl)) (fun _ _ _ h => h) (Or.inl ⟨by rfl, ?_⟩) hHeld ?_ ?_
            rotate_left
            ·rintro w' ⟨s0, s1, s2, s3, s4, s5, s6, s7, s8, s9⟩
             go_simp
             with_reducible rfl
            rotate_left
            ·simp only [Act.put, List.setIfInBounds_toArray, List.set_cons_zero, List.set_cons_succ, i64_w, i32_w]
             rfl
            refine take_ (i := 9) (N := some 358) (v := ?_) (a' := ?_) (fr_ [10, 59]) rfl rfl (take_ofW HT_.out HW_.out (by kernel_rfl)) (fun _ _ _ h => h) (Or.inl ⟨by rfl, ?_⟩) hHeld ?_ ?_
            rotate_left
            ·rintro w' ⟨s0, s1, s2, s3, s4, s5, s6, s7, s8, s9⟩
             go_simp
             with_reducible rfl
            rotate_left
            ·simp only [Act.put, List.setIfInBounds_toArray, List.set_cons_zero, List.set_cons_succ, i64_w, i32_w]
             rfl
            refine purS_ (i := 10) (N := some 359) (fl_ 69 11) HT_.out ?_
            refine take_ (i := 11) (N := some 360) (v := ?_) (a' := ?_) (fr_ [12, 57]) rfl rfl (take_ofW HT_.out HW_.out (by kernel_rfl)) (fun _ _ _ h => h) (Or.inl ⟨by rfl, ?_⟩) hHeld ?_ ?_
            rotate_left
            ·rintro w' ⟨s0, s1, s2, s3, s4, s5, s6, s7, s8, s9⟩
             go_simp
             with_reducible rfl
            rotate_left
            ·simp only [Act.put, List.setIfInBounds_toArray, List.set_cons_zero, List.set_cons_succ, i64_w, i32_w]
             rfl
            refine one_ (i := 12) (N := some 361) (fr_ [13, 56]) rfl rfl (one_of HT_.out (by kernel_rfl)) (by decide) (fun K hK => ?_)
            refine goes_ Tryz.func20 (by kernel_rfl) rfl #[.int .i64 (rd (rd_L2 t391 x334_4) 0), .int .i64 (rd (rd_L2 t391 x334_4) 1)] (by rfl) rfl rfl am_ ?_
            with_reducible refine (laws_yLow.calls k4 (rd (rd_L2 t391 x334_4) 0) (rd (rd_L2 t391 x334_4) 1) true _ A95.out).mono ?_
            rintro e w' ⟨rfl, ⟨nd, rfl⟩⟩
            refine ⟨_, rfl, ?_⟩
            refine hK.out _ _ ⟨(blk_cell BK434.out 0).trans rfl, (blk_cell BK434.out 1).trans rfl, hHeld.2.2.1, hHeld.2.2.2.1, hHeld.2.2.2.2.1, hHeld.2.2.2.2.2.1, ((HB.out.cell (World.block_lt_of_cell? w _ hw443_0)).trans hw443_0), ((HB.out.cell (World.block_lt_of_cell? w _ hw443_1)).trans hw443_1), ((HB.out.cell (World.block_lt_of_cell? w _ hw444_0)).trans hw444_0), ((HB.out.cell (World.block_lt_of_cell? w _ hw444_1)).trans hw444_1)⟩ (fun hHeld => ?_)
            clear hK K
            refine norm_ (a' := ?_) ?_ ?_
            rotate_left
            ·show Act.put _ (some 361) _ = _
             simp only [Act.put, List.setIfInBounds_toArray, List.set_cons_zero, List.set_cons_succ, i64_w, i32_w]
             rfl
            refine purS_ (i := 13) (N := some 362) (fl_ 69 14) HT_.out ?_
            refine purS_ (i := 14) (N := some 363) (fl_ 69 15) HT_.out ?_
            refine purS_ (i := 15) (N := some 364) (fl_ 69 16) HT_.out ?_
            refine purS_ (i := 17) (N := some 366) (fr_ [16, 1, 1, 51]) HT_.out ?_
            refine purS_ (i := 18) (N := some 367) (fr_ [16, 1, 2, 50]) HT_.out ?_
            refine purS_ (i := 19) (N := some 368) (fr_ [16, 1, 3, 49]) HT_.out ?_
            refine purS_ (i := 20) (N := some 369) (fr_ [16, 1, 4, 48]) HT_.out ?_
            refine purS_ (i := 23) (N := some 372) (fr_ [16, 1, 4, 2, 1, 45]) HT_.out ?_
            refine purS_ (i := 24) (N := some 373) (fr_ [16, 1, 4, 2, 2, 44]) HT_.out ?_
            refine purS_ (i := 25) (N := some 374) (fr_ [16, 1, 4, 2, 3, 43]) HT_.out ?_
            refine purS_ (i := 26) (N := some 375) (fr_ [16, 1, 4, 2, 4, 42]) HT_.out ?_
            refine purS_ (i := 28) (N := some 377) (fr_ [16, 1, 4, 2, 4, 1, 1, 40]) HT_.out ?_
            refine take_ (i := 16) (N := some 365) (v := ?_) (a' := ?_) (fr_ [21, 2, 4, 1, 1, 40]) rfl rfl (take_ofW HT_.out HW_.out (by kernel_rfl)) (fun _ _ _ h => h) (Or.inl ⟨by rfl, ?_⟩) hHeld ?_ ?_
            rotate_left
            ·rintro w' ⟨s0, s1, s2, s3, s4, s5, s6, s7, s8, s9⟩
             go_simp
             with_reducible rfl
            rotate_left
            ·simp only [Act.put, List.setIfInBounds_toArray, List.set_cons_zero, List.set_cons_succ, i64_w, i32_w]
             rfl
            refine take_ (i := 21) (N := some 370) (v := ?_) (a' := ?_) (fr_ [22, 1, 4, 1, 1, 40]) rfl rfl (take_ofW HT_.out HW_.out (by kernel_rfl)) (fun _ _ _ h => h) (Or.inl ⟨by rfl, ?_⟩) hHeld ?_ ?_
            rotate_left
            ·rintro w' ⟨s0, s1, s2, s3, s4, s5, s6, s7, s8, s9⟩
             go_simp
             with_reducible rfl
            rotate_left
            ·simp only [Act.put, List.setIfInBounds_toArray, List.set_cons_zero, List.set_cons_succ, i64_w, i32_w]
             rfl
            refine purS_ (i := 22) (N := some 371) (fr_ [27, 1, 1, 40]) HT_.out ?_
            refine take_ (i := 27) (N := some 376) (v := ?_) (a' := ?_) (fr_ [29, 40]) rfl rfl (take_ofW HT_.out HW_.out (by kernel_rfl)) (fun _ _ _ h => h) (Or.inl ⟨by rfl, ?_⟩) hHeld ?_ ?_
            rotate_left
            ·rintro w' ⟨s0, s1, s2, s3, s4, s5, s6, s7, s8, s9⟩
             go_simp
             with_reducible rfl
            rotate_left
            ·simp only [Act.put, List.setIfInBounds_toArray, List.set_cons_zero, List.set_cons_succ, i64_w, i32_w]
             rfl
            refine take_ (i := 29) (N := some 378) (v := ?_) (a' := ?_) (fr_ [30, 39]) rfl rfl (take_ofW HT_.out HW_.out (by kernel_rfl)) (fun _ _ _ h => h) (Or.inl ⟨by rfl, ?_⟩) hHeld ?_ ?_
            rotate_left
            ·rintro w' ⟨s0, s1, s2, s3, s4, s5, s6, s7, s8, s9⟩
             go_simp
             with_reducible rfl
            rotate_left
            ·simp only [Act.put, List.setIfInBounds_toArray, List.set_cons_zero, List.set_cons_succ, i64_w, i32_w]
             rfl
            refine purS_ (i := 30) (N := some 379) (fl_ 69 31) HT_.out ?_
            refine purS_ (i := 31) (N := some 380) (fl_ 69 32) HT_.out ?_
            refine purS_ (i := 32) (N := some 381) (fl_ 69 33) HT_.out ?_
            refine purS_ (i := 33) (N := some 382) (fl_ 69 34) HT_.out ?_
            refine purS_ (i := 34) (N := some 383) (fl_ 69 35) HT_.out ?_
            refine purS_ (i := 35) (N := some 384) (fl_ 69 36) HT_.out ?_
            refine purS_ (i := 36) (N := some 385) (fl_ 69 37) HT_.out ?_
            refine purS_ (i := 37) (N := some 386) (fl_ 69 38) HT_.out ?_
            refine pure_ (i := 38) (N := some 387) (v := undef) (a' := ?_) (fl_ 69 39) rfl rfl (any_of HT_.out (by kernel_rfl)) (fun _ _ _ h => h) (Or.inr ⟨by rfl, rfl⟩) ?_ ?_
            rotate_left
            ·simp only [Act.put, List.setIfInBounds_toArray, List.set_cons_zero, List.set_cons_succ, i64_w, i32_w]
             rfl
            refine pure_ (i := 39) (N := some 388) (v := undef) (a' := ?_) (fl_ 69 40) rfl rfl (any_of HT_.out (by kernel_rfl)) (fun _ _ _ h => h) (Or.inr ⟨by rfl, rfl⟩) ?_ ?_
            rotate_left
            ·simp only [Act.put, List.setIfInBounds_toArray, List.set_cons_zero, List.set_cons_succ, i64_w, i32_w]
             rfl
            refine pure_ (i := 40) (N := some 389) (v := undef) (a' := ?_) (fl_ 69 41) rfl rfl (any_of HT_.out (by kernel_rfl)) (fun _ _ _ h => h) (Or.inr ⟨by rfl, rfl⟩) ?_ ?_
            rotate_left
            ·simp only [Act.put, List.setIfInBounds_toArray, List.set_cons_zero, List.set_cons_succ, i64_w, i32_w]
             rfl
            refine pure_ (i := 41) (N := some 390) (v := undef) (a' := ?_) (fl_ 69 42) rfl rfl (any_of HT_.out (by kernel_rfl)) (fun _ _ _ h => h) (Or.inr ⟨by rfl, rfl⟩) ?_ ?_
            rotate_left
            ·simp only [Act.put, List.setIfInBounds_toArray, List.set_cons_zero, List.set_cons_succ, i64_w, i32_w]
             rfl
            refine pure_ (i := 42) (N := some 391) (v := undef) (a' := ?_) (fl_ 69 43) rfl rfl (any_of HT_.out (by kernel_rfl)) (fun _ _ _ h => h) (Or.inr ⟨by rfl, rfl⟩) ?_ ?_
            rotate_left
            ·simp only [Act.put, List.setIfInBounds_toArray, List.set_cons_zero, List.set_cons_succ, i64_w, i32_w]
             rfl
            refine pure_ (i := 43) (N := some 392) (v := undef) (a' := ?_) (fl_ 69 44) rfl rfl (any_of HT_.out (by kernel_rfl)) (fun _ _ _ h => h) (Or.inr ⟨by rfl, rfl⟩) ?_ ?_
            rotate_left
            ·simp only [Act.put, List.setIfInBounds_toArray, List.set_cons_zero, List.set_cons_succ, i64_w, i32_w]
             rfl
            refine pure_ (i := 44) (N := some 393) (v := undef) (a' := ?_) (fl_ 69 45) rfl rfl (any_of HT_.out (by kernel_rfl)) (fun _ _ _ h => h) (Or.inr ⟨by rfl, rfl⟩) ?_ ?_
            rotate_left
            ·simp only [Act.put, List.setIfInBounds_toArray, List.set_cons_zero, List.set_cons_succ, i64_w, i32_w]
             rfl
            refine pure_ (i := 45) (N := some 394) (v := undef) (a' := ?_) (fl_ 69 46) rfl rfl (any_of HT_.out (by kernel_rfl)) (fun _ _ _ h => h) (Or.inr ⟨by rfl, rfl⟩) ?_ ?_
            rotate_left
            ·simp only [Act.put, List.setIfInBounds_toArray, List.set_cons_zero, List.set_cons_succ, i64_w, i32_w]
             rfl
            refine pure_ (i := 46) (N := some 395) (v := undef) (a' := ?_) (fl_ 69 47) rfl rfl (any_of HT_.out (by kernel_rfl)) (fun _ _ _ h => h) (Or.inr ⟨by rfl, rfl⟩) ?_ ?_
            rotate_left
            ·simp only [Act.put, List.setIfInBounds_toArray, List.set_cons_zero, List.set_cons_succ, i64_w, i32_w]
             rfl
            refine pure_ (i := 47) (N := some 396) (v := undef) (a' := ?_) (fl_ 69 48) rfl rfl (any_of HT_.out (by kernel_rfl)) (fun _ _ _ h => h) (Or.inr ⟨by rfl, rfl⟩) ?_ ?_
            rotate_left
            ·simp only [Act.put, List.setIfInBounds_toArray, List.set_cons_zero, List.set_cons_succ, i64_w, i32_w]
             rfl
            refine pure_ (i := 48) (N := some 397) (v := undef) (a' := ?_) (fl_ 69 49) rfl rfl (any_of HT_.out (by kernel_rfl)) (fun _ _ _ h => h) (Or.inr ⟨by rfl, rfl⟩) ?_ ?_
            rotate_left
            ·simp only [Act.put, List.setIfInBounds_toArray, List.set_cons_zero, List.set_cons_succ, i64_w, i32_w]
             rfl
            refine pure_ (i := 49) (N := some 398) (v := undef) (a' := ?_) (fl_ 69 50) rfl rfl (any_of HT_.out (by kernel_rfl)) (fun _ _ _ h => h) (Or.inr ⟨by rfl, rfl⟩) ?_ ?_
            rotate_left
            ·simp only [Act.put, List.setIfInBounds_toArray, List.set_cons_zero, List.set_cons_succ, i64_w, i32_w]
             rfl
            refine pure_ (i := 50) (N := some 399) (v := undef) (a' := ?_) (fl_ 69 51) rfl rfl (any_of HT_.out (by kernel_rfl)) (fun _ _ _ h => h) (Or.inr ⟨by rfl, rfl⟩) ?_ ?_
            rotate_left
            ·simp only [Act.put, List.setIfInBounds_toArray, List.set_cons_zero, List.set_cons_succ, i64_w, i32_w]
             rfl
            refine pure_ (i := 51) (N := some 400) (v := undef) (a' := ?_) (fl_ 69 52) rfl rfl (any_of HT_.out (by kernel_rfl)) (fun _ _ _ h => h) (Or.inr ⟨by rfl, rfl⟩) ?_ ?_
            rotate_left
            ·simp only [Act.put, List.setIfInBounds_toArray, List.set_cons_zero, List.set_cons_succ, i64_w, i32_w]
             rfl
            refine pure_ (i := 52) (N := some 401) (v := undef) (a' := ?_) (fl_ 69 53) rfl rfl (any_of HT_.out (by kernel_rfl)) (fun _ _ _ h => h) (Or.inr ⟨by rfl, rfl⟩) ?_ ?_
            rotate_left
            ·simp only [Act.put, List.setIfInBounds_toArray, List.set_cons_zero, List.set_cons_succ, i64_w, i32_w]
             rfl
            refine pure_ (i := 53) (N := some 402) (v := undef) (a' := ?_) (fl_ 69 54) rfl rfl (any_of HT_.out (by kernel_rfl)) (fun _ _ _ h => h) (Or.inr ⟨by rfl, rfl⟩) ?_ ?_
            rotate_left
            ·simp only [Act.put, List.setIfInBounds_toArray, List.set_cons_zero, List.set_cons_succ, i64_w, i32_w]
             rfl
            refine pure_ (i := 54) (N := some 403) (v := undef) (a' := ?_) (fl_ 69 55) rfl rfl (any_of HT_.out (by kernel_rfl)) (fun _ _ _ h => h) (Or.inr ⟨by rfl, rfl⟩) ?_ ?_
            rotate_left
            ·simp only [Act.put, List.setIfInBounds_toArray, List.set_cons_zero, List.set_cons_succ, i64_w, i32_w]
             rfl
            refine purS_ (i := 55) (N := some 404) (fl_ 69 56) HT_.out ?_
            refine purS_ (i := 56) (N := some 405) (fl_ 69 57) HT_.out ?_
            refine purS_ (i := 57) (N := some 406) (fl_ 69 58) HT_.out ?_
            refine purS_ (i := 58) (N := some 407) (fl_ 69 59) HT_.out ?_
            refine purS_ (i := 59) (N := some 408) (fl_ 69 60) HT_.out ?_
            refine purS_ (i := 60) (N := some 409) (fl_ 69 61) HT_.out ?_
            refine purS_ (i := 61) (N := some 410) (fl_ 69 62) HT_.out ?_
            refine purS_ (i := 62) (N := some 411) (fl_ 69 63) HT_.out ?_
            refine purS_ (i := 63) (N := some 412) (fl_ 69 64) HT_.out ?_
            refine purS_ (i := 64) (N := some 413) (fl_ 69 65) HT_.out ?_
            refine purS_ (i := 65) (N := some 414) (fl_ 69 66) HT_.out ?_
            refine purS_ (i := 66) (N := some 415) (fl_ 69 67) HT_.out ?_
            refine purS_ (i := 67) (N := some 416) (fl_ 69 68) HT_.out ?_
            refine purS_ (i := 68) (N := some 417) (fl_ 69 69) HT_.out ?_
            refine done_ (done_of HT_.out (by kernel_rfl)) ?_
            try go_wp2
            go_meet
            case rel => exact ⟨_, ((t436 != 1)), rt_, H', ⟨by have := HJ6.out; have := HJ23.out; have := HJ68.out; have := HK4.out; first | omega | exact Nat.le_refl _⟩, ⟨by (with_reducible repeat (first | apply Kd.S_alloc | apply Kd.S_drewN | apply Kd.S_drew)); exact HO_13.out⟩, ⟨blk_to BK434⟩, ⟨below_to1 HB GE434.out⟩⟩
           ·rw [if_neg c107] at H
            have c107b0 := beq_eq_false_iff_ne.mpr c107
            have c107b1 := bne_iff_ne.mpr c107
            exact absurd H (by rw [HR_.out]; cases k4 <;> simp [lw_.j4])
          ·replace c106 := Bool.eq_false_iff.mpr c106
           subst c106
           rw [if_neg (show ¬ (false = true) by decide)] at H
           exact absurd H (by rw [HR_.out]; cases k4 <;> simp [lw_.j4])
       ·rw [if_neg c98] at H
        exact absurd H (by simp)
      ·rw [if_neg c97] at H
       exact absurd H (by simp)
     ·replace c96 := Bool.eq_false_iff.mpr c96
      subst c96
      rw [if_neg (show ¬ (false = true) by decide)] at H
      exact absurd H (by rw [HR_.out]; cases k4 <;> simp [lw_.j4])
    ·rw [if_neg c94] at H
     exact absurd H (by simp)
   ·rw [if_neg c93] at H
    exact absurd H (by simp)
  ·rw [if_neg c92] at H
   exact absurd H (by simp)
end Go.Proofs.YtbhnpccbjgbcbaaGreatDoor.QT
