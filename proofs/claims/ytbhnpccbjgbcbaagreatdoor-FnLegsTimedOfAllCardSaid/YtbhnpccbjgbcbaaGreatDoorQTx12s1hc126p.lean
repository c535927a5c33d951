-- WRITTEN BY a program of this session (wip/xprint.py, over the kit's print): Lean checks it.
import Derived.Test.YtbhnpccbjgbcbaaGreatDoorQTx12d
import Derived.Test.YtbhnpccbjgbcbaaGreatDoorQTx12s1r
namespace Go.Proofs.YtbhnpccbjgbcbaaGreatDoor.QT
open Go.Proofs.YtbhnpccbjgbcbaaGreatDoor.X Go.RowKit Go.Proofs.YtbhnpccbjgbcbaaGreatDoorW.PrintWords Go.Proofs.YtbhnpccbjgbcbaaGreatDoorW.PrintLast Go.Proofs.YtbhnpccbjgbcbaaGreatDoorW.PrintMore
attribute [local go_sem] max2_int min2_int max_two min_two max_three min_three max_four min_four   -- for this text's walks alone
set_option linter.unusedVariables false
set_option linter.unusedSimpArgs false

set_option maxHeartbeats 16000000 in
set_option maxRecDepth 1000000 in
theorem lw_.halfc126p {V1 V2 V3 V4 V5 V6 V7 V8 V9 V10 V11 V12 V14 V15 V16 V17 V18 V19 V20 V21 V22 V23 V24 V25 V26 V27 V28 V29 V30 V31 V32 V33 V34 V35 V36 V37 V38 V39 V40 V44 V45 V46 V47 V54 V55 V56 V57 V58 V59 V60 V61 V62 V63 V64 V65 V66 V67 V68 V69 V70 V71 V72 V73 V74 V75 V76 V77 V78 V79 V80 V81 V82 V83 V84 V85 V86 V87 V88 V89 V90 V91 V92 V93 V94 V95 V96 V97 V98 V99 V100 V101 V102 V103 V104 V105 V106 V107 V108 V109 V110 V111 V112 V113 V114 V115 V116 V117 V118 V119 V120 V121 V122 V123 V124 V125 V126 V127 V128 V129 V130 V131 V132 V133 V134 V135 V136 V137 V138 V139 V140 V141 V142 V143 V144 V145 V146 V147 V148 V149 V150 V151 V152 V153 V154 V155 V156 V157 V158 V159 V160 V161 V162 V163 V164 V165 V166 V167 V168 V169 V170 V171 V172 V173 V174 V175 V176 V177 V178 V179 V180 V181 V182 V183 V184 V185 V186 V187 V188 V189 V190 V191 V192 V193 V194 V195 V196 V197 V198 V199 V200 V201 V202 V203 V204 V205 V206 V207 V208 V209 V210 V211 V212 V213 V214 V215 V216 V217 V218 V219 V220 V221 V222 V223 V224 V225 V226 V227 V228 V229 V230 V231 V232 V233 V234 V235 V236 V237 V238 V239 V240 V241 V242 V243 V244 V245 V246 V247 V248 V249 V250 V251 V252 V253 V254 V255 V256 V257 V258 V259 V260 V261 V262 V263 V264 V265 V266 V267 V268 V269 V270 V271 V272 V273 V274 V275 V276 V277 V278 V279 V280 V281 V282 V283 V284 V285 V286 V287 V288 V289 V290 V291 V292 V293 V294 V295 V296 V297 V298 V299 V300 V301 V302 V303 V304 V305 V306 V307 V308 V309 V310 V311 V312 V313 V314 V315 V316 V317 V318 V319 V320 V321 V322 V323 V324 V325 V326 V327 V328 V329 V330 V331 V332 V333 V335 V336 V337 V338 V339 V340 V341 V342 V343 V344 V345 V346 V347 V348 V349 V350 V351 V352 V353 V354 V355 V356 V357 V358 V359 V360 V361 V362 V363 V364 V365 V366 V367 V368 V369 V370 V371 V372 V373 V374 V375 V376 V377 V378 V379 V380 V381 V382 V383 V384 V385 V386 V387 V388 V389 V390 V391 V392 V393 V394 V395 V396 V397 V398 V399 V400 V401 V402 V403 V404 V405 V406 V407 V408 V409 V410 V411 V412 V413 V414 V415 V416 V417 V418 V419 V420 V421 V422 V423 V424 V425 V426 V427 V428 V429 V430 V431 V432 V496 V497 V498 V499 V500 V501 V502 V503 V504 V505 V506 V507 V508 V509 V510 V511 V512 V513 V514 V515 V516 V517 V518 V519 V520 V521 V522 V523 V524 V525 V526 V527 V528 V529 V530 V531 V532 V533 V534 V535 V536 V537 V538 V539 V540 V541 V542 V543 V544 V545 V546 V547 V548 V549 V550 V551 V552 V553 V554 V555 V556 V557 V558 V559 V560 V561 V562 V563 V564 V565 V566 V567 V568 V569 V570 V571 V572 V573 V574 V575 V576 V577 V578 V579 V580 V581 V582 V583 V584 V585 V586 V587 V588 V589 V590 V591 V592 V593 V594 V595 V596 V597 V598 V599 V600 V601 V602 V603 V604 V605 V606 V607 V608 V609 V610 V611 V612 V613 V614 V615 V616 V617 V618 V619 V620 V621 V622 V623 V624 V625 V626 V627 V628 V629 V630 V631 V632 V633 V634 V635 V636 V637 V638 V639 V640 V641 V642 V643 V644 V645 V646 V647 V648 V649 V650 V651 V652 V653 V654 V655 V656 V657 V658 V659 V660 V661 V662 V663 V664 V665 V666 V667 V668 V669 V670 V671 V672 V673 V674 V675 V676 V677 V678 V679 V680 V681 V682 V683 V684 V685 V686 V687 V688 V689 V690 V691 V692 V693 V694 V695 V696 V697 V698 V699 V700 V701 V702 V703 V704 V705 V706 V707 V708 V709 V710 V711 V712 V713 V714 V715 V716 V717 V718 V719 V720 V721 V722 V723 V724 V725 V726 V727 V728 V729 V730 V731 V732 V733 V734 V735 V736 V737 V738 V739 V740 V741 V742 V743 V744 V745 V746 V747 V748 V749 V750 V751 V752 V753 V754 V755 V756 V757 V758 V759 V760 V761 V762 V763 V764 V765 V766 V767 V768 V769 V770 V771 V772 V773 V774 V775 : Value} (Z6_ : Act → World → Prop) (Z7_ : Act → World → Prop) (Z12_ : Act → World → Prop) (Z97_ : Nat → Act → World → Prop) (Z98_ : Act → World → Prop) (Z102_ : Act → World → Prop) (k c0 : Nat) (l0 : List S37) (l1 : List S37) (a2 a3 : Int) (l4 : List Int) (a5 : ByteArray) (r : Bool) (w : World) (HR_ : Aside0 (r = Bool.true)) (hu37 : Program.underlying Tryz.prog (37 : Nat) = Option.some (TypeDesc.struct #[Field.mk "Long" (3 : Nat) (0 : Nat) Bool.false "" "" (0 : Nat), Field.mk "Fast" (3 : Nat) (1 : Nat) Bool.false "" "" (8 : Nat)])) (HC0 : Aside0 (List.length l0 ≤ c0)) (kj6 : Nat) (HJ6 : Aside0 (kj6 + (1 : Nat) ≤ k)) (t391 : List (List Int)) (t405 t415 : Int) (t419 : ByteArray) (v393 : Value) (kj23 : Nat) (HJ23 : Aside0 (kj23 + (1 : Nat) ≤ kj6)) (kj68 : Nat) (HJ68 : Aside0 (kj68 + (1 : Nat) ≤ kj23)) (wr : World) (u12 u43 u44 u45 u46 u47 u48 u49 u50 u51 u52 u53 u335 u336 u337 u338 u339 u340 u341 u342 u343 u344 u345 u346 u347 u348 u417 u433 u434 u435 u436 u437 u438 u439 u440 u441 u442 u443 u444 u445 u446 u447 u448 u449 u450 u451 u452 u453 u454 u455 u456 u457 u458 u459 u460 u461 u462 u463 u464 u465 u466 u467 u468 u469 u470 u471 u472 u473 u474 u475 u476 u477 u478 u479 u480 u481 u482 u483 u484 u485 u486 u487 u488 u489 u490 u491 u492 u493 u494 u495 : Value) (x42_4 x334_4 : Int) (k4 : Nat) (HK4 : Aside0 (k4 + (1 : Nat) ≤ kj68)) (c84b0 : Decidable.decide (x334_4 < (↑(List.length l0) : Int)) = Bool.true) (c85b0 : Decidable.decide ((0 : Int) ≤ x334_4) = Bool.true) (c86b0 : Decidable.decide (x334_4 < (↑(List.length l0) : Int)) = Bool.true) (ad433 : Addr) (HR0 : Aside0 (Kd.C k37 w (Option.some ad433) (List.length l0) l0)) (hx433_0 : World.cell? wr (Addr.add ad433 (Int.toNat x334_4 * (2 : Nat))) = Option.some (Value.int IntKind.i64 (S37.f0 (rd_T37 l0 x334_4)))) (hx433_1 : World.cell? wr (Addr.mk (Addr.block (Addr.add ad433 (Int.toNat x334_4 * (2 : Nat)))) (Addr.off (Addr.add ad433 (Int.toNat x334_4 * (2 : Nat))) + (1 : Nat)) Option.none) = Option.some (Value.int IntKind.i64 (S37.f1 (rd_T37 l0 x334_4)))) (p433 : ((0 : Int) ≤ x334_4) = True) (q433 : (x334_4 < (↑(List.length l0) : Int)) = True) (gb434 : Nat) (w89 : World) (GW434 GE434 : Aside0 (Array.size (World.heap w) ≤ gb434)) (hcz90_0 : World.cell? w89 (Addr.mk gb434 (0 : Nat) Option.none) = Option.some (Value.int IntKind.i64 (0 : Int))) (hcz90_1 : World.cell? w89 (Addr.mk gb434 (1 : Nat) Option.none) = Option.some (Value.int IntKind.i64 (0 : Int))) (hfz90_0 : World.frozen? w89 (Addr.mk gb434 (0 : Nat) Option.none) = Bool.false) (hfz90_1 : World.frozen? w89 (Addr.mk gb434 (1 : Nat) Option.none) = Bool.false) (u349 u350 u351 u352 u353 u354 u355 u356 u357 u358 u359 u360 u361 u362 u363 u364 u365 u366 u367 u368 u369 u370 u371 u372 u373 u374 u375 u376 u377 u378 u379 u380 u381 u382 u383 u384 u385 u386 u387 u388 u389 u390 u391 u392 u393 u394 u395 u396 u397 u398 u399 u400 u401 u402 u403 u404 u405 u406 u407 u408 u409 u410 u411 u412 u413 u414 u415 u416 : Value) (kj87 : Nat) (HJ87 : Aside0 (kj87 + (1 : Nat) ≤ k4)) (wc : World) (u418 u419 u420 u421 u422 u423 u424 u425 u426 u427 u428 u429 u430 u431 u432 : Value) (HO_13 : Aside0 (Kd.S (Kd.slice (3 : Nat) (Kd.int IntKind.i64)) (23 : Nat) wc (Array.size (World.heap w)) (fun x => True) v393 t391)) (BK434 : Aside0 ((World.heap wc)[gb434]? = Option.some (Obj.cells #[Value.int IntKind.i64 (S37.f0 (rd_T37 l0 x334_4)), Value.int IntKind.i64 (S37.f1 (rd_T37 l0 x334_4))] (37 : TypeId)))) (HB : Aside0 (Below (Array.size (World.heap w)) w wc)) (kj110 : Nat) (HJ110 : Aside0 (kj110 + (1 : Nat) ≤ kj87)) (c120b0 : Decidable.decide ((0 : Int) ≤ x334_4) = Bool.true) (c121b0 : Decidable.decide (x334_4 < (↑(List.length t391) : Int)) = Bool.true) (c122b0 : Decidable.decide ((0 : Int) < (↑(List.length (rd_L2 t391 x334_4)) : Int)) = Bool.true) (c122b1 : Decidable.decide ((0 : Nat) < List.length (rd_L2 t391 x334_4)) = Bool.true) (c123b0 : Decidable.decide ((1 : Int) < (↑(List.length (rd_L2 t391 x334_4)) : Int)) = Bool.true) (c123b1 : Decidable.decide ((1 : Nat) < List.length (rd_L2 t391 x334_4)) = Bool.true) (t455 t456 : Int) (t457 : Bool) (A124 : Aside0 (impl_PlaceOnLegs.f kj110 l0 (rd (rd_L2 t391 x334_4) (0 : Int)) (rd (rd_L2 t391 x334_4) (1 : Int)) = Option.some (t455, t456, t457))) (t462 : Int) (t463 : Bool) (H : (if wrap64 (x334_4 + (1 : Int)) = (↑(List.length l0) : Int) then if t457 = Bool.true then if t455 = wrap64 (x42_4 + S37.f0 (rd_T37 l0 x334_4)) then if t456 = (1 : Int) then if t463 = Bool.true then if t462 = x334_4 then lw_.l0 kj110 l0 l1 a2 a3 l4 a5 t391 t405 t415 t419 (↑(List.length l0) : Int) (wrap64 (x42_4 + S37.f0 (rd_T37 l0 x334_4))) l0 (↑(List.length l0) : Int) (wrap64 (x334_4 + (1 : Int))) else Option.some Bool.false else Option.some Bool.false else Option.some Bool.false else Option.some Bool.false else Option.some Bool.false else if t457 = Bool.true then if t455 = wrap64 (x42_4 + S37.f0 (rd_T37 l0 x334_4)) then if t456 = (1 : Int) then if t463 = Bool.true then if t462 = wrap64 (x334_4 + (1 : Int)) then lw_.l0 kj110 l0 l1 a2 a3 l4 a5 t391 t405 t415 t419 (↑(List.length l0) : Int) (wrap64 (x42_4 + S37.f0 (rd_T37 l0 x334_4))) l0 (↑(List.length l0) : Int) (wrap64 (x334_4 + (1 : Int))) else Option.some Bool.false else Option.some Bool.false else Option.some Bool.false else Option.some Bool.false else Option.some Bool.false) = Option.some r) (A125 : Aside0 (impl_LegAt.f kj110 l0 (rd (rd_L2 t391 x334_4) (0 : Int)) (rd (rd_L2 t391 x334_4) (1 : Int)) = Option.some (t462, t463))) (c126 : wrap64 (x334_4 + (1 : Int)) = (↑(List.length l0) : Int)) (Z8_ : ∀ (a' : Act) (w' : World), Met Z6_ a' w' → Z7_ a' w') (Z99_ : ∀ (a' : Act) (w' : World), Handed Z97_ (k4 + (1 : Nat)) a' w' → Z98_ a' w') (Z101_ : ∀ (k : Nat) (a' : Act) (w' : World), (∃ u12 u42 u43 u44 u45 u46 u47 u48 u49 u50 u51 u52 u53 u334 u335 u336 u337 u338 u339 u340 u341 u342 u343 u344 u345 u346 u347 u348 u349 u350 u351 u352 u353 u354 u355 u356 u357 u358 u359 u360 u361 u362 u363 u364 u365 u366 u367 u368 u369 u370 u371 u372 u373 u374 u375 u376 u377 u378 u379 u380 u381 u382 u383 u384 u385 u386 u387 u388 u389 u390 u391 u392 u393 u394 u395 u396 u397 u398 u399 u400 u401 u402 u403 u404 u405 u406 u407 u408 u409 u410 u411 u412 u413 u414 u415 u416 u417 u418 u419 u420 u421 u422 u423 u424 u425 u426 u427 u428 u429 u430 u431 u432 u433 u434 u435 u436 u437 u438 u439 u440 u441 u442 u443 u444 u445 u446 u447 u448 u449 u450 u451 u452 u453 u454 u455 u456 u457 u458 u459 u460 u461 u462 u463 u464 u465 u466 u467 u468 u469 u470 u471 u472 u473 u474 u475 u476 u477 u478 u479 u480 u481 u482 u483 u484 u485 u486 u487 u488 u489 u490 u491 u492 u493 u494 u495, (∃ x42_4 x334_4, u42 = Value.int IntKind.i64 x42_4 ∧ u334 = Value.int IntKind.i64 x334_4 ∧ Aside0 (lw_.l0 k l0 l1 a2 a3 l4 a5 t391 t405 t415 t419 (↑(List.length l0) : Int) x42_4 l0 (↑(List.length l0) : Int) x334_4 = Option.some r) ∧ Aside0 (k ≤ kj68) ∧ Aside0 (Kd.S (Kd.slice (3 : Nat) (Kd.int IntKind.i64)) (23 : Nat) w' (Array.size (World.heap w)) (fun x => True) v393 t391) ∧ Aside0 (Below (Array.size (World.heap w)) w w')) ∧ a' = Act.mk #[Value.slice (Option.some ad433) (List.length l0) c0, V1, V2, V3, V4, V5, V6, V7, V8, V9, V10, V11, u12, v393, V14, V15, V16, V17, V18, V19, V20, V21, V22, V23, V24, V25, V26, V27, V28, V29, V30, V31, V32, V33, V34, V35, V36, V37, V38, V39, V40, Value.int IntKind.i64 (↑(List.length l0) : Int), u42, u43, u44, u45, u46, u47, u48, u49, u50, u51, u52, u53, V54, V55, V56, V57, V58, V59, V60, V61, V62, V63, V64, V65, V66, V67, V68, V69, V70, V71, V72, V73, V74, V75, V76, V77, V78, V79, V80, V81, V82, V83, V84, V85, V86, V87, V88, V89, V90, V91, V92, V93, V94, V95, V96, V97, V98, V99, V100, V101, V102, V103, V104, V105, V106, V107, V108, V109, V110, V111, V112, V113, V114, V115, V116, V117, V118, V119, V120, V121, V122, V123, V124, V125, V126, V127, V128, V129, V130, V131, V132, V133, V134, V135, V136, V137, V138, V139, V140, V141, V142, V143, V144, V145, V146, V147, V148, V149, V150, V151, V152, V153, V154, V155, V156, V157, V158, V159, V160, V161, V162, V163, V164, V165, V166, V167, V168, V169, V170, V171, V172, V173, V174, V175, V176, V177, V178, V179, V180, V181, V182, V183, V184, V185, V186, V187, V188, V189, V190, V191, V192, V193, V194, V195, V196, V197, V198, V199, V200, V201, V202, V203, V204, V205, V206, V207, V208, V209, V210, V211, V212, V213, V214, V215, V216, V217, V218, V219, V220, V221, V222, V223, V224, V225, V226, V227, V228, V229, V230, V231, V232, V233, V234, V235, V236, V237, V238, V239, V240, V241, V242, V243, V244, V245, V246, V247, V248, V249, V250, V251, V252, V253, V254, V255, V256, V257, V258, V259, V260, V261, V262, V263, V264, V265, V266, V267, V268, V269, V270, V271, V272, V273, V274, V275, V276, V277, V278, V279, V280, V281, V282, V283, V284, V285, V286, V287, V288, V289, V290, V291, V292, V293, V294, V295, V296, V297, V298, V299, V300, V301, V302, V303, V304, V305, V306, V307, V308, V309, V310, V311, V312, V313, V314, V315, V316, V317, V318, V319, V320, V321, V322, V323, V324, V325, V326, V327, V328, V329, V330, V331, V332, V333, u334, u335, u336, u337, u338, u339, u340, u341, u342, u343, u344, u345, u346, u347, u348, u349, u350, u351, u352, u353, u354, u355, u356, u357, u358, u359, u360, u361, u362, u363, u364, u365, u366, u367, u368, u369, u370, u371, u372, u373, u374, u375, u376, u377, u378, u379, u380, u381, u382, u383, u384, u385, u386, u387, u388, u389, u390, u391, u392, u393, u394, u395, u396, u397, u398, u399, u400, u401, u402, u403, u404, u405, u406, u407, u408, u409, u410, u411, u412, u413, u414, u415, u416, u417, u418, u419, u420, u421, u422, u423, u424, u425, u426, u427, u428, u429, u430, u431, u432, u433, u434, u435, u436, u437, u438, u439, u440, u441, u442, u443, u444, u445, u446, u447, u448, u449, u450, u451, u452, u453, u454, u455, u456, u457, u458, u459, u460, u461, u462, u463, u464, u465, u466, u467, u468, u469, u470, u471, u472, u473, u474, u475, u476, u477, u478, u479, u480, u481, u482, u483, u484, u485, u486, u487, u488, u489, u490, u491, u492, u493, u494, u495, V496, V497, V498, V499, V500, V501, V502, V503, V504, V505, V506, V507, V508, V509, V510, V511, V512, V513, V514, V515, V516, V517, V518, V519, V520, V521, V522, V523, V524, V525, V526, V527, V528, V529, V530, V531, V532, V533, V534, V535, V536, V537, V538, V539, V540, V541, V542, V543, V544, V545, V546, V547, V548, V549, V550, V551, V552, V553, V554, V555, V556, V557, V558, V559, V560, V561, V562, V563, V564, V565, V566, V567, V568, V569, V570, V571, V572, V573, V574, V575, V576, V577, V578, V579, V580, V581, V582, V583, V584, V585, V586, V587, V588, V589, V590, V591, V592, V593, V594, V595, V596, V597, V598, V599, V600, V601, V602, V603, V604, V605, V606, V607, V608, V609, V610, V611, V612, V613, V614, V615, V616, V617, V618, V619, V620, V621, V622, V623, V624, V625, V626, V627, V628, V629, V630, V631, V632, V633, V634, V635, V636, V637, V638, V639, V640, V641, V642, V643, V644, V645, V646, V647, V648, V649, V650, V651, V652, V653, V654, V655, V656, V657, V658, V659, V660, V661, V662, V663, V664, V665, V666, V667, V668, V669, V670, V671, V672, V673, V674, V675, V676, V677, V678, V679, V680, V681, V682, V683, V684, V685, V686, V687, V688, V689, V690, V691, V692, V693, V694, V695, V696, V697, V698, V699, V700, V701, V702, V703, V704, V705, V706, V707, V708, V709, V710, V711, V712, V713, V714, V715, V716, V717, V718, V719, V720, V721, V722, V723, V724, V725, V726, V727, V728, V729, V730, V731, V732, V733, V734, V735, V736, V737, V738, V739, V740, V741, V742, V743, V744, V745, V746, V747, V748, V749, V750, V751, V752, V753, V754, V755, V756, V757, V758, V759, V760, V761, V762, V763, V764, V765, V766, V767, V768, V769, V770, V771, V772, V773, V774, V775] []) → Z97_ k a' w') (Z103_ : ∀ (a_ : Act) (w_ : World), Code.wp Tryz.prog (Code.region (37 : Nat) #[Oper.mk (Option.some (495 : Nat)) (Op.binOp BinOp.add (3 : Nat) (Operand.tmp (334 : Nat)) (Operand.const (Value.int IntKind.i64 (1 : Int))) (3 : Nat)) (3 : Nat) "laws.go:2864" #[] Option.none, Oper.mk (Option.some (334 : Nat)) (Op.move (Operand.tmp (495 : Nat))) (3 : Nat) "laws.go:2864" #[Edge.mk (0 : Nat) Ground.data] Option.none] Bool.false) (Exit.then Z98_ (Exit.inBlock (0 : Nat) (Exit.then Z12_ (Exit.then Z7_ (bodyPost Tryz.prog Tryz.f3 fun e w' => e = Ending.returned (Value.bool r) ∧ Below (Array.size (World.heap w)) w w'))))) a_ w_ → Z102_ a_ w_) :
    Code.wp Tryz.prog ((lw_.cnd 433 lw_.body).getD .skip) (Exit.inBlock (1 : Nat) (Exit.then Z102_ (Exit.then Z98_ (Exit.inBlock (0 : Nat) (Exit.then Z12_ (Exit.then Z7_ (bodyPost Tryz.prog Tryz.f3 fun e w' => e = Ending.returned (Value.bool r) ∧ Below (Array.size (World.heap w)) w w'))))))) (Act.mk #[Value.slice (Option.some ad433) (List.length l0) c0, V1, V2, V3, V4, V5, V6, V7, V8, V9, V10, V11, V12, v393, V14, V15, V16, V17, V18, V19, V20, V21, V22, V23, V24, V25, V26, V27, V28, V29, V30, V31, V32, V33, V34, V35, V36, V37, V38, V39, V40, Value.int IntKind.i64 (↑(List.length l0) : Int), Value.int IntKind.i64 (wrap64 (x42_4 + S37.f0 (rd_T37 l0 x334_4))), Value.int IntKind.i64 x334_4, V44, V45, V46, V47, u48, u49, u50, u51, u52, u53, V54, V55, V56, V57, V58, V59, V60, V61, V62, V63, V64, V65, V66, V67, V68, V69, V70, V71, V72, V73, V74, V75, V76, V77, V78, V79, V80, V81, V82, V83, V84, V85, V86, V87, V88, V89, V90, V91, V92, V93, V94, V95, V96, V97, V98, V99, V100, V101, V102, V103, V104, V105, V106, V107, V108, V109, V110, V111, V112, V113, V114, V115, V116, V117, V118, V119, V120, V121, V122, V123, V124, V125, V126, V127, V128, V129, V130, V131, V132, V133, V134, V135, V136, V137, V138, V139, V140, V141, V142, V143, V144, V145, V146, V147, V148, V149, V150, V151, V152, V153, V154, V155, V156, V157, V158, V159, V160, V161, V162, V163, V164, V165, V166, V167, V168, V169, V170, V171, V172, V173, V174, V175, V176, V177, V178, V179, V180, V181, V182, V183, V184, V185, V186, V187, V188, V189, V190, V191, V192, V193, V194, V195, V196, V197, V198, V199, V200, V201, V202, V203, V204, V205, V206, V207, V208, V209, V210, V211, V212, V213, V214, V215, V216, V217, V218, V219, V220, V221, V222, V223, V224, V225, V226, V227, V228, V229, V230, V231, V232, V233, V234, V235, V236, V237, V238, V239, V240, V241, V242, V243, V244, V245, V246, V247, V248, V249, V250, V251, V252, V253, V254, V255, V256, V257, V258, V259, V260, V261, V262, V263, V264, V265, V266, V267, V268, V269, V270, V271, V272, V273, V274, V275, V276, V277, V278, V279, V280, V281, V282, V283, V284, V285, V286, V287, V288, V289, V290, V291, V292, V293, V294, V295, V296, V297, V298, V299, V300, V301, V302, V303, V304, V305, V306, V307, V308, V309, V310, V311, V312, V313, V314, V315, V316, V317, V318, V319, V320, V321, V322, V323, V324, V325, V326, V327, V328, V329, V330, V331, V332, V333, Value.int IntKind.i64 x334_4, V335, V336, V337, V338, V339, V340, V341, V342, V343, V344, V345, V346, V347, V348, V349, V350, V351, V352, V353, V354, V355, V356, V357, V358, V359, V360, V361, V362, V363, V364, V365, V366, V367, V368, V369, V370, V371, V372, V373, V374, V375, V376, V377, V378, V379, V380, V381, V382, V383, V384, V385, V386, V387, V388, V389, V390, V391, V392, V393, V394, V395, V396, V397, V398, V399, V400, V401, V402, V403, V404, V405, V406, V407, V408, V409, V410, V411, V412, V413, V414, V415, V416, V417, V418, V419, V420, V421, V422, V423, V424, V425, V426, V427, V428, V429, V430, V431, V432, Value.bool Bool.true, u434, u435, u436, u437, u438, u439, u440, u441, u442, u443, u444, u445, u446, u447, u448, u449, u450, u451, u452, u453, u454, u455, u456, u457, u458, u459, u460, u461, u462, u463, u464, u465, u466, u467, u468, u469, u470, u471, u472, u473, u474, u475, u476, u477, u478, u479, u480, u481, u482, u483, u484, u485, u486, u487, u488, u489, u490, u491, u492, u493, u494, u495, V496, V497, V498, V499, V500, V501, V502, V503, V504, V505, V506, V507, V508, V509, V510, V511, V512, V513, V514, V515, V516, V517, V518, V519, V520, V521, V522, V523, V524, V525, V526, V527, V528, V529, V530, V531, V532, V533, V534, V535, V536, V537, V538, V539, V540, V541, V542, V543, V544, V545, V546, V547, V548, V549, V550, V551, V552, V553, V554, V555, V556, V557, V558, V559, V560, V561, V562, V563, V564, V565, V566, V567, V568, V569, V570, V571, V572, V573, V574, V575, V576, V577, V578, V579, V580, V581, V582, V583, V584, V585, V586, V587, V588, V589, V590, V591, V592, V593, V594, V595, V596, V597, V598, V599, V600, V601, V602, V603, V604, V605, V606, V607, V608, V609, V610, V611, V612, V613, V614, V615, V616, V617, V618, V619, V620, V621, V622, V623, V624, V625, V626, V627, V628, V629, V630, V631, V632, V633, V634, V635, V636, V637, V638, V639, V640, V641, V642, V643, V644, V645, V646, V647, V648, V649, V650, V651, V652, V653, V654, V655, V656, V657, V658, V659, V660, V661, V662, V663, V664, V665, V666, V667, V668, V669, V670, V671, V672, V673, V674, V675, V676, V677, V678, V679, V680, V681, V682, V683, V684, V685, V686, V687, V688, V689, V690, V691, V692, V693, V694, V695, V696, V697, V698, V699, V700, V701, V702, V703, V704, V705, V706, V707, V708, V709, V710, V711, V712, V713, V714, V715, V716, V717, V718, V719, V720, V721, V722, V723, V724, V725, V726, V727, V728, V729, V730, V731, V732, V733, V734, V735, V736, V737, V738, V739, V740, V741, V742, V743, V744, V745, V746, V747, V748, V749, V750, V751, V752, V753, V754, V755, V756, V757, V758, V759, V760, V761, V762, V763, V764, V765, V766, V767, V768, V769, V770, V771, V772, V773, V774, V775] []) wc := by
  conv => arg 2; whnf
  (try conv => arg 4; dsimp only)
  rw [if_pos c126] at H
  have c126b0 := beq_iff_eq.mpr c126
  have c126b1 := bne_eq_false_iff_eq.mpr c126
  clear c126
  by_cases c127 : t457 = true
  ·subst c127
   rw [if_pos rfl] at H
   by_cases c128 : t455 = (wrap64 (x42_4 + ((rd_T37 l0 x334_4).f0)))
   ·rw [if_pos c128] at H
    have c128b0 := beq_iff_eq.mpr c128
    have c128b1 := bne_eq_false_iff_eq.mpr c128
    clear c128
    by_cases c129 : t456 = 1
    ·rw [if_pos c129] at H
     have c129b0 := beq_iff_eq.mpr c129
     have c129b1 := bne_eq_false_iff_eq.mpr c129
     clear c129
     by_cases c130 : t463 = true
     ·subst c130
      rw [if_pos rfl] at H
      by_cases c131 : t462 = x334_4
      ·rw [if_pos c131] at H
       have c131b0 := beq_iff_eq.mpr c131
       have c131b1 := bne_eq_false_iff_eq.mpr c131
       clear c131
       have H' := Aside0.mk H
       clear H
       try go_wp2
       have n0_ := Aside0.mk (Kd.S_drew HO_13.out)
       have n1_ := Aside0.mk (blk_drew BK434.out)
       have n2_ := Aside0.mk (below_drew1 HB.out)
       clear HO_13
       clear BK434
       clear HB
       have HO_13 := n0_
       have BK434 := n1_
       have HB := n2_
       clear n0_ n1_ n2_
       obtain ⟨Ao133, co133, eo133⟩ := Kd.S_slice HO_13.out
       (first | subst eo133 | (injection eo133 with f1_ f2_ f3_; have f4_ := f1_.symm; have f5_ := f3_.symm; clear f1_ f2_ f3_; subst f4_; subst f5_))
       have p451 : 0 ≤ (x334_4 : Int) := odt_
       have q451 : x334_4 < (t391.length : Int) := odt_
       obtain ⟨ad451, A451_0, c451_0, e451, hx451_0, hl451_0, hi451_0⟩ := at_L2 (Kd.S_reads' HO_13.out).2.2 x334_4 p451 q451
       cases e451
       obtain ⟨ce451, hce451, hMe451, hcc451⟩ := Kd.S_get HO_13.out [] x334_4 p451 (by first | exact q451 | exact of_decide_eq_true (by first | (with_reducible assumption) | assumption) | (have e_ := (Kd.S_reads' HO_13.out).1; omega))
       obtain ⟨ve451_0, rfl, ge451_0⟩ := hMe451
       have hv451_0 := hcc451 0 _ rfl
       rw [Nat.add_zero, show ((Kd.slice 3 (Kd.int .i64))).sz = 1 from rfl, Nat.mul_one] at hv451_0
       replace hv451_0 := Option.some.inj (hv451_0.symm.trans hx451_0)
       rw [hv451_0] at ge451_0
       have HL451_0 := Aside0.mk (show Kd.R (Kd.int .i64) 3 _ _ _ _ (rd_L2 t391 x334_4) from ge451_0)
       clear hv451_0 ge451_0
       clear hcc451 hce451
       have HR451_0 := Aside0.mk hi451_0
       have HC451_0 := Aside0.mk hl451_0
       clear hi451_0 hl451_0
       replace p451 := eq_true p451
       replace q451 := eq_true q451
       have p452 : 0 ≤ (0 : Int) := (by omega)
       have q452 : 0 < ((rd_L2 t391 x334_4).length : Int) := odt_
       obtain ⟨ad452, e452, hx452_0⟩ := Kd.at_int (by repeat (first | (with_reducible exact HR451_0.out) | (with_reducible refine Kd.C_alloc ?_ _) | (with_reducible refine Kd.C_drewN ?_ _) | (with_reducible refine Kd.C_drew ?_) | exact HR451_0.out)) 0 p452 q452
       cases e452
       have qi452 : (0 < (rd_L2 t391 x334_4).length) = True := eq_true (by omega)
       (try rw [show ((0 : Int)).toNat = 0 from rfl] at hx452_0)
       (try rw [Addr.add_zero'] at hx452_0)
       replace p452 := eq_true p452
       replace q452 := eq_true q452
       have p453 : 0 ≤ (x334_4 : Int) := odt_
       have q453 : x334_4 < (t391.length : Int) := odt_
       obtain ⟨ad453, A453_0, c453_0, e453, hx453_0, hl453_0, hi453_0⟩ := at_L2 (Kd.S_reads' HO_13.out).2.2 x334_4 p453 q453
       obtain rfl : ad451 = ad453 := (by injection e453)
       obtain ⟨ce453, hce453, hMe453, hcc453⟩ := Kd.S_get HO_13.out [] x334_4 p453 (by first | exact q453 | exact of_decide_eq_true (by first | (with_reducible assumption) | assumption) | (have e_ := (Kd.S_reads' HO_13.out).1; omega))
       obtain ⟨ve453_0, rfl, ge453_0⟩ := hMe453
       have hv453_0 := hcc453 0 _ rfl
       rw [Nat.add_zero, show ((Kd.slice 3 (Kd.int .i64))).sz = 1 from rfl, Nat.mul_one] at hv453_0
       replace hv453_0 := Option.some.inj (hv453_0.symm.trans hx453_0)
       rw [hv453_0] at ge453_0
       have HL453_0 := Aside0.mk (show Kd.R (Kd.int .i64) 3 _ _ _ _ (rd_L2 t391 x334_4) from ge453_0)
       clear hv453_0 ge453_0
       clear hcc453 hce453
       have HR453_0 := Aside0.mk hi453_0
       have HC453_0 := Aside0.mk hl453_0
       clear hi453_0 hl453_0
       replace p453 := eq_true p453
       replace q453 := eq_true q453
       have ea_ := Option.some.inj (hx451_0.symm.trans hx453_0)
       injection ea_ with ea_ en_ ec_
       subst ea_
       subst ec_
       clear en_
       have p454 : 0 ≤ (1 : Int) := (by omega)
       have q454 : 1 < ((rd_L2 t391 x334_4).length : Int) := odt_
       obtain ⟨ad454, e454, hx454_0⟩ := Kd.at_int (by repeat (first | (with_reducible exact HR453_0.out) | (with_reducible refine Kd.C_alloc ?_ _) | (with_reducible refine Kd.C_drewN ?_ _) | (with_reducible refine Kd.C_drew ?_) | exact HR453_0.out)) 1 p454 q454
       cases e454
       (try simp only [show (1 : Int).toNat = 1 from rfl, Nat.reduceMul, Nat.reduceEqDiff, Go.Addr.add, ↓reduceIte] at hx454_0)
       have qi454 : (1 < (rd_L2 t391 x334_4).length) = True := eq_true (by omega)
       (try rw [show ((1 : Int)).toNat = 1 from rfl] at hx454_0)
       replace p454 := eq_true p454
       replace q454 := eq_true q454
       refine start_ (n := 21) (S := fun w' => w'.cell? (ad451.add (x334_4).toNat) = some (.slice (some ad452) (rd_L2 t391 x334_4).length c451_0) ∧ w'.cell? ad452 = some (.int .i64 (rd (rd_L2 t391 x334_4) 0)) ∧ w'.cell? (ad451.add (x334_4).toNat) = some (.slice (some ad452) (rd_L2 t391 x334_4).length c451_0) ∧ w'.cell? ⟨ad452.block, ad452.off + 1, none⟩ = some (.int .i64 (rd (rd_L2 t391 x334_4) 1))) (ds := []) (fr_ [0, 21]) (by kernel_rfl) rfl rfl ⟨hx451_0, hx452_0, hx453_0, hx454_0⟩ (fun hHeld => ?_); refine with_tabW lw_.tab30 lw_.bits30 (fun HT_ HW_ => ?_)
       generalize wc.drew = w132 at HO_13 BK434 HB HL451_0 HL453_0 HR451_0 HR453_0 hx451_0 hx452_0 hx453_0 hx454_0 hHeld ⊢
       refine purS_ (i := 0) (N := some 435) (fl_ 21 1) HT_.out ?_
       refine purS_ (i := 1) (N := some 436) (fl_ 21 2) HT_.out ?_
       refine purS_ (i := 2) (N := some 437) (fl_ 21 3) HT_.out ?_
       refine purS_ (i := 3) (N := some 438) (fl_ 21 4) HT_.out ?_
       refine purS_ (i := 7) (N := some 442) (fr_ [4, 3, 1, 13]) HT_.out ?_
       refine purS_ (i := 8) (N := some 443) (fr_ [4, 3, 2, 12]) HT_.out ?_
       refine purS_ (i := 9) (N := some 444) (fr_ [4, 3, 3, 11]) HT_.out ?_
       refine take_ (i := 4) (N := some 439) (v := ?_) (a' := ?_) (fr_ [5, 2, 3, 11]) rfl rfl (take_ofW HT_.out HW_.out (by kernel_rfl)) (fun _ _ _ h => h) (Or.inl ⟨by rfl, ?_⟩) hHeld ?_ ?_
       rotate_left
       ·rintro w' ⟨s0, s1, s2, s3⟩
        go_simp
        with_reducible rfl
       rotate_left
       ·simp only [Act.put, List.setIfInBounds_toArray, List.set_cons_zero, List.set_cons_succ, i64_w, i32_w]
        rfl
       refine purS_ (i := 5) (N := some 440) (fr_ [6, 1, 3, 11]) HT_.out ?_
       refine take_ (i := 6) (N := some 441) (v := ?_) (a' := ?_) (fr_ [10, 11]) rfl rfl (take_ofW HT_.out HW_.out (by kernel_rfl)) (fun _ _ _ h => h) (Or.inl ⟨by rfl, ?_⟩) hHeld ?_ ?_
       rotate_left
       ·rintro w' ⟨s0, s1, s2, s3⟩
        go_simp
        with_reducible rfl
       rotate_left
       ·simp only [Act.put, List.setIfInBounds_toArray, List.set_cons_zero, List.set_cons_succ, i64_w, i32_w]
        rfl
       refine take_ (i := 10) (N := some 445) (v := ?_) (a' := ?_) (fr_ [11, 10]) rfl rfl (take_ofW HT_.out HW_.out (by kernel_rfl)) (fun _ _ _ h => h) (Or.inl ⟨by rfl, ?_⟩) hHeld ?_ ?_
       rotate_left
       ·rintro w' ⟨s0, s1, s2, s3⟩
        go_simp
        with_reducible rfl
       rotate_left
       ·simp only [Act.put, List.setIfInBounds_toArray, List.set_cons_zero, List.set_cons_succ, i64_w, i32_w]
        rfl
       refine purS_ (i := 11) (N := some 446) (fl_ 21 12) HT_.out ?_
       refine take_ (i := 12) (N := some 447) (v := ?_) (a' := ?_) (fr_ [13, 8]) rfl rfl (take_ofW HT_.out HW_.out (by kernel_rfl)) (fun _ _ _ h => h) (Or.inl ⟨by rfl, ?_⟩) hHeld ?_ ?_
       rotate_left
       ·rintro w' ⟨s0, s1, s2, s3⟩
        go_simp
        with_reducible rfl
       rotate_left
       ·simp only [Act.put, List.setIfInBounds_toArray, List.set_cons_zero, List.set_cons_succ, i64_w, i32_w]
        rfl
       refine one_ (i := 13) (N := some 448) (fr_ [14, 7]) rfl rfl (one_of HT_.out (by kernel_rfl)) (by decide) (fun K hK => ?_)
       refine goes_ Tryz.func21 (by kernel_rfl) rfl #[.slice (some ad433) l0.length c0, .int .i64 (rd (rd_L2 t391 x334_4) 0), .int .i64 (rd (rd_L2 t391 x334_4) 1)] (by rfl) rfl rfl am_ ?_
       with_reducible refine (impl_PlaceOnLegs.calls kj110 _ _ l0 (rd (rd_L2 t391 x334_4) 0) (rd (rd_L2 t391 x334_4) 1) t455 t456 true _ ?side1 ?side2 A124.out).mono ?_
       (case side1 => exact cb_ HR0 HB)
       (case side2 => exact HC0.out)
       rintro e w134 ⟨rfl, hb⟩
       have HS0_ := (hb.cell (World.block_lt_of_cell? _ _ (hHeld.1))).trans (hHeld.1)
       have HS1_ := (hb.cell (World.block_lt_of_cell? _ _ (hHeld.2.1))).trans (hHeld.2.1)
       have HS2_ := (hb.cell (World.block_lt_of_cell? _ _ (hHeld.2.2.1))).trans (hHeld.2.2.1)
       have HS3_ := (hb.cell (World.block_lt_of_cell? _ _ (hHeld.2.2.2))).trans (hHeld.2.2.2)
       refine ⟨_, rfl, ?_⟩
       have n0_ := Aside0.mk (Kd.S_below (by (with_reducible repeat (first | apply Kd.S_alloc | apply Kd.S_drewN | apply Kd.S_drew)); exact HO_13.out) hb)
       have n1_ := Aside0.mk (Kd.R_below (kd_to HL451_0) hb)
       have n2_ := Aside0.mk (Kd.R_below (kd_to HL453_0) hb)
       have n3_ := Aside0.mk (blk_below (blk_to BK434) hb)
       have n4_ := Aside0.mk (Kd.C_below (by repeat (first | (with_reducible exact HR451_0.out) | (with_reducible refine Kd.C_alloc ?_ _) | (with_reducible refine Kd.C_drewN ?_ _) | (with_reducible refine Kd.C_drew ?_) | exact HR451_0.out)) hb)
       have n5_ := Aside0.mk (Kd.C_below (by repeat (first | (with_reducible exact HR453_0.out) | (with_reducible refine Kd.C_alloc ?_ _) | (with_reducible refine Kd.C_drewN ?_ _) | (with_reducible refine Kd.C_drew ?_) | exact HR453_0.out)) hb)
       have n6_ := Aside0.mk (below_step (below_to1 HB GE434.out) hb)
       clear HO_13
       clear HL451_0
       clear HL453_0
       clear BK434
       clear HR451_0
       clear HR453_0
       clear HB
       have HO_13 := n0_
       have HL451_0 := n1_
       have HL453_0 := n2_
       have BK434 := n3_
       have HR451_0 := n4_
       have HR453_0 := n5_
       have HB := n6_
       clear n0_ n1_ n2_ n3_ n4_ n5_ n6_
       (try clear hb)
       refine hK.out _ _ ⟨HS0_, HS1_, HS2_, HS3_⟩ (fun hHeld => ?_)
       clear hK K
       refine norm_ (a' := ?_) ?_ ?_
       rotate_left
       ·show Act.put _ (some 448) _ = _
        simp only [Act.put, List.setIfInBounds_toArray, List.set_cons_zero, List.set_cons_succ, i64_w, i32_w]
        rfl
       refine purS_ (i := 14) (N := some 434) (fl_ 21 15) HT_.out ?_
       refine purS_ (i := 15) (N := some 449) (fl_ 21 16) HT_.out ?_
       refine purS_ (i := 16) (N := some 450) (fl_ 21 17) HT_.out ?_
       refine purS_ (i := 17) (N := some 451) (fl_ 21 18) HT_.out ?_
       refine purS_ (i := 18) (N := some 48) (fl_ 21 19) HT_.out ?_
       refine purS_ (i := 19) (N := some 49) (fl_ 21 20) HT_.out ?_
       refine purS_ (i := 20) (N := some 50) (fl_ 21 21) HT_.out ?_
       refine done_ (done_of HT_.out (by kernel_rfl)) ?_
       try go_wp2
       have n0_ := Aside0.mk (Kd.S_drew HO_13.out)
       have n1_ := Aside0.mk (Kd.R_drew HL451_0.out)
       have n2_ := Aside0.mk (Kd.R_drew HL453_0.out)
       have n3_ := Aside0.mk (blk_drew BK434.out)
       have n4_ := Aside0.mk (Kd.C_drew HR451_0.out)
       have n5_ := Aside0.mk (Kd.C_drew HR453_0.out)
       have n6_ := Aside0.mk (below_drew1 HB.out)
       clear HO_13
       clear HL451_0
       clear HL453_0
       clear BK434
       clear HR451_0
       clear HR453_0
       clear HB
       have HO_13 := n0_
       have HL451_0 := n1_
       have HL453_0 := n2_
       have BK434 := n3_
       have HR451_0 := n4_
       have HR453_0 := n5_
       have HB := n6_
       clear n0_ n1_ n2_ n3_ n4_ n5_ n6_
       have p458 : 0 ≤ (x334_4 : Int) := odt_
       have q458 : x334_4 < (t391.length : Int) := odt_
       obtain ⟨ad458, A458_0, c458_0, e458, hx458_0, hl458_0, hi458_0⟩ := at_L2 (Kd.S_reads' HO_13.out).2.2 x334_4 p458 q458
       obtain rfl : ad451 = ad458 := (by injection e458)
       obtain ⟨ce458, hce458, hMe458, hcc458⟩ := Kd.S_get HO_13.out [] x334_4 p458 (by first | exact q458 | exact of_decide_eq_true (by first | (with_reducible assumption) | assumption) | (have e_ := (Kd.S_reads' HO_13.out).1; omega))
       obtain ⟨ve458_0, rfl, ge458_0⟩ := hMe458
       have hv458_0 := hcc458 0 _ rfl
       rw [Nat.add_zero, show ((Kd.slice 3 (Kd.int .i64))).sz = 1 from rfl, Nat.mul_one] at hv458_0
       replace hv458_0 := Option.some.inj (hv458_0.symm.trans hx458_0)
       rw [hv458_0] at ge458_0
       have HL458_0 := Aside0.mk (show Kd.R (Kd.int .i64) 3 _ _ _ _ (rd_L2 t391 x334_4) from ge458_0)
       clear hv458_0 ge458_0
       clear hcc458 hce458
       have HR458_0 := Aside0.mk hi458_0
       have HC458_0 := Aside0.mk hl458_0
       clear hi458_0 hl458_0
       replace p458 := eq_true p458
       replace q458 := eq_true q458
       have p459 : 0 ≤ (0 : Int) := (by omega)
       have q459 : 0 < ((rd_L2 t391 x334_4).length : Int) := odt_
       obtain ⟨ad459, e459, hx459_0⟩ := Kd.at_int (by repeat (first | (with_reducible exact HR458_0.out) | (with_reducible refine Kd.C_alloc ?_ _) | (with_reducible refine Kd.C_drewN ?_ _) | (with_reducible refine Kd.C_drew ?_) | exact HR458_0.out)) 0 p459 q459
       cases e459
       have qi459 : (0 < (rd_L2 t391 x334_4).length) = True := eq_true (by omega)
       (try rw [show ((0 : Int)).toNat = 0 from rfl] at hx459_0)
       (try rw [Addr.add_zero'] at hx459_0)
       replace p459 := eq_true p459
       replace q459 := eq_true q459
       have p460 : 0 ≤ (x334_4 : Int) := odt_
       have q460 : x334_4 < (t391.length : Int) := odt_
       obtain ⟨ad460, A460_0, c460_0, e460, hx460_0, hl460_0, hi460_0⟩ := at_L2 (Kd.S_reads' HO_13.out).2.2 x334_4 p460 q460
       obtain rfl : ad451 = ad460 := (by injection e460)
       obtain ⟨ce460, hce460, hMe460, hcc460⟩ := Kd.S_get HO_13.out [] x334_4 p460 (by first | exact q460 | exact of_decide_eq_true (by first | (with_reducible assumption) | assumption) | (have e_ := (Kd.S_reads' HO_13.out).1; omega))
       obtain ⟨ve460_0, rfl, ge460_0⟩ := hMe460
       have hv460_0 := hcc460 0 _ rfl
       rw [Nat.add_zero, show ((Kd.slice 3 (Kd.int .i64))).sz = 1 from rfl, Nat.mul_one] at hv460_0
       replace hv460_0 := Option.some.inj (hv460_0.symm.trans hx460_0)
       rw [hv460_0] at ge460_0
       have HL460_0 := Aside0.mk (show Kd.R (Kd.int .i64) 3 _ _ _ _ (rd_L2 t391 x334_4) from ge460_0)
       clear hv460_0 ge460_0
       clear hcc460 hce460
       have HR460_0 := Aside0.mk hi460_0
       have HC460_0 := Aside0.mk hl460_0
       clear hi460_0 hl460_0
       replace p460 := eq_true p460
       replace q460 := eq_true q460
       have ea_ := Option.some.inj (hx458_0.symm.trans hx460_0)
       injection ea_ with ea_ en_ ec_
       subst ea_
       subst ec_
       clear en_
       have p461 : 0 ≤ (1 : Int) := (by omega)
       have q461 : 1 < ((rd_L2 t391 x334_4).length : Int) := odt_
       obtain ⟨ad461, e461, hx461_0⟩ := Kd.at_int (by repeat (first | (with_reducible exact HR460_0.out) | (with_reducible refine Kd.C_alloc ?_ _) | (with_reducible refine Kd.C_drewN ?_ _) | (with_reducible refine Kd.C_drew ?_) | exact HR460_0.out)) 1 p461 q461
       cases e461
       (try simp only [show (1 : Int).toNat = 1 from rfl, Nat.reduceMul, Nat.reduceEqDiff, Go.Addr.add, ↓reduceIte] at hx461_0)
       have qi461 : (1 < (rd_L2 t391 x334_4).length) = True := eq_true (by omega)
       (try rw [show ((1 : Int)).toNat = 1 from rfl] at hx461_0)
       replace p461 := eq_true p461
       replace q461 := eq_true q461
       refine start_ (n := 19) (S := fun w' => w'.cell? (ad451.add (x334_4).toNat) = some (.slice (some ad459) (rd_L2 t391 x334_4).length c458_0) ∧ w'.cell? ad459 = some (.int .i64 (rd (rd_L2 t391 x334_4) 0)) ∧ w'.cell? (ad451.add (x334_4).toNat) = some (.slice (some ad459) (rd_L2 t391 x334_4).length c458_0) ∧ w'.cell? ⟨ad459.block, ad459.off + 1, none⟩ = some (.int .i64 (rd (rd_L2 t391 x334_4) 1))) (ds := []) (fr_ [0, 19]) (by kernel_rfl) rfl rfl ⟨hx458_0, hx459_0, hx460_0, hx461_0⟩ (fun hHeld => ?_); refine with_tabW lw_.tab31 lw_.bits31 (fun HT_ HW_ => ?_)
       generalize w134.drew = w135 at HO_13 HL451_0 HL453_0 BK434 HR451_0 HR453_0 HB HL458_0 HL460_0 HR458_0 HR460_0 hx458_0 hx459_0 hx460_0 hx461_0 hHeld ⊢
       refine purS_ (i := 0) (N := some 453) (fl_ 19 1) HT_.out ?_
       refine purS_ (i := 1) (N := some 454) (fl_ 19 2) HT_.out ?_
       refine purS_ (i := 2) (N := some 455) (fl_ 19 3) HT_.out ?_
       refine purS_ (i := 3) (N := some 456) (fl_ 19 4) HT_.out ?_
       refine purS_ (i := 7) (N := some 460) (fr_ [4, 3, 1, 11]) HT_.out ?_
       refine purS_ (i := 8) (N := some 461) (fr_ [4, 3, 2, 10]) HT_.out ?_
       refine purS_ (i := 9) (N := some 462) (fr_ [4, 3, 3, 9]) HT_.out ?_
       refine take_ (i := 4) (N := some 457) (v := ?_) (a' := ?_) (fr_ [5, 2, 3, 9]) rfl rfl (take_ofW HT_.out HW_.out (by kernel_rfl)) (fun _ _ _ h => h) (Or.inl ⟨by rfl, ?_⟩) hHeld ?_ ?_
       rotate_left
       ·rintro w' ⟨s0, s1, s2, s3⟩
        go_simp
        with_reducible rfl
       rotate_left
       ·simp only [Act.put, List.setIfInBounds_toArray, List.set_cons_zero, List.set_cons_succ, i64_w, i32_w]
        rfl
       refine purS_ (i := 5) (N := some 458) (fr_ [6, 1, 3, 9]) HT_.out ?_
       refine take_ (i := 6) (N := some 459) (v := ?_) (a' := ?_) (fr_ [10, 9]) rfl rfl (take_ofW HT_.out HW_.out (by kernel_rfl)) (fun _ _ _ h => h) (Or.inl ⟨by rfl, ?_⟩) hHeld ?_ ?_
       rotate_left
       ·rintro w' ⟨s0, s1, s2, s3⟩
        go_simp
        with_reducible rfl
       rotate_left
       ·simp only [Act.put, List.setIfInBounds_toArray, List.set_cons_zero, List.set_cons_succ, i64_w, i32_w]
        rfl
       refine take_ (i := 10) (N := some 463) (v := ?_) (a' := ?_) (fr_ [11, 8]) rfl rfl (take_ofW HT_.out HW_.out (by kernel_rfl)) (fun _ _ _ h => h) (Or.inl ⟨by rfl, ?_⟩) hHeld ?_ ?_
       rotate_left
       ·rintro w' ⟨s0, s1, s2, s3⟩
        go_simp
        with_reducible rfl
       rotate_left
       ·simp only [Act.put, List.setIfInBounds_toArray, List.set_cons_zero, List.set_cons_succ, i64_w, i32_w]
        rfl
       refine purS_ (i := 11) (N := some 464) (fl_ 19 12) HT_.out ?_
       refine take_ (i := 12) (N := some 465) (v := ?_) (a' := ?_) (fr_ [13, 6]) rfl rfl (take_ofW HT_.out HW_.out (by kernel_rfl)) (fun _ _ _ h => h) (Or.inl ⟨by rfl, ?_⟩) hHeld ?_ ?_
       rotate_left
       ·rintro w' ⟨s0, s1, s2, s3⟩
        go_simp
        with_reducible rfl
       rotate_left
       ·simp only [Act.put, List.setIfInBounds_toArray, List.set_cons_zero, List.set_cons_succ, i64_w, i32_w]
        rfl
       refine one_ (i := 13) (N := some 466) (fr_ [14, 5]) rfl rfl (one_of HT_.out (by kernel_rfl)) (by decide) (fun K hK => ?_)
       refine goes_ Tryz.func22 (by kernel_rfl) rfl #[.slice (some ad433) l0.length c0, .int .i64 (rd (rd_L2 t391 x334_4) 0), .int .i64 (rd (rd_L2 t391 x334_4) 1)] (by rfl) rfl rfl am_ ?_
       with_reducible refine (impl_LegAt.calls kj110 _ _ l0 (rd (rd_L2 t391 x334_4) 0) (rd (rd_L2 t391 x334_4) 1) t462 true _ ?side1 ?side2 A125.out).mono ?_
       (case side1 => exact cb_ HR0 HB)
       (case side2 => exact HC0.out)
       rintro e w136 ⟨rfl, hb⟩
       have HS0_ := (hb.cell (World.block_lt_of_cell? _ _ (hHeld.1))).trans (hHeld.1)
       have HS1_ := (hb.cell (World.block_lt_of_cell? _ _ (hHeld.2.1))).trans (hHeld.2.1)
       have HS2_ := (hb.cell (World.block_lt_of_cell? _ _ (hHeld.2.2.1))).trans (hHeld.2.2.1)
       have HS3_ := (hb.cell (World.block_lt_of_cell? _ _ (hHeld.2.2.2))).trans (hHeld.2.2.2)
       refine ⟨_, rfl, ?_⟩
       have n0_ := Aside0.mk (Kd.S_below (by (with_reducible repeat (first | apply Kd.S_alloc | apply Kd.S_drewN | apply Kd.S_drew)); exact HO_13.out) hb)
       have n1_ := Aside0.mk (Kd.R_below (kd_to HL451_0) hb)
       have n2_ := Aside0.mk (Kd.R_below (kd_to HL453_0) hb)
       have n3_ := Aside0.mk (Kd.R_below (kd_to HL458_0) hb)
       have n4_ := Aside0.mk (Kd.R_below (kd_to HL460_0) hb)
       have n5_ := Aside0.mk (blk_below (blk_to BK434) hb)
       have n6_ := Aside0.mk (Kd.C_below (by repeat (first | (with_reducible exact HR451_0.out) | (with_reducible refine Kd.C_alloc ?_ _) | (with_reducible refine Kd.C_drewN ?_ _) | (with_reducible refine Kd.C_drew ?_) | exact HR451_0.out)) hb)
       have n7_ := Aside0.mk (Kd.C_below (by repeat (first | (with_reducible exact HR453_0.out) | (with_reducible refine Kd.C_alloc ?_ _) | (with_reducible refine Kd.C_drewN ?_ _) | (with_reducible refine Kd.C_drew ?_) | exact HR453_0.out)) hb)
       have n8_ := Aside0.mk (Kd.C_below (by repeat (first | (with_reducible exact HR458_0.out) | (with_reducible refine Kd.C_alloc ?_ _) | (with_reducible refine Kd.C_drewN ?_ _) | (with_reducible refine Kd.C_drew ?_) | exact HR458_0.out)) hb)
       have n9_ := Aside0.mk (Kd.C_below (by repeat (first | (with_reducible exact HR460_0.out) | (with_reducible refine Kd.C_alloc ?_ _) | (with_reducible refine Kd.C_drewN ?_ _) | (with_reducible refine Kd.C_drew ?_) | exact HR460_0.out)) hb)
       have n10_ := Aside0.mk (below_step (below_to1 HB GE434.out) hb)
       clear HO_13
       clear HL451_0
       clear HL453_0
       clear HL458_0
       clear HL460_0
       clear BK434
       clear HR451_0
       clear HR453_0
       clear HR458_0
       clear HR460_0
       clear HB
       have HO_13 := n0_
       have HL451_0 := n1_
       have HL453_0 := n2_
       have HL458_0 := n3_
       have HL460_0 := n4_
       have BK434 := n5_
       have HR451_0 := n6_
       have HR453_0 := n7_
       have HR458_0 := n8_
       have HR460_0 := n9_
       have HB := n10_
       clear n0_ n1_ n2_ n3_ n4_ n5_ n6_ n7_ n8_ n9_ n10_
       (try clear hb)
       refine hK.out _ _ ⟨HS0_, HS1_, HS2_, HS3_⟩ (fun hHeld => ?_)
       clear hK K
       refine norm_ (a' := ?_) ?_ ?_
       rotate_left
       ·show Act.put _ (some 466) _ = _
        simp only [Act.put, List.setIfInBounds_toArray, List.set_cons_zero, List.set_cons_succ, i64_w, i32_w]
        rfl
       refine purS_ (i := 14) (N := some 452) (fl_ 19 15) HT_.out ?_
       refine purS_ (i := 15) (N := some 467) (fl_ 19 16) HT_.out ?_
       refine purS_ (i := 16) (N := some 468) (fl_ 19 17) HT_.out ?_
       refine purS_ (i := 17) (N := some 51) (fl_ 19 18) HT_.out ?_
       refine purS_ (i := 18) (N := some 52) (fl_ 19 19) HT_.out ?_
       refine done_ (done_of HT_.out (by kernel_rfl)) ?_
       try go_wp2
       go_roundg kj110
       case measure => have := HJ6.out; have := HJ23.out; have := HJ68.out; have := HK4.out; have := HJ87.out; have := HJ110.out; omega
       case rel => exact ⟨((wrap64 (x42_4 + ((rd_T37 l0 x334_4).f0)))), (wrap64 (x334_4 + 1)), rt_, rt_, H', ⟨by have := HJ6.out; have := HJ23.out; have := HJ68.out; have := HK4.out; have := HJ87.out; have := HJ110.out; omega⟩, ⟨by (with_reducible repeat (first | apply Kd.S_alloc | apply Kd.S_drewN | apply Kd.S_drew)); exact HO_13.out⟩, ⟨below_to1 HB GE434.out⟩⟩
      ·rw [if_neg c131] at H
       have c131b0 := beq_eq_false_iff_ne.mpr c131
       have c131b1 := bne_iff_ne.mpr c131
       exact absurd (Option.some.inj H).symm (by rw [HR_.out]; decide)
     ·replace c130 := Bool.eq_false_iff.mpr c130
      subst c130
      rw [if_neg (show ¬ (false = true) by decide)] at H
      exact absurd (Option.some.inj H).symm (by rw [HR_.out]; decide)
    ·rw [if_neg c129] at H
     have c129b0 := beq_eq_false_iff_ne.mpr c129
     have c129b1 := bne_iff_ne.mpr c129
     exact absurd (Option.some.inj H).symm (by rw [HR_.out]; decide)
   ·rw [if_neg c128] at H
    have c128b0 := beq_eq_false_iff_ne.mpr c128
    have c128b1 := bne_iff_ne.mpr c128
    exact absurd (Option.some.inj H).symm (by rw [HR_.out]; decide)
  ·replace c127 := Bool.eq_false_iff.mpr c127
   subst c127
   rw [if_neg (show ¬ (false = true) by decide)] at H
   exact absurd (Option.some.inj H).symm (by rw [HR_.out]; decide)
end Go.Proofs.YtbhnpccbjgbcbaaGreatDoor.QT
