-- WRITTEN BY a program of this session (wip/xprint.py, over the kit's print): Lean checks it.
import Derived.Test.YtbhnpccbjgbcbaaGreatDoorQTx12d
namespace Go.Proofs.YtbhnpccbjgbcbaaGreatDoor.QT
open Go.Proofs.YtbhnpccbjgbcbaaGreatDoor.X Go.RowKit Go.Proofs.YtbhnpccbjgbcbaaGreatDoorW.PrintWords Go.Proofs.YtbhnpccbjgbcbaaGreatDoorW.PrintLast Go.Proofs.YtbhnpccbjgbcbaaGreatDoorW.PrintMore
attribute [local go_sem] max2_int min2_int max_two min_two max_three min_three max_four min_four   -- for this text's walks alone
set_option linter.unusedVariables false
set_option linter.unusedSimpArgs false

set_option maxHeartbeats 16000000 in
set_option maxRecDepth 1000000 in
theorem lw_.seg4 {V0 V1 V2 V3 V6 V7 V8 V9 V10 V11 V13 V14 V15 V16 V17 V18 V19 V20 V21 V22 V23 V24 V25 V26 V27 V28 V29 V30 V31 V32 V33 V34 V35 V36 V37 V38 V39 V40 V41 V42 V43 V44 V45 V46 V47 V48 V49 V50 V51 V52 V53 V54 V55 V56 V57 V58 V59 V60 V61 V62 V63 V64 V65 V69 V70 V71 V74 V75 V76 V77 V80 V81 V82 V83 V84 V85 V87 V91 V92 V93 V94 V95 V96 V97 V98 V99 V100 V101 V102 V103 V104 V105 V106 V107 V108 V109 V110 V111 V112 V113 V114 V115 V116 V117 V118 V119 V120 V121 V122 V123 V124 V125 V126 V127 V128 V129 V130 V131 V132 V133 V134 V135 V136 V137 V138 V139 V140 V141 V142 V143 V144 V145 V146 V147 V148 V149 V150 V151 V152 V153 V154 V155 V156 V157 V158 V159 V160 V161 V162 V163 V164 V165 V166 V167 V168 V169 V170 V171 V172 V173 V174 V175 V176 V177 V178 V179 V180 V181 V182 V183 V184 V185 V186 V187 V188 V189 V190 V191 V192 V193 V194 V195 V196 V197 V198 V199 V200 V201 V202 V203 V204 V205 V206 V207 V208 V209 V210 V211 V212 V213 V214 V215 V216 V217 V218 V219 V220 V221 V222 V223 V224 V225 V226 V227 V228 V229 V230 V231 V232 V233 V234 V235 V236 V237 V238 V239 V240 V241 V242 V243 V244 V245 V246 V247 V248 V249 V250 V251 V252 V253 V254 V255 V256 V257 V258 V259 V260 V261 V262 V263 V264 V265 V266 V267 V268 V269 V270 V271 V272 V273 V274 V275 V276 V277 V278 V279 V280 V281 V282 V283 V284 V285 V286 V287 V288 V289 V290 V291 V292 V293 V294 V295 V296 V297 V298 V299 V300 V301 V302 V303 V304 V305 V306 V307 V308 V309 V310 V311 V312 V313 V314 V315 V316 V317 V318 V319 V320 V321 V322 V323 V324 V325 V326 V327 V328 V329 V330 V331 V332 V333 V334 V335 V336 V337 V338 V339 V340 V341 V342 V343 V344 V345 V346 V347 V348 V349 V350 V351 V352 V353 V354 V355 V356 V357 V358 V359 V360 V361 V362 V363 V364 V365 V366 V367 V368 V369 V370 V371 V372 V373 V374 V375 V376 V377 V378 V379 V380 V381 V382 V383 V384 V385 V386 V387 V388 V389 V390 V391 V392 V393 V394 V395 V396 V397 V398 V399 V400 V401 V402 V403 V404 V405 V406 V407 V408 V409 V410 V411 V412 V413 V414 V415 V416 V417 V418 V419 V420 V421 V422 V423 V424 V425 V426 V427 V428 V429 V430 V431 V432 V433 V434 V435 V436 V437 V438 V439 V440 V441 V442 V443 V444 V445 V446 V447 V448 V449 V450 V451 V452 V453 V454 V455 V456 V457 V458 V459 V460 V461 V462 V463 V464 V465 V466 V467 V468 V469 V470 V471 V472 V473 V474 V475 V476 V477 V478 V479 V480 V481 V482 V483 V484 V485 V486 V487 V488 V489 V490 V491 V492 V493 V494 V495 V496 V497 V498 V499 V500 V501 V502 V503 V504 V505 V506 V507 V508 V509 V510 V511 V512 V513 V514 V515 V516 V517 V518 V519 V520 V521 V522 V523 V524 V525 V526 V527 V528 V529 V530 V531 V532 V533 V534 V535 V536 V537 V538 V539 V540 V541 V542 V543 V544 V545 V546 V547 V548 V549 V550 V551 V552 V553 V554 V555 V556 V557 V558 V559 V560 V561 V562 V563 V564 V565 V566 V567 V568 V569 V570 V571 V572 V573 V574 V575 V576 V577 V578 V579 V580 V581 V582 V583 V584 V585 V586 V587 V588 V589 V590 V591 V592 V593 V594 V595 V596 V597 V598 V599 V600 V601 V602 V603 V604 V605 V606 V607 V608 V609 V610 V611 V612 V613 V614 V615 V616 V617 V618 V619 V620 V621 V622 V623 V624 V625 V626 V627 V628 V629 V630 V631 V632 V633 V634 V635 V636 V637 V638 V639 V640 V641 V642 V643 V644 V645 V646 V647 V648 V649 V650 V651 V652 V653 V654 V655 V656 V657 V658 V659 V660 V661 V662 V663 V664 V665 V666 V667 V668 V669 V670 V671 V672 V673 V674 V675 V676 V677 V678 V679 V680 V681 V682 V683 V684 V685 V686 V687 V688 V689 V690 V691 V692 V693 V694 V695 V696 V697 V698 V699 V700 V701 V702 V703 V704 V705 V706 V707 V708 V709 V710 V711 V712 V713 V714 V715 V716 : Go.Value} (k : Nat) (A4 : Option Addr) (c4 : Nat) (l4 : List Int) (a5 : ByteArray) (r : Bool) (w : World) (HTab_ : Aside0 (YtbhnpccbjgbcbaaGreatDoor.XText.T2 w)) (HR_ : Aside0 (r = Bool.true)) (hu37 : Program.underlying Tryz.prog (37 : Nat) = Option.some (TypeDesc.struct #[Field.mk "Long" (3 : Nat) (0 : Nat) Bool.false "" "" (0 : Nat), Field.mk "Fast" (3 : Nat) (1 : Nat) Bool.false "" "" (8 : Nat)])) (HR4 : Aside0 (Kd.C (Kd.int IntKind.i64) w A4 (List.length l4) l4)) (kj6 : Nat) (HJ6 : Aside0 (kj6 + (1 : Nat) ≤ k)) (kj23 : Nat) (HJ23 : Aside0 (kj23 + (1 : Nat) ≤ kj6)) (kj66 : Nat) (HJ66 : Aside0 (kj66 + (1 : Nat) ≤ kj23)) (t479 t480 : Int) (t481 : Bool) (t485 t486 : Int) (t491 : List S37) (t492 : Bool) (nd : Nat) (v493 : Value) (kj163 : Nat) (HJ163 : Aside0 (kj163 + (1 : Nat) ≤ kj66)) (wc : World) (u12 : Value) (kq : Nat) (HA : Aside0 (lw_.j10 kq l4 a5 t479 t480 t481 t485 t486 t491 t492 = Option.some r)) (HJ191 : Aside0 (kq ≤ kj163)) (HO_78 : Aside0 (Kd.R k37 (37 : Nat) wc (Array.size (World.heap w)) (fun x => True) v493 t491)) (HB : Aside0 (Below (Array.size (World.heap w)) w wc)) :
    Go.Code.wp Tryz.prog (lw_.behind 652 lw_.body) (bodyPost Tryz.prog Tryz.f3 (fun e w' => e = .returned (.bool r) ∧ Below w.heap.size w w')) (Go.Act.mk #[V0, V1, V2, V3, Value.slice A4 (List.length l4) c4, Value.string a5, V6, V7, V8, V9, V10, V11, u12, V13, V14, V15, V16, V17, V18, V19, V20, V21, V22, V23, V24, V25, V26, V27, V28, V29, V30, V31, V32, V33, V34, V35, V36, V37, V38, V39, V40, V41, V42, V43, V44, V45, V46, V47, V48, V49, V50, V51, V52, V53, V54, V55, V56, V57, V58, V59, V60, V61, V62, V63, V64, V65, Value.int IntKind.i64 t479, Value.int IntKind.i64 t480, Value.bool t481, V69, V70, V71, Value.int IntKind.i64 t485, Value.int IntKind.i64 t486, V74, V75, V76, V77, v493, Value.bool t492, V80, V81, V82, V83, V84, V85, undef, V87, undef, undef, undef, V91, V92, V93, V94, V95, V96, V97, V98, V99, V100, V101, V102, V103, V104, V105, V106, V107, V108, V109, V110, V111, V112, V113, V114, V115, V116, V117, V118, V119, V120, V121, V122, V123, V124, V125, V126, V127, V128, V129, V130, V131, V132, V133, V134, V135, V136, V137, V138, V139, V140, V141, V142, V143, V144, V145, V146, V147, V148, V149, V150, V151, V152, V153, V154, V155, V156, V157, V158, V159, V160, V161, V162, V163, V164, V165, V166, V167, V168, V169, V170, V171, V172, V173, V174, V175, V176, V177, V178, V179, V180, V181, V182, V183, V184, V185, V186, V187, V188, V189, V190, V191, V192, V193, V194, V195, V196, V197, V198, V199, V200, V201, V202, V203, V204, V205, V206, V207, V208, V209, V210, V211, V212, V213, V214, V215, V216, V217, V218, V219, V220, V221, V222, V223, V224, V225, V226, V227, V228, V229, V230, V231, V232, V233, V234, V235, V236, V237, V238, V239, V240, V241, V242, V243, V244, V245, V246, V247, V248, V249, V250, V251, V252, V253, V254, V255, V256, V257, V258, V259, V260, V261, V262, V263, V264, V265, V266, V267, V268, V269, V270, V271, V272, V273, V274, V275, V276, V277, V278, V279, V280, V281, V282, V283, V284, V285, V286, V287, V288, V289, V290, V291, V292, V293, V294, V295, V296, V297, V298, V299, V300, V301, V302, V303, V304, V305, V306, V307, V308, V309, V310, V311, V312, V313, V314, V315, V316, V317, V318, V319, V320, V321, V322, V323, V324, V325, V326, V327, V328, V329, V330, V331, V332, V333, V334, V335, V336, V337, V338, V339, V340, V341, V342, V343, V344, V345, V346, V347, V348, V349, V350, V351, V352, V353, V354, V355, V356, V357, V358, V359, V360, V361, V362, V363, V364, V365, V366, V367, V368, V369, V370, V371, V372, V373, V374, V375, V376, V377, V378, V379, V380, V381, V382, V383, V384, V385, V386, V387, V388, V389, V390, V391, V392, V393, V394, V395, V396, V397, V398, V399, V400, V401, V402, V403, V404, V405, V406, V407, V408, V409, V410, V411, V412, V413, V414, V415, V416, V417, V418, V419, V420, V421, V422, V423, V424, V425, V426, V427, V428, V429, V430, V431, V432, V433, V434, V435, V436, V437, V438, V439, V440, V441, V442, V443, V444, V445, V446, V447, V448, V449, V450, V451, V452, V453, V454, V455, V456, V457, V458, V459, V460, V461, V462, V463, V464, V465, V466, V467, V468, V469, V470, V471, V472, V473, V474, V475, V476, V477, V478, V479, V480, V481, V482, V483, V484, V485, V486, V487, V488, V489, V490, V491, V492, V493, V494, V495, V496, V497, V498, V499, V500, V501, V502, V503, V504, V505, V506, V507, V508, V509, V510, V511, V512, V513, V514, V515, V516, V517, V518, V519, V520, V521, V522, V523, V524, V525, V526, V527, V528, V529, V530, V531, V532, V533, V534, V535, V536, V537, V538, V539, V540, V541, V542, V543, V544, V545, V546, V547, V548, V549, V550, V551, V552, V553, V554, V555, V556, V557, V558, V559, V560, V561, V562, V563, V564, V565, V566, V567, V568, V569, V570, V571, V572, V573, V574, V575, V576, V577, V578, V579, V580, V581, V582, V583, V584, V585, V586, V587, V588, V589, V590, V591, V592, V593, V594, V595, V596, V597, V598, V599, V600, V601, V602, V603, V604, V605, V606, V607, V608, V609, V610, V611, V612, V613, V614, V615, V616, V617, V618, V619, V620, V621, V622, V623, V624, V625, V626, V627, V628, V629, V630, V631, V632, V633, V634, V635, V636, V637, V638, V639, V640, V641, V642, V643, V644, V645, V646, V647, V648, V649, V650, V651, V652, V653, V654, V655, V656, V657, V658, V659, V660, V661, V662, V663, V664, V665, V666, V667, V668, V669, V670, V671, V672, V673, V674, V675, V676, V677, V678, V679, V680, V681, V682, V683, V684, V685, V686, V687, V688, V689, V690, V691, V692, V693, V694, V695, V696, V697, V698, V699, V700, V701, V702, V703, V704, V705, V706, V707, V708, V709, V710, V711, V712, V713, V714, V715, V716, undef, undef, undef, undef, undef, undef, undef, undef, undef, undef, undef, undef, undef, undef, undef, undef, undef, undef, undef, undef, undef, undef, undef, undef, undef, undef, undef, undef, undef, undef, undef, undef, undef, undef, undef, undef, undef, undef, undef, undef, undef, undef, undef, undef, undef, undef, undef, undef, undef, undef, undef, undef, undef, undef, undef, undef, undef, undef, undef] []) wc := by
  conv => arg 2; whnf
  (try conv => arg 4; dsimp only)
  cases kq with
  | zero => exact absurd HA.out (by simp [lw_.j10])
  | succ kj191 =>
   have H := HA.out
   clear HA
   simp only [lw_.j10] at H
   by_cases c211 : t481 = true
   ·subst c211
    rw [if_pos rfl] at H
    have H' := Aside0.mk H
    clear H
    go_wp2
    go_loopg [86, 720] kj191 (fun kq v86 v720 w' => ∃ (x86_6 : Bool) (x720_6 : Int), v86 = .bool x86_6 ∧ v720 = .int .i64 x720_6 ∧ Aside0 (lw_.l2 kq l4 a5 t479 t480 t485 t486 t491 t492 x86_6 l4 (l4.length : Int) x720_6 = some r) ∧ Aside0 (kq ≤ kj191) ∧ Aside0 (Kd.R k37 37 w' w.heap.size (fun _ => True) v493 t491) ∧ Aside0 (Below w.heap.size w w'))
    case atStart => exact ⟨(true), (0), rt_, rt_, H', ⟨Nat.le_refl _⟩, ⟨by (with_reducible repeat (first | apply Kd.R_alloc | apply Kd.R_drewN | apply Kd.R_drew)); exact HO_78.out⟩, ⟨below_to HB⟩⟩
    case round =>
     clear H'
     (try clear c4); (try clear c211)
     obtain ⟨x86_6, x720_6, rfl, rfl, HA, HK6, HO_78, HB⟩ := hrel
     cases gk with
     | zero => exact absurd HA.out (by simp [lw_.l2])
     | succ k6 =>
      have H := HA.out
      clear HA
      simp only [lw_.l2] at H
      by_cases c212 : x720_6 < (l4.length : Int)
      ·rw [if_pos c212] at H
       have c212b0 := decide_eq_true c212
       clear c212
       by_cases c213 : 0 ≤ x720_6
       ·rw [if_pos c213] at H
        have c213b0 := decide_eq_true c213
        clear c213
        by_cases c214 : x720_6 < (l4.length : Int)
        ·rw [if_pos c214] at H
         have c214b0 := decide_eq_true c214
         clear c214
         by_cases c215 : x86_6 = true
         ·subst c215
          rw [if_pos rfl] at H
          by_cases c216 : 0 < (l4.length : Int)
          ·rw [if_pos c216] at H
           have c216b0 := decide_eq_true c216
           have c216b1 : decide (0 < l4.length) = true := decide_eq_true (by omega)
           clear c216
           have H' := Aside0.mk H
           clear H
           have p505 : 0 ≤ (x720_6 : Int) := odt_
           have q505 : x720_6 < (l4.length : Int) := odt_
           obtain ⟨ad505, e505, hx505_0⟩ := Kd.at_int HR4.out x720_6 p505 q505
           cases e505
           replace hx505_0 := bx_ HB hx505_0
           replace p505 := eq_true p505
           replace q505 := eq_true q505
           have p506 : 0 ≤ (0 : Int) := (by omega)
           have q506 : 0 < (l4.length : Int) := odt_
           obtain ⟨ad506, e506, hx506_0⟩ := Kd.at_int HR4.out 0 p506 q506
           obtain rfl : ad505 = ad506 := (by injection e506)
           have qi506 : (0 < l4.length) = True := eq_true (by omega)
           (try rw [show ((0 : Int)).toNat = 0 from rfl] at hx506_0)
           (try rw [Addr.add_zero'] at hx506_0)
           replace hx506_0 := bx_ HB hx506_0
           replace p506 := eq_true p506
           replace q506 := eq_true q506
           go_wp2
           go_roundg k6
           case measure => have := HJ6.out; have := HJ23.out; have := HJ66.out; have := HJ163.out; have := HJ191.out; have := HK6.out; omega
           case rel => exact ⟨(((rd l4 x720_6) == (rd l4 0))), (wrap64 (x720_6 + 1)), rt_, rt_, H', ⟨by have := HJ6.out; have := HJ23.out; have := HJ66.out; have := HJ163.out; have := HJ191.out; have := HK6.out; omega⟩, ⟨by (with_reducible repeat (first | apply Kd.R_alloc | apply Kd.R_drewN | apply Kd.R_drew)); exact HO_78.out⟩, ⟨below_to HB⟩⟩
          ·rw [if_neg c216] at H
           exact absurd H (by simp)
         ·replace c215 := Bool.eq_false_iff.mpr c215
          subst c215
          rw [if_neg (show ¬ (false = true) by decide)] at H
          have H' := Aside0.mk H
          clear H
          have p505 : 0 ≤ (x720_6 : Int) := odt_
          have q505 : x720_6 < (l4.length : Int) := odt_
          obtain ⟨ad505, e505, hx505_0⟩ := Kd.at_int HR4.out x720_6 p505 q505
          cases e505
          replace hx505_0 := bx_ HB hx505_0
          replace p505 := eq_true p505
          replace q505 := eq_true q505
          go_wp2
          go_roundg k6
          case measure => have := HJ6.out; have := HJ23.out; have := HJ66.out; have := HJ163.out; have := HJ191.out; have := HK6.out; omega
          case rel => exact ⟨(false), (wrap64 (x720_6 + 1)), rt_, rt_, H', ⟨by have := HJ6.out; have := HJ23.out; have := HJ66.out; have := HJ163.out; have := HJ191.out; have := HK6.out; omega⟩, ⟨by (with_reducible repeat (first | apply Kd.R_alloc | apply Kd.R_drewN | apply Kd.R_drew)); exact HO_78.out⟩, ⟨below_to HB⟩⟩
        ·rw [if_neg c214] at H
         exact absurd H (by simp)
       ·rw [if_neg c213] at H
        exact absurd H (by simp)
      ·rw [if_neg c212] at H
       have c212b0 := decide_eq_false c212
       clear c212
       have HC217 := Aside0.mk H
       clear H
       go_upto_region 71 with (fail)
       go_cut [763] from 100000 (fun v763 wc => ∃ (kq : Nat) (x763_216 : Bool), v763 = .bool x763_216 ∧ Aside0 (lw_.j12 kq a5 t491 t492 x763_216 = some r) ∧ Aside0 (kq ≤ k6) ∧ Aside0 (Kd.R k37 37 wc w.heap.size (fun _ => True) v493 t491) ∧ Aside0 (Below w.heap.size w wc))
       case first =>
        (try conv => arg 2; dsimp only [List.append_eq, List.cons_append, List.nil_append])
        have H := HC217.out
        clear HC217
        replace H := Option.bind_eq_some_iff.mp H
        obtain ⟨t507, A2180, H⟩ := H
        (try dsimp only at H)
        have A218 := Aside0.mk A2180
        clear A2180
        by_cases c219 : t507 = true
        ·subst c219
         rw [if_pos rfl] at H
         replace H := Option.bind_eq_some_iff.mp H
         obtain ⟨t508, A2200, H⟩ := H
         (try dsimp only at H)
         have A220 := Aside0.mk A2200
         clear A2200
         by_cases c221 : t508 = true
         ·subst c221
          rw [if_pos rfl] at H
          by_cases c222 : (wrap64 (t479 * t486)) > (wrap64 (t485 * t480))
          ·rw [if_pos c222] at H
           have c222b0 := decide_eq_true c222
           clear c222
           (first | rw [c222b0] | (simp only [i64_w, i32_w]; rw [c222b0]) | skip)
           exact absurd H (by rw [HR_.out]; cases k6 <;> simp [lw_.j12])
          ·rw [if_neg c222] at H
           have c222b0 := decide_eq_false c222
           clear c222
           (first | rw [c222b0] | (simp only [i64_w, i32_w]; rw [c222b0]) | skip)
           by_cases c223 : t479 = t485
           ·rw [if_pos c223] at H
            have c223b0 := beq_iff_eq.mpr c223
            have c223b1 := bne_eq_false_iff_eq.mpr c223
            clear c223
            have H' := Aside0.mk H
            clear H
            go_wp2_with (first | ((with_reducible refine gate_callee (f := 20) rfl ?_); refine goesL_ (some 735) rfl rfl Tryz.func20 (by kernel_rfl) rfl #[.int .i64 t479, .int .i64 t480] rfl am_ ?_; (with_reducible refine (laws_yLow.calls k6 t479 t480 true _ A218.out).mono ?_); rintro e w' ⟨rfl, ⟨nd, rfl⟩⟩; refine ⟨_, rfl, ?_⟩) | (go_at_call 20; (with_reducible refine (laws_yLow.calls k6 t485 t486 true _ A220.out).mono ?_); rintro e w' ⟨rfl, ⟨nd, rfl⟩⟩))
            go_meet
            case rel => exact ⟨_, ((x86_6 != (t480 == t486))), rt_, H', ⟨by have := HJ6.out; have := HJ23.out; have := HJ66.out; have := HJ163.out; have := HJ191.out; have := HK6.out; first | omega | exact Nat.le_refl _⟩, ⟨by (with_reducible repeat (first | apply Kd.R_alloc | apply Kd.R_drewN | apply Kd.R_drew)); exact HO_78.out⟩, ⟨below_to HB⟩⟩
           ·rw [if_neg c223] at H
            have c223b0 := beq_eq_false_iff_ne.mpr c223
            have c223b1 := bne_iff_ne.mpr c223
            have H' := Aside0.mk H
            clear H
            go_wp2_with (first | ((with_reducible refine gate_callee (f := 20) rfl ?_); refine goesL_ (some 735) rfl rfl Tryz.func20 (by kernel_rfl) rfl #[.int .i64 t479, .int .i64 t480] rfl am_ ?_; (with_reducible refine (laws_yLow.calls k6 t479 t480 true _ A218.out).mono ?_); rintro e w' ⟨rfl, ⟨nd, rfl⟩⟩; refine ⟨_, rfl, ?_⟩) | (go_at_call 20; (with_reducible refine (laws_yLow.calls k6 t485 t486 true _ A220.out).mono ?_); rintro e w' ⟨rfl, ⟨nd, rfl⟩⟩))
            go_meet
            case rel => exact ⟨_, ((x86_6 != false)), rt_, H', ⟨by have := HJ6.out; have := HJ23.out; have := HJ66.out; have := HJ163.out; have := HJ191.out; have := HK6.out; first | omega | exact Nat.le_refl _⟩, ⟨by (with_reducible repeat (first | apply Kd.R_alloc | apply Kd.R_drewN | apply Kd.R_drew)); exact HO_78.out⟩, ⟨below_to HB⟩⟩
         ·replace c221 := Bool.eq_false_iff.mpr c221
          subst c221
          rw [if_neg (show ¬ (false = true) by decide)] at H
          exact absurd H (by rw [HR_.out]; cases k6 <;> simp [lw_.j12])
        ·replace c219 := Bool.eq_false_iff.mpr c219
         subst c219
         rw [if_neg (show ¬ (false = true) by decide)] at H
         exact absurd H (by rw [HR_.out]; cases k6 <;> simp [lw_.j12])
       case rest =>
        clear HC217
        (try clear c4); (try clear c211); (try clear c212); (try clear c212b0); (try clear c213); (try clear c213b0); (try clear c214); (try clear c214b0); (try clear c215); (try clear c216); (try clear c216b0); (try clear c216b1); (try clear c219); (try clear c221); (try clear c222); (try clear c222b0); (try clear c223); (try clear c223b0); (try clear c223b1); (try clear hx505_0); (try clear hx506_0); (try clear p505); (try clear p506); (try clear q505); (try clear q506)
        obtain ⟨kq, x763_216, rfl, HA, HJ216, HO_78, HB⟩ := hcut
        cases kq with
        | zero => exact absurd HA.out (by simp [lw_.j12])
        | succ kj216 =>
         have H := HA.out
         clear HA
         simp only [lw_.j12] at H
         by_cases c224 : x763_216 = true
         ·subst c224
          rw [if_pos rfl] at H
          exact absurd (Option.some.inj H).symm (by rw [HR_.out]; decide)
         ·replace c224 := Bool.eq_false_iff.mpr c224
          subst c224
          rw [if_neg (show ¬ (false = true) by decide)] at H
          by_cases c225 : t492 = true
          ·subst c225
           rw [if_pos rfl] at H
           replace H := Option.bind_eq_some_iff.mp H
           obtain ⟨⟨t509, t510⟩, A2260, H⟩ := H
           (try dsimp only at H)
           have A226 := Aside0.mk A2260
           clear A2260
           by_cases c227 : t510 = true
           ·subst c227
            rw [if_pos rfl] at H
            obtain rfl := Option.some.inj H
            obtain ⟨Ao228, co228, eo228⟩ := Kd.R_slice HO_78.out
            subst eo228
            go_wp2_with (first | ((with_reducible refine gate_callee (f := 15) rfl ?_); refine goesL_ (some 767) rfl rfl Tryz.func15 (by kernel_rfl) rfl #[.slice Ao228 t491.length co228] rfl am_ ?_; (with_reducible refine (impl_LegsText.calls kj216 _ _ t491 t509 true _ ?side1 ?side2 A226.out ?sidet).mono ?_); (case sidet => refine Go.Proofs.YtbhnpccbjgbcbaaGreatDoor.XText.T1.on (w := w) (Go.Proofs.YtbhnpccbjgbcbaaGreatDoor.XText.T2.to1 HTab_.out) ?_; repeat (first | (with_reducible first | exact HB.out | exact Below.refl _ _ | apply below_alloc | apply pw_below_drewN | apply below_drew1 | refine below_set ?_ GE434.out) | exact HB.out | exact Below.refl _ _)); (case side1 => repeat (first | exact (Kd.R_reads' HO_78.out).2.2 | (with_reducible refine Kd.C_alloc ?_ _) | (with_reducible refine Kd.C_drewN ?_ _) | (with_reducible refine Kd.C_drew ?_))); (case side2 => exact (Kd.R_reads' HO_78.out).2.1); rintro e w229 ⟨rfl, hb⟩; refine ⟨_, rfl, ?_⟩; replace HO_78 := Aside0.mk (Kd.R_below (kd_to HO_78) hb); replace HB := Aside0.mk (below_step (below_to HB) hb); (try clear hb)))
            go_ret
            exact ⟨rtE_, below_to HB⟩
           ·replace c227 := Bool.eq_false_iff.mpr c227
            subst c227
            rw [if_neg (show ¬ (false = true) by decide)] at H
            exact absurd (Option.some.inj H).symm (by rw [HR_.out]; decide)
          ·replace c225 := Bool.eq_false_iff.mpr c225
           subst c225
           rw [if_neg (show ¬ (false = true) by decide)] at H
           obtain rfl := Option.some.inj H
           go_wp2
           go_ret
           exact ⟨rtE_, below_to HB⟩
   ·replace c211 := Bool.eq_false_iff.mpr c211
    subst c211
    rw [if_neg (show ¬ (false = true) by decide)] at H
    by_cases c230 : t492 = true
    ·subst c230
     rw [if_pos rfl] at H
     replace H := Option.bind_eq_some_iff.mp H
     obtain ⟨⟨t511, t512⟩, A2310, H⟩ := H
     (try dsimp only at H)
     have A231 := Aside0.mk A2310
     clear A2310
     by_cases c232 : t512 = true
     ·subst c232
      rw [if_pos rfl] at H
      obtain rfl := Option.some.inj H
      obtain ⟨Ao233, co233, eo233⟩ := Kd.R_slice HO_78.out
      subst eo233
      go_wp2_with (first | ((with_reducible refine gate_callee (f := 15) rfl ?_); refine goesL_ (some 767) rfl rfl Tryz.func15 (by kernel_rfl) rfl #[.slice Ao233 t491.length co233] rfl am_ ?_; (with_reducible refine (impl_LegsText.calls kj191 _ _ t491 t511 true _ ?side1 ?side2 A231.out ?sidet).mono ?_); (case sidet => refine Go.Proofs.YtbhnpccbjgbcbaaGreatDoor.XText.T1.on (w := w) (Go.Proofs.YtbhnpccbjgbcbaaGreatDoor.XText.T2.to1 HTab_.out) ?_; repeat (first | (with_reducible first | exact HB.out | exact Below.refl _ _ | apply below_alloc | apply pw_below_drewN | apply below_drew1 | refine below_set ?_ GE434.out) | exact HB.out | exact Below.refl _ _)); (case side1 => repeat (first | exact (Kd.R_reads' HO_78.out).2.2 | (with_reducible refine Kd.C_alloc ?_ _) | (with_reducible refine Kd.C_drewN ?_ _) | (with_reducible refine Kd.C_drew ?_))); (case side2 => exact (Kd.R_reads' HO_78.out).2.1); rintro e w234 ⟨rfl, hb⟩; refine ⟨_, rfl, ?_⟩; replace HO_78 := Aside0.mk (Kd.R_below (kd_to HO_78) hb); replace HB := Aside0.mk (below_step (below_to HB) hb); (try clear hb)))
      go_ret
      exact ⟨rtE_, below_to HB⟩
     ·replace c232 := Bool.eq_false_iff.mpr c232
      subst c232
      rw [if_neg (show ¬ (false = true) by decide)] at H
      exact absurd (Option.some.inj H).symm (by rw [HR_.out]; decide)
    ·replace c230 := Bool.eq_false_iff.mpr c230
     subst c230
     rw [if_neg (show ¬ (false = true) by decide)] at H
     obtain rfl := Option.some.inj H
     go_wp2
     go_ret
     exact ⟨rtE_, below_to HB⟩
  
end Go.Proofs.YtbhnpccbjgbcbaaGreatDoor.QT
