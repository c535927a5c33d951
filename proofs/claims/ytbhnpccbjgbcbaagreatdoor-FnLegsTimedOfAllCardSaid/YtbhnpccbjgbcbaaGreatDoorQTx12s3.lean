-- WRITTEN BY a program of this session (wip/xprint.py, over the kit's print): Lean checks it.
import Derived.Test.YtbhnpccbjgbcbaaGreatDoorQTx12d
import Derived.Test.YtbhnpccbjgbcbaaGreatDoorQTx12s4
namespace Go.Proofs.YtbhnpccbjgbcbaaGreatDoor.QT
open Go.Proofs.YtbhnpccbjgbcbaaGreatDoor.X Go.RowKit Go.Proofs.YtbhnpccbjgbcbaaGreatDoorW.PrintWords Go.Proofs.YtbhnpccbjgbcbaaGreatDoorW.PrintLast Go.Proofs.YtbhnpccbjgbcbaaGreatDoorW.PrintMore
attribute [local go_sem] max2_int min2_int max_two min_two max_three min_three max_four min_four   -- for this text's walks alone
set_option linter.unusedVariables false
set_option linter.unusedSimpArgs false

set_option maxHeartbeats 16000000 in
set_option maxRecDepth 1000000 in
theorem lw_.seg3 {V0 V2 V3 V6 V7 V8 V9 V10 V11 V13 V14 V15 V16 V17 V18 V19 V20 V21 V22 V23 V24 V25 V26 V27 V28 V29 V30 V31 V32 V33 V34 V35 V36 V37 V38 V39 V40 V41 V42 V43 V44 V45 V46 V47 V48 V49 V50 V51 V52 V53 V54 V55 V59 V60 V61 V63 V64 V65 V69 V70 V71 V74 V75 V76 V77 V80 V81 V87 V91 V92 V93 V94 V95 V96 V97 V98 V99 V100 V101 V102 V103 V104 V105 V106 V107 V108 V109 V110 V111 V112 V113 V114 V115 V116 V117 V118 V119 V120 V121 V122 V123 V124 V125 V126 V127 V128 V129 V130 V131 V132 V133 V134 V135 V136 V137 V138 V139 V140 V141 V142 V143 V144 V145 V146 V147 V148 V149 V150 V151 V152 V153 V154 V155 V156 V157 V158 V159 V160 V161 V162 V163 V164 V165 V166 V167 V168 V169 V170 V171 V172 V173 V174 V175 V176 V177 V178 V179 V180 V181 V182 V183 V184 V185 V186 V187 V188 V189 V190 V191 V192 V193 V194 V195 V196 V197 V198 V199 V200 V201 V202 V203 V204 V205 V206 V207 V208 V209 V210 V211 V212 V213 V214 V215 V216 V217 V218 V219 V220 V221 V222 V223 V224 V225 V226 V227 V228 V229 V230 V231 V232 V233 V234 V235 V236 V237 V238 V239 V240 V241 V242 V243 V244 V245 V246 V247 V248 V249 V250 V251 V252 V253 V254 V255 V256 V257 V258 V259 V260 V261 V262 V263 V264 V265 V266 V267 V268 V269 V270 V271 V272 V273 V274 V275 V276 V277 V278 V279 V280 V281 V282 V283 V284 V285 V286 V287 V288 V289 V290 V291 V292 V293 V294 V295 V296 V297 V298 V299 V300 V301 V302 V303 V304 V305 V306 V307 V308 V309 V310 V311 V312 V313 V314 V315 V316 V317 V318 V319 V320 V321 V322 V323 V324 V325 V326 V327 V328 V329 V330 V331 V332 V333 V334 V335 V336 V337 V338 V339 V340 V341 V342 V343 V344 V345 V346 V347 V348 V349 V350 V351 V352 V353 V354 V355 V356 V357 V358 V359 V360 V361 V362 V363 V364 V365 V366 V367 V368 V369 V370 V371 V372 V373 V374 V375 V376 V377 V378 V379 V380 V381 V382 V383 V384 V385 V386 V387 V388 V389 V390 V391 V392 V393 V394 V395 V396 V397 V398 V399 V400 V401 V402 V403 V404 V405 V406 V407 V408 V409 V410 V411 V412 V413 V414 V415 V416 V417 V418 V419 V420 V421 V422 V423 V424 V425 V426 V427 V428 V429 V430 V431 V432 V433 V434 V435 V436 V437 V438 V439 V440 V441 V442 V443 V444 V445 V446 V447 V448 V449 V450 V451 V452 V453 V454 V455 V456 V457 V458 V459 V460 V461 V462 V463 V464 V465 V466 V467 V468 V469 V470 V471 V472 V473 V474 V475 V476 V477 V478 V479 V480 V481 V482 V483 V484 V485 V486 V487 V488 V489 V490 V491 V492 V493 V494 V495 V496 V497 V498 V499 V500 V501 V502 V503 V504 V505 V506 V507 V508 V509 V510 V511 V512 V513 V514 V515 V516 V517 V518 V519 V520 V521 V522 V523 V524 V525 V526 V527 V528 V529 V530 V531 V532 V533 V534 V535 V536 V537 V538 V539 V540 V541 V542 V543 V544 V545 V546 V547 V548 V549 V550 V551 V552 V553 V554 V555 V556 V557 V558 V559 V560 V561 V562 V563 V564 V565 V566 V567 V568 V569 V570 V571 V572 V573 V574 V575 V576 V577 V578 V579 V580 V581 V582 V583 V584 V585 V586 V587 V588 V589 V590 V591 V592 V593 V594 V595 V596 V597 V598 V599 V600 V601 V602 V603 V604 V605 V606 V607 V608 V609 V610 V611 V612 V613 V614 V615 V616 V617 V618 V619 V620 V621 V622 V623 V624 V625 V626 V627 V628 V629 V630 V631 V632 V633 V634 V635 V636 V637 V638 V639 V640 V641 V642 V643 V644 V645 V646 V647 V648 V649 V650 V651 : Go.Value} (k : Nat) (A1 : Option Addr) (c1 : Nat) (l1 : List S37) (A4 : Option Addr) (c4 : Nat) (l4 : List Int) (a5 : ByteArray) (r : Bool) (w : World) (HTab_ : Aside0 (YtbhnpccbjgbcbaaGreatDoor.XText.T2 w)) (HR_ : Aside0 (r = Bool.true)) (hu37 : Program.underlying Tryz.prog (37 : Nat) = Option.some (TypeDesc.struct #[Field.mk "Long" (3 : Nat) (0 : Nat) Bool.false "" "" (0 : Nat), Field.mk "Fast" (3 : Nat) (1 : Nat) Bool.false "" "" (8 : Nat)])) (HR1 : Aside0 (Kd.C k37 w A1 (List.length l1) l1)) (HC1 : Aside0 (List.length l1 ≤ c1)) (HR4 : Aside0 (Kd.C (Kd.int IntKind.i64) w A4 (List.length l4) l4)) (kj6 : Nat) (HJ6 : Aside0 (kj6 + (1 : Nat) ≤ k)) (kj23 : Nat) (HJ23 : Aside0 (kj23 + (1 : Nat) ≤ kj6)) (u12 : Value) (kj66 : Nat) (HJ66 : Aside0 (kj66 + (1 : Nat) ≤ kj23)) (t469 t470 : Int) (t471 : Bool) (t475 : Int) (t479 t480 : Int) (t481 : Bool) (t485 t486 : Int) (t491 : List S37) (t492 : Bool) (nd : Nat) (v493 : Value) (wc : World) (HO_78 : Aside0 (Kd.R k37 (37 : Nat) wc (Array.size (World.heap w)) (fun x => True) v493 t491)) (HB : Aside0 (Below (Array.size (World.heap w)) w wc)) (kj163 : Nat) (HJ163 : Aside0 (kj163 + (1 : Nat) ≤ kj66)) (HC192 : Aside0 ((if t471 = Bool.true then Option.bind (impl_LongOfLegs.f kj163 l1) fun bt500 => if Prod.snd bt500 = Bool.true then Option.bind (laws_yLow.f kj163 t469 t470) fun t502 => if t502 = Bool.true then if t469 < (0 : Int) then lw_.j8 kj163 l1 l4 a5 t469 t470 t475 t479 t480 t481 t485 t486 t491 t492 Bool.true else if t469 > wrap64 (Prod.fst bt500 * t470) then lw_.j8 kj163 l1 l4 a5 t469 t470 t475 t479 t480 t481 t485 t486 t491 t492 Bool.true else if t475 < (0 : Int) then lw_.j8 kj163 l1 l4 a5 t469 t470 t475 t479 t480 t481 t485 t486 t491 t492 Bool.true else lw_.j8 kj163 l1 l4 a5 t469 t470 t475 t479 t480 t481 t485 t486 t491 t492 (Decidable.decide (t475 ≥ (↑(List.length l1) : Int))) else lw_.j8 kj163 l1 l4 a5 t469 t470 t475 t479 t480 t481 t485 t486 t491 t492 Bool.true else lw_.j8 kj163 l1 l4 a5 t469 t470 t475 t479 t480 t481 t485 t486 t491 t492 Bool.true else lw_.j10 kj163 l4 a5 t479 t480 t481 t485 t486 t491 t492) = Option.some r)) :
    Go.Code.wp Tryz.prog (lw_.behind 651 lw_.body) (bodyPost Tryz.prog Tryz.f3 (fun e w' => e = .returned (.bool r) ∧ Below w.heap.size w w')) (Go.Act.mk #[V0, Value.slice A1 (List.length l1) c1, V2, V3, Value.slice A4 (List.length l4) c4, Value.string a5, V6, V7, V8, V9, V10, V11, u12, V13, V14, V15, V16, V17, V18, V19, V20, V21, V22, V23, V24, V25, V26, V27, V28, V29, V30, V31, V32, V33, V34, V35, V36, V37, V38, V39, V40, V41, V42, V43, V44, V45, V46, V47, V48, V49, V50, V51, V52, V53, V54, V55, Value.int IntKind.i64 t469, Value.int IntKind.i64 t470, Value.bool t471, V59, V60, V61, Value.int IntKind.i64 t475, V63, V64, V65, Value.int IntKind.i64 t479, Value.int IntKind.i64 t480, Value.bool t481, V69, V70, V71, Value.int IntKind.i64 t485, Value.int IntKind.i64 t486, V74, V75, V76, V77, v493, Value.bool t492, V80, V81, undef, undef, undef, undef, undef, V87, undef, undef, undef, V91, V92, V93, V94, V95, V96, V97, V98, V99, V100, V101, V102, V103, V104, V105, V106, V107, V108, V109, V110, V111, V112, V113, V114, V115, V116, V117, V118, V119, V120, V121, V122, V123, V124, V125, V126, V127, V128, V129, V130, V131, V132, V133, V134, V135, V136, V137, V138, V139, V140, V141, V142, V143, V144, V145, V146, V147, V148, V149, V150, V151, V152, V153, V154, V155, V156, V157, V158, V159, V160, V161, V162, V163, V164, V165, V166, V167, V168, V169, V170, V171, V172, V173, V174, V175, V176, V177, V178, V179, V180, V181, V182, V183, V184, V185, V186, V187, V188, V189, V190, V191, V192, V193, V194, V195, V196, V197, V198, V199, V200, V201, V202, V203, V204, V205, V206, V207, V208, V209, V210, V211, V212, V213, V214, V215, V216, V217, V218, V219, V220, V221, V222, V223, V224, V225, V226, V227, V228, V229, V230, V231, V232, V233, V234, V235, V236, V237, V238, V239, V240, V241, V242, V243, V244, V245, V246, V247, V248, V249, V250, V251, V252, V253, V254, V255, V256, V257, V258, V259, V260, V261, V262, V263, V264, V265, V266, V267, V268, V269, V270, V271, V272, V273, V274, V275, V276, V277, V278, V279, V280, V281, V282, V283, V284, V285, V286, V287, V288, V289, V290, V291, V292, V293, V294, V295, V296, V297, V298, V299, V300, V301, V302, V303, V304, V305, V306, V307, V308, V309, V310, V311, V312, V313, V314, V315, V316, V317, V318, V319, V320, V321, V322, V323, V324, V325, V326, V327, V328, V329, V330, V331, V332, V333, V334, V335, V336, V337, V338, V339, V340, V341, V342, V343, V344, V345, V346, V347, V348, V349, V350, V351, V352, V353, V354, V355, V356, V357, V358, V359, V360, V361, V362, V363, V364, V365, V366, V367, V368, V369, V370, V371, V372, V373, V374, V375, V376, V377, V378, V379, V380, V381, V382, V383, V384, V385, V386, V387, V388, V389, V390, V391, V392, V393, V394, V395, V396, V397, V398, V399, V400, V401, V402, V403, V404, V405, V406, V407, V408, V409, V410, V411, V412, V413, V414, V415, V416, V417, V418, V419, V420, V421, V422, V423, V424, V425, V426, V427, V428, V429, V430, V431, V432, V433, V434, V435, V436, V437, V438, V439, V440, V441, V442, V443, V444, V445, V446, V447, V448, V449, V450, V451, V452, V453, V454, V455, V456, V457, V458, V459, V460, V461, V462, V463, V464, V465, V466, V467, V468, V469, V470, V471, V472, V473, V474, V475, V476, V477, V478, V479, V480, V481, V482, V483, V484, V485, V486, V487, V488, V489, V490, V491, V492, V493, V494, V495, V496, V497, V498, V499, V500, V501, V502, V503, V504, V505, V506, V507, V508, V509, V510, V511, V512, V513, V514, V515, V516, V517, V518, V519, V520, V521, V522, V523, V524, V525, V526, V527, V528, V529, V530, V531, V532, V533, V534, V535, V536, V537, V538, V539, V540, V541, V542, V543, V544, V545, V546, V547, V548, V549, V550, V551, V552, V553, V554, V555, V556, V557, V558, V559, V560, V561, V562, V563, V564, V565, V566, V567, V568, V569, V570, V571, V572, V573, V574, V575, V576, V577, V578, V579, V580, V581, V582, V583, V584, V585, V586, V587, V588, V589, V590, V591, V592, V593, V594, V595, V596, V597, V598, V599, V600, V601, V602, V603, V604, V605, V606, V607, V608, V609, V610, V611, V612, V613, V614, V615, V616, V617, V618, V619, V620, V621, V622, V623, V624, V625, V626, V627, V628, V629, V630, V631, V632, V633, V634, V635, V636, V637, V638, V639, V640, V641, V642, V643, V644, V645, V646, V647, V648, V649, V650, V651, undef, undef, undef, undef, undef, undef, undef, undef, undef, undef, undef, undef, undef, undef, undef, undef, undef, undef, undef, undef, undef, undef, undef, undef, undef, undef, undef, undef, undef, undef, undef, undef, undef, undef, undef, undef, undef, undef, undef, undef, undef, undef, undef, undef, undef, undef, undef, undef, undef, undef, undef, undef, undef, undef, undef, undef, undef, undef, undef, undef, undef, undef, undef, undef, undef, undef, undef, undef, undef, undef, undef, undef, undef, undef, undef, undef, undef, undef, undef, undef, undef, undef, undef, undef, undef, undef, undef, undef, undef, undef, undef, undef, undef, undef, undef, undef, undef, undef, undef, undef, undef, undef, undef, undef, undef, undef, undef, undef, undef, undef, undef, undef, undef, undef, undef, undef, undef, undef, undef, undef, undef, undef, undef, undef] []) wc := by
  conv => arg 2; whnf
  (try conv => arg 4; dsimp only)
  go_upto_if 652 with (fail)
  go_cut [] from 100000 (fun wc => ∃ (kq : Nat), Aside0 (lw_.j10 kq l4 a5 t479 t480 t481 t485 t486 t491 t492 = some r) ∧ Aside0 (kq ≤ kj163) ∧ Aside0 (Kd.R k37 37 wc w.heap.size (fun _ => True) v493 t491) ∧ Aside0 (Below w.heap.size w wc))
  case first =>
   (try conv => arg 2; dsimp only [List.append_eq, List.cons_append, List.nil_append])
   have H := HC192.out
   clear HC192
   by_cases c193 : t471 = true
   ·subst c193
    rw [if_pos rfl] at H
    replace H := Option.bind_eq_some_iff.mp H
    obtain ⟨⟨t500, t501⟩, A1940, H⟩ := H
    (try dsimp only at H)
    have A194 := Aside0.mk A1940
    clear A1940
    have HC195 := Aside0.mk H
    clear H
    go_upto_region 55 with (first | ((with_reducible refine gate_callee (f := 9) rfl ?_); refine goesL_ (some 655) rfl rfl Tryz.func9 (by kernel_rfl) rfl #[.slice A1 l1.length c1] rfl am_ ?_; (with_reducible refine (impl_LongOfLegs.calls kj163 _ _ l1 t500 t501 _ ?side1 ?side2 A194.out).mono ?_); (case side1 => exact cb_ HR1 HB); (case side2 => exact HC1.out); rintro e w196 ⟨rfl, hb⟩; refine ⟨_, rfl, ?_⟩; replace HO_78 := Aside0.mk (Kd.R_below (kd_to HO_78) hb); replace HB := Aside0.mk (below_step (below_to HB) hb); (try clear hb)))
    (try simp only [Act.put, List.setIfInBounds_toArray, List.set_cons_zero, List.set_cons_succ])
    go_cut [686] from 100000 (fun v686 wc => ∃ (kq : Nat) (x686_194 : Bool), v686 = .bool x686_194 ∧ Aside0 (lw_.j8 kq l1 l4 a5 t469 t470 t475 t479 t480 t481 t485 t486 t491 t492 x686_194 = some r) ∧ Aside0 (kq ≤ kj163) ∧ Aside0 (Kd.R k37 37 wc w.heap.size (fun _ => True) v493 t491) ∧ Aside0 (Below w.heap.size w wc))
    case first =>
     (try conv => arg 2; dsimp only [List.append_eq, List.cons_append, List.nil_append])
     have H := HC195.out
     clear HC195
     by_cases c197 : t501 = true
     ·subst c197
      rw [if_pos rfl] at H
      replace H := Option.bind_eq_some_iff.mp H
      obtain ⟨t502, A1980, H⟩ := H
      (try dsimp only at H)
      have A198 := Aside0.mk A1980
      clear A1980
      by_cases c199 : t502 = true
      ·subst c199
       rw [if_pos rfl] at H
       by_cases c200 : t469 < 0
       ·rw [if_pos c200] at H
        have c200b0 := decide_eq_true c200
        clear c200
        (first | rw [c200b0] | (simp only [i64_w, i32_w]; rw [c200b0]) | skip)
        exact absurd H (by rw [HR_.out]; cases kj163 <;> simp [lw_.j8])
       ·rw [if_neg c200] at H
        have c200b0 := decide_eq_false c200
        clear c200
        (first | rw [c200b0] | (simp only [i64_w, i32_w]; rw [c200b0]) | skip)
        by_cases c201 : t469 > (wrap64 (t500 * t470))
        ·rw [if_pos c201] at H
         have c201b0 := decide_eq_true c201
         clear c201
         exact absurd H (by rw [HR_.out]; cases kj163 <;> simp [lw_.j8])
        ·rw [if_neg c201] at H
         have c201b0 := decide_eq_false c201
         clear c201
         by_cases c202 : t475 < 0
         ·rw [if_pos c202] at H
          have c202b0 := decide_eq_true c202
          clear c202
          exact absurd H (by rw [HR_.out]; cases kj163 <;> simp [lw_.j8])
         ·rw [if_neg c202] at H
          have c202b0 := decide_eq_false c202
          clear c202
          have H' := Aside0.mk H
          clear H
          go_wp2_with (first | (go_at_call 20; (with_reducible refine (laws_yLow.calls kj163 t469 t470 true _ A198.out).mono ?_); rintro e w' ⟨rfl, ⟨nd, rfl⟩⟩))
          go_meet
          case rel => exact ⟨_, (decide (t475 ≥ (l1.length : Int))), rt_, H', ⟨by have := HJ6.out; have := HJ23.out; have := HJ66.out; have := HJ163.out; first | omega | exact Nat.le_refl _⟩, ⟨by (with_reducible repeat (first | apply Kd.R_alloc | apply Kd.R_drewN | apply Kd.R_drew)); exact HO_78.out⟩, ⟨below_to HB⟩⟩
      ·replace c199 := Bool.eq_false_iff.mpr c199
       subst c199
       rw [if_neg (show ¬ (false = true) by decide)] at H
       exact absurd H (by rw [HR_.out]; cases kj163 <;> simp [lw_.j8])
     ·replace c197 := Bool.eq_false_iff.mpr c197
      subst c197
      rw [if_neg (show ¬ (false = true) by decide)] at H
      exact absurd H (by rw [HR_.out]; cases kj163 <;> simp [lw_.j8])
    case rest =>
     clear HC195
     (try clear c1); (try clear c4); (try clear c193); (try clear c197); (try clear c199); (try clear c200); (try clear c200b0); (try clear c201); (try clear c201b0); (try clear c202); (try clear c202b0)
     obtain ⟨kq, x686_194, rfl, HA, HJ194, HO_78, HB⟩ := hcut
     cases kq with
     | zero => exact absurd HA.out (by simp [lw_.j8])
     | succ kj194 =>
      have H := HA.out
      clear HA
      simp only [lw_.j8] at H
      by_cases c203 : x686_194 = true
      ·subst c203
       rw [if_pos rfl] at H
       exact absurd (Option.some.inj H).symm (by rw [HR_.out]; decide)
      ·replace c203 := Bool.eq_false_iff.mpr c203
       subst c203
       rw [if_neg (show ¬ (false = true) by decide)] at H
       have H' := Aside0.mk H
       clear H
       go_wp2
       go_loopg [84, 85] kj194 (fun kq v84 v85 w' => ∃ (x84_6 : Int) (x85_6 : Int), v84 = .int .i64 x84_6 ∧ v85 = .int .i64 x85_6 ∧ Aside0 (lw_.l1 kq l1 l4 a5 t469 t470 t475 t479 t480 t481 t485 t486 t491 t492 x84_6 x85_6 = some r) ∧ Aside0 (kq ≤ kj194) ∧ Aside0 (Kd.R k37 37 w' w.heap.size (fun _ => True) v493 t491) ∧ Aside0 (Below w.heap.size w w'))
       case atStart => exact ⟨(0), (0), rt_, rt_, H', ⟨Nat.le_refl _⟩, ⟨by (with_reducible repeat (first | apply Kd.R_alloc | apply Kd.R_drewN | apply Kd.R_drew)); exact HO_78.out⟩, ⟨below_to HB⟩⟩
       case round =>
        clear H'
        (try clear c1); (try clear c4); (try clear c193); (try clear c197); (try clear c199); (try clear c200); (try clear c200b0); (try clear c201); (try clear c201b0); (try clear c202); (try clear c202b0); (try clear c203)
        obtain ⟨x84_6, x85_6, rfl, rfl, HA, HK6, HO_78, HB⟩ := hrel
        cases gk with
        | zero => exact absurd HA.out (by simp [lw_.l1])
        | succ k6 =>
         have H := HA.out
         clear HA
         simp only [lw_.l1] at H
         by_cases c204 : x85_6 < t475
         ·rw [if_pos c204] at H
          have c204b0 := decide_eq_true c204
          clear c204
          by_cases c205 : 0 ≤ x85_6
          ·rw [if_pos c205] at H
           have c205b0 := decide_eq_true c205
           clear c205
           by_cases c206 : x85_6 < (l1.length : Int)
           ·rw [if_pos c206] at H
            have c206b0 := decide_eq_true c206
            clear c206
            have H' := Aside0.mk H
            clear H
            have p503 : 0 ≤ (x85_6 : Int) := odt_
            have q503 : x85_6 < (l1.length : Int) := odt_
            obtain ⟨ad503, e503, hx503_0, hx503_1⟩ := at_T37 HR1.out x85_6 p503 q503
            cases e503
            replace hx503_0 := bx_ HB hx503_0
            replace hx503_1 := bx_ HB hx503_1
            replace p503 := eq_true p503
            replace q503 := eq_true q503
            go_wp2
            go_roundg k6
            case measure => have := HJ6.out; have := HJ23.out; have := HJ66.out; have := HJ163.out; have := HJ194.out; have := HK6.out; omega
            case rel => exact ⟨(wrap64 (x84_6 + ((rd_T37 l1 x85_6).f0))), (wrap64 (x85_6 + 1)), rt_, rt_, H', ⟨by have := HJ6.out; have := HJ23.out; have := HJ66.out; have := HJ163.out; have := HJ194.out; have := HK6.out; omega⟩, ⟨by (with_reducible repeat (first | apply Kd.R_alloc | apply Kd.R_drewN | apply Kd.R_drew)); exact HO_78.out⟩, ⟨below_to HB⟩⟩
           ·rw [if_neg c206] at H
            exact absurd H (by simp)
          ·rw [if_neg c205] at H
           exact absurd H (by simp)
         ·rw [if_neg c204] at H
          have c204b0 := decide_eq_false c204
          clear c204
          by_cases c207 : t469 < (wrap64 (x84_6 * t470))
          ·rw [if_pos c207] at H
           have c207b0 := decide_eq_true c207
           clear c207
           exact absurd (Option.some.inj H).symm (by rw [HR_.out]; decide)
          ·rw [if_neg c207] at H
           have c207b0 := decide_eq_false c207
           clear c207
           by_cases c208 : 0 ≤ t475
           ·rw [if_pos c208] at H
            have c208b0 := decide_eq_true c208
            clear c208
            by_cases c209 : t475 < (l1.length : Int)
            ·rw [if_pos c209] at H
             have c209b0 := decide_eq_true c209
             clear c209
             by_cases c210 : t469 > (wrap64 ((wrap64 (x84_6 + ((rd_T37 l1 t475).f0))) * t470))
             ·rw [if_pos c210] at H
              have c210b0 := decide_eq_true c210
              clear c210
              exact absurd (Option.some.inj H).symm (by rw [HR_.out]; decide)
             ·rw [if_neg c210] at H
              have c210b0 := decide_eq_false c210
              clear c210
              have H' := Aside0.mk H
              clear H
              have p504 : 0 ≤ (t475 : Int) := odt_
              have q504 : t475 < (l1.length : Int) := odt_
              obtain ⟨ad504, e504, hx504_0, hx504_1⟩ := at_T37 HR1.out t475 p504 q504
              cases e504
              replace hx504_0 := bx_ HB hx504_0
              replace hx504_1 := bx_ HB hx504_1
              replace p504 := eq_true p504
              replace q504 := eq_true q504
              go_wp2
              go_meet
              case rel => exact ⟨_, H', ⟨by have := HJ6.out; have := HJ23.out; have := HJ66.out; have := HJ163.out; have := HJ194.out; have := HK6.out; first | omega | exact Nat.le_refl _⟩, ⟨by (with_reducible repeat (first | apply Kd.R_alloc | apply Kd.R_drewN | apply Kd.R_drew)); exact HO_78.out⟩, ⟨below_to HB⟩⟩
            ·rw [if_neg c209] at H
             exact absurd H (by simp)
           ·rw [if_neg c208] at H
            exact absurd H (by simp)
   ·replace c193 := Bool.eq_false_iff.mpr c193
    subst c193
    rw [if_neg (show ¬ (false = true) by decide)] at H
    have H' := Aside0.mk H
    clear H
    go_wp2
    go_meet
    case rel => exact ⟨_, H', ⟨by have := HJ6.out; have := HJ23.out; have := HJ66.out; have := HJ163.out; first | omega | exact Nat.le_refl _⟩, ⟨by (with_reducible repeat (first | apply Kd.R_alloc | apply Kd.R_drewN | apply Kd.R_drew)); exact HO_78.out⟩, ⟨below_to HB⟩⟩
  case rest =>
   clear HC192
   (try clear c1); (try clear c4); (try clear c193); (try clear c197); (try clear c199); (try clear c200); (try clear c200b0); (try clear c201); (try clear c201b0); (try clear c202); (try clear c202b0); (try clear c203); (try clear c204); (try clear c204b0); (try clear c205); (try clear c205b0); (try clear c206); (try clear c206b0); (try clear c207); (try clear c207b0); (try clear c208); (try clear c208b0); (try clear c209); (try clear c209b0); (try clear c210); (try clear c210b0); (try clear hx503_0); (try clear hx503_1); (try clear hx504_0); (try clear hx504_1); (try clear p503); (try clear p504); (try clear q503); (try clear q504)
   obtain ⟨kq, HA, HJ191, HO_78, HB⟩ := hcut
   go_step
   exact lw_.seg4 k A4 c4 l4 a5 r w HTab_ HR_ hu37 HR4 kj6 HJ6 kj23 HJ23 kj66 HJ66 t479 t480 t481 t485 t486 t491 t492 nd v493 kj163 HJ163 wc u12 kq HA HJ191 HO_78 HB
end Go.Proofs.YtbhnpccbjgbcbaaGreatDoor.QT
