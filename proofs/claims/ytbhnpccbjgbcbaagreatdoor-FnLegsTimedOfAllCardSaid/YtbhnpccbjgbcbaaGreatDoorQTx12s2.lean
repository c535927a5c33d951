-- WRITTEN BY a program of this session (wip/xprint.py, over the kit's print): Lean checks it.
import Derived.Test.YtbhnpccbjgbcbaaGreatDoorQTx12d
import Derived.Test.YtbhnpccbjgbcbaaGreatDoorQTx12s3
namespace Go.Proofs.YtbhnpccbjgbcbaaGreatDoor.QT
open Go.Proofs.YtbhnpccbjgbcbaaGreatDoor.X Go.RowKit Go.Proofs.YtbhnpccbjgbcbaaGreatDoorW.PrintWords Go.Proofs.YtbhnpccbjgbcbaaGreatDoorW.PrintLast Go.Proofs.YtbhnpccbjgbcbaaGreatDoorW.PrintMore
attribute [local go_sem] max2_int min2_int max_two min_two max_three min_three max_four min_four   -- for this text's walks alone
set_option linter.unusedVariables false
set_option linter.unusedSimpArgs false

set_option maxHeartbeats 16000000 in
set_option maxRecDepth 1000000 in
theorem lw_.seg2 {V0 V6 V7 V8 V9 V10 V11 V13 V14 V15 V16 V17 V18 V19 V20 V21 V22 V23 V24 V25 V26 V27 V28 V29 V30 V31 V32 V33 V34 V35 V36 V37 V38 V39 V40 V41 V42 V43 V44 V45 V46 V47 V48 V49 V50 V51 V52 V53 V54 V55 V87 V91 V92 V93 V94 V95 V96 V97 V98 V99 V100 V101 V102 V103 V104 V105 V106 V107 V108 V109 V110 V111 V112 V113 V114 V115 V116 V117 V118 V119 V120 V121 V122 V123 V124 V125 V126 V127 V128 V129 V130 V131 V132 V133 V134 V135 V136 V137 V138 V139 V140 V141 V142 V143 V144 V145 V146 V147 V148 V149 V150 V151 V152 V153 V154 V155 V156 V157 V158 V159 V160 V161 V162 V163 V164 V165 V166 V167 V168 V169 V170 V171 V172 V173 V174 V175 V176 V177 V178 V179 V180 V181 V182 V183 V184 V185 V186 V187 V188 V189 V190 V191 V192 V193 V194 V195 V196 V197 V198 V199 V200 V201 V202 V203 V204 V205 V206 V207 V208 V209 V210 V211 V212 V213 V214 V215 V216 V217 V218 V219 V220 V221 V222 V223 V224 V225 V226 V227 V228 V229 V230 V231 V232 V233 V234 V235 V236 V237 V238 V239 V240 V241 V242 V243 V244 V245 V246 V247 V248 V249 V250 V251 V252 V253 V254 V255 V256 V257 V258 V259 V260 V261 V262 V263 V264 V265 V266 V267 V268 V269 V270 V271 V272 V273 V274 V275 V276 V277 V278 V279 V280 V281 V282 V283 V284 V285 V286 V287 V288 V289 V290 V291 V292 V293 V294 V295 V296 V297 V298 V299 V300 V301 V302 V303 V304 V305 V306 V307 V308 V309 V310 V311 V312 V313 V314 V315 V316 V317 V318 V319 V320 V321 V322 V323 V324 V325 V326 V327 V328 V329 V330 V331 V332 V333 V334 V335 V336 V337 V338 V339 V340 V341 V342 V343 V344 V345 V346 V347 V348 V349 V350 V351 V352 V353 V354 V355 V356 V357 V358 V359 V360 V361 V362 V363 V364 V365 V366 V367 V368 V369 V370 V371 V372 V373 V374 V375 V376 V377 V378 V379 V380 V381 V382 V383 V384 V385 V386 V387 V388 V389 V390 V391 V392 V393 V394 V395 V396 V397 V398 V399 V400 V401 V402 V403 V404 V405 V406 V407 V408 V409 V410 V411 V412 V413 V414 V415 V416 V417 V418 V419 V420 V421 V422 V423 V424 V425 V426 V427 V428 V429 V430 V431 V432 V433 V434 V435 V436 V437 V438 V439 V440 V441 V442 V443 V444 V445 V446 V447 V448 V449 V450 V451 V452 V453 V454 V455 V456 V457 V458 V459 V460 V461 V462 V463 V464 V465 V466 V467 V468 V469 V470 V471 V472 V473 V474 V475 V476 V477 V478 V479 V480 V481 V482 V483 V484 V485 V486 V487 V488 V489 V490 V491 V492 V493 V494 V495 V496 V497 V498 V499 V500 V501 V502 V503 V504 V505 V506 V507 V508 V509 V510 V511 V512 V513 : Go.Value} (k : Nat) (A1 : Option Addr) (c1 : Nat) (l1 : List S37) (a2 a3 : Int) (A4 : Option Addr) (c4 : Nat) (l4 : List Int) (a5 : ByteArray) (r : Bool) (w : World) (HTab_ : Aside0 (YtbhnpccbjgbcbaaGreatDoor.XText.T2 w)) (HR_ : Aside0 (r = Bool.true)) (hu37 : Program.underlying Tryz.prog (37 : Nat) = Option.some (TypeDesc.struct #[Field.mk "Long" (3 : Nat) (0 : Nat) Bool.false "" "" (0 : Nat), Field.mk "Fast" (3 : Nat) (1 : Nat) Bool.false "" "" (8 : Nat)])) (HR1 : Aside0 (Kd.C k37 w A1 (List.length l1) l1)) (HC1 : Aside0 (List.length l1 ≤ c1)) (HR4 : Aside0 (Kd.C (Kd.int IntKind.i64) w A4 (List.length l4) l4)) (HC4 : Aside0 (List.length l4 ≤ c4)) (kj6 : Nat) (HJ6 : Aside0 (kj6 + (1 : Nat) ≤ k)) (kj23 : Nat) (HJ23 : Aside0 (kj23 + (1 : Nat) ≤ kj6)) (wc : World) (u12 : Value) (kq : Nat) (HA : Aside0 (lw_.j6 kq l1 a2 a3 l4 a5 = Option.some r)) (HJ66 : Aside0 (kq ≤ kj23)) (HB : Aside0 (Below (Array.size (World.heap w)) w wc)) :
    Go.Code.wp Tryz.prog (lw_.behind 280 lw_.body) (bodyPost Tryz.prog Tryz.f3 (fun e w' => e = .returned (.bool r) ∧ Below w.heap.size w w')) (Go.Act.mk #[V0, Value.slice A1 (List.length l1) c1, Value.int IntKind.i64 a2, Value.int IntKind.i64 a3, Value.slice A4 (List.length l4) c4, Value.string a5, V6, V7, V8, V9, V10, V11, u12, V13, V14, V15, V16, V17, V18, V19, V20, V21, V22, V23, V24, V25, V26, V27, V28, V29, V30, V31, V32, V33, V34, V35, V36, V37, V38, V39, V40, V41, V42, V43, V44, V45, V46, V47, V48, V49, V50, V51, V52, V53, V54, V55, undef, undef, undef, undef, undef, undef, undef, undef, undef, undef, undef, undef, undef, undef, undef, undef, undef, undef, undef, undef, undef, undef, undef, undef, undef, undef, undef, undef, undef, undef, undef, V87, undef, undef, undef, V91, V92, V93, V94, V95, V96, V97, V98, V99, V100, V101, V102, V103, V104, V105, V106, V107, V108, V109, V110, V111, V112, V113, V114, V115, V116, V117, V118, V119, V120, V121, V122, V123, V124, V125, V126, V127, V128, V129, V130, V131, V132, V133, V134, V135, V136, V137, V138, V139, V140, V141, V142, V143, V144, V145, V146, V147, V148, V149, V150, V151, V152, V153, V154, V155, V156, V157, V158, V159, V160, V161, V162, V163, V164, V165, V166, V167, V168, V169, V170, V171, V172, V173, V174, V175, V176, V177, V178, V179, V180, V181, V182, V183, V184, V185, V186, V187, V188, V189, V190, V191, V192, V193, V194, V195, V196, V197, V198, V199, V200, V201, V202, V203, V204, V205, V206, V207, V208, V209, V210, V211, V212, V213, V214, V215, V216, V217, V218, V219, V220, V221, V222, V223, V224, V225, V226, V227, V228, V229, V230, V231, V232, V233, V234, V235, V236, V237, V238, V239, V240, V241, V242, V243, V244, V245, V246, V247, V248, V249, V250, V251, V252, V253, V254, V255, V256, V257, V258, V259, V260, V261, V262, V263, V264, V265, V266, V267, V268, V269, V270, V271, V272, V273, V274, V275, V276, V277, V278, V279, V280, V281, V282, V283, V284, V285, V286, V287, V288, V289, V290, V291, V292, V293, V294, V295, V296, V297, V298, V299, V300, V301, V302, V303, V304, V305, V306, V307, V308, V309, V310, V311, V312, V313, V314, V315, V316, V317, V318, V319, V320, V321, V322, V323, V324, V325, V326, V327, V328, V329, V330, V331, V332, V333, V334, V335, V336, V337, V338, V339, V340, V341, V342, V343, V344, V345, V346, V347, V348, V349, V350, V351, V352, V353, V354, V355, V356, V357, V358, V359, V360, V361, V362, V363, V364, V365, V366, V367, V368, V369, V370, V371, V372, V373, V374, V375, V376, V377, V378, V379, V380, V381, V382, V383, V384, V385, V386, V387, V388, V389, V390, V391, V392, V393, V394, V395, V396, V397, V398, V399, V400, V401, V402, V403, V404, V405, V406, V407, V408, V409, V410, V411, V412, V413, V414, V415, V416, V417, V418, V419, V420, V421, V422, V423, V424, V425, V426, V427, V428, V429, V430, V431, V432, V433, V434, V435, V436, V437, V438, V439, V440, V441, V442, V443, V444, V445, V446, V447, V448, V449, V450, V451, V452, V453, V454, V455, V456, V457, V458, V459, V460, V461, V462, V463, V464, V465, V466, V467, V468, V469, V470, V471, V472, V473, V474, V475, V476, V477, V478, V479, V480, V481, V482, V483, V484, V485, V486, V487, V488, V489, V490, V491, V492, V493, V494, V495, V496, V497, V498, V499, V500, V501, V502, V503, V504, V505, V506, V507, V508, V509, V510, V511, V512, V513, undef, undef, undef, undef, undef, undef, undef, undef, undef, undef, undef, undef, undef, undef, undef, undef, undef, undef, undef, undef, undef, undef, undef, undef, undef, undef, undef, undef, undef, undef, undef, undef, undef, undef, undef, undef, undef, undef, undef, undef, undef, undef, undef, undef, undef, undef, undef, undef, undef, undef, undef, undef, undef, undef, undef, undef, undef, undef, undef, undef, undef, undef, undef, undef, undef, undef, undef, undef, undef, undef, undef, undef, undef, undef, undef, undef, undef, undef, undef, undef, undef, undef, undef, undef, undef, undef, undef, undef, undef, undef, undef, undef, undef, undef, undef, undef, undef, undef, undef, undef, undef, undef, undef, undef, undef, undef, undef, undef, undef, undef, undef, undef, undef, undef, undef, undef, undef, undef, undef, undef, undef, undef, undef, undef, undef, undef, undef, undef, undef, undef, undef, undef, undef, undef, undef, undef, undef, undef, undef, undef, undef, undef, undef, undef, undef, undef, undef, undef, undef, undef, undef, undef, undef, undef, undef, undef, undef, undef, undef, undef, undef, undef, undef, undef, undef, undef, undef, undef, undef, undef, undef, undef, undef, undef, undef, undef, undef, undef, undef, undef, undef, undef, undef, undef, undef, undef, undef, undef, undef, undef, undef, undef, undef, undef, undef, undef, undef, undef, undef, undef, undef, undef, undef, undef, undef, undef, undef, undef, undef, undef, undef, undef, undef, undef, undef, undef, undef, undef, undef, undef, undef, undef, undef, undef, undef, undef, undef, undef, undef, undef, undef, undef, undef, undef, undef, undef, undef, undef, undef, undef, undef, undef, undef, undef, undef, undef, undef, undef, undef, undef, undef, undef, undef, undef, undef, undef, undef, undef, undef, undef, undef, undef] []) wc := by
  conv => arg 2; whnf
  (try conv => arg 4; dsimp only)
  cases kq with
  | zero => exact absurd HA.out (by simp [lw_.j6])
  | succ kj66 =>
   have H := HA.out
   clear HA
   simp only [lw_.j6] at H
   replace H := Option.bind_eq_some_iff.mp H
   obtain ⟨⟨t469, t470, t471⟩, A1540, H⟩ := H
   (try dsimp only at H)
   have A154 := Aside0.mk A1540
   clear A1540
   replace H := Option.bind_eq_some_iff.mp H
   obtain ⟨⟨t472, t473, t474⟩, A1550, H⟩ := H
   (try dsimp only at H)
   have A155 := Aside0.mk A1550
   clear A1550
   replace H := Option.bind_eq_some_iff.mp H
   obtain ⟨⟨t475, t476⟩, A1560, H⟩ := H
   (try dsimp only at H)
   have A156 := Aside0.mk A1560
   clear A1560
   replace H := Option.bind_eq_some_iff.mp H
   obtain ⟨⟨t477, t478⟩, A1570, H⟩ := H
   (try dsimp only at H)
   have A157 := Aside0.mk A1570
   clear A1570
   replace H := Option.bind_eq_some_iff.mp H
   obtain ⟨⟨t479, t480, t481⟩, A1580, H⟩ := H
   (try dsimp only at H)
   have A158 := Aside0.mk A1580
   clear A1580
   replace H := Option.bind_eq_some_iff.mp H
   obtain ⟨⟨t482, t483, t484⟩, A1590, H⟩ := H
   (try dsimp only at H)
   have A159 := Aside0.mk A1590
   clear A1590
   replace H := Option.bind_eq_some_iff.mp H
   obtain ⟨⟨t485, t486, t487⟩, A1600, H⟩ := H
   (try dsimp only at H)
   have A160 := Aside0.mk A1600
   clear A1600
   replace H := Option.bind_eq_some_iff.mp H
   obtain ⟨⟨t488, t489, t490⟩, A1610, H⟩ := H
   (try dsimp only at H)
   have A161 := Aside0.mk A1610
   clear A1610
   replace H := Option.bind_eq_some_iff.mp H
   obtain ⟨⟨t491, t492⟩, A1620, H⟩ := H
   (try dsimp only at H)
   have A162 := Aside0.mk A1620
   clear A1620
   replace H := Option.bind_eq_some_iff.mp H
   obtain ⟨⟨t495, t496⟩, A1630, H⟩ := H
   (try dsimp only at H)
   have A163 := Aside0.mk A1630
   clear A1630
   have HC164 := Aside0.mk H
   clear H
   go_upto_region 51 with (first | ((with_reducible refine gate_callee (f := 21) rfl ?_); refine goesL_ (some 518) rfl rfl Tryz.func21 (by kernel_rfl) rfl #[.slice A1 l1.length c1, .int .i64 a2, .int .i64 a3] rfl am_ ?_; (with_reducible refine (impl_PlaceOnLegs.calls kj66 _ _ l1 a2 a3 t469 t470 t471 _ ?side1 ?side2 A154.out).mono ?_); (case side1 => exact cb_ HR1 HB); (case side2 => exact HC1.out); rintro e w165 ⟨rfl, hb⟩; refine ⟨_, rfl, ?_⟩; replace HB := Aside0.mk (below_step (below_to HB) hb); (try clear hb)) | ((with_reducible refine gate_callee (f := 25) rfl ?_); refine goesL_ (some 526) rfl rfl Tryz.func25 (by kernel_rfl) rfl #[.slice A1 l1.length c1, .int .i64 a2, .int .i64 a3] rfl am_ ?_; (with_reducible refine (spec_PlaceOnLegs.calls kj66 _ _ l1 a2 a3 t472 t473 t474 _ ?side1 ?side2 A155.out).mono ?_); (case side1 => exact cb_ HR1 HB); (case side2 => exact HC1.out); rintro e w166 ⟨rfl, hb⟩; refine ⟨_, rfl, ?_⟩; replace HB := Aside0.mk (below_step (below_to HB) hb); (try clear hb)) | ((with_reducible refine gate_callee (f := 22) rfl ?_); refine goesL_ (some 534) rfl rfl Tryz.func22 (by kernel_rfl) rfl #[.slice A1 l1.length c1, .int .i64 a2, .int .i64 a3] rfl am_ ?_; (with_reducible refine (impl_LegAt.calls kj66 _ _ l1 a2 a3 t475 t476 _ ?side1 ?side2 A156.out).mono ?_); (case side1 => exact cb_ HR1 HB); (case side2 => exact HC1.out); rintro e w167 ⟨rfl, hb⟩; refine ⟨_, rfl, ?_⟩; replace HB := Aside0.mk (below_step (below_to HB) hb); (try clear hb)) | ((with_reducible refine gate_callee (f := 26) rfl ?_); refine goesL_ (some 541) rfl rfl Tryz.func26 (by kernel_rfl) rfl #[.slice A1 l1.length c1, .int .i64 a2, .int .i64 a3] rfl am_ ?_; (with_reducible refine (spec_LegAt.calls kj66 _ _ l1 a2 a3 t477 t478 _ ?side1 ?side2 A157.out).mono ?_); (case side1 => exact cb_ HR1 HB); (case side2 => exact HC1.out); rintro e w168 ⟨rfl, hb⟩; refine ⟨_, rfl, ?_⟩; replace HB := Aside0.mk (below_step (below_to HB) hb); (try clear hb)) | ((with_reducible refine gate_callee (f := 27) rfl ?_); refine goesL_ (some 546) rfl rfl Tryz.func27 (by kernel_rfl) rfl #[.slice A4 l4.length c4] rfl am_ ?_; (with_reducible refine (impl_MeanByHalves.calls kj66 _ _ l4 t479 t480 t481 _ ?side1 ?side2 A158.out).mono ?_); (case side1 => exact cb_ HR4 HB); (case side2 => exact HC4.out); rintro e w169 ⟨rfl, hb⟩; refine ⟨_, rfl, ?_⟩; replace HB := Aside0.mk (below_step (below_to HB) hb); (try clear hb)) | ((with_reducible refine gate_callee (f := 28) rfl ?_); refine goesL_ (some 552) rfl rfl Tryz.func28 (by kernel_rfl) rfl #[.slice A4 l4.length c4] rfl am_ ?_; (with_reducible refine (spec_MeanByHalves.calls kj66 _ _ l4 t482 t483 t484 _ ?side1 ?side2 A159.out).mono ?_); (case side1 => exact cb_ HR4 HB); (case side2 => exact HC4.out); rintro e w170 ⟨rfl, hb⟩; refine ⟨_, rfl, ?_⟩; replace HB := Aside0.mk (below_step (below_to HB) hb); (try clear hb)) | ((with_reducible refine gate_callee (f := 29) rfl ?_); refine goesL_ (some 558) rfl rfl Tryz.func29 (by kernel_rfl) rfl #[.slice A4 l4.length c4] rfl am_ ?_; (with_reducible refine (impl_MeanByTimes.calls kj66 _ _ l4 t485 t486 t487 _ ?side1 ?side2 A160.out).mono ?_); (case side1 => exact cb_ HR4 HB); (case side2 => exact HC4.out); rintro e w171 ⟨rfl, hb⟩; refine ⟨_, rfl, ?_⟩; replace HB := Aside0.mk (below_step (below_to HB) hb); (try clear hb)) | ((with_reducible refine gate_callee (f := 30) rfl ?_); refine goesL_ (some 564) rfl rfl Tryz.func30 (by kernel_rfl) rfl #[.slice A4 l4.length c4] rfl am_ ?_; (with_reducible refine (spec_MeanByTimes.calls kj66 _ _ l4 t488 t489 t490 _ ?side1 ?side2 A161.out).mono ?_); (case side1 => exact cb_ HR4 HB); (case side2 => exact HC4.out); rintro e w' ⟨rfl, ⟨nd, rfl⟩⟩; refine ⟨_, rfl, ?_⟩) | ((with_reducible refine gate_callee (f := 23) rfl ?_); refine goesL_ (some 570) rfl rfl Tryz.func23 (by kernel_rfl) rfl #[.string a5] rfl am_ ?_; (with_reducible refine (impl_ParseLegs.calls kj66 a5 t491 t492 _ A162.out ?sidet).mono ?_); (case sidet => refine Go.Proofs.YtbhnpccbjgbcbaaGreatDoor.XText.T2.on (w := w) HTab_.out ?_; repeat (first | (with_reducible first | exact HB.out | exact Below.refl _ _ | apply below_alloc | apply pw_below_drewN | apply below_drew1 | refine below_set ?_ GE434.out) | exact HB.out | exact Below.refl _ _)); rintro e w172 ⟨v493, rfl, ho0, hb⟩; refine ⟨_, rfl, ?_⟩; have HO494 := Aside0.mk (Kd.R_lower ho0 (below_size (below_to HB))); replace HB := Aside0.mk (below_step (below_to HB) hb); (try clear hb); (try clear ho0)) | ((with_reducible refine gate_callee (f := 31) rfl ?_); refine goesL_ (some 575) rfl rfl Tryz.func31 (by kernel_rfl) rfl #[.string a5] rfl am_ ?_; (with_reducible refine (spec_ParseLegs.calls kj66 a5 t495 t496 _ A163.out).mono ?_); rintro e w173 ⟨v497, rfl, ho0, hb⟩; refine ⟨_, rfl, ?_⟩; have n0_ := Aside0.mk (Kd.R_elder' (kd_to HO494) (Kd.R_base ho0) hb); have n1_ := Aside0.mk (Kd.R_lower (Kd.R_new' ho0 (Kd.R_lt (kd_to HO494))) (below_size (below_to HB))); have n2_ := Aside0.mk (below_step (below_to HB) hb); clear HO494; clear HB; have HO494 := n0_; have HO498 := n1_; have HB := n2_; clear n0_ n1_ n2_; (try clear hb); (try clear ho0)))
   (try simp only [Act.put, List.setIfInBounds_toArray, List.set_cons_zero, List.set_cons_succ])
   go_cut [651] from 100000 (fun v651 wc => ∃ (kq : Nat) (x651_163 : Bool), v651 = .bool x651_163 ∧ Aside0 (lw_.j7 kq l1 l4 a5 t469 t470 t471 t475 t479 t480 t481 t485 t486 t491 t492 x651_163 = some r) ∧ Aside0 (kq ≤ kj66) ∧ Aside0 (Kd.R k37 37 wc w.heap.size (fun _ => True) v493 t491) ∧ Aside0 (Below w.heap.size w wc))
   case first =>
    (try conv => arg 2; dsimp only [List.append_eq, List.cons_append, List.nil_append])
    have H := HC164.out
    clear HC164
    by_cases c174 : (t471 != t474) = true
    ·rw [if_pos c174] at H
     have c174b0 : (t471 != t474) = true := c174
     (try (have c174b1 : decide (t471 = t474) = false := by simpa using c174))
     (try (have c174b2 : (t471 == t474) = false := by simpa using c174))
     (try (have c174b3 : ¬ (t471 = t474) := by simpa using c174))
     clear c174
     (first | rw [c174b0] | (simp only [i64_w, i32_w]; rw [c174b0]) | skip)
     exact absurd H (by rw [HR_.out]; cases kj66 <;> simp [lw_.j7])
    ·rw [if_neg c174] at H
     have c174b0 : (t471 != t474) = false := by simpa using c174
     (try (have c174b1 : decide (t471 = t474) = true := by simpa using c174))
     (try (have c174b2 : (t471 == t474) = true := by simpa using c174))
     clear c174
     (first | rw [c174b0] | (simp only [i64_w, i32_w]; rw [c174b0]) | skip)
     by_cases c175 : t469 = t472
     ·rw [if_pos c175] at H
      have c175b0 := beq_iff_eq.mpr c175
      have c175b1 := bne_eq_false_iff_eq.mpr c175
      clear c175
      by_cases c176 : t470 = t473
      ·rw [if_pos c176] at H
       have c176b0 := beq_iff_eq.mpr c176
       have c176b1 := bne_eq_false_iff_eq.mpr c176
       clear c176
       by_cases c177 : (t476 != t478) = true
       ·rw [if_pos c177] at H
        have c177b0 : (t476 != t478) = true := c177
        (try (have c177b1 : decide (t476 = t478) = false := by simpa using c177))
        (try (have c177b2 : (t476 == t478) = false := by simpa using c177))
        (try (have c177b3 : ¬ (t476 = t478) := by simpa using c177))
        clear c177
        exact absurd H (by rw [HR_.out]; cases kj66 <;> simp [lw_.j7])
       ·rw [if_neg c177] at H
        have c177b0 : (t476 != t478) = false := by simpa using c177
        (try (have c177b1 : decide (t476 = t478) = true := by simpa using c177))
        (try (have c177b2 : (t476 == t478) = true := by simpa using c177))
        clear c177
        by_cases c178 : t475 = t477
        ·rw [if_pos c178] at H
         have c178b0 := beq_iff_eq.mpr c178
         have c178b1 := bne_eq_false_iff_eq.mpr c178
         clear c178
         by_cases c179 : (t476 != t471) = true
         ·rw [if_pos c179] at H
          have c179b0 : (t476 != t471) = true := c179
          (try (have c179b1 : decide (t476 = t471) = false := by simpa using c179))
          (try (have c179b2 : (t476 == t471) = false := by simpa using c179))
          (try (have c179b3 : ¬ (t476 = t471) := by simpa using c179))
          clear c179
          exact absurd H (by rw [HR_.out]; cases kj66 <;> simp [lw_.j7])
         ·rw [if_neg c179] at H
          have c179b0 : (t476 != t471) = false := by simpa using c179
          (try (have c179b1 : decide (t476 = t471) = true := by simpa using c179))
          (try (have c179b2 : (t476 == t471) = true := by simpa using c179))
          clear c179
          by_cases c180 : (t481 != t484) = true
          ·rw [if_pos c180] at H
           have c180b0 : (t481 != t484) = true := c180
           (try (have c180b1 : decide (t481 = t484) = false := by simpa using c180))
           (try (have c180b2 : (t481 == t484) = false := by simpa using c180))
           (try (have c180b3 : ¬ (t481 = t484) := by simpa using c180))
           clear c180
           exact absurd H (by rw [HR_.out]; cases kj66 <;> simp [lw_.j7])
          ·rw [if_neg c180] at H
           have c180b0 : (t481 != t484) = false := by simpa using c180
           (try (have c180b1 : decide (t481 = t484) = true := by simpa using c180))
           (try (have c180b2 : (t481 == t484) = true := by simpa using c180))
           clear c180
           by_cases c181 : t479 = t482
           ·rw [if_pos c181] at H
            have c181b0 := beq_iff_eq.mpr c181
            have c181b1 := bne_eq_false_iff_eq.mpr c181
            clear c181
            by_cases c182 : t480 = t483
            ·rw [if_pos c182] at H
             have c182b0 := beq_iff_eq.mpr c182
             have c182b1 := bne_eq_false_iff_eq.mpr c182
             clear c182
             by_cases c183 : (t487 != t490) = true
             ·rw [if_pos c183] at H
              have c183b0 : (t487 != t490) = true := c183
              (try (have c183b1 : decide (t487 = t490) = false := by simpa using c183))
              (try (have c183b2 : (t487 == t490) = false := by simpa using c183))
              (try (have c183b3 : ¬ (t487 = t490) := by simpa using c183))
              clear c183
              exact absurd H (by rw [HR_.out]; cases kj66 <;> simp [lw_.j7])
             ·rw [if_neg c183] at H
              have c183b0 : (t487 != t490) = false := by simpa using c183
              (try (have c183b1 : decide (t487 = t490) = true := by simpa using c183))
              (try (have c183b2 : (t487 == t490) = true := by simpa using c183))
              clear c183
              by_cases c184 : t485 = t488
              ·rw [if_pos c184] at H
               have c184b0 := beq_iff_eq.mpr c184
               have c184b1 := bne_eq_false_iff_eq.mpr c184
               clear c184
               by_cases c185 : t486 = t489
               ·rw [if_pos c185] at H
                have c185b0 := beq_iff_eq.mpr c185
                have c185b1 := bne_eq_false_iff_eq.mpr c185
                clear c185
                by_cases c186 : (t487 != t481) = true
                ·rw [if_pos c186] at H
                 have c186b0 : (t487 != t481) = true := c186
                 (try (have c186b1 : decide (t487 = t481) = false := by simpa using c186))
                 (try (have c186b2 : (t487 == t481) = false := by simpa using c186))
                 (try (have c186b3 : ¬ (t487 = t481) := by simpa using c186))
                 clear c186
                 exact absurd H (by rw [HR_.out]; cases kj66 <;> simp [lw_.j7])
                ·rw [if_neg c186] at H
                 have c186b0 : (t487 != t481) = false := by simpa using c186
                 (try (have c186b1 : decide (t487 = t481) = true := by simpa using c186))
                 (try (have c186b2 : (t487 == t481) = true := by simpa using c186))
                 clear c186
                 by_cases c187 : (t492 != t496) = true
                 ·rw [if_pos c187] at H
                  have c187b0 : (t492 != t496) = true := c187
                  (try (have c187b1 : decide (t492 = t496) = false := by simpa using c187))
                  (try (have c187b2 : (t492 == t496) = false := by simpa using c187))
                  (try (have c187b3 : ¬ (t492 = t496) := by simpa using c187))
                  clear c187
                  exact absurd H (by rw [HR_.out]; cases kj66 <;> simp [lw_.j7])
                 ·rw [if_neg c187] at H
                  have c187b0 : (t492 != t496) = false := by simpa using c187
                  (try (have c187b1 : decide (t492 = t496) = true := by simpa using c187))
                  (try (have c187b2 : (t492 == t496) = true := by simpa using c187))
                  clear c187
                  replace H := Option.bind_eq_some_iff.mp H
                  obtain ⟨t499, A1880, H⟩ := H
                  (try dsimp only at H)
                  have A188 := Aside0.mk A1880
                  clear A1880
                  have H' := Aside0.mk H
                  clear H
                  obtain ⟨Ao189, co189, eo189⟩ := Kd.R_slice HO494.out
                  subst eo189
                  obtain ⟨Ao190, co190, eo190⟩ := Kd.R_slice HO498.out
                  subst eo190
                  go_wp2_with (first | (go_at_call 24; (with_reducible refine (laws_yLegs.calls kj66 _ _ t491 _ _ t495 t499 _ ?side1 ?side2 ?side3 ?side4 A188.out).mono ?_); (case side1 => repeat (first | exact (Kd.R_reads' HO494.out).2.2 | (with_reducible refine Kd.C_alloc ?_ _) | (with_reducible refine Kd.C_drewN ?_ _) | (with_reducible refine Kd.C_drew ?_))); (case side2 => exact (Kd.R_reads' HO494.out).2.1); (case side3 => repeat (first | exact (Kd.R_reads' HO498.out).2.2 | (with_reducible refine Kd.C_alloc ?_ _) | (with_reducible refine Kd.C_drewN ?_ _) | (with_reducible refine Kd.C_drew ?_))); (case side4 => exact (Kd.R_reads' HO498.out).2.1); rintro e w' ⟨rfl, ⟨nd, rfl⟩⟩))
                  go_meet
                  case rel => exact ⟨_, (!t499), rt_, H', ⟨by have := HJ6.out; have := HJ23.out; have := HJ66.out; first | omega | exact Nat.le_refl _⟩, ⟨by (with_reducible repeat (first | apply Kd.R_alloc | apply Kd.R_drewN | apply Kd.R_drew)); exact Kd.R_mono HO494.out (fun _ hk => trivial)⟩, ⟨below_to HB⟩⟩
               ·rw [if_neg c185] at H
                have c185b0 := beq_eq_false_iff_ne.mpr c185
                have c185b1 := bne_iff_ne.mpr c185
                exact absurd H (by rw [HR_.out]; cases kj66 <;> simp [lw_.j7])
              ·rw [if_neg c184] at H
               have c184b0 := beq_eq_false_iff_ne.mpr c184
               have c184b1 := bne_iff_ne.mpr c184
               exact absurd H (by rw [HR_.out]; cases kj66 <;> simp [lw_.j7])
            ·rw [if_neg c182] at H
             have c182b0 := beq_eq_false_iff_ne.mpr c182
             have c182b1 := bne_iff_ne.mpr c182
             exact absurd H (by rw [HR_.out]; cases kj66 <;> simp [lw_.j7])
           ·rw [if_neg c181] at H
            have c181b0 := beq_eq_false_iff_ne.mpr c181
            have c181b1 := bne_iff_ne.mpr c181
            exact absurd H (by rw [HR_.out]; cases kj66 <;> simp [lw_.j7])
        ·rw [if_neg c178] at H
         have c178b0 := beq_eq_false_iff_ne.mpr c178
         have c178b1 := bne_iff_ne.mpr c178
         exact absurd H (by rw [HR_.out]; cases kj66 <;> simp [lw_.j7])
      ·rw [if_neg c176] at H
       have c176b0 := beq_eq_false_iff_ne.mpr c176
       have c176b1 := bne_iff_ne.mpr c176
       exact absurd H (by rw [HR_.out]; cases kj66 <;> simp [lw_.j7])
     ·rw [if_neg c175] at H
      have c175b0 := beq_eq_false_iff_ne.mpr c175
      have c175b1 := bne_iff_ne.mpr c175
      exact absurd H (by rw [HR_.out]; cases kj66 <;> simp [lw_.j7])
   case rest =>
    clear HC164
    (try clear c1); (try clear c4); (try clear c174); (try clear c174b0); (try clear c174b1); (try clear c174b2); (try clear c175); (try clear c175b0); (try clear c175b1); (try clear c176); (try clear c176b0); (try clear c176b1); (try clear c177); (try clear c177b0); (try clear c177b1); (try clear c177b2); (try clear c178); (try clear c178b0); (try clear c178b1); (try clear c179); (try clear c179b0); (try clear c179b1); (try clear c179b2); (try clear c180); (try clear c180b0); (try clear c180b1); (try clear c180b2); (try clear c181); (try clear c181b0); (try clear c181b1); (try clear c182); (try clear c182b0); (try clear c182b1); (try clear c183); (try clear c183b0); (try clear c183b1); (try clear c183b2); (try clear c184); (try clear c184b0); (try clear c184b1); (try clear c185); (try clear c185b0); (try clear c185b1); (try clear c186); (try clear c186b0); (try clear c186b1); (try clear c186b2); (try clear c187); (try clear c187b0); (try clear c187b1); (try clear c187b2)
    obtain ⟨kq, x651_163, rfl, HA, HJ163, HO_78, HB⟩ := hcut
    cases kq with
    | zero => exact absurd HA.out (by simp [lw_.j7])
    | succ kj163 =>
     have H := HA.out
     clear HA
     simp only [lw_.j7] at H
     by_cases c191 : x651_163 = true
     ·subst c191
      rw [if_pos rfl] at H
      exact absurd (Option.some.inj H).symm (by rw [HR_.out]; decide)
     ·replace c191 := Bool.eq_false_iff.mpr c191
      subst c191
      rw [if_neg (show ¬ (false = true) by decide)] at H
      have HC192 := Aside0.mk H
      clear H
      go_step
      go_step
      go_step
      go_step
      go_step
      exact lw_.seg3 k A1 c1 l1 A4 c4 l4 a5 r w HTab_ HR_ hu37 HR1 HC1 HR4 kj6 HJ6 kj23 HJ23 u12 kj66 HJ66 t469 t470 t471 t475 t479 t480 t481 t485 t486 t491 t492 nd v493 wc HO_78 HB kj163 HJ163 HC192
end Go.Proofs.YtbhnpccbjgbcbaaGreatDoor.QT
