-- WRITTEN BY a program of this session (wip/xprint.py, over the kit's print): Lean checks it.
import Derived.Test.YtgjhomhfcifipaaQSx13d
import Derived.Test.YtgjhomhfcifipaaQSx13s3
namespace Go.Proofs.Ytgjhomhfcifipaa.QS
open Go.Proofs.Ytgjhomhfcifipaa.X Go.RowKit Go.Proofs.YtgjhomhfcifipaaW.PrintWords Go.Proofs.YtgjhomhfcifipaaW.PrintLast Go.Proofs.YtgjhomhfcifipaaW.PrintMore
attribute [local go_sem] max2_int min2_int max_two min_two max_three min_three max_four min_four   -- for this text's walks alone
set_option linter.unusedVariables false
set_option linter.unusedSimpArgs false

set_option maxHeartbeats 16000000 in
set_option maxRecDepth 1000000 in
theorem laws_FnLegsShared.seg2 {v0_ v1_ v2_ v3_ v5_ v6_ v7_ v8_ v9_ v10_ v11_ v12_ v13_ v14_ v15_ v16_ v17_ v18_ v23_ v24_ v26_ v27_ v28_ v32_ v33_ v43_ v44_ v45_ v46_ v47_ v56_ v57_ v58_ v59_ v60_ v63_ v79_ v80_ v81_ v82_ v83_ v84_ v85_ v86_ v87_ v88_ v89_ v90_ v91_ v92_ v93_ v94_ v95_ v96_ v97_ v98_ v99_ v100_ v101_ v102_ v103_ v104_ v105_ v106_ v107_ v108_ v109_ v110_ v111_ v112_ v113_ v114_ v115_ v116_ v117_ v118_ v119_ v120_ v121_ v122_ v123_ v124_ v125_ v126_ v127_ v128_ v129_ v130_ v131_ v132_ v133_ v134_ v135_ v136_ v137_ v138_ v139_ v140_ v141_ v142_ v143_ v144_ v145_ v146_ v147_ v148_ v149_ v150_ v151_ v152_ v153_ v154_ v155_ v156_ v157_ v158_ v159_ v160_ v161_ v162_ v163_ v164_ v165_ v166_ v167_ v168_ v169_ v170_ v171_ v172_ v173_ v174_ v175_ v176_ v177_ v178_ v179_ v180_ v181_ v182_ v183_ v184_ v185_ v186_ v187_ v188_ v189_ v190_ v191_ v192_ v193_ v194_ v195_ v196_ v197_ v198_ v199_ v200_ v201_ v202_ v203_ v204_ v205_ v206_ v207_ v208_ v209_ v210_ v211_ v212_ v213_ v214_ v215_ v216_ v217_ v218_ v219_ v220_ v221_ v222_ v223_ v224_ v225_ v226_ v227_ v228_ v229_ v230_ v231_ v232_ v233_ v234_ v235_ v236_ v237_ v238_ v239_ v240_ v241_ v242_ v243_ v244_ v245_ v246_ v247_ v248_ v249_ v250_ v251_ v252_ v253_ v254_ v255_ v256_ v257_ v258_ v259_ v260_ v261_ v262_ v263_ v264_ v265_ v266_ v267_ v268_ v269_ v270_ v271_ v272_ v273_ v274_ v275_ v276_ v277_ v278_ v279_ v280_ v281_ v282_ v283_ v284_ v285_ v286_ v287_ v288_ v289_ v290_ v291_ v292_ v293_ v294_ v295_ v296_ v297_ v298_ v299_ v300_ v301_ v302_ v303_ v304_ v305_ v306_ v307_ v308_ v309_ v310_ v311_ v312_ v313_ v314_ v315_ v316_ v317_ v318_ v319_ v320_ v321_ v322_ v323_ v324_ v325_ v326_ v327_ v328_ v329_ v330_ v331_ v332_ v333_ v334_ v335_ v336_ v337_ v338_ v339_ v340_ v341_ v342_ v343_ v344_ v345_ v346_ v347_ : Go.Value} (k : Nat) (A0 : Option Go.Addr) (c0 : Nat) (l0 : List Int) (A1 : Option Go.Addr) (c1 : Nat) (l1 : List Int) (r : Bool) (w : Go.World) (HR_ : Go.Proofs.YtgjhomhfcifipaaW.PrintWords.Aside0 (r = Bool.true)) (HR0 : Go.Proofs.YtgjhomhfcifipaaW.PrintWords.Aside0 (Go.Proofs.YtgjhomhfcifipaaW.PrintWords.Kd.C (Go.Proofs.YtgjhomhfcifipaaW.PrintWords.Kd.int Go.IntKind.u8) w A0 (List.length l0) l0)) (HC0 : Go.Proofs.YtgjhomhfcifipaaW.PrintWords.Aside0 (List.length l0 ≤ c0)) (HR1 : Go.Proofs.YtgjhomhfcifipaaW.PrintWords.Aside0 (Go.Proofs.YtgjhomhfcifipaaW.PrintWords.Kd.C (Go.Proofs.YtgjhomhfcifipaaW.PrintWords.Kd.int Go.IntKind.u8) w A1 (List.length l1) l1)) (HC1 : Go.Proofs.YtgjhomhfcifipaaW.PrintWords.Aside0 (List.length l1 ≤ c1)) (A3 : Go.Proofs.YtgjhomhfcifipaaW.PrintWords.Aside0 (Go.Proofs.Ytgjhomhfcifipaa.QS.laws_big.f l0 l1 = Option.some Bool.false)) (t432 : List Go.Proofs.Ytgjhomhfcifipaa.QS.S54) (t433 t434 : Int) (A5 : Go.Proofs.YtgjhomhfcifipaaW.PrintWords.Aside0 (Go.Proofs.Ytgjhomhfcifipaa.QS.spec_DrawNeededSpeed.f k l0 = Option.some (t432, t433, t434))) (t437 t438 : Int) (t439 : Bool) (A6 : Go.Proofs.YtgjhomhfcifipaaW.PrintWords.Aside0 (Go.Proofs.Ytgjhomhfcifipaa.QS.impl_NeededSpeed.f k t432 t433 t434 = Option.some (t437, t438, t439))) (t440 t441 : Int) (t442 : Bool) (A7 : Go.Proofs.YtgjhomhfcifipaaW.PrintWords.Aside0 (Go.Proofs.Ytgjhomhfcifipaa.QS.spec_NeededSpeed.f k t432 t433 t434 = Option.some (t440, t441, t442))) (w9 : Go.World) (Ao10 : Option Go.Addr) (co10 : Nat) (w11 w12 : Go.World) (HO436 : Go.Proofs.YtgjhomhfcifipaaW.PrintWords.Aside0 (Go.Proofs.YtgjhomhfcifipaaW.PrintWords.Kd.R Go.Proofs.Ytgjhomhfcifipaa.QS.k54 (54 : Nat) w12 (Array.size (Go.World.heap w)) (fun x => True) (Go.Value.slice Ao10 (List.length t432) co10) t432)) (u104 u105 u106 u107 u108 u109 u110 u111 u112 u113 u114 u115 : Go.Value) (kj7 : Nat) (HJ7 : Go.Proofs.YtgjhomhfcifipaaW.PrintWords.Aside0 (kj7 + (1 : Nat) ≤ k)) (u4 u14 u15 u16 u17 u18 u118 u119 u120 u121 u122 u123 u124 u125 u126 u127 u128 u129 u130 u131 u132 u133 u134 u135 u136 u137 u138 u139 u140 u141 u142 u143 u144 u145 u146 u147 u148 u149 u150 u151 u152 u153 u154 u155 u156 u157 u158 u159 u160 u161 u162 u163 u164 u165 : Go.Value) (kj15 : Nat) (HJ15 : Go.Proofs.YtgjhomhfcifipaaW.PrintWords.Aside0 (kj15 + (1 : Nat) ≤ kj7)) (t449 t450 : List Int) (A28 : Go.Proofs.YtgjhomhfcifipaaW.PrintWords.Aside0 (Go.Proofs.Ytgjhomhfcifipaa.QS.spec_DrawBestRunners.f kj15 l1 = Option.some (t449, t450))) (t455 : List Int) (t456 : Bool) (A29 : Go.Proofs.YtgjhomhfcifipaaW.PrintWords.Aside0 (Go.Proofs.Ytgjhomhfcifipaa.QS.impl_BestRunners.f kj15 t449 t450 = Option.some (t455, t456))) (t459 : List Int) (t460 : Bool) (A30 : Go.Proofs.YtgjhomhfcifipaaW.PrintWords.Aside0 (Go.Proofs.Ytgjhomhfcifipaa.QS.spec_BestRunners.f kj15 t449 t450 = Option.some (t459, t460))) (t463 : List Int) (t464 : Bool) (A31 : Go.Proofs.YtgjhomhfcifipaaW.PrintWords.Aside0 (Go.Proofs.Ytgjhomhfcifipaa.QS.impl_WorstRunners.f kj15 t449 t450 = Option.some (t463, t464))) (t467 : List Int) (t468 : Bool) (A32 : Go.Proofs.YtgjhomhfcifipaaW.PrintWords.Aside0 (Go.Proofs.Ytgjhomhfcifipaa.QS.spec_WorstRunners.f kj15 t449 t450 = Option.some (t467, t468))) (t471 : List Go.Proofs.Ytgjhomhfcifipaa.QS.S54) (A33 : Go.Proofs.YtgjhomhfcifipaaW.PrintWords.Aside0 (Go.Proofs.Ytgjhomhfcifipaa.QS.spec_DrawJoinLegs.f kj15 l1 = Option.some t471)) (t474 : List Go.Proofs.Ytgjhomhfcifipaa.QS.S54) (t475 : Bool) (A34 : Go.Proofs.YtgjhomhfcifipaaW.PrintWords.Aside0 (Go.Proofs.Ytgjhomhfcifipaa.QS.impl_JoinLegs.f kj15 t471 = Option.some (t474, t475))) (t478 : List Go.Proofs.Ytgjhomhfcifipaa.QS.S54) (t479 : Bool) (A35 : Go.Proofs.YtgjhomhfcifipaaW.PrintWords.Aside0 (Go.Proofs.Ytgjhomhfcifipaa.QS.spec_JoinLegs.f kj15 t471 = Option.some (t478, t479))) (t482 t483 t484 t485 : Int) (A36 : Go.Proofs.YtgjhomhfcifipaaW.PrintWords.Aside0 (Go.Proofs.Ytgjhomhfcifipaa.QS.spec_DrawRideAndWalk.f l1 = Option.some (t482, t483, t484, t485))) (t486 t487 t488 t489 : Int) (t490 : Bool) (A37 : Go.Proofs.YtgjhomhfcifipaaW.PrintWords.Aside0 (Go.Proofs.Ytgjhomhfcifipaa.QS.impl_RideAndWalk.f kj15 t482 t483 t484 t485 = Option.some (t486, t487, t488, t489, t490))) (t491 t492 t493 t494 : Int) (t495 : Bool) (A38 : Go.Proofs.YtgjhomhfcifipaaW.PrintWords.Aside0 (Go.Proofs.Ytgjhomhfcifipaa.QS.spec_RideAndWalk.f kj15 t482 t483 t484 t485 = Option.some (t491, t492, t493, t494, t495))) (t496 t497 t498 : Int) (A39 : Go.Proofs.YtgjhomhfcifipaaW.PrintWords.Aside0 (Go.Proofs.Ytgjhomhfcifipaa.QS.spec_DrawSharedBicycle.f l1 = Option.some (t496, t497, t498))) (t499 t500 t501 t502 : Int) (t503 : Bool) (A40 : Go.Proofs.YtgjhomhfcifipaaW.PrintWords.Aside0 (Go.Proofs.Ytgjhomhfcifipaa.QS.impl_SharedBicycle.f kj15 t496 t497 t498 = Option.some (t499, t500, t501, t502, t503))) (t504 t505 t506 t507 : Int) (t508 : Bool) (A41 : Go.Proofs.YtgjhomhfcifipaaW.PrintWords.Aside0 (Go.Proofs.Ytgjhomhfcifipaa.QS.spec_SharedBicycle.f kj15 t496 t497 t498 = Option.some (t504, t505, t506, t507, t508))) (w43 : Go.World) (Ao44 : Option Go.Addr) (co44 : Nat) (Ao45 : Option Go.Addr) (co45 : Nat) (w46 : Go.World) (v457 : Go.Value) (w47 : Go.World) (v461 : Go.Value) (w48 : Go.World) (v465 : Go.Value) (w49 : Go.World) (v469 : Go.Value) (w50 : Go.World) (Ao51 : Option Go.Addr) (co51 : Nat) (w52 : Go.World) (v476 : Go.Value) (w53 : Go.World) (v480 : Go.Value) (w54 w55 : Go.World) (w56 w57 : Go.World) (HO452 : Go.Proofs.YtgjhomhfcifipaaW.PrintWords.Aside0 (Go.Proofs.YtgjhomhfcifipaaW.PrintWords.Kd.R (Go.Proofs.YtgjhomhfcifipaaW.PrintWords.Kd.int Go.IntKind.i64) (3 : Nat) w57 (Array.size (Go.World.heap w)) (fun k => (((Option.some k ≠ Go.Value.ownBlock (Go.Value.slice Ao45 (List.length t450) co45) ∧ Option.some k ≠ Go.Value.ownBlock v457) ∧ Option.some k ≠ Go.Value.ownBlock v461) ∧ Option.some k ≠ Go.Value.ownBlock v465) ∧ Option.some k ≠ Go.Value.ownBlock v469) (Go.Value.slice Ao44 (List.length t449) co44) t449)) (HO454 : Go.Proofs.YtgjhomhfcifipaaW.PrintWords.Aside0 (Go.Proofs.YtgjhomhfcifipaaW.PrintWords.Kd.R (Go.Proofs.YtgjhomhfcifipaaW.PrintWords.Kd.int Go.IntKind.i64) (3 : Nat) w57 (Array.size (Go.World.heap w)) (fun k => (((Option.some k ≠ Go.Value.ownBlock (Go.Value.slice Ao44 (List.length t449) co44) ∧ Option.some k ≠ Go.Value.ownBlock v457) ∧ Option.some k ≠ Go.Value.ownBlock v461) ∧ Option.some k ≠ Go.Value.ownBlock v465) ∧ Option.some k ≠ Go.Value.ownBlock v469) (Go.Value.slice Ao45 (List.length t450) co45) t450)) (HO458 : Go.Proofs.YtgjhomhfcifipaaW.PrintWords.Aside0 (Go.Proofs.YtgjhomhfcifipaaW.PrintWords.Kd.R (Go.Proofs.YtgjhomhfcifipaaW.PrintWords.Kd.int Go.IntKind.i64) (3 : Nat) w57 (Array.size (Go.World.heap w)) (fun k => ((((True ∧ Option.some k ≠ Go.Value.ownBlock (Go.Value.slice Ao44 (List.length t449) co44)) ∧ Option.some k ≠ Go.Value.ownBlock (Go.Value.slice Ao45 (List.length t450) co45)) ∧ Option.some k ≠ Go.Value.ownBlock v461) ∧ Option.some k ≠ Go.Value.ownBlock v465) ∧ Option.some k ≠ Go.Value.ownBlock v469) v457 t455)) (HO462 : Go.Proofs.YtgjhomhfcifipaaW.PrintWords.Aside0 (Go.Proofs.YtgjhomhfcifipaaW.PrintWords.Kd.R (Go.Proofs.YtgjhomhfcifipaaW.PrintWords.Kd.int Go.IntKind.i64) (3 : Nat) w57 (Array.size (Go.World.heap w)) (fun k => ((((True ∧ Option.some k ≠ Go.Value.ownBlock (Go.Value.slice Ao44 (List.length t449) co44)) ∧ Option.some k ≠ Go.Value.ownBlock (Go.Value.slice Ao45 (List.length t450) co45)) ∧ Option.some k ≠ Go.Value.ownBlock v457) ∧ Option.some k ≠ Go.Value.ownBlock v465) ∧ Option.some k ≠ Go.Value.ownBlock v469) v461 t459)) (HO466 : Go.Proofs.YtgjhomhfcifipaaW.PrintWords.Aside0 (Go.Proofs.YtgjhomhfcifipaaW.PrintWords.Kd.R (Go.Proofs.YtgjhomhfcifipaaW.PrintWords.Kd.int Go.IntKind.i64) (3 : Nat) w57 (Array.size (Go.World.heap w)) (fun k => ((((True ∧ Option.some k ≠ Go.Value.ownBlock (Go.Value.slice Ao44 (List.length t449) co44)) ∧ Option.some k ≠ Go.Value.ownBlock (Go.Value.slice Ao45 (List.length t450) co45)) ∧ Option.some k ≠ Go.Value.ownBlock v457) ∧ Option.some k ≠ Go.Value.ownBlock v461) ∧ Option.some k ≠ Go.Value.ownBlock v469) v465 t463)) (HO470 : Go.Proofs.YtgjhomhfcifipaaW.PrintWords.Aside0 (Go.Proofs.YtgjhomhfcifipaaW.PrintWords.Kd.R (Go.Proofs.YtgjhomhfcifipaaW.PrintWords.Kd.int Go.IntKind.i64) (3 : Nat) w57 (Array.size (Go.World.heap w)) (fun k => ((((True ∧ Option.some k ≠ Go.Value.ownBlock (Go.Value.slice Ao44 (List.length t449) co44)) ∧ Option.some k ≠ Go.Value.ownBlock (Go.Value.slice Ao45 (List.length t450) co45)) ∧ Option.some k ≠ Go.Value.ownBlock v457) ∧ Option.some k ≠ Go.Value.ownBlock v461) ∧ Option.some k ≠ Go.Value.ownBlock v465) v469 t467)) (HO473 : Go.Proofs.YtgjhomhfcifipaaW.PrintWords.Aside0 (Go.Proofs.YtgjhomhfcifipaaW.PrintWords.Kd.R Go.Proofs.Ytgjhomhfcifipaa.QS.k54 (54 : Nat) w57 (Array.size (Go.World.heap w)) (fun k => (True ∧ Option.some k ≠ Go.Value.ownBlock v476) ∧ Option.some k ≠ Go.Value.ownBlock v480) (Go.Value.slice Ao51 (List.length t471) co51) t471)) (HO477 : Go.Proofs.YtgjhomhfcifipaaW.PrintWords.Aside0 (Go.Proofs.YtgjhomhfcifipaaW.PrintWords.Kd.R Go.Proofs.Ytgjhomhfcifipaa.QS.k54 (54 : Nat) w57 (Array.size (Go.World.heap w)) (fun k => (True ∧ Option.some k ≠ Go.Value.ownBlock (Go.Value.slice Ao51 (List.length t471) co51)) ∧ Option.some k ≠ Go.Value.ownBlock v480) v476 t474)) (HO481 : Go.Proofs.YtgjhomhfcifipaaW.PrintWords.Aside0 (Go.Proofs.YtgjhomhfcifipaaW.PrintWords.Kd.R Go.Proofs.Ytgjhomhfcifipaa.QS.k54 (54 : Nat) w57 (Array.size (Go.World.heap w)) (fun k => (True ∧ Option.some k ≠ Go.Value.ownBlock (Go.Value.slice Ao51 (List.length t471) co51)) ∧ Option.some k ≠ Go.Value.ownBlock v476) v480 t478)) (nd : Nat) (wc : Go.World) (u262 u263 u264 u265 u266 u267 u268 u269 u270 u271 u272 u273 u274 u275 u276 u277 u278 u279 u280 u281 u282 u283 u284 u285 u286 u287 u288 u289 u290 u291 u292 u293 u294 u295 u296 u297 u298 u299 u300 u301 u302 u303 u304 u305 u306 u307 u308 u309 u310 u311 u312 u313 u314 u315 u316 u317 u318 u319 u320 u321 u322 u323 u324 u325 u326 u327 u328 u329 u330 u331 u332 u333 u334 u335 u336 u337 u338 u339 u340 u341 u342 u343 u344 u345 u346 : Go.Value) (HO_19 : Go.Proofs.YtgjhomhfcifipaaW.PrintWords.Aside0 (Go.Proofs.YtgjhomhfcifipaaW.PrintWords.Kd.R (Go.Proofs.YtgjhomhfcifipaaW.PrintWords.Kd.int Go.IntKind.i64) (3 : Nat) wc (Array.size (Go.World.heap w)) (fun k_ => Option.some k_ ≠ Go.Value.ownBlock (Go.Value.slice Ao45 (List.length t450) co45) ∧ Option.some k_ ≠ Go.Value.ownBlock v457 ∧ Option.some k_ ≠ Go.Value.ownBlock v465) (Go.Value.slice Ao44 (List.length t449) co44) t449)) (HO_20 : Go.Proofs.YtgjhomhfcifipaaW.PrintWords.Aside0 (Go.Proofs.YtgjhomhfcifipaaW.PrintWords.Kd.R (Go.Proofs.YtgjhomhfcifipaaW.PrintWords.Kd.int Go.IntKind.i64) (3 : Nat) wc (Array.size (Go.World.heap w)) (fun k_ => Option.some k_ ≠ Go.Value.ownBlock (Go.Value.slice Ao44 (List.length t449) co44) ∧ Option.some k_ ≠ Go.Value.ownBlock v457 ∧ Option.some k_ ≠ Go.Value.ownBlock v465) (Go.Value.slice Ao45 (List.length t450) co45) t450)) (HO_21 : Go.Proofs.YtgjhomhfcifipaaW.PrintWords.Aside0 (Go.Proofs.YtgjhomhfcifipaaW.PrintWords.Kd.R (Go.Proofs.YtgjhomhfcifipaaW.PrintWords.Kd.int Go.IntKind.i64) (3 : Nat) wc (Array.size (Go.World.heap w)) (fun k_ => Option.some k_ ≠ Go.Value.ownBlock (Go.Value.slice Ao44 (List.length t449) co44) ∧ Option.some k_ ≠ Go.Value.ownBlock (Go.Value.slice Ao45 (List.length t450) co45) ∧ Option.some k_ ≠ Go.Value.ownBlock v465) v457 t455)) (HO_25 : Go.Proofs.YtgjhomhfcifipaaW.PrintWords.Aside0 (Go.Proofs.YtgjhomhfcifipaaW.PrintWords.Kd.R (Go.Proofs.YtgjhomhfcifipaaW.PrintWords.Kd.int Go.IntKind.i64) (3 : Nat) wc (Array.size (Go.World.heap w)) (fun k_ => Option.some k_ ≠ Go.Value.ownBlock (Go.Value.slice Ao44 (List.length t449) co44) ∧ Option.some k_ ≠ Go.Value.ownBlock (Go.Value.slice Ao45 (List.length t450) co45) ∧ Option.some k_ ≠ Go.Value.ownBlock v457) v465 t463)) (HO_29 : Go.Proofs.YtgjhomhfcifipaaW.PrintWords.Aside0 (Go.Proofs.YtgjhomhfcifipaaW.PrintWords.Kd.R Go.Proofs.Ytgjhomhfcifipaa.QS.k54 (54 : Nat) wc (Array.size (Go.World.heap w)) (fun k_ => Option.some k_ ≠ Go.Value.ownBlock v476) (Go.Value.slice Ao51 (List.length t471) co51) t471)) (HO_30 : Go.Proofs.YtgjhomhfcifipaaW.PrintWords.Aside0 (Go.Proofs.YtgjhomhfcifipaaW.PrintWords.Kd.R Go.Proofs.Ytgjhomhfcifipaa.QS.k54 (54 : Nat) wc (Array.size (Go.World.heap w)) (fun k_ => Option.some k_ ≠ Go.Value.ownBlock (Go.Value.slice Ao51 (List.length t471) co51)) v476 t474)) (HB : Go.Proofs.YtgjhomhfcifipaaW.PrintWords.Aside0 (Go.RowKit.Below (Array.size (Go.World.heap w)) w wc)) (kj41 : Nat) (HJ41 : Go.Proofs.YtgjhomhfcifipaaW.PrintWords.Aside0 (kj41 + (1 : Nat) ≤ kj15)) (HC84 : Go.Proofs.YtgjhomhfcifipaaW.PrintWords.Aside0 ((if t456 = Bool.true then Option.bind (Go.Proofs.Ytgjhomhfcifipaa.QS.laws_yOnce.f kj41 t455 (↑(List.length t449) : Int)) fun t512 => if t512 = Bool.true then Option.bind (Go.Proofs.Ytgjhomhfcifipaa.QS.laws_yOnce.f kj41 t463 (↑(List.length t449) : Int)) fun t513 => Go.Proofs.Ytgjhomhfcifipaa.QS.laws_FnLegsShared.j3 kj41 t449 t450 t455 t463 t471 t474 t475 t482 t483 t484 t485 t486 t487 t488 t489 t490 t496 t497 t498 t499 t500 t501 t502 t503 !t513 else Go.Proofs.Ytgjhomhfcifipaa.QS.laws_FnLegsShared.j3 kj41 t449 t450 t455 t463 t471 t474 t475 t482 t483 t484 t485 t486 t487 t488 t489 t490 t496 t497 t498 t499 t500 t501 t502 t503 Bool.true else Go.Proofs.Ytgjhomhfcifipaa.QS.laws_FnLegsShared.j9 kj41 t471 t474 t475 t482 t483 t484 t485 t486 t487 t488 t489 t490 t496 t497 t498 t499 t500 t501 t502 t503) = Option.some r)) :
    Go.Code.wp Try.prog (laws_FnLegsShared.behind 347 laws_FnLegsShared.body) (bodyPost Try.prog Try.f5 (fun e w' => e = .returned (.bool r) ∧ Below w.heap.size w w')) (Go.Act.mk #[v0_, v1_, v2_, v3_, u4, v5_, v6_, v7_, v8_, v9_, v10_, v11_, v12_, v13_, v14_, v15_, v16_, v17_, v18_, Go.Value.slice Ao44 (List.length t449) co44, Go.Value.slice Ao45 (List.length t450) co45, v457, Go.Value.bool t456, v23_, v24_, v465, v26_, v27_, v28_, Go.Value.slice Ao51 (List.length t471) co51, v476, Go.Value.bool t475, v32_, v33_, Go.Value.int Go.IntKind.i64 t482, Go.Value.int Go.IntKind.i64 t483, Go.Value.int Go.IntKind.i64 t484, Go.Value.int Go.IntKind.i64 t485, Go.Value.int Go.IntKind.i64 t486, Go.Value.int Go.IntKind.i64 t487, Go.Value.int Go.IntKind.i64 t488, Go.Value.int Go.IntKind.i64 t489, Go.Value.bool t490, v43_, v44_, v45_, v46_, v47_, Go.Value.int Go.IntKind.i64 t496, Go.Value.int Go.IntKind.i64 t497, Go.Value.int Go.IntKind.i64 t498, Go.Value.int Go.IntKind.i64 t499, Go.Value.int Go.IntKind.i64 t500, Go.Value.int Go.IntKind.i64 t501, Go.Value.int Go.IntKind.i64 t502, Go.Value.bool t503, v56_, v57_, v58_, v59_, v60_, Go.undef, Go.undef, v63_, Go.undef, Go.undef, Go.undef, Go.undef, Go.undef, Go.undef, Go.undef, Go.undef, Go.undef, Go.undef, Go.undef, Go.undef, Go.undef, Go.undef, Go.undef, v79_, v80_, v81_, v82_, v83_, v84_, v85_, v86_, v87_, v88_, v89_, v90_, v91_, v92_, v93_, v94_, v95_, v96_, v97_, v98_, v99_, v100_, v101_, v102_, v103_, v104_, v105_, v106_, v107_, v108_, v109_, v110_, v111_, v112_, v113_, v114_, v115_, v116_, v117_, v118_, v119_, v120_, v121_, v122_, v123_, v124_, v125_, v126_, v127_, v128_, v129_, v130_, v131_, v132_, v133_, v134_, v135_, v136_, v137_, v138_, v139_, v140_, v141_, v142_, v143_, v144_, v145_, v146_, v147_, v148_, v149_, v150_, v151_, v152_, v153_, v154_, v155_, v156_, v157_, v158_, v159_, v160_, v161_, v162_, v163_, v164_, v165_, v166_, v167_, v168_, v169_, v170_, v171_, v172_, v173_, v174_, v175_, v176_, v177_, v178_, v179_, v180_, v181_, v182_, v183_, v184_, v185_, v186_, v187_, v188_, v189_, v190_, v191_, v192_, v193_, v194_, v195_, v196_, v197_, v198_, v199_, v200_, v201_, v202_, v203_, v204_, v205_, v206_, v207_, v208_, v209_, v210_, v211_, v212_, v213_, v214_, v215_, v216_, v217_, v218_, v219_, v220_, v221_, v222_, v223_, v224_, v225_, v226_, v227_, v228_, v229_, v230_, v231_, v232_, v233_, v234_, v235_, v236_, v237_, v238_, v239_, v240_, v241_, v242_, v243_, v244_, v245_, v246_, v247_, v248_, v249_, v250_, v251_, v252_, v253_, v254_, v255_, v256_, v257_, v258_, v259_, v260_, v261_, v262_, v263_, v264_, v265_, v266_, v267_, v268_, v269_, v270_, v271_, v272_, v273_, v274_, v275_, v276_, v277_, v278_, v279_, v280_, v281_, v282_, v283_, v284_, v285_, v286_, v287_, v288_, v289_, v290_, v291_, v292_, v293_, v294_, v295_, v296_, v297_, v298_, v299_, v300_, v301_, v302_, v303_, v304_, v305_, v306_, v307_, v308_, v309_, v310_, v311_, v312_, v313_, v314_, v315_, v316_, v317_, v318_, v319_, v320_, v321_, v322_, v323_, v324_, v325_, v326_, v327_, v328_, v329_, v330_, v331_, v332_, v333_, v334_, v335_, v336_, v337_, v338_, v339_, v340_, v341_, v342_, v343_, v344_, v345_, v346_, v347_, Go.undef, Go.undef, Go.undef, Go.undef, Go.undef, Go.undef, Go.undef, Go.undef, Go.undef, Go.undef, Go.undef, Go.undef, Go.undef, Go.undef, Go.undef, Go.undef, Go.undef, Go.undef, Go.undef, Go.undef, Go.undef, Go.undef, Go.undef, Go.undef, Go.undef, Go.undef, Go.undef, Go.undef, Go.undef, Go.undef, Go.undef, Go.undef, Go.undef, Go.undef, Go.undef, Go.undef, Go.undef, Go.undef, Go.undef, Go.undef, Go.undef, Go.undef, Go.undef, Go.undef, Go.undef, Go.undef, Go.undef, Go.undef, Go.undef, Go.undef, Go.undef, Go.undef, Go.undef, Go.undef, Go.undef, Go.undef, Go.undef, Go.undef, Go.undef, Go.undef, Go.undef, Go.undef, Go.undef, Go.undef, Go.undef, Go.undef, Go.undef, Go.undef, Go.undef, Go.undef, Go.undef, Go.undef, Go.undef, Go.undef, Go.undef, Go.undef, Go.undef, Go.undef, Go.undef, Go.undef, Go.undef, Go.undef, Go.undef, Go.undef, Go.undef, Go.undef, Go.undef, Go.undef, Go.undef, Go.undef, Go.undef, Go.undef, Go.undef, Go.undef, Go.undef, Go.undef, Go.undef, Go.undef, Go.undef, Go.undef, Go.undef, Go.undef, Go.undef, Go.undef, Go.undef, Go.undef, Go.undef, Go.undef, Go.undef, Go.undef, Go.undef, Go.undef, Go.undef, Go.undef, Go.undef, Go.undef, Go.undef, Go.undef, Go.undef, Go.undef, Go.undef, Go.undef, Go.undef, Go.undef, Go.undef, Go.undef, Go.undef, Go.undef, Go.undef, Go.undef, Go.undef, Go.undef, Go.undef, Go.undef, Go.undef, Go.undef, Go.undef, Go.undef, Go.undef, Go.undef, Go.undef, Go.undef, Go.undef, Go.undef, Go.undef, Go.undef, Go.undef, Go.undef, Go.undef, Go.undef, Go.undef, Go.undef, Go.undef, Go.undef, Go.undef, Go.undef, Go.undef, Go.undef, Go.undef, Go.undef, Go.undef, Go.undef, Go.undef, Go.undef, Go.undef, Go.undef, Go.undef, Go.undef, Go.undef, Go.undef, Go.undef, Go.undef, Go.undef, Go.undef, Go.undef, Go.undef, Go.undef, Go.undef, Go.undef, Go.undef, Go.undef, Go.undef, Go.undef, Go.undef, Go.undef, Go.undef, Go.undef, Go.undef, Go.undef, Go.undef, Go.undef, Go.undef, Go.undef, Go.undef, Go.undef, Go.undef, Go.undef, Go.undef, Go.undef, Go.undef, Go.undef, Go.undef, Go.undef, Go.undef, Go.undef, Go.undef, Go.undef, Go.undef, Go.undef, Go.undef, Go.undef, Go.undef, Go.undef, Go.undef, Go.undef, Go.undef, Go.undef, Go.undef, Go.undef, Go.undef, Go.undef, Go.undef, Go.undef, Go.undef, Go.undef, Go.undef, Go.undef, Go.undef, Go.undef, Go.undef, Go.undef, Go.undef, Go.undef, Go.undef, Go.undef, Go.undef, Go.undef, Go.undef, Go.undef, Go.undef, Go.undef, Go.undef, Go.undef, Go.undef, Go.undef, Go.undef, Go.undef, Go.undef, Go.undef, Go.undef, Go.undef, Go.undef, Go.undef, Go.undef, Go.undef, Go.undef, Go.undef, Go.undef, Go.undef, Go.undef, Go.undef, Go.undef, Go.undef, Go.undef, Go.undef, Go.undef, Go.undef, Go.undef, Go.undef, Go.undef, Go.undef, Go.undef, Go.undef, Go.undef, Go.undef, Go.undef, Go.undef, Go.undef, Go.undef, Go.undef] []) wc := by
  conv => arg 2; whnf
  go_upto_if 348 with (fail)
  repeat (go_quiet (fail); go_upto_if 348 with (fail))
  go_cut [] from 100000 (fun wc => ∃ (kq : Nat), Aside0 (laws_FnLegsShared.j9 kq t471 t474 t475 t482 t483 t484 t485 t486 t487 t488 t489 t490 t496 t497 t498 t499 t500 t501 t502 t503 = some r) ∧ Aside0 (kq ≤ kj41) ∧ Aside0 (Kd.R k54 54 wc w.heap.size (fun k_ => some k_ ≠ (v476 : Value).ownBlock) (.slice Ao51 t471.length co51) t471) ∧ Aside0 (Kd.R k54 54 wc w.heap.size (fun k_ => some k_ ≠ ((.slice Ao51 t471.length co51) : Value).ownBlock) v476 t474) ∧ Aside0 (Below w.heap.size w wc))
  case first =>
   have H := HC84.out
   clear HC84
   by_cases c85 : t456 = true
   ·subst c85
    have H1 : ((laws_yOnce.f kj41 t455 (t449.length : Int)).bind fun t512 => (if t512 = true then ((laws_yOnce.f kj41 t463 (t449.length : Int)).bind fun t513 => (laws_FnLegsShared.j3 kj41 t449 t450 t455 t463 t471 t474 t475 t482 t483 t484 t485 t486 t487 t488 t489 t490 t496 t497 t498 t499 t500 t501 t502 t503 (!t513))) else (laws_FnLegsShared.j3 kj41 t449 t450 t455 t463 t471 t474 t475 t482 t483 t484 t485 t486 t487 t488 t489 t490 t496 t497 t498 t499 t500 t501 t502 t503 true))) = some r := by rw [if_pos rfl] at H; exact H
    clear H
    have H := H1
    clear H1
    have HC86 := Aside0.mk H
    clear H
    go_upto_region 31 with (fail)
    repeat (go_quiet (fail); go_upto_region 31 with (fail))
    go_cut [360] from 100000 (fun v360 wc => ∃ (kq : Nat) (x360_85 : Bool), v360 = .bool x360_85 ∧ Aside0 (laws_FnLegsShared.j3 kq t449 t450 t455 t463 t471 t474 t475 t482 t483 t484 t485 t486 t487 t488 t489 t490 t496 t497 t498 t499 t500 t501 t502 t503 x360_85 = some r) ∧ Aside0 (kq ≤ kj41) ∧ Aside0 (Kd.R (Kd.int .i64) 3 wc w.heap.size (fun k_ => some k_ ≠ ((.slice Ao45 t450.length co45) : Value).ownBlock ∧ some k_ ≠ (v457 : Value).ownBlock ∧ some k_ ≠ (v465 : Value).ownBlock) (.slice Ao44 t449.length co44) t449) ∧ Aside0 (Kd.R (Kd.int .i64) 3 wc w.heap.size (fun k_ => some k_ ≠ ((.slice Ao44 t449.length co44) : Value).ownBlock ∧ some k_ ≠ (v457 : Value).ownBlock ∧ some k_ ≠ (v465 : Value).ownBlock) (.slice Ao45 t450.length co45) t450) ∧ Aside0 (Kd.R (Kd.int .i64) 3 wc w.heap.size (fun k_ => some k_ ≠ ((.slice Ao44 t449.length co44) : Value).ownBlock ∧ some k_ ≠ ((.slice Ao45 t450.length co45) : Value).ownBlock ∧ some k_ ≠ (v465 : Value).ownBlock) v457 t455) ∧ Aside0 (Kd.R (Kd.int .i64) 3 wc w.heap.size (fun k_ => some k_ ≠ ((.slice Ao44 t449.length co44) : Value).ownBlock ∧ some k_ ≠ ((.slice Ao45 t450.length co45) : Value).ownBlock ∧ some k_ ≠ (v457 : Value).ownBlock) v465 t463) ∧ Aside0 (Kd.R k54 54 wc w.heap.size (fun k_ => some k_ ≠ (v476 : Value).ownBlock) (.slice Ao51 t471.length co51) t471) ∧ Aside0 (Kd.R k54 54 wc w.heap.size (fun k_ => some k_ ≠ ((.slice Ao51 t471.length co51) : Value).ownBlock) v476 t474) ∧ Aside0 (Below w.heap.size w wc))
    case first =>
     have H := HC86.out
     clear HC86
     replace H := Option.bind_eq_some_iff.mp H
     obtain ⟨t512, A870, H⟩ := H
     (try dsimp only at H)
     have A87 := Aside0.mk A870
     clear A870
     by_cases c88 : t512 = true
     ·subst c88
      have H1 : ((laws_yOnce.f kj41 t463 (t449.length : Int)).bind fun t513 => (laws_FnLegsShared.j3 kj41 t449 t450 t455 t463 t471 t474 t475 t482 t483 t484 t485 t486 t487 t488 t489 t490 t496 t497 t498 t499 t500 t501 t502 t503 (!t513))) = some r := by rw [if_pos rfl] at H; exact H
      clear H
      have H := H1
      clear H1
      replace H := Option.bind_eq_some_iff.mp H
      obtain ⟨t513, A890, H⟩ := H
      replace H : (laws_FnLegsShared.j3 kj41 t449 t450 t455 t463 t471 t474 t475 t482 t483 t484 t485 t486 t487 t488 t489 t490 t496 t497 t498 t499 t500 t501 t502 t503 (!t513)) = some r := H
      have A89 := Aside0.mk A890
      clear A890
      have H' := Aside0.mk H
      clear H
      obtain ⟨Ao90, co90, eo90⟩ := Kd.R_slice HO_21.out
      subst eo90
      go_wp2_with (first | (go_at_call 33; (with_reducible refine (laws_yOnce.calls kj41 _ _ t455 (t449.length : Int) true _ ?side1 ?side2 A87.out).mono ?_); (case side1 => repeat (first | exact (Kd.R_reads' HO_21.out).2.2 | (with_reducible refine Kd.C_alloc ?_ _) | (with_reducible refine Kd.C_drewN ?_ _) | (with_reducible refine Kd.C_drew ?_))); (case side2 => exact (Kd.R_reads' HO_21.out).2.1); rintro e w' ⟨rfl, ⟨nd, rfl⟩⟩; (try first | exact ⟨rfl, _, World.drewN_drewN _ _ _⟩ | exact ⟨rfl, _, Eq.trans (World.drewN_drewN _ _ _) (congrArg (World.drewN _) (Nat.add_assoc _ _ _))⟩); obtain ⟨Ao91, co91, eo91⟩ := Kd.R_slice HO_25.out; subst eo91) | (go_at_call 33; (with_reducible refine (laws_yOnce.calls kj41 _ _ t463 (t449.length : Int) t513 _ ?side1 ?side2 A89.out).mono ?_); (case side1 => repeat (first | exact (Kd.R_reads' HO_25.out).2.2 | (with_reducible refine Kd.C_alloc ?_ _) | (with_reducible refine Kd.C_drewN ?_ _) | (with_reducible refine Kd.C_drew ?_))); (case side2 => exact (Kd.R_reads' HO_25.out).2.1); rintro e w' ⟨rfl, ⟨nd, rfl⟩⟩; (try first | exact ⟨rfl, _, World.drewN_drewN _ _ _⟩ | exact ⟨rfl, _, Eq.trans (World.drewN_drewN _ _ _) (congrArg (World.drewN _) (Nat.add_assoc _ _ _))⟩)))
      repeat (go_quiet (first | (go_at_call 33; (with_reducible refine (laws_yOnce.calls kj41 _ _ t455 (t449.length : Int) true _ ?side1 ?side2 A87.out).mono ?_); (case side1 => repeat (first | exact (Kd.R_reads' HO_21.out).2.2 | (with_reducible refine Kd.C_alloc ?_ _) | (with_reducible refine Kd.C_drewN ?_ _) | (with_reducible refine Kd.C_drew ?_))); (case side2 => exact (Kd.R_reads' HO_21.out).2.1); rintro e w' ⟨rfl, ⟨nd, rfl⟩⟩; (try first | exact ⟨rfl, _, World.drewN_drewN _ _ _⟩ | exact ⟨rfl, _, Eq.trans (World.drewN_drewN _ _ _) (congrArg (World.drewN _) (Nat.add_assoc _ _ _))⟩); obtain ⟨Ao91, co91, eo91⟩ := Kd.R_slice HO_25.out; subst eo91) | (go_at_call 33; (with_reducible refine (laws_yOnce.calls kj41 _ _ t463 (t449.length : Int) t513 _ ?side1 ?side2 A89.out).mono ?_); (case side1 => repeat (first | exact (Kd.R_reads' HO_25.out).2.2 | (with_reducible refine Kd.C_alloc ?_ _) | (with_reducible refine Kd.C_drewN ?_ _) | (with_reducible refine Kd.C_drew ?_))); (case side2 => exact (Kd.R_reads' HO_25.out).2.1); rintro e w' ⟨rfl, ⟨nd, rfl⟩⟩; (try first | exact ⟨rfl, _, World.drewN_drewN _ _ _⟩ | exact ⟨rfl, _, Eq.trans (World.drewN_drewN _ _ _) (congrArg (World.drewN _) (Nat.add_assoc _ _ _))⟩))); try go_wp2_with (first | (go_at_call 33; (with_reducible refine (laws_yOnce.calls kj41 _ _ t455 (t449.length : Int) true _ ?side1 ?side2 A87.out).mono ?_); (case side1 => repeat (first | exact (Kd.R_reads' HO_21.out).2.2 | (with_reducible refine Kd.C_alloc ?_ _) | (with_reducible refine Kd.C_drewN ?_ _) | (with_reducible refine Kd.C_drew ?_))); (case side2 => exact (Kd.R_reads' HO_21.out).2.1); rintro e w' ⟨rfl, ⟨nd, rfl⟩⟩; (try first | exact ⟨rfl, _, World.drewN_drewN _ _ _⟩ | exact ⟨rfl, _, Eq.trans (World.drewN_drewN _ _ _) (congrArg (World.drewN _) (Nat.add_assoc _ _ _))⟩); obtain ⟨Ao91, co91, eo91⟩ := Kd.R_slice HO_25.out; subst eo91) | (go_at_call 33; (with_reducible refine (laws_yOnce.calls kj41 _ _ t463 (t449.length : Int) t513 _ ?side1 ?side2 A89.out).mono ?_); (case side1 => repeat (first | exact (Kd.R_reads' HO_25.out).2.2 | (with_reducible refine Kd.C_alloc ?_ _) | (with_reducible refine Kd.C_drewN ?_ _) | (with_reducible refine Kd.C_drew ?_))); (case side2 => exact (Kd.R_reads' HO_25.out).2.1); rintro e w' ⟨rfl, ⟨nd, rfl⟩⟩; (try first | exact ⟨rfl, _, World.drewN_drewN _ _ _⟩ | exact ⟨rfl, _, Eq.trans (World.drewN_drewN _ _ _) (congrArg (World.drewN _) (Nat.add_assoc _ _ _))⟩))))
      go_meet
      case rel => exact ⟨_, (!t513), (by first | rfl | (simp; done) | (simp [*]; done)), H', ⟨by have := HJ7.out; have := HJ15.out; have := HJ41.out; first | omega | exact Nat.le_refl _⟩, ⟨by (with_reducible repeat (first | apply Kd.R_alloc | apply Kd.R_drewN | apply Kd.R_drew)); exact HO_19.out⟩, ⟨by (with_reducible repeat (first | apply Kd.R_alloc | apply Kd.R_drewN | apply Kd.R_drew)); exact HO_20.out⟩, ⟨by (with_reducible repeat (first | apply Kd.R_alloc | apply Kd.R_drewN | apply Kd.R_drew)); exact HO_21.out⟩, ⟨by (with_reducible repeat (first | apply Kd.R_alloc | apply Kd.R_drewN | apply Kd.R_drew)); exact HO_25.out⟩, ⟨by (with_reducible repeat (first | apply Kd.R_alloc | apply Kd.R_drewN | apply Kd.R_drew)); exact HO_29.out⟩, ⟨by (with_reducible repeat (first | apply Kd.R_alloc | apply Kd.R_drewN | apply Kd.R_drew)); exact HO_30.out⟩, ⟨by repeat (first | (with_reducible first | exact HB.out | apply below_alloc | apply pw_below_drewN | apply below_drew1) | exact HB.out)⟩⟩
     ·replace c88 := Bool.eq_false_iff.mpr c88
      subst c88
      have H1 : (laws_FnLegsShared.j3 kj41 t449 t450 t455 t463 t471 t474 t475 t482 t483 t484 t485 t486 t487 t488 t489 t490 t496 t497 t498 t499 t500 t501 t502 t503 true) = some r := by rw [if_neg (show ¬ (false = true) by decide)] at H; exact H
      clear H
      have H := H1
      clear H1
      exact absurd H (by rw [HR_.out]; cases kj41 <;> simp [laws_FnLegsShared.j3])
    case rest =>
     clear HC86
     (try clear c1); (try clear c2); (try clear p2); (try clear c4); (try clear c5); (try clear c6); (try clear p6); (try clear c7); (try clear c8); (try clear c13); (try clear c13b0); (try clear c13b1); (try clear c13b2); (try clear c14); (try clear c14b0); (try clear c14b1); (try clear c15); (try clear c17); (try clear c21); (try clear c22); (try clear c22b0); (try clear c23); (try clear c24); (try clear c25); (try clear c25b0); (try clear c25b1); (try clear c58); (try clear c58b0); (try clear c58b1); (try clear c58b2); (try clear c60); (try clear c61); (try clear c61b0); (try clear c61b1); (try clear c61b2); (try clear c63); (try clear c64); (try clear c64b0); (try clear c64b1); (try clear c64b2); (try clear p64); (try clear c65); (try clear c65b0); (try clear c65b1); (try clear c65b2); (try clear c67); (try clear c68); (try clear c68b0); (try clear c68b1); (try clear c68b2); (try clear c69); (try clear c69b0); (try clear c69b1); (try clear c70); (try clear c70b0); (try clear c70b1); (try clear c71); (try clear c71b0); (try clear c71b1); (try clear c72); (try clear c72b0); (try clear c72b1); (try clear c73); (try clear c73b0); (try clear c73b1); (try clear c73b2); (try clear c74); (try clear c74b0); (try clear c74b1); (try clear c75); (try clear c75b0); (try clear c75b1); (try clear c76); (try clear c76b0); (try clear c76b1); (try clear c83); (try clear c85); (try clear c88); (try clear p2); (try clear p6); (try clear p64)
     obtain ⟨kq, x360_85, rfl, HA, HJ85, HO_19, HO_20, HO_21, HO_25, HO_29, HO_30, HB⟩ := hcut
     cases kq with
     | zero => exact absurd HA.out (by simp [laws_FnLegsShared.j3])
     | succ kj85 =>
      have H := HA.out
      clear HA
      simp only [laws_FnLegsShared.j3] at H
      by_cases c92 : x360_85 = true
      ·subst c92
       have H1 : (some false) = some r := by rw [if_pos rfl] at H; exact H
       clear H
       have H := H1
       clear H1
       exact absurd (Option.some.inj H).symm (by rw [HR_.out]; decide)
      ·replace c92 := Bool.eq_false_iff.mpr c92
       subst c92
       have H1 : (laws_FnLegsShared.l0 kj85 t449 t450 t455 t463 t471 t474 t475 t482 t483 t484 t485 t486 t487 t488 t489 t490 t496 t497 t498 t499 t500 t501 t502 t503 1 t450 (t450.length : Int) 0) = some r := by rw [if_neg (show ¬ (false = true) by decide)] at H; exact H
       clear H
       have H := H1
       clear H1
       have H' := Aside0.mk H
       clear H
       go_wp2
       repeat (go_quiet (fail); try go_wp2)
       go_loopg [62, 363] kj85 (fun kq v62 v363 w' => ∃ (x62_5 : Int) (x363_5 : Int), v62 = .int .i64 x62_5 ∧ v363 = .int .i64 x363_5 ∧ Aside0 (laws_FnLegsShared.l0 kq t449 t450 t455 t463 t471 t474 t475 t482 t483 t484 t485 t486 t487 t488 t489 t490 t496 t497 t498 t499 t500 t501 t502 t503 x62_5 t450 (t450.length : Int) x363_5 = some r) ∧ Aside0 (kq ≤ kj85) ∧ Aside0 (Kd.R (Kd.int .i64) 3 w' w.heap.size (fun k_ => some k_ ≠ ((.slice Ao45 t450.length co45) : Value).ownBlock ∧ some k_ ≠ (v457 : Value).ownBlock ∧ some k_ ≠ (v465 : Value).ownBlock ∧ some k_ ≠ ((.slice Ao45 t450.length co45) : Value).ownBlock) (.slice Ao44 t449.length co44) t449) ∧ Aside0 (Kd.R (Kd.int .i64) 3 w' w.heap.size (fun k_ => some k_ ≠ ((.slice Ao44 t449.length co44) : Value).ownBlock ∧ some k_ ≠ (v457 : Value).ownBlock ∧ some k_ ≠ (v465 : Value).ownBlock) (.slice Ao45 t450.length co45) t450) ∧ Aside0 (Kd.R (Kd.int .i64) 3 w' w.heap.size (fun k_ => some k_ ≠ ((.slice Ao44 t449.length co44) : Value).ownBlock ∧ some k_ ≠ ((.slice Ao45 t450.length co45) : Value).ownBlock ∧ some k_ ≠ (v465 : Value).ownBlock ∧ some k_ ≠ ((.slice Ao45 t450.length co45) : Value).ownBlock) v457 t455) ∧ Aside0 (Kd.R (Kd.int .i64) 3 w' w.heap.size (fun k_ => some k_ ≠ ((.slice Ao44 t449.length co44) : Value).ownBlock ∧ some k_ ≠ ((.slice Ao45 t450.length co45) : Value).ownBlock ∧ some k_ ≠ (v457 : Value).ownBlock ∧ some k_ ≠ ((.slice Ao45 t450.length co45) : Value).ownBlock) v465 t463) ∧ Aside0 (Kd.R k54 54 w' w.heap.size (fun k_ => some k_ ≠ (v476 : Value).ownBlock) (.slice Ao51 t471.length co51) t471) ∧ Aside0 (Kd.R k54 54 w' w.heap.size (fun k_ => some k_ ≠ ((.slice Ao51 t471.length co51) : Value).ownBlock) v476 t474) ∧ Aside0 (Kd.R (Kd.int .i64) 3 w' w.heap.size (fun k_ => some k_ ≠ ((.slice Ao44 t449.length co44) : Value).ownBlock ∧ some k_ ≠ (v457 : Value).ownBlock ∧ some k_ ≠ (v465 : Value).ownBlock) (.slice Ao45 t450.length co45) t450) ∧ Aside0 (Below w.heap.size w w'))
       case atStart => exact ⟨(1), (0), (by first | rfl | (simp; done) | (simp [*]; done)), (by first | rfl | (simp; done) | (simp [*]; done)), H', ⟨Nat.le_refl _⟩, ⟨by (with_reducible repeat (first | apply Kd.R_alloc | apply Kd.R_drewN | apply Kd.R_drew)); exact Kd.R_mono HO_19.out (fun _ hk => ⟨hk.1, ⟨hk.2.1, ⟨hk.2.2, hk.1⟩⟩⟩)⟩, ⟨by (with_reducible repeat (first | apply Kd.R_alloc | apply Kd.R_drewN | apply Kd.R_drew)); exact HO_20.out⟩, ⟨by (with_reducible repeat (first | apply Kd.R_alloc | apply Kd.R_drewN | apply Kd.R_drew)); exact Kd.R_mono HO_21.out (fun _ hk => ⟨hk.1, ⟨hk.2.1, ⟨hk.2.2, hk.2.1⟩⟩⟩)⟩, ⟨by (with_reducible repeat (first | apply Kd.R_alloc | apply Kd.R_drewN | apply Kd.R_drew)); exact Kd.R_mono HO_25.out (fun _ hk => ⟨hk.1, ⟨hk.2.1, ⟨hk.2.2, hk.2.1⟩⟩⟩)⟩, ⟨by (with_reducible repeat (first | apply Kd.R_alloc | apply Kd.R_drewN | apply Kd.R_drew)); exact HO_29.out⟩, ⟨by (with_reducible repeat (first | apply Kd.R_alloc | apply Kd.R_drewN | apply Kd.R_drew)); exact HO_30.out⟩, ⟨by (with_reducible repeat (first | apply Kd.R_alloc | apply Kd.R_drewN | apply Kd.R_drew)); exact HO_20.out⟩, ⟨by repeat (first | (with_reducible first | exact HB.out | apply below_alloc | apply pw_below_drewN | apply below_drew1) | exact HB.out)⟩⟩
       case round =>
        clear H'
        (try clear c1); (try clear c2); (try clear p2); (try clear c4); (try clear c5); (try clear c6); (try clear p6); (try clear c7); (try clear c8); (try clear c9); (try clear c13); (try clear c13b0); (try clear c13b1); (try clear c13b2); (try clear c14); (try clear c14b0); (try clear c14b1); (try clear c15); (try clear c17); (try clear c21); (try clear c22); (try clear c22b0); (try clear c23); (try clear c24); (try clear c25); (try clear c25b0); (try clear c25b1); (try clear c58); (try clear c58b0); (try clear c58b1); (try clear c58b2); (try clear c60); (try clear c61); (try clear c61b0); (try clear c61b1); (try clear c61b2); (try clear c63); (try clear c64); (try clear c64b0); (try clear c64b1); (try clear c64b2); (try clear p64); (try clear c65); (try clear c65b0); (try clear c65b1); (try clear c65b2); (try clear c67); (try clear c68); (try clear c68b0); (try clear c68b1); (try clear c68b2); (try clear c69); (try clear c69b0); (try clear c69b1); (try clear c70); (try clear c70b0); (try clear c70b1); (try clear c71); (try clear c71b0); (try clear c71b1); (try clear c72); (try clear c72b0); (try clear c72b1); (try clear c73); (try clear c73b0); (try clear c73b1); (try clear c73b2); (try clear c74); (try clear c74b0); (try clear c74b1); (try clear c75); (try clear c75b0); (try clear c75b1); (try clear c76); (try clear c76b0); (try clear c76b1); (try clear c83); (try clear c85); (try clear c88); (try clear c92); (try clear p2); (try clear p6); (try clear p64)
        obtain ⟨x62_5, x363_5, rfl, rfl, HA, HK5, HO_19, HO_20, HO_21, HO_25, HO_29, HO_30, HO_361, HB⟩ := hrel
        cases gk with
        | zero => exact absurd HA.out (by simp [laws_FnLegsShared.l0])
        | succ k5 =>
         have H := HA.out
         clear HA
         simp only [laws_FnLegsShared.l0] at H
         by_cases c93 : x363_5 < (t450.length : Int)
         ·rw [if_pos c93] at H
          have c93b0 : decide (x363_5 < (t450.length : Int)) = true := decide_eq_true c93
          clear c93
          by_cases c94 : 0 ≤ x363_5
          ·rw [if_pos c94] at H
           have c94b0 : decide (0 ≤ x363_5) = true := decide_eq_true c94
           clear c94
           by_cases c95 : x363_5 < (t450.length : Int)
           ·rw [if_pos c95] at H
            have c95b0 : decide (x363_5 < (t450.length : Int)) = true := decide_eq_true c95
            clear c95
            have H' := Aside0.mk H
            clear H
            have p514 : 0 ≤ (x363_5 : Int) := of_decide_eq_true (by first | (with_reducible assumption) | assumption)
            have q514 : x363_5 < (t450.length : Int) := of_decide_eq_true (by first | (with_reducible assumption) | assumption)
            obtain ⟨ad514, e514, hx514_0⟩ := Kd.at_int (Kd.R_reads' HO_361.out).2.2 x363_5 p514 q514
            cases e514
            replace p514 := eq_true p514
            replace q514 := eq_true q514
            go_wp2
            repeat (go_quiet (fail); try go_wp2)
            go_roundg k5
            case measure => have := HJ7.out; have := HJ15.out; have := HJ41.out; have := HJ85.out; have := HK5.out; omega
            case rel => exact ⟨(wrap64 (x62_5 * (rd t450 x363_5))), (wrap64 (x363_5 + 1)), (by first | rfl | (simp; done) | (simp [*]; done)), (by first | rfl | (simp; done) | (simp [*]; done)), H', ⟨by have := HJ7.out; have := HJ15.out; have := HJ41.out; have := HJ85.out; have := HK5.out; omega⟩, ⟨by (with_reducible repeat (first | apply Kd.R_alloc | apply Kd.R_drewN | apply Kd.R_drew)); exact HO_19.out⟩, ⟨by (with_reducible repeat (first | apply Kd.R_alloc | apply Kd.R_drewN | apply Kd.R_drew)); exact HO_20.out⟩, ⟨by (with_reducible repeat (first | apply Kd.R_alloc | apply Kd.R_drewN | apply Kd.R_drew)); exact HO_21.out⟩, ⟨by (with_reducible repeat (first | apply Kd.R_alloc | apply Kd.R_drewN | apply Kd.R_drew)); exact HO_25.out⟩, ⟨by (with_reducible repeat (first | apply Kd.R_alloc | apply Kd.R_drewN | apply Kd.R_drew)); exact HO_29.out⟩, ⟨by (with_reducible repeat (first | apply Kd.R_alloc | apply Kd.R_drewN | apply Kd.R_drew)); exact HO_30.out⟩, ⟨by (with_reducible repeat (first | apply Kd.R_alloc | apply Kd.R_drewN | apply Kd.R_drew)); exact HO_361.out⟩, ⟨by repeat (first | (with_reducible first | exact HB.out | apply below_alloc | apply pw_below_drewN | apply below_drew1) | exact HB.out)⟩⟩
           ·rw [if_neg c95] at H
            exact absurd H (by simp)
          ·rw [if_neg c94] at H
           exact absurd H (by simp)
         ·rw [if_neg c93] at H
          have c93b0 : decide (x363_5 < (t450.length : Int)) = false := decide_eq_false c93
          clear c93
          have H' := Aside0.mk H
          clear H
          go_wp2
          repeat (go_quiet (fail); try go_wp2)
          go_loopg [65, 66, 67, 373] k5 (fun kq v65 v66 v67 v373 w' => ∃ (x65_6 : Int) (x66_6 : Int) (x67_6 : Int) (x373_6 : Int), v65 = .int .i64 x65_6 ∧ v66 = .int .i64 x66_6 ∧ v67 = .int .i64 x67_6 ∧ v373 = .int .i64 x373_6 ∧ Aside0 (laws_FnLegsShared.l1 kq t449 t450 t455 t463 t471 t474 t475 t482 t483 t484 t485 t486 t487 t488 t489 t490 t496 t497 t498 t499 t500 t501 t502 t503 x62_5 x65_6 x66_6 x67_6 t449 (t449.length : Int) x373_6 = some r) ∧ Aside0 (kq ≤ k5) ∧ Aside0 (Kd.R (Kd.int .i64) 3 w' w.heap.size (fun k_ => some k_ ≠ ((.slice Ao45 t450.length co45) : Value).ownBlock ∧ some k_ ≠ (v457 : Value).ownBlock ∧ some k_ ≠ (v465 : Value).ownBlock) (.slice Ao44 t449.length co44) t449) ∧ Aside0 (Kd.R (Kd.int .i64) 3 w' w.heap.size (fun k_ => some k_ ≠ ((.slice Ao44 t449.length co44) : Value).ownBlock ∧ some k_ ≠ (v457 : Value).ownBlock ∧ some k_ ≠ (v465 : Value).ownBlock ∧ some k_ ≠ ((.slice Ao44 t449.length co44) : Value).ownBlock) (.slice Ao45 t450.length co45) t450) ∧ Aside0 (Kd.R (Kd.int .i64) 3 w' w.heap.size (fun k_ => some k_ ≠ ((.slice Ao44 t449.length co44) : Value).ownBlock ∧ some k_ ≠ ((.slice Ao45 t450.length co45) : Value).ownBlock ∧ some k_ ≠ (v465 : Value).ownBlock ∧ some k_ ≠ ((.slice Ao44 t449.length co44) : Value).ownBlock) v457 t455) ∧ Aside0 (Kd.R (Kd.int .i64) 3 w' w.heap.size (fun k_ => some k_ ≠ ((.slice Ao44 t449.length co44) : Value).ownBlock ∧ some k_ ≠ ((.slice Ao45 t450.length co45) : Value).ownBlock ∧ some k_ ≠ (v457 : Value).ownBlock ∧ some k_ ≠ ((.slice Ao44 t449.length co44) : Value).ownBlock) v465 t463) ∧ Aside0 (Kd.R k54 54 w' w.heap.size (fun k_ => some k_ ≠ (v476 : Value).ownBlock) (.slice Ao51 t471.length co51) t471) ∧ Aside0 (Kd.R k54 54 w' w.heap.size (fun k_ => some k_ ≠ ((.slice Ao51 t471.length co51) : Value).ownBlock) v476 t474) ∧ Aside0 (Kd.R (Kd.int .i64) 3 w' w.heap.size (fun k_ => some k_ ≠ ((.slice Ao45 t450.length co45) : Value).ownBlock ∧ some k_ ≠ (v457 : Value).ownBlock ∧ some k_ ≠ (v465 : Value).ownBlock) (.slice Ao44 t449.length co44) t449) ∧ Aside0 (Below w.heap.size w w'))
          case atStart => exact ⟨(0), (0), (0), (0), (by first | rfl | (simp; done) | (simp [*]; done)), (by first | rfl | (simp; done) | (simp [*]; done)), (by first | rfl | (simp; done) | (simp [*]; done)), (by first | rfl | (simp; done) | (simp [*]; done)), H', ⟨Nat.le_refl _⟩, ⟨by (with_reducible repeat (first | apply Kd.R_alloc | apply Kd.R_drewN | apply Kd.R_drew)); exact Kd.R_mono HO_19.out (fun _ hk => ⟨hk.1, ⟨hk.2.1, hk.2.2.1⟩⟩)⟩, ⟨by (with_reducible repeat (first | apply Kd.R_alloc | apply Kd.R_drewN | apply Kd.R_drew)); exact Kd.R_mono HO_20.out (fun _ hk => ⟨hk.1, ⟨hk.2.1, ⟨hk.2.2, hk.1⟩⟩⟩)⟩, ⟨by (with_reducible repeat (first | apply Kd.R_alloc | apply Kd.R_drewN | apply Kd.R_drew)); exact Kd.R_mono HO_21.out (fun _ hk => ⟨hk.1, ⟨hk.2.1, ⟨hk.2.2.1, hk.1⟩⟩⟩)⟩, ⟨by (with_reducible repeat (first | apply Kd.R_alloc | apply Kd.R_drewN | apply Kd.R_drew)); exact Kd.R_mono HO_25.out (fun _ hk => ⟨hk.1, ⟨hk.2.1, ⟨hk.2.2.1, hk.1⟩⟩⟩)⟩, ⟨by (with_reducible repeat (first | apply Kd.R_alloc | apply Kd.R_drewN | apply Kd.R_drew)); exact HO_29.out⟩, ⟨by (with_reducible repeat (first | apply Kd.R_alloc | apply Kd.R_drewN | apply Kd.R_drew)); exact HO_30.out⟩, ⟨by (with_reducible repeat (first | apply Kd.R_alloc | apply Kd.R_drewN | apply Kd.R_drew)); exact Kd.R_mono HO_19.out (fun _ hk => ⟨hk.1, ⟨hk.2.1, hk.2.2.1⟩⟩)⟩, ⟨by repeat (first | (with_reducible first | exact HB.out | apply below_alloc | apply pw_below_drewN | apply below_drew1) | exact HB.out)⟩⟩
          case round =>
           clear H'
           (try clear c1); (try clear c2); (try clear p2); (try clear c4); (try clear c5); (try clear p5); (try clear q5); (try clear hx5); (try clear c6); (try clear p6); (try clear c7); (try clear c8); (try clear c9); (try clear c13); (try clear c13b0); (try clear c13b1); (try clear c13b2); (try clear c14); (try clear c14b0); (try clear c14b1); (try clear c15); (try clear c17); (try clear c21); (try clear c22); (try clear c22b0); (try clear c23); (try clear c24); (try clear c25); (try clear c25b0); (try clear c25b1); (try clear p51); (try clear q51); (try clear hx51); (try clear c58); (try clear c58b0); (try clear c58b1); (try clear c58b2); (try clear c60); (try clear c61); (try clear c61b0); (try clear c61b1); (try clear c61b2); (try clear c63); (try clear c64); (try clear c64b0); (try clear c64b1); (try clear c64b2); (try clear p64); (try clear c65); (try clear c65b0); (try clear c65b1); (try clear c65b2); (try clear c67); (try clear c68); (try clear c68b0); (try clear c68b1); (try clear c68b2); (try clear c69); (try clear c69b0); (try clear c69b1); (try clear c70); (try clear c70b0); (try clear c70b1); (try clear c71); (try clear c71b0); (try clear c71b1); (try clear c72); (try clear c72b0); (try clear c72b1); (try clear c73); (try clear c73b0); (try clear c73b1); (try clear c73b2); (try clear c74); (try clear c74b0); (try clear c74b1); (try clear c75); (try clear c75b0); (try clear c75b1); (try clear c76); (try clear c76b0); (try clear c76b1); (try clear c83); (try clear c85); (try clear c88); (try clear c92); (try clear c93); (try clear c93b0); (try clear c94); (try clear c94b0); (try clear c95); (try clear c95b0); (try clear hx514_0); (try clear p2); (try clear p514); (try clear p6); (try clear p64); (try clear q514)
           obtain ⟨x65_6, x66_6, x67_6, x373_6, rfl, rfl, rfl, rfl, HA, HK6, HO_19, HO_20, HO_21, HO_25, HO_29, HO_30, HO_371, HB⟩ := hrel
           cases gk with
           | zero => exact absurd HA.out (by simp [laws_FnLegsShared.l1])
           | succ k6 =>
            have H := HA.out
            clear HA
            simp only [laws_FnLegsShared.l1] at H
            by_cases c96 : x373_6 < (t449.length : Int)
            ·rw [if_pos c96] at H
             have c96b0 : decide (x373_6 < (t449.length : Int)) = true := decide_eq_true c96
             clear c96
             by_cases c97 : 0 ≤ x373_6
             ·rw [if_pos c97] at H
              have c97b0 : decide (0 ≤ x373_6) = true := decide_eq_true c97
              clear c97
              by_cases c98 : x373_6 < (t449.length : Int)
              ·rw [if_pos c98] at H
               have c98b0 : decide (x373_6 < (t449.length : Int)) = true := decide_eq_true c98
               clear c98
               by_cases c99 : x373_6 < (t455.length : Int)
               ·rw [if_pos c99] at H
                have c99b0 : decide (x373_6 < (t455.length : Int)) = true := decide_eq_true c99
                clear c99
                by_cases c100 : 0 ≤ (rd t455 x373_6)
                ·rw [if_pos c100] at H
                 have c100b0 : decide (0 ≤ (rd t455 x373_6)) = true := decide_eq_true c100
                 clear c100
                 by_cases c101 : (rd t455 x373_6) < (t450.length : Int)
                 ·rw [if_pos c101] at H
                  have c101b0 : decide ((rd t455 x373_6) < (t450.length : Int)) = true := decide_eq_true c101
                  clear c101
                  by_cases c102 : (rd t450 (rd t455 x373_6)) = 0
                  ·rw [if_pos c102] at H
                   exact absurd H (by simp)
                  ·rw [if_neg c102] at H
                   have c102b0 : ((rd t450 (rd t455 x373_6)) == 0) = false := beq_eq_false_iff_ne.mpr c102
                   have c102b1 : ((rd t450 (rd t455 x373_6)) != 0) = true := bne_iff_ne.mpr c102
                   by_cases c103 : x373_6 < (t463.length : Int)
                   ·rw [if_pos c103] at H
                    have c103b0 : decide (x373_6 < (t463.length : Int)) = true := decide_eq_true c103
                    clear c103
                    by_cases c104 : 0 ≤ (rd t463 x373_6)
                    ·rw [if_pos c104] at H
                     have c104b0 : decide (0 ≤ (rd t463 x373_6)) = true := decide_eq_true c104
                     clear c104
                     by_cases c105 : (rd t463 x373_6) < (t450.length : Int)
                     ·rw [if_pos c105] at H
                      have c105b0 : decide ((rd t463 x373_6) < (t450.length : Int)) = true := decide_eq_true c105
                      clear c105
                      by_cases c106 : (rd t450 (rd t463 x373_6)) = 0
                      ·rw [if_pos c106] at H
                       exact absurd H (by simp)
                      ·rw [if_neg c106] at H
                       have c106b0 : ((rd t450 (rd t463 x373_6)) == 0) = false := beq_eq_false_iff_ne.mpr c106
                       have c106b1 : ((rd t450 (rd t463 x373_6)) != 0) = true := bne_iff_ne.mpr c106
                       by_cases c107 : x373_6 < (t450.length : Int)
                       ·rw [if_pos c107] at H
                        have c107b0 : decide (x373_6 < (t450.length : Int)) = true := decide_eq_true c107
                        clear c107
                        by_cases c108 : (rd t450 x373_6) = 0
                        ·rw [if_pos c108] at H
                         exact absurd H (by simp)
                        ·rw [if_neg c108] at H
                         have c108b0 : ((rd t450 x373_6) == 0) = false := beq_eq_false_iff_ne.mpr c108
                         have c108b1 : ((rd t450 x373_6) != 0) = true := bne_iff_ne.mpr c108
                         have H' := Aside0.mk H
                         clear H
                         have p515 : 0 ≤ (x373_6 : Int) := of_decide_eq_true (by first | (with_reducible assumption) | assumption)
                         have q515 : x373_6 < (t449.length : Int) := of_decide_eq_true (by first | (with_reducible assumption) | assumption)
                         obtain ⟨ad515, e515, hx515_0⟩ := Kd.at_int (Kd.R_reads' HO_371.out).2.2 x373_6 p515 q515
                         cases e515
                         replace p515 := eq_true p515
                         replace q515 := eq_true q515
                         obtain ⟨Ao109, co109, eo109⟩ := Kd.R_slice HO_21.out
                         subst eo109
                         have p516 : 0 ≤ (x373_6 : Int) := of_decide_eq_true (by first | (with_reducible assumption) | assumption)
                         have q516 : x373_6 < (t455.length : Int) := of_decide_eq_true (by first | (with_reducible assumption) | assumption)
                         obtain ⟨ad516, e516, hx516_0⟩ := Kd.at_int (Kd.R_reads' HO_21.out).2.2 x373_6 p516 q516
                         cases e516
                         replace p516 := eq_true p516
                         replace q516 := eq_true q516
                         have p517 : 0 ≤ ((rd t455 x373_6) : Int) := of_decide_eq_true (by first | (with_reducible assumption) | assumption)
                         have q517 : (rd t455 x373_6) < (t450.length : Int) := of_decide_eq_true (by first | (with_reducible assumption) | assumption)
                         obtain ⟨ad517, e517, hx517_0⟩ := Kd.at_int (Kd.R_reads' HO_20.out).2.2 (rd t455 x373_6) p517 q517
                         cases e517
                         replace p517 := eq_true p517
                         replace q517 := eq_true q517
                         obtain ⟨Ao110, co110, eo110⟩ := Kd.R_slice HO_25.out
                         subst eo110
                         have p518 : 0 ≤ (x373_6 : Int) := of_decide_eq_true (by first | (with_reducible assumption) | assumption)
                         have q518 : x373_6 < (t463.length : Int) := of_decide_eq_true (by first | (with_reducible assumption) | assumption)
                         obtain ⟨ad518, e518, hx518_0⟩ := Kd.at_int (Kd.R_reads' HO_25.out).2.2 x373_6 p518 q518
                         cases e518
                         replace p518 := eq_true p518
                         replace q518 := eq_true q518
                         have p519 : 0 ≤ ((rd t463 x373_6) : Int) := of_decide_eq_true (by first | (with_reducible assumption) | assumption)
                         have q519 : (rd t463 x373_6) < (t450.length : Int) := of_decide_eq_true (by first | (with_reducible assumption) | assumption)
                         obtain ⟨ad519, e519, hx519_0⟩ := Kd.at_int (Kd.R_reads' HO_20.out).2.2 (rd t463 x373_6) p519 q519
                         obtain rfl : ad517 = ad519 := (by injection e519)
                         replace p519 := eq_true p519
                         replace q519 := eq_true q519
                         have p520 : 0 ≤ (x373_6 : Int) := of_decide_eq_true (by first | (with_reducible assumption) | assumption)
                         have q520 : x373_6 < (t450.length : Int) := of_decide_eq_true (by first | (with_reducible assumption) | assumption)
                         obtain ⟨ad520, e520, hx520_0⟩ := Kd.at_int (Kd.R_reads' HO_20.out).2.2 x373_6 p520 q520
                         obtain rfl : ad517 = ad520 := (by injection e520)
                         replace p520 := eq_true p520
                         replace q520 := eq_true q520
                         go_wp2
                         repeat (go_quiet (fail); try go_wp2)
                         go_roundg k6
                         case measure => have := HJ7.out; have := HJ15.out; have := HJ41.out; have := HJ85.out; have := HK5.out; have := HK6.out; omega
                         case rel => exact ⟨(wrap64 (x65_6 + (wrap64 ((rd t449 x373_6) * (wrap64 (Int.tdiv x62_5 (rd t450 (rd t455 x373_6)))))))), (wrap64 (x66_6 + (wrap64 ((rd t449 x373_6) * (wrap64 (Int.tdiv x62_5 (rd t450 (rd t463 x373_6)))))))), (wrap64 (x67_6 + (wrap64 ((rd t449 x373_6) * (wrap64 (Int.tdiv x62_5 (rd t450 x373_6))))))), (wrap64 (x373_6 + 1)), (by first | rfl | (simp; done) | (simp [*]; done)), (by first | rfl | (simp; done) | (simp [*]; done)), (by first | rfl | (simp; done) | (simp [*]; done)), (by first | rfl | (simp; done) | (simp [*]; done)), H', ⟨by have := HJ7.out; have := HJ15.out; have := HJ41.out; have := HJ85.out; have := HK5.out; have := HK6.out; omega⟩, ⟨by (with_reducible repeat (first | apply Kd.R_alloc | apply Kd.R_drewN | apply Kd.R_drew)); exact HO_19.out⟩, ⟨by (with_reducible repeat (first | apply Kd.R_alloc | apply Kd.R_drewN | apply Kd.R_drew)); exact HO_20.out⟩, ⟨by (with_reducible repeat (first | apply Kd.R_alloc | apply Kd.R_drewN | apply Kd.R_drew)); exact HO_21.out⟩, ⟨by (with_reducible repeat (first | apply Kd.R_alloc | apply Kd.R_drewN | apply Kd.R_drew)); exact HO_25.out⟩, ⟨by (with_reducible repeat (first | apply Kd.R_alloc | apply Kd.R_drewN | apply Kd.R_drew)); exact HO_29.out⟩, ⟨by (with_reducible repeat (first | apply Kd.R_alloc | apply Kd.R_drewN | apply Kd.R_drew)); exact HO_30.out⟩, ⟨by (with_reducible repeat (first | apply Kd.R_alloc | apply Kd.R_drewN | apply Kd.R_drew)); exact HO_371.out⟩, ⟨by repeat (first | (with_reducible first | exact HB.out | apply below_alloc | apply pw_below_drewN | apply below_drew1) | exact HB.out)⟩⟩
                       ·rw [if_neg c107] at H
                        exact absurd H (by simp)
                     ·rw [if_neg c105] at H
                      exact absurd H (by simp)
                    ·rw [if_neg c104] at H
                     exact absurd H (by simp)
                   ·rw [if_neg c103] at H
                    exact absurd H (by simp)
                 ·rw [if_neg c101] at H
                  exact absurd H (by simp)
                ·rw [if_neg c100] at H
                 exact absurd H (by simp)
               ·rw [if_neg c99] at H
                exact absurd H (by simp)
              ·rw [if_neg c98] at H
               exact absurd H (by simp)
             ·rw [if_neg c97] at H
              exact absurd H (by simp)
            ·rw [if_neg c96] at H
             have c96b0 : decide (x373_6 < (t449.length : Int)) = false := decide_eq_false c96
             clear c96
             have HC111 := Aside0.mk H
             clear H
             go_upto_region 47 with (fail)
             repeat (go_quiet (fail); go_upto_region 47 with (fail))
             go_cut [422] from 100000 (fun v422 wc => ∃ (kq : Nat) (x422_110 : Bool), v422 = .bool x422_110 ∧ Aside0 (laws_FnLegsShared.j6 kq t449 t450 t455 t463 t471 t474 t475 t482 t483 t484 t485 t486 t487 t488 t489 t490 t496 t497 t498 t499 t500 t501 t502 t503 x422_110 = some r) ∧ Aside0 (kq ≤ k6) ∧ Aside0 (Kd.R (Kd.int .i64) 3 wc w.heap.size (fun k_ => some k_ ≠ ((.slice Ao45 t450.length co45) : Value).ownBlock ∧ some k_ ≠ (v457 : Value).ownBlock ∧ some k_ ≠ (v465 : Value).ownBlock) (.slice Ao44 t449.length co44) t449) ∧ Aside0 (Kd.R (Kd.int .i64) 3 wc w.heap.size (fun k_ => some k_ ≠ ((.slice Ao44 t449.length co44) : Value).ownBlock ∧ some k_ ≠ (v457 : Value).ownBlock ∧ some k_ ≠ (v465 : Value).ownBlock) (.slice Ao45 t450.length co45) t450) ∧ Aside0 (Kd.R (Kd.int .i64) 3 wc w.heap.size (fun k_ => some k_ ≠ ((.slice Ao44 t449.length co44) : Value).ownBlock ∧ some k_ ≠ ((.slice Ao45 t450.length co45) : Value).ownBlock ∧ some k_ ≠ (v465 : Value).ownBlock) v457 t455) ∧ Aside0 (Kd.R (Kd.int .i64) 3 wc w.heap.size (fun k_ => some k_ ≠ ((.slice Ao44 t449.length co44) : Value).ownBlock ∧ some k_ ≠ ((.slice Ao45 t450.length co45) : Value).ownBlock ∧ some k_ ≠ (v457 : Value).ownBlock) v465 t463) ∧ Aside0 (Kd.R k54 54 wc w.heap.size (fun k_ => some k_ ≠ (v476 : Value).ownBlock) (.slice Ao51 t471.length co51) t471) ∧ Aside0 (Kd.R k54 54 wc w.heap.size (fun k_ => some k_ ≠ ((.slice Ao51 t471.length co51) : Value).ownBlock) v476 t474) ∧ Aside0 (Below w.heap.size w wc))
             case first =>
              have H := HC111.out
              clear HC111
              by_cases c112 : x65_6 > x67_6
              ·rw [if_pos c112] at H
               have c112b0 : decide (x67_6 < x65_6) = true := decide_eq_true c112
               clear c112
               (first | rw [c112b0] | (simp only [i64_w, i32_w]; rw [c112b0]) | skip)
               exact absurd H (by rw [HR_.out]; cases k6 <;> simp [laws_FnLegsShared.j6])
              ·rw [if_neg c112] at H
               have c112b0 : decide (x67_6 < x65_6) = false := decide_eq_false c112
               clear c112
               (first | rw [c112b0] | (simp only [i64_w, i32_w]; rw [c112b0]) | skip)
               have H' := Aside0.mk H
               clear H
               go_wp2
               repeat (go_quiet (fail); try go_wp2)
               go_meet
               case rel => exact ⟨_, (decide (x66_6 < x67_6)), (by first | rfl | (simp; done) | (simp [*]; done)), H', ⟨by have := HJ7.out; have := HJ15.out; have := HJ41.out; have := HJ85.out; have := HK5.out; have := HK6.out; first | omega | exact Nat.le_refl _⟩, ⟨by (with_reducible repeat (first | apply Kd.R_alloc | apply Kd.R_drewN | apply Kd.R_drew)); exact HO_19.out⟩, ⟨by (with_reducible repeat (first | apply Kd.R_alloc | apply Kd.R_drewN | apply Kd.R_drew)); exact Kd.R_mono HO_20.out (fun _ hk => ⟨hk.1, ⟨hk.2.1, hk.2.2.1⟩⟩)⟩, ⟨by (with_reducible repeat (first | apply Kd.R_alloc | apply Kd.R_drewN | apply Kd.R_drew)); exact Kd.R_mono HO_21.out (fun _ hk => ⟨hk.1, ⟨hk.2.1, hk.2.2.1⟩⟩)⟩, ⟨by (with_reducible repeat (first | apply Kd.R_alloc | apply Kd.R_drewN | apply Kd.R_drew)); exact Kd.R_mono HO_25.out (fun _ hk => ⟨hk.1, ⟨hk.2.1, hk.2.2.1⟩⟩)⟩, ⟨by (with_reducible repeat (first | apply Kd.R_alloc | apply Kd.R_drewN | apply Kd.R_drew)); exact HO_29.out⟩, ⟨by (with_reducible repeat (first | apply Kd.R_alloc | apply Kd.R_drewN | apply Kd.R_drew)); exact HO_30.out⟩, ⟨by repeat (first | (with_reducible first | exact HB.out | apply below_alloc | apply pw_below_drewN | apply below_drew1) | exact HB.out)⟩⟩
             case rest =>
              clear HC111
              (try clear c1); (try clear c2); (try clear p2); (try clear c4); (try clear c5); (try clear p5); (try clear q5); (try clear hx5); (try clear c6); (try clear p6); (try clear c7); (try clear c8); (try clear c9); (try clear c10); (try clear c11); (try clear c13); (try clear c13b0); (try clear c13b1); (try clear c13b2); (try clear c14); (try clear c14b0); (try clear c14b1); (try clear c15); (try clear c17); (try clear c21); (try clear c22); (try clear c22b0); (try clear c23); (try clear c24); (try clear c25); (try clear c25b0); (try clear c25b1); (try clear p51); (try clear q51); (try clear hx51); (try clear p52); (try clear q52); (try clear hx52); (try clear c58); (try clear c58b0); (try clear c58b1); (try clear c58b2); (try clear c60); (try clear c61); (try clear c61b0); (try clear c61b1); (try clear c61b2); (try clear c63); (try clear c64); (try clear c64b0); (try clear c64b1); (try clear c64b2); (try clear p64); (try clear c65); (try clear c65b0); (try clear c65b1); (try clear c65b2); (try clear c67); (try clear c68); (try clear c68b0); (try clear c68b1); (try clear c68b2); (try clear c69); (try clear c69b0); (try clear c69b1); (try clear c70); (try clear c70b0); (try clear c70b1); (try clear c71); (try clear c71b0); (try clear c71b1); (try clear c72); (try clear c72b0); (try clear c72b1); (try clear c73); (try clear c73b0); (try clear c73b1); (try clear c73b2); (try clear c74); (try clear c74b0); (try clear c74b1); (try clear c75); (try clear c75b0); (try clear c75b1); (try clear c76); (try clear c76b0); (try clear c76b1); (try clear c83); (try clear c85); (try clear c88); (try clear c92); (try clear c93); (try clear c93b0); (try clear c94); (try clear c94b0); (try clear c95); (try clear c95b0); (try clear c96); (try clear c96b0); (try clear c97); (try clear c97b0); (try clear c98); (try clear c98b0); (try clear c99); (try clear c99b0); (try clear c100); (try clear c100b0); (try clear c101); (try clear c101b0); (try clear c102); (try clear c102b0); (try clear c102b1); (try clear c103); (try clear c103b0); (try clear c104); (try clear c104b0); (try clear c105); (try clear c105b0); (try clear c106); (try clear c106b0); (try clear c106b1); (try clear c107); (try clear c107b0); (try clear c108); (try clear c108b0); (try clear c108b1); (try clear c112); (try clear c112b0); (try clear hx514_0); (try clear hx515_0); (try clear hx516_0); (try clear hx517_0); (try clear hx518_0); (try clear hx519_0); (try clear hx520_0); (try clear p2); (try clear p5); (try clear p51); (try clear p514); (try clear p515); (try clear p516); (try clear p517); (try clear p518); (try clear p519); (try clear p520); (try clear p6); (try clear p64); (try clear q5); (try clear q51); (try clear q514); (try clear q515); (try clear q516); (try clear q517); (try clear q518); (try clear q519); (try clear q520)
              obtain ⟨kq, x422_110, rfl, HA, HJ110, HO_19, HO_20, HO_21, HO_25, HO_29, HO_30, HB⟩ := hcut
              cases kq with
              | zero => exact absurd HA.out (by simp [laws_FnLegsShared.j6])
              | succ kj110 =>
               have H := HA.out
               clear HA
               simp only [laws_FnLegsShared.j6] at H
               by_cases c113 : x422_110 = true
               ·subst c113
                have H1 : (some false) = some r := by rw [if_pos rfl] at H; exact H
                clear H
                have H := H1
                clear H1
                exact absurd (Option.some.inj H).symm (by rw [HR_.out]; decide)
               ·replace c113 := Bool.eq_false_iff.mpr c113
                subst c113
                have H1 : (laws_FnLegsShared.l2 kj110 t449 t450 t455 t463 t471 t474 t475 t482 t483 t484 t485 t486 t487 t488 t489 t490 t496 t497 t498 t499 t500 t501 t502 t503 (t449.length : Int) 0) = some r := by rw [if_neg (show ¬ (false = true) by decide)] at H; exact H
                clear H
                have H := H1
                clear H1
                have H' := Aside0.mk H
                clear H
                go_wp2
                repeat (go_quiet (fail); try go_wp2)
                go_loopg [425] kj110 (fun kq v425 w' => ∃ (x425_8 : Int), v425 = .int .i64 x425_8 ∧ Aside0 (laws_FnLegsShared.l2 kq t449 t450 t455 t463 t471 t474 t475 t482 t483 t484 t485 t486 t487 t488 t489 t490 t496 t497 t498 t499 t500 t501 t502 t503 (t449.length : Int) x425_8 = some r) ∧ Aside0 (kq ≤ kj110) ∧ Aside0 (Kd.R (Kd.int .i64) 3 w' w.heap.size (fun k_ => some k_ ≠ ((.slice Ao45 t450.length co45) : Value).ownBlock ∧ some k_ ≠ (v457 : Value).ownBlock ∧ some k_ ≠ (v465 : Value).ownBlock) (.slice Ao44 t449.length co44) t449) ∧ Aside0 (Kd.R (Kd.int .i64) 3 w' w.heap.size (fun k_ => some k_ ≠ ((.slice Ao44 t449.length co44) : Value).ownBlock ∧ some k_ ≠ (v457 : Value).ownBlock ∧ some k_ ≠ (v465 : Value).ownBlock) (.slice Ao45 t450.length co45) t450) ∧ Aside0 (Kd.R (Kd.int .i64) 3 w' w.heap.size (fun k_ => some k_ ≠ ((.slice Ao44 t449.length co44) : Value).ownBlock ∧ some k_ ≠ ((.slice Ao45 t450.length co45) : Value).ownBlock ∧ some k_ ≠ (v465 : Value).ownBlock) v457 t455) ∧ Aside0 (Kd.R (Kd.int .i64) 3 w' w.heap.size (fun k_ => some k_ ≠ ((.slice Ao44 t449.length co44) : Value).ownBlock ∧ some k_ ≠ ((.slice Ao45 t450.length co45) : Value).ownBlock ∧ some k_ ≠ (v457 : Value).ownBlock) v465 t463) ∧ Aside0 (Kd.R k54 54 w' w.heap.size (fun k_ => some k_ ≠ (v476 : Value).ownBlock) (.slice Ao51 t471.length co51) t471) ∧ Aside0 (Kd.R k54 54 w' w.heap.size (fun k_ => some k_ ≠ ((.slice Ao51 t471.length co51) : Value).ownBlock) v476 t474) ∧ Aside0 (Below w.heap.size w w'))
                case atStart => exact ⟨(0), (by first | rfl | (simp; done) | (simp [*]; done)), H', ⟨Nat.le_refl _⟩, ⟨by (with_reducible repeat (first | apply Kd.R_alloc | apply Kd.R_drewN | apply Kd.R_drew)); exact HO_19.out⟩, ⟨by (with_reducible repeat (first | apply Kd.R_alloc | apply Kd.R_drewN | apply Kd.R_drew)); exact HO_20.out⟩, ⟨by (with_reducible repeat (first | apply Kd.R_alloc | apply Kd.R_drewN | apply Kd.R_drew)); exact HO_21.out⟩, ⟨by (with_reducible repeat (first | apply Kd.R_alloc | apply Kd.R_drewN | apply Kd.R_drew)); exact HO_25.out⟩, ⟨by (with_reducible repeat (first | apply Kd.R_alloc | apply Kd.R_drewN | apply Kd.R_drew)); exact HO_29.out⟩, ⟨by (with_reducible repeat (first | apply Kd.R_alloc | apply Kd.R_drewN | apply Kd.R_drew)); exact HO_30.out⟩, ⟨by repeat (first | (with_reducible first | exact HB.out | apply below_alloc | apply pw_below_drewN | apply below_drew1) | exact HB.out)⟩⟩
                case round =>
                 clear H'
                 (try clear c1); (try clear c2); (try clear p2); (try clear c4); (try clear c5); (try clear p5); (try clear q5); (try clear hx5); (try clear c6); (try clear p6); (try clear c7); (try clear c8); (try clear c9); (try clear c10); (try clear c11); (try clear c13); (try clear c13b0); (try clear c13b1); (try clear c13b2); (try clear c14); (try clear c14b0); (try clear c14b1); (try clear c15); (try clear c17); (try clear c21); (try clear c22); (try clear c22b0); (try clear c23); (try clear c24); (try clear c25); (try clear c25b0); (try clear c25b1); (try clear p51); (try clear q51); (try clear hx51); (try clear p52); (try clear q52); (try clear hx52); (try clear c58); (try clear c58b0); (try clear c58b1); (try clear c58b2); (try clear c60); (try clear c61); (try clear c61b0); (try clear c61b1); (try clear c61b2); (try clear c63); (try clear c64); (try clear c64b0); (try clear c64b1); (try clear c64b2); (try clear p64); (try clear c65); (try clear c65b0); (try clear c65b1); (try clear c65b2); (try clear c67); (try clear c68); (try clear c68b0); (try clear c68b1); (try clear c68b2); (try clear c69); (try clear c69b0); (try clear c69b1); (try clear c70); (try clear c70b0); (try clear c70b1); (try clear c71); (try clear c71b0); (try clear c71b1); (try clear c72); (try clear c72b0); (try clear c72b1); (try clear c73); (try clear c73b0); (try clear c73b1); (try clear c73b2); (try clear c74); (try clear c74b0); (try clear c74b1); (try clear c75); (try clear c75b0); (try clear c75b1); (try clear c76); (try clear c76b0); (try clear c76b1); (try clear c83); (try clear c85); (try clear c88); (try clear c92); (try clear c93); (try clear c93b0); (try clear c94); (try clear c94b0); (try clear c95); (try clear c95b0); (try clear c96); (try clear c96b0); (try clear c97); (try clear c97b0); (try clear c98); (try clear c98b0); (try clear c99); (try clear c99b0); (try clear c100); (try clear c100b0); (try clear c101); (try clear c101b0); (try clear c102); (try clear c102b0); (try clear c102b1); (try clear c103); (try clear c103b0); (try clear c104); (try clear c104b0); (try clear c105); (try clear c105b0); (try clear c106); (try clear c106b0); (try clear c106b1); (try clear c107); (try clear c107b0); (try clear c108); (try clear c108b0); (try clear c108b1); (try clear c112); (try clear c112b0); (try clear c113); (try clear hx514_0); (try clear hx515_0); (try clear hx516_0); (try clear hx517_0); (try clear hx518_0); (try clear hx519_0); (try clear hx520_0); (try clear p2); (try clear p5); (try clear p51); (try clear p514); (try clear p515); (try clear p516); (try clear p517); (try clear p518); (try clear p519); (try clear p52); (try clear p520); (try clear p6); (try clear p64); (try clear q5); (try clear q51); (try clear q514); (try clear q515); (try clear q516); (try clear q517); (try clear q518); (try clear q519); (try clear q52); (try clear q520)
                 obtain ⟨x425_8, rfl, HA, HK8, HO_19, HO_20, HO_21, HO_25, HO_29, HO_30, HB⟩ := hrel
                 cases gk with
                 | zero => exact absurd HA.out (by simp [laws_FnLegsShared.l2])
                 | succ k8 =>
                  have H := HA.out
                  clear HA
                  simp only [laws_FnLegsShared.l2] at H
                  by_cases c114 : x425_8 < (t449.length : Int)
                  ·rw [if_pos c114] at H
                   have c114b0 : decide (x425_8 < (t449.length : Int)) = true := decide_eq_true c114
                   clear c114
                   have H' := Aside0.mk H
                   clear H
                   go_wp2
                   repeat (go_quiet (fail); try go_wp2)
                   go_loopg [430] k8 (fun kq v430 w' => ∃ (x430_9 : Int), v430 = .int .i64 x430_9 ∧ Aside0 (laws_FnLegsShared.l3 kq t449 t450 t455 t463 t471 t474 t475 t482 t483 t484 t485 t486 t487 t488 t489 t490 t496 t497 t498 t499 t500 t501 t502 t503 x425_8 (t449.length : Int) x425_8 (t449.length : Int) x430_9 = some r) ∧ Aside0 (kq ≤ k8) ∧ Aside0 (Kd.R (Kd.int .i64) 3 w' w.heap.size (fun k_ => some k_ ≠ ((.slice Ao45 t450.length co45) : Value).ownBlock ∧ some k_ ≠ (v457 : Value).ownBlock ∧ some k_ ≠ (v465 : Value).ownBlock) (.slice Ao44 t449.length co44) t449) ∧ Aside0 (Kd.R (Kd.int .i64) 3 w' w.heap.size (fun k_ => some k_ ≠ ((.slice Ao44 t449.length co44) : Value).ownBlock ∧ some k_ ≠ (v457 : Value).ownBlock ∧ some k_ ≠ (v465 : Value).ownBlock) (.slice Ao45 t450.length co45) t450) ∧ Aside0 (Kd.R (Kd.int .i64) 3 w' w.heap.size (fun k_ => some k_ ≠ ((.slice Ao44 t449.length co44) : Value).ownBlock ∧ some k_ ≠ ((.slice Ao45 t450.length co45) : Value).ownBlock ∧ some k_ ≠ (v465 : Value).ownBlock) v457 t455) ∧ Aside0 (Kd.R (Kd.int .i64) 3 w' w.heap.size (fun k_ => some k_ ≠ ((.slice Ao44 t449.length co44) : Value).ownBlock ∧ some k_ ≠ ((.slice Ao45 t450.length co45) : Value).ownBlock ∧ some k_ ≠ (v457 : Value).ownBlock) v465 t463) ∧ Aside0 (Kd.R k54 54 w' w.heap.size (fun k_ => some k_ ≠ (v476 : Value).ownBlock) (.slice Ao51 t471.length co51) t471) ∧ Aside0 (Kd.R k54 54 w' w.heap.size (fun k_ => some k_ ≠ ((.slice Ao51 t471.length co51) : Value).ownBlock) v476 t474) ∧ Aside0 (Below w.heap.size w w'))
                   case atStart => exact ⟨(0), (by first | rfl | (simp; done) | (simp [*]; done)), H', ⟨Nat.le_refl _⟩, ⟨by (with_reducible repeat (first | apply Kd.R_alloc | apply Kd.R_drewN | apply Kd.R_drew)); exact HO_19.out⟩, ⟨by (with_reducible repeat (first | apply Kd.R_alloc | apply Kd.R_drewN | apply Kd.R_drew)); exact HO_20.out⟩, ⟨by (with_reducible repeat (first | apply Kd.R_alloc | apply Kd.R_drewN | apply Kd.R_drew)); exact HO_21.out⟩, ⟨by (with_reducible repeat (first | apply Kd.R_alloc | apply Kd.R_drewN | apply Kd.R_drew)); exact HO_25.out⟩, ⟨by (with_reducible repeat (first | apply Kd.R_alloc | apply Kd.R_drewN | apply Kd.R_drew)); exact HO_29.out⟩, ⟨by (with_reducible repeat (first | apply Kd.R_alloc | apply Kd.R_drewN | apply Kd.R_drew)); exact HO_30.out⟩, ⟨by repeat (first | (with_reducible first | exact HB.out | apply below_alloc | apply pw_below_drewN | apply below_drew1) | exact HB.out)⟩⟩
                   case round =>
                    clear H'
                    (try clear c1); (try clear c2); (try clear p2); (try clear c4); (try clear c5); (try clear p5); (try clear q5); (try clear hx5); (try clear c6); (try clear p6); (try clear c7); (try clear c8); (try clear c9); (try clear c10); (try clear c11); (try clear c13); (try clear c13b0); (try clear c13b1); (try clear c13b2); (try clear c14); (try clear c14b0); (try clear c14b1); (try clear c15); (try clear c17); (try clear c21); (try clear c22); (try clear c22b0); (try clear c23); (try clear c24); (try clear c25); (try clear c25b0); (try clear c25b1); (try clear p51); (try clear q51); (try clear hx51); (try clear p52); (try clear q52); (try clear hx52); (try clear c58); (try clear c58b0); (try clear c58b1); (try clear c58b2); (try clear c60); (try clear c61); (try clear c61b0); (try clear c61b1); (try clear c61b2); (try clear c63); (try clear c64); (try clear c64b0); (try clear c64b1); (try clear c64b2); (try clear p64); (try clear c65); (try clear c65b0); (try clear c65b1); (try clear c65b2); (try clear c67); (try clear c68); (try clear c68b0); (try clear c68b1); (try clear c68b2); (try clear c69); (try clear c69b0); (try clear c69b1); (try clear c70); (try clear c70b0); (try clear c70b1); (try clear c71); (try clear c71b0); (try clear c71b1); (try clear c72); (try clear c72b0); (try clear c72b1); (try clear c73); (try clear c73b0); (try clear c73b1); (try clear c73b2); (try clear c74); (try clear c74b0); (try clear c74b1); (try clear c75); (try clear c75b0); (try clear c75b1); (try clear c76); (try clear c76b0); (try clear c76b1); (try clear c83); (try clear c85); (try clear c88); (try clear c92); (try clear c93); (try clear c93b0); (try clear c94); (try clear c94b0); (try clear c95); (try clear c95b0); (try clear c96); (try clear c96b0); (try clear c97); (try clear c97b0); (try clear c98); (try clear c98b0); (try clear c99); (try clear c99b0); (try clear c100); (try clear c100b0); (try clear c101); (try clear c101b0); (try clear c102); (try clear c102b0); (try clear c102b1); (try clear c103); (try clear c103b0); (try clear c104); (try clear c104b0); (try clear c105); (try clear c105b0); (try clear c106); (try clear c106b0); (try clear c106b1); (try clear c107); (try clear c107b0); (try clear c108); (try clear c108b0); (try clear c108b1); (try clear c112); (try clear c112b0); (try clear c113); (try clear c114); (try clear c114b0); (try clear hx514_0); (try clear hx515_0); (try clear hx516_0); (try clear hx517_0); (try clear hx518_0); (try clear hx519_0); (try clear hx520_0); (try clear p2); (try clear p5); (try clear p51); (try clear p514); (try clear p515); (try clear p516); (try clear p517); (try clear p518); (try clear p519); (try clear p52); (try clear p520); (try clear p6); (try clear p64); (try clear q5); (try clear q51); (try clear q514); (try clear q515); (try clear q516); (try clear q517); (try clear q518); (try clear q519); (try clear q52); (try clear q520)
                    obtain ⟨x430_9, rfl, HA, HK9, HO_19, HO_20, HO_21, HO_25, HO_29, HO_30, HB⟩ := hrel
                    cases gk with
                    | zero => exact absurd HA.out (by simp [laws_FnLegsShared.l3])
                    | succ k9 =>
                     have H := HA.out
                     clear HA
                     simp only [laws_FnLegsShared.l3] at H
                     by_cases c115 : x430_9 < (t449.length : Int)
                     ·rw [if_pos c115] at H
                      have c115b0 : decide (x430_9 < (t449.length : Int)) = true := decide_eq_true c115
                      clear c115
                      by_cases c116 : 0 ≤ x425_8
                      ·rw [if_pos c116] at H
                       have c116b0 : decide (0 ≤ x425_8) = true := decide_eq_true c116
                       clear c116
                       by_cases c117 : x425_8 < (t449.length : Int)
                       ·rw [if_pos c117] at H
                        have c117b0 : decide (x425_8 < (t449.length : Int)) = true := decide_eq_true c117
                        clear c117
                        by_cases c118 : 0 ≤ x430_9
                        ·rw [if_pos c118] at H
                         have c118b0 : decide (0 ≤ x430_9) = true := decide_eq_true c118
                         clear c118
                         by_cases c119 : x430_9 < (t449.length : Int)
                         ·rw [if_pos c119] at H
                          have c119b0 : decide (x430_9 < (t449.length : Int)) = true := decide_eq_true c119
                          clear c119
                          by_cases c120 : (rd t449 x425_8) > (rd t449 x430_9)
                          ·rw [if_pos c120] at H
                           have c120b0 : decide ((rd t449 x430_9) < (rd t449 x425_8)) = true := decide_eq_true c120
                           clear c120
                           by_cases c121 : x425_8 < (t455.length : Int)
                           ·rw [if_pos c121] at H
                            have c121b0 : decide (x425_8 < (t455.length : Int)) = true := decide_eq_true c121
                            clear c121
                            by_cases c122 : 0 ≤ (rd t455 x425_8)
                            ·rw [if_pos c122] at H
                             have c122b0 : decide (0 ≤ (rd t455 x425_8)) = true := decide_eq_true c122
                             clear c122
                             by_cases c123 : (rd t455 x425_8) < (t450.length : Int)
                             ·rw [if_pos c123] at H
                              have c123b0 : decide ((rd t455 x425_8) < (t450.length : Int)) = true := decide_eq_true c123
                              clear c123
                              by_cases c124 : x430_9 < (t455.length : Int)
                              ·rw [if_pos c124] at H
                               have c124b0 : decide (x430_9 < (t455.length : Int)) = true := decide_eq_true c124
                               clear c124
                               by_cases c125 : 0 ≤ (rd t455 x430_9)
                               ·rw [if_pos c125] at H
                                have c125b0 : decide (0 ≤ (rd t455 x430_9)) = true := decide_eq_true c125
                                clear c125
                                by_cases c126 : (rd t455 x430_9) < (t450.length : Int)
                                ·rw [if_pos c126] at H
                                 have c126b0 : decide ((rd t455 x430_9) < (t450.length : Int)) = true := decide_eq_true c126
                                 clear c126
                                 by_cases c127 : (rd t450 (rd t455 x425_8)) < (rd t450 (rd t455 x430_9))
                                 ·rw [if_pos c127] at H
                                  have c127b0 : decide ((rd t450 (rd t455 x425_8)) < (rd t450 (rd t455 x430_9))) = true := decide_eq_true c127
                                  clear c127
                                  exact absurd (Option.some.inj H).symm (by rw [HR_.out]; decide)
                                 ·rw [if_neg c127] at H
                                  have c127b0 : decide ((rd t450 (rd t455 x425_8)) < (rd t450 (rd t455 x430_9))) = false := decide_eq_false c127
                                  clear c127
                                  by_cases c128 : x425_8 < (t463.length : Int)
                                  ·rw [if_pos c128] at H
                                   have c128b0 : decide (x425_8 < (t463.length : Int)) = true := decide_eq_true c128
                                   clear c128
                                   by_cases c129 : 0 ≤ (rd t463 x425_8)
                                   ·rw [if_pos c129] at H
                                    have c129b0 : decide (0 ≤ (rd t463 x425_8)) = true := decide_eq_true c129
                                    clear c129
                                    by_cases c130 : (rd t463 x425_8) < (t450.length : Int)
                                    ·rw [if_pos c130] at H
                                     have c130b0 : decide ((rd t463 x425_8) < (t450.length : Int)) = true := decide_eq_true c130
                                     clear c130
                                     by_cases c131 : x430_9 < (t463.length : Int)
                                     ·rw [if_pos c131] at H
                                      have c131b0 : decide (x430_9 < (t463.length : Int)) = true := decide_eq_true c131
                                      clear c131
                                      by_cases c132 : 0 ≤ (rd t463 x430_9)
                                      ·rw [if_pos c132] at H
                                       have c132b0 : decide (0 ≤ (rd t463 x430_9)) = true := decide_eq_true c132
                                       clear c132
                                       by_cases c133 : (rd t463 x430_9) < (t450.length : Int)
                                       ·rw [if_pos c133] at H
                                        have c133b0 : decide ((rd t463 x430_9) < (t450.length : Int)) = true := decide_eq_true c133
                                        clear c133
                                        by_cases c134 : (rd t450 (rd t463 x425_8)) > (rd t450 (rd t463 x430_9))
                                        ·rw [if_pos c134] at H
                                         have c134b0 : decide ((rd t450 (rd t463 x430_9)) < (rd t450 (rd t463 x425_8))) = true := decide_eq_true c134
                                         clear c134
                                         exact absurd (Option.some.inj H).symm (by rw [HR_.out]; decide)
                                        ·rw [if_neg c134] at H
                                         have c134b0 : decide ((rd t450 (rd t463 x430_9)) < (rd t450 (rd t463 x425_8))) = false := decide_eq_false c134
                                         clear c134
                                         have H' := Aside0.mk H
                                         clear H
                                         have p521 : 0 ≤ (x425_8 : Int) := of_decide_eq_true (by first | (with_reducible assumption) | assumption)
                                         have q521 : x425_8 < (t449.length : Int) := of_decide_eq_true (by first | (with_reducible assumption) | assumption)
                                         obtain ⟨ad521, e521, hx521_0⟩ := Kd.at_int (Kd.R_reads' HO_19.out).2.2 x425_8 p521 q521
                                         cases e521
                                         replace p521 := eq_true p521
                                         replace q521 := eq_true q521
                                         have p522 : 0 ≤ (x430_9 : Int) := of_decide_eq_true (by first | (with_reducible assumption) | assumption)
                                         have q522 : x430_9 < (t449.length : Int) := of_decide_eq_true (by first | (with_reducible assumption) | assumption)
                                         obtain ⟨ad522, e522, hx522_0⟩ := Kd.at_int (Kd.R_reads' HO_19.out).2.2 x430_9 p522 q522
                                         obtain rfl : ad521 = ad522 := (by injection e522)
                                         replace p522 := eq_true p522
                                         replace q522 := eq_true q522
                                         obtain ⟨Ao135, co135, eo135⟩ := Kd.R_slice HO_21.out
                                         subst eo135
                                         have p523 : 0 ≤ (x425_8 : Int) := of_decide_eq_true (by first | (with_reducible assumption) | assumption)
                                         have q523 : x425_8 < (t455.length : Int) := of_decide_eq_true (by first | (with_reducible assumption) | assumption)
                                         obtain ⟨ad523, e523, hx523_0⟩ := Kd.at_int (Kd.R_reads' HO_21.out).2.2 x425_8 p523 q523
                                         cases e523
                                         replace p523 := eq_true p523
                                         replace q523 := eq_true q523
                                         have p524 : 0 ≤ ((rd t455 x425_8) : Int) := of_decide_eq_true (by first | (with_reducible assumption) | assumption)
                                         have q524 : (rd t455 x425_8) < (t450.length : Int) := of_decide_eq_true (by first | (with_reducible assumption) | assumption)
                                         obtain ⟨ad524, e524, hx524_0⟩ := Kd.at_int (Kd.R_reads' HO_20.out).2.2 (rd t455 x425_8) p524 q524
                                         cases e524
                                         replace p524 := eq_true p524
                                         replace q524 := eq_true q524
                                         have p525 : 0 ≤ (x430_9 : Int) := of_decide_eq_true (by first | (with_reducible assumption) | assumption)
                                         have q525 : x430_9 < (t455.length : Int) := of_decide_eq_true (by first | (with_reducible assumption) | assumption)
                                         obtain ⟨ad525, e525, hx525_0⟩ := Kd.at_int (Kd.R_reads' HO_21.out).2.2 x430_9 p525 q525
                                         obtain rfl : ad523 = ad525 := (by injection e525)
                                         replace p525 := eq_true p525
                                         replace q525 := eq_true q525
                                         have p526 : 0 ≤ ((rd t455 x430_9) : Int) := of_decide_eq_true (by first | (with_reducible assumption) | assumption)
                                         have q526 : (rd t455 x430_9) < (t450.length : Int) := of_decide_eq_true (by first | (with_reducible assumption) | assumption)
                                         obtain ⟨ad526, e526, hx526_0⟩ := Kd.at_int (Kd.R_reads' HO_20.out).2.2 (rd t455 x430_9) p526 q526
                                         obtain rfl : ad524 = ad526 := (by injection e526)
                                         replace p526 := eq_true p526
                                         replace q526 := eq_true q526
                                         obtain ⟨Ao136, co136, eo136⟩ := Kd.R_slice HO_25.out
                                         subst eo136
                                         have p527 : 0 ≤ (x425_8 : Int) := of_decide_eq_true (by first | (with_reducible assumption) | assumption)
                                         have q527 : x425_8 < (t463.length : Int) := of_decide_eq_true (by first | (with_reducible assumption) | assumption)
                                         obtain ⟨ad527, e527, hx527_0⟩ := Kd.at_int (Kd.R_reads' HO_25.out).2.2 x425_8 p527 q527
                                         cases e527
                                         replace p527 := eq_true p527
                                         replace q527 := eq_true q527
                                         have p528 : 0 ≤ ((rd t463 x425_8) : Int) := of_decide_eq_true (by first | (with_reducible assumption) | assumption)
                                         have q528 : (rd t463 x425_8) < (t450.length : Int) := of_decide_eq_true (by first | (with_reducible assumption) | assumption)
                                         obtain ⟨ad528, e528, hx528_0⟩ := Kd.at_int (Kd.R_reads' HO_20.out).2.2 (rd t463 x425_8) p528 q528
                                         obtain rfl : ad524 = ad528 := (by injection e528)
                                         replace p528 := eq_true p528
                                         replace q528 := eq_true q528
                                         have p529 : 0 ≤ (x430_9 : Int) := of_decide_eq_true (by first | (with_reducible assumption) | assumption)
                                         have q529 : x430_9 < (t463.length : Int) := of_decide_eq_true (by first | (with_reducible assumption) | assumption)
                                         obtain ⟨ad529, e529, hx529_0⟩ := Kd.at_int (Kd.R_reads' HO_25.out).2.2 x430_9 p529 q529
                                         obtain rfl : ad527 = ad529 := (by injection e529)
                                         replace p529 := eq_true p529
                                         replace q529 := eq_true q529
                                         have p530 : 0 ≤ ((rd t463 x430_9) : Int) := of_decide_eq_true (by first | (with_reducible assumption) | assumption)
                                         have q530 : (rd t463 x430_9) < (t450.length : Int) := of_decide_eq_true (by first | (with_reducible assumption) | assumption)
                                         obtain ⟨ad530, e530, hx530_0⟩ := Kd.at_int (Kd.R_reads' HO_20.out).2.2 (rd t463 x430_9) p530 q530
                                         obtain rfl : ad524 = ad530 := (by injection e530)
                                         replace p530 := eq_true p530
                                         replace q530 := eq_true q530
                                         go_wp2
                                         repeat (go_quiet (fail); try go_wp2)
                                         go_roundg k9
                                         case measure => have := HJ7.out; have := HJ15.out; have := HJ41.out; have := HJ85.out; have := HK5.out; have := HK6.out; have := HJ110.out; have := HK8.out; have := HK9.out; omega
                                         case rel => exact ⟨(wrap64 (x430_9 + 1)), (by first | rfl | (simp; done) | (simp [*]; done)), H', ⟨by have := HJ7.out; have := HJ15.out; have := HJ41.out; have := HJ85.out; have := HK5.out; have := HK6.out; have := HJ110.out; have := HK8.out; have := HK9.out; omega⟩, ⟨by (with_reducible repeat (first | apply Kd.R_alloc | apply Kd.R_drewN | apply Kd.R_drew)); exact HO_19.out⟩, ⟨by (with_reducible repeat (first | apply Kd.R_alloc | apply Kd.R_drewN | apply Kd.R_drew)); exact HO_20.out⟩, ⟨by (with_reducible repeat (first | apply Kd.R_alloc | apply Kd.R_drewN | apply Kd.R_drew)); exact HO_21.out⟩, ⟨by (with_reducible repeat (first | apply Kd.R_alloc | apply Kd.R_drewN | apply Kd.R_drew)); exact HO_25.out⟩, ⟨by (with_reducible repeat (first | apply Kd.R_alloc | apply Kd.R_drewN | apply Kd.R_drew)); exact HO_29.out⟩, ⟨by (with_reducible repeat (first | apply Kd.R_alloc | apply Kd.R_drewN | apply Kd.R_drew)); exact HO_30.out⟩, ⟨by repeat (first | (with_reducible first | exact HB.out | apply below_alloc | apply pw_below_drewN | apply below_drew1) | exact HB.out)⟩⟩
                                       ·rw [if_neg c133] at H
                                        exact absurd H (by simp)
                                      ·rw [if_neg c132] at H
                                       exact absurd H (by simp)
                                     ·rw [if_neg c131] at H
                                      exact absurd H (by simp)
                                    ·rw [if_neg c130] at H
                                     exact absurd H (by simp)
                                   ·rw [if_neg c129] at H
                                    exact absurd H (by simp)
                                  ·rw [if_neg c128] at H
                                   exact absurd H (by simp)
                                ·rw [if_neg c126] at H
                                 exact absurd H (by simp)
                               ·rw [if_neg c125] at H
                                exact absurd H (by simp)
                              ·rw [if_neg c124] at H
                               exact absurd H (by simp)
                             ·rw [if_neg c123] at H
                              exact absurd H (by simp)
                            ·rw [if_neg c122] at H
                             exact absurd H (by simp)
                           ·rw [if_neg c121] at H
                            exact absurd H (by simp)
                          ·rw [if_neg c120] at H
                           have c120b0 : decide ((rd t449 x430_9) < (rd t449 x425_8)) = false := decide_eq_false c120
                           clear c120
                           have H' := Aside0.mk H
                           clear H
                           have p521 : 0 ≤ (x425_8 : Int) := of_decide_eq_true (by first | (with_reducible assumption) | assumption)
                           have q521 : x425_8 < (t449.length : Int) := of_decide_eq_true (by first | (with_reducible assumption) | assumption)
                           obtain ⟨ad521, e521, hx521_0⟩ := Kd.at_int (Kd.R_reads' HO_19.out).2.2 x425_8 p521 q521
                           cases e521
                           replace p521 := eq_true p521
                           replace q521 := eq_true q521
                           have p522 : 0 ≤ (x430_9 : Int) := of_decide_eq_true (by first | (with_reducible assumption) | assumption)
                           have q522 : x430_9 < (t449.length : Int) := of_decide_eq_true (by first | (with_reducible assumption) | assumption)
                           obtain ⟨ad522, e522, hx522_0⟩ := Kd.at_int (Kd.R_reads' HO_19.out).2.2 x430_9 p522 q522
                           obtain rfl : ad521 = ad522 := (by injection e522)
                           replace p522 := eq_true p522
                           replace q522 := eq_true q522
                           go_wp2
                           repeat (go_quiet (fail); try go_wp2)
                           go_roundg k9
                           case measure => have := HJ7.out; have := HJ15.out; have := HJ41.out; have := HJ85.out; have := HK5.out; have := HK6.out; have := HJ110.out; have := HK8.out; have := HK9.out; omega
                           case rel => exact ⟨(wrap64 (x430_9 + 1)), (by first | rfl | (simp; done) | (simp [*]; done)), H', ⟨by have := HJ7.out; have := HJ15.out; have := HJ41.out; have := HJ85.out; have := HK5.out; have := HK6.out; have := HJ110.out; have := HK8.out; have := HK9.out; omega⟩, ⟨by (with_reducible repeat (first | apply Kd.R_alloc | apply Kd.R_drewN | apply Kd.R_drew)); exact HO_19.out⟩, ⟨by (with_reducible repeat (first | apply Kd.R_alloc | apply Kd.R_drewN | apply Kd.R_drew)); exact HO_20.out⟩, ⟨by (with_reducible repeat (first | apply Kd.R_alloc | apply Kd.R_drewN | apply Kd.R_drew)); exact HO_21.out⟩, ⟨by (with_reducible repeat (first | apply Kd.R_alloc | apply Kd.R_drewN | apply Kd.R_drew)); exact HO_25.out⟩, ⟨by (with_reducible repeat (first | apply Kd.R_alloc | apply Kd.R_drewN | apply Kd.R_drew)); exact HO_29.out⟩, ⟨by (with_reducible repeat (first | apply Kd.R_alloc | apply Kd.R_drewN | apply Kd.R_drew)); exact HO_30.out⟩, ⟨by repeat (first | (with_reducible first | exact HB.out | apply below_alloc | apply pw_below_drewN | apply below_drew1) | exact HB.out)⟩⟩
                         ·rw [if_neg c119] at H
                          exact absurd H (by simp)
                        ·rw [if_neg c118] at H
                         exact absurd H (by simp)
                       ·rw [if_neg c117] at H
                        exact absurd H (by simp)
                      ·rw [if_neg c116] at H
                       exact absurd H (by simp)
                     ·rw [if_neg c115] at H
                      have c115b0 : decide (x430_9 < (t449.length : Int)) = false := decide_eq_false c115
                      clear c115
                      have H' := Aside0.mk H
                      clear H
                      go_wp2
                      repeat (go_quiet (fail); try go_wp2)
                      go_roundg k9
                      case measure => have := HJ7.out; have := HJ15.out; have := HJ41.out; have := HJ85.out; have := HK5.out; have := HK6.out; have := HJ110.out; have := HK8.out; have := HK9.out; omega
                      case rel => exact ⟨(wrap64 (x425_8 + 1)), (by first | rfl | (simp; done) | (simp [*]; done)), H', ⟨by have := HJ7.out; have := HJ15.out; have := HJ41.out; have := HJ85.out; have := HK5.out; have := HK6.out; have := HJ110.out; have := HK8.out; have := HK9.out; omega⟩, ⟨by (with_reducible repeat (first | apply Kd.R_alloc | apply Kd.R_drewN | apply Kd.R_drew)); exact HO_19.out⟩, ⟨by (with_reducible repeat (first | apply Kd.R_alloc | apply Kd.R_drewN | apply Kd.R_drew)); exact HO_20.out⟩, ⟨by (with_reducible repeat (first | apply Kd.R_alloc | apply Kd.R_drewN | apply Kd.R_drew)); exact HO_21.out⟩, ⟨by (with_reducible repeat (first | apply Kd.R_alloc | apply Kd.R_drewN | apply Kd.R_drew)); exact HO_25.out⟩, ⟨by (with_reducible repeat (first | apply Kd.R_alloc | apply Kd.R_drewN | apply Kd.R_drew)); exact HO_29.out⟩, ⟨by (with_reducible repeat (first | apply Kd.R_alloc | apply Kd.R_drewN | apply Kd.R_drew)); exact HO_30.out⟩, ⟨by repeat (first | (with_reducible first | exact HB.out | apply below_alloc | apply pw_below_drewN | apply below_drew1) | exact HB.out)⟩⟩
                  ·rw [if_neg c114] at H
                   have c114b0 : decide (x425_8 < (t449.length : Int)) = false := decide_eq_false c114
                   clear c114
                   have H' := Aside0.mk H
                   clear H
                   go_wp2
                   repeat (go_quiet (fail); try go_wp2)
                   go_meet
                   case rel => exact ⟨_, H', ⟨by have := HJ7.out; have := HJ15.out; have := HJ41.out; have := HJ85.out; have := HK5.out; have := HK6.out; have := HJ110.out; have := HK8.out; first | omega | exact Nat.le_refl _⟩, ⟨by (with_reducible repeat (first | apply Kd.R_alloc | apply Kd.R_drewN | apply Kd.R_drew)); exact HO_29.out⟩, ⟨by (with_reducible repeat (first | apply Kd.R_alloc | apply Kd.R_drewN | apply Kd.R_drew)); exact HO_30.out⟩, ⟨by repeat (first | (with_reducible first | exact HB.out | apply below_alloc | apply pw_below_drewN | apply below_drew1) | exact HB.out)⟩⟩
   ·replace c85 := Bool.eq_false_iff.mpr c85
    subst c85
    have H1 : (laws_FnLegsShared.j9 kj41 t471 t474 t475 t482 t483 t484 t485 t486 t487 t488 t489 t490 t496 t497 t498 t499 t500 t501 t502 t503) = some r := by rw [if_neg (show ¬ (false = true) by decide)] at H; exact H
    clear H
    have H := H1
    clear H1
    have H' := Aside0.mk H
    clear H
    go_wp2
    repeat (go_quiet (fail); try go_wp2)
    go_meet
    case rel => exact ⟨_, H', ⟨by have := HJ7.out; have := HJ15.out; have := HJ41.out; first | omega | exact Nat.le_refl _⟩, ⟨by (with_reducible repeat (first | apply Kd.R_alloc | apply Kd.R_drewN | apply Kd.R_drew)); exact HO_29.out⟩, ⟨by (with_reducible repeat (first | apply Kd.R_alloc | apply Kd.R_drewN | apply Kd.R_drew)); exact HO_30.out⟩, ⟨by repeat (first | (with_reducible first | exact HB.out | apply below_alloc | apply pw_below_drewN | apply below_drew1) | exact HB.out)⟩⟩
  case rest =>
   clear HC84
   (try clear c1); (try clear c2); (try clear p2); (try clear c4); (try clear c5); (try clear p5); (try clear q5); (try clear hx5); (try clear c6); (try clear p6); (try clear c7); (try clear c8); (try clear c9); (try clear c10); (try clear c11); (try clear c12); (try clear c13); (try clear c13b0); (try clear c13b1); (try clear c13b2); (try clear c14); (try clear c14b0); (try clear c14b1); (try clear c15); (try clear c17); (try clear c21); (try clear c22); (try clear c22b0); (try clear c23); (try clear c24); (try clear c25); (try clear c25b0); (try clear c25b1); (try clear p51); (try clear q51); (try clear hx51); (try clear p52); (try clear q52); (try clear hx52); (try clear p53); (try clear q53); (try clear hx53); (try clear c58); (try clear c58b0); (try clear c58b1); (try clear c58b2); (try clear c60); (try clear c61); (try clear c61b0); (try clear c61b1); (try clear c61b2); (try clear c63); (try clear c64); (try clear c64b0); (try clear c64b1); (try clear c64b2); (try clear p64); (try clear c65); (try clear c65b0); (try clear c65b1); (try clear c65b2); (try clear c67); (try clear c68); (try clear c68b0); (try clear c68b1); (try clear c68b2); (try clear c69); (try clear c69b0); (try clear c69b1); (try clear c70); (try clear c70b0); (try clear c70b1); (try clear c71); (try clear c71b0); (try clear c71b1); (try clear c72); (try clear c72b0); (try clear c72b1); (try clear c73); (try clear c73b0); (try clear c73b1); (try clear c73b2); (try clear c74); (try clear c74b0); (try clear c74b1); (try clear c75); (try clear c75b0); (try clear c75b1); (try clear c76); (try clear c76b0); (try clear c76b1); (try clear c83); (try clear c85); (try clear c88); (try clear c92); (try clear c93); (try clear c93b0); (try clear c94); (try clear c94b0); (try clear c95); (try clear c95b0); (try clear c96); (try clear c96b0); (try clear c97); (try clear c97b0); (try clear c98); (try clear c98b0); (try clear c99); (try clear c99b0); (try clear c100); (try clear c100b0); (try clear c101); (try clear c101b0); (try clear c102); (try clear c102b0); (try clear c102b1); (try clear c103); (try clear c103b0); (try clear c104); (try clear c104b0); (try clear c105); (try clear c105b0); (try clear c106); (try clear c106b0); (try clear c106b1); (try clear c107); (try clear c107b0); (try clear c108); (try clear c108b0); (try clear c108b1); (try clear c112); (try clear c112b0); (try clear c113); (try clear c114); (try clear c114b0); (try clear c115); (try clear c115b0); (try clear c116); (try clear c116b0); (try clear c117); (try clear c117b0); (try clear c118); (try clear c118b0); (try clear c119); (try clear c119b0); (try clear c120); (try clear c120b0); (try clear c121); (try clear c121b0); (try clear c122); (try clear c122b0); (try clear c123); (try clear c123b0); (try clear c124); (try clear c124b0); (try clear c125); (try clear c125b0); (try clear c126); (try clear c126b0); (try clear c127); (try clear c127b0); (try clear c128); (try clear c128b0); (try clear c129); (try clear c129b0); (try clear c130); (try clear c130b0); (try clear c131); (try clear c131b0); (try clear c132); (try clear c132b0); (try clear c133); (try clear c133b0); (try clear c134); (try clear c134b0); (try clear hx514_0); (try clear hx515_0); (try clear hx516_0); (try clear hx517_0); (try clear hx518_0); (try clear hx519_0); (try clear hx520_0); (try clear hx521_0); (try clear hx522_0); (try clear hx523_0); (try clear hx524_0); (try clear hx525_0); (try clear hx526_0); (try clear hx527_0); (try clear hx528_0); (try clear hx529_0); (try clear hx530_0); (try clear p2); (try clear p5); (try clear p51); (try clear p514); (try clear p515); (try clear p516); (try clear p517); (try clear p518); (try clear p519); (try clear p52); (try clear p520); (try clear p521); (try clear p522); (try clear p523); (try clear p524); (try clear p525); (try clear p526); (try clear p527); (try clear p528); (try clear p529); (try clear p530); (try clear p6); (try clear p64); (try clear q5); (try clear q51)
   (try clear q514); (try clear q515); (try clear q516); (try clear q517); (try clear q518); (try clear q519); (try clear q52); (try clear q520); (try clear q521); (try clear q522); (try clear q523); (try clear q524); (try clear q525); (try clear q526); (try clear q527); (try clear q528); (try clear q529); (try clear q530)
   obtain ⟨kq, HA, HJ83, HO_29, HO_30, HB⟩ := hcut
   go_step
   exact laws_FnLegsShared.seg3 k A0 c0 l0 A1 c1 l1 r w HR_ HR0 HC0 HR1 HC1 A3 t432 t433 t434 A5 t437 t438 t439 A6 t440 t441 t442 A7 w9 Ao10 co10 w11 w12 HO436 u104 u105 u106 u107 u108 u109 u110 u111 u112 u113 u114 u115 kj7 HJ7 kj15 HJ15 t449 t450 A28 t455 t456 A29 t459 t460 A30 t463 t464 A31 t467 t468 A32 t471 A33 t474 t475 A34 t478 t479 A35 t482 t483 t484 t485 A36 t486 t487 t488 t489 t490 A37 t491 t492 t493 t494 t495 A38 t496 t497 t498 A39 t499 t500 t501 t502 t503 A40 t504 t505 t506 t507 t508 A41 w43 Ao44 co44 Ao45 co45 w46 v457 w47 v461 w48 v465 w49 v469 w50 Ao51 co51 w52 v476 w53 v480 w54 w55 w56 w57 HO452 HO454 HO458 HO462 HO466 HO470 HO473 HO477 HO481 nd u262 u263 u264 u265 u266 u267 u268 u269 u270 u271 u272 u273 u274 u275 u276 u277 u278 u279 u280 u281 u282 u283 u284 u285 u286 u287 u288 u289 u290 u291 u292 u293 u294 u295 u296 u297 u298 u299 u300 u301 u302 u303 u304 u305 u306 u307 u308 u309 u310 u311 u312 u313 u314 u315 u316 u317 u318 u319 u320 u321 u322 u323 u324 u325 u326 u327 u328 u329 u330 u331 u332 u333 u334 u335 u336 u337 u338 u339 u340 u341 u342 u343 u344 u345 u346 kj41 HJ41 wc u4 u61 u62 u64 u65 u66 u67 u68 u69 u70 u71 u349 u350 u351 u352 u353 u354 u355 u356 u357 u358 u359 u360 u361 u362 u363 u364 u365 u366 u367 u368 u369 u370 u371 u372 u373 u374 u375 u376 u377 u378 u379 u380 u381 u382 u383 u384 u385 u386 u387 u388 u389 u390 u391 u392 u393 u394 u395 u396 u397 u398 u399 u400 u401 u402 u403 u404 u405 u406 u407 u408 u409 u410 u411 u412 u413 u414 u415 u416 u417 u418 u419 u420 u421 u422 u423 u424 u425 u426 u427 u428 u429 u430 u431 u432 u433 u434 u435 u436 u437 u438 u439 u440 u441 u442 u443 u444 u445 u446 u447 u448 u449 u450 u451 u452 u453 u454 u455 u456 u457 u458 u459 u460 u461 u462 u463 u464 u465 u466 u467 u468 u469 u470 u471 u472 u473 u474 u475 u476 u477 kq HA HJ83 HO_29 HO_30 HB
end Go.Proofs.Ytgjhomhfcifipaa.QS
