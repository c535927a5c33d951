-- WRITTEN BY a program of this session (wip/xprint.py, over the kit's print): Lean checks it.
import Derived.Test.YtgjhomhfcifipaaQSx13d
namespace Go.Proofs.Ytgjhomhfcifipaa.QS
open Go.Proofs.Ytgjhomhfcifipaa.X Go.RowKit Go.Proofs.YtgjhomhfcifipaaW.PrintWords Go.Proofs.YtgjhomhfcifipaaW.PrintLast Go.Proofs.YtgjhomhfcifipaaW.PrintMore
attribute [local go_sem] max2_int min2_int max_two min_two max_three min_three max_four min_four   -- for this text's walks alone
set_option linter.unusedVariables false
set_option linter.unusedSimpArgs false

set_option maxHeartbeats 16000000 in
set_option maxRecDepth 1000000 in
theorem laws_FnLegsShared.seg4 {v0_ v1_ v2_ v3_ v5_ v6_ v7_ v8_ v9_ v10_ v11_ v12_ v13_ v14_ v15_ v16_ v17_ v18_ v19_ v20_ v21_ v22_ v23_ v24_ v25_ v26_ v27_ v28_ v29_ v30_ v31_ v32_ v33_ v43_ v44_ v45_ v46_ v47_ v56_ v57_ v58_ v59_ v60_ v61_ v62_ v63_ v64_ v65_ v66_ v67_ v68_ v69_ v70_ v71_ v72_ v73_ v74_ v75_ v76_ v77_ v78_ v79_ v80_ v81_ v82_ v83_ v84_ v85_ v86_ v87_ v88_ v89_ v90_ v91_ v92_ v93_ v94_ v95_ v96_ v97_ v98_ v99_ v100_ v101_ v102_ v103_ v104_ v105_ v106_ v107_ v108_ v109_ v110_ v111_ v112_ v113_ v114_ v115_ v116_ v117_ v118_ v119_ v120_ v121_ v122_ v123_ v124_ v125_ v126_ v127_ v128_ v129_ v130_ v131_ v132_ v133_ v134_ v135_ v136_ v137_ v138_ v139_ v140_ v141_ v142_ v143_ v144_ v145_ v146_ v147_ v148_ v149_ v150_ v151_ v152_ v153_ v154_ v155_ v156_ v157_ v158_ v159_ v160_ v161_ v162_ v163_ v164_ v165_ v166_ v167_ v168_ v169_ v170_ v171_ v172_ v173_ v174_ v175_ v176_ v177_ v178_ v179_ v180_ v181_ v182_ v183_ v184_ v185_ v186_ v187_ v188_ v189_ v190_ v191_ v192_ v193_ v194_ v195_ v196_ v197_ v198_ v199_ v200_ v201_ v202_ v203_ v204_ v205_ v206_ v207_ v208_ v209_ v210_ v211_ v212_ v213_ v214_ v215_ v216_ v217_ v218_ v219_ v220_ v221_ v222_ v223_ v224_ v225_ v226_ v227_ v228_ v229_ v230_ v231_ v232_ v233_ v234_ v235_ v236_ v237_ v238_ v239_ v240_ v241_ v242_ v243_ v244_ v245_ v246_ v247_ v248_ v249_ v250_ v251_ v252_ v253_ v254_ v255_ v256_ v257_ v258_ v259_ v260_ v261_ v262_ v263_ v264_ v265_ v266_ v267_ v268_ v269_ v270_ v271_ v272_ v273_ v274_ v275_ v276_ v277_ v278_ v279_ v280_ v281_ v282_ v283_ v284_ v285_ v286_ v287_ v288_ v289_ v290_ v291_ v292_ v293_ v294_ v295_ v296_ v297_ v298_ v299_ v300_ v301_ v302_ v303_ v304_ v305_ v306_ v307_ v308_ v309_ v310_ v311_ v312_ v313_ v314_ v315_ v316_ v317_ v318_ v319_ v320_ v321_ v322_ v323_ v324_ v325_ v326_ v327_ v328_ v329_ v330_ v331_ v332_ v333_ v334_ v335_ v336_ v337_ v338_ v339_ v340_ v341_ v342_ v343_ v344_ v345_ v346_ v347_ v348_ v349_ v350_ v351_ v352_ v353_ v354_ v355_ v356_ v357_ v358_ v359_ v360_ v361_ v362_ v363_ v364_ v365_ v366_ v367_ v368_ v369_ v370_ v371_ v372_ v373_ v374_ v375_ v376_ v377_ v378_ v379_ v380_ v381_ v382_ v383_ v384_ v385_ v386_ v387_ v388_ v389_ v390_ v391_ v392_ v393_ v394_ v395_ v396_ v397_ v398_ v399_ v400_ v401_ v402_ v403_ v404_ v405_ v406_ v407_ v408_ v409_ v410_ v411_ v412_ v413_ v414_ v415_ v416_ v417_ v418_ v419_ v420_ v421_ v422_ v423_ v424_ v425_ v426_ v427_ v428_ v429_ v430_ v431_ v432_ v433_ v434_ v435_ v436_ v437_ v438_ v439_ v440_ v441_ v442_ v443_ v444_ v445_ v446_ v447_ v448_ v449_ v450_ v451_ v452_ v453_ v454_ v455_ v456_ v457_ v458_ v459_ v460_ v461_ v462_ v463_ v464_ v465_ v466_ v467_ v468_ v469_ v470_ v471_ v472_ v473_ v474_ v475_ v476_ v477_ v478_ v479_ v480_ v481_ v482_ v483_ v484_ v485_ v486_ v487_ v488_ v489_ v490_ v491_ v492_ v493_ v494_ v495_ v496_ v497_ v498_ v499_ v500_ v501_ v502_ v503_ v504_ v505_ v506_ v507_ v508_ v509_ v510_ v511_ v512_ v513_ v514_ v515_ v516_ v517_ v518_ v519_ v520_ v521_ v522_ v523_ v524_ v525_ v526_ v527_ v528_ v529_ v530_ v531_ : Go.Value} (k : Nat) (A0 : Option Go.Addr) (c0 : Nat) (l0 : List Int) (A1 : Option Go.Addr) (c1 : Nat) (l1 : List Int) (r : Bool) (w : Go.World) (HR_ : Go.Proofs.YtgjhomhfcifipaaW.PrintWords.Aside0 (r = Bool.true)) (HR0 : Go.Proofs.YtgjhomhfcifipaaW.PrintWords.Aside0 (Go.Proofs.YtgjhomhfcifipaaW.PrintWords.Kd.C (Go.Proofs.YtgjhomhfcifipaaW.PrintWords.Kd.int Go.IntKind.u8) w A0 (List.length l0) l0)) (HC0 : Go.Proofs.YtgjhomhfcifipaaW.PrintWords.Aside0 (List.length l0 ≤ c0)) (HR1 : Go.Proofs.YtgjhomhfcifipaaW.PrintWords.Aside0 (Go.Proofs.YtgjhomhfcifipaaW.PrintWords.Kd.C (Go.Proofs.YtgjhomhfcifipaaW.PrintWords.Kd.int Go.IntKind.u8) w A1 (List.length l1) l1)) (HC1 : Go.Proofs.YtgjhomhfcifipaaW.PrintWords.Aside0 (List.length l1 ≤ c1)) (A3 : Go.Proofs.YtgjhomhfcifipaaW.PrintWords.Aside0 (Go.Proofs.Ytgjhomhfcifipaa.QS.laws_big.f l0 l1 = Option.some Bool.false)) (t432 : List Go.Proofs.Ytgjhomhfcifipaa.QS.S54) (t433 t434 : Int) (A5 : Go.Proofs.YtgjhomhfcifipaaW.PrintWords.Aside0 (Go.Proofs.Ytgjhomhfcifipaa.QS.spec_DrawNeededSpeed.f k l0 = Option.some (t432, t433, t434))) (t437 t438 : Int) (t439 : Bool) (A6 : Go.Proofs.YtgjhomhfcifipaaW.PrintWords.Aside0 (Go.Proofs.Ytgjhomhfcifipaa.QS.impl_NeededSpeed.f k t432 t433 t434 = Option.some (t437, t438, t439))) (t440 t441 : Int) (t442 : Bool) (A7 : Go.Proofs.YtgjhomhfcifipaaW.PrintWords.Aside0 (Go.Proofs.Ytgjhomhfcifipaa.QS.spec_NeededSpeed.f k t432 t433 t434 = Option.some (t440, t441, t442))) (w9 : Go.World) (Ao10 : Option Go.Addr) (co10 : Nat) (w11 w12 : Go.World) (HO436 : Go.Proofs.YtgjhomhfcifipaaW.PrintWords.Aside0 (Go.Proofs.YtgjhomhfcifipaaW.PrintWords.Kd.R Go.Proofs.Ytgjhomhfcifipaa.QS.k54 (54 : Nat) w12 (Array.size (Go.World.heap w)) (fun x => True) (Go.Value.slice Ao10 (List.length t432) co10) t432)) (u104 u105 u106 u107 u108 u109 u110 u111 u112 u113 u114 u115 : Go.Value) (kj7 : Nat) (HJ7 : Go.Proofs.YtgjhomhfcifipaaW.PrintWords.Aside0 (kj7 + (1 : Nat) ≤ k)) (kj15 : Nat) (HJ15 : Go.Proofs.YtgjhomhfcifipaaW.PrintWords.Aside0 (kj15 + (1 : Nat) ≤ kj7)) (t449 t450 : List Int) (A28 : Go.Proofs.YtgjhomhfcifipaaW.PrintWords.Aside0 (Go.Proofs.Ytgjhomhfcifipaa.QS.spec_DrawBestRunners.f kj15 l1 = Option.some (t449, t450))) (t455 : List Int) (t456 : Bool) (A29 : Go.Proofs.YtgjhomhfcifipaaW.PrintWords.Aside0 (Go.Proofs.Ytgjhomhfcifipaa.QS.impl_BestRunners.f kj15 t449 t450 = Option.some (t455, t456))) (t459 : List Int) (t460 : Bool) (A30 : Go.Proofs.YtgjhomhfcifipaaW.PrintWords.Aside0 (Go.Proofs.Ytgjhomhfcifipaa.QS.spec_BestRunners.f kj15 t449 t450 = Option.some (t459, t460))) (t463 : List Int) (t464 : Bool) (A31 : Go.Proofs.YtgjhomhfcifipaaW.PrintWords.Aside0 (Go.Proofs.Ytgjhomhfcifipaa.QS.impl_WorstRunners.f kj15 t449 t450 = Option.some (t463, t464))) (t467 : List Int) (t468 : Bool) (A32 : Go.Proofs.YtgjhomhfcifipaaW.PrintWords.Aside0 (Go.Proofs.Ytgjhomhfcifipaa.QS.spec_WorstRunners.f kj15 t449 t450 = Option.some (t467, t468))) (t471 : List Go.Proofs.Ytgjhomhfcifipaa.QS.S54) (A33 : Go.Proofs.YtgjhomhfcifipaaW.PrintWords.Aside0 (Go.Proofs.Ytgjhomhfcifipaa.QS.spec_DrawJoinLegs.f kj15 l1 = Option.some t471)) (t474 : List Go.Proofs.Ytgjhomhfcifipaa.QS.S54) (t475 : Bool) (A34 : Go.Proofs.YtgjhomhfcifipaaW.PrintWords.Aside0 (Go.Proofs.Ytgjhomhfcifipaa.QS.impl_JoinLegs.f kj15 t471 = Option.some (t474, t475))) (t478 : List Go.Proofs.Ytgjhomhfcifipaa.QS.S54) (t479 : Bool) (A35 : Go.Proofs.YtgjhomhfcifipaaW.PrintWords.Aside0 (Go.Proofs.Ytgjhomhfcifipaa.QS.spec_JoinLegs.f kj15 t471 = Option.some (t478, t479))) (t482 t483 t484 t485 : Int) (A36 : Go.Proofs.YtgjhomhfcifipaaW.PrintWords.Aside0 (Go.Proofs.Ytgjhomhfcifipaa.QS.spec_DrawRideAndWalk.f l1 = Option.some (t482, t483, t484, t485))) (t486 t487 t488 t489 : Int) (t490 : Bool) (A37 : Go.Proofs.YtgjhomhfcifipaaW.PrintWords.Aside0 (Go.Proofs.Ytgjhomhfcifipaa.QS.impl_RideAndWalk.f kj15 t482 t483 t484 t485 = Option.some (t486, t487, t488, t489, t490))) (t491 t492 t493 t494 : Int) (t495 : Bool) (A38 : Go.Proofs.YtgjhomhfcifipaaW.PrintWords.Aside0 (Go.Proofs.Ytgjhomhfcifipaa.QS.spec_RideAndWalk.f kj15 t482 t483 t484 t485 = Option.some (t491, t492, t493, t494, t495))) (t496 t497 t498 : Int) (A39 : Go.Proofs.YtgjhomhfcifipaaW.PrintWords.Aside0 (Go.Proofs.Ytgjhomhfcifipaa.QS.spec_DrawSharedBicycle.f l1 = Option.some (t496, t497, t498))) (t499 t500 t501 t502 : Int) (t503 : Bool) (A40 : Go.Proofs.YtgjhomhfcifipaaW.PrintWords.Aside0 (Go.Proofs.Ytgjhomhfcifipaa.QS.impl_SharedBicycle.f kj15 t496 t497 t498 = Option.some (t499, t500, t501, t502, t503))) (t504 t505 t506 t507 : Int) (t508 : Bool) (A41 : Go.Proofs.YtgjhomhfcifipaaW.PrintWords.Aside0 (Go.Proofs.Ytgjhomhfcifipaa.QS.spec_SharedBicycle.f kj15 t496 t497 t498 = Option.some (t504, t505, t506, t507, t508))) (w43 : Go.World) (Ao44 : Option Go.Addr) (co44 : Nat) (Ao45 : Option Go.Addr) (co45 : Nat) (w46 : Go.World) (v457 : Go.Value) (w47 : Go.World) (v461 : Go.Value) (w48 : Go.World) (v465 : Go.Value) (w49 : Go.World) (v469 : Go.Value) (w50 : Go.World) (Ao51 : Option Go.Addr) (co51 : Nat) (w52 : Go.World) (v476 : Go.Value) (w53 : Go.World) (v480 : Go.Value) (w54 w55 w56 w57 : Go.World) (HO452 : Go.Proofs.YtgjhomhfcifipaaW.PrintWords.Aside0 (Go.Proofs.YtgjhomhfcifipaaW.PrintWords.Kd.R (Go.Proofs.YtgjhomhfcifipaaW.PrintWords.Kd.int Go.IntKind.i64) (3 : Nat) w57 (Array.size (Go.World.heap w)) (fun k => (((Option.some k ≠ Go.Value.ownBlock (Go.Value.slice Ao45 (List.length t450) co45) ∧ Option.some k ≠ Go.Value.ownBlock v457) ∧ Option.some k ≠ Go.Value.ownBlock v461) ∧ Option.some k ≠ Go.Value.ownBlock v465) ∧ Option.some k ≠ Go.Value.ownBlock v469) (Go.Value.slice Ao44 (List.length t449) co44) t449)) (HO454 : Go.Proofs.YtgjhomhfcifipaaW.PrintWords.Aside0 (Go.Proofs.YtgjhomhfcifipaaW.PrintWords.Kd.R (Go.Proofs.YtgjhomhfcifipaaW.PrintWords.Kd.int Go.IntKind.i64) (3 : Nat) w57 (Array.size (Go.World.heap w)) (fun k => (((Option.some k ≠ Go.Value.ownBlock (Go.Value.slice Ao44 (List.length t449) co44) ∧ Option.some k ≠ Go.Value.ownBlock v457) ∧ Option.some k ≠ Go.Value.ownBlock v461) ∧ Option.some k ≠ Go.Value.ownBlock v465) ∧ Option.some k ≠ Go.Value.ownBlock v469) (Go.Value.slice Ao45 (List.length t450) co45) t450)) (HO458 : Go.Proofs.YtgjhomhfcifipaaW.PrintWords.Aside0 (Go.Proofs.YtgjhomhfcifipaaW.PrintWords.Kd.R (Go.Proofs.YtgjhomhfcifipaaW.PrintWords.Kd.int Go.IntKind.i64) (3 : Nat) w57 (Array.size (Go.World.heap w)) (fun k => ((((True ∧ Option.some k ≠ Go.Value.ownBlock (Go.Value.slice Ao44 (List.length t449) co44)) ∧ Option.some k ≠ Go.Value.ownBlock (Go.Value.slice Ao45 (List.length t450) co45)) ∧ Option.some k ≠ Go.Value.ownBlock v461) ∧ Option.some k ≠ Go.Value.ownBlock v465) ∧ Option.some k ≠ Go.Value.ownBlock v469) v457 t455)) (HO462 : Go.Proofs.YtgjhomhfcifipaaW.PrintWords.Aside0 (Go.Proofs.YtgjhomhfcifipaaW.PrintWords.Kd.R (Go.Proofs.YtgjhomhfcifipaaW.PrintWords.Kd.int Go.IntKind.i64) (3 : Nat) w57 (Array.size (Go.World.heap w)) (fun k => ((((True ∧ Option.some k ≠ Go.Value.ownBlock (Go.Value.slice Ao44 (List.length t449) co44)) ∧ Option.some k ≠ Go.Value.ownBlock (Go.Value.slice Ao45 (List.length t450) co45)) ∧ Option.some k ≠ Go.Value.ownBlock v457) ∧ Option.some k ≠ Go.Value.ownBlock v465) ∧ Option.some k ≠ Go.Value.ownBlock v469) v461 t459)) (HO466 : Go.Proofs.YtgjhomhfcifipaaW.PrintWords.Aside0 (Go.Proofs.YtgjhomhfcifipaaW.PrintWords.Kd.R (Go.Proofs.YtgjhomhfcifipaaW.PrintWords.Kd.int Go.IntKind.i64) (3 : Nat) w57 (Array.size (Go.World.heap w)) (fun k => ((((True ∧ Option.some k ≠ Go.Value.ownBlock (Go.Value.slice Ao44 (List.length t449) co44)) ∧ Option.some k ≠ Go.Value.ownBlock (Go.Value.slice Ao45 (List.length t450) co45)) ∧ Option.some k ≠ Go.Value.ownBlock v457) ∧ Option.some k ≠ Go.Value.ownBlock v461) ∧ Option.some k ≠ Go.Value.ownBlock v469) v465 t463)) (HO470 : Go.Proofs.YtgjhomhfcifipaaW.PrintWords.Aside0 (Go.Proofs.YtgjhomhfcifipaaW.PrintWords.Kd.R (Go.Proofs.YtgjhomhfcifipaaW.PrintWords.Kd.int Go.IntKind.i64) (3 : Nat) w57 (Array.size (Go.World.heap w)) (fun k => ((((True ∧ Option.some k ≠ Go.Value.ownBlock (Go.Value.slice Ao44 (List.length t449) co44)) ∧ Option.some k ≠ Go.Value.ownBlock (Go.Value.slice Ao45 (List.length t450) co45)) ∧ Option.some k ≠ Go.Value.ownBlock v457) ∧ Option.some k ≠ Go.Value.ownBlock v461) ∧ Option.some k ≠ Go.Value.ownBlock v465) v469 t467)) (HO473 : Go.Proofs.YtgjhomhfcifipaaW.PrintWords.Aside0 (Go.Proofs.YtgjhomhfcifipaaW.PrintWords.Kd.R Go.Proofs.Ytgjhomhfcifipaa.QS.k54 (54 : Nat) w57 (Array.size (Go.World.heap w)) (fun k => (True ∧ Option.some k ≠ Go.Value.ownBlock v476) ∧ Option.some k ≠ Go.Value.ownBlock v480) (Go.Value.slice Ao51 (List.length t471) co51) t471)) (HO477 : Go.Proofs.YtgjhomhfcifipaaW.PrintWords.Aside0 (Go.Proofs.YtgjhomhfcifipaaW.PrintWords.Kd.R Go.Proofs.Ytgjhomhfcifipaa.QS.k54 (54 : Nat) w57 (Array.size (Go.World.heap w)) (fun k => (True ∧ Option.some k ≠ Go.Value.ownBlock (Go.Value.slice Ao51 (List.length t471) co51)) ∧ Option.some k ≠ Go.Value.ownBlock v480) v476 t474)) (HO481 : Go.Proofs.YtgjhomhfcifipaaW.PrintWords.Aside0 (Go.Proofs.YtgjhomhfcifipaaW.PrintWords.Kd.R Go.Proofs.Ytgjhomhfcifipaa.QS.k54 (54 : Nat) w57 (Array.size (Go.World.heap w)) (fun k => (True ∧ Option.some k ≠ Go.Value.ownBlock (Go.Value.slice Ao51 (List.length t471) co51)) ∧ Option.some k ≠ Go.Value.ownBlock v476) v480 t478)) (nd : Nat) (u262 u263 u264 u265 u266 u267 u268 u269 u270 u271 u272 u273 u274 u275 u276 u277 u278 u279 u280 u281 u282 u283 u284 u285 u286 u287 u288 u289 u290 u291 u292 u293 u294 u295 u296 u297 u298 u299 u300 u301 u302 u303 u304 u305 u306 u307 u308 u309 u310 u311 u312 u313 u314 u315 u316 u317 u318 u319 u320 u321 u322 u323 u324 u325 u326 u327 u328 u329 u330 u331 u332 u333 u334 u335 u336 u337 u338 u339 u340 u341 u342 u343 u344 u345 u346 : Go.Value) (kj41 : Nat) (HJ41 : Go.Proofs.YtgjhomhfcifipaaW.PrintWords.Aside0 (kj41 + (1 : Nat) ≤ kj15)) (kj83 : Nat) (HJ83 : Go.Proofs.YtgjhomhfcifipaaW.PrintWords.Aside0 (kj83 + (1 : Nat) ≤ kj41)) (wc : Go.World) (u4 u72 u73 u74 u75 u76 u77 u78 u479 u480 u481 u482 u483 u484 u485 u486 u487 u488 u489 u490 u491 u492 u493 u494 u495 u496 u497 u498 u499 u500 u501 u502 u503 u504 u505 u506 u507 u508 u509 u510 u511 u512 u513 u514 u515 u516 u517 u518 u519 u520 u521 u522 u523 u524 u525 u526 u527 u528 u529 u530 u531 : Go.Value) (kq : Nat) (HA : Go.Proofs.YtgjhomhfcifipaaW.PrintWords.Aside0 (Go.Proofs.Ytgjhomhfcifipaa.QS.laws_FnLegsShared.j12 kq t482 t483 t484 t485 t486 t487 t488 t489 t490 t496 t497 t498 t499 t500 t501 t502 t503 = Option.some r)) (HJ136 : Go.Proofs.YtgjhomhfcifipaaW.PrintWords.Aside0 (kq ≤ kj83)) (HB : Go.Proofs.YtgjhomhfcifipaaW.PrintWords.Aside0 (Go.RowKit.Below (Array.size (Go.World.heap w)) w wc)) :
    Go.Code.wp Try.prog (laws_FnLegsShared.behind 478 laws_FnLegsShared.body) (bodyPost Try.prog Try.f5 (fun e w' => e = .returned (.bool r) ∧ Below w.heap.size w w')) (Go.Act.mk #[v0_, v1_, v2_, v3_, u4, v5_, v6_, v7_, v8_, v9_, v10_, v11_, v12_, v13_, v14_, v15_, v16_, v17_, v18_, v19_, v20_, v21_, v22_, v23_, v24_, v25_, v26_, v27_, v28_, v29_, v30_, v31_, v32_, v33_, Go.Value.int Go.IntKind.i64 t482, Go.Value.int Go.IntKind.i64 t483, Go.Value.int Go.IntKind.i64 t484, Go.Value.int Go.IntKind.i64 t485, Go.Value.int Go.IntKind.i64 t486, Go.Value.int Go.IntKind.i64 t487, Go.Value.int Go.IntKind.i64 t488, Go.Value.int Go.IntKind.i64 t489, Go.Value.bool t490, v43_, v44_, v45_, v46_, v47_, Go.Value.int Go.IntKind.i64 t496, Go.Value.int Go.IntKind.i64 t497, Go.Value.int Go.IntKind.i64 t498, Go.Value.int Go.IntKind.i64 t499, Go.Value.int Go.IntKind.i64 t500, Go.Value.int Go.IntKind.i64 t501, Go.Value.int Go.IntKind.i64 t502, Go.Value.bool t503, v56_, v57_, v58_, v59_, v60_, v61_, v62_, v63_, v64_, v65_, v66_, v67_, v68_, v69_, v70_, v71_, v72_, v73_, v74_, v75_, v76_, v77_, v78_, v79_, v80_, v81_, v82_, v83_, v84_, v85_, v86_, v87_, v88_, v89_, v90_, v91_, v92_, v93_, v94_, v95_, v96_, v97_, v98_, v99_, v100_, v101_, v102_, v103_, v104_, v105_, v106_, v107_, v108_, v109_, v110_, v111_, v112_, v113_, v114_, v115_, v116_, v117_, v118_, v119_, v120_, v121_, v122_, v123_, v124_, v125_, v126_, v127_, v128_, v129_, v130_, v131_, v132_, v133_, v134_, v135_, v136_, v137_, v138_, v139_, v140_, v141_, v142_, v143_, v144_, v145_, v146_, v147_, v148_, v149_, v150_, v151_, v152_, v153_, v154_, v155_, v156_, v157_, v158_, v159_, v160_, v161_, v162_, v163_, v164_, v165_, v166_, v167_, v168_, v169_, v170_, v171_, v172_, v173_, v174_, v175_, v176_, v177_, v178_, v179_, v180_, v181_, v182_, v183_, v184_, v185_, v186_, v187_, v188_, v189_, v190_, v191_, v192_, v193_, v194_, v195_, v196_, v197_, v198_, v199_, v200_, v201_, v202_, v203_, v204_, v205_, v206_, v207_, v208_, v209_, v210_, v211_, v212_, v213_, v214_, v215_, v216_, v217_, v218_, v219_, v220_, v221_, v222_, v223_, v224_, v225_, v226_, v227_, v228_, v229_, v230_, v231_, v232_, v233_, v234_, v235_, v236_, v237_, v238_, v239_, v240_, v241_, v242_, v243_, v244_, v245_, v246_, v247_, v248_, v249_, v250_, v251_, v252_, v253_, v254_, v255_, v256_, v257_, v258_, v259_, v260_, v261_, v262_, v263_, v264_, v265_, v266_, v267_, v268_, v269_, v270_, v271_, v272_, v273_, v274_, v275_, v276_, v277_, v278_, v279_, v280_, v281_, v282_, v283_, v284_, v285_, v286_, v287_, v288_, v289_, v290_, v291_, v292_, v293_, v294_, v295_, v296_, v297_, v298_, v299_, v300_, v301_, v302_, v303_, v304_, v305_, v306_, v307_, v308_, v309_, v310_, v311_, v312_, v313_, v314_, v315_, v316_, v317_, v318_, v319_, v320_, v321_, v322_, v323_, v324_, v325_, v326_, v327_, v328_, v329_, v330_, v331_, v332_, v333_, v334_, v335_, v336_, v337_, v338_, v339_, v340_, v341_, v342_, v343_, v344_, v345_, v346_, v347_, v348_, v349_, v350_, v351_, v352_, v353_, v354_, v355_, v356_, v357_, v358_, v359_, v360_, v361_, v362_, v363_, v364_, v365_, v366_, v367_, v368_, v369_, v370_, v371_, v372_, v373_, v374_, v375_, v376_, v377_, v378_, v379_, v380_, v381_, v382_, v383_, v384_, v385_, v386_, v387_, v388_, v389_, v390_, v391_, v392_, v393_, v394_, v395_, v396_, v397_, v398_, v399_, v400_, v401_, v402_, v403_, v404_, v405_, v406_, v407_, v408_, v409_, v410_, v411_, v412_, v413_, v414_, v415_, v416_, v417_, v418_, v419_, v420_, v421_, v422_, v423_, v424_, v425_, v426_, v427_, v428_, v429_, v430_, v431_, v432_, v433_, v434_, v435_, v436_, v437_, v438_, v439_, v440_, v441_, v442_, v443_, v444_, v445_, v446_, v447_, v448_, v449_, v450_, v451_, v452_, v453_, v454_, v455_, v456_, v457_, v458_, v459_, v460_, v461_, v462_, v463_, v464_, v465_, v466_, v467_, v468_, v469_, v470_, v471_, v472_, v473_, v474_, v475_, v476_, v477_, v478_, v479_, v480_, v481_, v482_, v483_, v484_, v485_, v486_, v487_, v488_, v489_, v490_, v491_, v492_, v493_, v494_, v495_, v496_, v497_, v498_, v499_, v500_, v501_, v502_, v503_, v504_, v505_, v506_, v507_, v508_, v509_, v510_, v511_, v512_, v513_, v514_, v515_, v516_, v517_, v518_, v519_, v520_, v521_, v522_, v523_, v524_, v525_, v526_, v527_, v528_, v529_, v530_, v531_, Go.undef, Go.undef, Go.undef, Go.undef, Go.undef, Go.undef, Go.undef, Go.undef, Go.undef, Go.undef, Go.undef, Go.undef, Go.undef, Go.undef, Go.undef, Go.undef, Go.undef, Go.undef, Go.undef, Go.undef, Go.undef, Go.undef, Go.undef, Go.undef, Go.undef, Go.undef, Go.undef, Go.undef, Go.undef, Go.undef, Go.undef, Go.undef, Go.undef, Go.undef, Go.undef, Go.undef, Go.undef, Go.undef, Go.undef, Go.undef, Go.undef, Go.undef, Go.undef, Go.undef, Go.undef, Go.undef, Go.undef, Go.undef, Go.undef, Go.undef, Go.undef, Go.undef, Go.undef, Go.undef, Go.undef, Go.undef, Go.undef, Go.undef, Go.undef, Go.undef, Go.undef, Go.undef, Go.undef, Go.undef, Go.undef, Go.undef, Go.undef, Go.undef, Go.undef, Go.undef, Go.undef, Go.undef, Go.undef, Go.undef, Go.undef, Go.undef, Go.undef, Go.undef, Go.undef, Go.undef, Go.undef, Go.undef, Go.undef, Go.undef, Go.undef, Go.undef, Go.undef, Go.undef, Go.undef, Go.undef, Go.undef, Go.undef, Go.undef, Go.undef, Go.undef, Go.undef] []) wc := by
  conv => arg 2; whnf
  cases kq with
  | zero => exact absurd HA.out (by simp [laws_FnLegsShared.j12])
  | succ kj136 =>
   have H := HA.out
   clear HA
   simp only [laws_FnLegsShared.j12] at H
   by_cases c156 : t490 = true
   ·subst c156
    have H1 : ((laws_yLow.f kj136 t486 t487).bind fun t539 => (if t539 = true then ((laws_yLow.f kj136 t488 t489).bind fun t540 => (if t540 = true then (if t486 < 1 then (laws_FnLegsShared.j13 kj136 t496 t497 t498 t499 t500 t501 t502 t503 true) else (if t486 ≥ (wrap64 (t482 * t487)) then (laws_FnLegsShared.j13 kj136 t496 t497 t498 t499 t500 t501 t502 t503 true) else (if (wrap64 ((wrap64 ((wrap64 (t486 * t483)) + (wrap64 ((wrap64 ((wrap64 (t482 * t487)) - t486)) * t485)))) * t489)) = (wrap64 ((wrap64 ((wrap64 (t488 * t487)) * t485)) * t483)) then (laws_FnLegsShared.j13 kj136 t496 t497 t498 t499 t500 t501 t502 t503 ((wrap64 ((wrap64 ((wrap64 (t486 * t485)) + (wrap64 ((wrap64 ((wrap64 (t482 * t487)) - t486)) * t484)))) * t489)) != (wrap64 ((wrap64 ((wrap64 (t488 * t487)) * t485)) * t484)))) else (laws_FnLegsShared.j13 kj136 t496 t497 t498 t499 t500 t501 t502 t503 true)))) else (laws_FnLegsShared.j13 kj136 t496 t497 t498 t499 t500 t501 t502 t503 true))) else (laws_FnLegsShared.j13 kj136 t496 t497 t498 t499 t500 t501 t502 t503 true))) = some r := by rw [if_pos rfl] at H; exact H
    clear H
    have H := H1
    clear H1
    have HC157 := Aside0.mk H
    clear H
    go_upto_region 70 with (fail)
    repeat (go_quiet (fail); go_upto_region 70 with (fail))
    go_cut [599] from 100000 (fun v599 wc => ∃ (kq : Nat) (x599_156 : Bool), v599 = .bool x599_156 ∧ Aside0 (laws_FnLegsShared.j13 kq t496 t497 t498 t499 t500 t501 t502 t503 x599_156 = some r) ∧ Aside0 (kq ≤ kj136) ∧ Aside0 (Below w.heap.size w wc))
    case first =>
     have H := HC157.out
     clear HC157
     replace H := Option.bind_eq_some_iff.mp H
     obtain ⟨t539, A1580, H⟩ := H
     (try dsimp only at H)
     have A158 := Aside0.mk A1580
     clear A1580
     by_cases c159 : t539 = true
     ·subst c159
      have H1 : ((laws_yLow.f kj136 t488 t489).bind fun t540 => (if t540 = true then (if t486 < 1 then (laws_FnLegsShared.j13 kj136 t496 t497 t498 t499 t500 t501 t502 t503 true) else (if t486 ≥ (wrap64 (t482 * t487)) then (laws_FnLegsShared.j13 kj136 t496 t497 t498 t499 t500 t501 t502 t503 true) else (if (wrap64 ((wrap64 ((wrap64 (t486 * t483)) + (wrap64 ((wrap64 ((wrap64 (t482 * t487)) - t486)) * t485)))) * t489)) = (wrap64 ((wrap64 ((wrap64 (t488 * t487)) * t485)) * t483)) then (laws_FnLegsShared.j13 kj136 t496 t497 t498 t499 t500 t501 t502 t503 ((wrap64 ((wrap64 ((wrap64 (t486 * t485)) + (wrap64 ((wrap64 ((wrap64 (t482 * t487)) - t486)) * t484)))) * t489)) != (wrap64 ((wrap64 ((wrap64 (t488 * t487)) * t485)) * t484)))) else (laws_FnLegsShared.j13 kj136 t496 t497 t498 t499 t500 t501 t502 t503 true)))) else (laws_FnLegsShared.j13 kj136 t496 t497 t498 t499 t500 t501 t502 t503 true))) = some r := by rw [if_pos rfl] at H; exact H
      clear H
      have H := H1
      clear H1
      replace H := Option.bind_eq_some_iff.mp H
      obtain ⟨t540, A1600, H⟩ := H
      (try dsimp only at H)
      have A160 := Aside0.mk A1600
      clear A1600
      by_cases c161 : t540 = true
      ·subst c161
       have H1 : (if t486 < 1 then (laws_FnLegsShared.j13 kj136 t496 t497 t498 t499 t500 t501 t502 t503 true) else (if t486 ≥ (wrap64 (t482 * t487)) then (laws_FnLegsShared.j13 kj136 t496 t497 t498 t499 t500 t501 t502 t503 true) else (if (wrap64 ((wrap64 ((wrap64 (t486 * t483)) + (wrap64 ((wrap64 ((wrap64 (t482 * t487)) - t486)) * t485)))) * t489)) = (wrap64 ((wrap64 ((wrap64 (t488 * t487)) * t485)) * t483)) then (laws_FnLegsShared.j13 kj136 t496 t497 t498 t499 t500 t501 t502 t503 ((wrap64 ((wrap64 ((wrap64 (t486 * t485)) + (wrap64 ((wrap64 ((wrap64 (t482 * t487)) - t486)) * t484)))) * t489)) != (wrap64 ((wrap64 ((wrap64 (t488 * t487)) * t485)) * t484)))) else (laws_FnLegsShared.j13 kj136 t496 t497 t498 t499 t500 t501 t502 t503 true)))) = some r := by rw [if_pos rfl] at H; exact H
       clear H
       have H := H1
       clear H1
       by_cases c162 : t486 < 1
       ·rw [if_pos c162] at H
        have c162b0 : decide (t486 < 1) = true := decide_eq_true c162
        clear c162
        (first | rw [c162b0] | (simp only [i64_w, i32_w]; rw [c162b0]) | skip)
        exact absurd H (by rw [HR_.out]; cases kj136 <;> simp [laws_FnLegsShared.j13])
       ·rw [if_neg c162] at H
        have c162b0 : decide (t486 < 1) = false := decide_eq_false c162
        clear c162
        (first | rw [c162b0] | (simp only [i64_w, i32_w]; rw [c162b0]) | skip)
        by_cases c163 : t486 ≥ (wrap64 (t482 * t487))
        ·rw [if_pos c163] at H
         have c163b0 : decide ((wrap64 (t482 * t487)) ≤ t486) = true := decide_eq_true c163
         clear c163
         exact absurd H (by rw [HR_.out]; cases kj136 <;> simp [laws_FnLegsShared.j13])
        ·rw [if_neg c163] at H
         have c163b0 : decide ((wrap64 (t482 * t487)) ≤ t486) = false := decide_eq_false c163
         clear c163
         by_cases c164 : (wrap64 ((wrap64 ((wrap64 (t486 * t483)) + (wrap64 ((wrap64 ((wrap64 (t482 * t487)) - t486)) * t485)))) * t489)) = (wrap64 ((wrap64 ((wrap64 (t488 * t487)) * t485)) * t483))
         ·rw [if_pos c164] at H
          have c164b0 : ((wrap64 ((wrap64 ((wrap64 (t486 * t483)) + (wrap64 ((wrap64 ((wrap64 (t482 * t487)) - t486)) * t485)))) * t489)) == (wrap64 ((wrap64 ((wrap64 (t488 * t487)) * t485)) * t483))) = true := beq_iff_eq.mpr c164
          have c164b1 : ((wrap64 ((wrap64 ((wrap64 (t486 * t483)) + (wrap64 ((wrap64 ((wrap64 (t482 * t487)) - t486)) * t485)))) * t489)) != (wrap64 ((wrap64 ((wrap64 (t488 * t487)) * t485)) * t483))) = false := bne_eq_false_iff_eq.mpr c164
          clear c164
          have H' := Aside0.mk H
          clear H
          go_wp2_with (first | (go_at_call 20; (with_reducible refine (laws_yLow.calls kj136 t486 t487 true _ A158.out).mono ?_); rintro e w' ⟨rfl, ⟨nd, rfl⟩⟩; (try first | exact ⟨rfl, _, World.drewN_drewN _ _ _⟩ | exact ⟨rfl, _, Eq.trans (World.drewN_drewN _ _ _) (congrArg (World.drewN _) (Nat.add_assoc _ _ _))⟩)) | (go_at_call 20; (with_reducible refine (laws_yLow.calls kj136 t488 t489 true _ A160.out).mono ?_); rintro e w' ⟨rfl, ⟨nd, rfl⟩⟩; (try first | exact ⟨rfl, _, World.drewN_drewN _ _ _⟩ | exact ⟨rfl, _, Eq.trans (World.drewN_drewN _ _ _) (congrArg (World.drewN _) (Nat.add_assoc _ _ _))⟩)))
          repeat (go_quiet (first | (go_at_call 20; (with_reducible refine (laws_yLow.calls kj136 t486 t487 true _ A158.out).mono ?_); rintro e w' ⟨rfl, ⟨nd, rfl⟩⟩; (try first | exact ⟨rfl, _, World.drewN_drewN _ _ _⟩ | exact ⟨rfl, _, Eq.trans (World.drewN_drewN _ _ _) (congrArg (World.drewN _) (Nat.add_assoc _ _ _))⟩)) | (go_at_call 20; (with_reducible refine (laws_yLow.calls kj136 t488 t489 true _ A160.out).mono ?_); rintro e w' ⟨rfl, ⟨nd, rfl⟩⟩; (try first | exact ⟨rfl, _, World.drewN_drewN _ _ _⟩ | exact ⟨rfl, _, Eq.trans (World.drewN_drewN _ _ _) (congrArg (World.drewN _) (Nat.add_assoc _ _ _))⟩))); try go_wp2_with (first | (go_at_call 20; (with_reducible refine (laws_yLow.calls kj136 t486 t487 true _ A158.out).mono ?_); rintro e w' ⟨rfl, ⟨nd, rfl⟩⟩; (try first | exact ⟨rfl, _, World.drewN_drewN _ _ _⟩ | exact ⟨rfl, _, Eq.trans (World.drewN_drewN _ _ _) (congrArg (World.drewN _) (Nat.add_assoc _ _ _))⟩)) | (go_at_call 20; (with_reducible refine (laws_yLow.calls kj136 t488 t489 true _ A160.out).mono ?_); rintro e w' ⟨rfl, ⟨nd, rfl⟩⟩; (try first | exact ⟨rfl, _, World.drewN_drewN _ _ _⟩ | exact ⟨rfl, _, Eq.trans (World.drewN_drewN _ _ _) (congrArg (World.drewN _) (Nat.add_assoc _ _ _))⟩))))
          go_meet
          case rel => exact ⟨_, (((wrap64 ((wrap64 ((wrap64 (t486 * t485)) + (wrap64 ((wrap64 ((wrap64 (t482 * t487)) - t486)) * t484)))) * t489)) != (wrap64 ((wrap64 ((wrap64 (t488 * t487)) * t485)) * t484)))), (by first | rfl | (simp; done) | (simp [*]; done)), H', ⟨by have := HJ7.out; have := HJ15.out; have := HJ41.out; have := HJ83.out; have := HJ136.out; first | omega | exact Nat.le_refl _⟩, ⟨by repeat (first | (with_reducible first | exact HB.out | apply below_alloc | apply pw_below_drewN | apply below_drew1) | exact HB.out)⟩⟩
         ·rw [if_neg c164] at H
          have c164b0 : ((wrap64 ((wrap64 ((wrap64 (t486 * t483)) + (wrap64 ((wrap64 ((wrap64 (t482 * t487)) - t486)) * t485)))) * t489)) == (wrap64 ((wrap64 ((wrap64 (t488 * t487)) * t485)) * t483))) = false := beq_eq_false_iff_ne.mpr c164
          have c164b1 : ((wrap64 ((wrap64 ((wrap64 (t486 * t483)) + (wrap64 ((wrap64 ((wrap64 (t482 * t487)) - t486)) * t485)))) * t489)) != (wrap64 ((wrap64 ((wrap64 (t488 * t487)) * t485)) * t483))) = true := bne_iff_ne.mpr c164
          exact absurd H (by rw [HR_.out]; cases kj136 <;> simp [laws_FnLegsShared.j13])
      ·replace c161 := Bool.eq_false_iff.mpr c161
       subst c161
       have H1 : (laws_FnLegsShared.j13 kj136 t496 t497 t498 t499 t500 t501 t502 t503 true) = some r := by rw [if_neg (show ¬ (false = true) by decide)] at H; exact H
       clear H
       have H := H1
       clear H1
       exact absurd H (by rw [HR_.out]; cases kj136 <;> simp [laws_FnLegsShared.j13])
     ·replace c159 := Bool.eq_false_iff.mpr c159
      subst c159
      have H1 : (laws_FnLegsShared.j13 kj136 t496 t497 t498 t499 t500 t501 t502 t503 true) = some r := by rw [if_neg (show ¬ (false = true) by decide)] at H; exact H
      clear H
      have H := H1
      clear H1
      exact absurd H (by rw [HR_.out]; cases kj136 <;> simp [laws_FnLegsShared.j13])
    case rest =>
     clear HC157
     (try clear c1); (try clear c2); (try clear p2); (try clear c4); (try clear c5); (try clear p5); (try clear q5); (try clear hx5); (try clear c6); (try clear p6); (try clear c7); (try clear c8); (try clear c9); (try clear c10); (try clear c11); (try clear c12); (try clear c13); (try clear c13b0); (try clear c13b1); (try clear c13b2); (try clear c14); (try clear c14b0); (try clear c14b1); (try clear c15); (try clear c16); (try clear c17); (try clear c21); (try clear c22); (try clear c22b0); (try clear c23); (try clear c24); (try clear c25); (try clear c25b0); (try clear c25b1); (try clear p51); (try clear q51); (try clear hx51); (try clear p52); (try clear q52); (try clear hx52); (try clear p53); (try clear q53); (try clear hx53); (try clear c58); (try clear c58b0); (try clear c58b1); (try clear c58b2); (try clear c60); (try clear c61); (try clear c61b0); (try clear c61b1); (try clear c61b2); (try clear c63); (try clear c64); (try clear c64b0); (try clear c64b1); (try clear c64b2); (try clear p64); (try clear c65); (try clear c65b0); (try clear c65b1); (try clear c65b2); (try clear c67); (try clear c68); (try clear c68b0); (try clear c68b1); (try clear c68b2); (try clear c69); (try clear c69b0); (try clear c69b1); (try clear c70); (try clear c70b0); (try clear c70b1); (try clear c71); (try clear c71b0); (try clear c71b1); (try clear c72); (try clear c72b0); (try clear c72b1); (try clear c73); (try clear c73b0); (try clear c73b1); (try clear c73b2); (try clear c74); (try clear c74b0); (try clear c74b1); (try clear c75); (try clear c75b0); (try clear c75b1); (try clear c76); (try clear c76b0); (try clear c76b1); (try clear c83); (try clear c85); (try clear c88); (try clear c92); (try clear c93); (try clear c93b0); (try clear c94); (try clear c94b0); (try clear c95); (try clear c95b0); (try clear c96); (try clear c96b0); (try clear c97); (try clear c97b0); (try clear c98); (try clear c98b0); (try clear c99); (try clear c99b0); (try clear c100); (try clear c100b0); (try clear c101); (try clear c101b0); (try clear c102); (try clear c102b0); (try clear c102b1); (try clear c103); (try clear c103b0); (try clear c104); (try clear c104b0); (try clear c105); (try clear c105b0); (try clear c106); (try clear c106b0); (try clear c106b1); (try clear c107); (try clear c107b0); (try clear c108); (try clear c108b0); (try clear c108b1); (try clear c112); (try clear c112b0); (try clear c113); (try clear c114); (try clear c114b0); (try clear c115); (try clear c115b0); (try clear c116); (try clear c116b0); (try clear c117); (try clear c117b0); (try clear c118); (try clear c118b0); (try clear c119); (try clear c119b0); (try clear c120); (try clear c120b0); (try clear c121); (try clear c121b0); (try clear c122); (try clear c122b0); (try clear c123); (try clear c123b0); (try clear c124); (try clear c124b0); (try clear c125); (try clear c125b0); (try clear c126); (try clear c126b0); (try clear c127); (try clear c127b0); (try clear c128); (try clear c128b0); (try clear c129); (try clear c129b0); (try clear c130); (try clear c130b0); (try clear c131); (try clear c131b0); (try clear c132); (try clear c132b0); (try clear c133); (try clear c133b0); (try clear c134); (try clear c134b0); (try clear c138); (try clear c145); (try clear c146); (try clear c147); (try clear c147b0); (try clear c147b1); (try clear c148); (try clear c148b0); (try clear c148b1); (try clear c149); (try clear c150); (try clear c150b0); (try clear c152); (try clear c152b0); (try clear c153); (try clear c153b0); (try clear c154); (try clear c154b0); (try clear c155); (try clear c155b0); (try clear c155b1); (try clear c156); (try clear c159); (try clear c161); (try clear c162); (try clear c162b0); (try clear c163); (try clear c163b0); (try clear c164); (try clear c164b0); (try clear c164b1); (try clear hx514_0); (try clear hx515_0); (try clear hx516_0); (try clear hx517_0); (try clear hx518_0); (try clear hx519_0); (try clear hx520_0); (try clear hx521_0); (try clear hx522_0)
     (try clear hx523_0); (try clear hx524_0); (try clear hx525_0); (try clear hx526_0); (try clear hx527_0); (try clear hx528_0); (try clear hx529_0); (try clear hx530_0); (try clear hx537_0); (try clear hx537_1); (try clear hx538_0); (try clear hx538_1); (try clear p2); (try clear p5); (try clear p51); (try clear p514); (try clear p515); (try clear p516); (try clear p517); (try clear p518); (try clear p519); (try clear p52); (try clear p520); (try clear p521); (try clear p522); (try clear p523); (try clear p524); (try clear p525); (try clear p526); (try clear p527); (try clear p528); (try clear p529); (try clear p53); (try clear p530); (try clear p537); (try clear p538); (try clear p6); (try clear p64); (try clear q5); (try clear q51); (try clear q514); (try clear q515); (try clear q516); (try clear q517); (try clear q518); (try clear q519); (try clear q52); (try clear q520); (try clear q521); (try clear q522); (try clear q523); (try clear q524); (try clear q525); (try clear q526); (try clear q527); (try clear q528); (try clear q529); (try clear q53); (try clear q530); (try clear q537); (try clear q538)
     obtain ⟨kq, x599_156, rfl, HA, HJ156, HB⟩ := hcut
     cases kq with
     | zero => exact absurd HA.out (by simp [laws_FnLegsShared.j13])
     | succ kj156 =>
      have H := HA.out
      clear HA
      simp only [laws_FnLegsShared.j13] at H
      by_cases c165 : x599_156 = true
      ·subst c165
       have H1 : (some false) = some r := by rw [if_pos rfl] at H; exact H
       clear H
       have H := H1
       clear H1
       exact absurd (Option.some.inj H).symm (by rw [HR_.out]; decide)
      ·replace c165 := Bool.eq_false_iff.mpr c165
       subst c165
       have H1 : (if t503 = true then (if (wrap64 (2 * t499)) = (wrap64 (t496 * t500)) then (if (wrap64 ((wrap64 ((wrap64 (t499 * t497)) + (wrap64 (t499 * t498)))) * t502)) = (wrap64 ((wrap64 ((wrap64 (t501 * t500)) * t498)) * t497)) then (some true) else (some false)) else (some false)) else (some true)) = some r := by rw [if_neg (show ¬ (false = true) by decide)] at H; exact H
       clear H
       have H := H1
       clear H1
       by_cases c166 : t503 = true
       ·subst c166
        have H1 : (if (wrap64 (2 * t499)) = (wrap64 (t496 * t500)) then (if (wrap64 ((wrap64 ((wrap64 (t499 * t497)) + (wrap64 (t499 * t498)))) * t502)) = (wrap64 ((wrap64 ((wrap64 (t501 * t500)) * t498)) * t497)) then (some true) else (some false)) else (some false)) = some r := by rw [if_pos rfl] at H; exact H
        clear H
        have H := H1
        clear H1
        by_cases c167 : (wrap64 (2 * t499)) = (wrap64 (t496 * t500))
        ·rw [if_pos c167] at H
         have c167b0 : ((wrap64 (2 * t499)) == (wrap64 (t496 * t500))) = true := beq_iff_eq.mpr c167
         have c167b1 : ((wrap64 (2 * t499)) != (wrap64 (t496 * t500))) = false := bne_eq_false_iff_eq.mpr c167
         clear c167
         by_cases c168 : (wrap64 ((wrap64 ((wrap64 (t499 * t497)) + (wrap64 (t499 * t498)))) * t502)) = (wrap64 ((wrap64 ((wrap64 (t501 * t500)) * t498)) * t497))
         ·rw [if_pos c168] at H
          have c168b0 : ((wrap64 ((wrap64 ((wrap64 (t499 * t497)) + (wrap64 (t499 * t498)))) * t502)) == (wrap64 ((wrap64 ((wrap64 (t501 * t500)) * t498)) * t497))) = true := beq_iff_eq.mpr c168
          have c168b1 : ((wrap64 ((wrap64 ((wrap64 (t499 * t497)) + (wrap64 (t499 * t498)))) * t502)) != (wrap64 ((wrap64 ((wrap64 (t501 * t500)) * t498)) * t497))) = false := bne_eq_false_iff_eq.mpr c168
          clear c168
          obtain rfl := Option.some.inj H
          go_wp2
          repeat (go_quiet (fail); try go_wp2)
          go_ret
          exact ⟨by first | rfl | (simp [errW_none, errW_some] <;> rfl) | (simp [*, errW_none, errW_some] <;> rfl), by repeat (first | (with_reducible first | exact HB.out | apply below_alloc | apply pw_below_drewN | apply below_drew1) | exact HB.out)⟩
         ·rw [if_neg c168] at H
          have c168b0 : ((wrap64 ((wrap64 ((wrap64 (t499 * t497)) + (wrap64 (t499 * t498)))) * t502)) == (wrap64 ((wrap64 ((wrap64 (t501 * t500)) * t498)) * t497))) = false := beq_eq_false_iff_ne.mpr c168
          have c168b1 : ((wrap64 ((wrap64 ((wrap64 (t499 * t497)) + (wrap64 (t499 * t498)))) * t502)) != (wrap64 ((wrap64 ((wrap64 (t501 * t500)) * t498)) * t497))) = true := bne_iff_ne.mpr c168
          exact absurd (Option.some.inj H).symm (by rw [HR_.out]; decide)
        ·rw [if_neg c167] at H
         have c167b0 : ((wrap64 (2 * t499)) == (wrap64 (t496 * t500))) = false := beq_eq_false_iff_ne.mpr c167
         have c167b1 : ((wrap64 (2 * t499)) != (wrap64 (t496 * t500))) = true := bne_iff_ne.mpr c167
         exact absurd (Option.some.inj H).symm (by rw [HR_.out]; decide)
       ·replace c166 := Bool.eq_false_iff.mpr c166
        subst c166
        have H1 : (some true) = some r := by rw [if_neg (show ¬ (false = true) by decide)] at H; exact H
        clear H
        have H := H1
        clear H1
        obtain rfl := Option.some.inj H
        go_wp2
        repeat (go_quiet (fail); try go_wp2)
        go_ret
        exact ⟨by first | rfl | (simp [errW_none, errW_some] <;> rfl) | (simp [*, errW_none, errW_some] <;> rfl), by repeat (first | (with_reducible first | exact HB.out | apply below_alloc | apply pw_below_drewN | apply below_drew1) | exact HB.out)⟩
   ·replace c156 := Bool.eq_false_iff.mpr c156
    subst c156
    have H1 : (if t503 = true then (if (wrap64 (2 * t499)) = (wrap64 (t496 * t500)) then (if (wrap64 ((wrap64 ((wrap64 (t499 * t497)) + (wrap64 (t499 * t498)))) * t502)) = (wrap64 ((wrap64 ((wrap64 (t501 * t500)) * t498)) * t497)) then (some true) else (some false)) else (some false)) else (some true)) = some r := by rw [if_neg (show ¬ (false = true) by decide)] at H; exact H
    clear H
    have H := H1
    clear H1
    by_cases c169 : t503 = true
    ·subst c169
     have H1 : (if (wrap64 (2 * t499)) = (wrap64 (t496 * t500)) then (if (wrap64 ((wrap64 ((wrap64 (t499 * t497)) + (wrap64 (t499 * t498)))) * t502)) = (wrap64 ((wrap64 ((wrap64 (t501 * t500)) * t498)) * t497)) then (some true) else (some false)) else (some false)) = some r := by rw [if_pos rfl] at H; exact H
     clear H
     have H := H1
     clear H1
     by_cases c170 : (wrap64 (2 * t499)) = (wrap64 (t496 * t500))
     ·rw [if_pos c170] at H
      have c170b0 : ((wrap64 (2 * t499)) == (wrap64 (t496 * t500))) = true := beq_iff_eq.mpr c170
      have c170b1 : ((wrap64 (2 * t499)) != (wrap64 (t496 * t500))) = false := bne_eq_false_iff_eq.mpr c170
      clear c170
      by_cases c171 : (wrap64 ((wrap64 ((wrap64 (t499 * t497)) + (wrap64 (t499 * t498)))) * t502)) = (wrap64 ((wrap64 ((wrap64 (t501 * t500)) * t498)) * t497))
      ·rw [if_pos c171] at H
       have c171b0 : ((wrap64 ((wrap64 ((wrap64 (t499 * t497)) + (wrap64 (t499 * t498)))) * t502)) == (wrap64 ((wrap64 ((wrap64 (t501 * t500)) * t498)) * t497))) = true := beq_iff_eq.mpr c171
       have c171b1 : ((wrap64 ((wrap64 ((wrap64 (t499 * t497)) + (wrap64 (t499 * t498)))) * t502)) != (wrap64 ((wrap64 ((wrap64 (t501 * t500)) * t498)) * t497))) = false := bne_eq_false_iff_eq.mpr c171
       clear c171
       obtain rfl := Option.some.inj H
       go_wp2
       repeat (go_quiet (fail); try go_wp2)
       go_ret
       exact ⟨by first | rfl | (simp [errW_none, errW_some] <;> rfl) | (simp [*, errW_none, errW_some] <;> rfl), by repeat (first | (with_reducible first | exact HB.out | apply below_alloc | apply pw_below_drewN | apply below_drew1) | exact HB.out)⟩
      ·rw [if_neg c171] at H
       have c171b0 : ((wrap64 ((wrap64 ((wrap64 (t499 * t497)) + (wrap64 (t499 * t498)))) * t502)) == (wrap64 ((wrap64 ((wrap64 (t501 * t500)) * t498)) * t497))) = false := beq_eq_false_iff_ne.mpr c171
       have c171b1 : ((wrap64 ((wrap64 ((wrap64 (t499 * t497)) + (wrap64 (t499 * t498)))) * t502)) != (wrap64 ((wrap64 ((wrap64 (t501 * t500)) * t498)) * t497))) = true := bne_iff_ne.mpr c171
       exact absurd (Option.some.inj H).symm (by rw [HR_.out]; decide)
     ·rw [if_neg c170] at H
      have c170b0 : ((wrap64 (2 * t499)) == (wrap64 (t496 * t500))) = false := beq_eq_false_iff_ne.mpr c170
      have c170b1 : ((wrap64 (2 * t499)) != (wrap64 (t496 * t500))) = true := bne_iff_ne.mpr c170
      exact absurd (Option.some.inj H).symm (by rw [HR_.out]; decide)
    ·replace c169 := Bool.eq_false_iff.mpr c169
     subst c169
     have H1 : (some true) = some r := by rw [if_neg (show ¬ (false = true) by decide)] at H; exact H
     clear H
     have H := H1
     clear H1
     obtain rfl := Option.some.inj H
     go_wp2
     repeat (go_quiet (fail); try go_wp2)
     go_ret
     exact ⟨by first | rfl | (simp [errW_none, errW_some] <;> rfl) | (simp [*, errW_none, errW_some] <;> rfl), by repeat (first | (with_reducible first | exact HB.out | apply below_alloc | apply pw_below_drewN | apply below_drew1) | exact HB.out)⟩
  
end Go.Proofs.Ytgjhomhfcifipaa.QS
