-- WRITTEN BY a program of this session (wip/xprint.py, over the kit's print): Lean checks it.
import Derived.Test.YtnbmplhcbliclaaGreatDoorQTx11d
import Derived.Test.YtnbmplhcbliclaaGreatDoorQTx11s5
namespace Go.Proofs.YtnbmplhcbliclaaGreatDoor.QT
open Go.Proofs.YtnbmplhcbliclaaGreatDoor.X Go.RowKit Go.Proofs.YtnbmplhcbliclaaGreatDoorW.PrintWords Go.Proofs.YtnbmplhcbliclaaGreatDoorW.PrintLast Go.Proofs.YtnbmplhcbliclaaGreatDoorW.PrintMore
attribute [local go_sem] max2_int min2_int max_two min_two max_three min_three max_four min_four   -- for this text's walks alone
set_option linter.unusedVariables false
set_option linter.unusedSimpArgs false

attribute [local go_sem high] eqA25
set_option maxHeartbeats 16000000 in
set_option maxRecDepth 1000000 in
theorem laws_FnTrainsPass.seg4 {v0_ v1_ v2_ v3_ v5_ v6_ v7_ v8_ v9_ v10_ v11_ v12_ v13_ v14_ v15_ v16_ v17_ v18_ v19_ v20_ v21_ v22_ v23_ v24_ v25_ v26_ v27_ v28_ v29_ v30_ v31_ v32_ v33_ v34_ v35_ v41_ v42_ v43_ v47_ v48_ v49_ v56_ v57_ v58_ v65_ v66_ v67_ v76_ v77_ v78_ v79_ v80_ v84_ v85_ v90_ v91_ v92_ v93_ v94_ v95_ v96_ v97_ v98_ v99_ v100_ v101_ v102_ v103_ v104_ v105_ v106_ v107_ v108_ v109_ v110_ v111_ v112_ v113_ v114_ v115_ v116_ v117_ v118_ v119_ v120_ v121_ v122_ v123_ v124_ v125_ v126_ v127_ v128_ v129_ v130_ v131_ v132_ v133_ v134_ v135_ v136_ v137_ v138_ v139_ v140_ v141_ v142_ v143_ v144_ v145_ v146_ v147_ v148_ v149_ v150_ v151_ v152_ v153_ v154_ v155_ v156_ v157_ v158_ v159_ v160_ v161_ v162_ v163_ v164_ v165_ v166_ v167_ v168_ v169_ v170_ v171_ v172_ v173_ v174_ v175_ v176_ v177_ v178_ v179_ v180_ v181_ v182_ v183_ v184_ v185_ v186_ v187_ v188_ v189_ v190_ v191_ v192_ v193_ v194_ v195_ v196_ v197_ v198_ v199_ v200_ v201_ v202_ v203_ v204_ v205_ v206_ v207_ v208_ v209_ v210_ v211_ v212_ v213_ v214_ v215_ v216_ v217_ v218_ v219_ v220_ v221_ v222_ v223_ v224_ v225_ v226_ v227_ v228_ v229_ v230_ v231_ v232_ v233_ v234_ v235_ v236_ v237_ v238_ v239_ v240_ v241_ v242_ v243_ v244_ v245_ v246_ v247_ v248_ v249_ v250_ v251_ v252_ v253_ v254_ v255_ v256_ v257_ v258_ v259_ v260_ v261_ v262_ v263_ v264_ v265_ v266_ v267_ v268_ v269_ v270_ v271_ v272_ v273_ v274_ v275_ v276_ v277_ v278_ v279_ v280_ v281_ v282_ v283_ v284_ v285_ v286_ v287_ v288_ v289_ v290_ v291_ v292_ v293_ v294_ v295_ v296_ v297_ v298_ v299_ v300_ v301_ v302_ v303_ v304_ v305_ v306_ v307_ v308_ v309_ v310_ v311_ v312_ v313_ v314_ v315_ v316_ v317_ v318_ v319_ v320_ v321_ v322_ v323_ v324_ v325_ v326_ v327_ v328_ v329_ v330_ v331_ v332_ v333_ v334_ v335_ v336_ v337_ v338_ v339_ v340_ v341_ v342_ v343_ v344_ v345_ v346_ v347_ v348_ v349_ v350_ v351_ v352_ v353_ v354_ v355_ v356_ v357_ v358_ v359_ v360_ v361_ v362_ v363_ v364_ v365_ v366_ v367_ v368_ v369_ v370_ v371_ v372_ v373_ v374_ v375_ v376_ v377_ v378_ v379_ v380_ v381_ v382_ v383_ v384_ v385_ v386_ v387_ v388_ v389_ v390_ v391_ v392_ v393_ v394_ v395_ v396_ v397_ v398_ v399_ v400_ v401_ v402_ v403_ v404_ v405_ v406_ v407_ v408_ v409_ v410_ v411_ v412_ v413_ v414_ v415_ v416_ v417_ v418_ v419_ v420_ v421_ v422_ v423_ v424_ v425_ v426_ v427_ v428_ v429_ v430_ v431_ v432_ v433_ v434_ v435_ v436_ v437_ v438_ v439_ v440_ v441_ v442_ v443_ v444_ v445_ v446_ v447_ v448_ v449_ v450_ v451_ v452_ v453_ v454_ v455_ v456_ v457_ v458_ v459_ v460_ v461_ v462_ v463_ v464_ v465_ v466_ v467_ v468_ v469_ v470_ v471_ v472_ v473_ v474_ v475_ v476_ v477_ v478_ v479_ v480_ v481_ v482_ v483_ v484_ v485_ v486_ v487_ v488_ v489_ v490_ v491_ v492_ v493_ v494_ v495_ v496_ v497_ v498_ v499_ v500_ v501_ v502_ v503_ v504_ v505_ v506_ v507_ v508_ v509_ v510_ v511_ v512_ v513_ v514_ v515_ v516_ v517_ v518_ v519_ v520_ v521_ v522_ v523_ v524_ v525_ v526_ v527_ v528_ v529_ v530_ v531_ v532_ v533_ v534_ v535_ v536_ v537_ v538_ v539_ v540_ v541_ v542_ v543_ v544_ v545_ v546_ v547_ v548_ v549_ v550_ v551_ v552_ v553_ v554_ v555_ v556_ : Go.Value} (k : Nat) (r : Bool) (w : World) (HTab_ : Aside0 (YtnbmplhcbliclaaGreatDoor.XText.T2 w)) (HR_ : Aside0 (r = Bool.true)) (hu25 : Program.underlying Tryz.prog (25 : Nat) = Option.some (TypeDesc.struct #[Field.mk "Length" (3 : Nat) (0 : Nat) Bool.false "" "" (0 : Nat), Field.mk "Rate" (3 : Nat) (1 : Nat) Bool.false "" "" (8 : Nat)])) (t429 t430 : Int) (gb432 : Nat) (w16 : World) (GW432 GE432 : Aside0 (Array.size (World.heap w) ≤ gb432)) (hcz17_0 : World.cell? w16 (Addr.mk gb432 (0 : Nat) Option.none) = Option.some (Value.int IntKind.i64 (0 : Int))) (hcz17_1 : World.cell? w16 (Addr.mk gb432 (1 : Nat) Option.none) = Option.some (Value.int IntKind.i64 (0 : Int))) (hfz17_0 : World.frozen? w16 (Addr.mk gb432 (0 : Nat) Option.none) = Bool.false) (hfz17_1 : World.frozen? w16 (Addr.mk gb432 (1 : Nat) Option.none) = Bool.false) (w18 : World) (hcz19_0 : World.cell? w18 (Addr.mk gb432 (0 : Nat) Option.none) = Option.some (Value.int IntKind.i64 t429)) (hcz19_1 : World.cell? w18 (Addr.mk gb432 (1 : Nat) Option.none) = Option.some (Value.int IntKind.i64 t430)) (hfz19_0 : World.frozen? w18 (Addr.mk gb432 (0 : Nat) Option.none) = Bool.false) (hfz19_1 : World.frozen? w18 (Addr.mk gb432 (1 : Nat) Option.none) = Bool.false) (w20 : World) (hcz21_0 : World.cell? w20 (Addr.mk gb432 (0 : Nat) Option.none) = Option.some (Value.int IntKind.i64 t429)) (hcz21_1 : World.cell? w20 (Addr.mk gb432 (1 : Nat) Option.none) = Option.some (Value.int IntKind.i64 t430)) (hfz21_0 : World.frozen? w20 (Addr.mk gb432 (0 : Nat) Option.none) = Bool.false) (hfz21_1 : World.frozen? w20 (Addr.mk gb432 (1 : Nat) Option.none) = Bool.false) (w22 : World) (hcz23_0 : World.cell? w22 (Addr.mk gb432 (0 : Nat) Option.none) = Option.some (Value.int IntKind.i64 t429)) (hcz23_1 : World.cell? w22 (Addr.mk gb432 (1 : Nat) Option.none) = Option.some (Value.int IntKind.i64 t430)) (hfz23_0 : World.frozen? w22 (Addr.mk gb432 (0 : Nat) Option.none) = Bool.false) (hfz23_1 : World.frozen? w22 (Addr.mk gb432 (1 : Nat) Option.none) = Bool.false) (w24 : World) (hcz25_0 : World.cell? w24 (Addr.mk gb432 (0 : Nat) Option.none) = Option.some (Value.int IntKind.i64 t429)) (hcz25_1 : World.cell? w24 (Addr.mk gb432 (1 : Nat) Option.none) = Option.some (Value.int IntKind.i64 t430)) (hfz25_0 : World.frozen? w24 (Addr.mk gb432 (0 : Nat) Option.none) = Bool.false) (hfz25_1 : World.frozen? w24 (Addr.mk gb432 (1 : Nat) Option.none) = Bool.false) (w26 : World) (hcz27_0 : World.cell? w26 (Addr.mk gb432 (0 : Nat) Option.none) = Option.some (Value.int IntKind.i64 t429)) (hcz27_1 : World.cell? w26 (Addr.mk gb432 (1 : Nat) Option.none) = Option.some (Value.int IntKind.i64 t430)) (hfz27_0 : World.frozen? w26 (Addr.mk gb432 (0 : Nat) Option.none) = Bool.false) (hfz27_1 : World.frozen? w26 (Addr.mk gb432 (1 : Nat) Option.none) = Bool.false) (w28 : World) (hcz29_0 : World.cell? w28 (Addr.mk gb432 (0 : Nat) Option.none) = Option.some (Value.int IntKind.i64 t429)) (hcz29_1 : World.cell? w28 (Addr.mk gb432 (1 : Nat) Option.none) = Option.some (Value.int IntKind.i64 t430)) (hfz29_0 : World.frozen? w28 (Addr.mk gb432 (0 : Nat) Option.none) = Bool.false) (hfz29_1 : World.frozen? w28 (Addr.mk gb432 (1 : Nat) Option.none) = Bool.false) (w30 : World) (hcz31_0 : World.cell? w30 (Addr.mk gb432 (0 : Nat) Option.none) = Option.some (Value.int IntKind.i64 t429)) (hcz31_1 : World.cell? w30 (Addr.mk gb432 (1 : Nat) Option.none) = Option.some (Value.int IntKind.i64 t430)) (hfz31_0 : World.frozen? w30 (Addr.mk gb432 (0 : Nat) Option.none) = Bool.false) (hfz31_1 : World.frozen? w30 (Addr.mk gb432 (1 : Nat) Option.none) = Bool.false) (kj13 : Nat) (HJ13 : Aside0 (kj13 + (1 : Nat) ≤ k)) (kj60 : Nat) (HJ60 : Aside0 (kj60 + (1 : Nat) ≤ kj13)) (kj72 : Nat) (HJ72 : Aside0 (kj72 + (1 : Nat) ≤ kj60)) (kj84 : Nat) (HJ84 : Aside0 (kj84 + (1 : Nat) ≤ kj72)) (u4 : Value) (kj89 : Nat) (HJ89 : Aside0 (kj89 + (1 : Nat) ≤ kj84)) (t471 t472 t473 t474 : Int) (t477 t478 : Int) (t479 : Bool) (t483 t484 : Int) (t485 : Bool) (t489 t490 t491 t492 : Int) (t493 : Bool) (t496 t497 : Int) (t498 : Bool) (t502 t503 t504 : Int) (t505 : Bool) (t507 t508 : Int) (t509 : Bool) (t513 t514 t515 : Int) (t516 t517 t518 t519 : Int) (t520 : Bool) (t526 : ByteArray) (t527 t528 : Int) (t529 : Bool) (t531 t532 : Int) (gb475 : Nat) (GW475 GE475 : Aside0 (Array.size (World.heap w) ≤ gb475)) (NB432_475 : Aside0 (gb432 ≠ gb475)) (NB475_432 : Aside0 (gb475 ≠ gb432)) (gb476 : Nat) (GW476 GE476 : Aside0 (Array.size (World.heap w) ≤ gb476)) (NB432_476 : Aside0 (gb432 ≠ gb476)) (NB476_432 : Aside0 (gb476 ≠ gb432)) (NB475_476 : Aside0 (gb475 ≠ gb476)) (NB476_475 : Aside0 (gb476 ≠ gb475)) (hnb121 : gb475 ≠ gb432) (hnc121 : gb432 ≠ gb475) (hnb122 : gb475 ≠ gb476) (hnc122 : gb476 ≠ gb475) (hnb124 : gb476 ≠ gb432) (hnc124 : gb432 ≠ gb476) (gb494 : Nat) (GW494 GE494 : Aside0 (Array.size (World.heap w) ≤ gb494)) (NB432_494 : Aside0 (gb432 ≠ gb494)) (NB494_432 : Aside0 (gb494 ≠ gb432)) (NB475_494 : Aside0 (gb475 ≠ gb494)) (NB494_475 : Aside0 (gb494 ≠ gb475)) (NB476_494 : Aside0 (gb476 ≠ gb494)) (NB494_476 : Aside0 (gb494 ≠ gb476)) (gb495 : Nat) (GW495 GE495 : Aside0 (Array.size (World.heap w) ≤ gb495)) (NB432_495 : Aside0 (gb432 ≠ gb495)) (NB495_432 : Aside0 (gb495 ≠ gb432)) (NB475_495 : Aside0 (gb475 ≠ gb495)) (NB495_475 : Aside0 (gb495 ≠ gb475)) (NB476_495 : Aside0 (gb476 ≠ gb495)) (NB495_476 : Aside0 (gb495 ≠ gb476)) (NB494_495 : Aside0 (gb494 ≠ gb495)) (NB495_494 : Aside0 (gb495 ≠ gb494)) (hnb139 : gb494 ≠ gb432) (hnc139 : gb432 ≠ gb494) (hnb140 : gb494 ≠ gb475) (hnc140 : gb475 ≠ gb494) (hnb141 : gb494 ≠ gb476) (hnc141 : gb476 ≠ gb494) (hnb142 : gb494 ≠ gb495) (hnc142 : gb495 ≠ gb494) (hnb144 : gb495 ≠ gb432) (hnc144 : gb432 ≠ gb495) (hnb145 : gb495 ≠ gb475) (hnc145 : gb475 ≠ gb495) (hnb146 : gb495 ≠ gb476) (hnc146 : gb476 ≠ gb495) (gb506 : Nat) (GW506 GE506 : Aside0 (Array.size (World.heap w) ≤ gb506)) (NB432_506 : Aside0 (gb432 ≠ gb506)) (NB506_432 : Aside0 (gb506 ≠ gb432)) (NB475_506 : Aside0 (gb475 ≠ gb506)) (NB506_475 : Aside0 (gb506 ≠ gb475)) (NB476_506 : Aside0 (gb476 ≠ gb506)) (NB506_476 : Aside0 (gb506 ≠ gb476)) (NB494_506 : Aside0 (gb494 ≠ gb506)) (NB506_494 : Aside0 (gb506 ≠ gb494)) (NB495_506 : Aside0 (gb495 ≠ gb506)) (NB506_495 : Aside0 (gb506 ≠ gb495)) (hnb154 : gb506 ≠ gb432) (hnc154 : gb432 ≠ gb506) (hnb155 : gb506 ≠ gb475) (hnc155 : gb475 ≠ gb506) (hnb156 : gb506 ≠ gb476) (hnc156 : gb476 ≠ gb506) (hnb157 : gb506 ≠ gb494) (hnc157 : gb494 ≠ gb506) (hnb158 : gb506 ≠ gb495) (hnc158 : gb495 ≠ gb506) (nd : Nat) (gb530 : Nat) (GW530 GE530 : Aside0 (Array.size (World.heap w) ≤ gb530)) (NB432_530 : Aside0 (gb432 ≠ gb530)) (NB530_432 : Aside0 (gb530 ≠ gb432)) (NB475_530 : Aside0 (gb475 ≠ gb530)) (NB530_475 : Aside0 (gb530 ≠ gb475)) (NB476_530 : Aside0 (gb476 ≠ gb530)) (NB530_476 : Aside0 (gb530 ≠ gb476)) (NB494_530 : Aside0 (gb494 ≠ gb530)) (NB530_494 : Aside0 (gb530 ≠ gb494)) (NB495_530 : Aside0 (gb495 ≠ gb530)) (NB530_495 : Aside0 (gb530 ≠ gb495)) (NB506_530 : Aside0 (gb506 ≠ gb530)) (NB530_506 : Aside0 (gb530 ≠ gb506)) (hnb168 : gb530 ≠ gb432) (hnc168 : gb432 ≠ gb530) (hnb169 : gb530 ≠ gb475) (hnc169 : gb475 ≠ gb530) (hnb170 : gb530 ≠ gb476) (hnc170 : gb476 ≠ gb530) (hnb171 : gb530 ≠ gb494) (hnc171 : gb494 ≠ gb530) (hnb172 : gb530 ≠ gb495) (hnc172 : gb495 ≠ gb530) (hnb173 : gb530 ≠ gb506) (hnc173 : gb506 ≠ gb530) (gb534 : Nat) (GW534 GE534 : Aside0 (Array.size (World.heap w) ≤ gb534)) (NB475_534 : Aside0 (gb475 ≠ gb534)) (NB534_475 : Aside0 (gb534 ≠ gb475)) (NB476_534 : Aside0 (gb476 ≠ gb534)) (NB534_476 : Aside0 (gb534 ≠ gb476)) (NB494_534 : Aside0 (gb494 ≠ gb534)) (NB534_494 : Aside0 (gb534 ≠ gb494)) (NB495_534 : Aside0 (gb495 ≠ gb534)) (NB534_495 : Aside0 (gb534 ≠ gb495)) (NB506_534 : Aside0 (gb506 ≠ gb534)) (NB534_506 : Aside0 (gb534 ≠ gb506)) (NB530_534 : Aside0 (gb530 ≠ gb534)) (NB534_530 : Aside0 (gb534 ≠ gb530)) (hnb177 : gb534 ≠ gb432) (hnc177 : gb432 ≠ gb534) (hnb178 : gb534 ≠ gb475) (hnc178 : gb475 ≠ gb534) (hnb179 : gb534 ≠ gb476) (hnc179 : gb476 ≠ gb534) (hnb180 : gb534 ≠ gb494) (hnc180 : gb494 ≠ gb534) (hnb181 : gb534 ≠ gb495) (hnc181 : gb495 ≠ gb534) (hnb182 : gb534 ≠ gb506) (hnc182 : gb506 ≠ gb534) (hnb183 : gb534 ≠ gb530) (hnc183 : gb530 ≠ gb534) (wc : World) (BK432 : Aside0 ((World.heap wc)[gb432]? = Option.some (Obj.cells #[Value.int IntKind.i64 t429, Value.int IntKind.i64 t430] (25 : TypeId)))) (BK475 : Aside0 ((World.heap wc)[gb475]? = Option.some (Obj.cells #[Value.int IntKind.i64 t471, Value.int IntKind.i64 t472] (25 : TypeId)))) (BK476 : Aside0 ((World.heap wc)[gb476]? = Option.some (Obj.cells #[Value.int IntKind.i64 t473, Value.int IntKind.i64 t474] (25 : TypeId)))) (BK494 : Aside0 ((World.heap wc)[gb494]? = Option.some (Obj.cells #[Value.int IntKind.i64 t489, Value.int IntKind.i64 t490] (25 : TypeId)))) (BK495 : Aside0 ((World.heap wc)[gb495]? = Option.some (Obj.cells #[Value.int IntKind.i64 t491, Value.int IntKind.i64 t492] (25 : TypeId)))) (BK506 : Aside0 ((World.heap wc)[gb506]? = Option.some (Obj.cells #[Value.int IntKind.i64 t502, Value.int IntKind.i64 t503] (25 : TypeId)))) (BK530 : Aside0 ((World.heap wc)[gb530]? = Option.some (Obj.cells #[Value.int IntKind.i64 t527, Value.int IntKind.i64 t528] (25 : TypeId)))) (BK534 : Aside0 ((World.heap wc)[gb534]? = Option.some (Obj.cells #[Value.int IntKind.i64 t531, Value.int IntKind.i64 t532] (25 : TypeId)))) (HB : Aside0 (Below (Array.size (World.heap w)) w wc)) (kj116 : Nat) (HJ116 : Aside0 (kj116 + (1 : Nat) ≤ kj89)) (HC247 : Aside0 ((if t479 = Bool.true then Option.bind (laws_qIs.f kj116 t477 t478 (wrap64 (t471 + t473)) (wrap64 (t472 + t474))) fun t535 => if t535 = Bool.true then if t485 = Bool.true then Option.bind (laws_qIs.f kj116 t483 t484 (wrap64 (t471 + t473)) (wrap64 (t472 - t474))) fun t536 => laws_FnTrainsPass.j6 kj116 t493 t496 t497 t498 t504 t505 t507 t508 t509 t513 t514 t515 t516 t517 t518 t519 t520 t526 t529 (!t536) t489 t490 t491 t492 t502 t503 t527 t528 else laws_FnTrainsPass.j6 kj116 t493 t496 t497 t498 t504 t505 t507 t508 t509 t513 t514 t515 t516 t517 t518 t519 t520 t526 t529 Bool.false t489 t490 t491 t492 t502 t503 t527 t528 else laws_FnTrainsPass.j6 kj116 t493 t496 t497 t498 t504 t505 t507 t508 t509 t513 t514 t515 t516 t517 t518 t519 t520 t526 t529 Bool.true t489 t490 t491 t492 t502 t503 t527 t528 else if t485 = Bool.true then Option.bind (laws_qIs.f kj116 t483 t484 (wrap64 (t471 + t473)) (wrap64 (t472 - t474))) fun t537 => laws_FnTrainsPass.j6 kj116 t493 t496 t497 t498 t504 t505 t507 t508 t509 t513 t514 t515 t516 t517 t518 t519 t520 t526 t529 (!t537) t489 t490 t491 t492 t502 t503 t527 t528 else laws_FnTrainsPass.j6 kj116 t493 t496 t497 t498 t504 t505 t507 t508 t509 t513 t514 t515 t516 t517 t518 t519 t520 t526 t529 Bool.false t489 t490 t491 t492 t502 t503 t527 t528) = Option.some r)) :
    Go.Code.wp Tryz.prog (laws_FnTrainsPass.behind 556 laws_FnTrainsPass.body) (bodyPost Tryz.prog Tryz.f3 (fun e w' => e = .returned (.bool r) ∧ Below w.heap.size w w')) (Go.Act.mk #[v0_, v1_, v2_, v3_, u4, v5_, v6_, v7_, v8_, v9_, v10_, v11_, v12_, v13_, v14_, v15_, v16_, v17_, v18_, v19_, v20_, v21_, v22_, v23_, v24_, v25_, v26_, v27_, v28_, v29_, v30_, v31_, v32_, v33_, v34_, v35_, Value.pointer (Option.some (Addr.mk gb475 (0 : Nat) Option.none)), Value.pointer (Option.some (Addr.mk gb476 (0 : Nat) Option.none)), Value.int IntKind.i64 t477, Value.int IntKind.i64 t478, Value.bool t479, v41_, v42_, v43_, Value.int IntKind.i64 t483, Value.int IntKind.i64 t484, Value.bool t485, v47_, v48_, v49_, Value.pointer (Option.some (Addr.mk gb494 (0 : Nat) Option.none)), Value.pointer (Option.some (Addr.mk gb495 (0 : Nat) Option.none)), Value.bool t493, Value.int IntKind.i64 t496, Value.int IntKind.i64 t497, Value.bool t498, v56_, v57_, v58_, Value.pointer (Option.some (Addr.mk gb506 (0 : Nat) Option.none)), Value.int IntKind.i64 t504, Value.bool t505, Value.int IntKind.i64 t507, Value.int IntKind.i64 t508, Value.bool t509, v65_, v66_, v67_, Value.int IntKind.i64 t513, Value.int IntKind.i64 t514, Value.int IntKind.i64 t515, Value.int IntKind.i64 t516, Value.int IntKind.i64 t517, Value.int IntKind.i64 t518, Value.int IntKind.i64 t519, Value.bool t520, v76_, v77_, v78_, v79_, v80_, Value.string t526, Value.pointer (Option.some (Addr.mk gb530 (0 : Nat) Option.none)), Value.bool t529, v84_, v85_, undef, undef, undef, undef, v90_, v91_, v92_, v93_, v94_, v95_, v96_, v97_, v98_, v99_, v100_, v101_, v102_, v103_, v104_, v105_, v106_, v107_, v108_, v109_, v110_, v111_, v112_, v113_, v114_, v115_, v116_, v117_, v118_, v119_, v120_, v121_, v122_, v123_, v124_, v125_, v126_, v127_, v128_, v129_, v130_, v131_, v132_, v133_, v134_, v135_, v136_, v137_, v138_, v139_, v140_, v141_, v142_, v143_, v144_, v145_, v146_, v147_, v148_, v149_, v150_, v151_, v152_, v153_, v154_, v155_, v156_, v157_, v158_, v159_, v160_, v161_, v162_, v163_, v164_, v165_, v166_, v167_, v168_, v169_, v170_, v171_, v172_, v173_, v174_, v175_, v176_, v177_, v178_, v179_, v180_, v181_, v182_, v183_, v184_, v185_, v186_, v187_, v188_, v189_, v190_, v191_, v192_, v193_, v194_, v195_, v196_, v197_, v198_, v199_, v200_, v201_, v202_, v203_, v204_, v205_, v206_, v207_, v208_, v209_, v210_, v211_, v212_, v213_, v214_, v215_, v216_, v217_, v218_, v219_, v220_, v221_, v222_, v223_, v224_, v225_, v226_, v227_, v228_, v229_, v230_, v231_, v232_, v233_, v234_, v235_, v236_, v237_, v238_, v239_, v240_, v241_, v242_, v243_, v244_, v245_, v246_, v247_, v248_, v249_, v250_, v251_, v252_, v253_, v254_, v255_, v256_, v257_, v258_, v259_, v260_, v261_, v262_, v263_, v264_, v265_, v266_, v267_, v268_, v269_, v270_, v271_, v272_, v273_, v274_, v275_, v276_, v277_, v278_, v279_, v280_, v281_, v282_, v283_, v284_, v285_, v286_, v287_, v288_, v289_, v290_, v291_, v292_, v293_, v294_, v295_, v296_, v297_, v298_, v299_, v300_, v301_, v302_, v303_, v304_, v305_, v306_, v307_, v308_, v309_, v310_, v311_, v312_, v313_, v314_, v315_, v316_, v317_, v318_, v319_, v320_, v321_, v322_, v323_, v324_, v325_, v326_, v327_, v328_, v329_, v330_, v331_, v332_, v333_, v334_, v335_, v336_, v337_, v338_, v339_, v340_, v341_, v342_, v343_, v344_, v345_, v346_, v347_, v348_, v349_, v350_, v351_, v352_, v353_, v354_, v355_, v356_, v357_, v358_, v359_, v360_, v361_, v362_, v363_, v364_, v365_, v366_, v367_, v368_, v369_, v370_, v371_, v372_, v373_, v374_, v375_, v376_, v377_, v378_, v379_, v380_, v381_, v382_, v383_, v384_, v385_, v386_, v387_, v388_, v389_, v390_, v391_, v392_, v393_, v394_, v395_, v396_, v397_, v398_, v399_, v400_, v401_, v402_, v403_, v404_, v405_, v406_, v407_, v408_, v409_, v410_, v411_, v412_, v413_, v414_, v415_, v416_, v417_, v418_, v419_, v420_, v421_, v422_, v423_, v424_, v425_, v426_, v427_, v428_, v429_, v430_, v431_, v432_, v433_, v434_, v435_, v436_, v437_, v438_, v439_, v440_, v441_, v442_, v443_, v444_, v445_, v446_, v447_, v448_, v449_, v450_, v451_, v452_, v453_, v454_, v455_, v456_, v457_, v458_, v459_, v460_, v461_, v462_, v463_, v464_, v465_, v466_, v467_, v468_, v469_, v470_, v471_, v472_, v473_, v474_, v475_, v476_, v477_, v478_, v479_, v480_, v481_, v482_, v483_, v484_, v485_, v486_, v487_, v488_, v489_, v490_, v491_, v492_, v493_, v494_, v495_, v496_, v497_, v498_, v499_, v500_, v501_, v502_, v503_, v504_, v505_, v506_, v507_, v508_, v509_, v510_, v511_, v512_, v513_, v514_, v515_, v516_, v517_, v518_, v519_, v520_, v521_, v522_, v523_, v524_, v525_, v526_, v527_, v528_, v529_, v530_, v531_, v532_, v533_, v534_, v535_, v536_, v537_, v538_, v539_, v540_, v541_, v542_, v543_, v544_, v545_, v546_, v547_, v548_, v549_, v550_, v551_, v552_, v553_, v554_, v555_, v556_, undef, undef, undef, undef, undef, undef, undef, undef, undef, undef, undef, undef, undef, undef, undef, undef, undef, undef, undef, undef, undef, undef, undef, undef, undef, undef, undef, undef, undef, undef, undef, undef, undef, undef, undef, undef, undef, undef, undef, undef, undef, undef, undef, undef, undef, undef, undef, undef, undef, undef, undef, undef, undef, undef, undef, undef, undef, undef, undef, undef, undef, undef, undef, undef, undef, undef, undef, undef, undef, undef, undef, undef, undef, undef, undef, undef, undef, undef, undef, undef, undef, undef, undef, undef, undef, undef, undef, undef, undef, undef, undef, undef, undef, undef, undef, undef, undef, undef, undef, undef, undef, undef, undef, undef, undef, undef, undef, undef, undef, undef, undef] []) wc := by
  conv => arg 2; whnf
  (try conv => arg 4; dsimp only)
  go_upto_region 43 with (fail)
  go_cut [592] from 100000 (fun v592 wc => ∃ (kq : Nat) (x592_246 : Bool), v592 = .bool x592_246 ∧ Aside0 (laws_FnTrainsPass.j6 kq t493 t496 t497 t498 t504 t505 t507 t508 t509 t513 t514 t515 t516 t517 t518 t519 t520 t526 t529 x592_246 t489 t490 t491 t492 t502 t503 t527 t528 = some r) ∧ Aside0 (kq ≤ kj116) ∧ Aside0 (wc.heap[gb432]? = some (.cells #[.int .i64 t429, .int .i64 t430] 25 (0, 0))) ∧ Aside0 (wc.heap[gb475]? = some (.cells #[.int .i64 t471, .int .i64 t472] 25 (0, 0))) ∧ Aside0 (wc.heap[gb476]? = some (.cells #[.int .i64 t473, .int .i64 t474] 25 (0, 0))) ∧ Aside0 (wc.heap[gb494]? = some (.cells #[.int .i64 t489, .int .i64 t490] 25 (0, 0))) ∧ Aside0 (wc.heap[gb495]? = some (.cells #[.int .i64 t491, .int .i64 t492] 25 (0, 0))) ∧ Aside0 (wc.heap[gb506]? = some (.cells #[.int .i64 t502, .int .i64 t503] 25 (0, 0))) ∧ Aside0 (wc.heap[gb530]? = some (.cells #[.int .i64 t527, .int .i64 t528] 25 (0, 0))) ∧ Aside0 (wc.heap[gb534]? = some (.cells #[.int .i64 t531, .int .i64 t532] 25 (0, 0))) ∧ Aside0 (Below w.heap.size w wc))
  case first =>
   (try conv => arg 2; dsimp only [List.append_eq, List.cons_append, List.nil_append])
   have H := HC247.out
   clear HC247
   by_cases c248 : t479 = true
   ·subst c248
    have H1 : ((laws_qIs.f kj116 t477 t478 (wrap64 (t471 + t473)) (wrap64 (t472 + t474))).bind fun t535 => (if t535 = true then (if t485 = true then ((laws_qIs.f kj116 t483 t484 (wrap64 (t471 + t473)) (wrap64 (t472 - t474))).bind fun t536 => (laws_FnTrainsPass.j6 kj116 t493 t496 t497 t498 t504 t505 t507 t508 t509 t513 t514 t515 t516 t517 t518 t519 t520 t526 t529 (!t536) t489 t490 t491 t492 t502 t503 t527 t528)) else (laws_FnTrainsPass.j6 kj116 t493 t496 t497 t498 t504 t505 t507 t508 t509 t513 t514 t515 t516 t517 t518 t519 t520 t526 t529 false t489 t490 t491 t492 t502 t503 t527 t528)) else (laws_FnTrainsPass.j6 kj116 t493 t496 t497 t498 t504 t505 t507 t508 t509 t513 t514 t515 t516 t517 t518 t519 t520 t526 t529 true t489 t490 t491 t492 t502 t503 t527 t528))) = some r := by rw [if_pos rfl] at H; exact H
    clear H
    have H := H1
    clear H1
    replace H := Option.bind_eq_some_iff.mp H
    obtain ⟨t535, A2490, H⟩ := H
    (try dsimp only at H)
    have A249 := Aside0.mk A2490
    clear A2490
    by_cases c250 : t535 = true
    ·subst c250
     have H1 : (if t485 = true then ((laws_qIs.f kj116 t483 t484 (wrap64 (t471 + t473)) (wrap64 (t472 - t474))).bind fun t536 => (laws_FnTrainsPass.j6 kj116 t493 t496 t497 t498 t504 t505 t507 t508 t509 t513 t514 t515 t516 t517 t518 t519 t520 t526 t529 (!t536) t489 t490 t491 t492 t502 t503 t527 t528)) else (laws_FnTrainsPass.j6 kj116 t493 t496 t497 t498 t504 t505 t507 t508 t509 t513 t514 t515 t516 t517 t518 t519 t520 t526 t529 false t489 t490 t491 t492 t502 t503 t527 t528)) = some r := by rw [if_pos rfl] at H; exact H
     clear H
     have H := H1
     clear H1
     by_cases c251 : t485 = true
     ·subst c251
      have H1 : ((laws_qIs.f kj116 t483 t484 (wrap64 (t471 + t473)) (wrap64 (t472 - t474))).bind fun t536 => (laws_FnTrainsPass.j6 kj116 t493 t496 t497 t498 t504 t505 t507 t508 t509 t513 t514 t515 t516 t517 t518 t519 t520 t526 t529 (!t536) t489 t490 t491 t492 t502 t503 t527 t528)) = some r := by rw [if_pos rfl] at H; exact H
      clear H
      have H := H1
      clear H1
      replace H := Option.bind_eq_some_iff.mp H
      obtain ⟨t536, A2520, H⟩ := H
      replace H : (laws_FnTrainsPass.j6 kj116 t493 t496 t497 t498 t504 t505 t507 t508 t509 t513 t514 t515 t516 t517 t518 t519 t520 t526 t529 (!t536) t489 t490 t491 t492 t502 t503 t527 t528) = some r := H
      have A252 := Aside0.mk A2520
      clear A2520
      have H' := Aside0.mk H
      clear H
      have hnb253 := NB475_432.out
      have hnc253 := NB432_475.out
      have hnb254 := NB475_476.out
      have hnc254 := NB476_475.out
      have hnb255 := NB475_494.out
      have hnc255 := NB494_475.out
      have hnb256 := NB475_495.out
      have hnc256 := NB495_475.out
      have hnb257 := NB475_506.out
      have hnc257 := NB506_475.out
      have hnb258 := NB475_530.out
      have hnc258 := NB530_475.out
      have hnb259 := NB475_534.out
      have hnc259 := NB534_475.out
      have hcz260_0 : wc.cell? ⟨gb475, 0, none⟩ = some (.int .i64 t471) := (blk_cell BK475.out 0).trans rfl
      have hcz260_1 : wc.cell? ⟨gb475, 1, none⟩ = some (.int .i64 t472) := (blk_cell BK475.out 1).trans rfl
      have hfz260_0 := blk_frozen BK475.out 0
      have hfz260_1 := blk_frozen BK475.out 1
      have hnb261 := NB476_432.out
      have hnc261 := NB432_476.out
      have hnb262 := NB476_494.out
      have hnc262 := NB494_476.out
      have hnb263 := NB476_495.out
      have hnc263 := NB495_476.out
      have hnb264 := NB476_506.out
      have hnc264 := NB506_476.out
      have hnb265 := NB476_530.out
      have hnc265 := NB530_476.out
      have hnb266 := NB476_534.out
      have hnc266 := NB534_476.out
      have hcz267_0 : wc.cell? ⟨gb476, 0, none⟩ = some (.int .i64 t473) := (blk_cell BK476.out 0).trans rfl
      have hcz267_1 : wc.cell? ⟨gb476, 1, none⟩ = some (.int .i64 t474) := (blk_cell BK476.out 1).trans rfl
      have hfz267_0 := blk_frozen BK476.out 0
      have hfz267_1 := blk_frozen BK476.out 1
      go_wp2_with (first | (go_at_call 17; (with_reducible refine (laws_qIs.calls kj116 t477 t478 (wrap64 (t471 + t473)) (wrap64 (t472 + t474)) true _ A249.out).mono ?_); rintro e w' ⟨rfl, ⟨nd, rfl⟩⟩) | (go_at_call 17; (with_reducible refine (laws_qIs.calls kj116 t483 t484 (wrap64 (t471 + t473)) (wrap64 (t472 - t474)) t536 _ A252.out).mono ?_); rintro e w' ⟨rfl, ⟨nd, rfl⟩⟩))
      go_meet
      case rel => exact ⟨_, (!t536), (by first | rfl | (simp; done) | (simp [*]; done)), H', ⟨by have := HJ13.out; have := HJ60.out; have := HJ72.out; have := HJ84.out; have := HJ89.out; have := HJ116.out; first | omega | exact Nat.le_refl _⟩, ⟨blk_to BK432⟩, ⟨blk_to BK475⟩, ⟨blk_to BK476⟩, ⟨blk_to BK494⟩, ⟨blk_to BK495⟩, ⟨blk_to BK506⟩, ⟨blk_to BK530⟩, ⟨blk_to BK534⟩, ⟨by repeat (first | (with_reducible first | exact HB.out | apply below_alloc | apply pw_below_drewN | apply below_drew1 | refine below_set ?_ GE432.out | refine below_set ?_ GE475.out | refine below_set ?_ GE476.out | refine below_set ?_ GE494.out | refine below_set ?_ GE495.out | refine below_set ?_ GE506.out | refine below_set ?_ GE530.out | refine below_set ?_ GE534.out) | exact HB.out)⟩⟩
     ·replace c251 := Bool.eq_false_iff.mpr c251
      subst c251
      have H1 : (laws_FnTrainsPass.j6 kj116 t493 t496 t497 t498 t504 t505 t507 t508 t509 t513 t514 t515 t516 t517 t518 t519 t520 t526 t529 false t489 t490 t491 t492 t502 t503 t527 t528) = some r := by rw [if_neg (show ¬ (false = true) by decide)] at H; exact H
      clear H
      have H := H1
      clear H1
      have H' := Aside0.mk H
      clear H
      have hnb268 := NB475_432.out
      have hnc268 := NB432_475.out
      have hnb269 := NB475_476.out
      have hnc269 := NB476_475.out
      have hnb270 := NB475_494.out
      have hnc270 := NB494_475.out
      have hnb271 := NB475_495.out
      have hnc271 := NB495_475.out
      have hnb272 := NB475_506.out
      have hnc272 := NB506_475.out
      have hnb273 := NB475_530.out
      have hnc273 := NB530_475.out
      have hnb274 := NB475_534.out
      have hnc274 := NB534_475.out
      have hcz275_0 : wc.cell? ⟨gb475, 0, none⟩ = some (.int .i64 t471) := (blk_cell BK475.out 0).trans rfl
      have hcz275_1 : wc.cell? ⟨gb475, 1, none⟩ = some (.int .i64 t472) := (blk_cell BK475.out 1).trans rfl
      have hfz275_0 := blk_frozen BK475.out 0
      have hfz275_1 := blk_frozen BK475.out 1
      have hnb276 := NB476_432.out
      have hnc276 := NB432_476.out
      have hnb277 := NB476_494.out
      have hnc277 := NB494_476.out
      have hnb278 := NB476_495.out
      have hnc278 := NB495_476.out
      have hnb279 := NB476_506.out
      have hnc279 := NB506_476.out
      have hnb280 := NB476_530.out
      have hnc280 := NB530_476.out
      have hnb281 := NB476_534.out
      have hnc281 := NB534_476.out
      have hcz282_0 : wc.cell? ⟨gb476, 0, none⟩ = some (.int .i64 t473) := (blk_cell BK476.out 0).trans rfl
      have hcz282_1 : wc.cell? ⟨gb476, 1, none⟩ = some (.int .i64 t474) := (blk_cell BK476.out 1).trans rfl
      have hfz282_0 := blk_frozen BK476.out 0
      have hfz282_1 := blk_frozen BK476.out 1
      go_wp2_with (first | (go_at_call 17; (with_reducible refine (laws_qIs.calls kj116 t477 t478 (wrap64 (t471 + t473)) (wrap64 (t472 + t474)) true _ A249.out).mono ?_); rintro e w' ⟨rfl, ⟨nd, rfl⟩⟩))
      go_meet
      case rel => exact ⟨_, (false), (by first | rfl | (simp; done) | (simp [*]; done)), H', ⟨by have := HJ13.out; have := HJ60.out; have := HJ72.out; have := HJ84.out; have := HJ89.out; have := HJ116.out; first | omega | exact Nat.le_refl _⟩, ⟨blk_to BK432⟩, ⟨blk_to BK475⟩, ⟨blk_to BK476⟩, ⟨blk_to BK494⟩, ⟨blk_to BK495⟩, ⟨blk_to BK506⟩, ⟨blk_to BK530⟩, ⟨blk_to BK534⟩, ⟨by repeat (first | (with_reducible first | exact HB.out | apply below_alloc | apply pw_below_drewN | apply below_drew1 | refine below_set ?_ GE432.out | refine below_set ?_ GE475.out | refine below_set ?_ GE476.out | refine below_set ?_ GE494.out | refine below_set ?_ GE495.out | refine below_set ?_ GE506.out | refine below_set ?_ GE530.out | refine below_set ?_ GE534.out) | exact HB.out)⟩⟩
    ·replace c250 := Bool.eq_false_iff.mpr c250
     subst c250
     have H1 : (laws_FnTrainsPass.j6 kj116 t493 t496 t497 t498 t504 t505 t507 t508 t509 t513 t514 t515 t516 t517 t518 t519 t520 t526 t529 true t489 t490 t491 t492 t502 t503 t527 t528) = some r := by rw [if_neg (show ¬ (false = true) by decide)] at H; exact H
     clear H
     have H := H1
     clear H1
     exact absurd H (by rw [HR_.out]; cases kj116 <;> simp [laws_FnTrainsPass.j6])
   ·replace c248 := Bool.eq_false_iff.mpr c248
    subst c248
    have H1 : (if t485 = true then ((laws_qIs.f kj116 t483 t484 (wrap64 (t471 + t473)) (wrap64 (t472 - t474))).bind fun t537 => (laws_FnTrainsPass.j6 kj116 t493 t496 t497 t498 t504 t505 t507 t508 t509 t513 t514 t515 t516 t517 t518 t519 t520 t526 t529 (!t537) t489 t490 t491 t492 t502 t503 t527 t528)) else (laws_FnTrainsPass.j6 kj116 t493 t496 t497 t498 t504 t505 t507 t508 t509 t513 t514 t515 t516 t517 t518 t519 t520 t526 t529 false t489 t490 t491 t492 t502 t503 t527 t528)) = some r := by rw [if_neg (show ¬ (false = true) by decide)] at H; exact H
    clear H
    have H := H1
    clear H1
    by_cases c283 : t485 = true
    ·subst c283
     have H1 : ((laws_qIs.f kj116 t483 t484 (wrap64 (t471 + t473)) (wrap64 (t472 - t474))).bind fun t537 => (laws_FnTrainsPass.j6 kj116 t493 t496 t497 t498 t504 t505 t507 t508 t509 t513 t514 t515 t516 t517 t518 t519 t520 t526 t529 (!t537) t489 t490 t491 t492 t502 t503 t527 t528)) = some r := by rw [if_pos rfl] at H; exact H
     clear H
     have H := H1
     clear H1
     replace H := Option.bind_eq_some_iff.mp H
     obtain ⟨t537, A2840, H⟩ := H
     replace H : (laws_FnTrainsPass.j6 kj116 t493 t496 t497 t498 t504 t505 t507 t508 t509 t513 t514 t515 t516 t517 t518 t519 t520 t526 t529 (!t537) t489 t490 t491 t492 t502 t503 t527 t528) = some r := H
     have A284 := Aside0.mk A2840
     clear A2840
     have H' := Aside0.mk H
     clear H
     have hnb285 := NB475_432.out
     have hnc285 := NB432_475.out
     have hnb286 := NB475_476.out
     have hnc286 := NB476_475.out
     have hnb287 := NB475_494.out
     have hnc287 := NB494_475.out
     have hnb288 := NB475_495.out
     have hnc288 := NB495_475.out
     have hnb289 := NB475_506.out
     have hnc289 := NB506_475.out
     have hnb290 := NB475_530.out
     have hnc290 := NB530_475.out
     have hnb291 := NB475_534.out
     have hnc291 := NB534_475.out
     have hcz292_0 : wc.cell? ⟨gb475, 0, none⟩ = some (.int .i64 t471) := (blk_cell BK475.out 0).trans rfl
     have hcz292_1 : wc.cell? ⟨gb475, 1, none⟩ = some (.int .i64 t472) := (blk_cell BK475.out 1).trans rfl
     have hfz292_0 := blk_frozen BK475.out 0
     have hfz292_1 := blk_frozen BK475.out 1
     have hnb293 := NB476_432.out
     have hnc293 := NB432_476.out
     have hnb294 := NB476_494.out
     have hnc294 := NB494_476.out
     have hnb295 := NB476_495.out
     have hnc295 := NB495_476.out
     have hnb296 := NB476_506.out
     have hnc296 := NB506_476.out
     have hnb297 := NB476_530.out
     have hnc297 := NB530_476.out
     have hnb298 := NB476_534.out
     have hnc298 := NB534_476.out
     have hcz299_0 : wc.cell? ⟨gb476, 0, none⟩ = some (.int .i64 t473) := (blk_cell BK476.out 0).trans rfl
     have hcz299_1 : wc.cell? ⟨gb476, 1, none⟩ = some (.int .i64 t474) := (blk_cell BK476.out 1).trans rfl
     have hfz299_0 := blk_frozen BK476.out 0
     have hfz299_1 := blk_frozen BK476.out 1
     go_wp2_with (first | (go_at_call 17; (with_reducible refine (laws_qIs.calls kj116 t483 t484 (wrap64 (t471 + t473)) (wrap64 (t472 - t474)) t537 _ A284.out).mono ?_); rintro e w' ⟨rfl, ⟨nd, rfl⟩⟩))
     go_meet
     case rel => exact ⟨_, (!t537), (by first | rfl | (simp; done) | (simp [*]; done)), H', ⟨by have := HJ13.out; have := HJ60.out; have := HJ72.out; have := HJ84.out; have := HJ89.out; have := HJ116.out; first | omega | exact Nat.le_refl _⟩, ⟨blk_to BK432⟩, ⟨blk_to BK475⟩, ⟨blk_to BK476⟩, ⟨blk_to BK494⟩, ⟨blk_to BK495⟩, ⟨blk_to BK506⟩, ⟨blk_to BK530⟩, ⟨blk_to BK534⟩, ⟨by repeat (first | (with_reducible first | exact HB.out | apply below_alloc | apply pw_below_drewN | apply below_drew1 | refine below_set ?_ GE432.out | refine below_set ?_ GE475.out | refine below_set ?_ GE476.out | refine below_set ?_ GE494.out | refine below_set ?_ GE495.out | refine below_set ?_ GE506.out | refine below_set ?_ GE530.out | refine below_set ?_ GE534.out) | exact HB.out)⟩⟩
    ·replace c283 := Bool.eq_false_iff.mpr c283
     subst c283
     have H1 : (laws_FnTrainsPass.j6 kj116 t493 t496 t497 t498 t504 t505 t507 t508 t509 t513 t514 t515 t516 t517 t518 t519 t520 t526 t529 false t489 t490 t491 t492 t502 t503 t527 t528) = some r := by rw [if_neg (show ¬ (false = true) by decide)] at H; exact H
     clear H
     have H := H1
     clear H1
     have H' := Aside0.mk H
     clear H
     go_wp2
     go_meet
     case rel => exact ⟨_, (false), (by first | rfl | (simp; done) | (simp [*]; done)), H', ⟨by have := HJ13.out; have := HJ60.out; have := HJ72.out; have := HJ84.out; have := HJ89.out; have := HJ116.out; first | omega | exact Nat.le_refl _⟩, ⟨blk_to BK432⟩, ⟨blk_to BK475⟩, ⟨blk_to BK476⟩, ⟨blk_to BK494⟩, ⟨blk_to BK495⟩, ⟨blk_to BK506⟩, ⟨blk_to BK530⟩, ⟨blk_to BK534⟩, ⟨by repeat (first | (with_reducible first | exact HB.out | apply below_alloc | apply pw_below_drewN | apply below_drew1 | refine below_set ?_ GE432.out | refine below_set ?_ GE475.out | refine below_set ?_ GE476.out | refine below_set ?_ GE494.out | refine below_set ?_ GE495.out | refine below_set ?_ GE506.out | refine below_set ?_ GE530.out | refine below_set ?_ GE534.out) | exact HB.out)⟩⟩
  case rest =>
   clear HC247
   (try clear c248); (try clear c250)
   (try clear c251); (try clear c283); (try clear hcz260_0); (try clear hcz260_1); (try clear hcz267_0); (try clear hcz267_1); (try clear hcz275_0); (try clear hcz275_1); (try clear hcz282_0); (try clear hcz282_1); (try clear hcz292_0); (try clear hcz292_1); (try clear hcz299_0); (try clear hcz299_1); (try clear hfz260_0); (try clear hfz260_1); (try clear hfz267_0); (try clear hfz267_1); (try clear hfz275_0); (try clear hfz275_1); (try clear hfz282_0); (try clear hfz282_1); (try clear hfz292_0); (try clear hfz292_1); (try clear hfz299_0); (try clear hfz299_1)
   obtain ⟨kq, x592_246, rfl, HA, HJ246, BK432, BK475, BK476, BK494, BK495, BK506, BK530, BK534, HB⟩ := hcut
   cases kq with
   | zero => exact absurd HA.out (by simp [laws_FnTrainsPass.j6])
   | succ kj246 =>
    have H := HA.out
    clear HA
    simp only [laws_FnTrainsPass.j6] at H
    by_cases c300 : x592_246 = true
    ·subst c300
     have H1 : (some false) = some r := by rw [if_pos rfl] at H; exact H
     clear H
     have H := H1
     clear H1
     exact absurd (Option.some.inj H).symm (by rw [HR_.out]; decide)
    ·replace c300 := Bool.eq_false_iff.mpr c300
     subst c300
     have H1 : (if t498 = true then (if (wrap64 (t490 - t492)) < 0 then (laws_FnTrainsPass.j7 kj246 t493 t496 t497 t504 t505 t507 t508 t509 t513 t514 t515 t516 t517 t518 t519 t520 t526 t529 (wrap64 (-(wrap64 (t490 - t492)))) t489 t490 t491 t492 t502 t503 t527 t528) else (laws_FnTrainsPass.j7 kj246 t493 t496 t497 t504 t505 t507 t508 t509 t513 t514 t515 t516 t517 t518 t519 t520 t526 t529 (wrap64 (t490 - t492)) t489 t490 t491 t492 t502 t503 t527 t528)) else (laws_FnTrainsPass.j8 kj246 t504 t505 t507 t508 t509 t513 t514 t515 t516 t517 t518 t519 t520 t526 t529 t502 t503 t527 t528)) = some r := by rw [if_neg (show ¬ (false = true) by decide)] at H; exact H
     clear H
     have H := H1
     clear H1
     have HC301 := Aside0.mk H
     clear H
     go_step
     go_step
     go_step
     go_step
     go_step
     exact laws_FnTrainsPass.seg5 k r w HTab_ HR_ hu25 t429 t430 gb432 w16 GW432 GE432 hcz17_0 hcz17_1 hfz17_0 hfz17_1 w18 hcz19_0 hcz19_1 hfz19_0 hfz19_1 w20 hcz21_0 hcz21_1 hfz21_0 hfz21_1 w22 hcz23_0 hcz23_1 hfz23_0 hfz23_1 w24 hcz25_0 hcz25_1 hfz25_0 hfz25_1 w26 hcz27_0 hcz27_1 hfz27_0 hfz27_1 w28 hcz29_0 hcz29_1 hfz29_0 hfz29_1 w30 hcz31_0 hcz31_1 hfz31_0 hfz31_1 kj13 HJ13 kj60 HJ60 kj72 HJ72 kj84 HJ84 u4 kj89 HJ89 t471 t472 t473 t474 t489 t490 t491 t492 t493 t496 t497 t498 t502 t503 t504 t505 t507 t508 t509 t513 t514 t515 t516 t517 t518 t519 t520 t526 t527 t528 t529 t531 t532 gb475 GW475 GE475 gb476 GW476 GE476 hnb121 hnc121 hnb122 hnc122 hnb124 hnc124 gb494 GW494 GE494 NB432_494 NB494_432 NB475_494 NB494_475 NB476_494 NB494_476 gb495 GW495 GE495 NB432_495 NB495_432 NB475_495 NB495_475 NB476_495 NB495_476 NB494_495 NB495_494 hnb139 hnc139 hnb140 hnc140 hnb141 hnc141 hnb142 hnc142 hnb144 hnc144 hnb145 hnc145 hnb146 hnc146 gb506 GW506 GE506 NB432_506 NB506_432 NB475_506 NB506_475 NB476_506 NB506_476 NB494_506 NB506_494 NB495_506 NB506_495 hnb154 hnc154 hnb155 hnc155 hnb156 hnc156 hnb157 hnc157 hnb158 hnc158 nd gb530 GW530 GE530 NB432_530 NB530_432 NB475_530 NB530_475 NB476_530 NB530_476 NB494_530 NB530_494 NB495_530 NB530_495 NB506_530 NB530_506 hnb168 hnc168 hnb169 hnc169 hnb170 hnc170 hnb171 hnc171 hnb172 hnc172 hnb173 hnc173 gb534 GW534 GE534 NB494_534 NB534_494 NB495_534 NB534_495 NB506_534 NB534_506 NB530_534 NB534_530 hnb177 hnc177 hnb178 hnc178 hnb179 hnc179 hnb180 hnc180 hnb181 hnc181 hnb182 hnc182 hnb183 hnc183 kj116 HJ116 wc BK432 BK475 BK476 BK494 BK495 BK506 BK530 BK534 HB kj246 HJ246 HC301
end Go.Proofs.YtnbmplhcbliclaaGreatDoor.QT
