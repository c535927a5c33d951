-- WRITTEN BY a program of this session (wip/xprint.py, over the kit's print): Lean checks it.
import Derived.Test.YtnbmplhcbliclaaQPx9d
namespace Go.Proofs.Ytnbmplhcbliclaa.QP
open Go.Proofs.Ytnbmplhcbliclaa.X Go.RowKit Go.Proofs.YtnbmplhcbliclaaW.PrintWords Go.Proofs.YtnbmplhcbliclaaW.PrintLast Go.Proofs.YtnbmplhcbliclaaW.PrintMore
attribute [local go_sem] max2_int min2_int max_two min_two max_three min_three max_four min_four   -- for this text's walks alone
set_option linter.unusedVariables false
set_option linter.unusedSimpArgs false

set_option maxHeartbeats 16000000 in
set_option maxRecDepth 1000000 in
theorem laws_FnTrainsMeet.seg6 {v0_ v1_ v2_ v3_ v5_ v6_ v7_ v8_ v9_ v10_ v11_ v12_ v13_ v14_ v15_ v16_ v17_ v18_ v19_ v20_ v21_ v22_ v23_ v24_ v25_ v26_ v27_ v28_ v29_ v30_ v31_ v32_ v33_ v34_ v35_ v36_ v37_ v38_ v39_ v40_ v41_ v42_ v43_ v44_ v45_ v46_ v47_ v48_ v49_ v50_ v51_ v52_ v53_ v54_ v55_ v56_ v57_ v62_ v63_ v65_ v66_ v67_ v68_ v69_ v70_ v71_ v72_ v73_ v79_ v81_ v82_ v83_ v84_ v85_ v86_ v87_ v88_ v89_ v90_ v91_ v92_ v93_ v94_ v95_ v96_ v97_ v98_ v99_ v100_ v101_ v102_ v103_ v104_ v105_ v106_ v107_ v108_ v109_ v110_ v111_ v112_ v113_ v114_ v115_ v116_ v117_ v118_ v119_ v120_ v121_ v122_ v123_ v124_ v125_ v126_ v127_ v128_ v129_ v130_ v131_ v132_ v133_ v134_ v135_ v136_ v137_ v138_ v139_ v140_ v141_ v142_ v143_ v144_ v145_ v146_ v147_ v148_ v149_ v150_ v151_ v152_ v153_ v154_ v155_ v156_ v157_ v158_ v159_ v160_ v161_ v162_ v163_ v164_ v165_ v166_ v167_ v168_ v169_ v170_ v171_ v172_ v173_ v174_ v175_ v176_ v177_ v178_ v179_ v180_ v181_ v182_ v183_ v184_ v185_ v186_ v187_ v188_ v189_ v190_ v191_ v192_ v193_ v194_ v195_ v196_ v197_ v198_ v199_ v200_ v201_ v202_ v203_ v204_ v205_ v206_ v207_ v208_ v209_ v210_ v211_ v212_ v213_ v214_ v215_ v216_ v217_ v218_ v219_ v220_ v221_ v222_ v223_ v224_ v225_ v226_ v227_ v228_ v229_ v230_ v231_ v232_ v233_ v234_ v235_ v236_ v237_ v238_ v239_ v240_ v241_ v242_ v243_ v244_ v245_ v246_ v247_ v248_ v249_ v250_ v251_ v252_ v253_ v254_ v255_ v256_ v257_ v258_ v259_ v260_ v261_ v262_ v263_ v264_ v265_ v266_ v267_ v268_ v269_ v270_ v271_ v272_ v273_ v274_ v275_ v276_ v277_ v278_ v279_ v280_ v281_ v282_ v283_ v284_ v285_ v286_ v287_ v288_ v289_ v290_ v291_ v292_ v293_ v294_ v295_ v296_ v297_ v298_ v299_ v300_ v301_ v302_ v303_ v304_ v305_ v306_ v307_ v308_ v309_ v310_ v311_ v312_ v313_ v314_ v315_ v316_ v317_ v318_ v319_ v320_ v321_ v322_ v323_ v324_ v325_ v326_ v327_ v328_ v329_ v330_ v331_ v332_ v333_ v334_ v335_ v336_ v337_ v338_ v339_ v340_ v341_ v342_ v343_ v344_ v345_ v346_ v347_ v348_ v349_ v350_ v351_ v352_ v353_ v354_ v355_ v356_ v357_ v358_ v359_ v360_ v361_ v362_ v363_ v364_ v365_ v366_ v367_ v368_ v369_ v370_ v371_ v372_ v373_ v374_ v375_ v376_ v377_ v378_ v379_ v380_ v381_ v382_ v383_ v384_ v385_ v386_ v387_ v388_ v389_ v390_ v391_ v392_ v393_ v394_ v395_ v396_ v397_ v398_ v399_ v400_ v401_ v402_ v403_ v404_ v405_ v406_ v407_ v408_ v409_ v410_ v411_ v412_ v413_ v414_ v415_ v416_ v417_ v418_ v419_ v420_ v421_ v422_ v423_ v424_ v425_ v426_ v427_ v428_ v429_ v430_ v431_ v432_ v433_ v434_ v435_ v436_ v437_ v438_ v439_ v440_ v441_ v442_ v443_ v444_ v445_ v446_ v447_ v448_ v449_ v450_ v451_ v452_ v453_ v454_ v455_ v456_ v457_ v458_ v459_ v460_ v461_ v462_ v463_ v464_ v465_ v466_ v467_ v468_ v469_ v470_ v471_ v472_ v473_ v474_ v475_ v476_ v477_ v478_ v479_ v480_ v481_ v482_ v483_ v484_ v485_ v486_ v487_ v488_ v489_ v490_ v491_ v492_ v493_ v494_ v495_ v496_ v497_ v498_ v499_ v500_ v501_ v502_ v503_ v504_ v505_ v506_ v507_ v508_ v509_ v510_ v511_ v512_ v513_ v514_ v515_ v516_ v517_ v518_ v519_ v520_ v521_ v522_ v523_ v524_ v525_ v526_ v527_ v528_ v529_ v530_ v531_ v532_ v533_ v534_ v535_ v536_ v537_ v538_ v539_ v540_ v541_ v542_ v543_ v544_ v545_ v546_ v547_ v548_ v549_ v550_ v551_ v552_ v553_ v554_ v555_ v556_ v557_ v558_ v559_ v560_ v561_ v562_ v563_ v564_ v565_ v566_ v567_ v568_ v569_ v570_ v571_ v572_ v573_ v574_ v575_ v576_ v577_ v578_ v579_ v580_ v581_ v582_ v583_ v584_ v585_ v586_ v587_ v588_ v589_ v590_ v591_ v592_ v593_ v594_ v595_ v596_ v597_ v598_ v599_ v600_ v601_ v602_ v603_ v604_ v605_ v606_ v607_ v608_ v609_ v610_ v611_ v612_ v613_ v614_ v615_ v616_ v617_ v618_ v619_ v620_ v621_ v622_ v623_ v624_ v625_ v626_ v627_ v628_ v629_ : Go.Value} (k : Nat) (l0 l1 : List Int) (r : Bool) (w : World) (HR_ : Aside0 (r = Bool.true)) (hu23 : Program.underlying Try.prog (23 : Nat) = Option.some (TypeDesc.struct #[Field.mk "Length" (3 : Nat) (0 : Nat) Bool.false "" "" (0 : Nat), Field.mk "Rate" (3 : Nat) (1 : Nat) Bool.false "" "" (8 : Nat)])) (t413 t414 t415 t416 : Int) (gb418 : Nat) (GW418 GE418 : Aside0 (Array.size (World.heap w) ≤ gb418)) (gb419 : Nat) (GW419 GE419 : Aside0 (Array.size (World.heap w) ≤ gb419)) (hnb16 : gb418 ≠ gb419) (hnc16 : gb419 ≠ gb418) (kj11 : Nat) (HJ11 : Aside0 (kj11 + (1 : Nat) ≤ k)) (kj52 : Nat) (HJ52 : Aside0 (kj52 + (1 : Nat) ≤ kj11)) (kj69 : Nat) (HJ69 : Aside0 (kj69 + (1 : Nat) ≤ kj52)) (kj119 : Nat) (HJ119 : Aside0 (kj119 + (1 : Nat) ≤ kj69)) (t475 : List S23) (t476 : Int) (t479 : List Int) (t487 : Bool) (nd : Nat) (Ao156 : Option Addr) (co156 kj150 : Nat) (HJ150 : Aside0 (kj150 + (1 : Nat) ≤ kj119)) (u4 : Value) (kj173 : Nat) (HJ173 : Aside0 (kj173 + (1 : Nat) ≤ kj150)) (wc : World) (HO_58 : Aside0 (Kd.R k23 (23 : Nat) wc (Array.size (World.heap w)) (fun k_ => k_ ≠ gb418 ∧ k_ ≠ gb419) (Value.slice Ao156 (List.length t475) co156) t475)) (BK418 : Aside0 ((World.heap wc)[gb418]? = Option.some (Obj.cells #[Value.int IntKind.i64 t413, Value.int IntKind.i64 t414] (23 : TypeId)))) (BK419 : Aside0 ((World.heap wc)[gb419]? = Option.some (Obj.cells #[Value.int IntKind.i64 t415, Value.int IntKind.i64 t416] (23 : TypeId)))) (HB : Aside0 (Below (Array.size (World.heap w)) w wc)) (kj191 : Nat) (HJ191 : Aside0 (kj191 + (1 : Nat) ≤ kj173)) (H' : Aside0 (laws_FnTrainsMeet.l0 kj191 t475 t476 t479 t487 (0 : Int) t479 (↑(List.length t479) : Int) (0 : Int) = Option.some r)) (Ao197 : Option Addr) (co197 : Nat) (HO_60 : Aside0 (Kd.R (Kd.int IntKind.i64) (3 : Nat) wc (Array.size (World.heap w)) (fun x => True) (Value.slice Ao197 (List.length t479) co197) t479)) :
    Go.Code.wp Try.prog (laws_FnTrainsMeet.behind 629 laws_FnTrainsMeet.body) (bodyPost Try.prog Try.f4 (fun e w' => e = .returned (.bool r) ∧ Below w.heap.size w w')) (Go.Act.mk #[v0_, v1_, v2_, v3_, u4, v5_, v6_, v7_, v8_, v9_, v10_, v11_, v12_, v13_, v14_, v15_, v16_, v17_, v18_, v19_, v20_, v21_, v22_, v23_, v24_, v25_, v26_, v27_, v28_, v29_, v30_, v31_, v32_, v33_, v34_, v35_, v36_, v37_, v38_, v39_, v40_, v41_, v42_, v43_, v44_, v45_, v46_, v47_, v48_, v49_, v50_, v51_, v52_, v53_, v54_, v55_, v56_, v57_, Value.slice Ao156 (List.length t475) co156, Value.int IntKind.i64 t476, Value.slice Ao197 (List.length t479) co197, Value.bool Bool.true, v62_, v63_, Value.bool t487, v65_, v66_, v67_, v68_, v69_, v70_, v71_, v72_, v73_, undef, undef, undef, undef, undef, v79_, undef, v81_, v82_, v83_, v84_, v85_, v86_, v87_, v88_, v89_, v90_, v91_, v92_, v93_, v94_, v95_, v96_, v97_, v98_, v99_, v100_, v101_, v102_, v103_, v104_, v105_, v106_, v107_, v108_, v109_, v110_, v111_, v112_, v113_, v114_, v115_, v116_, v117_, v118_, v119_, v120_, v121_, v122_, v123_, v124_, v125_, v126_, v127_, v128_, v129_, v130_, v131_, v132_, v133_, v134_, v135_, v136_, v137_, v138_, v139_, v140_, v141_, v142_, v143_, v144_, v145_, v146_, v147_, v148_, v149_, v150_, v151_, v152_, v153_, v154_, v155_, v156_, v157_, v158_, v159_, v160_, v161_, v162_, v163_, v164_, v165_, v166_, v167_, v168_, v169_, v170_, v171_, v172_, v173_, v174_, v175_, v176_, v177_, v178_, v179_, v180_, v181_, v182_, v183_, v184_, v185_, v186_, v187_, v188_, v189_, v190_, v191_, v192_, v193_, v194_, v195_, v196_, v197_, v198_, v199_, v200_, v201_, v202_, v203_, v204_, v205_, v206_, v207_, v208_, v209_, v210_, v211_, v212_, v213_, v214_, v215_, v216_, v217_, v218_, v219_, v220_, v221_, v222_, v223_, v224_, v225_, v226_, v227_, v228_, v229_, v230_, v231_, v232_, v233_, v234_, v235_, v236_, v237_, v238_, v239_, v240_, v241_, v242_, v243_, v244_, v245_, v246_, v247_, v248_, v249_, v250_, v251_, v252_, v253_, v254_, v255_, v256_, v257_, v258_, v259_, v260_, v261_, v262_, v263_, v264_, v265_, v266_, v267_, v268_, v269_, v270_, v271_, v272_, v273_, v274_, v275_, v276_, v277_, v278_, v279_, v280_, v281_, v282_, v283_, v284_, v285_, v286_, v287_, v288_, v289_, v290_, v291_, v292_, v293_, v294_, v295_, v296_, v297_, v298_, v299_, v300_, v301_, v302_, v303_, v304_, v305_, v306_, v307_, v308_, v309_, v310_, v311_, v312_, v313_, v314_, v315_, v316_, v317_, v318_, v319_, v320_, v321_, v322_, v323_, v324_, v325_, v326_, v327_, v328_, v329_, v330_, v331_, v332_, v333_, v334_, v335_, v336_, v337_, v338_, v339_, v340_, v341_, v342_, v343_, v344_, v345_, v346_, v347_, v348_, v349_, v350_, v351_, v352_, v353_, v354_, v355_, v356_, v357_, v358_, v359_, v360_, v361_, v362_, v363_, v364_, v365_, v366_, v367_, v368_, v369_, v370_, v371_, v372_, v373_, v374_, v375_, v376_, v377_, v378_, v379_, v380_, v381_, v382_, v383_, v384_, v385_, v386_, v387_, v388_, v389_, v390_, v391_, v392_, v393_, v394_, v395_, v396_, v397_, v398_, v399_, v400_, v401_, v402_, v403_, v404_, v405_, v406_, v407_, v408_, v409_, v410_, v411_, v412_, v413_, v414_, v415_, v416_, v417_, v418_, v419_, v420_, v421_, v422_, v423_, v424_, v425_, v426_, v427_, v428_, v429_, v430_, v431_, v432_, v433_, v434_, v435_, v436_, v437_, v438_, v439_, v440_, v441_, v442_, v443_, v444_, v445_, v446_, v447_, v448_, v449_, v450_, v451_, v452_, v453_, v454_, v455_, v456_, v457_, v458_, v459_, v460_, v461_, v462_, v463_, v464_, v465_, v466_, v467_, v468_, v469_, v470_, v471_, v472_, v473_, v474_, v475_, v476_, v477_, v478_, v479_, v480_, v481_, v482_, v483_, v484_, v485_, v486_, v487_, v488_, v489_, v490_, v491_, v492_, v493_, v494_, v495_, v496_, v497_, v498_, v499_, v500_, v501_, v502_, v503_, v504_, v505_, v506_, v507_, v508_, v509_, v510_, v511_, v512_, v513_, v514_, v515_, v516_, v517_, v518_, v519_, v520_, v521_, v522_, v523_, v524_, v525_, v526_, v527_, v528_, v529_, v530_, v531_, v532_, v533_, v534_, v535_, v536_, v537_, v538_, v539_, v540_, v541_, v542_, v543_, v544_, v545_, v546_, v547_, v548_, v549_, v550_, v551_, v552_, v553_, v554_, v555_, v556_, v557_, v558_, v559_, v560_, v561_, v562_, v563_, v564_, v565_, v566_, v567_, v568_, v569_, v570_, v571_, v572_, v573_, v574_, v575_, v576_, v577_, v578_, v579_, v580_, v581_, v582_, v583_, v584_, v585_, v586_, v587_, v588_, v589_, v590_, v591_, v592_, v593_, v594_, v595_, v596_, v597_, v598_, v599_, v600_, v601_, v602_, v603_, v604_, v605_, v606_, v607_, v608_, v609_, v610_, v611_, v612_, v613_, v614_, v615_, v616_, v617_, v618_, v619_, v620_, v621_, v622_, v623_, v624_, v625_, v626_, v627_, v628_, v629_, undef, undef, undef, undef, undef, undef, undef, undef, undef, undef, undef, undef, undef, undef, undef, undef, undef, undef, undef, undef, undef, undef, undef, undef, undef, undef, undef, undef, undef, undef, undef, undef, undef, undef, undef, undef, undef, undef, undef, undef, undef, undef, undef, undef, undef, undef, undef, undef, undef, undef, undef, undef, undef, undef, undef, undef, undef, undef, undef, undef, undef, undef, undef, undef, undef, undef, undef, undef, undef, undef, undef, undef, undef, undef, undef, undef, undef, undef, undef, undef, undef, undef, undef, undef, undef, undef, undef, undef, undef, undef, undef, undef, undef, undef, undef, undef] []) wc := by
  conv => arg 2; whnf
  (try conv => arg 4; dsimp only)
  go_wp2
  repeat (go_quiet (fail); try go_wp2)
  go_loopg [74, 633] kj191 (fun kq v74 v633 w' => ∃ (x74_8 : Int) (x633_8 : Int), v74 = .int .i64 x74_8 ∧ v633 = .int .i64 x633_8 ∧ Aside0 (laws_FnTrainsMeet.l0 kq t475 t476 t479 t487 x74_8 t479 (t479.length : Int) x633_8 = some r) ∧ Aside0 (kq ≤ kj191) ∧ Aside0 (Kd.R k23 23 w' w.heap.size (fun k_ => k_ ≠ gb418 ∧ k_ ≠ gb419) (.slice Ao156 t475.length co156) t475) ∧ Aside0 (Kd.R (Kd.int .i64) 3 w' w.heap.size (fun _ => True) (.slice Ao197 t479.length co197) t479) ∧ Aside0 (Kd.R (Kd.int .i64) 3 w' w.heap.size (fun _ => True) (.slice Ao197 t479.length co197) t479) ∧ Aside0 (w'.heap[gb418]? = some (.cells #[.int .i64 t413, .int .i64 t414] 23 (0, 0))) ∧ Aside0 (w'.heap[gb419]? = some (.cells #[.int .i64 t415, .int .i64 t416] 23 (0, 0))) ∧ Aside0 (Below w.heap.size w w'))
  case atStart => exact ⟨(0), (0), (by first | rfl | (simp; done) | (simp [*]; done)), (by first | rfl | (simp; done) | (simp [*]; done)), H', ⟨Nat.le_refl _⟩, ⟨by (with_reducible repeat (first | apply Kd.R_alloc | apply Kd.R_drewN | apply Kd.R_drew)); exact HO_58.out⟩, ⟨by (with_reducible repeat (first | apply Kd.R_alloc | apply Kd.R_drewN | apply Kd.R_drew)); exact HO_60.out⟩, ⟨by (with_reducible repeat (first | apply Kd.R_alloc | apply Kd.R_drewN | apply Kd.R_drew)); exact HO_60.out⟩, ⟨by (with_reducible repeat (first | refine blk_drewN ?_ _ | refine blk_drew ?_ | refine blk_alloc ?_ _)); exact BK418.out⟩, ⟨by (with_reducible repeat (first | refine blk_drewN ?_ _ | refine blk_drew ?_ | refine blk_alloc ?_ _)); exact BK419.out⟩, ⟨by repeat (first | (with_reducible first | exact HB.out | apply below_alloc | apply pw_below_drewN | apply below_drew1 | refine below_set ?_ GE418.out | refine below_set ?_ GE419.out) | exact HB.out)⟩⟩
  case round =>
   clear H'
   obtain ⟨x74_8, x633_8, rfl, rfl, HA, HK8, HO_58, HO_60, HO_631, BK418, BK419, HB⟩ := hrel
   cases gk with
   | zero => exact absurd HA.out (by simp [laws_FnTrainsMeet.l0])
   | succ k8 =>
    have H := HA.out
    clear HA
    simp only [laws_FnTrainsMeet.l0] at H
    by_cases c198 : x633_8 < (t479.length : Int)
    ·rw [if_pos c198] at H
     have c198b0 : decide (x633_8 < (t479.length : Int)) = true := decide_eq_true c198
     clear c198
     by_cases c199 : 0 ≤ x633_8
     ·rw [if_pos c199] at H
      have c199b0 : decide (0 ≤ x633_8) = true := decide_eq_true c199
      clear c199
      by_cases c200 : x633_8 < (t479.length : Int)
      ·rw [if_pos c200] at H
       have c200b0 : decide (x633_8 < (t479.length : Int)) = true := decide_eq_true c200
       clear c200
       by_cases c201 : (rd t479 x633_8) < 0
       ·rw [if_pos c201] at H
        have c201b0 : decide ((rd t479 x633_8) < 0) = true := decide_eq_true c201
        clear c201
        exact absurd (Option.some.inj H).symm (by rw [HR_.out]; decide)
       ·rw [if_neg c201] at H
        have c201b0 : decide ((rd t479 x633_8) < 0) = false := decide_eq_false c201
        clear c201
        by_cases c202 : (rd t479 x633_8) ≥ (t475.length : Int)
        ·rw [if_pos c202] at H
         have c202b0 : decide ((t475.length : Int) ≤ (rd t479 x633_8)) = true := decide_eq_true c202
         clear c202
         exact absurd (Option.some.inj H).symm (by rw [HR_.out]; decide)
        ·rw [if_neg c202] at H
         have c202b0 : decide ((t475.length : Int) ≤ (rd t479 x633_8)) = false := decide_eq_false c202
         clear c202
         by_cases c203 : x633_8 > 0
         ·rw [if_pos c203] at H
          have c203b0 : decide (0 < x633_8) = true := decide_eq_true c203
          clear c203
          obtain ⟨ji204, hji204⟩ : ∃ j_ : Int, (wrap64 (x633_8 - 1)) = j_ := ⟨_, rfl⟩
          replace H : (if 0 ≤ (ji204) then (if (ji204) < (t479.length : Int) then (if (rd t479 (ji204)) ≥ (rd t479 x633_8) then (some false) else (if 0 ≤ (rd t479 x633_8) then (if (rd t479 x633_8) < (t475.length : Int) then (laws_FnTrainsMeet.l0 k8 t475 t476 t479 t487 (wrap64 (x74_8 + ((rd_T23 t475 (rd t479 x633_8)).f0))) t479 (t479.length : Int) (wrap64 (x633_8 + 1))) else (none)) else (none))) else (none)) else (none)) = some r := by first | (rw [hji204] at H; exact H) | (simp only [hji204] at H ⊢; exact H)
          have hji204w : (IntKind.i64.wrap (x633_8 - 1)) = ji204 := (i64_w _).trans hji204
          by_cases c205 : 0 ≤ (ji204)
          ·rw [if_pos c205] at H
           have c205b0 : decide (0 ≤ (ji204)) = true := decide_eq_true c205
           clear c205
           by_cases c206 : (ji204) < (t479.length : Int)
           ·rw [if_pos c206] at H
            have c206b0 : decide ((ji204) < (t479.length : Int)) = true := decide_eq_true c206
            clear c206
            by_cases c207 : (rd t479 (ji204)) ≥ (rd t479 x633_8)
            ·rw [if_pos c207] at H
             have c207b0 : decide ((rd t479 x633_8) ≤ (rd t479 (ji204))) = true := decide_eq_true c207
             clear c207
             exact absurd (Option.some.inj H).symm (by rw [HR_.out]; decide)
            ·rw [if_neg c207] at H
             have c207b0 : decide ((rd t479 x633_8) ≤ (rd t479 (ji204))) = false := decide_eq_false c207
             clear c207
             by_cases c208 : 0 ≤ (rd t479 x633_8)
             ·rw [if_pos c208] at H
              have c208b0 : decide (0 ≤ (rd t479 x633_8)) = true := decide_eq_true c208
              clear c208
              by_cases c209 : (rd t479 x633_8) < (t475.length : Int)
              ·rw [if_pos c209] at H
               have c209b0 : decide ((rd t479 x633_8) < (t475.length : Int)) = true := decide_eq_true c209
               clear c209
               have H' := Aside0.mk H
               clear H
               have p498 : 0 ≤ (x633_8 : Int) := of_decide_eq_true (by first | (with_reducible assumption) | assumption)
               have q498 : x633_8 < (t479.length : Int) := of_decide_eq_true (by first | (with_reducible assumption) | assumption)
               obtain ⟨ad498, e498, hx498_0⟩ := Kd.at_int (Kd.R_reads' HO_631.out).2.2 x633_8 p498 q498
               cases e498
               replace p498 := eq_true p498
               replace q498 := eq_true q498
               have p499 : 0 ≤ ((ji204) : Int) := of_decide_eq_true (by first | (with_reducible assumption) | assumption)
               have q499 : (ji204) < (t479.length : Int) := of_decide_eq_true (by first | (with_reducible assumption) | assumption)
               obtain ⟨ad499, e499, hx499_0⟩ := Kd.at_int (Kd.R_reads' HO_60.out).2.2 (ji204) p499 q499
               obtain rfl : ad498 = ad499 := (by injection e499)
               replace p499 := eq_true p499
               replace q499 := eq_true q499
               have p500 : 0 ≤ ((rd t479 x633_8) : Int) := of_decide_eq_true (by first | (with_reducible assumption) | assumption)
               have q500 : (rd t479 x633_8) < (t475.length : Int) := of_decide_eq_true (by first | (with_reducible assumption) | assumption)
               obtain ⟨ad500, e500, hx500_0, hx500_1⟩ := at_T23 (Kd.R_reads' HO_58.out).2.2 (rd t479 x633_8) p500 q500
               cases e500
               replace p500 := eq_true p500
               replace q500 := eq_true q500
               go_wp2
               repeat (go_quiet (fail); try go_wp2)
               go_roundg k8
               case measure => have := HJ11.out; have := HJ52.out; have := HJ69.out; have := HJ119.out; have := HJ150.out; have := HJ173.out; have := HJ191.out; have := HK8.out; omega
               case rel => exact ⟨(wrap64 (x74_8 + ((rd_T23 t475 (rd t479 x633_8)).f0))), (wrap64 (x633_8 + 1)), (by first | rfl | (simp; done) | (simp [*]; done)), (by first | rfl | (simp; done) | (simp [*]; done)), H', ⟨by have := HJ11.out; have := HJ52.out; have := HJ69.out; have := HJ119.out; have := HJ150.out; have := HJ173.out; have := HJ191.out; have := HK8.out; omega⟩, ⟨by (with_reducible repeat (first | apply Kd.R_alloc | apply Kd.R_drewN | apply Kd.R_drew)); exact HO_58.out⟩, ⟨by (with_reducible repeat (first | apply Kd.R_alloc | apply Kd.R_drewN | apply Kd.R_drew)); exact HO_60.out⟩, ⟨by (with_reducible repeat (first | apply Kd.R_alloc | apply Kd.R_drewN | apply Kd.R_drew)); exact HO_631.out⟩, ⟨by (with_reducible repeat (first | refine blk_drewN ?_ _ | refine blk_drew ?_ | refine blk_alloc ?_ _)); exact BK418.out⟩, ⟨by (with_reducible repeat (first | refine blk_drewN ?_ _ | refine blk_drew ?_ | refine blk_alloc ?_ _)); exact BK419.out⟩, ⟨by repeat (first | (with_reducible first | exact HB.out | apply below_alloc | apply pw_below_drewN | apply below_drew1 | refine below_set ?_ GE418.out | refine below_set ?_ GE419.out) | exact HB.out)⟩⟩
              ·rw [if_neg c209] at H
               exact absurd H (by simp)
             ·rw [if_neg c208] at H
              exact absurd H (by simp)
           ·rw [if_neg c206] at H
            exact absurd H (by simp)
          ·rw [if_neg c205] at H
           exact absurd H (by simp)
         ·rw [if_neg c203] at H
          have c203b0 : decide (0 < x633_8) = false := decide_eq_false c203
          clear c203
          by_cases c210 : 0 ≤ (rd t479 x633_8)
          ·rw [if_pos c210] at H
           have c210b0 : decide (0 ≤ (rd t479 x633_8)) = true := decide_eq_true c210
           clear c210
           by_cases c211 : (rd t479 x633_8) < (t475.length : Int)
           ·rw [if_pos c211] at H
            have c211b0 : decide ((rd t479 x633_8) < (t475.length : Int)) = true := decide_eq_true c211
            clear c211
            have H' := Aside0.mk H
            clear H
            have p498 : 0 ≤ (x633_8 : Int) := of_decide_eq_true (by first | (with_reducible assumption) | assumption)
            have q498 : x633_8 < (t479.length : Int) := of_decide_eq_true (by first | (with_reducible assumption) | assumption)
            obtain ⟨ad498, e498, hx498_0⟩ := Kd.at_int (Kd.R_reads' HO_631.out).2.2 x633_8 p498 q498
            cases e498
            replace p498 := eq_true p498
            replace q498 := eq_true q498
            have p501 : 0 ≤ ((rd t479 x633_8) : Int) := of_decide_eq_true (by first | (with_reducible assumption) | assumption)
            have q501 : (rd t479 x633_8) < (t475.length : Int) := of_decide_eq_true (by first | (with_reducible assumption) | assumption)
            obtain ⟨ad501, e501, hx501_0, hx501_1⟩ := at_T23 (Kd.R_reads' HO_58.out).2.2 (rd t479 x633_8) p501 q501
            cases e501
            replace p501 := eq_true p501
            replace q501 := eq_true q501
            go_wp2
            repeat (go_quiet (fail); try go_wp2)
            go_roundg k8
            case measure => have := HJ11.out; have := HJ52.out; have := HJ69.out; have := HJ119.out; have := HJ150.out; have := HJ173.out; have := HJ191.out; have := HK8.out; omega
            case rel => exact ⟨(wrap64 (x74_8 + ((rd_T23 t475 (rd t479 x633_8)).f0))), (wrap64 (x633_8 + 1)), (by first | rfl | (simp; done) | (simp [*]; done)), (by first | rfl | (simp; done) | (simp [*]; done)), H', ⟨by have := HJ11.out; have := HJ52.out; have := HJ69.out; have := HJ119.out; have := HJ150.out; have := HJ173.out; have := HJ191.out; have := HK8.out; omega⟩, ⟨by (with_reducible repeat (first | apply Kd.R_alloc | apply Kd.R_drewN | apply Kd.R_drew)); exact HO_58.out⟩, ⟨by (with_reducible repeat (first | apply Kd.R_alloc | apply Kd.R_drewN | apply Kd.R_drew)); exact HO_60.out⟩, ⟨by (with_reducible repeat (first | apply Kd.R_alloc | apply Kd.R_drewN | apply Kd.R_drew)); exact HO_631.out⟩, ⟨by (with_reducible repeat (first | refine blk_drewN ?_ _ | refine blk_drew ?_ | refine blk_alloc ?_ _)); exact BK418.out⟩, ⟨by (with_reducible repeat (first | refine blk_drewN ?_ _ | refine blk_drew ?_ | refine blk_alloc ?_ _)); exact BK419.out⟩, ⟨by repeat (first | (with_reducible first | exact HB.out | apply below_alloc | apply pw_below_drewN | apply below_drew1 | refine below_set ?_ GE418.out | refine below_set ?_ GE419.out) | exact HB.out)⟩⟩
           ·rw [if_neg c211] at H
            exact absurd H (by simp)
          ·rw [if_neg c210] at H
           exact absurd H (by simp)
      ·rw [if_neg c200] at H
       exact absurd H (by simp)
     ·rw [if_neg c199] at H
      exact absurd H (by simp)
    ·rw [if_neg c198] at H
     have c198b0 : decide (x633_8 < (t479.length : Int)) = false := decide_eq_false c198
     clear c198
     have HC212 := Aside0.mk H
     clear H
     go_upto_region 57 with (fail)
     repeat (go_quiet (fail); go_upto_region 57 with (fail))
     go_cut [678] from 100000 (fun v678 wc => ∃ (kq : Nat) (x678_211 : Bool), v678 = .bool x678_211 ∧ Aside0 (laws_FnTrainsMeet.j10 kq t475 t476 t479 x74_8 x678_211 = some r) ∧ Aside0 (kq ≤ k8) ∧ Aside0 (Kd.R k23 23 wc w.heap.size (fun k_ => k_ ≠ gb418 ∧ k_ ≠ gb419) (.slice Ao156 t475.length co156) t475) ∧ Aside0 (Kd.R (Kd.int .i64) 3 wc w.heap.size (fun _ => True) (.slice Ao197 t479.length co197) t479) ∧ Aside0 (wc.heap[gb418]? = some (.cells #[.int .i64 t413, .int .i64 t414] 23 (0, 0))) ∧ Aside0 (wc.heap[gb419]? = some (.cells #[.int .i64 t415, .int .i64 t416] 23 (0, 0))) ∧ Aside0 (Below w.heap.size w wc))
     case first =>
      (try conv => arg 2; dsimp only [List.append_eq, List.cons_append, List.nil_append])
      have H := HC212.out
      clear HC212
      by_cases c213 : x74_8 > t476
      ·rw [if_pos c213] at H
       have c213b0 : decide (t476 < x74_8) = true := decide_eq_true c213
       clear c213
       (first | rw [c213b0] | (simp only [i64_w, i32_w]; rw [c213b0]) | skip)
       exact absurd H (by rw [HR_.out]; cases k8 <;> simp [laws_FnTrainsMeet.j10])
      ·rw [if_neg c213] at H
       have c213b0 : decide (t476 < x74_8) = false := decide_eq_false c213
       clear c213
       (first | rw [c213b0] | (simp only [i64_w, i32_w]; rw [c213b0]) | skip)
       have H' := Aside0.mk H
       clear H
       go_wp2
       repeat (go_quiet (fail); try go_wp2)
       go_meet
       case rel => exact ⟨_, ((t487 != ((t479.length : Int) == (t475.length : Int)))), (by first | rfl | (simp; done) | (simp [*]; done)), H', ⟨by have := HJ11.out; have := HJ52.out; have := HJ69.out; have := HJ119.out; have := HJ150.out; have := HJ173.out; have := HJ191.out; have := HK8.out; first | omega | exact Nat.le_refl _⟩, ⟨by (with_reducible repeat (first | apply Kd.R_alloc | apply Kd.R_drewN | apply Kd.R_drew)); exact HO_58.out⟩, ⟨by (with_reducible repeat (first | apply Kd.R_alloc | apply Kd.R_drewN | apply Kd.R_drew)); exact HO_60.out⟩, ⟨by (with_reducible repeat (first | refine blk_drewN ?_ _ | refine blk_drew ?_ | refine blk_alloc ?_ _)); exact BK418.out⟩, ⟨by (with_reducible repeat (first | refine blk_drewN ?_ _ | refine blk_drew ?_ | refine blk_alloc ?_ _)); exact BK419.out⟩, ⟨by repeat (first | (with_reducible first | exact HB.out | apply below_alloc | apply pw_below_drewN | apply below_drew1 | refine below_set ?_ GE418.out | refine below_set ?_ GE419.out) | exact HB.out)⟩⟩
     case rest =>
      clear HC212
      (try clear c198); (try clear c198b0); (try clear c199); (try clear c199b0); (try clear c200); (try clear c200b0); (try clear c201); (try clear c201b0); (try clear c202); (try clear c202b0); (try clear c203); (try clear c203b0); (try clear c205); (try clear c205b0)
      (try clear c206); (try clear c206b0); (try clear c207); (try clear c207b0); (try clear c208); (try clear c208b0); (try clear c209); (try clear c209b0); (try clear c210); (try clear c210b0); (try clear c211); (try clear c211b0); (try clear c213); (try clear c213b0); (try clear hx498_0); (try clear hx499_0); (try clear hx500_0); (try clear hx500_1); (try clear hx501_0); (try clear hx501_1); (try clear p498); (try clear p499)
      (try clear p500); (try clear p501); (try clear q498); (try clear q499); (try clear q500); (try clear q501)
      obtain ⟨kq, x678_211, rfl, HA, HJ211, HO_58, HO_60, BK418, BK419, HB⟩ := hcut
      cases kq with
      | zero => exact absurd HA.out (by simp [laws_FnTrainsMeet.j10])
      | succ kj211 =>
       have H := HA.out
       clear HA
       simp only [laws_FnTrainsMeet.j10] at H
       by_cases c214 : x678_211 = true
       ·subst c214
        have H1 : (some false) = some r := by rw [if_pos rfl] at H; exact H
        clear H
        have H := H1
        clear H1
        exact absurd (Option.some.inj H).symm (by rw [HR_.out]; decide)
       ·replace c214 := Bool.eq_false_iff.mpr c214
        subst c214
        have H1 : (laws_FnTrainsMeet.l1 kj211 t475 t476 t479 x74_8 t475 (t475.length : Int) 0) = some r := by rw [if_neg (show ¬ (false = true) by decide)] at H; exact H
        clear H
        have H := H1
        clear H1
        have H' := Aside0.mk H
        clear H
        go_wp2
        repeat (go_quiet (fail); try go_wp2)
        go_loopg [681] kj211 (fun kq v681 w' => ∃ (x681_10 : Int), v681 = .int .i64 x681_10 ∧ Aside0 (laws_FnTrainsMeet.l1 kq t475 t476 t479 x74_8 t475 (t475.length : Int) x681_10 = some r) ∧ Aside0 (kq ≤ kj211) ∧ Aside0 (Kd.R k23 23 w' w.heap.size (fun k_ => k_ ≠ gb418 ∧ k_ ≠ gb419) (.slice Ao156 t475.length co156) t475) ∧ Aside0 (Kd.R (Kd.int .i64) 3 w' w.heap.size (fun _ => True) (.slice Ao197 t479.length co197) t479) ∧ Aside0 (Kd.R k23 23 w' w.heap.size (fun k_ => k_ ≠ gb418 ∧ k_ ≠ gb419) (.slice Ao156 t475.length co156) t475) ∧ Aside0 (w'.heap[gb418]? = some (.cells #[.int .i64 t413, .int .i64 t414] 23 (0, 0))) ∧ Aside0 (w'.heap[gb419]? = some (.cells #[.int .i64 t415, .int .i64 t416] 23 (0, 0))) ∧ Aside0 (Below w.heap.size w w'))
        case atStart => exact ⟨(0), (by first | rfl | (simp; done) | (simp [*]; done)), H', ⟨Nat.le_refl _⟩, ⟨by (with_reducible repeat (first | apply Kd.R_alloc | apply Kd.R_drewN | apply Kd.R_drew)); exact HO_58.out⟩, ⟨by (with_reducible repeat (first | apply Kd.R_alloc | apply Kd.R_drewN | apply Kd.R_drew)); exact HO_60.out⟩, ⟨by (with_reducible repeat (first | apply Kd.R_alloc | apply Kd.R_drewN | apply Kd.R_drew)); exact HO_58.out⟩, ⟨by (with_reducible repeat (first | refine blk_drewN ?_ _ | refine blk_drew ?_ | refine blk_alloc ?_ _)); exact BK418.out⟩, ⟨by (with_reducible repeat (first | refine blk_drewN ?_ _ | refine blk_drew ?_ | refine blk_alloc ?_ _)); exact BK419.out⟩, ⟨by repeat (first | (with_reducible first | exact HB.out | apply below_alloc | apply pw_below_drewN | apply below_drew1 | refine below_set ?_ GE418.out | refine below_set ?_ GE419.out) | exact HB.out)⟩⟩
        case round =>
         clear H'
         (try clear c198); (try clear c198b0); (try clear c199); (try clear c199b0); (try clear c200); (try clear c200b0); (try clear c201); (try clear c201b0); (try clear c202); (try clear c202b0); (try clear c203); (try clear c203b0); (try clear c205); (try clear c205b0)
         (try clear c206); (try clear c206b0); (try clear c207); (try clear c207b0); (try clear c208); (try clear c208b0); (try clear c209); (try clear c209b0); (try clear c210); (try clear c210b0); (try clear c211); (try clear c211b0); (try clear c213); (try clear c213b0); (try clear c214); (try clear hx498_0); (try clear hx499_0); (try clear hx500_0); (try clear hx500_1); (try clear hx501_0); (try clear hx501_1)
         (try clear p498); (try clear p499); (try clear p500); (try clear p501); (try clear q498); (try clear q499); (try clear q500); (try clear q501)
         obtain ⟨x681_10, rfl, HA, HK10, HO_58, HO_60, HO_679, BK418, BK419, HB⟩ := hrel
         cases gk with
         | zero => exact absurd HA.out (by simp [laws_FnTrainsMeet.l1])
         | succ k10 =>
          have H := HA.out
          clear HA
          simp only [laws_FnTrainsMeet.l1] at H
          by_cases c215 : x681_10 < (t475.length : Int)
          ·rw [if_pos c215] at H
           have c215b0 : decide (x681_10 < (t475.length : Int)) = true := decide_eq_true c215
           clear c215
           by_cases c216 : 0 ≤ x681_10
           ·rw [if_pos c216] at H
            have c216b0 : decide (0 ≤ x681_10) = true := decide_eq_true c216
            clear c216
            by_cases c217 : x681_10 < (t475.length : Int)
            ·rw [if_pos c217] at H
             have c217b0 : decide (x681_10 < (t475.length : Int)) = true := decide_eq_true c217
             clear c217
             replace H := Option.bind_eq_some_iff.mp H
             obtain ⟨t504, A2180, H⟩ := H
             (try dsimp only at H)
             have A218 := Aside0.mk A2180
             clear A2180
             by_cases c219 : t504 = true
             ·subst c219
              have H1 : (laws_FnTrainsMeet.l1 k10 t475 t476 t479 x74_8 t475 (t475.length : Int) (wrap64 (x681_10 + 1))) = some r := by rw [if_pos rfl] at H; exact H
              clear H
              have H := H1
              clear H1
              have H' := Aside0.mk H
              clear H
              have p502 : 0 ≤ (x681_10 : Int) := of_decide_eq_true (by first | (with_reducible assumption) | assumption)
              have q502 : x681_10 < (t475.length : Int) := of_decide_eq_true (by first | (with_reducible assumption) | assumption)
              obtain ⟨ad502, e502, hx502_0, hx502_1⟩ := at_T23 (Kd.R_reads' HO_679.out).2.2 x681_10 p502 q502
              cases e502
              replace p502 := eq_true p502
              replace q502 := eq_true q502
              go_wp2_with (first | ((with_reducible refine gate_dst (N := 78) rfl ?_); (try (refine gate_guard (by rfl) ?_; dsimp only)); refine box_event ?hg (N := 78) ?hd (cs := #[.int .i64 0, .int .i64 0]) (t := 23) ?hr ?_; (case hd => rfl); (case hg => rfl); (case hr => first | (go_simp; done) | (go_simp; rfl)); intro gb503 hg w220 hbox hb; have n0_ := Aside0.mk (Kd.R_below (Kd.R_elderB (kd_to HO_58) gb503 (Nat.le_of_eq hg.symm)) hb); have n1_ := Aside0.mk (Kd.R_below (kd_to HO_60) hb); have n2_ := Aside0.mk (Kd.R_below (Kd.R_elderB (kd_to HO_679) gb503 (Nat.le_of_eq hg.symm)) hb); have n3_ := Aside0.mk (blk_below (g := gb418) (o := .cells #[.int .i64 t413, .int .i64 t414] 23 (0, 0)) (by (with_reducible repeat (first | refine blk_drewN ?_ _ | refine blk_drew ?_ | refine blk_alloc ?_ _)); exact BK418.out) hb); have n4_ := Aside0.mk (blk_below (g := gb419) (o := .cells #[.int .i64 t415, .int .i64 t416] 23 (0, 0)) (by (with_reducible repeat (first | refine blk_drewN ?_ _ | refine blk_drew ?_ | refine blk_alloc ?_ _)); exact BK419.out) hb); have n5_ := Aside0.mk (below_step (by repeat (first | (with_reducible first | exact HB.out | apply below_alloc | apply pw_below_drewN | apply below_drew1 | refine below_set ?_ GE418.out | refine below_set ?_ GE419.out) | exact HB.out)) hb); have n6_ := Aside0.mk (hbox); have n7_ := Aside0.mk ((by rw [hg]; exact (below_size (by repeat (first | (with_reducible first | exact HB.out | apply below_alloc | apply pw_below_drewN | apply below_drew1 | refine below_set ?_ GE418.out | refine below_set ?_ GE419.out) | exact HB.out))) : w.heap.size ≤ gb503)); have n8_ := Aside0.mk ((by rw [hg]; exact (below_size (by repeat (first | (with_reducible first | exact HB.out | apply below_alloc | apply pw_below_drewN | apply below_drew1 | refine below_set ?_ GE418.out | refine below_set ?_ GE419.out) | exact HB.out))) : w.heap.size ≤ gb503)); have n9_ := Aside0.mk ((by rw [hg]; exact Nat.ne_of_lt (blk_lt (g := gb418) (o := .cells #[.int .i64 t413, .int .i64 t414] 23 (0, 0)) (by (with_reducible repeat (first | refine blk_drewN ?_ _ | refine blk_drew ?_ | refine blk_alloc ?_ _)); exact BK418.out)) : gb418 ≠ gb503)); have n10_ := Aside0.mk ((by rw [hg]; exact Nat.ne_of_gt (blk_lt (g := gb418) (o := .cells #[.int .i64 t413, .int .i64 t414] 23 (0, 0)) (by (with_reducible repeat (first | refine blk_drewN ?_ _ | refine blk_drew ?_ | refine blk_alloc ?_ _)); exact BK418.out)) : gb503 ≠ gb418)); have n11_ := Aside0.mk ((by rw [hg]; exact Nat.ne_of_lt (blk_lt (g := gb419) (o := .cells #[.int .i64 t415, .int .i64 t416] 23 (0, 0)) (by (with_reducible repeat (first | refine blk_drewN ?_ _ | refine blk_drew ?_ | refine blk_alloc ?_ _)); exact BK419.out)) : gb419 ≠ gb503)); have n12_ := Aside0.mk ((by rw [hg]; exact Nat.ne_of_gt (blk_lt (g := gb419) (o := .cells #[.int .i64 t415, .int .i64 t416] 23 (0, 0)) (by (with_reducible repeat (first | refine blk_drewN ?_ _ | refine blk_drew ?_ | refine blk_alloc ?_ _)); exact BK419.out)) : gb503 ≠ gb419)); clear HO_58; clear HO_60; clear HO_679; clear BK418; clear BK419; clear HB; have HO_58 := n0_; have HO_60 := n1_; have HO_679 := n2_; have BK418 := n3_; have BK419 := n4_; have HB := n5_; have BK503 := n6_; have GW503 := n7_; have GE503 := n8_; have NB418_503 := n9_; have NB503_418 := n10_; have NB419_503 := n11_; have NB503_419 := n12_; clear n0_ n1_ n2_ n3_ n4_ n5_ n6_ n7_ n8_ n9_ n10_ n11_ n12_; clear hb hbox hg; have hnb221 := NB503_418.out; have hnc221 := NB418_503.out; have hnb222 := NB503_419.out; have hnc222 := NB419_503.out; have hcz223_0 : w220.cell? ⟨gb503, 0, none⟩ = some (.int .i64 0) := (blk_cell BK503.out 0).trans rfl; have hcz223_1 : w220.cell? ⟨gb503, 1, none⟩ = some (.int .i64 0) := (blk_cell BK503.out 1).trans rfl; have hfz223_0 := blk_frozen BK503.out 0; have hfz223_1 := blk_frozen BK503.out 1) | (go_at_call 23; (with_reducible refine (laws_qHas.calls k10 _ _ t479 x681_10 true _ ?side1 ?side2 A218.out).mono ?_); (case side1 => refine (Kd.R_reads' (e := 3) (base := w.heap.size) (ok := fun k_ => True) (n := t479.length) (c := co197) ?_).2.2; exact (by (with_reducible repeat (first | apply Kd.R_alloc | apply Kd.R_drewN | apply Kd.R_drew)); exact (Kd.R_mono (Kd.R_far (p := ⟨gb503, 1, none⟩) (Kd.R_far (p := ⟨gb503, 0, none⟩) (Kd.R_types HO_60.out BK503.out (by decide)) (fun _ hk => hk.2) (.int .i64 ((rd_T23 t475 x681_10).f0))) (fun _ hk => hk.2) (.int .i64 ((rd_T23 t475 x681_10).f1))) (fun _ h_ => h_.1)))); (case side2 => exact (Kd.R_reads' HO_60.out).2.1); rintro e w' ⟨rfl, ⟨nd, rfl⟩⟩; (try first | exact ⟨rfl, _, World.drewN_drewN _ _ _⟩ | exact ⟨rfl, _, Eq.trans (World.drewN_drewN _ _ _) (congrArg (World.drewN _) (Nat.add_assoc _ _ _))⟩)))
              repeat (go_quiet (first | ((with_reducible refine gate_dst (N := 78) rfl ?_); (try (refine gate_guard (by rfl) ?_; dsimp only)); refine box_event ?hg (N := 78) ?hd (cs := #[.int .i64 0, .int .i64 0]) (t := 23) ?hr ?_; (case hd => rfl); (case hg => rfl); (case hr => first | (go_simp; done) | (go_simp; rfl)); intro gb503 hg w220 hbox hb; have n0_ := Aside0.mk (Kd.R_below (Kd.R_elderB (kd_to HO_58) gb503 (Nat.le_of_eq hg.symm)) hb); have n1_ := Aside0.mk (Kd.R_below (kd_to HO_60) hb); have n2_ := Aside0.mk (Kd.R_below (Kd.R_elderB (kd_to HO_679) gb503 (Nat.le_of_eq hg.symm)) hb); have n3_ := Aside0.mk (blk_below (g := gb418) (o := .cells #[.int .i64 t413, .int .i64 t414] 23 (0, 0)) (by (with_reducible repeat (first | refine blk_drewN ?_ _ | refine blk_drew ?_ | refine blk_alloc ?_ _)); exact BK418.out) hb); have n4_ := Aside0.mk (blk_below (g := gb419) (o := .cells #[.int .i64 t415, .int .i64 t416] 23 (0, 0)) (by (with_reducible repeat (first | refine blk_drewN ?_ _ | refine blk_drew ?_ | refine blk_alloc ?_ _)); exact BK419.out) hb); have n5_ := Aside0.mk (below_step (by repeat (first | (with_reducible first | exact HB.out | apply below_alloc | apply pw_below_drewN | apply below_drew1 | refine below_set ?_ GE418.out | refine below_set ?_ GE419.out) | exact HB.out)) hb); have n6_ := Aside0.mk (hbox); have n7_ := Aside0.mk ((by rw [hg]; exact (below_size (by repeat (first | (with_reducible first | exact HB.out | apply below_alloc | apply pw_below_drewN | apply below_drew1 | refine below_set ?_ GE418.out | refine below_set ?_ GE419.out) | exact HB.out))) : w.heap.size ≤ gb503)); have n8_ := Aside0.mk ((by rw [hg]; exact (below_size (by repeat (first | (with_reducible first | exact HB.out | apply below_alloc | apply pw_below_drewN | apply below_drew1 | refine below_set ?_ GE418.out | refine below_set ?_ GE419.out) | exact HB.out))) : w.heap.size ≤ gb503)); have n9_ := Aside0.mk ((by rw [hg]; exact Nat.ne_of_lt (blk_lt (g := gb418) (o := .cells #[.int .i64 t413, .int .i64 t414] 23 (0, 0)) (by (with_reducible repeat (first | refine blk_drewN ?_ _ | refine blk_drew ?_ | refine blk_alloc ?_ _)); exact BK418.out)) : gb418 ≠ gb503)); have n10_ := Aside0.mk ((by rw [hg]; exact Nat.ne_of_gt (blk_lt (g := gb418) (o := .cells #[.int .i64 t413, .int .i64 t414] 23 (0, 0)) (by (with_reducible repeat (first | refine blk_drewN ?_ _ | refine blk_drew ?_ | refine blk_alloc ?_ _)); exact BK418.out)) : gb503 ≠ gb418)); have n11_ := Aside0.mk ((by rw [hg]; exact Nat.ne_of_lt (blk_lt (g := gb419) (o := .cells #[.int .i64 t415, .int .i64 t416] 23 (0, 0)) (by (with_reducible repeat (first | refine blk_drewN ?_ _ | refine blk_drew ?_ | refine blk_alloc ?_ _)); exact BK419.out)) : gb419 ≠ gb503)); have n12_ := Aside0.mk ((by rw [hg]; exact Nat.ne_of_gt (blk_lt (g := gb419) (o := .cells #[.int .i64 t415, .int .i64 t416] 23 (0, 0)) (by (with_reducible repeat (first | refine blk_drewN ?_ _ | refine blk_drew ?_ | refine blk_alloc ?_ _)); exact BK419.out)) : gb503 ≠ gb419)); clear HO_58; clear HO_60; clear HO_679; clear BK418; clear BK419; clear HB; have HO_58 := n0_; have HO_60 := n1_; have HO_679 := n2_; have BK418 := n3_; have BK419 := n4_; have HB := n5_; have BK503 := n6_; have GW503 := n7_; have GE503 := n8_; have NB418_503 := n9_; have NB503_418 := n10_; have NB419_503 := n11_; have NB503_419 := n12_; clear n0_ n1_ n2_ n3_ n4_ n5_ n6_ n7_ n8_ n9_ n10_ n11_ n12_; clear hb hbox hg; have hnb221 := NB503_418.out; have hnc221 := NB418_503.out; have hnb222 := NB503_419.out; have hnc222 := NB419_503.out; have hcz223_0 : w220.cell? ⟨gb503, 0, none⟩ = some (.int .i64 0) := (blk_cell BK503.out 0).trans rfl; have hcz223_1 : w220.cell? ⟨gb503, 1, none⟩ = some (.int .i64 0) := (blk_cell BK503.out 1).trans rfl; have hfz223_0 := blk_frozen BK503.out 0; have hfz223_1 := blk_frozen BK503.out 1) | (go_at_call 23; (with_reducible refine (laws_qHas.calls k10 _ _ t479 x681_10 true _ ?side1 ?side2 A218.out).mono ?_); (case side1 => refine (Kd.R_reads' (e := 3) (base := w.heap.size) (ok := fun k_ => True) (n := t479.length) (c := co197) ?_).2.2; exact (by (with_reducible repeat (first | apply Kd.R_alloc | apply Kd.R_drewN | apply Kd.R_drew)); exact (Kd.R_mono (Kd.R_far (p := ⟨gb503, 1, none⟩) (Kd.R_far (p := ⟨gb503, 0, none⟩) (Kd.R_types HO_60.out BK503.out (by decide)) (fun _ hk => hk.2) (.int .i64 ((rd_T23 t475 x681_10).f0))) (fun _ hk => hk.2) (.int .i64 ((rd_T23 t475 x681_10).f1))) (fun _ h_ => h_.1)))); (case side2 => exact (Kd.R_reads' HO_60.out).2.1); rintro e w' ⟨rfl, ⟨nd, rfl⟩⟩; (try first | exact ⟨rfl, _, World.drewN_drewN _ _ _⟩ | exact ⟨rfl, _, Eq.trans (World.drewN_drewN _ _ _) (congrArg (World.drewN _) (Nat.add_assoc _ _ _))⟩))); try go_wp2_with (first | ((with_reducible refine gate_dst (N := 78) rfl ?_); (try (refine gate_guard (by rfl) ?_; dsimp only)); refine box_event ?hg (N := 78) ?hd (cs := #[.int .i64 0, .int .i64 0]) (t := 23) ?hr ?_; (case hd => rfl); (case hg => rfl); (case hr => first | (go_simp; done) | (go_simp; rfl)); intro gb503 hg w220 hbox hb; have n0_ := Aside0.mk (Kd.R_below (Kd.R_elderB (kd_to HO_58) gb503 (Nat.le_of_eq hg.symm)) hb); have n1_ := Aside0.mk (Kd.R_below (kd_to HO_60) hb); have n2_ := Aside0.mk (Kd.R_below (Kd.R_elderB (kd_to HO_679) gb503 (Nat.le_of_eq hg.symm)) hb); have n3_ := Aside0.mk (blk_below (g := gb418) (o := .cells #[.int .i64 t413, .int .i64 t414] 23 (0, 0)) (by (with_reducible repeat (first | refine blk_drewN ?_ _ | refine blk_drew ?_ | refine blk_alloc ?_ _)); exact BK418.out) hb); have n4_ := Aside0.mk (blk_below (g := gb419) (o := .cells #[.int .i64 t415, .int .i64 t416] 23 (0, 0)) (by (with_reducible repeat (first | refine blk_drewN ?_ _ | refine blk_drew ?_ | refine blk_alloc ?_ _)); exact BK419.out) hb); have n5_ := Aside0.mk (below_step (by repeat (first | (with_reducible first | exact HB.out | apply below_alloc | apply pw_below_drewN | apply below_drew1 | refine below_set ?_ GE418.out | refine below_set ?_ GE419.out) | exact HB.out)) hb); have n6_ := Aside0.mk (hbox); have n7_ := Aside0.mk ((by rw [hg]; exact (below_size (by repeat (first | (with_reducible first | exact HB.out | apply below_alloc | apply pw_below_drewN | apply below_drew1 | refine below_set ?_ GE418.out | refine below_set ?_ GE419.out) | exact HB.out))) : w.heap.size ≤ gb503)); have n8_ := Aside0.mk ((by rw [hg]; exact (below_size (by repeat (first | (with_reducible first | exact HB.out | apply below_alloc | apply pw_below_drewN | apply below_drew1 | refine below_set ?_ GE418.out | refine below_set ?_ GE419.out) | exact HB.out))) : w.heap.size ≤ gb503)); have n9_ := Aside0.mk ((by rw [hg]; exact Nat.ne_of_lt (blk_lt (g := gb418) (o := .cells #[.int .i64 t413, .int .i64 t414] 23 (0, 0)) (by (with_reducible repeat (first | refine blk_drewN ?_ _ | refine blk_drew ?_ | refine blk_alloc ?_ _)); exact BK418.out)) : gb418 ≠ gb503)); have n10_ := Aside0.mk ((by rw [hg]; exact Nat.ne_of_gt (blk_lt (g := gb418) (o := .cells #[.int .i64 t413, .int .i64 t414] 23 (0, 0)) (by (with_reducible repeat (first | refine blk_drewN ?_ _ | refine blk_drew ?_ | refine blk_alloc ?_ _)); exact BK418.out)) : gb503 ≠ gb418)); have n11_ := Aside0.mk ((by rw [hg]; exact Nat.ne_of_lt (blk_lt (g := gb419) (o := .cells #[.int .i64 t415, .int .i64 t416] 23 (0, 0)) (by (with_reducible repeat (first | refine blk_drewN ?_ _ | refine blk_drew ?_ | refine blk_alloc ?_ _)); exact BK419.out)) : gb419 ≠ gb503)); have n12_ := Aside0.mk ((by rw [hg]; exact Nat.ne_of_gt (blk_lt (g := gb419) (o := .cells #[.int .i64 t415, .int .i64 t416] 23 (0, 0)) (by (with_reducible repeat (first | refine blk_drewN ?_ _ | refine blk_drew ?_ | refine blk_alloc ?_ _)); exact BK419.out)) : gb503 ≠ gb419)); clear HO_58; clear HO_60; clear HO_679; clear BK418; clear BK419; clear HB; have HO_58 := n0_; have HO_60 := n1_; have HO_679 := n2_; have BK418 := n3_; have BK419 := n4_; have HB := n5_; have BK503 := n6_; have GW503 := n7_; have GE503 := n8_; have NB418_503 := n9_; have NB503_418 := n10_; have NB419_503 := n11_; have NB503_419 := n12_; clear n0_ n1_ n2_ n3_ n4_ n5_ n6_ n7_ n8_ n9_ n10_ n11_ n12_; clear hb hbox hg; have hnb221 := NB503_418.out; have hnc221 := NB418_503.out; have hnb222 := NB503_419.out; have hnc222 := NB419_503.out; have hcz223_0 : w220.cell? ⟨gb503, 0, none⟩ = some (.int .i64 0) := (blk_cell BK503.out 0).trans rfl; have hcz223_1 : w220.cell? ⟨gb503, 1, none⟩ = some (.int .i64 0) := (blk_cell BK503.out 1).trans rfl; have hfz223_0 := blk_frozen BK503.out 0; have hfz223_1 := blk_frozen BK503.out 1) | (go_at_call 23; (with_reducible refine (laws_qHas.calls k10 _ _ t479 x681_10 true _ ?side1 ?side2 A218.out).mono ?_); (case side1 => refine (Kd.R_reads' (e := 3) (base := w.heap.size) (ok := fun k_ => True) (n := t479.length) (c := co197) ?_).2.2; exact (by (with_reducible repeat (first | apply Kd.R_alloc | apply Kd.R_drewN | apply Kd.R_drew)); exact (Kd.R_mono (Kd.R_far (p := ⟨gb503, 1, none⟩) (Kd.R_far (p := ⟨gb503, 0, none⟩) (Kd.R_types HO_60.out BK503.out (by decide)) (fun _ hk => hk.2) (.int .i64 ((rd_T23 t475 x681_10).f0))) (fun _ hk => hk.2) (.int .i64 ((rd_T23 t475 x681_10).f1))) (fun _ h_ => h_.1)))); (case side2 => exact (Kd.R_reads' HO_60.out).2.1); rintro e w' ⟨rfl, ⟨nd, rfl⟩⟩; (try first | exact ⟨rfl, _, World.drewN_drewN _ _ _⟩ | exact ⟨rfl, _, Eq.trans (World.drewN_drewN _ _ _) (congrArg (World.drewN _) (Nat.add_assoc _ _ _))⟩))))
              go_roundg k10
              case measure => have := HJ11.out; have := HJ52.out; have := HJ69.out; have := HJ119.out; have := HJ150.out; have := HJ173.out; have := HJ191.out; have := HK8.out; have := HJ211.out; have := HK10.out; omega
              case rel => exact ⟨(wrap64 (x681_10 + 1)), (by first | rfl | (simp; done) | (simp [*]; done)), H', ⟨by have := HJ11.out; have := HJ52.out; have := HJ69.out; have := HJ119.out; have := HJ150.out; have := HJ173.out; have := HJ191.out; have := HK8.out; have := HJ211.out; have := HK10.out; omega⟩, ⟨by (with_reducible repeat (first | apply Kd.R_alloc | apply Kd.R_drewN | apply Kd.R_drew)); exact Kd.R_mono (Kd.R_far (p := ⟨gb503, 1, none⟩) (Kd.R_far (p := ⟨gb503, 0, none⟩) (Kd.R_mono HO_58.out (fun k_ hk => (⟨hk, hk.2⟩ : _ ∧ k_ ≠ gb503))) (fun _ hk => hk.2) (.int .i64 ((rd_T23 t475 x681_10).f0))) (fun _ hk => hk.2) (.int .i64 ((rd_T23 t475 x681_10).f1))) (fun _ hk => ⟨hk.1.1.1, hk.1.1.2⟩)⟩, ⟨by (with_reducible repeat (first | apply Kd.R_alloc | apply Kd.R_drewN | apply Kd.R_drew)); exact Kd.R_mono (Kd.R_far (p := ⟨gb503, 1, none⟩) (Kd.R_far (p := ⟨gb503, 0, none⟩) (Kd.R_types HO_60.out BK503.out (by decide)) (fun _ hk => hk.2) (.int .i64 ((rd_T23 t475 x681_10).f0))) (fun _ hk => hk.2) (.int .i64 ((rd_T23 t475 x681_10).f1))) (fun _ hk => trivial)⟩, ⟨by (with_reducible repeat (first | apply Kd.R_alloc | apply Kd.R_drewN | apply Kd.R_drew)); exact Kd.R_mono (Kd.R_far (p := ⟨gb503, 1, none⟩) (Kd.R_far (p := ⟨gb503, 0, none⟩) (Kd.R_mono HO_679.out (fun k_ hk => (⟨hk, hk.2⟩ : _ ∧ k_ ≠ gb503))) (fun _ hk => hk.2) (.int .i64 ((rd_T23 t475 x681_10).f0))) (fun _ hk => hk.2) (.int .i64 ((rd_T23 t475 x681_10).f1))) (fun _ hk => ⟨hk.1.1.1, hk.1.1.2⟩)⟩, ⟨by (with_reducible repeat (first | refine blk_drewN ?_ _ | refine blk_drew ?_ | refine blk_alloc ?_ _)); refine blk_far ?_ NB418_503.out _; (with_reducible repeat (first | refine blk_drewN ?_ _ | refine blk_drew ?_ | refine blk_alloc ?_ _)); refine blk_far ?_ NB418_503.out _; (with_reducible repeat (first | refine blk_drewN ?_ _ | refine blk_drew ?_ | refine blk_alloc ?_ _)); exact BK418.out⟩, ⟨by (with_reducible repeat (first | refine blk_drewN ?_ _ | refine blk_drew ?_ | refine blk_alloc ?_ _)); refine blk_far ?_ NB419_503.out _; (with_reducible repeat (first | refine blk_drewN ?_ _ | refine blk_drew ?_ | refine blk_alloc ?_ _)); refine blk_far ?_ NB419_503.out _; (with_reducible repeat (first | refine blk_drewN ?_ _ | refine blk_drew ?_ | refine blk_alloc ?_ _)); exact BK419.out⟩, ⟨by repeat (first | (with_reducible first | exact HB.out | apply below_alloc | apply pw_below_drewN | apply below_drew1 | refine below_set ?_ GE418.out | refine below_set ?_ GE419.out | refine below_set ?_ GE503.out) | exact HB.out)⟩⟩
             ·replace c219 := Bool.eq_false_iff.mpr c219
              subst c219
              have H1 : (if (wrap64 (x74_8 + ((rd_T23 t475 x681_10).f0))) ≤ t476 then (some false) else (laws_FnTrainsMeet.l2 k10 t475 t476 t479 x74_8 x681_10 t475 (t475.length : Int) x681_10 t479 (t479.length : Int) 0 ((rd_T23 t475 x681_10).f0) ((rd_T23 t475 x681_10).f1))) = some r := by rw [if_neg (show ¬ (false = true) by decide)] at H; exact H
              clear H
              have H := H1
              clear H1
              by_cases c224 : (wrap64 (x74_8 + ((rd_T23 t475 x681_10).f0))) ≤ t476
              ·rw [if_pos c224] at H
               have c224b0 : decide ((wrap64 (x74_8 + ((rd_T23 t475 x681_10).f0))) ≤ t476) = true := decide_eq_true c224
               clear c224
               exact absurd (Option.some.inj H).symm (by rw [HR_.out]; decide)
              ·rw [if_neg c224] at H
               have c224b0 : decide ((wrap64 (x74_8 + ((rd_T23 t475 x681_10).f0))) ≤ t476) = false := decide_eq_false c224
               clear c224
               have H' := Aside0.mk H
               clear H
               have p502 : 0 ≤ (x681_10 : Int) := of_decide_eq_true (by first | (with_reducible assumption) | assumption)
               have q502 : x681_10 < (t475.length : Int) := of_decide_eq_true (by first | (with_reducible assumption) | assumption)
               obtain ⟨ad502, e502, hx502_0, hx502_1⟩ := at_T23 (Kd.R_reads' HO_679.out).2.2 x681_10 p502 q502
               cases e502
               replace p502 := eq_true p502
               replace q502 := eq_true q502
               go_wp2_with (first | ((with_reducible refine gate_dst (N := 78) rfl ?_); (try (refine gate_guard (by rfl) ?_; dsimp only)); refine box_event ?hg (N := 78) ?hd (cs := #[.int .i64 0, .int .i64 0]) (t := 23) ?hr ?_; (case hd => rfl); (case hg => rfl); (case hr => first | (go_simp; done) | (go_simp; rfl)); intro gb503 hg w225 hbox hb; have n0_ := Aside0.mk (Kd.R_below (Kd.R_elderB (kd_to HO_58) gb503 (Nat.le_of_eq hg.symm)) hb); have n1_ := Aside0.mk (Kd.R_below (kd_to HO_60) hb); have n2_ := Aside0.mk (Kd.R_below (Kd.R_elderB (kd_to HO_679) gb503 (Nat.le_of_eq hg.symm)) hb); have n3_ := Aside0.mk (blk_below (g := gb418) (o := .cells #[.int .i64 t413, .int .i64 t414] 23 (0, 0)) (by (with_reducible repeat (first | refine blk_drewN ?_ _ | refine blk_drew ?_ | refine blk_alloc ?_ _)); exact BK418.out) hb); have n4_ := Aside0.mk (blk_below (g := gb419) (o := .cells #[.int .i64 t415, .int .i64 t416] 23 (0, 0)) (by (with_reducible repeat (first | refine blk_drewN ?_ _ | refine blk_drew ?_ | refine blk_alloc ?_ _)); exact BK419.out) hb); have n5_ := Aside0.mk (below_step (by repeat (first | (with_reducible first | exact HB.out | apply below_alloc | apply pw_below_drewN | apply below_drew1 | refine below_set ?_ GE418.out | refine below_set ?_ GE419.out) | exact HB.out)) hb); have n6_ := Aside0.mk (hbox); have n7_ := Aside0.mk ((by rw [hg]; exact (below_size (by repeat (first | (with_reducible first | exact HB.out | apply below_alloc | apply pw_below_drewN | apply below_drew1 | refine below_set ?_ GE418.out | refine below_set ?_ GE419.out) | exact HB.out))) : w.heap.size ≤ gb503)); have n8_ := Aside0.mk ((by rw [hg]; exact (below_size (by repeat (first | (with_reducible first | exact HB.out | apply below_alloc | apply pw_below_drewN | apply below_drew1 | refine below_set ?_ GE418.out | refine below_set ?_ GE419.out) | exact HB.out))) : w.heap.size ≤ gb503)); have n9_ := Aside0.mk ((by rw [hg]; exact Nat.ne_of_lt (blk_lt (g := gb418) (o := .cells #[.int .i64 t413, .int .i64 t414] 23 (0, 0)) (by (with_reducible repeat (first | refine blk_drewN ?_ _ | refine blk_drew ?_ | refine blk_alloc ?_ _)); exact BK418.out)) : gb418 ≠ gb503)); have n10_ := Aside0.mk ((by rw [hg]; exact Nat.ne_of_gt (blk_lt (g := gb418) (o := .cells #[.int .i64 t413, .int .i64 t414] 23 (0, 0)) (by (with_reducible repeat (first | refine blk_drewN ?_ _ | refine blk_drew ?_ | refine blk_alloc ?_ _)); exact BK418.out)) : gb503 ≠ gb418)); have n11_ := Aside0.mk ((by rw [hg]; exact Nat.ne_of_lt (blk_lt (g := gb419) (o := .cells #[.int .i64 t415, .int .i64 t416] 23 (0, 0)) (by (with_reducible repeat (first | refine blk_drewN ?_ _ | refine blk_drew ?_ | refine blk_alloc ?_ _)); exact BK419.out)) : gb419 ≠ gb503)); have n12_ := Aside0.mk ((by rw [hg]; exact Nat.ne_of_gt (blk_lt (g := gb419) (o := .cells #[.int .i64 t415, .int .i64 t416] 23 (0, 0)) (by (with_reducible repeat (first | refine blk_drewN ?_ _ | refine blk_drew ?_ | refine blk_alloc ?_ _)); exact BK419.out)) : gb503 ≠ gb419)); clear HO_58; clear HO_60; clear HO_679; clear BK418; clear BK419; clear HB; have HO_58 := n0_; have HO_60 := n1_; have HO_679 := n2_; have BK418 := n3_; have BK419 := n4_; have HB := n5_; have BK503 := n6_; have GW503 := n7_; have GE503 := n8_; have NB418_503 := n9_; have NB503_418 := n10_; have NB419_503 := n11_; have NB503_419 := n12_; clear n0_ n1_ n2_ n3_ n4_ n5_ n6_ n7_ n8_ n9_ n10_ n11_ n12_; clear hb hbox hg; have hnb226 := NB503_418.out; have hnc226 := NB418_503.out; have hnb227 := NB503_419.out; have hnc227 := NB419_503.out; have hcz228_0 : w225.cell? ⟨gb503, 0, none⟩ = some (.int .i64 0) := (blk_cell BK503.out 0).trans rfl; have hcz228_1 : w225.cell? ⟨gb503, 1, none⟩ = some (.int .i64 0) := (blk_cell BK503.out 1).trans rfl; have hfz228_0 := blk_frozen BK503.out 0; have hfz228_1 := blk_frozen BK503.out 1) | (go_at_call 23; (with_reducible refine (laws_qHas.calls k10 _ _ t479 x681_10 false _ ?side1 ?side2 A218.out).mono ?_); (case side1 => refine (Kd.R_reads' (e := 3) (base := w.heap.size) (ok := fun k_ => True) (n := t479.length) (c := co197) ?_).2.2; exact (by (with_reducible repeat (first | apply Kd.R_alloc | apply Kd.R_drewN | apply Kd.R_drew)); exact (Kd.R_mono (Kd.R_far (p := ⟨gb503, 1, none⟩) (Kd.R_far (p := ⟨gb503, 0, none⟩) (Kd.R_types HO_60.out BK503.out (by decide)) (fun _ hk => hk.2) (.int .i64 ((rd_T23 t475 x681_10).f0))) (fun _ hk => hk.2) (.int .i64 ((rd_T23 t475 x681_10).f1))) (fun _ h_ => h_.1)))); (case side2 => exact (Kd.R_reads' HO_60.out).2.1); rintro e w' ⟨rfl, ⟨nd, rfl⟩⟩; (try first | exact ⟨rfl, _, World.drewN_drewN _ _ _⟩ | exact ⟨rfl, _, Eq.trans (World.drewN_drewN _ _ _) (congrArg (World.drewN _) (Nat.add_assoc _ _ _))⟩)))
               repeat (go_quiet (first | ((with_reducible refine gate_dst (N := 78) rfl ?_); (try (refine gate_guard (by rfl) ?_; dsimp only)); refine box_event ?hg (N := 78) ?hd (cs := #[.int .i64 0, .int .i64 0]) (t := 23) ?hr ?_; (case hd => rfl); (case hg => rfl); (case hr => first | (go_simp; done) | (go_simp; rfl)); intro gb503 hg w225 hbox hb; have n0_ := Aside0.mk (Kd.R_below (Kd.R_elderB (kd_to HO_58) gb503 (Nat.le_of_eq hg.symm)) hb); have n1_ := Aside0.mk (Kd.R_below (kd_to HO_60) hb); have n2_ := Aside0.mk (Kd.R_below (Kd.R_elderB (kd_to HO_679) gb503 (Nat.le_of_eq hg.symm)) hb); have n3_ := Aside0.mk (blk_below (g := gb418) (o := .cells #[.int .i64 t413, .int .i64 t414] 23 (0, 0)) (by (with_reducible repeat (first | refine blk_drewN ?_ _ | refine blk_drew ?_ | refine blk_alloc ?_ _)); exact BK418.out) hb); have n4_ := Aside0.mk (blk_below (g := gb419) (o := .cells #[.int .i64 t415, .int .i64 t416] 23 (0, 0)) (by (with_reducible repeat (first | refine blk_drewN ?_ _ | refine blk_drew ?_ | refine blk_alloc ?_ _)); exact BK419.out) hb); have n5_ := Aside0.mk (below_step (by repeat (first | (with_reducible first | exact HB.out | apply below_alloc | apply pw_below_drewN | apply below_drew1 | refine below_set ?_ GE418.out | refine below_set ?_ GE419.out) | exact HB.out)) hb); have n6_ := Aside0.mk (hbox); have n7_ := Aside0.mk ((by rw [hg]; exact (below_size (by repeat (first | (with_reducible first | exact HB.out | apply below_alloc | apply pw_below_drewN | apply below_drew1 | refine below_set ?_ GE418.out | refine below_set ?_ GE419.out) | exact HB.out))) : w.heap.size ≤ gb503)); have n8_ := Aside0.mk ((by rw [hg]; exact (below_size (by repeat (first | (with_reducible first | exact HB.out | apply below_alloc | apply pw_below_drewN | apply below_drew1 | refine below_set ?_ GE418.out | refine below_set ?_ GE419.out) | exact HB.out))) : w.heap.size ≤ gb503)); have n9_ := Aside0.mk ((by rw [hg]; exact Nat.ne_of_lt (blk_lt (g := gb418) (o := .cells #[.int .i64 t413, .int .i64 t414] 23 (0, 0)) (by (with_reducible repeat (first | refine blk_drewN ?_ _ | refine blk_drew ?_ | refine blk_alloc ?_ _)); exact BK418.out)) : gb418 ≠ gb503)); have n10_ := Aside0.mk ((by rw [hg]; exact Nat.ne_of_gt (blk_lt (g := gb418) (o := .cells #[.int .i64 t413, .int .i64 t414] 23 (0, 0)) (by (with_reducible repeat (first | refine blk_drewN ?_ _ | refine blk_drew ?_ | refine blk_alloc ?_ _)); exact BK418.out)) : gb503 ≠ gb418)); have n11_ := Aside0.mk ((by rw [hg]; exact Nat.ne_of_lt (blk_lt (g := gb419) (o := .cells #[.int .i64 t415, .int .i64 t416] 23 (0, 0)) (by (with_reducible repeat (first | refine blk_drewN ?_ _ | refine blk_drew ?_ | refine blk_alloc ?_ _)); exact BK419.out)) : gb419 ≠ gb503)); have n12_ := Aside0.mk ((by rw [hg]; exact Nat.ne_of_gt (blk_lt (g := gb419) (o := .cells #[.int .i64 t415, .int .i64 t416] 23 (0, 0)) (by (with_reducible repeat (first | refine blk_drewN ?_ _ | refine blk_drew ?_ | refine blk_alloc ?_ _)); exact BK419.out)) : gb503 ≠ gb419)); clear HO_58; clear HO_60; clear HO_679; clear BK418; clear BK419; clear HB; have HO_58 := n0_; have HO_60 := n1_; have HO_679 := n2_; have BK418 := n3_; have BK419 := n4_; have HB := n5_; have BK503 := n6_; have GW503 := n7_; have GE503 := n8_; have NB418_503 := n9_; have NB503_418 := n10_; have NB419_503 := n11_; have NB503_419 := n12_; clear n0_ n1_ n2_ n3_ n4_ n5_ n6_ n7_ n8_ n9_ n10_ n11_ n12_; clear hb hbox hg; have hnb226 := NB503_418.out; have hnc226 := NB418_503.out; have hnb227 := NB503_419.out; have hnc227 := NB419_503.out; have hcz228_0 : w225.cell? ⟨gb503, 0, none⟩ = some (.int .i64 0) := (blk_cell BK503.out 0).trans rfl; have hcz228_1 : w225.cell? ⟨gb503, 1, none⟩ = some (.int .i64 0) := (blk_cell BK503.out 1).trans rfl; have hfz228_0 := blk_frozen BK503.out 0; have hfz228_1 := blk_frozen BK503.out 1) | (go_at_call 23; (with_reducible refine (laws_qHas.calls k10 _ _ t479 x681_10 false _ ?side1 ?side2 A218.out).mono ?_); (case side1 => refine (Kd.R_reads' (e := 3) (base := w.heap.size) (ok := fun k_ => True) (n := t479.length) (c := co197) ?_).2.2; exact (by (with_reducible repeat (first | apply Kd.R_alloc | apply Kd.R_drewN | apply Kd.R_drew)); exact (Kd.R_mono (Kd.R_far (p := ⟨gb503, 1, none⟩) (Kd.R_far (p := ⟨gb503, 0, none⟩) (Kd.R_types HO_60.out BK503.out (by decide)) (fun _ hk => hk.2) (.int .i64 ((rd_T23 t475 x681_10).f0))) (fun _ hk => hk.2) (.int .i64 ((rd_T23 t475 x681_10).f1))) (fun _ h_ => h_.1)))); (case side2 => exact (Kd.R_reads' HO_60.out).2.1); rintro e w' ⟨rfl, ⟨nd, rfl⟩⟩; (try first | exact ⟨rfl, _, World.drewN_drewN _ _ _⟩ | exact ⟨rfl, _, Eq.trans (World.drewN_drewN _ _ _) (congrArg (World.drewN _) (Nat.add_assoc _ _ _))⟩))); try go_wp2_with (first | ((with_reducible refine gate_dst (N := 78) rfl ?_); (try (refine gate_guard (by rfl) ?_; dsimp only)); refine box_event ?hg (N := 78) ?hd (cs := #[.int .i64 0, .int .i64 0]) (t := 23) ?hr ?_; (case hd => rfl); (case hg => rfl); (case hr => first | (go_simp; done) | (go_simp; rfl)); intro gb503 hg w225 hbox hb; have n0_ := Aside0.mk (Kd.R_below (Kd.R_elderB (kd_to HO_58) gb503 (Nat.le_of_eq hg.symm)) hb); have n1_ := Aside0.mk (Kd.R_below (kd_to HO_60) hb); have n2_ := Aside0.mk (Kd.R_below (Kd.R_elderB (kd_to HO_679) gb503 (Nat.le_of_eq hg.symm)) hb); have n3_ := Aside0.mk (blk_below (g := gb418) (o := .cells #[.int .i64 t413, .int .i64 t414] 23 (0, 0)) (by (with_reducible repeat (first | refine blk_drewN ?_ _ | refine blk_drew ?_ | refine blk_alloc ?_ _)); exact BK418.out) hb); have n4_ := Aside0.mk (blk_below (g := gb419) (o := .cells #[.int .i64 t415, .int .i64 t416] 23 (0, 0)) (by (with_reducible repeat (first | refine blk_drewN ?_ _ | refine blk_drew ?_ | refine blk_alloc ?_ _)); exact BK419.out) hb); have n5_ := Aside0.mk (below_step (by repeat (first | (with_reducible first | exact HB.out | apply below_alloc | apply pw_below_drewN | apply below_drew1 | refine below_set ?_ GE418.out | refine below_set ?_ GE419.out) | exact HB.out)) hb); have n6_ := Aside0.mk (hbox); have n7_ := Aside0.mk ((by rw [hg]; exact (below_size (by repeat (first | (with_reducible first | exact HB.out | apply below_alloc | apply pw_below_drewN | apply below_drew1 | refine below_set ?_ GE418.out | refine below_set ?_ GE419.out) | exact HB.out))) : w.heap.size ≤ gb503)); have n8_ := Aside0.mk ((by rw [hg]; exact (below_size (by repeat (first | (with_reducible first | exact HB.out | apply below_alloc | apply pw_below_drewN | apply below_drew1 | refine below_set ?_ GE418.out | refine below_set ?_ GE419.out) | exact HB.out))) : w.heap.size ≤ gb503)); have n9_ := Aside0.mk ((by rw [hg]; exact Nat.ne_of_lt (blk_lt (g := gb418) (o := .cells #[.int .i64 t413, .int .i64 t414] 23 (0, 0)) (by (with_reducible repeat (first | refine blk_drewN ?_ _ | refine blk_drew ?_ | refine blk_alloc ?_ _)); exact BK418.out)) : gb418 ≠ gb503)); have n10_ := Aside0.mk ((by rw [hg]; exact Nat.ne_of_gt (blk_lt (g := gb418) (o := .cells #[.int .i64 t413, .int .i64 t414] 23 (0, 0)) (by (with_reducible repeat (first | refine blk_drewN ?_ _ | refine blk_drew ?_ | refine blk_alloc ?_ _)); exact BK418.out)) : gb503 ≠ gb418)); have n11_ := Aside0.mk ((by rw [hg]; exact Nat.ne_of_lt (blk_lt (g := gb419) (o := .cells #[.int .i64 t415, .int .i64 t416] 23 (0, 0)) (by (with_reducible repeat (first | refine blk_drewN ?_ _ | refine blk_drew ?_ | refine blk_alloc ?_ _)); exact BK419.out)) : gb419 ≠ gb503)); have n12_ := Aside0.mk ((by rw [hg]; exact Nat.ne_of_gt (blk_lt (g := gb419) (o := .cells #[.int .i64 t415, .int .i64 t416] 23 (0, 0)) (by (with_reducible repeat (first | refine blk_drewN ?_ _ | refine blk_drew ?_ | refine blk_alloc ?_ _)); exact BK419.out)) : gb503 ≠ gb419)); clear HO_58; clear HO_60; clear HO_679; clear BK418; clear BK419; clear HB; have HO_58 := n0_; have HO_60 := n1_; have HO_679 := n2_; have BK418 := n3_; have BK419 := n4_; have HB := n5_; have BK503 := n6_; have GW503 := n7_; have GE503 := n8_; have NB418_503 := n9_; have NB503_418 := n10_; have NB419_503 := n11_; have NB503_419 := n12_; clear n0_ n1_ n2_ n3_ n4_ n5_ n6_ n7_ n8_ n9_ n10_ n11_ n12_; clear hb hbox hg; have hnb226 := NB503_418.out; have hnc226 := NB418_503.out; have hnb227 := NB503_419.out; have hnc227 := NB419_503.out; have hcz228_0 : w225.cell? ⟨gb503, 0, none⟩ = some (.int .i64 0) := (blk_cell BK503.out 0).trans rfl; have hcz228_1 : w225.cell? ⟨gb503, 1, none⟩ = some (.int .i64 0) := (blk_cell BK503.out 1).trans rfl; have hfz228_0 := blk_frozen BK503.out 0; have hfz228_1 := blk_frozen BK503.out 1) | (go_at_call 23; (with_reducible refine (laws_qHas.calls k10 _ _ t479 x681_10 false _ ?side1 ?side2 A218.out).mono ?_); (case side1 => refine (Kd.R_reads' (e := 3) (base := w.heap.size) (ok := fun k_ => True) (n := t479.length) (c := co197) ?_).2.2; exact (by (with_reducible repeat (first | apply Kd.R_alloc | apply Kd.R_drewN | apply Kd.R_drew)); exact (Kd.R_mono (Kd.R_far (p := ⟨gb503, 1, none⟩) (Kd.R_far (p := ⟨gb503, 0, none⟩) (Kd.R_types HO_60.out BK503.out (by decide)) (fun _ hk => hk.2) (.int .i64 ((rd_T23 t475 x681_10).f0))) (fun _ hk => hk.2) (.int .i64 ((rd_T23 t475 x681_10).f1))) (fun _ h_ => h_.1)))); (case side2 => exact (Kd.R_reads' HO_60.out).2.1); rintro e w' ⟨rfl, ⟨nd, rfl⟩⟩; (try first | exact ⟨rfl, _, World.drewN_drewN _ _ _⟩ | exact ⟨rfl, _, Eq.trans (World.drewN_drewN _ _ _) (congrArg (World.drewN _) (Nat.add_assoc _ _ _))⟩))))
               go_loopg [697] k10 (fun kq v697 w' => ∃ (x697_11 : Int), v697 = .int .i64 x697_11 ∧ Aside0 (laws_FnTrainsMeet.l2 kq t475 t476 t479 x74_8 x681_10 t475 (t475.length : Int) x681_10 t479 (t479.length : Int) x697_11 ((rd_T23 t475 x681_10).f0) ((rd_T23 t475 x681_10).f1) = some r) ∧ Aside0 (kq ≤ k10) ∧ Aside0 (Kd.R k23 23 w' w.heap.size (fun k_ => k_ ≠ gb418 ∧ k_ ≠ gb419 ∧ k_ ≠ gb503) (.slice (some ad502) t475.length co156) t475) ∧ Aside0 (Kd.R (Kd.int .i64) 3 w' w.heap.size (fun _ => True) (.slice Ao197 t479.length co197) t479) ∧ Aside0 (Kd.R k23 23 w' w.heap.size (fun k_ => k_ ≠ gb418 ∧ k_ ≠ gb419 ∧ k_ ≠ gb503) (.slice (some ad502) t475.length co156) t475) ∧ Aside0 (Kd.R (Kd.int .i64) 3 w' w.heap.size (fun _ => True) (.slice Ao197 t479.length co197) t479) ∧ Aside0 (w'.heap[gb418]? = some (.cells #[.int .i64 t413, .int .i64 t414] 23 (0, 0))) ∧ Aside0 (w'.heap[gb419]? = some (.cells #[.int .i64 t415, .int .i64 t416] 23 (0, 0))) ∧ Aside0 (w'.heap[gb503]? = some (.cells #[.int .i64 ((rd_T23 t475 x681_10).f0), .int .i64 ((rd_T23 t475 x681_10).f1)] 23 (0, 0))) ∧ Aside0 (Below w.heap.size w w'))
               case atStart => exact ⟨(0), (by first | rfl | (simp; done) | (simp [*]; done)), H', ⟨Nat.le_refl _⟩, ⟨by (with_reducible repeat (first | apply Kd.R_alloc | apply Kd.R_drewN | apply Kd.R_drew)); exact Kd.R_mono (Kd.R_far (p := ⟨gb503, 1, none⟩) (Kd.R_far (p := ⟨gb503, 0, none⟩) (Kd.R_mono HO_58.out (fun k_ hk => (⟨hk, hk.2⟩ : _ ∧ k_ ≠ gb503))) (fun _ hk => hk.2) (.int .i64 ((rd_T23 t475 x681_10).f0))) (fun _ hk => hk.2) (.int .i64 ((rd_T23 t475 x681_10).f1))) (fun _ hk => ⟨hk.1.1.1, ⟨hk.1.1.2, hk.1.2⟩⟩)⟩, ⟨by (with_reducible repeat (first | apply Kd.R_alloc | apply Kd.R_drewN | apply Kd.R_drew)); exact Kd.R_mono (Kd.R_far (p := ⟨gb503, 1, none⟩) (Kd.R_far (p := ⟨gb503, 0, none⟩) (Kd.R_types HO_60.out BK503.out (by decide)) (fun _ hk => hk.2) (.int .i64 ((rd_T23 t475 x681_10).f0))) (fun _ hk => hk.2) (.int .i64 ((rd_T23 t475 x681_10).f1))) (fun _ hk => trivial)⟩, ⟨by (with_reducible repeat (first | apply Kd.R_alloc | apply Kd.R_drewN | apply Kd.R_drew)); exact Kd.R_mono (Kd.R_far (p := ⟨gb503, 1, none⟩) (Kd.R_far (p := ⟨gb503, 0, none⟩) (Kd.R_mono HO_679.out (fun k_ hk => (⟨hk, hk.2⟩ : _ ∧ k_ ≠ gb503))) (fun _ hk => hk.2) (.int .i64 ((rd_T23 t475 x681_10).f0))) (fun _ hk => hk.2) (.int .i64 ((rd_T23 t475 x681_10).f1))) (fun _ hk => ⟨hk.1.1.1, ⟨hk.1.1.2, hk.1.2⟩⟩)⟩, ⟨by (with_reducible repeat (first | apply Kd.R_alloc | apply Kd.R_drewN | apply Kd.R_drew)); exact Kd.R_mono (Kd.R_far (p := ⟨gb503, 1, none⟩) (Kd.R_far (p := ⟨gb503, 0, none⟩) (Kd.R_types HO_60.out BK503.out (by decide)) (fun _ hk => hk.2) (.int .i64 ((rd_T23 t475 x681_10).f0))) (fun _ hk => hk.2) (.int .i64 ((rd_T23 t475 x681_10).f1))) (fun _ hk => trivial)⟩, ⟨by (with_reducible repeat (first | refine blk_drewN ?_ _ | refine blk_drew ?_ | refine blk_alloc ?_ _)); refine blk_far ?_ NB418_503.out _; (with_reducible repeat (first | refine blk_drewN ?_ _ | refine blk_drew ?_ | refine blk_alloc ?_ _)); refine blk_far ?_ NB418_503.out _; (with_reducible repeat (first | refine blk_drewN ?_ _ | refine blk_drew ?_ | refine blk_alloc ?_ _)); exact BK418.out⟩, ⟨by (with_reducible repeat (first | refine blk_drewN ?_ _ | refine blk_drew ?_ | refine blk_alloc ?_ _)); refine blk_far ?_ NB419_503.out _; (with_reducible repeat (first | refine blk_drewN ?_ _ | refine blk_drew ?_ | refine blk_alloc ?_ _)); refine blk_far ?_ NB419_503.out _; (with_reducible repeat (first | refine blk_drewN ?_ _ | refine blk_drew ?_ | refine blk_alloc ?_ _)); exact BK419.out⟩, ⟨by (with_reducible repeat (first | refine blk_drewN ?_ _ | refine blk_drew ?_ | refine blk_alloc ?_ _)); refine blk_put (cs := #[.int .i64 ((rd_T23 t475 x681_10).f0), .int .i64 0]) ?_ 1 _ rfl; (with_reducible repeat (first | refine blk_drewN ?_ _ | refine blk_drew ?_ | refine blk_alloc ?_ _)); refine blk_put (cs := #[.int .i64 0, .int .i64 0]) ?_ 0 _ rfl; (with_reducible repeat (first | refine blk_drewN ?_ _ | refine blk_drew ?_ | refine blk_alloc ?_ _)); exact BK503.out⟩, ⟨by repeat (first | (with_reducible first | exact HB.out | apply below_alloc | apply pw_below_drewN | apply below_drew1 | refine below_set ?_ GE418.out | refine below_set ?_ GE419.out | refine below_set ?_ GE503.out) | exact HB.out)⟩⟩
               case round =>
                clear H'
                (try clear c198); (try clear c198b0); (try clear c199); (try clear c199b0); (try clear c200); (try clear c200b0); (try clear c201); (try clear c201b0); (try clear c202); (try clear c202b0); (try clear c203); (try clear c203b0)
                (try clear c205); (try clear c205b0); (try clear c206); (try clear c206b0); (try clear c207); (try clear c207b0); (try clear c208); (try clear c208b0); (try clear c209); (try clear c209b0); (try clear c210); (try clear c210b0); (try clear c211); (try clear c211b0); (try clear c213); (try clear c213b0); (try clear c214); (try clear c215); (try clear c215b0); (try clear c216); (try clear c216b0); (try clear c217); (try clear c217b0); (try clear c219); (try clear c224); (try clear c224b0); (try clear hcz223_0); (try clear hcz223_1); (try clear hcz228_0); (try clear hcz228_1); (try clear hfz223_0); (try clear hfz223_1); (try clear hfz228_0); (try clear hfz228_1)
                (try clear hx498_0); (try clear hx499_0); (try clear hx500_0); (try clear hx500_1); (try clear hx501_0); (try clear hx501_1); (try clear hx502_0); (try clear hx502_1); (try clear p498); (try clear p499); (try clear p500); (try clear p501); (try clear p502); (try clear q498); (try clear q499); (try clear q500); (try clear q501); (try clear q502)
                obtain ⟨x697_11, rfl, HA, HK11, HO_58, HO_60, HO_679, HO_695, BK418, BK419, BK503, HB⟩ := hrel
                cases gk with
                | zero => exact absurd HA.out (by simp [laws_FnTrainsMeet.l2])
                | succ k11 =>
                 have H := HA.out
                 clear HA
                 simp only [laws_FnTrainsMeet.l2] at H
                 by_cases c229 : x697_11 < (t479.length : Int)
                 ·rw [if_pos c229] at H
                  have c229b0 : decide (x697_11 < (t479.length : Int)) = true := decide_eq_true c229
                  clear c229
                  by_cases c230 : 0 ≤ x697_11
                  ·rw [if_pos c230] at H
                   have c230b0 : decide (0 ≤ x697_11) = true := decide_eq_true c230
                   clear c230
                   by_cases c231 : x697_11 < (t479.length : Int)
                   ·rw [if_pos c231] at H
                    have c231b0 : decide (x697_11 < (t479.length : Int)) = true := decide_eq_true c231
                    clear c231
                    by_cases c232 : 0 ≤ (rd t479 x697_11)
                    ·rw [if_pos c232] at H
                     have c232b0 : decide (0 ≤ (rd t479 x697_11)) = true := decide_eq_true c232
                     clear c232
                     by_cases c233 : (rd t479 x697_11) < (t475.length : Int)
                     ·rw [if_pos c233] at H
                      have c233b0 : decide ((rd t479 x697_11) < (t475.length : Int)) = true := decide_eq_true c233
                      clear c233
                      by_cases c234 : ((rd_T23 t475 (rd t479 x697_11)).f0) > ((rd_T23 t475 x681_10).f0)
                      ·rw [if_pos c234] at H
                       have c234b0 : decide (((rd_T23 t475 x681_10).f0) < ((rd_T23 t475 (rd t479 x697_11)).f0)) = true := decide_eq_true c234
                       clear c234
                       exact absurd (Option.some.inj H).symm (by rw [HR_.out]; decide)
                      ·rw [if_neg c234] at H
                       have c234b0 : decide (((rd_T23 t475 x681_10).f0) < ((rd_T23 t475 (rd t479 x697_11)).f0)) = false := decide_eq_false c234
                       clear c234
                       by_cases c235 : ((rd_T23 t475 (rd t479 x697_11)).f0) = ((rd_T23 t475 x681_10).f0)
                       ·rw [if_pos c235] at H
                        have c235b0 : (((rd_T23 t475 (rd t479 x697_11)).f0) == ((rd_T23 t475 x681_10).f0)) = true := beq_iff_eq.mpr c235
                        have c235b1 : (((rd_T23 t475 (rd t479 x697_11)).f0) != ((rd_T23 t475 x681_10).f0)) = false := bne_eq_false_iff_eq.mpr c235
                        clear c235
                        by_cases c236 : (rd t479 x697_11) > x681_10
                        ·rw [if_pos c236] at H
                         have c236b0 : decide (x681_10 < (rd t479 x697_11)) = true := decide_eq_true c236
                         clear c236
                         exact absurd (Option.some.inj H).symm (by rw [HR_.out]; decide)
                        ·rw [if_neg c236] at H
                         have c236b0 : decide (x681_10 < (rd t479 x697_11)) = false := decide_eq_false c236
                         clear c236
                         have H' := Aside0.mk H
                         clear H
                         have p505 : 0 ≤ (x697_11 : Int) := of_decide_eq_true (by first | (with_reducible assumption) | assumption)
                         have q505 : x697_11 < (t479.length : Int) := of_decide_eq_true (by first | (with_reducible assumption) | assumption)
                         obtain ⟨ad505, e505, hx505_0⟩ := Kd.at_int (Kd.R_reads' HO_695.out).2.2 x697_11 p505 q505
                         cases e505
                         replace p505 := eq_true p505
                         replace q505 := eq_true q505
                         have p506 : 0 ≤ ((rd t479 x697_11) : Int) := of_decide_eq_true (by first | (with_reducible assumption) | assumption)
                         have q506 : (rd t479 x697_11) < (t475.length : Int) := of_decide_eq_true (by first | (with_reducible assumption) | assumption)
                         obtain ⟨ad506, e506, hx506_0, hx506_1⟩ := at_T23 (Kd.R_reads' HO_58.out).2.2 (rd t479 x697_11) p506 q506
                         obtain rfl : ad502 = ad506 := (by injection e506)
                         replace p506 := eq_true p506
                         replace q506 := eq_true q506
                         have hnb237 := NB503_418.out
                         have hnc237 := NB418_503.out
                         have hnb238 := NB503_419.out
                         have hnc238 := NB419_503.out
                         have hcz239_0 : wr.cell? ⟨gb503, 0, none⟩ = some (.int .i64 ((rd_T23 t475 x681_10).f0)) := (blk_cell BK503.out 0).trans rfl
                         have hcz239_1 : wr.cell? ⟨gb503, 1, none⟩ = some (.int .i64 ((rd_T23 t475 x681_10).f1)) := (blk_cell BK503.out 1).trans rfl
                         have hfz239_0 := blk_frozen BK503.out 0
                         have hfz239_1 := blk_frozen BK503.out 1
                         have p507 : 0 ≤ ((rd t479 x697_11) : Int) := of_decide_eq_true (by first | (with_reducible assumption) | assumption)
                         have q507 : (rd t479 x697_11) < (t475.length : Int) := of_decide_eq_true (by first | (with_reducible assumption) | assumption)
                         obtain ⟨ad507, e507, hx507_0, hx507_1⟩ := at_T23 (Kd.R_reads' HO_58.out).2.2 (rd t479 x697_11) p507 q507
                         obtain rfl : ad502 = ad507 := (by injection e507)
                         replace p507 := eq_true p507
                         replace q507 := eq_true q507
                         go_wp2
                         repeat (go_quiet (fail); try go_wp2)
                         go_roundg k11
                         case measure => have := HJ11.out; have := HJ52.out; have := HJ69.out; have := HJ119.out; have := HJ150.out; have := HJ173.out; have := HJ191.out; have := HK8.out; have := HJ211.out; have := HK10.out; have := HK11.out; omega
                         case rel => exact ⟨(wrap64 (x697_11 + 1)), (by first | rfl | (simp; done) | (simp [*]; done)), H', ⟨by have := HJ11.out; have := HJ52.out; have := HJ69.out; have := HJ119.out; have := HJ150.out; have := HJ173.out; have := HJ191.out; have := HK8.out; have := HJ211.out; have := HK10.out; have := HK11.out; omega⟩, ⟨by (with_reducible repeat (first | apply Kd.R_alloc | apply Kd.R_drewN | apply Kd.R_drew)); exact HO_58.out⟩, ⟨by (with_reducible repeat (first | apply Kd.R_alloc | apply Kd.R_drewN | apply Kd.R_drew)); exact HO_60.out⟩, ⟨by (with_reducible repeat (first | apply Kd.R_alloc | apply Kd.R_drewN | apply Kd.R_drew)); exact HO_679.out⟩, ⟨by (with_reducible repeat (first | apply Kd.R_alloc | apply Kd.R_drewN | apply Kd.R_drew)); exact HO_695.out⟩, ⟨by (with_reducible repeat (first | refine blk_drewN ?_ _ | refine blk_drew ?_ | refine blk_alloc ?_ _)); exact BK418.out⟩, ⟨by (with_reducible repeat (first | refine blk_drewN ?_ _ | refine blk_drew ?_ | refine blk_alloc ?_ _)); exact BK419.out⟩, ⟨by (with_reducible repeat (first | refine blk_drewN ?_ _ | refine blk_drew ?_ | refine blk_alloc ?_ _)); exact BK503.out⟩, ⟨by repeat (first | (with_reducible first | exact HB.out | apply below_alloc | apply pw_below_drewN | apply below_drew1 | refine below_set ?_ GE418.out | refine below_set ?_ GE419.out | refine below_set ?_ GE503.out) | exact HB.out)⟩⟩
                       ·rw [if_neg c235] at H
                        have c235b0 : (((rd_T23 t475 (rd t479 x697_11)).f0) == ((rd_T23 t475 x681_10).f0)) = false := beq_eq_false_iff_ne.mpr c235
                        have c235b1 : (((rd_T23 t475 (rd t479 x697_11)).f0) != ((rd_T23 t475 x681_10).f0)) = true := bne_iff_ne.mpr c235
                        have H' := Aside0.mk H
                        clear H
                        have p505 : 0 ≤ (x697_11 : Int) := of_decide_eq_true (by first | (with_reducible assumption) | assumption)
                        have q505 : x697_11 < (t479.length : Int) := of_decide_eq_true (by first | (with_reducible assumption) | assumption)
                        obtain ⟨ad505, e505, hx505_0⟩ := Kd.at_int (Kd.R_reads' HO_695.out).2.2 x697_11 p505 q505
                        cases e505
                        replace p505 := eq_true p505
                        replace q505 := eq_true q505
                        have p506 : 0 ≤ ((rd t479 x697_11) : Int) := of_decide_eq_true (by first | (with_reducible assumption) | assumption)
                        have q506 : (rd t479 x697_11) < (t475.length : Int) := of_decide_eq_true (by first | (with_reducible assumption) | assumption)
                        obtain ⟨ad506, e506, hx506_0, hx506_1⟩ := at_T23 (Kd.R_reads' HO_58.out).2.2 (rd t479 x697_11) p506 q506
                        obtain rfl : ad502 = ad506 := (by injection e506)
                        replace p506 := eq_true p506
                        replace q506 := eq_true q506
                        have hnb240 := NB503_418.out
                        have hnc240 := NB418_503.out
                        have hnb241 := NB503_419.out
                        have hnc241 := NB419_503.out
                        have hcz242_0 : wr.cell? ⟨gb503, 0, none⟩ = some (.int .i64 ((rd_T23 t475 x681_10).f0)) := (blk_cell BK503.out 0).trans rfl
                        have hcz242_1 : wr.cell? ⟨gb503, 1, none⟩ = some (.int .i64 ((rd_T23 t475 x681_10).f1)) := (blk_cell BK503.out 1).trans rfl
                        have hfz242_0 := blk_frozen BK503.out 0
                        have hfz242_1 := blk_frozen BK503.out 1
                        have p507 : 0 ≤ ((rd t479 x697_11) : Int) := of_decide_eq_true (by first | (with_reducible assumption) | assumption)
                        have q507 : (rd t479 x697_11) < (t475.length : Int) := of_decide_eq_true (by first | (with_reducible assumption) | assumption)
                        obtain ⟨ad507, e507, hx507_0, hx507_1⟩ := at_T23 (Kd.R_reads' HO_58.out).2.2 (rd t479 x697_11) p507 q507
                        obtain rfl : ad502 = ad507 := (by injection e507)
                        replace p507 := eq_true p507
                        replace q507 := eq_true q507
                        go_wp2
                        repeat (go_quiet (fail); try go_wp2)
                        go_roundg k11
                        case measure => have := HJ11.out; have := HJ52.out; have := HJ69.out; have := HJ119.out; have := HJ150.out; have := HJ173.out; have := HJ191.out; have := HK8.out; have := HJ211.out; have := HK10.out; have := HK11.out; omega
                        case rel => exact ⟨(wrap64 (x697_11 + 1)), (by first | rfl | (simp; done) | (simp [*]; done)), H', ⟨by have := HJ11.out; have := HJ52.out; have := HJ69.out; have := HJ119.out; have := HJ150.out; have := HJ173.out; have := HJ191.out; have := HK8.out; have := HJ211.out; have := HK10.out; have := HK11.out; omega⟩, ⟨by (with_reducible repeat (first | apply Kd.R_alloc | apply Kd.R_drewN | apply Kd.R_drew)); exact HO_58.out⟩, ⟨by (with_reducible repeat (first | apply Kd.R_alloc | apply Kd.R_drewN | apply Kd.R_drew)); exact HO_60.out⟩, ⟨by (with_reducible repeat (first | apply Kd.R_alloc | apply Kd.R_drewN | apply Kd.R_drew)); exact HO_679.out⟩, ⟨by (with_reducible repeat (first | apply Kd.R_alloc | apply Kd.R_drewN | apply Kd.R_drew)); exact HO_695.out⟩, ⟨by (with_reducible repeat (first | refine blk_drewN ?_ _ | refine blk_drew ?_ | refine blk_alloc ?_ _)); exact BK418.out⟩, ⟨by (with_reducible repeat (first | refine blk_drewN ?_ _ | refine blk_drew ?_ | refine blk_alloc ?_ _)); exact BK419.out⟩, ⟨by (with_reducible repeat (first | refine blk_drewN ?_ _ | refine blk_drew ?_ | refine blk_alloc ?_ _)); exact BK503.out⟩, ⟨by repeat (first | (with_reducible first | exact HB.out | apply below_alloc | apply pw_below_drewN | apply below_drew1 | refine below_set ?_ GE418.out | refine below_set ?_ GE419.out | refine below_set ?_ GE503.out) | exact HB.out)⟩⟩
                     ·rw [if_neg c233] at H
                      exact absurd H (by simp)
                    ·rw [if_neg c232] at H
                     exact absurd H (by simp)
                   ·rw [if_neg c231] at H
                    exact absurd H (by simp)
                  ·rw [if_neg c230] at H
                   exact absurd H (by simp)
                 ·rw [if_neg c229] at H
                  have c229b0 : decide (x697_11 < (t479.length : Int)) = false := decide_eq_false c229
                  clear c229
                  have H' := Aside0.mk H
                  clear H
                  go_wp2
                  repeat (go_quiet (fail); try go_wp2)
                  go_roundg k11
                  case measure => have := HJ11.out; have := HJ52.out; have := HJ69.out; have := HJ119.out; have := HJ150.out; have := HJ173.out; have := HJ191.out; have := HK8.out; have := HJ211.out; have := HK10.out; have := HK11.out; omega
                  case rel => exact ⟨(wrap64 (x681_10 + 1)), (by first | rfl | (simp; done) | (simp [*]; done)), H', ⟨by have := HJ11.out; have := HJ52.out; have := HJ69.out; have := HJ119.out; have := HJ150.out; have := HJ173.out; have := HJ191.out; have := HK8.out; have := HJ211.out; have := HK10.out; have := HK11.out; omega⟩, ⟨by (with_reducible repeat (first | apply Kd.R_alloc | apply Kd.R_drewN | apply Kd.R_drew)); exact Kd.R_mono HO_58.out (fun _ hk => ⟨hk.1, hk.2.1⟩)⟩, ⟨by (with_reducible repeat (first | apply Kd.R_alloc | apply Kd.R_drewN | apply Kd.R_drew)); exact HO_60.out⟩, ⟨by (with_reducible repeat (first | apply Kd.R_alloc | apply Kd.R_drewN | apply Kd.R_drew)); exact Kd.R_mono HO_679.out (fun _ hk => ⟨hk.1, hk.2.1⟩)⟩, ⟨by (with_reducible repeat (first | refine blk_drewN ?_ _ | refine blk_drew ?_ | refine blk_alloc ?_ _)); exact BK418.out⟩, ⟨by (with_reducible repeat (first | refine blk_drewN ?_ _ | refine blk_drew ?_ | refine blk_alloc ?_ _)); exact BK419.out⟩, ⟨by repeat (first | (with_reducible first | exact HB.out | apply below_alloc | apply pw_below_drewN | apply below_drew1 | refine below_set ?_ GE418.out | refine below_set ?_ GE419.out | refine below_set ?_ GE503.out) | exact HB.out)⟩⟩
            ·rw [if_neg c217] at H
             exact absurd H (by simp)
           ·rw [if_neg c216] at H
            exact absurd H (by simp)
          ·rw [if_neg c215] at H
           have c215b0 : decide (x681_10 < (t475.length : Int)) = false := decide_eq_false c215
           clear c215
           obtain rfl := Option.some.inj H
           go_wp2
           repeat (go_quiet (fail); try go_wp2)
           go_ret
           exact ⟨by first | rfl | (simp [errW_none, errW_some] <;> rfl) | (simp [*, errW_none, errW_some] <;> rfl), by repeat (first | (with_reducible first | exact HB.out | apply below_alloc | apply pw_below_drewN | apply below_drew1 | refine below_set ?_ GE418.out | refine below_set ?_ GE419.out) | exact HB.out)⟩
end Go.Proofs.Ytnbmplhcbliclaa.QP
