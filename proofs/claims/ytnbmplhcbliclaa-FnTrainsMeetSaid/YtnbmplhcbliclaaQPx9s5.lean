-- WRITTEN BY a program of this session (wip/xprint.py, over the kit's print): Lean checks it.
import Derived.Test.YtnbmplhcbliclaaQPx9d
import Derived.Test.YtnbmplhcbliclaaQPx9s6
namespace Go.Proofs.Ytnbmplhcbliclaa.QP
open Go.Proofs.Ytnbmplhcbliclaa.X Go.RowKit Go.Proofs.YtnbmplhcbliclaaW.PrintWords Go.Proofs.YtnbmplhcbliclaaW.PrintLast Go.Proofs.YtnbmplhcbliclaaW.PrintMore
attribute [local go_sem] max2_int min2_int max_two min_two max_three min_three max_four min_four   -- for this text's walks alone
set_option linter.unusedVariables false
set_option linter.unusedSimpArgs false

set_option maxHeartbeats 16000000 in
set_option maxRecDepth 1000000 in
theorem laws_FnTrainsMeet.seg5 {v0_ v1_ v2_ v3_ v5_ v6_ v7_ v8_ v9_ v10_ v11_ v12_ v13_ v14_ v15_ v16_ v17_ v18_ v19_ v20_ v21_ v22_ v23_ v24_ v25_ v26_ v27_ v28_ v29_ v30_ v31_ v32_ v33_ v34_ v35_ v36_ v37_ v38_ v39_ v40_ v41_ v42_ v43_ v44_ v45_ v46_ v47_ v48_ v55_ v56_ v57_ v62_ v63_ v65_ v66_ v67_ v68_ v69_ v70_ v71_ v72_ v73_ v79_ v81_ v82_ v83_ v84_ v85_ v86_ v87_ v88_ v89_ v90_ v91_ v92_ v93_ v94_ v95_ v96_ v97_ v98_ v99_ v100_ v101_ v102_ v103_ v104_ v105_ v106_ v107_ v108_ v109_ v110_ v111_ v112_ v113_ v114_ v115_ v116_ v117_ v118_ v119_ v120_ v121_ v122_ v123_ v124_ v125_ v126_ v127_ v128_ v129_ v130_ v131_ v132_ v133_ v134_ v135_ v136_ v137_ v138_ v139_ v140_ v141_ v142_ v143_ v144_ v145_ v146_ v147_ v148_ v149_ v150_ v151_ v152_ v153_ v154_ v155_ v156_ v157_ v158_ v159_ v160_ v161_ v162_ v163_ v164_ v165_ v166_ v167_ v168_ v169_ v170_ v171_ v172_ v173_ v174_ v175_ v176_ v177_ v178_ v179_ v180_ v181_ v182_ v183_ v184_ v185_ v186_ v187_ v188_ v189_ v190_ v191_ v192_ v193_ v194_ v195_ v196_ v197_ v198_ v199_ v200_ v201_ v202_ v203_ v204_ v205_ v206_ v207_ v208_ v209_ v210_ v211_ v212_ v213_ v214_ v215_ v216_ v217_ v218_ v219_ v220_ v221_ v222_ v223_ v224_ v225_ v226_ v227_ v228_ v229_ v230_ v231_ v232_ v233_ v234_ v235_ v236_ v237_ v238_ v239_ v240_ v241_ v242_ v243_ v244_ v245_ v246_ v247_ v248_ v249_ v250_ v251_ v252_ v253_ v254_ v255_ v256_ v257_ v258_ v259_ v260_ v261_ v262_ v263_ v264_ v265_ v266_ v267_ v268_ v269_ v270_ v271_ v272_ v273_ v274_ v275_ v276_ v277_ v278_ v279_ v280_ v281_ v282_ v283_ v284_ v285_ v286_ v287_ v288_ v289_ v290_ v291_ v292_ v293_ v294_ v295_ v296_ v297_ v298_ v299_ v300_ v301_ v302_ v303_ v304_ v305_ v306_ v307_ v308_ v309_ v310_ v311_ v312_ v313_ v314_ v315_ v316_ v317_ v318_ v319_ v320_ v321_ v322_ v323_ v324_ v325_ v326_ v327_ v328_ v329_ v330_ v331_ v332_ v333_ v334_ v335_ v336_ v337_ v338_ v339_ v340_ v341_ v342_ v343_ v344_ v345_ v346_ v347_ v348_ v349_ v350_ v351_ v352_ v353_ v354_ v355_ v356_ v357_ v358_ v359_ v360_ v361_ v362_ v363_ v364_ v365_ v366_ v367_ v368_ v369_ v370_ v371_ v372_ v373_ v374_ v375_ v376_ v377_ v378_ v379_ v380_ v381_ v382_ v383_ v384_ v385_ v386_ v387_ v388_ v389_ v390_ v391_ v392_ v393_ v394_ v395_ v396_ v397_ v398_ v399_ v400_ v401_ v402_ v403_ v404_ v405_ v406_ v407_ v408_ v409_ v410_ v411_ v412_ v413_ v414_ v415_ v416_ v417_ v418_ v419_ v420_ v421_ v422_ v423_ v424_ v425_ v426_ v427_ v428_ v429_ v430_ v431_ v432_ v433_ v434_ v435_ v436_ v437_ v438_ v439_ v440_ v441_ v442_ v443_ v444_ v445_ v446_ v447_ v448_ v449_ v450_ v451_ v452_ v453_ v454_ v455_ v456_ v457_ v458_ v459_ v460_ v461_ v462_ v463_ v464_ v465_ v466_ v467_ v468_ v469_ v470_ v471_ v472_ v473_ v474_ v475_ v476_ v477_ v478_ v479_ v480_ v481_ v482_ v483_ v484_ v485_ v486_ v487_ v488_ v489_ v490_ v491_ v492_ v493_ v494_ v495_ v496_ v497_ v498_ v499_ v500_ v501_ v502_ v503_ v504_ v505_ v506_ v507_ v508_ v509_ v510_ v511_ v512_ v513_ v514_ v515_ v516_ v517_ v518_ v519_ v520_ v521_ v522_ v523_ v524_ v525_ v526_ v527_ v528_ v529_ v530_ v531_ v532_ v533_ v534_ v535_ v536_ v537_ v538_ v539_ v540_ v541_ v542_ v543_ v544_ v545_ v546_ v547_ v548_ v549_ v550_ v551_ v552_ v553_ v554_ v555_ v556_ v557_ v558_ v559_ v560_ v561_ v562_ v563_ v564_ v565_ v566_ v567_ v568_ v569_ v570_ v571_ v572_ v573_ v574_ v575_ v576_ v577_ v578_ v579_ v580_ v581_ v582_ v583_ v584_ v585_ v586_ v587_ v588_ v589_ v590_ v591_ v592_ v593_ v594_ v595_ v596_ v597_ v598_ v599_ v600_ v601_ v602_ v603_ v604_ v605_ v606_ v607_ v608_ v609_ v610_ v611_ v612_ v613_ v614_ v615_ v616_ v617_ : Go.Value} (k : Nat) (l0 l1 : List Int) (r : Bool) (w : World) (HR_ : Aside0 (r = Bool.true)) (hu23 : Program.underlying Try.prog (23 : Nat) = Option.some (TypeDesc.struct #[Field.mk "Length" (3 : Nat) (0 : Nat) Bool.false "" "" (0 : Nat), Field.mk "Rate" (3 : Nat) (1 : Nat) Bool.false "" "" (8 : Nat)])) (t413 t414 t415 t416 : Int) (gb418 : Nat) (GW418 GE418 : Aside0 (Array.size (World.heap w) ≤ gb418)) (gb419 : Nat) (GW419 GE419 : Aside0 (Array.size (World.heap w) ≤ gb419)) (hnb16 : gb418 ≠ gb419) (hnc16 : gb419 ≠ gb418) (kj11 : Nat) (HJ11 : Aside0 (kj11 + (1 : Nat) ≤ k)) (kj52 : Nat) (HJ52 : Aside0 (kj52 + (1 : Nat) ≤ kj11)) (kj69 : Nat) (HJ69 : Aside0 (kj69 + (1 : Nat) ≤ kj52)) (kj119 : Nat) (HJ119 : Aside0 (kj119 + (1 : Nat) ≤ kj69)) (t466 t467 t468 t469 t470 : Int) (t471 : Bool) (t475 : List S23) (t476 : Int) (t479 : List Int) (t480 t487 : Bool) (nd : Nat) (Ao156 : Option Addr) (co156 : Nat) (v481 : Value) (kj150 : Nat) (HJ150 : Aside0 (kj150 + (1 : Nat) ≤ kj119)) (wc : World) (u4 : Value) (kq : Nat) (HA : Aside0 (laws_FnTrainsMeet.j7 kq t466 t467 t468 t469 t470 t471 t475 t476 t479 t480 t487 = Option.some r)) (HJ173 : Aside0 (kq ≤ kj150)) (HO_58 : Aside0 (Kd.R k23 (23 : Nat) wc (Array.size (World.heap w)) (fun k_ => k_ ≠ gb418 ∧ k_ ≠ gb419) (Value.slice Ao156 (List.length t475) co156) t475)) (HO_60 : Aside0 (Kd.R (Kd.int IntKind.i64) (3 : Nat) wc (Array.size (World.heap w)) (fun x => True) v481 t479)) (BK418 : Aside0 ((World.heap wc)[gb418]? = Option.some (Obj.cells #[Value.int IntKind.i64 t413, Value.int IntKind.i64 t414] (23 : TypeId)))) (BK419 : Aside0 ((World.heap wc)[gb419]? = Option.some (Obj.cells #[Value.int IntKind.i64 t415, Value.int IntKind.i64 t416] (23 : TypeId)))) (HB : Aside0 (Below (Array.size (World.heap w)) w wc)) :
    Go.Code.wp Try.prog (laws_FnTrainsMeet.behind 551 laws_FnTrainsMeet.body) (bodyPost Try.prog Try.f4 (fun e w' => e = .returned (.bool r) ∧ Below w.heap.size w w')) (Go.Act.mk #[v0_, v1_, v2_, v3_, u4, v5_, v6_, v7_, v8_, v9_, v10_, v11_, v12_, v13_, v14_, v15_, v16_, v17_, v18_, v19_, v20_, v21_, v22_, v23_, v24_, v25_, v26_, v27_, v28_, v29_, v30_, v31_, v32_, v33_, v34_, v35_, v36_, v37_, v38_, v39_, v40_, v41_, v42_, v43_, v44_, v45_, v46_, v47_, v48_, Value.int IntKind.i64 t466, Value.int IntKind.i64 t467, Value.int IntKind.i64 t468, Value.int IntKind.i64 t469, Value.int IntKind.i64 t470, Value.bool t471, v55_, v56_, v57_, Value.slice Ao156 (List.length t475) co156, Value.int IntKind.i64 t476, v481, Value.bool t480, v62_, v63_, Value.bool t487, v65_, v66_, v67_, v68_, v69_, v70_, v71_, v72_, v73_, undef, undef, undef, undef, undef, v79_, undef, v81_, v82_, v83_, v84_, v85_, v86_, v87_, v88_, v89_, v90_, v91_, v92_, v93_, v94_, v95_, v96_, v97_, v98_, v99_, v100_, v101_, v102_, v103_, v104_, v105_, v106_, v107_, v108_, v109_, v110_, v111_, v112_, v113_, v114_, v115_, v116_, v117_, v118_, v119_, v120_, v121_, v122_, v123_, v124_, v125_, v126_, v127_, v128_, v129_, v130_, v131_, v132_, v133_, v134_, v135_, v136_, v137_, v138_, v139_, v140_, v141_, v142_, v143_, v144_, v145_, v146_, v147_, v148_, v149_, v150_, v151_, v152_, v153_, v154_, v155_, v156_, v157_, v158_, v159_, v160_, v161_, v162_, v163_, v164_, v165_, v166_, v167_, v168_, v169_, v170_, v171_, v172_, v173_, v174_, v175_, v176_, v177_, v178_, v179_, v180_, v181_, v182_, v183_, v184_, v185_, v186_, v187_, v188_, v189_, v190_, v191_, v192_, v193_, v194_, v195_, v196_, v197_, v198_, v199_, v200_, v201_, v202_, v203_, v204_, v205_, v206_, v207_, v208_, v209_, v210_, v211_, v212_, v213_, v214_, v215_, v216_, v217_, v218_, v219_, v220_, v221_, v222_, v223_, v224_, v225_, v226_, v227_, v228_, v229_, v230_, v231_, v232_, v233_, v234_, v235_, v236_, v237_, v238_, v239_, v240_, v241_, v242_, v243_, v244_, v245_, v246_, v247_, v248_, v249_, v250_, v251_, v252_, v253_, v254_, v255_, v256_, v257_, v258_, v259_, v260_, v261_, v262_, v263_, v264_, v265_, v266_, v267_, v268_, v269_, v270_, v271_, v272_, v273_, v274_, v275_, v276_, v277_, v278_, v279_, v280_, v281_, v282_, v283_, v284_, v285_, v286_, v287_, v288_, v289_, v290_, v291_, v292_, v293_, v294_, v295_, v296_, v297_, v298_, v299_, v300_, v301_, v302_, v303_, v304_, v305_, v306_, v307_, v308_, v309_, v310_, v311_, v312_, v313_, v314_, v315_, v316_, v317_, v318_, v319_, v320_, v321_, v322_, v323_, v324_, v325_, v326_, v327_, v328_, v329_, v330_, v331_, v332_, v333_, v334_, v335_, v336_, v337_, v338_, v339_, v340_, v341_, v342_, v343_, v344_, v345_, v346_, v347_, v348_, v349_, v350_, v351_, v352_, v353_, v354_, v355_, v356_, v357_, v358_, v359_, v360_, v361_, v362_, v363_, v364_, v365_, v366_, v367_, v368_, v369_, v370_, v371_, v372_, v373_, v374_, v375_, v376_, v377_, v378_, v379_, v380_, v381_, v382_, v383_, v384_, v385_, v386_, v387_, v388_, v389_, v390_, v391_, v392_, v393_, v394_, v395_, v396_, v397_, v398_, v399_, v400_, v401_, v402_, v403_, v404_, v405_, v406_, v407_, v408_, v409_, v410_, v411_, v412_, v413_, v414_, v415_, v416_, v417_, v418_, v419_, v420_, v421_, v422_, v423_, v424_, v425_, v426_, v427_, v428_, v429_, v430_, v431_, v432_, v433_, v434_, v435_, v436_, v437_, v438_, v439_, v440_, v441_, v442_, v443_, v444_, v445_, v446_, v447_, v448_, v449_, v450_, v451_, v452_, v453_, v454_, v455_, v456_, v457_, v458_, v459_, v460_, v461_, v462_, v463_, v464_, v465_, v466_, v467_, v468_, v469_, v470_, v471_, v472_, v473_, v474_, v475_, v476_, v477_, v478_, v479_, v480_, v481_, v482_, v483_, v484_, v485_, v486_, v487_, v488_, v489_, v490_, v491_, v492_, v493_, v494_, v495_, v496_, v497_, v498_, v499_, v500_, v501_, v502_, v503_, v504_, v505_, v506_, v507_, v508_, v509_, v510_, v511_, v512_, v513_, v514_, v515_, v516_, v517_, v518_, v519_, v520_, v521_, v522_, v523_, v524_, v525_, v526_, v527_, v528_, v529_, v530_, v531_, v532_, v533_, v534_, v535_, v536_, v537_, v538_, v539_, v540_, v541_, v542_, v543_, v544_, v545_, v546_, v547_, v548_, v549_, v550_, v551_, v552_, v553_, v554_, v555_, v556_, v557_, v558_, v559_, v560_, v561_, v562_, v563_, v564_, v565_, v566_, v567_, v568_, v569_, v570_, v571_, v572_, v573_, v574_, v575_, v576_, v577_, v578_, v579_, v580_, v581_, v582_, v583_, v584_, v585_, v586_, v587_, v588_, v589_, v590_, v591_, v592_, v593_, v594_, v595_, v596_, v597_, v598_, v599_, v600_, v601_, v602_, v603_, v604_, v605_, v606_, v607_, v608_, v609_, v610_, v611_, v612_, v613_, v614_, v615_, v616_, v617_, undef, undef, undef, undef, undef, undef, undef, undef, undef, undef, undef, undef, undef, undef, undef, undef, undef, undef, undef, undef, undef, undef, undef, undef, undef, undef, undef, undef, undef, undef, undef, undef, undef, undef, undef, undef, undef, undef, undef, undef, undef, undef, undef, undef, undef, undef, undef, undef, undef, undef, undef, undef, undef, undef, undef, undef, undef, undef, undef, undef, undef, undef, undef, undef, undef, undef, undef, undef, undef, undef, undef, undef, undef, undef, undef, undef, undef, undef, undef, undef, undef, undef, undef, undef, undef, undef, undef, undef, undef, undef, undef, undef, undef, undef, undef, undef, undef, undef, undef, undef, undef, undef, undef, undef, undef, undef, undef, undef] []) wc := by
  conv => arg 2; whnf
  (try conv => arg 4; dsimp only)
  cases kq with
  | zero => exact absurd HA.out (by simp [laws_FnTrainsMeet.j7])
  | succ kj173 =>
   have H := HA.out
   clear HA
   simp only [laws_FnTrainsMeet.j7] at H
   have HC192 := Aside0.mk H
   clear H
   go_upto_region 46 with (fail)
   repeat (go_quiet (fail); go_upto_region 46 with (fail))
   go_cut [629] from 100000 (fun v629 wc => ∃ (kq : Nat) (x629_191 : Bool), v629 = .bool x629_191 ∧ Aside0 (laws_FnTrainsMeet.j8 kq t475 t476 t479 t480 t487 x629_191 = some r) ∧ Aside0 (kq ≤ kj173) ∧ Aside0 (Kd.R k23 23 wc w.heap.size (fun k_ => k_ ≠ gb418 ∧ k_ ≠ gb419) (.slice Ao156 t475.length co156) t475) ∧ Aside0 (Kd.R (Kd.int .i64) 3 wc w.heap.size (fun _ => True) v481 t479) ∧ Aside0 (wc.heap[gb418]? = some (.cells #[.int .i64 t413, .int .i64 t414] 23 (0, 0))) ∧ Aside0 (wc.heap[gb419]? = some (.cells #[.int .i64 t415, .int .i64 t416] 23 (0, 0))) ∧ Aside0 (Below w.heap.size w wc))
   case first =>
    (try conv => arg 2; dsimp only [List.append_eq, List.cons_append, List.nil_append])
    have H := HC192.out
    clear HC192
    by_cases c193 : t471 = true
    ·subst c193
     have H1 : ((laws_qIs.f kj173 t469 t470 (wrap64 (t466 + (wrap64 (t467 * t468)))) 2).bind fun t497 => (laws_FnTrainsMeet.j8 kj173 t475 t476 t479 t480 t487 (!t497))) = some r := by rw [if_pos rfl] at H; exact H
     clear H
     have H := H1
     clear H1
     replace H := Option.bind_eq_some_iff.mp H
     obtain ⟨t497, A1940, H⟩ := H
     replace H : (laws_FnTrainsMeet.j8 kj173 t475 t476 t479 t480 t487 (!t497)) = some r := H
     have A194 := Aside0.mk A1940
     clear A1940
     have H' := Aside0.mk H
     clear H
     go_wp2_with (first | (go_at_call 11; (with_reducible refine (laws_qIs.calls kj173 t469 t470 (wrap64 (t466 + (wrap64 (t467 * t468)))) 2 t497 _ A194.out).mono ?_); rintro e w' ⟨rfl, ⟨nd, rfl⟩⟩; (try first | exact ⟨rfl, _, World.drewN_drewN _ _ _⟩ | exact ⟨rfl, _, Eq.trans (World.drewN_drewN _ _ _) (congrArg (World.drewN _) (Nat.add_assoc _ _ _))⟩)))
     repeat (go_quiet (first | (go_at_call 11; (with_reducible refine (laws_qIs.calls kj173 t469 t470 (wrap64 (t466 + (wrap64 (t467 * t468)))) 2 t497 _ A194.out).mono ?_); rintro e w' ⟨rfl, ⟨nd, rfl⟩⟩; (try first | exact ⟨rfl, _, World.drewN_drewN _ _ _⟩ | exact ⟨rfl, _, Eq.trans (World.drewN_drewN _ _ _) (congrArg (World.drewN _) (Nat.add_assoc _ _ _))⟩))); try go_wp2_with (first | (go_at_call 11; (with_reducible refine (laws_qIs.calls kj173 t469 t470 (wrap64 (t466 + (wrap64 (t467 * t468)))) 2 t497 _ A194.out).mono ?_); rintro e w' ⟨rfl, ⟨nd, rfl⟩⟩; (try first | exact ⟨rfl, _, World.drewN_drewN _ _ _⟩ | exact ⟨rfl, _, Eq.trans (World.drewN_drewN _ _ _) (congrArg (World.drewN _) (Nat.add_assoc _ _ _))⟩))))
     go_meet
     case rel => exact ⟨_, (!t497), (by first | rfl | (simp; done) | (simp [*]; done)), H', ⟨by have := HJ11.out; have := HJ52.out; have := HJ69.out; have := HJ119.out; have := HJ150.out; have := HJ173.out; first | omega | exact Nat.le_refl _⟩, ⟨by (with_reducible repeat (first | apply Kd.R_alloc | apply Kd.R_drewN | apply Kd.R_drew)); exact HO_58.out⟩, ⟨by (with_reducible repeat (first | apply Kd.R_alloc | apply Kd.R_drewN | apply Kd.R_drew)); exact HO_60.out⟩, ⟨by (with_reducible repeat (first | refine blk_drewN ?_ _ | refine blk_drew ?_ | refine blk_alloc ?_ _)); exact BK418.out⟩, ⟨by (with_reducible repeat (first | refine blk_drewN ?_ _ | refine blk_drew ?_ | refine blk_alloc ?_ _)); exact BK419.out⟩, ⟨by repeat (first | (with_reducible first | exact HB.out | apply below_alloc | apply pw_below_drewN | apply below_drew1 | refine below_set ?_ GE418.out | refine below_set ?_ GE419.out) | exact HB.out)⟩⟩
    ·replace c193 := Bool.eq_false_iff.mpr c193
     subst c193
     have H1 : (laws_FnTrainsMeet.j8 kj173 t475 t476 t479 t480 t487 false) = some r := by rw [if_neg (show ¬ (false = true) by decide)] at H; exact H
     clear H
     have H := H1
     clear H1
     have H' := Aside0.mk H
     clear H
     go_wp2
     repeat (go_quiet (fail); try go_wp2)
     go_meet
     case rel => exact ⟨_, (false), (by first | rfl | (simp; done) | (simp [*]; done)), H', ⟨by have := HJ11.out; have := HJ52.out; have := HJ69.out; have := HJ119.out; have := HJ150.out; have := HJ173.out; first | omega | exact Nat.le_refl _⟩, ⟨by (with_reducible repeat (first | apply Kd.R_alloc | apply Kd.R_drewN | apply Kd.R_drew)); exact HO_58.out⟩, ⟨by (with_reducible repeat (first | apply Kd.R_alloc | apply Kd.R_drewN | apply Kd.R_drew)); exact HO_60.out⟩, ⟨by (with_reducible repeat (first | refine blk_drewN ?_ _ | refine blk_drew ?_ | refine blk_alloc ?_ _)); exact BK418.out⟩, ⟨by (with_reducible repeat (first | refine blk_drewN ?_ _ | refine blk_drew ?_ | refine blk_alloc ?_ _)); exact BK419.out⟩, ⟨by repeat (first | (with_reducible first | exact HB.out | apply below_alloc | apply pw_below_drewN | apply below_drew1 | refine below_set ?_ GE418.out | refine below_set ?_ GE419.out) | exact HB.out)⟩⟩
   case rest =>
    clear HC192
    (try clear c193)
    obtain ⟨kq, x629_191, rfl, HA, HJ191, HO_58, HO_60, BK418, BK419, HB⟩ := hcut
    cases kq with
    | zero => exact absurd HA.out (by simp [laws_FnTrainsMeet.j8])
    | succ kj191 =>
     have H := HA.out
     clear HA
     simp only [laws_FnTrainsMeet.j8] at H
     by_cases c195 : x629_191 = true
     ·subst c195
      have H1 : (some false) = some r := by rw [if_pos rfl] at H; exact H
      clear H
      have H := H1
      clear H1
      exact absurd (Option.some.inj H).symm (by rw [HR_.out]; decide)
     ·replace c195 := Bool.eq_false_iff.mpr c195
      subst c195
      have H1 : (if t480 = true then (laws_FnTrainsMeet.l0 kj191 t475 t476 t479 t487 0 t479 (t479.length : Int) 0) else (some true)) = some r := by rw [if_neg (show ¬ (false = true) by decide)] at H; exact H
      clear H
      have H := H1
      clear H1
      by_cases c196 : t480 = true
      ·subst c196
       have H1 : (laws_FnTrainsMeet.l0 kj191 t475 t476 t479 t487 0 t479 (t479.length : Int) 0) = some r := by rw [if_pos rfl] at H; exact H
       clear H
       have H := H1
       clear H1
       have H' := Aside0.mk H
       clear H
       obtain ⟨Ao197, co197, eo197⟩ := Kd.R_slice HO_60.out
       subst eo197
       go_step
       go_step
       go_step
       go_step
       go_step
       exact laws_FnTrainsMeet.seg6 k l0 l1 r w HR_ hu23 t413 t414 t415 t416 gb418 GW418 GE418 gb419 GW419 GE419 hnb16 hnc16 kj11 HJ11 kj52 HJ52 kj69 HJ69 kj119 HJ119 t475 t476 t479 t487 nd Ao156 co156 kj150 HJ150 u4 kj173 HJ173 wc HO_58 BK418 BK419 HB kj191 HJ191 H' Ao197 co197 HO_60
      ·replace c196 := Bool.eq_false_iff.mpr c196
       subst c196
       have H1 : (some true) = some r := by rw [if_neg (show ¬ (false = true) by decide)] at H; exact H
       clear H
       have H := H1
       clear H1
       obtain rfl := Option.some.inj H
       go_wp2
       repeat (go_quiet (fail); try go_wp2)
       go_ret
       exact ⟨by first | rfl | (simp [errW_none, errW_some] <;> rfl) | (simp [*, errW_none, errW_some] <;> rfl), by repeat (first | (with_reducible first | exact HB.out | apply below_alloc | apply pw_below_drewN | apply below_drew1 | refine below_set ?_ GE418.out | refine below_set ?_ GE419.out) | exact HB.out)⟩
  
end Go.Proofs.Ytnbmplhcbliclaa.QP
