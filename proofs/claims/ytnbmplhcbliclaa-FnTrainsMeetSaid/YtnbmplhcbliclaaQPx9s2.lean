-- WRITTEN BY a program of this session (wip/xprint.py, over the kit's print): Lean checks it.
import Derived.Test.YtnbmplhcbliclaaQPx9d
import Derived.Test.YtnbmplhcbliclaaQPx9s3
namespace Go.Proofs.Ytnbmplhcbliclaa.QP
open Go.Proofs.Ytnbmplhcbliclaa.X Go.RowKit Go.Proofs.YtnbmplhcbliclaaW.PrintWords Go.Proofs.YtnbmplhcbliclaaW.PrintLast Go.Proofs.YtnbmplhcbliclaaW.PrintMore
attribute [local go_sem] max2_int min2_int max_two min_two max_three min_three max_four min_four   -- for this text's walks alone
set_option linter.unusedVariables false
set_option linter.unusedSimpArgs false

set_option maxHeartbeats 16000000 in
set_option maxRecDepth 1000000 in
theorem laws_FnTrainsMeet.seg2 {v0_ v2_ v3_ v8_ v9_ v10_ v11_ v12_ v13_ v14_ v15_ v16_ v17_ v18_ v19_ v20_ v21_ v22_ v23_ v24_ v25_ v26_ v27_ v31_ v32_ v33_ v34_ v35_ v36_ v37_ v38_ v79_ v81_ v82_ v83_ v84_ v85_ v86_ v87_ v88_ v89_ v90_ v91_ v92_ v93_ v94_ v95_ v96_ v97_ v98_ v99_ v100_ v101_ v102_ v103_ v104_ v105_ v106_ v107_ v108_ v109_ v110_ v111_ v112_ v113_ v114_ v115_ v116_ v117_ v118_ v119_ v120_ v121_ v122_ v123_ v124_ v125_ v126_ v127_ v128_ v129_ v130_ v131_ v132_ v133_ v134_ v135_ v136_ v137_ v138_ v139_ v140_ v141_ v142_ v143_ v144_ v145_ v146_ v147_ v148_ v149_ v150_ v151_ v152_ v153_ v154_ v155_ v156_ v157_ v158_ v159_ v160_ v161_ v162_ v163_ v164_ v165_ v166_ v167_ v168_ v169_ v170_ v171_ v172_ v173_ v174_ v175_ v176_ v177_ v178_ v179_ v180_ v181_ v182_ v183_ v184_ v185_ v186_ v187_ v188_ v189_ v190_ v191_ v192_ v193_ v194_ v195_ v196_ v197_ v198_ v199_ v200_ v201_ v202_ v203_ v204_ v205_ v206_ v207_ v208_ v209_ v210_ v211_ v212_ v213_ v214_ v215_ v216_ v217_ v218_ v219_ v220_ v221_ v222_ v223_ v224_ v225_ v226_ v227_ v228_ v229_ v230_ v231_ v232_ v233_ v234_ v235_ v236_ v237_ v238_ v239_ v240_ v241_ v242_ v243_ v244_ v245_ v246_ v247_ v248_ v249_ v250_ v251_ v252_ v253_ v254_ v255_ v256_ v257_ v258_ v259_ v260_ v261_ v262_ v263_ v264_ v265_ v266_ v267_ v268_ v269_ v270_ v271_ v272_ v273_ v274_ v275_ v276_ v277_ v278_ v279_ v280_ v281_ v282_ v283_ v284_ v285_ v286_ v287_ v288_ v289_ v290_ v291_ v292_ v293_ v294_ v295_ v296_ v297_ v298_ v299_ v300_ v301_ v302_ v303_ v304_ v305_ v306_ v307_ v308_ v309_ v310_ v311_ v312_ v313_ v314_ v315_ v316_ v317_ v318_ v319_ v320_ v321_ v322_ v323_ v324_ v325_ v326_ v327_ v328_ v329_ v330_ v331_ v332_ v333_ v334_ v335_ v336_ v337_ v338_ v339_ v340_ v341_ v342_ v343_ v344_ v345_ v346_ v347_ v348_ v349_ v350_ v351_ v352_ v353_ : Go.Value} (k : Nat) (l0 : List Int) (A1 : Option Addr) (c1 : Nat) (l1 : List Int) (r : Bool) (w : World) (HR_ : Aside0 (r = Bool.true)) (hu23 : Program.underlying Try.prog (23 : Nat) = Option.some (TypeDesc.struct #[Field.mk "Length" (3 : Nat) (0 : Nat) Bool.false "" "" (0 : Nat), Field.mk "Rate" (3 : Nat) (1 : Nat) Bool.false "" "" (8 : Nat)])) (HR1 : Aside0 (Kd.C (Kd.int IntKind.u8) w A1 (List.length l1) l1)) (HC1 : Aside0 (List.length l1 ≤ c1)) (t413 t414 t415 t416 t417 : Int) (t440 t441 : Int) (t442 : Bool) (nd gb418 : Nat) (GW418 GE418 : Aside0 (Array.size (World.heap w) ≤ gb418)) (gb419 : Nat) (GW419 GE419 : Aside0 (Array.size (World.heap w) ≤ gb419)) (NB418_419 : Aside0 (gb418 ≠ gb419)) (NB419_418 : Aside0 (gb419 ≠ gb418)) (hnb16 : gb418 ≠ gb419) (hnc16 : gb419 ≠ gb418) (kj11 : Nat) (HJ11 : Aside0 (kj11 + (1 : Nat) ≤ k)) (u4 : Value) (kj52 : Nat) (HJ52 : Aside0 (kj52 + (1 : Nat) ≤ kj11)) (wc : World) (BK418 : Aside0 ((World.heap wc)[gb418]? = Option.some (Obj.cells #[Value.int IntKind.i64 t413, Value.int IntKind.i64 t414] (23 : TypeId)))) (BK419 : Aside0 ((World.heap wc)[gb419]? = Option.some (Obj.cells #[Value.int IntKind.i64 t415, Value.int IntKind.i64 t416] (23 : TypeId)))) (HB : Aside0 (Below (Array.size (World.heap w)) w wc)) (kj69 : Nat) (HJ69 : Aside0 (kj69 + (1 : Nat) ≤ kj52)) (HC120 : Aside0 ((if t442 = Bool.true then Option.bind (impl_PolePassing.f kj69 t413 t414) fun bt455 => Option.bind (laws_qLow.f kj69 t440 t441) fun t458 => if t458 = Bool.true then if Prod.snd (Prod.snd bt455) = Bool.true then if wrap64 (t440 * Prod.fst (Prod.snd bt455)) < wrap64 (Prod.fst bt455 * t441) then laws_FnTrainsMeet.j3 kj69 l1 t417 t440 t441 (Prod.fst bt455) (Prod.fst (Prod.snd bt455)) Bool.true t413 t414 t415 t416 else laws_FnTrainsMeet.j3 kj69 l1 t417 t440 t441 (Prod.fst bt455) (Prod.fst (Prod.snd bt455)) (Decidable.decide (wrap64 (t416 * wrap64 (wrap64 (t417 * t441) - wrap64 (t440 * t414))) > wrap64 (wrap64 (wrap64 (t417 - t413) * t414) * t441))) t413 t414 t415 t416 else laws_FnTrainsMeet.j3 kj69 l1 t417 t440 t441 (Prod.fst bt455) (Prod.fst (Prod.snd bt455)) Bool.true t413 t414 t415 t416 else laws_FnTrainsMeet.j3 kj69 l1 t417 t440 t441 (Prod.fst bt455) (Prod.fst (Prod.snd bt455)) Bool.true t413 t414 t415 t416 else laws_FnTrainsMeet.j4 kj69 l1) = Option.some r)) :
    Go.Code.wp Try.prog (laws_FnTrainsMeet.behind 353 laws_FnTrainsMeet.body) (bodyPost Try.prog Try.f4 (fun e w' => e = .returned (.bool r) ∧ Below w.heap.size w w')) (Go.Act.mk #[v0_, Value.slice A1 (List.length l1) c1, v2_, v3_, u4, Value.pointer (Option.some (Addr.mk gb418 (0 : Nat) Option.none)), Value.pointer (Option.some (Addr.mk gb419 (0 : Nat) Option.none)), Value.int IntKind.i64 t417, v8_, v9_, v10_, v11_, v12_, v13_, v14_, v15_, v16_, v17_, v18_, v19_, v20_, v21_, v22_, v23_, v24_, v25_, v26_, v27_, Value.int IntKind.i64 t440, Value.int IntKind.i64 t441, Value.bool t442, v31_, v32_, v33_, v34_, v35_, v36_, v37_, v38_, undef, undef, undef, undef, undef, undef, undef, undef, undef, undef, undef, undef, undef, undef, undef, undef, undef, undef, undef, undef, undef, undef, undef, undef, undef, undef, undef, undef, undef, undef, undef, undef, undef, undef, undef, undef, undef, undef, undef, undef, v79_, undef, v81_, v82_, v83_, v84_, v85_, v86_, v87_, v88_, v89_, v90_, v91_, v92_, v93_, v94_, v95_, v96_, v97_, v98_, v99_, v100_, v101_, v102_, v103_, v104_, v105_, v106_, v107_, v108_, v109_, v110_, v111_, v112_, v113_, v114_, v115_, v116_, v117_, v118_, v119_, v120_, v121_, v122_, v123_, v124_, v125_, v126_, v127_, v128_, v129_, v130_, v131_, v132_, v133_, v134_, v135_, v136_, v137_, v138_, v139_, v140_, v141_, v142_, v143_, v144_, v145_, v146_, v147_, v148_, v149_, v150_, v151_, v152_, v153_, v154_, v155_, v156_, v157_, v158_, v159_, v160_, v161_, v162_, v163_, v164_, v165_, v166_, v167_, v168_, v169_, v170_, v171_, v172_, v173_, v174_, v175_, v176_, v177_, v178_, v179_, v180_, v181_, v182_, v183_, v184_, v185_, v186_, v187_, v188_, v189_, v190_, v191_, v192_, v193_, v194_, v195_, v196_, v197_, v198_, v199_, v200_, v201_, v202_, v203_, v204_, v205_, v206_, v207_, v208_, v209_, v210_, v211_, v212_, v213_, v214_, v215_, v216_, v217_, v218_, v219_, v220_, v221_, v222_, v223_, v224_, v225_, v226_, v227_, v228_, v229_, v230_, v231_, v232_, v233_, v234_, v235_, v236_, v237_, v238_, v239_, v240_, v241_, v242_, v243_, v244_, v245_, v246_, v247_, v248_, v249_, v250_, v251_, v252_, v253_, v254_, v255_, v256_, v257_, v258_, v259_, v260_, v261_, v262_, v263_, v264_, v265_, v266_, v267_, v268_, v269_, v270_, v271_, v272_, v273_, v274_, v275_, v276_, v277_, v278_, v279_, v280_, v281_, v282_, v283_, v284_, v285_, v286_, v287_, v288_, v289_, v290_, v291_, v292_, v293_, v294_, v295_, v296_, v297_, v298_, v299_, v300_, v301_, v302_, v303_, v304_, v305_, v306_, v307_, v308_, v309_, v310_, v311_, v312_, v313_, v314_, v315_, v316_, v317_, v318_, v319_, v320_, v321_, v322_, v323_, v324_, v325_, v326_, v327_, v328_, v329_, v330_, v331_, v332_, v333_, v334_, v335_, v336_, v337_, v338_, v339_, v340_, v341_, v342_, v343_, v344_, v345_, v346_, v347_, v348_, v349_, v350_, v351_, v352_, v353_, undef, undef, undef, undef, undef, undef, undef, undef, undef, undef, undef, undef, undef, undef, undef, undef, undef, undef, undef, undef, undef, undef, undef, undef, undef, undef, undef, undef, undef, undef, undef, undef, undef, undef, undef, undef, undef, undef, undef, undef, undef, undef, undef, undef, undef, undef, undef, undef, undef, undef, undef, undef, undef, undef, undef, undef, undef, undef, undef, undef, undef, undef, undef, undef, undef, undef, undef, undef, undef, undef, undef, undef, undef, undef, undef, undef, undef, undef, undef, undef, undef, undef, undef, undef, undef, undef, undef, undef, undef, undef, undef, undef, undef, undef, undef, undef, undef, undef, undef, undef, undef, undef, undef, undef, undef, undef, undef, undef, undef, undef, undef, undef, undef, undef, undef, undef, undef, undef, undef, undef, undef, undef, undef, undef, undef, undef, undef, undef, undef, undef, undef, undef, undef, undef, undef, undef, undef, undef, undef, undef, undef, undef, undef, undef, undef, undef, undef, undef, undef, undef, undef, undef, undef, undef, undef, undef, undef, undef, undef, undef, undef, undef, undef, undef, undef, undef, undef, undef, undef, undef, undef, undef, undef, undef, undef, undef, undef, undef, undef, undef, undef, undef, undef, undef, undef, undef, undef, undef, undef, undef, undef, undef, undef, undef, undef, undef, undef, undef, undef, undef, undef, undef, undef, undef, undef, undef, undef, undef, undef, undef, undef, undef, undef, undef, undef, undef, undef, undef, undef, undef, undef, undef, undef, undef, undef, undef, undef, undef, undef, undef, undef, undef, undef, undef, undef, undef, undef, undef, undef, undef, undef, undef, undef, undef, undef, undef, undef, undef, undef, undef, undef, undef, undef, undef, undef, undef, undef, undef, undef, undef, undef, undef, undef, undef, undef, undef, undef, undef, undef, undef, undef, undef, undef, undef, undef, undef, undef, undef, undef, undef, undef, undef, undef, undef, undef, undef, undef, undef, undef, undef, undef, undef, undef, undef, undef, undef, undef, undef, undef, undef, undef, undef, undef, undef, undef, undef, undef, undef, undef, undef, undef, undef, undef, undef, undef, undef, undef, undef, undef, undef, undef, undef, undef, undef, undef, undef, undef, undef, undef, undef, undef, undef, undef, undef, undef, undef, undef, undef, undef, undef, undef, undef, undef, undef, undef, undef, undef, undef, undef, undef, undef, undef, undef, undef, undef, undef, undef, undef, undef, undef, undef, undef, undef, undef, undef, undef, undef, undef, undef, undef, undef, undef] []) wc := by
  conv => arg 2; whnf
  (try conv => arg 4; dsimp only)
  go_upto_if 354 with (fail)
  repeat (go_quiet (fail); go_upto_if 354 with (fail))
  go_cut [] from 100000 (fun wc => ∃ (kq : Nat), Aside0 (laws_FnTrainsMeet.j4 kq l1 = some r) ∧ Aside0 (kq ≤ kj69) ∧ Aside0 (wc.heap[gb418]? = some (.cells #[.int .i64 t413, .int .i64 t414] 23 (0, 0))) ∧ Aside0 (wc.heap[gb419]? = some (.cells #[.int .i64 t415, .int .i64 t416] 23 (0, 0))) ∧ Aside0 (Below w.heap.size w wc))
  case first =>
   (try conv => arg 2; dsimp only [List.append_eq, List.cons_append, List.nil_append])
   have H := HC120.out
   clear HC120
   by_cases c121 : t442 = true
   ·subst c121
    have H1 : ((impl_PolePassing.f kj69 t413 t414).bind fun bt455 => ((laws_qLow.f kj69 t440 t441).bind fun t458 => (if t458 = true then (if bt455.2.2 = true then (if (wrap64 (t440 * bt455.2.1)) < (wrap64 (bt455.1 * t441)) then (laws_FnTrainsMeet.j3 kj69 l1 t417 t440 t441 bt455.1 bt455.2.1 true t413 t414 t415 t416) else (laws_FnTrainsMeet.j3 kj69 l1 t417 t440 t441 bt455.1 bt455.2.1 (decide ((wrap64 (t416 * (wrap64 ((wrap64 (t417 * t441)) - (wrap64 (t440 * t414)))))) > (wrap64 ((wrap64 ((wrap64 (t417 - t413)) * t414)) * t441)))) t413 t414 t415 t416)) else (laws_FnTrainsMeet.j3 kj69 l1 t417 t440 t441 bt455.1 bt455.2.1 true t413 t414 t415 t416)) else (laws_FnTrainsMeet.j3 kj69 l1 t417 t440 t441 bt455.1 bt455.2.1 true t413 t414 t415 t416)))) = some r := by rw [if_pos rfl] at H; exact H
    clear H
    have H := H1
    clear H1
    replace H := Option.bind_eq_some_iff.mp H
    obtain ⟨⟨t455, t456, t457⟩, A1220, H⟩ := H
    (try dsimp only at H)
    have A122 := Aside0.mk A1220
    clear A1220
    have HC123 := Aside0.mk H
    clear H
    have hnb124 := NB418_419.out
    have hnc124 := NB419_418.out
    have hcz125_0 : wc.cell? ⟨gb418, 0, none⟩ = some (.int .i64 t413) := (blk_cell BK418.out 0).trans rfl
    have hcz125_1 : wc.cell? ⟨gb418, 1, none⟩ = some (.int .i64 t414) := (blk_cell BK418.out 1).trans rfl
    have hfz125_0 := blk_frozen BK418.out 0
    have hfz125_1 := blk_frozen BK418.out 1
    go_upto_region 20 with (first | (go_at_call 12; (with_reducible refine (impl_PolePassing.calls kj69 t413 t414 t455 t456 t457 _ A122.out).mono ?_); rintro e w126 ⟨rfl, hb⟩; have n0_ := Aside0.mk (blk_below (g := gb418) (o := .cells #[.int .i64 t413, .int .i64 t414] 23 (0, 0)) (by (with_reducible repeat (first | refine blk_drewN ?_ _ | refine blk_drew ?_ | refine blk_alloc ?_ _)); exact BK418.out) hb); have n1_ := Aside0.mk (blk_below (g := gb419) (o := .cells #[.int .i64 t415, .int .i64 t416] 23 (0, 0)) (by (with_reducible repeat (first | refine blk_drewN ?_ _ | refine blk_drew ?_ | refine blk_alloc ?_ _)); exact BK419.out) hb); have n2_ := Aside0.mk (below_step (by repeat (first | (with_reducible first | exact HB.out | apply below_alloc | apply pw_below_drewN | apply below_drew1 | refine below_set ?_ GE418.out | refine below_set ?_ GE419.out) | exact HB.out)) hb); clear BK418; clear BK419; clear HB; have BK418 := n0_; have BK419 := n1_; have HB := n2_; clear n0_ n1_ n2_; (try clear hb)))
    repeat (go_quiet (first | (go_at_call 12; (with_reducible refine (impl_PolePassing.calls kj69 t413 t414 t455 t456 t457 _ A122.out).mono ?_); rintro e w126 ⟨rfl, hb⟩; have n0_ := Aside0.mk (blk_below (g := gb418) (o := .cells #[.int .i64 t413, .int .i64 t414] 23 (0, 0)) (by (with_reducible repeat (first | refine blk_drewN ?_ _ | refine blk_drew ?_ | refine blk_alloc ?_ _)); exact BK418.out) hb); have n1_ := Aside0.mk (blk_below (g := gb419) (o := .cells #[.int .i64 t415, .int .i64 t416] 23 (0, 0)) (by (with_reducible repeat (first | refine blk_drewN ?_ _ | refine blk_drew ?_ | refine blk_alloc ?_ _)); exact BK419.out) hb); have n2_ := Aside0.mk (below_step (by repeat (first | (with_reducible first | exact HB.out | apply below_alloc | apply pw_below_drewN | apply below_drew1 | refine below_set ?_ GE418.out | refine below_set ?_ GE419.out) | exact HB.out)) hb); clear BK418; clear BK419; clear HB; have BK418 := n0_; have BK419 := n1_; have HB := n2_; clear n0_ n1_ n2_; (try clear hb))); go_upto_region 20 with (first | (go_at_call 12; (with_reducible refine (impl_PolePassing.calls kj69 t413 t414 t455 t456 t457 _ A122.out).mono ?_); rintro e w126 ⟨rfl, hb⟩; have n0_ := Aside0.mk (blk_below (g := gb418) (o := .cells #[.int .i64 t413, .int .i64 t414] 23 (0, 0)) (by (with_reducible repeat (first | refine blk_drewN ?_ _ | refine blk_drew ?_ | refine blk_alloc ?_ _)); exact BK418.out) hb); have n1_ := Aside0.mk (blk_below (g := gb419) (o := .cells #[.int .i64 t415, .int .i64 t416] 23 (0, 0)) (by (with_reducible repeat (first | refine blk_drewN ?_ _ | refine blk_drew ?_ | refine blk_alloc ?_ _)); exact BK419.out) hb); have n2_ := Aside0.mk (below_step (by repeat (first | (with_reducible first | exact HB.out | apply below_alloc | apply pw_below_drewN | apply below_drew1 | refine below_set ?_ GE418.out | refine below_set ?_ GE419.out) | exact HB.out)) hb); clear BK418; clear BK419; clear HB; have BK418 := n0_; have BK419 := n1_; have HB := n2_; clear n0_ n1_ n2_; (try clear hb))))
    (try simp only [Act.put, List.setIfInBounds_toArray, List.set_cons_zero, List.set_cons_succ])
    go_cut [400] from 100000 (fun v400 wc => ∃ (kq : Nat) (x400_122 : Bool), v400 = .bool x400_122 ∧ Aside0 (laws_FnTrainsMeet.j3 kq l1 t417 t440 t441 t455 t456 x400_122 t413 t414 t415 t416 = some r) ∧ Aside0 (kq ≤ kj69) ∧ Aside0 (wc.heap[gb418]? = some (.cells #[.int .i64 t413, .int .i64 t414] 23 (0, 0))) ∧ Aside0 (wc.heap[gb419]? = some (.cells #[.int .i64 t415, .int .i64 t416] 23 (0, 0))) ∧ Aside0 (Below w.heap.size w wc))
    case first =>
     (try conv => arg 2; dsimp only [List.append_eq, List.cons_append, List.nil_append])
     have H := HC123.out
     clear HC123
     replace H := Option.bind_eq_some_iff.mp H
     obtain ⟨t458, A1270, H⟩ := H
     (try dsimp only at H)
     have A127 := Aside0.mk A1270
     clear A1270
     by_cases c128 : t458 = true
     ·subst c128
      have H1 : (if t457 = true then (if (wrap64 (t440 * t456)) < (wrap64 (t455 * t441)) then (laws_FnTrainsMeet.j3 kj69 l1 t417 t440 t441 t455 t456 true t413 t414 t415 t416) else (laws_FnTrainsMeet.j3 kj69 l1 t417 t440 t441 t455 t456 (decide ((wrap64 (t416 * (wrap64 ((wrap64 (t417 * t441)) - (wrap64 (t440 * t414)))))) > (wrap64 ((wrap64 ((wrap64 (t417 - t413)) * t414)) * t441)))) t413 t414 t415 t416)) else (laws_FnTrainsMeet.j3 kj69 l1 t417 t440 t441 t455 t456 true t413 t414 t415 t416)) = some r := by rw [if_pos rfl] at H; exact H
      clear H
      have H := H1
      clear H1
      by_cases c129 : t457 = true
      ·subst c129
       have H1 : (if (wrap64 (t440 * t456)) < (wrap64 (t455 * t441)) then (laws_FnTrainsMeet.j3 kj69 l1 t417 t440 t441 t455 t456 true t413 t414 t415 t416) else (laws_FnTrainsMeet.j3 kj69 l1 t417 t440 t441 t455 t456 (decide ((wrap64 (t416 * (wrap64 ((wrap64 (t417 * t441)) - (wrap64 (t440 * t414)))))) > (wrap64 ((wrap64 ((wrap64 (t417 - t413)) * t414)) * t441)))) t413 t414 t415 t416)) = some r := by rw [if_pos rfl] at H; exact H
       clear H
       have H := H1
       clear H1
       by_cases c130 : (wrap64 (t440 * t456)) < (wrap64 (t455 * t441))
       ·rw [if_pos c130] at H
        have c130b0 : decide ((wrap64 (t440 * t456)) < (wrap64 (t455 * t441))) = true := decide_eq_true c130
        clear c130
        (first | rw [c130b0] | (simp only [i64_w, i32_w]; rw [c130b0]) | skip)
        exact absurd H (by rw [HR_.out]; cases kj69 <;> simp [laws_FnTrainsMeet.j3])
       ·rw [if_neg c130] at H
        have c130b0 : decide ((wrap64 (t440 * t456)) < (wrap64 (t455 * t441))) = false := decide_eq_false c130
        clear c130
        (first | rw [c130b0] | (simp only [i64_w, i32_w]; rw [c130b0]) | skip)
        have H' := Aside0.mk H
        clear H
        go_wp2_with (first | (go_at_call 13; (with_reducible refine (laws_qLow.calls kj69 t440 t441 true _ A127.out).mono ?_); rintro e w' ⟨rfl, ⟨nd, rfl⟩⟩; (try first | exact ⟨rfl, _, World.drewN_drewN _ _ _⟩ | exact ⟨rfl, _, Eq.trans (World.drewN_drewN _ _ _) (congrArg (World.drewN _) (Nat.add_assoc _ _ _))⟩); have hnb131 := NB419_418.out; have hnc131 := NB418_419.out; have hcz132_0 : w126.cell? ⟨gb419, 0, none⟩ = some (.int .i64 t415) := (blk_cell BK419.out 0).trans rfl; have hcz132_1 : w126.cell? ⟨gb419, 1, none⟩ = some (.int .i64 t416) := (blk_cell BK419.out 1).trans rfl; have hfz132_0 := blk_frozen BK419.out 0; have hfz132_1 := blk_frozen BK419.out 1; have hcz133_0 : w126.cell? ⟨gb418, 0, none⟩ = some (.int .i64 t413) := (blk_cell BK418.out 0).trans rfl; have hcz133_1 : w126.cell? ⟨gb418, 1, none⟩ = some (.int .i64 t414) := (blk_cell BK418.out 1).trans rfl; have hfz133_0 := blk_frozen BK418.out 0; have hfz133_1 := blk_frozen BK418.out 1))
        repeat (go_quiet (first | (go_at_call 13; (with_reducible refine (laws_qLow.calls kj69 t440 t441 true _ A127.out).mono ?_); rintro e w' ⟨rfl, ⟨nd, rfl⟩⟩; (try first | exact ⟨rfl, _, World.drewN_drewN _ _ _⟩ | exact ⟨rfl, _, Eq.trans (World.drewN_drewN _ _ _) (congrArg (World.drewN _) (Nat.add_assoc _ _ _))⟩); have hnb131 := NB419_418.out; have hnc131 := NB418_419.out; have hcz132_0 : w126.cell? ⟨gb419, 0, none⟩ = some (.int .i64 t415) := (blk_cell BK419.out 0).trans rfl; have hcz132_1 : w126.cell? ⟨gb419, 1, none⟩ = some (.int .i64 t416) := (blk_cell BK419.out 1).trans rfl; have hfz132_0 := blk_frozen BK419.out 0; have hfz132_1 := blk_frozen BK419.out 1; have hcz133_0 : w126.cell? ⟨gb418, 0, none⟩ = some (.int .i64 t413) := (blk_cell BK418.out 0).trans rfl; have hcz133_1 : w126.cell? ⟨gb418, 1, none⟩ = some (.int .i64 t414) := (blk_cell BK418.out 1).trans rfl; have hfz133_0 := blk_frozen BK418.out 0; have hfz133_1 := blk_frozen BK418.out 1)); try go_wp2_with (first | (go_at_call 13; (with_reducible refine (laws_qLow.calls kj69 t440 t441 true _ A127.out).mono ?_); rintro e w' ⟨rfl, ⟨nd, rfl⟩⟩; (try first | exact ⟨rfl, _, World.drewN_drewN _ _ _⟩ | exact ⟨rfl, _, Eq.trans (World.drewN_drewN _ _ _) (congrArg (World.drewN _) (Nat.add_assoc _ _ _))⟩); have hnb131 := NB419_418.out; have hnc131 := NB418_419.out; have hcz132_0 : w126.cell? ⟨gb419, 0, none⟩ = some (.int .i64 t415) := (blk_cell BK419.out 0).trans rfl; have hcz132_1 : w126.cell? ⟨gb419, 1, none⟩ = some (.int .i64 t416) := (blk_cell BK419.out 1).trans rfl; have hfz132_0 := blk_frozen BK419.out 0; have hfz132_1 := blk_frozen BK419.out 1; have hcz133_0 : w126.cell? ⟨gb418, 0, none⟩ = some (.int .i64 t413) := (blk_cell BK418.out 0).trans rfl; have hcz133_1 : w126.cell? ⟨gb418, 1, none⟩ = some (.int .i64 t414) := (blk_cell BK418.out 1).trans rfl; have hfz133_0 := blk_frozen BK418.out 0; have hfz133_1 := blk_frozen BK418.out 1)))
        go_meet
        case rel => exact ⟨_, (decide ((wrap64 (t416 * (wrap64 ((wrap64 (t417 * t441)) - (wrap64 (t440 * t414)))))) > (wrap64 ((wrap64 ((wrap64 (t417 - t413)) * t414)) * t441)))), (by first | rfl | (simp; done) | (simp [*]; done)), H', ⟨by have := HJ11.out; have := HJ52.out; have := HJ69.out; first | omega | exact Nat.le_refl _⟩, ⟨by (with_reducible repeat (first | refine blk_drewN ?_ _ | refine blk_drew ?_ | refine blk_alloc ?_ _)); exact BK418.out⟩, ⟨by (with_reducible repeat (first | refine blk_drewN ?_ _ | refine blk_drew ?_ | refine blk_alloc ?_ _)); exact BK419.out⟩, ⟨by repeat (first | (with_reducible first | exact HB.out | apply below_alloc | apply pw_below_drewN | apply below_drew1 | refine below_set ?_ GE418.out | refine below_set ?_ GE419.out) | exact HB.out)⟩⟩
      ·replace c129 := Bool.eq_false_iff.mpr c129
       subst c129
       have H1 : (laws_FnTrainsMeet.j3 kj69 l1 t417 t440 t441 t455 t456 true t413 t414 t415 t416) = some r := by rw [if_neg (show ¬ (false = true) by decide)] at H; exact H
       clear H
       have H := H1
       clear H1
       exact absurd H (by rw [HR_.out]; cases kj69 <;> simp [laws_FnTrainsMeet.j3])
     ·replace c128 := Bool.eq_false_iff.mpr c128
      subst c128
      have H1 : (laws_FnTrainsMeet.j3 kj69 l1 t417 t440 t441 t455 t456 true t413 t414 t415 t416) = some r := by rw [if_neg (show ¬ (false = true) by decide)] at H; exact H
      clear H
      have H := H1
      clear H1
      exact absurd H (by rw [HR_.out]; cases kj69 <;> simp [laws_FnTrainsMeet.j3])
    case rest =>
     clear HC123
     (try clear c1); (try clear c121); (try clear c128); (try clear c129); (try clear c130); (try clear c130b0); (try clear hcz125_0); (try clear hcz125_1); (try clear hcz132_0); (try clear hcz132_1); (try clear hcz133_0); (try clear hcz133_1)
     (try clear hfz125_0); (try clear hfz125_1); (try clear hfz132_0); (try clear hfz132_1); (try clear hfz133_0); (try clear hfz133_1)
     obtain ⟨kq, x400_122, rfl, HA, HJ122, BK418, BK419, HB⟩ := hcut
     cases kq with
     | zero => exact absurd HA.out (by simp [laws_FnTrainsMeet.j3])
     | succ kj122 =>
      have H := HA.out
      clear HA
      simp only [laws_FnTrainsMeet.j3] at H
      by_cases c134 : x400_122 = true
      ·subst c134
       have H1 : (some false) = some r := by rw [if_pos rfl] at H; exact H
       clear H
       have H := H1
       clear H1
       exact absurd (Option.some.inj H).symm (by rw [HR_.out]; decide)
      ·replace c134 := Bool.eq_false_iff.mpr c134
       subst c134
       have H1 : (if (wrap64 (t440 * t456)) > (wrap64 (t455 * t441)) then (if (wrap64 (t416 * (wrap64 ((wrap64 (t417 * t441)) - (wrap64 (t440 * t414)))))) = (wrap64 ((wrap64 ((wrap64 (t417 - t413)) * t414)) * t441)) then (laws_FnTrainsMeet.j4 kj122 l1) else (some false)) else (laws_FnTrainsMeet.j4 kj122 l1)) = some r := by rw [if_neg (show ¬ (false = true) by decide)] at H; exact H
       clear H
       have H := H1
       clear H1
       by_cases c135 : (wrap64 (t440 * t456)) > (wrap64 (t455 * t441))
       ·rw [if_pos c135] at H
        have c135b0 : decide ((wrap64 (t455 * t441)) < (wrap64 (t440 * t456))) = true := decide_eq_true c135
        clear c135
        by_cases c136 : (wrap64 (t416 * (wrap64 ((wrap64 (t417 * t441)) - (wrap64 (t440 * t414)))))) = (wrap64 ((wrap64 ((wrap64 (t417 - t413)) * t414)) * t441))
        ·rw [if_pos c136] at H
         have c136b0 : ((wrap64 (t416 * (wrap64 ((wrap64 (t417 * t441)) - (wrap64 (t440 * t414)))))) == (wrap64 ((wrap64 ((wrap64 (t417 - t413)) * t414)) * t441))) = true := beq_iff_eq.mpr c136
         have c136b1 : ((wrap64 (t416 * (wrap64 ((wrap64 (t417 * t441)) - (wrap64 (t440 * t414)))))) != (wrap64 ((wrap64 ((wrap64 (t417 - t413)) * t414)) * t441))) = false := bne_eq_false_iff_eq.mpr c136
         clear c136
         have H' := Aside0.mk H
         clear H
         have hnb137 := NB419_418.out
         have hnc137 := NB418_419.out
         have hcz138_0 : wc.cell? ⟨gb419, 0, none⟩ = some (.int .i64 t415) := (blk_cell BK419.out 0).trans rfl
         have hcz138_1 : wc.cell? ⟨gb419, 1, none⟩ = some (.int .i64 t416) := (blk_cell BK419.out 1).trans rfl
         have hfz138_0 := blk_frozen BK419.out 0
         have hfz138_1 := blk_frozen BK419.out 1
         have hcz139_0 : wc.cell? ⟨gb418, 0, none⟩ = some (.int .i64 t413) := (blk_cell BK418.out 0).trans rfl
         have hcz139_1 : wc.cell? ⟨gb418, 1, none⟩ = some (.int .i64 t414) := (blk_cell BK418.out 1).trans rfl
         have hfz139_0 := blk_frozen BK418.out 0
         have hfz139_1 := blk_frozen BK418.out 1
         go_wp2
         repeat (go_quiet (fail); try go_wp2)
         go_meet
         case rel => exact ⟨_, H', ⟨by have := HJ11.out; have := HJ52.out; have := HJ69.out; have := HJ122.out; first | omega | exact Nat.le_refl _⟩, ⟨by (with_reducible repeat (first | refine blk_drewN ?_ _ | refine blk_drew ?_ | refine blk_alloc ?_ _)); exact BK418.out⟩, ⟨by (with_reducible repeat (first | refine blk_drewN ?_ _ | refine blk_drew ?_ | refine blk_alloc ?_ _)); exact BK419.out⟩, ⟨by repeat (first | (with_reducible first | exact HB.out | apply below_alloc | apply pw_below_drewN | apply below_drew1 | refine below_set ?_ GE418.out | refine below_set ?_ GE419.out) | exact HB.out)⟩⟩
        ·rw [if_neg c136] at H
         have c136b0 : ((wrap64 (t416 * (wrap64 ((wrap64 (t417 * t441)) - (wrap64 (t440 * t414)))))) == (wrap64 ((wrap64 ((wrap64 (t417 - t413)) * t414)) * t441))) = false := beq_eq_false_iff_ne.mpr c136
         have c136b1 : ((wrap64 (t416 * (wrap64 ((wrap64 (t417 * t441)) - (wrap64 (t440 * t414)))))) != (wrap64 ((wrap64 ((wrap64 (t417 - t413)) * t414)) * t441))) = true := bne_iff_ne.mpr c136
         exact absurd (Option.some.inj H).symm (by rw [HR_.out]; decide)
       ·rw [if_neg c135] at H
        have c135b0 : decide ((wrap64 (t455 * t441)) < (wrap64 (t440 * t456))) = false := decide_eq_false c135
        clear c135
        have H' := Aside0.mk H
        clear H
        go_wp2
        repeat (go_quiet (fail); try go_wp2)
        go_meet
        case rel => exact ⟨_, H', ⟨by have := HJ11.out; have := HJ52.out; have := HJ69.out; have := HJ122.out; first | omega | exact Nat.le_refl _⟩, ⟨by (with_reducible repeat (first | refine blk_drewN ?_ _ | refine blk_drew ?_ | refine blk_alloc ?_ _)); exact BK418.out⟩, ⟨by (with_reducible repeat (first | refine blk_drewN ?_ _ | refine blk_drew ?_ | refine blk_alloc ?_ _)); exact BK419.out⟩, ⟨by repeat (first | (with_reducible first | exact HB.out | apply below_alloc | apply pw_below_drewN | apply below_drew1 | refine below_set ?_ GE418.out | refine below_set ?_ GE419.out) | exact HB.out)⟩⟩
   ·replace c121 := Bool.eq_false_iff.mpr c121
    subst c121
    have H1 : (laws_FnTrainsMeet.j4 kj69 l1) = some r := by rw [if_neg (show ¬ (false = true) by decide)] at H; exact H
    clear H
    have H := H1
    clear H1
    have H' := Aside0.mk H
    clear H
    go_wp2
    repeat (go_quiet (fail); try go_wp2)
    go_meet
    case rel => exact ⟨_, H', ⟨by have := HJ11.out; have := HJ52.out; have := HJ69.out; first | omega | exact Nat.le_refl _⟩, ⟨by (with_reducible repeat (first | refine blk_drewN ?_ _ | refine blk_drew ?_ | refine blk_alloc ?_ _)); exact BK418.out⟩, ⟨by (with_reducible repeat (first | refine blk_drewN ?_ _ | refine blk_drew ?_ | refine blk_alloc ?_ _)); exact BK419.out⟩, ⟨by repeat (first | (with_reducible first | exact HB.out | apply below_alloc | apply pw_below_drewN | apply below_drew1 | refine below_set ?_ GE418.out | refine below_set ?_ GE419.out) | exact HB.out)⟩⟩
  case rest =>
   clear HC120
   (try clear c1); (try clear c121); (try clear c128); (try clear c129); (try clear c130); (try clear c130b0); (try clear c134); (try clear c135); (try clear c135b0); (try clear c136); (try clear c136b0); (try clear c136b1); (try clear hcz125_0); (try clear hcz125_1); (try clear hcz132_0); (try clear hcz132_1); (try clear hcz133_0); (try clear hcz133_1); (try clear hcz138_0); (try clear hcz138_1); (try clear hcz139_0); (try clear hcz139_1)
   (try clear hfz125_0); (try clear hfz125_1); (try clear hfz132_0); (try clear hfz132_1); (try clear hfz133_0); (try clear hfz133_1); (try clear hfz138_0); (try clear hfz138_1); (try clear hfz139_0); (try clear hfz139_1)
   obtain ⟨kq, HA, HJ119, BK418, BK419, HB⟩ := hcut
   go_step
   exact laws_FnTrainsMeet.seg3 k l0 A1 c1 l1 r w HR_ hu23 HR1 HC1 t413 t414 t415 t416 nd gb418 GW418 GE418 gb419 GW419 GE419 hnb16 hnc16 kj11 HJ11 kj52 HJ52 kj69 HJ69 wc u4 kq HA HJ119 BK418 BK419 HB
end Go.Proofs.Ytnbmplhcbliclaa.QP
