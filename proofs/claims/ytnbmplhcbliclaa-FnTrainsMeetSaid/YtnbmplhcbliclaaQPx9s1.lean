-- WRITTEN BY a program of this session (wip/xprint.py, over the kit's print): Lean checks it.
import Derived.Test.YtnbmplhcbliclaaQPx9d
import Derived.Test.YtnbmplhcbliclaaQPx9s2
namespace Go.Proofs.Ytnbmplhcbliclaa.QP
open Go.Proofs.Ytnbmplhcbliclaa.X Go.RowKit Go.Proofs.YtnbmplhcbliclaaW.PrintWords Go.Proofs.YtnbmplhcbliclaaW.PrintLast Go.Proofs.YtnbmplhcbliclaaW.PrintMore
attribute [local go_sem] max2_int min2_int max_two min_two max_three min_three max_four min_four   -- for this text's walks alone
set_option linter.unusedVariables false
set_option linter.unusedSimpArgs false

set_option maxHeartbeats 16000000 in
set_option maxRecDepth 1000000 in
theorem laws_FnTrainsMeet.seg1 {v0_ v2_ v3_ v8_ v9_ v10_ v11_ v13_ v14_ v15_ v16_ v17_ v23_ v24_ v25_ v26_ v27_ v31_ v32_ v33_ v34_ v35_ v36_ v37_ v38_ v79_ v81_ v82_ v83_ v84_ v85_ v86_ v87_ v88_ v89_ v90_ v91_ v92_ v93_ v94_ v95_ v96_ v97_ v98_ v99_ v100_ v101_ v102_ v103_ v104_ v105_ v106_ v107_ v108_ v109_ v110_ v111_ v112_ v113_ v114_ v115_ v116_ v117_ v118_ v119_ v120_ v121_ v122_ v123_ v124_ v125_ v126_ v127_ v128_ v129_ v130_ v131_ v132_ v133_ v134_ v135_ v136_ v137_ v138_ v139_ v140_ v141_ v142_ v143_ v144_ v145_ v146_ v147_ v148_ v149_ v150_ v151_ v152_ v153_ v154_ v155_ v156_ v157_ v158_ v159_ v160_ v161_ v162_ v163_ v164_ v165_ v166_ v167_ v168_ v169_ v170_ v171_ v172_ v173_ v174_ v175_ v176_ v177_ v178_ v179_ v180_ v181_ v182_ v183_ v184_ v185_ v186_ v187_ v188_ v189_ v190_ v191_ v192_ v193_ v194_ v195_ v196_ v197_ v198_ v199_ v200_ v201_ v202_ v203_ v204_ v205_ v206_ v207_ v208_ v209_ v210_ v211_ v212_ v213_ v214_ v215_ v216_ v217_ v218_ v219_ v220_ v221_ v222_ v223_ v224_ v225_ v226_ v227_ v228_ v229_ v230_ v231_ v232_ v233_ v234_ v235_ v236_ v237_ v238_ v239_ v240_ v241_ v242_ v243_ v244_ v245_ v246_ v247_ v248_ v249_ v250_ v251_ v252_ v253_ v254_ v255_ v256_ v257_ v258_ v259_ v260_ v261_ v262_ v263_ v264_ v265_ v266_ v267_ v268_ v269_ v270_ v271_ v272_ v273_ v274_ v275_ v276_ v277_ v278_ v279_ v280_ v281_ v282_ v283_ v284_ v285_ v286_ v287_ : Go.Value} (k : Nat) (l0 : List Int) (A1 : Option Addr) (c1 : Nat) (l1 : List Int) (r : Bool) (w : World) (HR_ : Aside0 (r = Bool.true)) (hu23 : Program.underlying Try.prog (23 : Nat) = Option.some (TypeDesc.struct #[Field.mk "Length" (3 : Nat) (0 : Nat) Bool.false "" "" (0 : Nat), Field.mk "Rate" (3 : Nat) (1 : Nat) Bool.false "" "" (8 : Nat)])) (HR1 : Aside0 (Kd.C (Kd.int IntKind.u8) w A1 (List.length l1) l1)) (HC1 : Aside0 (List.length l1 ≤ c1)) (t413 t414 t415 t416 t417 : Int) (t424 : Bool) (t430 t431 t432 t433 : Int) (t434 : Bool) (t440 t441 : Int) (t442 : Bool) (nd : Nat) (gb418 : Nat) (GW418 GE418 : Aside0 (Array.size (World.heap w) ≤ gb418)) (gb419 : Nat) (GW419 GE419 : Aside0 (Array.size (World.heap w) ≤ gb419)) (NB418_419 : Aside0 (gb418 ≠ gb419)) (NB419_418 : Aside0 (gb419 ≠ gb418)) (hnb16 : gb418 ≠ gb419) (hnc16 : gb419 ≠ gb418) (kj11 : Nat) (HJ11 : Aside0 (kj11 + (1 : Nat) ≤ k)) (wc : World) (u4 : Value) (kq : Nat) (HA : Aside0 (laws_FnTrainsMeet.j1 kq l1 t417 t424 t430 t431 t432 t433 t434 t440 t441 t442 t413 t414 t415 t416 = Option.some r)) (HJ52 : Aside0 (kq ≤ kj11)) (BK418 : Aside0 ((World.heap wc)[gb418]? = Option.some (Obj.cells #[Value.int IntKind.i64 t413, Value.int IntKind.i64 t414] (23 : TypeId)))) (BK419 : Aside0 ((World.heap wc)[gb419]? = Option.some (Obj.cells #[Value.int IntKind.i64 t415, Value.int IntKind.i64 t416] (23 : TypeId)))) (HB : Aside0 (Below (Array.size (World.heap w)) w wc)) :
    Go.Code.wp Try.prog (laws_FnTrainsMeet.behind 223 laws_FnTrainsMeet.body) (bodyPost Try.prog Try.f4 (fun e w' => e = .returned (.bool r) ∧ Below w.heap.size w w')) (Go.Act.mk #[v0_, Value.slice A1 (List.length l1) c1, v2_, v3_, u4, Value.pointer (Option.some (Addr.mk gb418 (0 : Nat) Option.none)), Value.pointer (Option.some (Addr.mk gb419 (0 : Nat) Option.none)), Value.int IntKind.i64 t417, v8_, v9_, v10_, v11_, Value.bool t424, v13_, v14_, v15_, v16_, v17_, Value.int IntKind.i64 t430, Value.int IntKind.i64 t431, Value.int IntKind.i64 t432, Value.int IntKind.i64 t433, Value.bool t434, v23_, v24_, v25_, v26_, v27_, Value.int IntKind.i64 t440, Value.int IntKind.i64 t441, Value.bool t442, v31_, v32_, v33_, v34_, v35_, v36_, v37_, v38_, undef, undef, undef, undef, undef, undef, undef, undef, undef, undef, undef, undef, undef, undef, undef, undef, undef, undef, undef, undef, undef, undef, undef, undef, undef, undef, undef, undef, undef, undef, undef, undef, undef, undef, undef, undef, undef, undef, undef, undef, v79_, undef, v81_, v82_, v83_, v84_, v85_, v86_, v87_, v88_, v89_, v90_, v91_, v92_, v93_, v94_, v95_, v96_, v97_, v98_, v99_, v100_, v101_, v102_, v103_, v104_, v105_, v106_, v107_, v108_, v109_, v110_, v111_, v112_, v113_, v114_, v115_, v116_, v117_, v118_, v119_, v120_, v121_, v122_, v123_, v124_, v125_, v126_, v127_, v128_, v129_, v130_, v131_, v132_, v133_, v134_, v135_, v136_, v137_, v138_, v139_, v140_, v141_, v142_, v143_, v144_, v145_, v146_, v147_, v148_, v149_, v150_, v151_, v152_, v153_, v154_, v155_, v156_, v157_, v158_, v159_, v160_, v161_, v162_, v163_, v164_, v165_, v166_, v167_, v168_, v169_, v170_, v171_, v172_, v173_, v174_, v175_, v176_, v177_, v178_, v179_, v180_, v181_, v182_, v183_, v184_, v185_, v186_, v187_, v188_, v189_, v190_, v191_, v192_, v193_, v194_, v195_, v196_, v197_, v198_, v199_, v200_, v201_, v202_, v203_, v204_, v205_, v206_, v207_, v208_, v209_, v210_, v211_, v212_, v213_, v214_, v215_, v216_, v217_, v218_, v219_, v220_, v221_, v222_, v223_, v224_, v225_, v226_, v227_, v228_, v229_, v230_, v231_, v232_, v233_, v234_, v235_, v236_, v237_, v238_, v239_, v240_, v241_, v242_, v243_, v244_, v245_, v246_, v247_, v248_, v249_, v250_, v251_, v252_, v253_, v254_, v255_, v256_, v257_, v258_, v259_, v260_, v261_, v262_, v263_, v264_, v265_, v266_, v267_, v268_, v269_, v270_, v271_, v272_, v273_, v274_, v275_, v276_, v277_, v278_, v279_, v280_, v281_, v282_, v283_, v284_, v285_, v286_, v287_, undef, undef, undef, undef, undef, undef, undef, undef, undef, undef, undef, undef, undef, undef, undef, undef, undef, undef, undef, undef, undef, undef, undef, undef, undef, undef, undef, undef, undef, undef, undef, undef, undef, undef, undef, undef, undef, undef, undef, undef, undef, undef, undef, undef, undef, undef, undef, undef, undef, undef, undef, undef, undef, undef, undef, undef, undef, undef, undef, undef, undef, undef, undef, undef, undef, undef, undef, undef, undef, undef, undef, undef, undef, undef, undef, undef, undef, undef, undef, undef, undef, undef, undef, undef, undef, undef, undef, undef, undef, undef, undef, undef, undef, undef, undef, undef, undef, undef, undef, undef, undef, undef, undef, undef, undef, undef, undef, undef, undef, undef, undef, undef, undef, undef, undef, undef, undef, undef, undef, undef, undef, undef, undef, undef, undef, undef, undef, undef, undef, undef, undef, undef, undef, undef, undef, undef, undef, undef, undef, undef, undef, undef, undef, undef, undef, undef, undef, undef, undef, undef, undef, undef, undef, undef, undef, undef, undef, undef, undef, undef, undef, undef, undef, undef, undef, undef, undef, undef, undef, undef, undef, undef, undef, undef, undef, undef, undef, undef, undef, undef, undef, undef, undef, undef, undef, undef, undef, undef, undef, undef, undef, undef, undef, undef, undef, undef, undef, undef, undef, undef, undef, undef, undef, undef, undef, undef, undef, undef, undef, undef, undef, undef, undef, undef, undef, undef, undef, undef, undef, undef, undef, undef, undef, undef, undef, undef, undef, undef, undef, undef, undef, undef, undef, undef, undef, undef, undef, undef, undef, undef, undef, undef, undef, undef, undef, undef, undef, undef, undef, undef, undef, undef, undef, undef, undef, undef, undef, undef, undef, undef, undef, undef, undef, undef, undef, undef, undef, undef, undef, undef, undef, undef, undef, undef, undef, undef, undef, undef, undef, undef, undef, undef, undef, undef, undef, undef, undef, undef, undef, undef, undef, undef, undef, undef, undef, undef, undef, undef, undef, undef, undef, undef, undef, undef, undef, undef, undef, undef, undef, undef, undef, undef, undef, undef, undef, undef, undef, undef, undef, undef, undef, undef, undef, undef, undef, undef, undef, undef, undef, undef, undef, undef, undef, undef, undef, undef, undef, undef, undef, undef, undef, undef, undef, undef, undef, undef, undef, undef, undef, undef, undef, undef, undef, undef, undef, undef, undef, undef, undef, undef, undef, undef, undef, undef, undef, undef, undef, undef, undef, undef, undef, undef, undef, undef, undef, undef, undef, undef, undef, undef, undef, undef, undef, undef, undef, undef, undef, undef, undef, undef, undef, undef, undef, undef, undef, undef, undef, undef, undef, undef, undef, undef, undef, undef, undef, undef, undef, undef, undef, undef, undef, undef, undef, undef, undef, undef, undef, undef, undef, undef, undef, undef, undef, undef, undef, undef, undef, undef, undef, undef, undef, undef, undef, undef, undef, undef, undef, undef] []) wc := by
  conv => arg 2; whnf
  (try conv => arg 4; dsimp only)
  cases kq with
  | zero => exact absurd HA.out (by simp [laws_FnTrainsMeet.j1])
  | succ kj52 =>
   have H := HA.out
   clear HA
   simp only [laws_FnTrainsMeet.j1] at H
   have HC70 := Aside0.mk H
   clear H
   go_upto_region 16 with (fail)
   repeat (go_quiet (fail); go_upto_region 16 with (fail))
   go_cut [353] from 100000 (fun v353 wc => ∃ (kq : Nat) (x353_69 : Bool), v353 = .bool x353_69 ∧ Aside0 (laws_FnTrainsMeet.j2 kq l1 t417 t440 t441 t442 x353_69 t413 t414 t415 t416 = some r) ∧ Aside0 (kq ≤ kj52) ∧ Aside0 (wc.heap[gb418]? = some (.cells #[.int .i64 t413, .int .i64 t414] 23 (0, 0))) ∧ Aside0 (wc.heap[gb419]? = some (.cells #[.int .i64 t415, .int .i64 t416] 23 (0, 0))) ∧ Aside0 (Below w.heap.size w wc))
   case first =>
    (try conv => arg 2; dsimp only [List.append_eq, List.cons_append, List.nil_append])
    have H := HC70.out
    clear HC70
    by_cases c71 : t434 = true
    ·subst c71
     have H1 : (if t414 > t416 then ((laws_qIs.f kj52 t430 t431 t417 (wrap64 (t414 - t416))).bind fun t453 => (if t453 = true then ((laws_qIs.f kj52 t432 t433 (wrap64 (t417 * t414)) (wrap64 (t414 - t416))).bind fun t454 => (if t454 = true then (if t417 = 0 then (if t430 = 0 then (if t432 = 0 then (if t424 = true then (laws_FnTrainsMeet.j2 kj52 l1 t417 t440 t441 t442 (true != true) t413 t414 t415 t416) else (laws_FnTrainsMeet.j2 kj52 l1 t417 t440 t441 t442 false t413 t414 t415 t416)) else (laws_FnTrainsMeet.j2 kj52 l1 t417 t440 t441 t442 true t413 t414 t415 t416)) else (laws_FnTrainsMeet.j2 kj52 l1 t417 t440 t441 t442 true t413 t414 t415 t416)) else (if t424 = true then (laws_FnTrainsMeet.j2 kj52 l1 t417 t440 t441 t442 (true != true) t413 t414 t415 t416) else (laws_FnTrainsMeet.j2 kj52 l1 t417 t440 t441 t442 false t413 t414 t415 t416))) else (laws_FnTrainsMeet.j2 kj52 l1 t417 t440 t441 t442 true t413 t414 t415 t416))) else (laws_FnTrainsMeet.j2 kj52 l1 t417 t440 t441 t442 true t413 t414 t415 t416))) else (if t417 = 0 then (if t430 = 0 then (if t432 = 0 then (if t424 = true then (laws_FnTrainsMeet.j2 kj52 l1 t417 t440 t441 t442 (true != (t417 == 0)) t413 t414 t415 t416) else (laws_FnTrainsMeet.j2 kj52 l1 t417 t440 t441 t442 false t413 t414 t415 t416)) else (laws_FnTrainsMeet.j2 kj52 l1 t417 t440 t441 t442 true t413 t414 t415 t416)) else (laws_FnTrainsMeet.j2 kj52 l1 t417 t440 t441 t442 true t413 t414 t415 t416)) else (if t424 = true then (laws_FnTrainsMeet.j2 kj52 l1 t417 t440 t441 t442 (true != (t417 == 0)) t413 t414 t415 t416) else (laws_FnTrainsMeet.j2 kj52 l1 t417 t440 t441 t442 false t413 t414 t415 t416)))) = some r := by rw [if_pos rfl] at H; exact H
     clear H
     have H := H1
     clear H1
     by_cases c72 : t414 > t416
     ·rw [if_pos c72] at H
      have c72b0 : decide (t416 < t414) = true := decide_eq_true c72
      clear c72
      (first | rw [c72b0] | (simp only [i64_w, i32_w]; rw [c72b0]) | skip)
      replace H := Option.bind_eq_some_iff.mp H
      obtain ⟨t453, A730, H⟩ := H
      (try dsimp only at H)
      have A73 := Aside0.mk A730
      clear A730
      by_cases c74 : t453 = true
      ·subst c74
       have H1 : ((laws_qIs.f kj52 t432 t433 (wrap64 (t417 * t414)) (wrap64 (t414 - t416))).bind fun t454 => (if t454 = true then (if t417 = 0 then (if t430 = 0 then (if t432 = 0 then (if t424 = true then (laws_FnTrainsMeet.j2 kj52 l1 t417 t440 t441 t442 (true != true) t413 t414 t415 t416) else (laws_FnTrainsMeet.j2 kj52 l1 t417 t440 t441 t442 false t413 t414 t415 t416)) else (laws_FnTrainsMeet.j2 kj52 l1 t417 t440 t441 t442 true t413 t414 t415 t416)) else (laws_FnTrainsMeet.j2 kj52 l1 t417 t440 t441 t442 true t413 t414 t415 t416)) else (if t424 = true then (laws_FnTrainsMeet.j2 kj52 l1 t417 t440 t441 t442 (true != true) t413 t414 t415 t416) else (laws_FnTrainsMeet.j2 kj52 l1 t417 t440 t441 t442 false t413 t414 t415 t416))) else (laws_FnTrainsMeet.j2 kj52 l1 t417 t440 t441 t442 true t413 t414 t415 t416))) = some r := by rw [if_pos rfl] at H; exact H
       clear H
       have H := H1
       clear H1
       replace H := Option.bind_eq_some_iff.mp H
       obtain ⟨t454, A750, H⟩ := H
       (try dsimp only at H)
       have A75 := Aside0.mk A750
       clear A750
       by_cases c76 : t454 = true
       ·subst c76
        have H1 : (if t417 = 0 then (if t430 = 0 then (if t432 = 0 then (if t424 = true then (laws_FnTrainsMeet.j2 kj52 l1 t417 t440 t441 t442 (true != true) t413 t414 t415 t416) else (laws_FnTrainsMeet.j2 kj52 l1 t417 t440 t441 t442 false t413 t414 t415 t416)) else (laws_FnTrainsMeet.j2 kj52 l1 t417 t440 t441 t442 true t413 t414 t415 t416)) else (laws_FnTrainsMeet.j2 kj52 l1 t417 t440 t441 t442 true t413 t414 t415 t416)) else (if t424 = true then (laws_FnTrainsMeet.j2 kj52 l1 t417 t440 t441 t442 (true != true) t413 t414 t415 t416) else (laws_FnTrainsMeet.j2 kj52 l1 t417 t440 t441 t442 false t413 t414 t415 t416))) = some r := by rw [if_pos rfl] at H; exact H
        clear H
        have H := H1
        clear H1
        by_cases c77 : t417 = 0
        ·rw [if_pos c77] at H
         have c77b0 : (t417 == 0) = true := beq_iff_eq.mpr c77
         have c77b1 : (t417 != 0) = false := bne_eq_false_iff_eq.mpr c77
         clear c77
         by_cases c78 : t430 = 0
         ·rw [if_pos c78] at H
          have c78b0 : (t430 == 0) = true := beq_iff_eq.mpr c78
          have c78b1 : (t430 != 0) = false := bne_eq_false_iff_eq.mpr c78
          clear c78
          by_cases c79 : t432 = 0
          ·rw [if_pos c79] at H
           have c79b0 : (t432 == 0) = true := beq_iff_eq.mpr c79
           have c79b1 : (t432 != 0) = false := bne_eq_false_iff_eq.mpr c79
           clear c79
           by_cases c80 : t424 = true
           ·subst c80
            have H1 : (laws_FnTrainsMeet.j2 kj52 l1 t417 t440 t441 t442 (true != true) t413 t414 t415 t416) = some r := by rw [if_pos rfl] at H; exact H
            clear H
            have H := H1
            clear H1
            have H' := Aside0.mk H
            clear H
            have hnb81 := NB418_419.out
            have hnc81 := NB419_418.out
            have hcz82_0 : wc.cell? ⟨gb418, 0, none⟩ = some (.int .i64 t413) := (blk_cell BK418.out 0).trans rfl
            have hcz82_1 : wc.cell? ⟨gb418, 1, none⟩ = some (.int .i64 t414) := (blk_cell BK418.out 1).trans rfl
            have hfz82_0 := blk_frozen BK418.out 0
            have hfz82_1 := blk_frozen BK418.out 1
            have hcz83_0 : wc.cell? ⟨gb419, 0, none⟩ = some (.int .i64 t415) := (blk_cell BK419.out 0).trans rfl
            have hcz83_1 : wc.cell? ⟨gb419, 1, none⟩ = some (.int .i64 t416) := (blk_cell BK419.out 1).trans rfl
            have hfz83_0 := blk_frozen BK419.out 0
            have hfz83_1 := blk_frozen BK419.out 1
            go_wp2_with (first | (go_at_call 11; (with_reducible refine (laws_qIs.calls kj52 t430 t431 t417 (wrap64 (t414 - t416)) true _ A73.out).mono ?_); rintro e w' ⟨rfl, ⟨nd, rfl⟩⟩; (try first | exact ⟨rfl, _, World.drewN_drewN _ _ _⟩ | exact ⟨rfl, _, Eq.trans (World.drewN_drewN _ _ _) (congrArg (World.drewN _) (Nat.add_assoc _ _ _))⟩)) | (go_at_call 11; (with_reducible refine (laws_qIs.calls kj52 t432 t433 (wrap64 (t417 * t414)) (wrap64 (t414 - t416)) true _ A75.out).mono ?_); rintro e w' ⟨rfl, ⟨nd, rfl⟩⟩; (try first | exact ⟨rfl, _, World.drewN_drewN _ _ _⟩ | exact ⟨rfl, _, Eq.trans (World.drewN_drewN _ _ _) (congrArg (World.drewN _) (Nat.add_assoc _ _ _))⟩)))
            repeat (go_quiet (first | (go_at_call 11; (with_reducible refine (laws_qIs.calls kj52 t430 t431 t417 (wrap64 (t414 - t416)) true _ A73.out).mono ?_); rintro e w' ⟨rfl, ⟨nd, rfl⟩⟩; (try first | exact ⟨rfl, _, World.drewN_drewN _ _ _⟩ | exact ⟨rfl, _, Eq.trans (World.drewN_drewN _ _ _) (congrArg (World.drewN _) (Nat.add_assoc _ _ _))⟩)) | (go_at_call 11; (with_reducible refine (laws_qIs.calls kj52 t432 t433 (wrap64 (t417 * t414)) (wrap64 (t414 - t416)) true _ A75.out).mono ?_); rintro e w' ⟨rfl, ⟨nd, rfl⟩⟩; (try first | exact ⟨rfl, _, World.drewN_drewN _ _ _⟩ | exact ⟨rfl, _, Eq.trans (World.drewN_drewN _ _ _) (congrArg (World.drewN _) (Nat.add_assoc _ _ _))⟩))); try go_wp2_with (first | (go_at_call 11; (with_reducible refine (laws_qIs.calls kj52 t430 t431 t417 (wrap64 (t414 - t416)) true _ A73.out).mono ?_); rintro e w' ⟨rfl, ⟨nd, rfl⟩⟩; (try first | exact ⟨rfl, _, World.drewN_drewN _ _ _⟩ | exact ⟨rfl, _, Eq.trans (World.drewN_drewN _ _ _) (congrArg (World.drewN _) (Nat.add_assoc _ _ _))⟩)) | (go_at_call 11; (with_reducible refine (laws_qIs.calls kj52 t432 t433 (wrap64 (t417 * t414)) (wrap64 (t414 - t416)) true _ A75.out).mono ?_); rintro e w' ⟨rfl, ⟨nd, rfl⟩⟩; (try first | exact ⟨rfl, _, World.drewN_drewN _ _ _⟩ | exact ⟨rfl, _, Eq.trans (World.drewN_drewN _ _ _) (congrArg (World.drewN _) (Nat.add_assoc _ _ _))⟩))))
            go_meet
            case rel => exact ⟨_, ((true != true)), (by first | rfl | (simp; done) | (simp [*]; done)), H', ⟨by have := HJ11.out; have := HJ52.out; first | omega | exact Nat.le_refl _⟩, ⟨by (with_reducible repeat (first | refine blk_drewN ?_ _ | refine blk_drew ?_ | refine blk_alloc ?_ _)); exact BK418.out⟩, ⟨by (with_reducible repeat (first | refine blk_drewN ?_ _ | refine blk_drew ?_ | refine blk_alloc ?_ _)); exact BK419.out⟩, ⟨by repeat (first | (with_reducible first | exact HB.out | apply below_alloc | apply pw_below_drewN | apply below_drew1 | refine below_set ?_ GE418.out | refine below_set ?_ GE419.out) | exact HB.out)⟩⟩
           ·replace c80 := Bool.eq_false_iff.mpr c80
            subst c80
            have H1 : (laws_FnTrainsMeet.j2 kj52 l1 t417 t440 t441 t442 false t413 t414 t415 t416) = some r := by rw [if_neg (show ¬ (false = true) by decide)] at H; exact H
            clear H
            have H := H1
            clear H1
            have H' := Aside0.mk H
            clear H
            have hnb84 := NB418_419.out
            have hnc84 := NB419_418.out
            have hcz85_0 : wc.cell? ⟨gb418, 0, none⟩ = some (.int .i64 t413) := (blk_cell BK418.out 0).trans rfl
            have hcz85_1 : wc.cell? ⟨gb418, 1, none⟩ = some (.int .i64 t414) := (blk_cell BK418.out 1).trans rfl
            have hfz85_0 := blk_frozen BK418.out 0
            have hfz85_1 := blk_frozen BK418.out 1
            have hcz86_0 : wc.cell? ⟨gb419, 0, none⟩ = some (.int .i64 t415) := (blk_cell BK419.out 0).trans rfl
            have hcz86_1 : wc.cell? ⟨gb419, 1, none⟩ = some (.int .i64 t416) := (blk_cell BK419.out 1).trans rfl
            have hfz86_0 := blk_frozen BK419.out 0
            have hfz86_1 := blk_frozen BK419.out 1
            go_wp2_with (first | (go_at_call 11; (with_reducible refine (laws_qIs.calls kj52 t430 t431 t417 (wrap64 (t414 - t416)) true _ A73.out).mono ?_); rintro e w' ⟨rfl, ⟨nd, rfl⟩⟩; (try first | exact ⟨rfl, _, World.drewN_drewN _ _ _⟩ | exact ⟨rfl, _, Eq.trans (World.drewN_drewN _ _ _) (congrArg (World.drewN _) (Nat.add_assoc _ _ _))⟩)) | (go_at_call 11; (with_reducible refine (laws_qIs.calls kj52 t432 t433 (wrap64 (t417 * t414)) (wrap64 (t414 - t416)) true _ A75.out).mono ?_); rintro e w' ⟨rfl, ⟨nd, rfl⟩⟩; (try first | exact ⟨rfl, _, World.drewN_drewN _ _ _⟩ | exact ⟨rfl, _, Eq.trans (World.drewN_drewN _ _ _) (congrArg (World.drewN _) (Nat.add_assoc _ _ _))⟩)))
            repeat (go_quiet (first | (go_at_call 11; (with_reducible refine (laws_qIs.calls kj52 t430 t431 t417 (wrap64 (t414 - t416)) true _ A73.out).mono ?_); rintro e w' ⟨rfl, ⟨nd, rfl⟩⟩; (try first | exact ⟨rfl, _, World.drewN_drewN _ _ _⟩ | exact ⟨rfl, _, Eq.trans (World.drewN_drewN _ _ _) (congrArg (World.drewN _) (Nat.add_assoc _ _ _))⟩)) | (go_at_call 11; (with_reducible refine (laws_qIs.calls kj52 t432 t433 (wrap64 (t417 * t414)) (wrap64 (t414 - t416)) true _ A75.out).mono ?_); rintro e w' ⟨rfl, ⟨nd, rfl⟩⟩; (try first | exact ⟨rfl, _, World.drewN_drewN _ _ _⟩ | exact ⟨rfl, _, Eq.trans (World.drewN_drewN _ _ _) (congrArg (World.drewN _) (Nat.add_assoc _ _ _))⟩))); try go_wp2_with (first | (go_at_call 11; (with_reducible refine (laws_qIs.calls kj52 t430 t431 t417 (wrap64 (t414 - t416)) true _ A73.out).mono ?_); rintro e w' ⟨rfl, ⟨nd, rfl⟩⟩; (try first | exact ⟨rfl, _, World.drewN_drewN _ _ _⟩ | exact ⟨rfl, _, Eq.trans (World.drewN_drewN _ _ _) (congrArg (World.drewN _) (Nat.add_assoc _ _ _))⟩)) | (go_at_call 11; (with_reducible refine (laws_qIs.calls kj52 t432 t433 (wrap64 (t417 * t414)) (wrap64 (t414 - t416)) true _ A75.out).mono ?_); rintro e w' ⟨rfl, ⟨nd, rfl⟩⟩; (try first | exact ⟨rfl, _, World.drewN_drewN _ _ _⟩ | exact ⟨rfl, _, Eq.trans (World.drewN_drewN _ _ _) (congrArg (World.drewN _) (Nat.add_assoc _ _ _))⟩))))
            go_meet
            case rel => exact ⟨_, (false), (by first | rfl | (simp; done) | (simp [*]; done)), H', ⟨by have := HJ11.out; have := HJ52.out; first | omega | exact Nat.le_refl _⟩, ⟨by (with_reducible repeat (first | refine blk_drewN ?_ _ | refine blk_drew ?_ | refine blk_alloc ?_ _)); exact BK418.out⟩, ⟨by (with_reducible repeat (first | refine blk_drewN ?_ _ | refine blk_drew ?_ | refine blk_alloc ?_ _)); exact BK419.out⟩, ⟨by repeat (first | (with_reducible first | exact HB.out | apply below_alloc | apply pw_below_drewN | apply below_drew1 | refine below_set ?_ GE418.out | refine below_set ?_ GE419.out) | exact HB.out)⟩⟩
          ·rw [if_neg c79] at H
           have c79b0 : (t432 == 0) = false := beq_eq_false_iff_ne.mpr c79
           have c79b1 : (t432 != 0) = true := bne_iff_ne.mpr c79
           exact absurd H (by rw [HR_.out]; cases kj52 <;> simp [laws_FnTrainsMeet.j2])
         ·rw [if_neg c78] at H
          have c78b0 : (t430 == 0) = false := beq_eq_false_iff_ne.mpr c78
          have c78b1 : (t430 != 0) = true := bne_iff_ne.mpr c78
          exact absurd H (by rw [HR_.out]; cases kj52 <;> simp [laws_FnTrainsMeet.j2])
        ·rw [if_neg c77] at H
         have c77b0 : (t417 == 0) = false := beq_eq_false_iff_ne.mpr c77
         have c77b1 : (t417 != 0) = true := bne_iff_ne.mpr c77
         by_cases c87 : t424 = true
         ·subst c87
          have H1 : (laws_FnTrainsMeet.j2 kj52 l1 t417 t440 t441 t442 (true != true) t413 t414 t415 t416) = some r := by rw [if_pos rfl] at H; exact H
          clear H
          have H := H1
          clear H1
          have H' := Aside0.mk H
          clear H
          have hnb88 := NB418_419.out
          have hnc88 := NB419_418.out
          have hcz89_0 : wc.cell? ⟨gb418, 0, none⟩ = some (.int .i64 t413) := (blk_cell BK418.out 0).trans rfl
          have hcz89_1 : wc.cell? ⟨gb418, 1, none⟩ = some (.int .i64 t414) := (blk_cell BK418.out 1).trans rfl
          have hfz89_0 := blk_frozen BK418.out 0
          have hfz89_1 := blk_frozen BK418.out 1
          have hcz90_0 : wc.cell? ⟨gb419, 0, none⟩ = some (.int .i64 t415) := (blk_cell BK419.out 0).trans rfl
          have hcz90_1 : wc.cell? ⟨gb419, 1, none⟩ = some (.int .i64 t416) := (blk_cell BK419.out 1).trans rfl
          have hfz90_0 := blk_frozen BK419.out 0
          have hfz90_1 := blk_frozen BK419.out 1
          go_wp2_with (first | (go_at_call 11; (with_reducible refine (laws_qIs.calls kj52 t430 t431 t417 (wrap64 (t414 - t416)) true _ A73.out).mono ?_); rintro e w' ⟨rfl, ⟨nd, rfl⟩⟩; (try first | exact ⟨rfl, _, World.drewN_drewN _ _ _⟩ | exact ⟨rfl, _, Eq.trans (World.drewN_drewN _ _ _) (congrArg (World.drewN _) (Nat.add_assoc _ _ _))⟩)) | (go_at_call 11; (with_reducible refine (laws_qIs.calls kj52 t432 t433 (wrap64 (t417 * t414)) (wrap64 (t414 - t416)) true _ A75.out).mono ?_); rintro e w' ⟨rfl, ⟨nd, rfl⟩⟩; (try first | exact ⟨rfl, _, World.drewN_drewN _ _ _⟩ | exact ⟨rfl, _, Eq.trans (World.drewN_drewN _ _ _) (congrArg (World.drewN _) (Nat.add_assoc _ _ _))⟩)))
          repeat (go_quiet (first | (go_at_call 11; (with_reducible refine (laws_qIs.calls kj52 t430 t431 t417 (wrap64 (t414 - t416)) true _ A73.out).mono ?_); rintro e w' ⟨rfl, ⟨nd, rfl⟩⟩; (try first | exact ⟨rfl, _, World.drewN_drewN _ _ _⟩ | exact ⟨rfl, _, Eq.trans (World.drewN_drewN _ _ _) (congrArg (World.drewN _) (Nat.add_assoc _ _ _))⟩)) | (go_at_call 11; (with_reducible refine (laws_qIs.calls kj52 t432 t433 (wrap64 (t417 * t414)) (wrap64 (t414 - t416)) true _ A75.out).mono ?_); rintro e w' ⟨rfl, ⟨nd, rfl⟩⟩; (try first | exact ⟨rfl, _, World.drewN_drewN _ _ _⟩ | exact ⟨rfl, _, Eq.trans (World.drewN_drewN _ _ _) (congrArg (World.drewN _) (Nat.add_assoc _ _ _))⟩))); try go_wp2_with (first | (go_at_call 11; (with_reducible refine (laws_qIs.calls kj52 t430 t431 t417 (wrap64 (t414 - t416)) true _ A73.out).mono ?_); rintro e w' ⟨rfl, ⟨nd, rfl⟩⟩; (try first | exact ⟨rfl, _, World.drewN_drewN _ _ _⟩ | exact ⟨rfl, _, Eq.trans (World.drewN_drewN _ _ _) (congrArg (World.drewN _) (Nat.add_assoc _ _ _))⟩)) | (go_at_call 11; (with_reducible refine (laws_qIs.calls kj52 t432 t433 (wrap64 (t417 * t414)) (wrap64 (t414 - t416)) true _ A75.out).mono ?_); rintro e w' ⟨rfl, ⟨nd, rfl⟩⟩; (try first | exact ⟨rfl, _, World.drewN_drewN _ _ _⟩ | exact ⟨rfl, _, Eq.trans (World.drewN_drewN _ _ _) (congrArg (World.drewN _) (Nat.add_assoc _ _ _))⟩))))
          go_meet
          case rel => exact ⟨_, ((true != true)), (by first | rfl | (simp; done) | (simp [*]; done)), H', ⟨by have := HJ11.out; have := HJ52.out; first | omega | exact Nat.le_refl _⟩, ⟨by (with_reducible repeat (first | refine blk_drewN ?_ _ | refine blk_drew ?_ | refine blk_alloc ?_ _)); exact BK418.out⟩, ⟨by (with_reducible repeat (first | refine blk_drewN ?_ _ | refine blk_drew ?_ | refine blk_alloc ?_ _)); exact BK419.out⟩, ⟨by repeat (first | (with_reducible first | exact HB.out | apply below_alloc | apply pw_below_drewN | apply below_drew1 | refine below_set ?_ GE418.out | refine below_set ?_ GE419.out) | exact HB.out)⟩⟩
         ·replace c87 := Bool.eq_false_iff.mpr c87
          subst c87
          have H1 : (laws_FnTrainsMeet.j2 kj52 l1 t417 t440 t441 t442 false t413 t414 t415 t416) = some r := by rw [if_neg (show ¬ (false = true) by decide)] at H; exact H
          clear H
          have H := H1
          clear H1
          have H' := Aside0.mk H
          clear H
          have hnb91 := NB418_419.out
          have hnc91 := NB419_418.out
          have hcz92_0 : wc.cell? ⟨gb418, 0, none⟩ = some (.int .i64 t413) := (blk_cell BK418.out 0).trans rfl
          have hcz92_1 : wc.cell? ⟨gb418, 1, none⟩ = some (.int .i64 t414) := (blk_cell BK418.out 1).trans rfl
          have hfz92_0 := blk_frozen BK418.out 0
          have hfz92_1 := blk_frozen BK418.out 1
          have hcz93_0 : wc.cell? ⟨gb419, 0, none⟩ = some (.int .i64 t415) := (blk_cell BK419.out 0).trans rfl
          have hcz93_1 : wc.cell? ⟨gb419, 1, none⟩ = some (.int .i64 t416) := (blk_cell BK419.out 1).trans rfl
          have hfz93_0 := blk_frozen BK419.out 0
          have hfz93_1 := blk_frozen BK419.out 1
          go_wp2_with (first | (go_at_call 11; (with_reducible refine (laws_qIs.calls kj52 t430 t431 t417 (wrap64 (t414 - t416)) true _ A73.out).mono ?_); rintro e w' ⟨rfl, ⟨nd, rfl⟩⟩; (try first | exact ⟨rfl, _, World.drewN_drewN _ _ _⟩ | exact ⟨rfl, _, Eq.trans (World.drewN_drewN _ _ _) (congrArg (World.drewN _) (Nat.add_assoc _ _ _))⟩)) | (go_at_call 11; (with_reducible refine (laws_qIs.calls kj52 t432 t433 (wrap64 (t417 * t414)) (wrap64 (t414 - t416)) true _ A75.out).mono ?_); rintro e w' ⟨rfl, ⟨nd, rfl⟩⟩; (try first | exact ⟨rfl, _, World.drewN_drewN _ _ _⟩ | exact ⟨rfl, _, Eq.trans (World.drewN_drewN _ _ _) (congrArg (World.drewN _) (Nat.add_assoc _ _ _))⟩)))
          repeat (go_quiet (first | (go_at_call 11; (with_reducible refine (laws_qIs.calls kj52 t430 t431 t417 (wrap64 (t414 - t416)) true _ A73.out).mono ?_); rintro e w' ⟨rfl, ⟨nd, rfl⟩⟩; (try first | exact ⟨rfl, _, World.drewN_drewN _ _ _⟩ | exact ⟨rfl, _, Eq.trans (World.drewN_drewN _ _ _) (congrArg (World.drewN _) (Nat.add_assoc _ _ _))⟩)) | (go_at_call 11; (with_reducible refine (laws_qIs.calls kj52 t432 t433 (wrap64 (t417 * t414)) (wrap64 (t414 - t416)) true _ A75.out).mono ?_); rintro e w' ⟨rfl, ⟨nd, rfl⟩⟩; (try first | exact ⟨rfl, _, World.drewN_drewN _ _ _⟩ | exact ⟨rfl, _, Eq.trans (World.drewN_drewN _ _ _) (congrArg (World.drewN _) (Nat.add_assoc _ _ _))⟩))); try go_wp2_with (first | (go_at_call 11; (with_reducible refine (laws_qIs.calls kj52 t430 t431 t417 (wrap64 (t414 - t416)) true _ A73.out).mono ?_); rintro e w' ⟨rfl, ⟨nd, rfl⟩⟩; (try first | exact ⟨rfl, _, World.drewN_drewN _ _ _⟩ | exact ⟨rfl, _, Eq.trans (World.drewN_drewN _ _ _) (congrArg (World.drewN _) (Nat.add_assoc _ _ _))⟩)) | (go_at_call 11; (with_reducible refine (laws_qIs.calls kj52 t432 t433 (wrap64 (t417 * t414)) (wrap64 (t414 - t416)) true _ A75.out).mono ?_); rintro e w' ⟨rfl, ⟨nd, rfl⟩⟩; (try first | exact ⟨rfl, _, World.drewN_drewN _ _ _⟩ | exact ⟨rfl, _, Eq.trans (World.drewN_drewN _ _ _) (congrArg (World.drewN _) (Nat.add_assoc _ _ _))⟩))))
          go_meet
          case rel => exact ⟨_, (false), (by first | rfl | (simp; done) | (simp [*]; done)), H', ⟨by have := HJ11.out; have := HJ52.out; first | omega | exact Nat.le_refl _⟩, ⟨by (with_reducible repeat (first | refine blk_drewN ?_ _ | refine blk_drew ?_ | refine blk_alloc ?_ _)); exact BK418.out⟩, ⟨by (with_reducible repeat (first | refine blk_drewN ?_ _ | refine blk_drew ?_ | refine blk_alloc ?_ _)); exact BK419.out⟩, ⟨by repeat (first | (with_reducible first | exact HB.out | apply below_alloc | apply pw_below_drewN | apply below_drew1 | refine below_set ?_ GE418.out | refine below_set ?_ GE419.out) | exact HB.out)⟩⟩
       ·replace c76 := Bool.eq_false_iff.mpr c76
        subst c76
        have H1 : (laws_FnTrainsMeet.j2 kj52 l1 t417 t440 t441 t442 true t413 t414 t415 t416) = some r := by rw [if_neg (show ¬ (false = true) by decide)] at H; exact H
        clear H
        have H := H1
        clear H1
        exact absurd H (by rw [HR_.out]; cases kj52 <;> simp [laws_FnTrainsMeet.j2])
      ·replace c74 := Bool.eq_false_iff.mpr c74
       subst c74
       have H1 : (laws_FnTrainsMeet.j2 kj52 l1 t417 t440 t441 t442 true t413 t414 t415 t416) = some r := by rw [if_neg (show ¬ (false = true) by decide)] at H; exact H
       clear H
       have H := H1
       clear H1
       exact absurd H (by rw [HR_.out]; cases kj52 <;> simp [laws_FnTrainsMeet.j2])
     ·rw [if_neg c72] at H
      have c72b0 : decide (t416 < t414) = false := decide_eq_false c72
      clear c72
      (first | rw [c72b0] | (simp only [i64_w, i32_w]; rw [c72b0]) | skip)
      by_cases c94 : t417 = 0
      ·rw [if_pos c94] at H
       have c94b0 : (t417 == 0) = true := beq_iff_eq.mpr c94
       have c94b1 : (t417 != 0) = false := bne_eq_false_iff_eq.mpr c94
       clear c94
       by_cases c95 : t430 = 0
       ·rw [if_pos c95] at H
        have c95b0 : (t430 == 0) = true := beq_iff_eq.mpr c95
        have c95b1 : (t430 != 0) = false := bne_eq_false_iff_eq.mpr c95
        clear c95
        by_cases c96 : t432 = 0
        ·rw [if_pos c96] at H
         have c96b0 : (t432 == 0) = true := beq_iff_eq.mpr c96
         have c96b1 : (t432 != 0) = false := bne_eq_false_iff_eq.mpr c96
         clear c96
         by_cases c97 : t424 = true
         ·subst c97
          have H1 : (laws_FnTrainsMeet.j2 kj52 l1 t417 t440 t441 t442 (true != (t417 == 0)) t413 t414 t415 t416) = some r := by rw [if_pos rfl] at H; exact H
          clear H
          have H := H1
          clear H1
          have H' := Aside0.mk H
          clear H
          have hnb98 := NB418_419.out
          have hnc98 := NB419_418.out
          have hcz99_0 : wc.cell? ⟨gb418, 0, none⟩ = some (.int .i64 t413) := (blk_cell BK418.out 0).trans rfl
          have hcz99_1 : wc.cell? ⟨gb418, 1, none⟩ = some (.int .i64 t414) := (blk_cell BK418.out 1).trans rfl
          have hfz99_0 := blk_frozen BK418.out 0
          have hfz99_1 := blk_frozen BK418.out 1
          have hcz100_0 : wc.cell? ⟨gb419, 0, none⟩ = some (.int .i64 t415) := (blk_cell BK419.out 0).trans rfl
          have hcz100_1 : wc.cell? ⟨gb419, 1, none⟩ = some (.int .i64 t416) := (blk_cell BK419.out 1).trans rfl
          have hfz100_0 := blk_frozen BK419.out 0
          have hfz100_1 := blk_frozen BK419.out 1
          go_wp2
          repeat (go_quiet (fail); try go_wp2)
          go_meet
          case rel => exact ⟨_, ((true != (t417 == 0))), (by first | rfl | (simp; done) | (simp [*]; done)), H', ⟨by have := HJ11.out; have := HJ52.out; first | omega | exact Nat.le_refl _⟩, ⟨by (with_reducible repeat (first | refine blk_drewN ?_ _ | refine blk_drew ?_ | refine blk_alloc ?_ _)); exact BK418.out⟩, ⟨by (with_reducible repeat (first | refine blk_drewN ?_ _ | refine blk_drew ?_ | refine blk_alloc ?_ _)); exact BK419.out⟩, ⟨by repeat (first | (with_reducible first | exact HB.out | apply below_alloc | apply pw_below_drewN | apply below_drew1 | refine below_set ?_ GE418.out | refine below_set ?_ GE419.out) | exact HB.out)⟩⟩
         ·replace c97 := Bool.eq_false_iff.mpr c97
          subst c97
          have H1 : (laws_FnTrainsMeet.j2 kj52 l1 t417 t440 t441 t442 false t413 t414 t415 t416) = some r := by rw [if_neg (show ¬ (false = true) by decide)] at H; exact H
          clear H
          have H := H1
          clear H1
          have H' := Aside0.mk H
          clear H
          have hnb101 := NB418_419.out
          have hnc101 := NB419_418.out
          have hcz102_0 : wc.cell? ⟨gb418, 0, none⟩ = some (.int .i64 t413) := (blk_cell BK418.out 0).trans rfl
          have hcz102_1 : wc.cell? ⟨gb418, 1, none⟩ = some (.int .i64 t414) := (blk_cell BK418.out 1).trans rfl
          have hfz102_0 := blk_frozen BK418.out 0
          have hfz102_1 := blk_frozen BK418.out 1
          have hcz103_0 : wc.cell? ⟨gb419, 0, none⟩ = some (.int .i64 t415) := (blk_cell BK419.out 0).trans rfl
          have hcz103_1 : wc.cell? ⟨gb419, 1, none⟩ = some (.int .i64 t416) := (blk_cell BK419.out 1).trans rfl
          have hfz103_0 := blk_frozen BK419.out 0
          have hfz103_1 := blk_frozen BK419.out 1
          go_wp2
          repeat (go_quiet (fail); try go_wp2)
          go_meet
          case rel => exact ⟨_, (false), (by first | rfl | (simp; done) | (simp [*]; done)), H', ⟨by have := HJ11.out; have := HJ52.out; first | omega | exact Nat.le_refl _⟩, ⟨by (with_reducible repeat (first | refine blk_drewN ?_ _ | refine blk_drew ?_ | refine blk_alloc ?_ _)); exact BK418.out⟩, ⟨by (with_reducible repeat (first | refine blk_drewN ?_ _ | refine blk_drew ?_ | refine blk_alloc ?_ _)); exact BK419.out⟩, ⟨by repeat (first | (with_reducible first | exact HB.out | apply below_alloc | apply pw_below_drewN | apply below_drew1 | refine below_set ?_ GE418.out | refine below_set ?_ GE419.out) | exact HB.out)⟩⟩
        ·rw [if_neg c96] at H
         have c96b0 : (t432 == 0) = false := beq_eq_false_iff_ne.mpr c96
         have c96b1 : (t432 != 0) = true := bne_iff_ne.mpr c96
         exact absurd H (by rw [HR_.out]; cases kj52 <;> simp [laws_FnTrainsMeet.j2])
       ·rw [if_neg c95] at H
        have c95b0 : (t430 == 0) = false := beq_eq_false_iff_ne.mpr c95
        have c95b1 : (t430 != 0) = true := bne_iff_ne.mpr c95
        exact absurd H (by rw [HR_.out]; cases kj52 <;> simp [laws_FnTrainsMeet.j2])
      ·rw [if_neg c94] at H
       have c94b0 : (t417 == 0) = false := beq_eq_false_iff_ne.mpr c94
       have c94b1 : (t417 != 0) = true := bne_iff_ne.mpr c94
       by_cases c104 : t424 = true
       ·subst c104
        have H1 : (laws_FnTrainsMeet.j2 kj52 l1 t417 t440 t441 t442 (true != (t417 == 0)) t413 t414 t415 t416) = some r := by rw [if_pos rfl] at H; exact H
        clear H
        have H := H1
        clear H1
        have H' := Aside0.mk H
        clear H
        have hnb105 := NB418_419.out
        have hnc105 := NB419_418.out
        have hcz106_0 : wc.cell? ⟨gb418, 0, none⟩ = some (.int .i64 t413) := (blk_cell BK418.out 0).trans rfl
        have hcz106_1 : wc.cell? ⟨gb418, 1, none⟩ = some (.int .i64 t414) := (blk_cell BK418.out 1).trans rfl
        have hfz106_0 := blk_frozen BK418.out 0
        have hfz106_1 := blk_frozen BK418.out 1
        have hcz107_0 : wc.cell? ⟨gb419, 0, none⟩ = some (.int .i64 t415) := (blk_cell BK419.out 0).trans rfl
        have hcz107_1 : wc.cell? ⟨gb419, 1, none⟩ = some (.int .i64 t416) := (blk_cell BK419.out 1).trans rfl
        have hfz107_0 := blk_frozen BK419.out 0
        have hfz107_1 := blk_frozen BK419.out 1
        go_wp2
        repeat (go_quiet (fail); try go_wp2)
        go_meet
        case rel => exact ⟨_, ((true != (t417 == 0))), (by first | rfl | (simp; done) | (simp [*]; done)), H', ⟨by have := HJ11.out; have := HJ52.out; first | omega | exact Nat.le_refl _⟩, ⟨by (with_reducible repeat (first | refine blk_drewN ?_ _ | refine blk_drew ?_ | refine blk_alloc ?_ _)); exact BK418.out⟩, ⟨by (with_reducible repeat (first | refine blk_drewN ?_ _ | refine blk_drew ?_ | refine blk_alloc ?_ _)); exact BK419.out⟩, ⟨by repeat (first | (with_reducible first | exact HB.out | apply below_alloc | apply pw_below_drewN | apply below_drew1 | refine below_set ?_ GE418.out | refine below_set ?_ GE419.out) | exact HB.out)⟩⟩
       ·replace c104 := Bool.eq_false_iff.mpr c104
        subst c104
        have H1 : (laws_FnTrainsMeet.j2 kj52 l1 t417 t440 t441 t442 false t413 t414 t415 t416) = some r := by rw [if_neg (show ¬ (false = true) by decide)] at H; exact H
        clear H
        have H := H1
        clear H1
        have H' := Aside0.mk H
        clear H
        have hnb108 := NB418_419.out
        have hnc108 := NB419_418.out
        have hcz109_0 : wc.cell? ⟨gb418, 0, none⟩ = some (.int .i64 t413) := (blk_cell BK418.out 0).trans rfl
        have hcz109_1 : wc.cell? ⟨gb418, 1, none⟩ = some (.int .i64 t414) := (blk_cell BK418.out 1).trans rfl
        have hfz109_0 := blk_frozen BK418.out 0
        have hfz109_1 := blk_frozen BK418.out 1
        have hcz110_0 : wc.cell? ⟨gb419, 0, none⟩ = some (.int .i64 t415) := (blk_cell BK419.out 0).trans rfl
        have hcz110_1 : wc.cell? ⟨gb419, 1, none⟩ = some (.int .i64 t416) := (blk_cell BK419.out 1).trans rfl
        have hfz110_0 := blk_frozen BK419.out 0
        have hfz110_1 := blk_frozen BK419.out 1
        go_wp2
        repeat (go_quiet (fail); try go_wp2)
        go_meet
        case rel => exact ⟨_, (false), (by first | rfl | (simp; done) | (simp [*]; done)), H', ⟨by have := HJ11.out; have := HJ52.out; first | omega | exact Nat.le_refl _⟩, ⟨by (with_reducible repeat (first | refine blk_drewN ?_ _ | refine blk_drew ?_ | refine blk_alloc ?_ _)); exact BK418.out⟩, ⟨by (with_reducible repeat (first | refine blk_drewN ?_ _ | refine blk_drew ?_ | refine blk_alloc ?_ _)); exact BK419.out⟩, ⟨by repeat (first | (with_reducible first | exact HB.out | apply below_alloc | apply pw_below_drewN | apply below_drew1 | refine below_set ?_ GE418.out | refine below_set ?_ GE419.out) | exact HB.out)⟩⟩
    ·replace c71 := Bool.eq_false_iff.mpr c71
     subst c71
     have H1 : (if t424 = true then (if t414 > t416 then (laws_FnTrainsMeet.j2 kj52 l1 t417 t440 t441 t442 (false != true) t413 t414 t415 t416) else (laws_FnTrainsMeet.j2 kj52 l1 t417 t440 t441 t442 (false != (t417 == 0)) t413 t414 t415 t416)) else (laws_FnTrainsMeet.j2 kj52 l1 t417 t440 t441 t442 false t413 t414 t415 t416)) = some r := by rw [if_neg (show ¬ (false = true) by decide)] at H; exact H
     clear H
     have H := H1
     clear H1
     by_cases c111 : t424 = true
     ·subst c111
      have H1 : (if t414 > t416 then (laws_FnTrainsMeet.j2 kj52 l1 t417 t440 t441 t442 (false != true) t413 t414 t415 t416) else (laws_FnTrainsMeet.j2 kj52 l1 t417 t440 t441 t442 (false != (t417 == 0)) t413 t414 t415 t416)) = some r := by rw [if_pos rfl] at H; exact H
      clear H
      have H := H1
      clear H1
      by_cases c112 : t414 > t416
      ·rw [if_pos c112] at H
       have c112b0 : decide (t416 < t414) = true := decide_eq_true c112
       clear c112
       have H' := Aside0.mk H
       clear H
       have hnb113 := NB418_419.out
       have hnc113 := NB419_418.out
       have hcz114_0 : wc.cell? ⟨gb418, 0, none⟩ = some (.int .i64 t413) := (blk_cell BK418.out 0).trans rfl
       have hcz114_1 : wc.cell? ⟨gb418, 1, none⟩ = some (.int .i64 t414) := (blk_cell BK418.out 1).trans rfl
       have hfz114_0 := blk_frozen BK418.out 0
       have hfz114_1 := blk_frozen BK418.out 1
       have hcz115_0 : wc.cell? ⟨gb419, 0, none⟩ = some (.int .i64 t415) := (blk_cell BK419.out 0).trans rfl
       have hcz115_1 : wc.cell? ⟨gb419, 1, none⟩ = some (.int .i64 t416) := (blk_cell BK419.out 1).trans rfl
       have hfz115_0 := blk_frozen BK419.out 0
       have hfz115_1 := blk_frozen BK419.out 1
       go_wp2
       repeat (go_quiet (fail); try go_wp2)
       go_meet
       case rel => exact ⟨_, ((false != true)), (by first | rfl | (simp; done) | (simp [*]; done)), H', ⟨by have := HJ11.out; have := HJ52.out; first | omega | exact Nat.le_refl _⟩, ⟨by (with_reducible repeat (first | refine blk_drewN ?_ _ | refine blk_drew ?_ | refine blk_alloc ?_ _)); exact BK418.out⟩, ⟨by (with_reducible repeat (first | refine blk_drewN ?_ _ | refine blk_drew ?_ | refine blk_alloc ?_ _)); exact BK419.out⟩, ⟨by repeat (first | (with_reducible first | exact HB.out | apply below_alloc | apply pw_below_drewN | apply below_drew1 | refine below_set ?_ GE418.out | refine below_set ?_ GE419.out) | exact HB.out)⟩⟩
      ·rw [if_neg c112] at H
       have c112b0 : decide (t416 < t414) = false := decide_eq_false c112
       clear c112
       have H' := Aside0.mk H
       clear H
       have hnb116 := NB418_419.out
       have hnc116 := NB419_418.out
       have hcz117_0 : wc.cell? ⟨gb418, 0, none⟩ = some (.int .i64 t413) := (blk_cell BK418.out 0).trans rfl
       have hcz117_1 : wc.cell? ⟨gb418, 1, none⟩ = some (.int .i64 t414) := (blk_cell BK418.out 1).trans rfl
       have hfz117_0 := blk_frozen BK418.out 0
       have hfz117_1 := blk_frozen BK418.out 1
       have hcz118_0 : wc.cell? ⟨gb419, 0, none⟩ = some (.int .i64 t415) := (blk_cell BK419.out 0).trans rfl
       have hcz118_1 : wc.cell? ⟨gb419, 1, none⟩ = some (.int .i64 t416) := (blk_cell BK419.out 1).trans rfl
       have hfz118_0 := blk_frozen BK419.out 0
       have hfz118_1 := blk_frozen BK419.out 1
       go_wp2
       repeat (go_quiet (fail); try go_wp2)
       go_meet
       case rel => exact ⟨_, ((false != (t417 == 0))), (by first | rfl | (simp; done) | (simp [*]; done)), H', ⟨by have := HJ11.out; have := HJ52.out; first | omega | exact Nat.le_refl _⟩, ⟨by (with_reducible repeat (first | refine blk_drewN ?_ _ | refine blk_drew ?_ | refine blk_alloc ?_ _)); exact BK418.out⟩, ⟨by (with_reducible repeat (first | refine blk_drewN ?_ _ | refine blk_drew ?_ | refine blk_alloc ?_ _)); exact BK419.out⟩, ⟨by repeat (first | (with_reducible first | exact HB.out | apply below_alloc | apply pw_below_drewN | apply below_drew1 | refine below_set ?_ GE418.out | refine below_set ?_ GE419.out) | exact HB.out)⟩⟩
     ·replace c111 := Bool.eq_false_iff.mpr c111
      subst c111
      have H1 : (laws_FnTrainsMeet.j2 kj52 l1 t417 t440 t441 t442 false t413 t414 t415 t416) = some r := by rw [if_neg (show ¬ (false = true) by decide)] at H; exact H
      clear H
      have H := H1
      clear H1
      have H' := Aside0.mk H
      clear H
      go_wp2
      repeat (go_quiet (fail); try go_wp2)
      go_meet
      case rel => exact ⟨_, (false), (by first | rfl | (simp; done) | (simp [*]; done)), H', ⟨by have := HJ11.out; have := HJ52.out; first | omega | exact Nat.le_refl _⟩, ⟨by (with_reducible repeat (first | refine blk_drewN ?_ _ | refine blk_drew ?_ | refine blk_alloc ?_ _)); exact BK418.out⟩, ⟨by (with_reducible repeat (first | refine blk_drewN ?_ _ | refine blk_drew ?_ | refine blk_alloc ?_ _)); exact BK419.out⟩, ⟨by repeat (first | (with_reducible first | exact HB.out | apply below_alloc | apply pw_below_drewN | apply below_drew1 | refine below_set ?_ GE418.out | refine below_set ?_ GE419.out) | exact HB.out)⟩⟩
   case rest =>
    clear HC70
    (try clear c1); (try clear c71); (try clear c72); (try clear c72b0); (try clear c74); (try clear c76); (try clear c77); (try clear c77b0); (try clear c77b1); (try clear c78); (try clear c78b0); (try clear c78b1); (try clear c79); (try clear c79b0); (try clear c79b1); (try clear c80); (try clear c87); (try clear c94); (try clear c94b0); (try clear c94b1); (try clear c95); (try clear c95b0); (try clear c95b1); (try clear c96); (try clear c96b0); (try clear c96b1); (try clear c97); (try clear c104); (try clear c111); (try clear c112); (try clear c112b0); (try clear hcz100_0); (try clear hcz100_1); (try clear hcz102_0); (try clear hcz102_1); (try clear hcz103_0); (try clear hcz103_1); (try clear hcz106_0); (try clear hcz106_1); (try clear hcz107_0); (try clear hcz107_1); (try clear hcz109_0); (try clear hcz109_1); (try clear hcz110_0); (try clear hcz110_1); (try clear hcz114_0); (try clear hcz114_1); (try clear hcz115_0); (try clear hcz115_1); (try clear hcz117_0); (try clear hcz117_1); (try clear hcz118_0); (try clear hcz118_1); (try clear hcz82_0); (try clear hcz82_1); (try clear hcz83_0); (try clear hcz83_1); (try clear hcz85_0); (try clear hcz85_1); (try clear hcz86_0); (try clear hcz86_1); (try clear hcz89_0); (try clear hcz89_1); (try clear hcz90_0); (try clear hcz90_1); (try clear hcz92_0); (try clear hcz92_1); (try clear hcz93_0); (try clear hcz93_1); (try clear hcz99_0); (try clear hcz99_1); (try clear hfz100_0); (try clear hfz100_1); (try clear hfz102_0); (try clear hfz102_1); (try clear hfz103_0); (try clear hfz103_1); (try clear hfz106_0); (try clear hfz106_1); (try clear hfz107_0); (try clear hfz107_1); (try clear hfz109_0); (try clear hfz109_1); (try clear hfz110_0); (try clear hfz110_1); (try clear hfz114_0); (try clear hfz114_1); (try clear hfz115_0); (try clear hfz115_1); (try clear hfz117_0)
    (try clear hfz117_1); (try clear hfz118_0); (try clear hfz118_1); (try clear hfz82_0); (try clear hfz82_1); (try clear hfz83_0); (try clear hfz83_1); (try clear hfz85_0); (try clear hfz85_1); (try clear hfz86_0); (try clear hfz86_1); (try clear hfz89_0); (try clear hfz89_1); (try clear hfz90_0); (try clear hfz90_1); (try clear hfz92_0); (try clear hfz92_1); (try clear hfz93_0); (try clear hfz93_1); (try clear hfz99_0); (try clear hfz99_1)
    obtain ⟨kq, x353_69, rfl, HA, HJ69, BK418, BK419, HB⟩ := hcut
    cases kq with
    | zero => exact absurd HA.out (by simp [laws_FnTrainsMeet.j2])
    | succ kj69 =>
     have H := HA.out
     clear HA
     simp only [laws_FnTrainsMeet.j2] at H
     by_cases c119 : x353_69 = true
     ·subst c119
      have H1 : (some false) = some r := by rw [if_pos rfl] at H; exact H
      clear H
      have H := H1
      clear H1
      exact absurd (Option.some.inj H).symm (by rw [HR_.out]; decide)
     ·replace c119 := Bool.eq_false_iff.mpr c119
      subst c119
      have H1 : (if t442 = true then ((impl_PolePassing.f kj69 t413 t414).bind fun bt455 => ((laws_qLow.f kj69 t440 t441).bind fun t458 => (if t458 = true then (if bt455.2.2 = true then (if (wrap64 (t440 * bt455.2.1)) < (wrap64 (bt455.1 * t441)) then (laws_FnTrainsMeet.j3 kj69 l1 t417 t440 t441 bt455.1 bt455.2.1 true t413 t414 t415 t416) else (laws_FnTrainsMeet.j3 kj69 l1 t417 t440 t441 bt455.1 bt455.2.1 (decide ((wrap64 (t416 * (wrap64 ((wrap64 (t417 * t441)) - (wrap64 (t440 * t414)))))) > (wrap64 ((wrap64 ((wrap64 (t417 - t413)) * t414)) * t441)))) t413 t414 t415 t416)) else (laws_FnTrainsMeet.j3 kj69 l1 t417 t440 t441 bt455.1 bt455.2.1 true t413 t414 t415 t416)) else (laws_FnTrainsMeet.j3 kj69 l1 t417 t440 t441 bt455.1 bt455.2.1 true t413 t414 t415 t416)))) else (laws_FnTrainsMeet.j4 kj69 l1)) = some r := by rw [if_neg (show ¬ (false = true) by decide)] at H; exact H
      clear H
      have H := H1
      clear H1
      have HC120 := Aside0.mk H
      clear H
      go_step
      go_step
      go_step
      go_step
      go_step
      exact laws_FnTrainsMeet.seg2 k l0 A1 c1 l1 r w HR_ hu23 HR1 HC1 t413 t414 t415 t416 t417 t440 t441 t442 nd gb418 GW418 GE418 gb419 GW419 GE419 NB418_419 NB419_418 hnb16 hnc16 kj11 HJ11 u4 kj52 HJ52 wc BK418 BK419 HB kj69 HJ69 HC120
end Go.Proofs.Ytnbmplhcbliclaa.QP
