-- WRITTEN BY a program of this session (wip/xprint.py, over the kit's print): Lean checks it.
import Derived.Test.YtnbmplhcbliclaaQMx8d
import Derived.Test.YtnbmplhcbliclaaQMx8s2
namespace Go.Proofs.Ytnbmplhcbliclaa.QM
open Go.Proofs.Ytnbmplhcbliclaa.X Go.RowKit Go.Proofs.YtnbmplhcbliclaaW.PrintWords Go.Proofs.YtnbmplhcbliclaaW.PrintLast Go.Proofs.YtnbmplhcbliclaaW.PrintMore
attribute [local go_sem] max2_int min2_int max_two min_two max_three min_three max_four min_four   -- for this text's walks alone
set_option linter.unusedVariables false
set_option linter.unusedSimpArgs false

set_option maxHeartbeats 16000000 in
set_option maxRecDepth 1000000 in
theorem laws_FnTrainsMeetOfAll.seg1 {v0_ v1_ v13_ v14_ v15_ v16_ v17_ v18_ v19_ v20_ v21_ v23_ v24_ v25_ v26_ v28_ v29_ v30_ v31_ v32_ v38_ v39_ v40_ v41_ v42_ v46_ v47_ v48_ v49_ v50_ v51_ v52_ v53_ v86_ v88_ v89_ v90_ v91_ v92_ v93_ v94_ v95_ v96_ v97_ v98_ v99_ v100_ v101_ v102_ v103_ v104_ v105_ v106_ v107_ v108_ v109_ v110_ v111_ v112_ v113_ v114_ v115_ v116_ v117_ v118_ v119_ v120_ v121_ v122_ v123_ v124_ v125_ v126_ v127_ v128_ v129_ v130_ v131_ v132_ v133_ v134_ v135_ v136_ v137_ v138_ v139_ v140_ v141_ v142_ v143_ v144_ v145_ v146_ v147_ v148_ v149_ v150_ v151_ v152_ v153_ v154_ v155_ v156_ v157_ v158_ v159_ v160_ v161_ v162_ v163_ v164_ v165_ v166_ v167_ v168_ v169_ v170_ v171_ v172_ v173_ v174_ v175_ v176_ v177_ v178_ v179_ v180_ v181_ v182_ v183_ v184_ v185_ v186_ v187_ v188_ v189_ v190_ v191_ v192_ v193_ v194_ v195_ v196_ v197_ v198_ v199_ v200_ v201_ v202_ v203_ v204_ v205_ v206_ v207_ v208_ v209_ v210_ v211_ v212_ v213_ v214_ v215_ v216_ v217_ v218_ v219_ v220_ v221_ v222_ v223_ v224_ v225_ v226_ v227_ v228_ v229_ v230_ v231_ v232_ v233_ v234_ v235_ v236_ v237_ v238_ v239_ v240_ v241_ v242_ v243_ v244_ v245_ v246_ v247_ v248_ v249_ v250_ v251_ v252_ v253_ v254_ v255_ v256_ v257_ v258_ v259_ v260_ v261_ v262_ v263_ v264_ v265_ v266_ v267_ v268_ v269_ v270_ v271_ v272_ v273_ v274_ v275_ v276_ v277_ v278_ v279_ v280_ v281_ v282_ v283_ v284_ v285_ v286_ v287_ v288_ : Go.Value} (k : Nat) (a0_0 a0_1 a1_0 a1_1 a2 a3 a4 : Int) (a5 : Bool) (a6 a7 a8 : Int) (A9 : Option Go.Addr) (c9 : Nat) (l9 : List Go.Proofs.Ytnbmplhcbliclaa.QM.S23) (a10 : Int) (r : Bool) (w : Go.World) (HR_ : Go.Proofs.YtnbmplhcbliclaaW.PrintWords.Aside0 (r = Bool.true)) (hu23 : Go.Program.underlying Go.Proofs.Try.prog (23 : Nat) = Option.some (Go.TypeDesc.struct #[Go.Field.mk "Length" (3 : Nat) (0 : Nat) Bool.false "" "" (0 : Nat), Go.Field.mk "Rate" (3 : Nat) (1 : Nat) Bool.false "" "" (8 : Nat)])) (HR9 : Go.Proofs.YtnbmplhcbliclaaW.PrintWords.Aside0 (Go.Proofs.YtnbmplhcbliclaaW.PrintWords.Kd.C Go.Proofs.Ytnbmplhcbliclaa.QM.k23 w A9 (List.length l9) l9)) (HC9 : Go.Proofs.YtnbmplhcbliclaaW.PrintWords.Aside0 (List.length l9 ≤ c9)) (t293 t294 t295 t296 : Int) (t297 : Bool) (A15 : Go.Proofs.YtnbmplhcbliclaaW.PrintWords.Aside0 (Go.Proofs.Ytnbmplhcbliclaa.QM.impl_MeetAfter.f k a0_0 a0_1 a1_0 a1_1 a2 = Option.some (t293, t294, t295, t296, t297))) (t298 t299 t300 t301 : Int) (t302 : Bool) (A16 : Go.Proofs.YtnbmplhcbliclaaW.PrintWords.Aside0 (Go.Proofs.Ytnbmplhcbliclaa.QM.spec_MeetAfter.f k a0_0 a0_1 a1_0 a1_1 a2 = Option.some (t298, t299, t300, t301, t302))) (t303 t304 t305 t306 : Int) (t307 : Bool) (A17 : Go.Proofs.YtnbmplhcbliclaaW.PrintWords.Aside0 (Go.Proofs.Ytnbmplhcbliclaa.QM.impl_OvertakeAfter.f k a0_0 a0_1 a1_0 a1_1 a2 = Option.some (t303, t304, t305, t306, t307))) (t308 t309 t310 t311 : Int) (t312 : Bool) (A18 : Go.Proofs.YtnbmplhcbliclaaW.PrintWords.Aside0 (Go.Proofs.Ytnbmplhcbliclaa.QM.spec_OvertakeAfter.f k a0_0 a0_1 a1_0 a1_1 a2 = Option.some (t308, t309, t310, t311, t312))) (t313 t314 : Int) (t315 : Bool) (A19 : Go.Proofs.YtnbmplhcbliclaaW.PrintWords.Aside0 (Go.Proofs.Ytnbmplhcbliclaa.QM.impl_LeastHeadway.f k a0_0 a0_1 a1_0 a1_1 a2 = Option.some (t313, t314, t315))) (t316 t317 : Int) (t318 : Bool) (A20 : Go.Proofs.YtnbmplhcbliclaaW.PrintWords.Aside0 (Go.Proofs.Ytnbmplhcbliclaa.QM.spec_LeastHeadway.f k a0_0 a0_1 a1_0 a1_1 a2 = Option.some (t316, t317, t318))) (gb291 : Nat) (w22 : Go.World) (GW291 GE291 : Go.Proofs.YtnbmplhcbliclaaW.PrintWords.Aside0 (Array.size (Go.World.heap w) ≤ gb291)) (gb292 : Nat) (w23 : Go.World) (GW292 GE292 : Go.Proofs.YtnbmplhcbliclaaW.PrintWords.Aside0 (Array.size (Go.World.heap w) ≤ gb292)) (NB291_292 : Go.Proofs.YtnbmplhcbliclaaW.PrintWords.Aside0 (gb291 ≠ gb292)) (NB292_291 : Go.Proofs.YtnbmplhcbliclaaW.PrintWords.Aside0 (gb292 ≠ gb291)) (hnb24 : gb291 ≠ gb292) (hnc24 : gb292 ≠ gb291) (w27 w30 w33 w36 w39 w42 : Go.World) (u147 u148 u149 u150 u151 u152 u153 u154 u155 u156 u157 u158 u159 u160 u161 u162 u163 u164 u165 u166 u167 u168 u169 u170 u171 u172 u173 u174 u175 u176 u177 u178 u179 u180 u181 u182 u183 u184 u185 u186 u187 u188 u189 u190 u191 u192 u193 u194 u195 u196 u197 u198 u199 u200 u201 u202 u203 u204 u205 u206 u207 u208 u209 u210 u211 u212 u213 u214 u215 u216 u217 u218 u219 u220 u221 u222 : Go.Value) (kj20 : Nat) (HJ20 : Go.Proofs.YtnbmplhcbliclaaW.PrintWords.Aside0 (kj20 + (1 : Nat) ≤ k)) (wc : Go.World) (u22 u49 u50 u51 u52 u53 u225 u226 u227 u228 u229 u230 u231 u232 u233 u234 u235 u236 u237 u238 u239 u240 u241 u242 u243 u244 u245 u246 u247 u248 u249 u250 u251 u252 u253 u254 u255 u256 u257 u258 u259 u260 u261 u262 u263 u264 u265 u266 u267 u268 u269 u270 u271 u272 u273 u274 u275 u276 u277 u278 u279 u280 u281 u282 u283 u284 u285 u286 u287 u288 : Go.Value) (kq : Nat) (HA : Go.Proofs.YtnbmplhcbliclaaW.PrintWords.Aside0 (Go.Proofs.Ytnbmplhcbliclaa.QM.laws_FnTrainsMeetOfAll.j1 kq a2 a3 a4 a5 a6 a7 a8 l9 a10 t297 t303 t304 t305 t306 t307 t313 t314 t315 a0_0 a0_1 a1_0 a1_1 = Option.some r)) (HJ60 : Go.Proofs.YtnbmplhcbliclaaW.PrintWords.Aside0 (kq ≤ kj20)) (BK291 : Go.Proofs.YtnbmplhcbliclaaW.PrintWords.Aside0 ((Go.World.heap wc)[gb291]? = Option.some (Go.Obj.cells #[Go.Value.int Go.IntKind.i64 a0_0, Go.Value.int Go.IntKind.i64 a0_1] (23 : Go.TypeId)))) (BK292 : Go.Proofs.YtnbmplhcbliclaaW.PrintWords.Aside0 ((Go.World.heap wc)[gb292]? = Option.some (Go.Obj.cells #[Go.Value.int Go.IntKind.i64 a1_0, Go.Value.int Go.IntKind.i64 a1_1] (23 : Go.TypeId)))) (HB : Go.Proofs.YtnbmplhcbliclaaW.PrintWords.Aside0 (Go.RowKit.Below (Array.size (Go.World.heap w)) w wc)) :
    Go.Code.wp Try.prog (laws_FnTrainsMeetOfAll.behind 224 laws_FnTrainsMeetOfAll.body) (bodyPost Try.prog Try.f3 (fun e w' => e = .returned (.bool r) ∧ Below w.heap.size w w')) (Go.Act.mk #[v0_, v1_, Go.Value.int Go.IntKind.i64 a2, Go.Value.int Go.IntKind.i64 a3, Go.Value.int Go.IntKind.i64 a4, Go.Value.bool a5, Go.Value.int Go.IntKind.i64 a6, Go.Value.int Go.IntKind.i64 a7, Go.Value.int Go.IntKind.i64 a8, Go.Value.slice A9 (List.length l9) c9, Go.Value.int Go.IntKind.i64 a10, Go.Value.pointer (Option.some (Go.Addr.mk gb291 (0 : Nat) Option.none)), Go.Value.pointer (Option.some (Go.Addr.mk gb292 (0 : Nat) Option.none)), v13_, v14_, v15_, v16_, v17_, v18_, v19_, v20_, v21_, u22, v23_, v24_, v25_, v26_, Go.Value.bool t297, v28_, v29_, v30_, v31_, v32_, Go.Value.int Go.IntKind.i64 t303, Go.Value.int Go.IntKind.i64 t304, Go.Value.int Go.IntKind.i64 t305, Go.Value.int Go.IntKind.i64 t306, Go.Value.bool t307, v38_, v39_, v40_, v41_, v42_, Go.Value.int Go.IntKind.i64 t313, Go.Value.int Go.IntKind.i64 t314, Go.Value.bool t315, v46_, v47_, v48_, v49_, v50_, v51_, v52_, v53_, Go.undef, Go.undef, Go.undef, Go.undef, Go.undef, Go.undef, Go.undef, Go.undef, Go.undef, Go.undef, Go.undef, Go.undef, Go.undef, Go.undef, Go.undef, Go.undef, Go.undef, Go.undef, Go.undef, Go.undef, Go.undef, Go.undef, Go.undef, Go.undef, Go.undef, Go.undef, Go.undef, Go.undef, Go.undef, Go.undef, Go.undef, Go.undef, v86_, Go.undef, v88_, v89_, v90_, v91_, v92_, v93_, v94_, v95_, v96_, v97_, v98_, v99_, v100_, v101_, v102_, v103_, v104_, v105_, v106_, v107_, v108_, v109_, v110_, v111_, v112_, v113_, v114_, v115_, v116_, v117_, v118_, v119_, v120_, v121_, v122_, v123_, v124_, v125_, v126_, v127_, v128_, v129_, v130_, v131_, v132_, v133_, v134_, v135_, v136_, v137_, v138_, v139_, v140_, v141_, v142_, v143_, v144_, v145_, v146_, v147_, v148_, v149_, v150_, v151_, v152_, v153_, v154_, v155_, v156_, v157_, v158_, v159_, v160_, v161_, v162_, v163_, v164_, v165_, v166_, v167_, v168_, v169_, v170_, v171_, v172_, v173_, v174_, v175_, v176_, v177_, v178_, v179_, v180_, v181_, v182_, v183_, v184_, v185_, v186_, v187_, v188_, v189_, v190_, v191_, v192_, v193_, v194_, v195_, v196_, v197_, v198_, v199_, v200_, v201_, v202_, v203_, v204_, v205_, v206_, v207_, v208_, v209_, v210_, v211_, v212_, v213_, v214_, v215_, v216_, v217_, v218_, v219_, v220_, v221_, v222_, v223_, v224_, v225_, v226_, v227_, v228_, v229_, v230_, v231_, v232_, v233_, v234_, v235_, v236_, v237_, v238_, v239_, v240_, v241_, v242_, v243_, v244_, v245_, v246_, v247_, v248_, v249_, v250_, v251_, v252_, v253_, v254_, v255_, v256_, v257_, v258_, v259_, v260_, v261_, v262_, v263_, v264_, v265_, v266_, v267_, v268_, v269_, v270_, v271_, v272_, v273_, v274_, v275_, v276_, v277_, v278_, v279_, v280_, v281_, v282_, v283_, v284_, v285_, v286_, v287_, v288_, Go.undef, Go.undef, Go.undef, Go.undef, Go.undef, Go.undef, Go.undef, Go.undef, Go.undef, Go.undef, Go.undef, Go.undef, Go.undef, Go.undef, Go.undef, Go.undef, Go.undef, Go.undef, Go.undef, Go.undef, Go.undef, Go.undef, Go.undef, Go.undef, Go.undef, Go.undef, Go.undef, Go.undef, Go.undef, Go.undef, Go.undef, Go.undef, Go.undef, Go.undef, Go.undef, Go.undef, Go.undef, Go.undef, Go.undef, Go.undef, Go.undef, Go.undef, Go.undef, Go.undef, Go.undef, Go.undef, Go.undef, Go.undef, Go.undef, Go.undef, Go.undef, Go.undef, Go.undef, Go.undef, Go.undef, Go.undef, Go.undef, Go.undef, Go.undef, Go.undef, Go.undef, Go.undef, Go.undef, Go.undef, Go.undef, Go.undef, Go.undef, Go.undef, Go.undef, Go.undef, Go.undef, Go.undef, Go.undef, Go.undef, Go.undef, Go.undef, Go.undef, Go.undef, Go.undef, Go.undef, Go.undef, Go.undef, Go.undef, Go.undef, Go.undef, Go.undef, Go.undef, Go.undef, Go.undef, Go.undef, Go.undef, Go.undef, Go.undef, Go.undef, Go.undef, Go.undef, Go.undef, Go.undef, Go.undef, Go.undef, Go.undef, Go.undef, Go.undef, Go.undef, Go.undef, Go.undef, Go.undef, Go.undef, Go.undef, Go.undef, Go.undef, Go.undef, Go.undef, Go.undef, Go.undef, Go.undef, Go.undef, Go.undef, Go.undef, Go.undef, Go.undef, Go.undef, Go.undef, Go.undef, Go.undef, Go.undef, Go.undef, Go.undef, Go.undef, Go.undef, Go.undef, Go.undef, Go.undef, Go.undef, Go.undef, Go.undef, Go.undef, Go.undef, Go.undef, Go.undef, Go.undef, Go.undef, Go.undef, Go.undef, Go.undef, Go.undef, Go.undef, Go.undef, Go.undef, Go.undef, Go.undef, Go.undef, Go.undef, Go.undef, Go.undef, Go.undef, Go.undef, Go.undef, Go.undef, Go.undef, Go.undef, Go.undef, Go.undef, Go.undef, Go.undef, Go.undef, Go.undef, Go.undef, Go.undef, Go.undef, Go.undef, Go.undef, Go.undef, Go.undef, Go.undef, Go.undef, Go.undef, Go.undef, Go.undef, Go.undef, Go.undef, Go.undef, Go.undef, Go.undef, Go.undef, Go.undef, Go.undef, Go.undef, Go.undef, Go.undef, Go.undef, Go.undef, Go.undef, Go.undef, Go.undef, Go.undef, Go.undef, Go.undef, Go.undef, Go.undef, Go.undef, Go.undef, Go.undef, Go.undef, Go.undef, Go.undef, Go.undef, Go.undef, Go.undef, Go.undef, Go.undef, Go.undef, Go.undef, Go.undef, Go.undef, Go.undef, Go.undef, Go.undef, Go.undef, Go.undef, Go.undef, Go.undef, Go.undef, Go.undef, Go.undef, Go.undef, Go.undef, Go.undef, Go.undef, Go.undef, Go.undef, Go.undef, Go.undef, Go.undef, Go.undef, Go.undef, Go.undef, Go.undef, Go.undef, Go.undef, Go.undef, Go.undef, Go.undef, Go.undef, Go.undef, Go.undef, Go.undef, Go.undef, Go.undef, Go.undef, Go.undef, Go.undef, Go.undef, Go.undef, Go.undef, Go.undef, Go.undef, Go.undef, Go.undef, Go.undef, Go.undef, Go.undef, Go.undef, Go.undef, Go.undef, Go.undef, Go.undef, Go.undef, Go.undef, Go.undef, Go.undef, Go.undef, Go.undef, Go.undef, Go.undef, Go.undef, Go.undef, Go.undef, Go.undef, Go.undef, Go.undef, Go.undef, Go.undef, Go.undef, Go.undef, Go.undef, Go.undef, Go.undef, Go.undef, Go.undef, Go.undef, Go.undef, Go.undef, Go.undef, Go.undef, Go.undef, Go.undef, Go.undef, Go.undef, Go.undef, Go.undef, Go.undef, Go.undef, Go.undef, Go.undef, Go.undef, Go.undef, Go.undef, Go.undef, Go.undef, Go.undef, Go.undef, Go.undef, Go.undef, Go.undef, Go.undef, Go.undef, Go.undef, Go.undef, Go.undef, Go.undef, Go.undef, Go.undef, Go.undef, Go.undef, Go.undef, Go.undef, Go.undef, Go.undef, Go.undef, Go.undef, Go.undef, Go.undef, Go.undef, Go.undef, Go.undef, Go.undef, Go.undef, Go.undef, Go.undef, Go.undef, Go.undef, Go.undef, Go.undef, Go.undef, Go.undef, Go.undef, Go.undef, Go.undef, Go.undef, Go.undef, Go.undef, Go.undef, Go.undef, Go.undef, Go.undef, Go.undef, Go.undef, Go.undef, Go.undef, Go.undef, Go.undef, Go.undef, Go.undef, Go.undef, Go.undef, Go.undef, Go.undef, Go.undef, Go.undef, Go.undef, Go.undef, Go.undef, Go.undef, Go.undef, Go.undef, Go.undef, Go.undef, Go.undef, Go.undef, Go.undef, Go.undef, Go.undef, Go.undef, Go.undef, Go.undef, Go.undef, Go.undef, Go.undef, Go.undef, Go.undef, Go.undef, Go.undef, Go.undef, Go.undef, Go.undef, Go.undef, Go.undef, Go.undef, Go.undef, Go.undef, Go.undef, Go.undef, Go.undef, Go.undef, Go.undef, Go.undef, Go.undef, Go.undef, Go.undef, Go.undef, Go.undef, Go.undef, Go.undef, Go.undef, Go.undef, Go.undef, Go.undef, Go.undef, Go.undef, Go.undef] []) wc := by
  conv => arg 2; whnf
  (try conv => arg 4; dsimp only)
  cases kq with
  | zero => exact absurd HA.out (by simp [laws_FnTrainsMeetOfAll.j1])
  | succ kj60 =>
   have H := HA.out
   clear HA
   simp only [laws_FnTrainsMeetOfAll.j1] at H
   have HC78 := Aside0.mk H
   clear H
   go_upto_region 15 with (fail)
   repeat (go_quiet (fail); go_upto_region 15 with (fail))
   go_cut [354] from 100000 (fun v354 wc => ∃ (kq : Nat) (x354_77 : Bool), v354 = .bool x354_77 ∧ Aside0 (laws_FnTrainsMeetOfAll.j2 kq a2 a3 a4 a5 a6 a7 a8 l9 a10 t313 t314 t315 x354_77 a0_0 a0_1 a1_0 a1_1 = some r) ∧ Aside0 (kq ≤ kj60) ∧ Aside0 (wc.heap[gb291]? = some (.cells #[.int .i64 a0_0, .int .i64 a0_1] 23 (0, 0))) ∧ Aside0 (wc.heap[gb292]? = some (.cells #[.int .i64 a1_0, .int .i64 a1_1] 23 (0, 0))) ∧ Aside0 (Below w.heap.size w wc))
   case first =>
    (try conv => arg 2; dsimp only [List.append_eq, List.cons_append, List.nil_append])
    have H := HC78.out
    clear HC78
    by_cases c79 : t307 = true
    ·subst c79
     have H1 : (if a0_1 > a1_1 then ((laws_qIs.f kj60 t303 t304 a2 (wrap64 (a0_1 - a1_1))).bind fun t326 => (if t326 = true then ((laws_qIs.f kj60 t305 t306 (wrap64 (a2 * a0_1)) (wrap64 (a0_1 - a1_1))).bind fun t327 => (if t327 = true then (if a2 = 0 then (if t303 = 0 then (if t305 = 0 then (if t297 = true then (laws_FnTrainsMeetOfAll.j2 kj60 a2 a3 a4 a5 a6 a7 a8 l9 a10 t313 t314 t315 (true != true) a0_0 a0_1 a1_0 a1_1) else (laws_FnTrainsMeetOfAll.j2 kj60 a2 a3 a4 a5 a6 a7 a8 l9 a10 t313 t314 t315 false a0_0 a0_1 a1_0 a1_1)) else (laws_FnTrainsMeetOfAll.j2 kj60 a2 a3 a4 a5 a6 a7 a8 l9 a10 t313 t314 t315 true a0_0 a0_1 a1_0 a1_1)) else (laws_FnTrainsMeetOfAll.j2 kj60 a2 a3 a4 a5 a6 a7 a8 l9 a10 t313 t314 t315 true a0_0 a0_1 a1_0 a1_1)) else (if t297 = true then (laws_FnTrainsMeetOfAll.j2 kj60 a2 a3 a4 a5 a6 a7 a8 l9 a10 t313 t314 t315 (true != true) a0_0 a0_1 a1_0 a1_1) else (laws_FnTrainsMeetOfAll.j2 kj60 a2 a3 a4 a5 a6 a7 a8 l9 a10 t313 t314 t315 false a0_0 a0_1 a1_0 a1_1))) else (laws_FnTrainsMeetOfAll.j2 kj60 a2 a3 a4 a5 a6 a7 a8 l9 a10 t313 t314 t315 true a0_0 a0_1 a1_0 a1_1))) else (laws_FnTrainsMeetOfAll.j2 kj60 a2 a3 a4 a5 a6 a7 a8 l9 a10 t313 t314 t315 true a0_0 a0_1 a1_0 a1_1))) else (if a2 = 0 then (if t303 = 0 then (if t305 = 0 then (if t297 = true then (laws_FnTrainsMeetOfAll.j2 kj60 a2 a3 a4 a5 a6 a7 a8 l9 a10 t313 t314 t315 (true != (a2 == 0)) a0_0 a0_1 a1_0 a1_1) else (laws_FnTrainsMeetOfAll.j2 kj60 a2 a3 a4 a5 a6 a7 a8 l9 a10 t313 t314 t315 false a0_0 a0_1 a1_0 a1_1)) else (laws_FnTrainsMeetOfAll.j2 kj60 a2 a3 a4 a5 a6 a7 a8 l9 a10 t313 t314 t315 true a0_0 a0_1 a1_0 a1_1)) else (laws_FnTrainsMeetOfAll.j2 kj60 a2 a3 a4 a5 a6 a7 a8 l9 a10 t313 t314 t315 true a0_0 a0_1 a1_0 a1_1)) else (if t297 = true then (laws_FnTrainsMeetOfAll.j2 kj60 a2 a3 a4 a5 a6 a7 a8 l9 a10 t313 t314 t315 (true != (a2 == 0)) a0_0 a0_1 a1_0 a1_1) else (laws_FnTrainsMeetOfAll.j2 kj60 a2 a3 a4 a5 a6 a7 a8 l9 a10 t313 t314 t315 false a0_0 a0_1 a1_0 a1_1)))) = some r := by rw [if_pos rfl] at H; exact H
     clear H
     have H := H1
     clear H1
     by_cases c80 : a0_1 > a1_1
     ·rw [if_pos c80] at H
      have c80b0 : decide (a1_1 < a0_1) = true := decide_eq_true c80
      clear c80
      (first | rw [c80b0] | (simp only [i64_w, i32_w]; rw [c80b0]) | skip)
      replace H := Option.bind_eq_some_iff.mp H
      obtain ⟨t326, A810, H⟩ := H
      (try dsimp only at H)
      have A81 := Aside0.mk A810
      clear A810
      by_cases c82 : t326 = true
      ·subst c82
       have H1 : ((laws_qIs.f kj60 t305 t306 (wrap64 (a2 * a0_1)) (wrap64 (a0_1 - a1_1))).bind fun t327 => (if t327 = true then (if a2 = 0 then (if t303 = 0 then (if t305 = 0 then (if t297 = true then (laws_FnTrainsMeetOfAll.j2 kj60 a2 a3 a4 a5 a6 a7 a8 l9 a10 t313 t314 t315 (true != true) a0_0 a0_1 a1_0 a1_1) else (laws_FnTrainsMeetOfAll.j2 kj60 a2 a3 a4 a5 a6 a7 a8 l9 a10 t313 t314 t315 false a0_0 a0_1 a1_0 a1_1)) else (laws_FnTrainsMeetOfAll.j2 kj60 a2 a3 a4 a5 a6 a7 a8 l9 a10 t313 t314 t315 true a0_0 a0_1 a1_0 a1_1)) else (laws_FnTrainsMeetOfAll.j2 kj60 a2 a3 a4 a5 a6 a7 a8 l9 a10 t313 t314 t315 true a0_0 a0_1 a1_0 a1_1)) else (if t297 = true then (laws_FnTrainsMeetOfAll.j2 kj60 a2 a3 a4 a5 a6 a7 a8 l9 a10 t313 t314 t315 (true != true) a0_0 a0_1 a1_0 a1_1) else (laws_FnTrainsMeetOfAll.j2 kj60 a2 a3 a4 a5 a6 a7 a8 l9 a10 t313 t314 t315 false a0_0 a0_1 a1_0 a1_1))) else (laws_FnTrainsMeetOfAll.j2 kj60 a2 a3 a4 a5 a6 a7 a8 l9 a10 t313 t314 t315 true a0_0 a0_1 a1_0 a1_1))) = some r := by rw [if_pos rfl] at H; exact H
       clear H
       have H := H1
       clear H1
       replace H := Option.bind_eq_some_iff.mp H
       obtain ⟨t327, A830, H⟩ := H
       (try dsimp only at H)
       have A83 := Aside0.mk A830
       clear A830
       by_cases c84 : t327 = true
       ·subst c84
        have H1 : (if a2 = 0 then (if t303 = 0 then (if t305 = 0 then (if t297 = true then (laws_FnTrainsMeetOfAll.j2 kj60 a2 a3 a4 a5 a6 a7 a8 l9 a10 t313 t314 t315 (true != true) a0_0 a0_1 a1_0 a1_1) else (laws_FnTrainsMeetOfAll.j2 kj60 a2 a3 a4 a5 a6 a7 a8 l9 a10 t313 t314 t315 false a0_0 a0_1 a1_0 a1_1)) else (laws_FnTrainsMeetOfAll.j2 kj60 a2 a3 a4 a5 a6 a7 a8 l9 a10 t313 t314 t315 true a0_0 a0_1 a1_0 a1_1)) else (laws_FnTrainsMeetOfAll.j2 kj60 a2 a3 a4 a5 a6 a7 a8 l9 a10 t313 t314 t315 true a0_0 a0_1 a1_0 a1_1)) else (if t297 = true then (laws_FnTrainsMeetOfAll.j2 kj60 a2 a3 a4 a5 a6 a7 a8 l9 a10 t313 t314 t315 (true != true) a0_0 a0_1 a1_0 a1_1) else (laws_FnTrainsMeetOfAll.j2 kj60 a2 a3 a4 a5 a6 a7 a8 l9 a10 t313 t314 t315 false a0_0 a0_1 a1_0 a1_1))) = some r := by rw [if_pos rfl] at H; exact H
        clear H
        have H := H1
        clear H1
        by_cases c85 : a2 = 0
        ·rw [if_pos c85] at H
         have c85b0 : (a2 == 0) = true := beq_iff_eq.mpr c85
         have c85b1 : (a2 != 0) = false := bne_eq_false_iff_eq.mpr c85
         clear c85
         by_cases c86 : t303 = 0
         ·rw [if_pos c86] at H
          have c86b0 : (t303 == 0) = true := beq_iff_eq.mpr c86
          have c86b1 : (t303 != 0) = false := bne_eq_false_iff_eq.mpr c86
          clear c86
          by_cases c87 : t305 = 0
          ·rw [if_pos c87] at H
           have c87b0 : (t305 == 0) = true := beq_iff_eq.mpr c87
           have c87b1 : (t305 != 0) = false := bne_eq_false_iff_eq.mpr c87
           clear c87
           by_cases c88 : t297 = true
           ·subst c88
            have H1 : (laws_FnTrainsMeetOfAll.j2 kj60 a2 a3 a4 a5 a6 a7 a8 l9 a10 t313 t314 t315 (true != true) a0_0 a0_1 a1_0 a1_1) = some r := by rw [if_pos rfl] at H; exact H
            clear H
            have H := H1
            clear H1
            have H' := Aside0.mk H
            clear H
            have hnb89 := NB291_292.out
            have hnc89 := NB292_291.out
            have hcz90_0 : wc.cell? ⟨gb291, 0, none⟩ = some (.int .i64 a0_0) := (blk_cell BK291.out 0).trans rfl
            have hcz90_1 : wc.cell? ⟨gb291, 1, none⟩ = some (.int .i64 a0_1) := (blk_cell BK291.out 1).trans rfl
            have hfz90_0 := blk_frozen BK291.out 0
            have hfz90_1 := blk_frozen BK291.out 1
            have hcz91_0 : wc.cell? ⟨gb292, 0, none⟩ = some (.int .i64 a1_0) := (blk_cell BK292.out 0).trans rfl
            have hcz91_1 : wc.cell? ⟨gb292, 1, none⟩ = some (.int .i64 a1_1) := (blk_cell BK292.out 1).trans rfl
            have hfz91_0 := blk_frozen BK292.out 0
            have hfz91_1 := blk_frozen BK292.out 1
            go_wp2_with (first | (go_at_call 11; (with_reducible refine (laws_qIs.calls kj60 t303 t304 a2 (wrap64 (a0_1 - a1_1)) true _ A81.out).mono ?_); rintro e w' ⟨rfl, ⟨nd, rfl⟩⟩; (try first | exact ⟨rfl, _, World.drewN_drewN _ _ _⟩ | exact ⟨rfl, _, Eq.trans (World.drewN_drewN _ _ _) (congrArg (World.drewN _) (Nat.add_assoc _ _ _))⟩)) | (go_at_call 11; (with_reducible refine (laws_qIs.calls kj60 t305 t306 (wrap64 (a2 * a0_1)) (wrap64 (a0_1 - a1_1)) true _ A83.out).mono ?_); rintro e w' ⟨rfl, ⟨nd, rfl⟩⟩; (try first | exact ⟨rfl, _, World.drewN_drewN _ _ _⟩ | exact ⟨rfl, _, Eq.trans (World.drewN_drewN _ _ _) (congrArg (World.drewN _) (Nat.add_assoc _ _ _))⟩)))
            repeat (go_quiet (first | (go_at_call 11; (with_reducible refine (laws_qIs.calls kj60 t303 t304 a2 (wrap64 (a0_1 - a1_1)) true _ A81.out).mono ?_); rintro e w' ⟨rfl, ⟨nd, rfl⟩⟩; (try first | exact ⟨rfl, _, World.drewN_drewN _ _ _⟩ | exact ⟨rfl, _, Eq.trans (World.drewN_drewN _ _ _) (congrArg (World.drewN _) (Nat.add_assoc _ _ _))⟩)) | (go_at_call 11; (with_reducible refine (laws_qIs.calls kj60 t305 t306 (wrap64 (a2 * a0_1)) (wrap64 (a0_1 - a1_1)) true _ A83.out).mono ?_); rintro e w' ⟨rfl, ⟨nd, rfl⟩⟩; (try first | exact ⟨rfl, _, World.drewN_drewN _ _ _⟩ | exact ⟨rfl, _, Eq.trans (World.drewN_drewN _ _ _) (congrArg (World.drewN _) (Nat.add_assoc _ _ _))⟩))); try go_wp2_with (first | (go_at_call 11; (with_reducible refine (laws_qIs.calls kj60 t303 t304 a2 (wrap64 (a0_1 - a1_1)) true _ A81.out).mono ?_); rintro e w' ⟨rfl, ⟨nd, rfl⟩⟩; (try first | exact ⟨rfl, _, World.drewN_drewN _ _ _⟩ | exact ⟨rfl, _, Eq.trans (World.drewN_drewN _ _ _) (congrArg (World.drewN _) (Nat.add_assoc _ _ _))⟩)) | (go_at_call 11; (with_reducible refine (laws_qIs.calls kj60 t305 t306 (wrap64 (a2 * a0_1)) (wrap64 (a0_1 - a1_1)) true _ A83.out).mono ?_); rintro e w' ⟨rfl, ⟨nd, rfl⟩⟩; (try first | exact ⟨rfl, _, World.drewN_drewN _ _ _⟩ | exact ⟨rfl, _, Eq.trans (World.drewN_drewN _ _ _) (congrArg (World.drewN _) (Nat.add_assoc _ _ _))⟩))))
            go_meet
            case rel => exact ⟨_, ((true != true)), (by first | rfl | (simp; done) | (simp [*]; done)), H', ⟨by have := HJ20.out; have := HJ60.out; first | omega | exact Nat.le_refl _⟩, ⟨by (with_reducible repeat (first | refine blk_drewN ?_ _ | refine blk_drew ?_ | refine blk_alloc ?_ _)); exact BK291.out⟩, ⟨by (with_reducible repeat (first | refine blk_drewN ?_ _ | refine blk_drew ?_ | refine blk_alloc ?_ _)); exact BK292.out⟩, ⟨by repeat (first | (with_reducible first | exact HB.out | apply below_alloc | apply pw_below_drewN | apply below_drew1 | refine below_set ?_ GE291.out | refine below_set ?_ GE292.out) | exact HB.out)⟩⟩
           ·replace c88 := Bool.eq_false_iff.mpr c88
            subst c88
            have H1 : (laws_FnTrainsMeetOfAll.j2 kj60 a2 a3 a4 a5 a6 a7 a8 l9 a10 t313 t314 t315 false a0_0 a0_1 a1_0 a1_1) = some r := by rw [if_neg (show ¬ (false = true) by decide)] at H; exact H
            clear H
            have H := H1
            clear H1
            have H' := Aside0.mk H
            clear H
            have hnb92 := NB291_292.out
            have hnc92 := NB292_291.out
            have hcz93_0 : wc.cell? ⟨gb291, 0, none⟩ = some (.int .i64 a0_0) := (blk_cell BK291.out 0).trans rfl
            have hcz93_1 : wc.cell? ⟨gb291, 1, none⟩ = some (.int .i64 a0_1) := (blk_cell BK291.out 1).trans rfl
            have hfz93_0 := blk_frozen BK291.out 0
            have hfz93_1 := blk_frozen BK291.out 1
            have hcz94_0 : wc.cell? ⟨gb292, 0, none⟩ = some (.int .i64 a1_0) := (blk_cell BK292.out 0).trans rfl
            have hcz94_1 : wc.cell? ⟨gb292, 1, none⟩ = some (.int .i64 a1_1) := (blk_cell BK292.out 1).trans rfl
            have hfz94_0 := blk_frozen BK292.out 0
            have hfz94_1 := blk_frozen BK292.out 1
            go_wp2_with (first | (go_at_call 11; (with_reducible refine (laws_qIs.calls kj60 t303 t304 a2 (wrap64 (a0_1 - a1_1)) true _ A81.out).mono ?_); rintro e w' ⟨rfl, ⟨nd, rfl⟩⟩; (try first | exact ⟨rfl, _, World.drewN_drewN _ _ _⟩ | exact ⟨rfl, _, Eq.trans (World.drewN_drewN _ _ _) (congrArg (World.drewN _) (Nat.add_assoc _ _ _))⟩)) | (go_at_call 11; (with_reducible refine (laws_qIs.calls kj60 t305 t306 (wrap64 (a2 * a0_1)) (wrap64 (a0_1 - a1_1)) true _ A83.out).mono ?_); rintro e w' ⟨rfl, ⟨nd, rfl⟩⟩; (try first | exact ⟨rfl, _, World.drewN_drewN _ _ _⟩ | exact ⟨rfl, _, Eq.trans (World.drewN_drewN _ _ _) (congrArg (World.drewN _) (Nat.add_assoc _ _ _))⟩)))
            repeat (go_quiet (first | (go_at_call 11; (with_reducible refine (laws_qIs.calls kj60 t303 t304 a2 (wrap64 (a0_1 - a1_1)) true _ A81.out).mono ?_); rintro e w' ⟨rfl, ⟨nd, rfl⟩⟩; (try first | exact ⟨rfl, _, World.drewN_drewN _ _ _⟩ | exact ⟨rfl, _, Eq.trans (World.drewN_drewN _ _ _) (congrArg (World.drewN _) (Nat.add_assoc _ _ _))⟩)) | (go_at_call 11; (with_reducible refine (laws_qIs.calls kj60 t305 t306 (wrap64 (a2 * a0_1)) (wrap64 (a0_1 - a1_1)) true _ A83.out).mono ?_); rintro e w' ⟨rfl, ⟨nd, rfl⟩⟩; (try first | exact ⟨rfl, _, World.drewN_drewN _ _ _⟩ | exact ⟨rfl, _, Eq.trans (World.drewN_drewN _ _ _) (congrArg (World.drewN _) (Nat.add_assoc _ _ _))⟩))); try go_wp2_with (first | (go_at_call 11; (with_reducible refine (laws_qIs.calls kj60 t303 t304 a2 (wrap64 (a0_1 - a1_1)) true _ A81.out).mono ?_); rintro e w' ⟨rfl, ⟨nd, rfl⟩⟩; (try first | exact ⟨rfl, _, World.drewN_drewN _ _ _⟩ | exact ⟨rfl, _, Eq.trans (World.drewN_drewN _ _ _) (congrArg (World.drewN _) (Nat.add_assoc _ _ _))⟩)) | (go_at_call 11; (with_reducible refine (laws_qIs.calls kj60 t305 t306 (wrap64 (a2 * a0_1)) (wrap64 (a0_1 - a1_1)) true _ A83.out).mono ?_); rintro e w' ⟨rfl, ⟨nd, rfl⟩⟩; (try first | exact ⟨rfl, _, World.drewN_drewN _ _ _⟩ | exact ⟨rfl, _, Eq.trans (World.drewN_drewN _ _ _) (congrArg (World.drewN _) (Nat.add_assoc _ _ _))⟩))))
            go_meet
            case rel => exact ⟨_, (false), (by first | rfl | (simp; done) | (simp [*]; done)), H', ⟨by have := HJ20.out; have := HJ60.out; first | omega | exact Nat.le_refl _⟩, ⟨by (with_reducible repeat (first | refine blk_drewN ?_ _ | refine blk_drew ?_ | refine blk_alloc ?_ _)); exact BK291.out⟩, ⟨by (with_reducible repeat (first | refine blk_drewN ?_ _ | refine blk_drew ?_ | refine blk_alloc ?_ _)); exact BK292.out⟩, ⟨by repeat (first | (with_reducible first | exact HB.out | apply below_alloc | apply pw_below_drewN | apply below_drew1 | refine below_set ?_ GE291.out | refine below_set ?_ GE292.out) | exact HB.out)⟩⟩
          ·rw [if_neg c87] at H
           have c87b0 : (t305 == 0) = false := beq_eq_false_iff_ne.mpr c87
           have c87b1 : (t305 != 0) = true := bne_iff_ne.mpr c87
           exact absurd H (by rw [HR_.out]; cases kj60 <;> simp [laws_FnTrainsMeetOfAll.j2])
         ·rw [if_neg c86] at H
          have c86b0 : (t303 == 0) = false := beq_eq_false_iff_ne.mpr c86
          have c86b1 : (t303 != 0) = true := bne_iff_ne.mpr c86
          exact absurd H (by rw [HR_.out]; cases kj60 <;> simp [laws_FnTrainsMeetOfAll.j2])
        ·rw [if_neg c85] at H
         have c85b0 : (a2 == 0) = false := beq_eq_false_iff_ne.mpr c85
         have c85b1 : (a2 != 0) = true := bne_iff_ne.mpr c85
         by_cases c95 : t297 = true
         ·subst c95
          have H1 : (laws_FnTrainsMeetOfAll.j2 kj60 a2 a3 a4 a5 a6 a7 a8 l9 a10 t313 t314 t315 (true != true) a0_0 a0_1 a1_0 a1_1) = some r := by rw [if_pos rfl] at H; exact H
          clear H
          have H := H1
          clear H1
          have H' := Aside0.mk H
          clear H
          have hnb96 := NB291_292.out
          have hnc96 := NB292_291.out
          have hcz97_0 : wc.cell? ⟨gb291, 0, none⟩ = some (.int .i64 a0_0) := (blk_cell BK291.out 0).trans rfl
          have hcz97_1 : wc.cell? ⟨gb291, 1, none⟩ = some (.int .i64 a0_1) := (blk_cell BK291.out 1).trans rfl
          have hfz97_0 := blk_frozen BK291.out 0
          have hfz97_1 := blk_frozen BK291.out 1
          have hcz98_0 : wc.cell? ⟨gb292, 0, none⟩ = some (.int .i64 a1_0) := (blk_cell BK292.out 0).trans rfl
          have hcz98_1 : wc.cell? ⟨gb292, 1, none⟩ = some (.int .i64 a1_1) := (blk_cell BK292.out 1).trans rfl
          have hfz98_0 := blk_frozen BK292.out 0
          have hfz98_1 := blk_frozen BK292.out 1
          go_wp2_with (first | (go_at_call 11; (with_reducible refine (laws_qIs.calls kj60 t303 t304 a2 (wrap64 (a0_1 - a1_1)) true _ A81.out).mono ?_); rintro e w' ⟨rfl, ⟨nd, rfl⟩⟩; (try first | exact ⟨rfl, _, World.drewN_drewN _ _ _⟩ | exact ⟨rfl, _, Eq.trans (World.drewN_drewN _ _ _) (congrArg (World.drewN _) (Nat.add_assoc _ _ _))⟩)) | (go_at_call 11; (with_reducible refine (laws_qIs.calls kj60 t305 t306 (wrap64 (a2 * a0_1)) (wrap64 (a0_1 - a1_1)) true _ A83.out).mono ?_); rintro e w' ⟨rfl, ⟨nd, rfl⟩⟩; (try first | exact ⟨rfl, _, World.drewN_drewN _ _ _⟩ | exact ⟨rfl, _, Eq.trans (World.drewN_drewN _ _ _) (congrArg (World.drewN _) (Nat.add_assoc _ _ _))⟩)))
          repeat (go_quiet (first | (go_at_call 11; (with_reducible refine (laws_qIs.calls kj60 t303 t304 a2 (wrap64 (a0_1 - a1_1)) true _ A81.out).mono ?_); rintro e w' ⟨rfl, ⟨nd, rfl⟩⟩; (try first | exact ⟨rfl, _, World.drewN_drewN _ _ _⟩ | exact ⟨rfl, _, Eq.trans (World.drewN_drewN _ _ _) (congrArg (World.drewN _) (Nat.add_assoc _ _ _))⟩)) | (go_at_call 11; (with_reducible refine (laws_qIs.calls kj60 t305 t306 (wrap64 (a2 * a0_1)) (wrap64 (a0_1 - a1_1)) true _ A83.out).mono ?_); rintro e w' ⟨rfl, ⟨nd, rfl⟩⟩; (try first | exact ⟨rfl, _, World.drewN_drewN _ _ _⟩ | exact ⟨rfl, _, Eq.trans (World.drewN_drewN _ _ _) (congrArg (World.drewN _) (Nat.add_assoc _ _ _))⟩))); try go_wp2_with (first | (go_at_call 11; (with_reducible refine (laws_qIs.calls kj60 t303 t304 a2 (wrap64 (a0_1 - a1_1)) true _ A81.out).mono ?_); rintro e w' ⟨rfl, ⟨nd, rfl⟩⟩; (try first | exact ⟨rfl, _, World.drewN_drewN _ _ _⟩ | exact ⟨rfl, _, Eq.trans (World.drewN_drewN _ _ _) (congrArg (World.drewN _) (Nat.add_assoc _ _ _))⟩)) | (go_at_call 11; (with_reducible refine (laws_qIs.calls kj60 t305 t306 (wrap64 (a2 * a0_1)) (wrap64 (a0_1 - a1_1)) true _ A83.out).mono ?_); rintro e w' ⟨rfl, ⟨nd, rfl⟩⟩; (try first | exact ⟨rfl, _, World.drewN_drewN _ _ _⟩ | exact ⟨rfl, _, Eq.trans (World.drewN_drewN _ _ _) (congrArg (World.drewN _) (Nat.add_assoc _ _ _))⟩))))
          go_meet
          case rel => exact ⟨_, ((true != true)), (by first | rfl | (simp; done) | (simp [*]; done)), H', ⟨by have := HJ20.out; have := HJ60.out; first | omega | exact Nat.le_refl _⟩, ⟨by (with_reducible repeat (first | refine blk_drewN ?_ _ | refine blk_drew ?_ | refine blk_alloc ?_ _)); exact BK291.out⟩, ⟨by (with_reducible repeat (first | refine blk_drewN ?_ _ | refine blk_drew ?_ | refine blk_alloc ?_ _)); exact BK292.out⟩, ⟨by repeat (first | (with_reducible first | exact HB.out | apply below_alloc | apply pw_below_drewN | apply below_drew1 | refine below_set ?_ GE291.out | refine below_set ?_ GE292.out) | exact HB.out)⟩⟩
         ·replace c95 := Bool.eq_false_iff.mpr c95
          subst c95
          have H1 : (laws_FnTrainsMeetOfAll.j2 kj60 a2 a3 a4 a5 a6 a7 a8 l9 a10 t313 t314 t315 false a0_0 a0_1 a1_0 a1_1) = some r := by rw [if_neg (show ¬ (false = true) by decide)] at H; exact H
          clear H
          have H := H1
          clear H1
          have H' := Aside0.mk H
          clear H
          have hnb99 := NB291_292.out
          have hnc99 := NB292_291.out
          have hcz100_0 : wc.cell? ⟨gb291, 0, none⟩ = some (.int .i64 a0_0) := (blk_cell BK291.out 0).trans rfl
          have hcz100_1 : wc.cell? ⟨gb291, 1, none⟩ = some (.int .i64 a0_1) := (blk_cell BK291.out 1).trans rfl
          have hfz100_0 := blk_frozen BK291.out 0
          have hfz100_1 := blk_frozen BK291.out 1
          have hcz101_0 : wc.cell? ⟨gb292, 0, none⟩ = some (.int .i64 a1_0) := (blk_cell BK292.out 0).trans rfl
          have hcz101_1 : wc.cell? ⟨gb292, 1, none⟩ = some (.int .i64 a1_1) := (blk_cell BK292.out 1).trans rfl
          have hfz101_0 := blk_frozen BK292.out 0
          have hfz101_1 := blk_frozen BK292.out 1
          go_wp2_with (first | (go_at_call 11; (with_reducible refine (laws_qIs.calls kj60 t303 t304 a2 (wrap64 (a0_1 - a1_1)) true _ A81.out).mono ?_); rintro e w' ⟨rfl, ⟨nd, rfl⟩⟩; (try first | exact ⟨rfl, _, World.drewN_drewN _ _ _⟩ | exact ⟨rfl, _, Eq.trans (World.drewN_drewN _ _ _) (congrArg (World.drewN _) (Nat.add_assoc _ _ _))⟩)) | (go_at_call 11; (with_reducible refine (laws_qIs.calls kj60 t305 t306 (wrap64 (a2 * a0_1)) (wrap64 (a0_1 - a1_1)) true _ A83.out).mono ?_); rintro e w' ⟨rfl, ⟨nd, rfl⟩⟩; (try first | exact ⟨rfl, _, World.drewN_drewN _ _ _⟩ | exact ⟨rfl, _, Eq.trans (World.drewN_drewN _ _ _) (congrArg (World.drewN _) (Nat.add_assoc _ _ _))⟩)))
          repeat (go_quiet (first | (go_at_call 11; (with_reducible refine (laws_qIs.calls kj60 t303 t304 a2 (wrap64 (a0_1 - a1_1)) true _ A81.out).mono ?_); rintro e w' ⟨rfl, ⟨nd, rfl⟩⟩; (try first | exact ⟨rfl, _, World.drewN_drewN _ _ _⟩ | exact ⟨rfl, _, Eq.trans (World.drewN_drewN _ _ _) (congrArg (World.drewN _) (Nat.add_assoc _ _ _))⟩)) | (go_at_call 11; (with_reducible refine (laws_qIs.calls kj60 t305 t306 (wrap64 (a2 * a0_1)) (wrap64 (a0_1 - a1_1)) true _ A83.out).mono ?_); rintro e w' ⟨rfl, ⟨nd, rfl⟩⟩; (try first | exact ⟨rfl, _, World.drewN_drewN _ _ _⟩ | exact ⟨rfl, _, Eq.trans (World.drewN_drewN _ _ _) (congrArg (World.drewN _) (Nat.add_assoc _ _ _))⟩))); try go_wp2_with (first | (go_at_call 11; (with_reducible refine (laws_qIs.calls kj60 t303 t304 a2 (wrap64 (a0_1 - a1_1)) true _ A81.out).mono ?_); rintro e w' ⟨rfl, ⟨nd, rfl⟩⟩; (try first | exact ⟨rfl, _, World.drewN_drewN _ _ _⟩ | exact ⟨rfl, _, Eq.trans (World.drewN_drewN _ _ _) (congrArg (World.drewN _) (Nat.add_assoc _ _ _))⟩)) | (go_at_call 11; (with_reducible refine (laws_qIs.calls kj60 t305 t306 (wrap64 (a2 * a0_1)) (wrap64 (a0_1 - a1_1)) true _ A83.out).mono ?_); rintro e w' ⟨rfl, ⟨nd, rfl⟩⟩; (try first | exact ⟨rfl, _, World.drewN_drewN _ _ _⟩ | exact ⟨rfl, _, Eq.trans (World.drewN_drewN _ _ _) (congrArg (World.drewN _) (Nat.add_assoc _ _ _))⟩))))
          go_meet
          case rel => exact ⟨_, (false), (by first | rfl | (simp; done) | (simp [*]; done)), H', ⟨by have := HJ20.out; have := HJ60.out; first | omega | exact Nat.le_refl _⟩, ⟨by (with_reducible repeat (first | refine blk_drewN ?_ _ | refine blk_drew ?_ | refine blk_alloc ?_ _)); exact BK291.out⟩, ⟨by (with_reducible repeat (first | refine blk_drewN ?_ _ | refine blk_drew ?_ | refine blk_alloc ?_ _)); exact BK292.out⟩, ⟨by repeat (first | (with_reducible first | exact HB.out | apply below_alloc | apply pw_below_drewN | apply below_drew1 | refine below_set ?_ GE291.out | refine below_set ?_ GE292.out) | exact HB.out)⟩⟩
       ·replace c84 := Bool.eq_false_iff.mpr c84
        subst c84
        have H1 : (laws_FnTrainsMeetOfAll.j2 kj60 a2 a3 a4 a5 a6 a7 a8 l9 a10 t313 t314 t315 true a0_0 a0_1 a1_0 a1_1) = some r := by rw [if_neg (show ¬ (false = true) by decide)] at H; exact H
        clear H
        have H := H1
        clear H1
        exact absurd H (by rw [HR_.out]; cases kj60 <;> simp [laws_FnTrainsMeetOfAll.j2])
      ·replace c82 := Bool.eq_false_iff.mpr c82
       subst c82
       have H1 : (laws_FnTrainsMeetOfAll.j2 kj60 a2 a3 a4 a5 a6 a7 a8 l9 a10 t313 t314 t315 true a0_0 a0_1 a1_0 a1_1) = some r := by rw [if_neg (show ¬ (false = true) by decide)] at H; exact H
       clear H
       have H := H1
       clear H1
       exact absurd H (by rw [HR_.out]; cases kj60 <;> simp [laws_FnTrainsMeetOfAll.j2])
     ·rw [if_neg c80] at H
      have c80b0 : decide (a1_1 < a0_1) = false := decide_eq_false c80
      clear c80
      (first | rw [c80b0] | (simp only [i64_w, i32_w]; rw [c80b0]) | skip)
      by_cases c102 : a2 = 0
      ·rw [if_pos c102] at H
       have c102b0 : (a2 == 0) = true := beq_iff_eq.mpr c102
       have c102b1 : (a2 != 0) = false := bne_eq_false_iff_eq.mpr c102
       clear c102
       by_cases c103 : t303 = 0
       ·rw [if_pos c103] at H
        have c103b0 : (t303 == 0) = true := beq_iff_eq.mpr c103
        have c103b1 : (t303 != 0) = false := bne_eq_false_iff_eq.mpr c103
        clear c103
        by_cases c104 : t305 = 0
        ·rw [if_pos c104] at H
         have c104b0 : (t305 == 0) = true := beq_iff_eq.mpr c104
         have c104b1 : (t305 != 0) = false := bne_eq_false_iff_eq.mpr c104
         clear c104
         by_cases c105 : t297 = true
         ·subst c105
          have H1 : (laws_FnTrainsMeetOfAll.j2 kj60 a2 a3 a4 a5 a6 a7 a8 l9 a10 t313 t314 t315 (true != (a2 == 0)) a0_0 a0_1 a1_0 a1_1) = some r := by rw [if_pos rfl] at H; exact H
          clear H
          have H := H1
          clear H1
          have H' := Aside0.mk H
          clear H
          have hnb106 := NB291_292.out
          have hnc106 := NB292_291.out
          have hcz107_0 : wc.cell? ⟨gb291, 0, none⟩ = some (.int .i64 a0_0) := (blk_cell BK291.out 0).trans rfl
          have hcz107_1 : wc.cell? ⟨gb291, 1, none⟩ = some (.int .i64 a0_1) := (blk_cell BK291.out 1).trans rfl
          have hfz107_0 := blk_frozen BK291.out 0
          have hfz107_1 := blk_frozen BK291.out 1
          have hcz108_0 : wc.cell? ⟨gb292, 0, none⟩ = some (.int .i64 a1_0) := (blk_cell BK292.out 0).trans rfl
          have hcz108_1 : wc.cell? ⟨gb292, 1, none⟩ = some (.int .i64 a1_1) := (blk_cell BK292.out 1).trans rfl
          have hfz108_0 := blk_frozen BK292.out 0
          have hfz108_1 := blk_frozen BK292.out 1
          go_wp2
          repeat (go_quiet (fail); try go_wp2)
          go_meet
          case rel => exact ⟨_, ((true != (a2 == 0))), (by first | rfl | (simp; done) | (simp [*]; done)), H', ⟨by have := HJ20.out; have := HJ60.out; first | omega | exact Nat.le_refl _⟩, ⟨by (with_reducible repeat (first | refine blk_drewN ?_ _ | refine blk_drew ?_ | refine blk_alloc ?_ _)); exact BK291.out⟩, ⟨by (with_reducible repeat (first | refine blk_drewN ?_ _ | refine blk_drew ?_ | refine blk_alloc ?_ _)); exact BK292.out⟩, ⟨by repeat (first | (with_reducible first | exact HB.out | apply below_alloc | apply pw_below_drewN | apply below_drew1 | refine below_set ?_ GE291.out | refine below_set ?_ GE292.out) | exact HB.out)⟩⟩
         ·replace c105 := Bool.eq_false_iff.mpr c105
          subst c105
          have H1 : (laws_FnTrainsMeetOfAll.j2 kj60 a2 a3 a4 a5 a6 a7 a8 l9 a10 t313 t314 t315 false a0_0 a0_1 a1_0 a1_1) = some r := by rw [if_neg (show ¬ (false = true) by decide)] at H; exact H
          clear H
          have H := H1
          clear H1
          have H' := Aside0.mk H
          clear H
          have hnb109 := NB291_292.out
          have hnc109 := NB292_291.out
          have hcz110_0 : wc.cell? ⟨gb291, 0, none⟩ = some (.int .i64 a0_0) := (blk_cell BK291.out 0).trans rfl
          have hcz110_1 : wc.cell? ⟨gb291, 1, none⟩ = some (.int .i64 a0_1) := (blk_cell BK291.out 1).trans rfl
          have hfz110_0 := blk_frozen BK291.out 0
          have hfz110_1 := blk_frozen BK291.out 1
          have hcz111_0 : wc.cell? ⟨gb292, 0, none⟩ = some (.int .i64 a1_0) := (blk_cell BK292.out 0).trans rfl
          have hcz111_1 : wc.cell? ⟨gb292, 1, none⟩ = some (.int .i64 a1_1) := (blk_cell BK292.out 1).trans rfl
          have hfz111_0 := blk_frozen BK292.out 0
          have hfz111_1 := blk_frozen BK292.out 1
          go_wp2
          repeat (go_quiet (fail); try go_wp2)
          go_meet
          case rel => exact ⟨_, (false), (by first | rfl | (simp; done) | (simp [*]; done)), H', ⟨by have := HJ20.out; have := HJ60.out; first | omega | exact Nat.le_refl _⟩, ⟨by (with_reducible repeat (first | refine blk_drewN ?_ _ | refine blk_drew ?_ | refine blk_alloc ?_ _)); exact BK291.out⟩, ⟨by (with_reducible repeat (first | refine blk_drewN ?_ _ | refine blk_drew ?_ | refine blk_alloc ?_ _)); exact BK292.out⟩, ⟨by repeat (first | (with_reducible first | exact HB.out | apply below_alloc | apply pw_below_drewN | apply below_drew1 | refine below_set ?_ GE291.out | refine below_set ?_ GE292.out) | exact HB.out)⟩⟩
        ·rw [if_neg c104] at H
         have c104b0 : (t305 == 0) = false := beq_eq_false_iff_ne.mpr c104
         have c104b1 : (t305 != 0) = true := bne_iff_ne.mpr c104
         exact absurd H (by rw [HR_.out]; cases kj60 <;> simp [laws_FnTrainsMeetOfAll.j2])
       ·rw [if_neg c103] at H
        have c103b0 : (t303 == 0) = false := beq_eq_false_iff_ne.mpr c103
        have c103b1 : (t303 != 0) = true := bne_iff_ne.mpr c103
        exact absurd H (by rw [HR_.out]; cases kj60 <;> simp [laws_FnTrainsMeetOfAll.j2])
      ·rw [if_neg c102] at H
       have c102b0 : (a2 == 0) = false := beq_eq_false_iff_ne.mpr c102
       have c102b1 : (a2 != 0) = true := bne_iff_ne.mpr c102
       by_cases c112 : t297 = true
       ·subst c112
        have H1 : (laws_FnTrainsMeetOfAll.j2 kj60 a2 a3 a4 a5 a6 a7 a8 l9 a10 t313 t314 t315 (true != (a2 == 0)) a0_0 a0_1 a1_0 a1_1) = some r := by rw [if_pos rfl] at H; exact H
        clear H
        have H := H1
        clear H1
        have H' := Aside0.mk H
        clear H
        have hnb113 := NB291_292.out
        have hnc113 := NB292_291.out
        have hcz114_0 : wc.cell? ⟨gb291, 0, none⟩ = some (.int .i64 a0_0) := (blk_cell BK291.out 0).trans rfl
        have hcz114_1 : wc.cell? ⟨gb291, 1, none⟩ = some (.int .i64 a0_1) := (blk_cell BK291.out 1).trans rfl
        have hfz114_0 := blk_frozen BK291.out 0
        have hfz114_1 := blk_frozen BK291.out 1
        have hcz115_0 : wc.cell? ⟨gb292, 0, none⟩ = some (.int .i64 a1_0) := (blk_cell BK292.out 0).trans rfl
        have hcz115_1 : wc.cell? ⟨gb292, 1, none⟩ = some (.int .i64 a1_1) := (blk_cell BK292.out 1).trans rfl
        have hfz115_0 := blk_frozen BK292.out 0
        have hfz115_1 := blk_frozen BK292.out 1
        go_wp2
        repeat (go_quiet (fail); try go_wp2)
        go_meet
        case rel => exact ⟨_, ((true != (a2 == 0))), (by first | rfl | (simp; done) | (simp [*]; done)), H', ⟨by have := HJ20.out; have := HJ60.out; first | omega | exact Nat.le_refl _⟩, ⟨by (with_reducible repeat (first | refine blk_drewN ?_ _ | refine blk_drew ?_ | refine blk_alloc ?_ _)); exact BK291.out⟩, ⟨by (with_reducible repeat (first | refine blk_drewN ?_ _ | refine blk_drew ?_ | refine blk_alloc ?_ _)); exact BK292.out⟩, ⟨by repeat (first | (with_reducible first | exact HB.out | apply below_alloc | apply pw_below_drewN | apply below_drew1 | refine below_set ?_ GE291.out | refine below_set ?_ GE292.out) | exact HB.out)⟩⟩
       ·replace c112 := Bool.eq_false_iff.mpr c112
        subst c112
        have H1 : (laws_FnTrainsMeetOfAll.j2 kj60 a2 a3 a4 a5 a6 a7 a8 l9 a10 t313 t314 t315 false a0_0 a0_1 a1_0 a1_1) = some r := by rw [if_neg (show ¬ (false = true) by decide)] at H; exact H
        clear H
        have H := H1
        clear H1
        have H' := Aside0.mk H
        clear H
        have hnb116 := NB291_292.out
        have hnc116 := NB292_291.out
        have hcz117_0 : wc.cell? ⟨gb291, 0, none⟩ = some (.int .i64 a0_0) := (blk_cell BK291.out 0).trans rfl
        have hcz117_1 : wc.cell? ⟨gb291, 1, none⟩ = some (.int .i64 a0_1) := (blk_cell BK291.out 1).trans rfl
        have hfz117_0 := blk_frozen BK291.out 0
        have hfz117_1 := blk_frozen BK291.out 1
        have hcz118_0 : wc.cell? ⟨gb292, 0, none⟩ = some (.int .i64 a1_0) := (blk_cell BK292.out 0).trans rfl
        have hcz118_1 : wc.cell? ⟨gb292, 1, none⟩ = some (.int .i64 a1_1) := (blk_cell BK292.out 1).trans rfl
        have hfz118_0 := blk_frozen BK292.out 0
        have hfz118_1 := blk_frozen BK292.out 1
        go_wp2
        repeat (go_quiet (fail); try go_wp2)
        go_meet
        case rel => exact ⟨_, (false), (by first | rfl | (simp; done) | (simp [*]; done)), H', ⟨by have := HJ20.out; have := HJ60.out; first | omega | exact Nat.le_refl _⟩, ⟨by (with_reducible repeat (first | refine blk_drewN ?_ _ | refine blk_drew ?_ | refine blk_alloc ?_ _)); exact BK291.out⟩, ⟨by (with_reducible repeat (first | refine blk_drewN ?_ _ | refine blk_drew ?_ | refine blk_alloc ?_ _)); exact BK292.out⟩, ⟨by repeat (first | (with_reducible first | exact HB.out | apply below_alloc | apply pw_below_drewN | apply below_drew1 | refine below_set ?_ GE291.out | refine below_set ?_ GE292.out) | exact HB.out)⟩⟩
    ·replace c79 := Bool.eq_false_iff.mpr c79
     subst c79
     have H1 : (if t297 = true then (if a0_1 > a1_1 then (laws_FnTrainsMeetOfAll.j2 kj60 a2 a3 a4 a5 a6 a7 a8 l9 a10 t313 t314 t315 (false != true) a0_0 a0_1 a1_0 a1_1) else (laws_FnTrainsMeetOfAll.j2 kj60 a2 a3 a4 a5 a6 a7 a8 l9 a10 t313 t314 t315 (false != (a2 == 0)) a0_0 a0_1 a1_0 a1_1)) else (laws_FnTrainsMeetOfAll.j2 kj60 a2 a3 a4 a5 a6 a7 a8 l9 a10 t313 t314 t315 false a0_0 a0_1 a1_0 a1_1)) = some r := by rw [if_neg (show ¬ (false = true) by decide)] at H; exact H
     clear H
     have H := H1
     clear H1
     by_cases c119 : t297 = true
     ·subst c119
      have H1 : (if a0_1 > a1_1 then (laws_FnTrainsMeetOfAll.j2 kj60 a2 a3 a4 a5 a6 a7 a8 l9 a10 t313 t314 t315 (false != true) a0_0 a0_1 a1_0 a1_1) else (laws_FnTrainsMeetOfAll.j2 kj60 a2 a3 a4 a5 a6 a7 a8 l9 a10 t313 t314 t315 (false != (a2 == 0)) a0_0 a0_1 a1_0 a1_1)) = some r := by rw [if_pos rfl] at H; exact H
      clear H
      have H := H1
      clear H1
      by_cases c120 : a0_1 > a1_1
      ·rw [if_pos c120] at H
       have c120b0 : decide (a1_1 < a0_1) = true := decide_eq_true c120
       clear c120
       have H' := Aside0.mk H
       clear H
       have hnb121 := NB291_292.out
       have hnc121 := NB292_291.out
       have hcz122_0 : wc.cell? ⟨gb291, 0, none⟩ = some (.int .i64 a0_0) := (blk_cell BK291.out 0).trans rfl
       have hcz122_1 : wc.cell? ⟨gb291, 1, none⟩ = some (.int .i64 a0_1) := (blk_cell BK291.out 1).trans rfl
       have hfz122_0 := blk_frozen BK291.out 0
       have hfz122_1 := blk_frozen BK291.out 1
       have hcz123_0 : wc.cell? ⟨gb292, 0, none⟩ = some (.int .i64 a1_0) := (blk_cell BK292.out 0).trans rfl
       have hcz123_1 : wc.cell? ⟨gb292, 1, none⟩ = some (.int .i64 a1_1) := (blk_cell BK292.out 1).trans rfl
       have hfz123_0 := blk_frozen BK292.out 0
       have hfz123_1 := blk_frozen BK292.out 1
       go_wp2
       repeat (go_quiet (fail); try go_wp2)
       go_meet
       case rel => exact ⟨_, ((false != true)), (by first | rfl | (simp; done) | (simp [*]; done)), H', ⟨by have := HJ20.out; have := HJ60.out; first | omega | exact Nat.le_refl _⟩, ⟨by (with_reducible repeat (first | refine blk_drewN ?_ _ | refine blk_drew ?_ | refine blk_alloc ?_ _)); exact BK291.out⟩, ⟨by (with_reducible repeat (first | refine blk_drewN ?_ _ | refine blk_drew ?_ | refine blk_alloc ?_ _)); exact BK292.out⟩, ⟨by repeat (first | (with_reducible first | exact HB.out | apply below_alloc | apply pw_below_drewN | apply below_drew1 | refine below_set ?_ GE291.out | refine below_set ?_ GE292.out) | exact HB.out)⟩⟩
      ·rw [if_neg c120] at H
       have c120b0 : decide (a1_1 < a0_1) = false := decide_eq_false c120
       clear c120
       have H' := Aside0.mk H
       clear H
       have hnb124 := NB291_292.out
       have hnc124 := NB292_291.out
       have hcz125_0 : wc.cell? ⟨gb291, 0, none⟩ = some (.int .i64 a0_0) := (blk_cell BK291.out 0).trans rfl
       have hcz125_1 : wc.cell? ⟨gb291, 1, none⟩ = some (.int .i64 a0_1) := (blk_cell BK291.out 1).trans rfl
       have hfz125_0 := blk_frozen BK291.out 0
       have hfz125_1 := blk_frozen BK291.out 1
       have hcz126_0 : wc.cell? ⟨gb292, 0, none⟩ = some (.int .i64 a1_0) := (blk_cell BK292.out 0).trans rfl
       have hcz126_1 : wc.cell? ⟨gb292, 1, none⟩ = some (.int .i64 a1_1) := (blk_cell BK292.out 1).trans rfl
       have hfz126_0 := blk_frozen BK292.out 0
       have hfz126_1 := blk_frozen BK292.out 1
       go_wp2
       repeat (go_quiet (fail); try go_wp2)
       go_meet
       case rel => exact ⟨_, ((false != (a2 == 0))), (by first | rfl | (simp; done) | (simp [*]; done)), H', ⟨by have := HJ20.out; have := HJ60.out; first | omega | exact Nat.le_refl _⟩, ⟨by (with_reducible repeat (first | refine blk_drewN ?_ _ | refine blk_drew ?_ | refine blk_alloc ?_ _)); exact BK291.out⟩, ⟨by (with_reducible repeat (first | refine blk_drewN ?_ _ | refine blk_drew ?_ | refine blk_alloc ?_ _)); exact BK292.out⟩, ⟨by repeat (first | (with_reducible first | exact HB.out | apply below_alloc | apply pw_below_drewN | apply below_drew1 | refine below_set ?_ GE291.out | refine below_set ?_ GE292.out) | exact HB.out)⟩⟩
     ·replace c119 := Bool.eq_false_iff.mpr c119
      subst c119
      have H1 : (laws_FnTrainsMeetOfAll.j2 kj60 a2 a3 a4 a5 a6 a7 a8 l9 a10 t313 t314 t315 false a0_0 a0_1 a1_0 a1_1) = some r := by rw [if_neg (show ¬ (false = true) by decide)] at H; exact H
      clear H
      have H := H1
      clear H1
      have H' := Aside0.mk H
      clear H
      go_wp2
      repeat (go_quiet (fail); try go_wp2)
      go_meet
      case rel => exact ⟨_, (false), (by first | rfl | (simp; done) | (simp [*]; done)), H', ⟨by have := HJ20.out; have := HJ60.out; first | omega | exact Nat.le_refl _⟩, ⟨by (with_reducible repeat (first | refine blk_drewN ?_ _ | refine blk_drew ?_ | refine blk_alloc ?_ _)); exact BK291.out⟩, ⟨by (with_reducible repeat (first | refine blk_drewN ?_ _ | refine blk_drew ?_ | refine blk_alloc ?_ _)); exact BK292.out⟩, ⟨by repeat (first | (with_reducible first | exact HB.out | apply below_alloc | apply pw_below_drewN | apply below_drew1 | refine below_set ?_ GE291.out | refine below_set ?_ GE292.out) | exact HB.out)⟩⟩
   case rest =>
    clear HC78
    (try clear c1); (try clear c2); (try clear p2); (try clear c3); (try clear c4); (try clear c5); (try clear c6); (try clear p6); (try clear c7); (try clear c8); (try clear c9); (try clear c10); (try clear c11); (try clear c12); (try clear c12b0); (try clear c12b1); (try clear c24); (try clear c43); (try clear c43b0); (try clear c43b1); (try clear c43b2); (try clear c44); (try clear c44b0); (try clear c44b1); (try clear c45); (try clear c45b0); (try clear c45b1); (try clear c46); (try clear c46b0); (try clear c46b1); (try clear c47); (try clear c47b0); (try clear c47b1); (try clear c48); (try clear c48b0); (try clear c48b1); (try clear c48b2); (try clear c49); (try clear c49b0); (try clear c49b1); (try clear c50); (try clear c50b0); (try clear c50b1); (try clear c51); (try clear c51b0); (try clear c51b1); (try clear c52); (try clear c52b0); (try clear c52b1); (try clear c53); (try clear c53b0); (try clear c53b1); (try clear c53b2); (try clear c54); (try clear c54b0); (try clear c54b1); (try clear c55); (try clear c55b0); (try clear c55b1); (try clear c56); (try clear c57); (try clear c58); (try clear c59); (try clear c60); (try clear c62); (try clear p64); (try clear c65); (try clear c67); (try clear c68); (try clear c69); (try clear c69b0); (try clear c69b1); (try clear c70); (try clear c70b0); (try clear c70b1); (try clear c71); (try clear c71b0); (try clear c71b1); (try clear c72); (try clear c79); (try clear c80); (try clear c80b0); (try clear c82); (try clear c84); (try clear c85); (try clear c85b0); (try clear c85b1); (try clear c86); (try clear c86b0); (try clear c86b1); (try clear c87); (try clear c87b0); (try clear c87b1); (try clear c88); (try clear c89); (try clear c92); (try clear c95); (try clear c96); (try clear c99); (try clear c102); (try clear c102b0); (try clear c102b1); (try clear c103); (try clear c103b0); (try clear c103b1); (try clear c104); (try clear c104b0); (try clear c104b1); (try clear c105); (try clear c106); (try clear c109); (try clear c112); (try clear c113); (try clear c116); (try clear c119); (try clear c120); (try clear c120b0); (try clear c121); (try clear c124); (try clear hcz100_0); (try clear hcz100_1); (try clear hcz101_0); (try clear hcz101_1); (try clear hcz107_0); (try clear hcz107_1); (try clear hcz108_0); (try clear hcz108_1); (try clear hcz110_0); (try clear hcz110_1); (try clear hcz111_0); (try clear hcz111_1); (try clear hcz114_0); (try clear hcz114_1); (try clear hcz115_0); (try clear hcz115_1); (try clear hcz117_0); (try clear hcz117_1); (try clear hcz118_0); (try clear hcz118_1); (try clear hcz122_0); (try clear hcz122_1); (try clear hcz123_0); (try clear hcz123_1); (try clear hcz125_0); (try clear hcz125_1); (try clear hcz126_0); (try clear hcz126_1); (try clear hcz25_0); (try clear hcz25_1); (try clear hcz26_0); (try clear hcz26_1); (try clear hcz28_0); (try clear hcz28_1); (try clear hcz29_0); (try clear hcz29_1); (try clear hcz31_0); (try clear hcz31_1); (try clear hcz32_0); (try clear hcz32_1); (try clear hcz34_0); (try clear hcz34_1); (try clear hcz35_0); (try clear hcz35_1); (try clear hcz37_0); (try clear hcz37_1); (try clear hcz38_0); (try clear hcz38_1); (try clear hcz40_0); (try clear hcz40_1); (try clear hcz41_0); (try clear hcz41_1); (try clear hcz73_0); (try clear hcz73_1); (try clear hcz74_0); (try clear hcz74_1); (try clear hcz76_0); (try clear hcz76_1); (try clear hcz77_0); (try clear hcz77_1); (try clear hcz90_0); (try clear hcz90_1); (try clear hcz91_0); (try clear hcz91_1); (try clear hcz93_0); (try clear hcz93_1); (try clear hcz94_0); (try clear hcz94_1); (try clear hcz97_0); (try clear hcz97_1); (try clear hcz98_0); (try clear hcz98_1); (try clear hfz100_0); (try clear hfz100_1); (try clear hfz101_0); (try clear hfz101_1); (try clear hfz107_0); (try clear hfz107_1); (try clear hfz108_0); (try clear hfz108_1); (try clear hfz110_0); (try clear hfz110_1); (try clear hfz111_0); (try clear hfz111_1); (try clear hfz114_0); (try clear hfz114_1); (try clear hfz115_0)
    (try clear hfz115_1); (try clear hfz117_0); (try clear hfz117_1); (try clear hfz118_0); (try clear hfz118_1); (try clear hfz122_0); (try clear hfz122_1); (try clear hfz123_0); (try clear hfz123_1); (try clear hfz125_0); (try clear hfz125_1); (try clear hfz126_0); (try clear hfz126_1); (try clear hfz25_0); (try clear hfz25_1); (try clear hfz26_0); (try clear hfz26_1); (try clear hfz28_0); (try clear hfz28_1); (try clear hfz29_0); (try clear hfz29_1); (try clear hfz31_0); (try clear hfz31_1); (try clear hfz32_0); (try clear hfz32_1); (try clear hfz34_0); (try clear hfz34_1); (try clear hfz35_0); (try clear hfz35_1); (try clear hfz37_0); (try clear hfz37_1); (try clear hfz38_0); (try clear hfz38_1); (try clear hfz40_0); (try clear hfz40_1); (try clear hfz41_0); (try clear hfz41_1); (try clear hfz73_0); (try clear hfz73_1); (try clear hfz74_0); (try clear hfz74_1); (try clear hfz76_0); (try clear hfz76_1); (try clear hfz77_0); (try clear hfz77_1); (try clear hfz90_0); (try clear hfz90_1); (try clear hfz91_0); (try clear hfz91_1); (try clear hfz93_0); (try clear hfz93_1); (try clear hfz94_0); (try clear hfz94_1); (try clear hfz97_0); (try clear hfz97_1); (try clear hfz98_0); (try clear hfz98_1); (try clear p2); (try clear p6); (try clear p64)
    obtain ⟨kq, x354_77, rfl, HA, HJ77, BK291, BK292, HB⟩ := hcut
    cases kq with
    | zero => exact absurd HA.out (by simp [laws_FnTrainsMeetOfAll.j2])
    | succ kj77 =>
     have H := HA.out
     clear HA
     simp only [laws_FnTrainsMeetOfAll.j2] at H
     by_cases c127 : x354_77 = true
     ·subst c127
      have H1 : (some false) = some r := by rw [if_pos rfl] at H; exact H
      clear H
      have H := H1
      clear H1
      exact absurd (Option.some.inj H).symm (by rw [HR_.out]; decide)
     ·replace c127 := Bool.eq_false_iff.mpr c127
      subst c127
      have H1 : (if t315 = true then ((impl_PolePassing.f kj77 a0_0 a0_1).bind fun bt328 => ((laws_qLow.f kj77 t313 t314).bind fun t331 => (if t331 = true then (if bt328.2.2 = true then (if (wrap64 (t313 * bt328.2.1)) < (wrap64 (bt328.1 * t314)) then (laws_FnTrainsMeetOfAll.j3 kj77 a2 a3 a4 a5 a6 a7 a8 l9 a10 t313 t314 bt328.1 bt328.2.1 true a0_0 a0_1 a1_0 a1_1) else (laws_FnTrainsMeetOfAll.j3 kj77 a2 a3 a4 a5 a6 a7 a8 l9 a10 t313 t314 bt328.1 bt328.2.1 (decide ((wrap64 (a1_1 * (wrap64 ((wrap64 (a2 * t314)) - (wrap64 (t313 * a0_1)))))) > (wrap64 ((wrap64 ((wrap64 (a2 - a0_0)) * a0_1)) * t314)))) a0_0 a0_1 a1_0 a1_1)) else (laws_FnTrainsMeetOfAll.j3 kj77 a2 a3 a4 a5 a6 a7 a8 l9 a10 t313 t314 bt328.1 bt328.2.1 true a0_0 a0_1 a1_0 a1_1)) else (laws_FnTrainsMeetOfAll.j3 kj77 a2 a3 a4 a5 a6 a7 a8 l9 a10 t313 t314 bt328.1 bt328.2.1 true a0_0 a0_1 a1_0 a1_1)))) else (laws_FnTrainsMeetOfAll.j4 kj77 a3 a4 a5 a6 a7 a8 l9 a10)) = some r := by rw [if_neg (show ¬ (false = true) by decide)] at H; exact H
      clear H
      have H := H1
      clear H1
      have HC128 := Aside0.mk H
      clear H
      go_step
      go_step
      go_step
      go_step
      go_step
      exact laws_FnTrainsMeetOfAll.seg2 k a0_0 a0_1 a1_0 a1_1 a2 a3 a4 a5 a6 a7 a8 A9 c9 l9 a10 r w HR_ hu23 HR9 HC9 t293 t294 t295 t296 t297 A15 t298 t299 t300 t301 t302 A16 t303 t304 t305 t306 t307 A17 t308 t309 t310 t311 t312 A18 t313 t314 t315 A19 t316 t317 t318 A20 gb291 w22 GW291 GE291 gb292 w23 GW292 GE292 NB291_292 NB292_291 hnb24 hnc24 w27 w30 w33 w36 w39 w42 u147 u148 u149 u150 u151 u152 u153 u154 u155 u156 u157 u158 u159 u160 u161 u162 u163 u164 u165 u166 u167 u168 u169 u170 u171 u172 u173 u174 u175 u176 u177 u178 u179 u180 u181 u182 u183 u184 u185 u186 u187 u188 u189 u190 u191 u192 u193 u194 u195 u196 u197 u198 u199 u200 u201 u202 u203 u204 u205 u206 u207 u208 u209 u210 u211 u212 u213 u214 u215 u216 u217 u218 u219 u220 u221 u222 kj20 HJ20 u22 u49 u50 u51 u52 u53 u225 u226 u227 u228 u229 u230 u231 u232 u233 u234 u235 u236 u237 u238 u239 u240 u241 u242 u243 u244 u245 u246 u247 u248 u249 u250 u251 u252 u253 u254 u255 u256 u257 u258 u259 u260 u261 u262 u263 u264 u265 u266 u267 u268 u269 u270 u271 u272 u273 u274 u275 u276 u277 u278 u279 u280 u281 u282 u283 u284 u285 u286 u287 u288 kj60 HJ60 wc u289 u290 u291 u292 u293 u294 u295 u296 u297 u298 u299 u300 u301 u302 u303 u304 u305 u306 u307 u308 u309 u310 u311 u312 u313 u314 u315 u316 u317 u318 u319 u320 u321 u322 u323 u324 u325 u326 u327 u328 u329 u330 u331 u332 u333 u334 u335 u336 u337 u338 u339 u340 u341 u342 u343 u344 u345 u346 u347 u348 u349 u350 u351 u352 u353 BK291 BK292 HB kj77 HJ77 HC128
end Go.Proofs.Ytnbmplhcbliclaa.QM
