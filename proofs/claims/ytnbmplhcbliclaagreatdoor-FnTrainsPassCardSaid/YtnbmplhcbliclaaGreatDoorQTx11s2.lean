-- WRITTEN BY a program of this session (wip/xprint.py, over the kit's print): Lean checks it.
import Derived.Test.YtnbmplhcbliclaaGreatDoorQTx11d
import Derived.Test.YtnbmplhcbliclaaGreatDoorQTx11s3
namespace Go.Proofs.YtnbmplhcbliclaaGreatDoor.QT
open Go.Proofs.YtnbmplhcbliclaaGreatDoor.X Go.RowKit Go.Proofs.YtnbmplhcbliclaaGreatDoorW.PrintWords Go.Proofs.YtnbmplhcbliclaaGreatDoorW.PrintLast Go.Proofs.YtnbmplhcbliclaaGreatDoorW.PrintMore
attribute [local go_sem] max2_int min2_int max_two min_two max_three min_three max_four min_four   -- for this text's walks alone
set_option linter.unusedVariables false
set_option linter.unusedSimpArgs false

attribute [local go_sem high] eqA25
set_option maxHeartbeats 16000000 in
set_option maxRecDepth 1000000 in
theorem laws_FnTrainsPass.seg2 {v0_ v2_ v3_ v10_ v11_ v12_ v15_ v16_ v17_ v18_ v19_ v20_ v21_ v22_ v23_ v24_ v25_ v26_ v27_ v28_ v29_ v30_ v90_ v91_ v92_ v93_ v94_ v95_ v96_ v97_ v98_ v99_ v100_ v101_ v102_ v103_ v104_ v105_ v106_ v107_ v108_ v109_ v110_ v111_ v112_ v113_ v114_ v115_ v116_ v117_ v118_ v119_ v120_ v121_ v122_ v123_ v124_ v125_ v126_ v127_ v128_ v129_ v130_ v131_ v132_ v133_ v134_ v135_ v136_ v137_ v138_ v139_ v140_ v141_ v142_ v143_ v144_ v145_ v146_ v147_ v148_ v149_ v150_ v151_ v152_ v153_ v154_ v155_ v156_ v157_ v158_ v159_ v160_ v161_ v162_ v163_ v164_ v165_ v166_ v167_ v168_ v169_ v170_ v171_ v172_ v173_ v174_ v175_ v176_ v177_ v178_ v179_ v180_ v181_ v182_ v183_ v184_ v185_ v186_ v187_ v188_ v189_ v190_ v191_ v192_ v193_ v194_ v195_ v196_ v197_ v198_ v199_ v200_ v201_ v202_ v203_ v204_ v205_ v206_ v207_ v208_ v209_ v210_ v211_ v212_ v213_ v214_ v215_ v216_ v217_ v218_ v219_ v220_ v221_ v222_ v223_ v224_ v225_ v226_ v227_ v228_ v229_ v230_ v231_ v232_ v233_ v234_ v235_ v236_ v237_ v238_ v239_ v240_ v241_ v242_ v243_ v244_ v245_ v246_ v247_ v248_ v249_ v250_ v251_ v252_ v253_ v254_ v255_ v256_ v257_ v258_ v259_ v260_ v261_ v262_ v263_ v264_ v265_ v266_ v267_ v268_ v269_ v270_ v271_ v272_ v273_ v274_ v275_ v276_ v277_ v278_ v279_ v280_ v281_ v282_ v283_ v284_ v285_ v286_ v287_ : Go.Value} (k : Nat) (A1 : Option Addr) (c1 : Nat) (l1 : List Int) (r : Bool) (w : World) (HTab_ : Aside0 (YtnbmplhcbliclaaGreatDoor.XText.T2 w)) (HR_ : Aside0 (r = Bool.true)) (hu25 : Program.underlying Tryz.prog (25 : Nat) = Option.some (TypeDesc.struct #[Field.mk "Length" (3 : Nat) (0 : Nat) Bool.false "" "" (0 : Nat), Field.mk "Rate" (3 : Nat) (1 : Nat) Bool.false "" "" (8 : Nat)])) (HR1 : Aside0 (Kd.C (Kd.int IntKind.u8) w A1 (List.length l1) l1)) (HC1 : Aside0 (List.length l1 ≤ c1)) (t429 t430 t431 t433 t434 : Int) (t435 : Bool) (t439 t440 : Int) (nd gb432 : Nat) (w16 : World) (GW432 GE432 : Aside0 (Array.size (World.heap w) ≤ gb432)) (hcz17_0 : World.cell? w16 (Addr.mk gb432 (0 : Nat) Option.none) = Option.some (Value.int IntKind.i64 (0 : Int))) (hcz17_1 : World.cell? w16 (Addr.mk gb432 (1 : Nat) Option.none) = Option.some (Value.int IntKind.i64 (0 : Int))) (hfz17_0 : World.frozen? w16 (Addr.mk gb432 (0 : Nat) Option.none) = Bool.false) (hfz17_1 : World.frozen? w16 (Addr.mk gb432 (1 : Nat) Option.none) = Bool.false) (w18 : World) (hcz19_0 : World.cell? w18 (Addr.mk gb432 (0 : Nat) Option.none) = Option.some (Value.int IntKind.i64 t429)) (hcz19_1 : World.cell? w18 (Addr.mk gb432 (1 : Nat) Option.none) = Option.some (Value.int IntKind.i64 t430)) (hfz19_0 : World.frozen? w18 (Addr.mk gb432 (0 : Nat) Option.none) = Bool.false) (hfz19_1 : World.frozen? w18 (Addr.mk gb432 (1 : Nat) Option.none) = Bool.false) (w20 : World) (hcz21_0 : World.cell? w20 (Addr.mk gb432 (0 : Nat) Option.none) = Option.some (Value.int IntKind.i64 t429)) (hcz21_1 : World.cell? w20 (Addr.mk gb432 (1 : Nat) Option.none) = Option.some (Value.int IntKind.i64 t430)) (hfz21_0 : World.frozen? w20 (Addr.mk gb432 (0 : Nat) Option.none) = Bool.false) (hfz21_1 : World.frozen? w20 (Addr.mk gb432 (1 : Nat) Option.none) = Bool.false) (w22 : World) (hcz23_0 : World.cell? w22 (Addr.mk gb432 (0 : Nat) Option.none) = Option.some (Value.int IntKind.i64 t429)) (hcz23_1 : World.cell? w22 (Addr.mk gb432 (1 : Nat) Option.none) = Option.some (Value.int IntKind.i64 t430)) (hfz23_0 : World.frozen? w22 (Addr.mk gb432 (0 : Nat) Option.none) = Bool.false) (hfz23_1 : World.frozen? w22 (Addr.mk gb432 (1 : Nat) Option.none) = Bool.false) (w24 : World) (hcz25_0 : World.cell? w24 (Addr.mk gb432 (0 : Nat) Option.none) = Option.some (Value.int IntKind.i64 t429)) (hcz25_1 : World.cell? w24 (Addr.mk gb432 (1 : Nat) Option.none) = Option.some (Value.int IntKind.i64 t430)) (hfz25_0 : World.frozen? w24 (Addr.mk gb432 (0 : Nat) Option.none) = Bool.false) (hfz25_1 : World.frozen? w24 (Addr.mk gb432 (1 : Nat) Option.none) = Bool.false) (w26 : World) (hcz27_0 : World.cell? w26 (Addr.mk gb432 (0 : Nat) Option.none) = Option.some (Value.int IntKind.i64 t429)) (hcz27_1 : World.cell? w26 (Addr.mk gb432 (1 : Nat) Option.none) = Option.some (Value.int IntKind.i64 t430)) (hfz27_0 : World.frozen? w26 (Addr.mk gb432 (0 : Nat) Option.none) = Bool.false) (hfz27_1 : World.frozen? w26 (Addr.mk gb432 (1 : Nat) Option.none) = Bool.false) (w28 : World) (hcz29_0 : World.cell? w28 (Addr.mk gb432 (0 : Nat) Option.none) = Option.some (Value.int IntKind.i64 t429)) (hcz29_1 : World.cell? w28 (Addr.mk gb432 (1 : Nat) Option.none) = Option.some (Value.int IntKind.i64 t430)) (hfz29_0 : World.frozen? w28 (Addr.mk gb432 (0 : Nat) Option.none) = Bool.false) (hfz29_1 : World.frozen? w28 (Addr.mk gb432 (1 : Nat) Option.none) = Bool.false) (w30 : World) (hcz31_0 : World.cell? w30 (Addr.mk gb432 (0 : Nat) Option.none) = Option.some (Value.int IntKind.i64 t429)) (hcz31_1 : World.cell? w30 (Addr.mk gb432 (1 : Nat) Option.none) = Option.some (Value.int IntKind.i64 t430)) (hfz31_0 : World.frozen? w30 (Addr.mk gb432 (0 : Nat) Option.none) = Bool.false) (hfz31_1 : World.frozen? w30 (Addr.mk gb432 (1 : Nat) Option.none) = Bool.false) (kj13 : Nat) (HJ13 : Aside0 (kj13 + (1 : Nat) ≤ k)) (u4 : Value) (kj60 : Nat) (HJ60 : Aside0 (kj60 + (1 : Nat) ≤ kj13)) (wc : World) (BK432 : Aside0 ((World.heap wc)[gb432]? = Option.some (Obj.cells #[Value.int IntKind.i64 t429, Value.int IntKind.i64 t430] (25 : TypeId)))) (HB : Aside0 (Below (Array.size (World.heap w)) w wc)) (kj72 : Nat) (HJ72 : Aside0 (kj72 + (1 : Nat) ≤ kj60)) (HC85 : Aside0 ((if t435 = Bool.true then if t431 > (0 : Int) then if t440 = (1 : Int) then if t434 = (1 : Int) then laws_FnTrainsPass.j3 kj72 l1 t431 t433 t439 (Decidable.decide (t433 ≤ (10000 : Int))) t429 t430 else laws_FnTrainsPass.j3 kj72 l1 t431 t433 t439 Bool.false t429 t430 else laws_FnTrainsPass.j3 kj72 l1 t431 t433 t439 Bool.false t429 t430 else laws_FnTrainsPass.j3 kj72 l1 t431 t433 t439 Bool.false t429 t430 else laws_FnTrainsPass.j3 kj72 l1 t431 t433 t439 Bool.false t429 t430) = Option.some r)) :
    Go.Code.wp Tryz.prog (laws_FnTrainsPass.behind 287 laws_FnTrainsPass.body) (bodyPost Tryz.prog Tryz.f3 (fun e w' => e = .returned (.bool r) ∧ Below w.heap.size w w')) (Go.Act.mk #[v0_, Value.slice A1 (List.length l1) c1, v2_, v3_, u4, Value.pointer (Option.some (Addr.mk gb432 (0 : Nat) Option.none)), Value.int IntKind.i64 t431, Value.int IntKind.i64 t433, Value.int IntKind.i64 t434, Value.bool t435, v10_, v11_, v12_, Value.int IntKind.i64 t439, Value.int IntKind.i64 t440, v15_, v16_, v17_, v18_, v19_, v20_, v21_, v22_, v23_, v24_, v25_, v26_, v27_, v28_, v29_, v30_, undef, undef, undef, undef, undef, undef, undef, undef, undef, undef, undef, undef, undef, undef, undef, undef, undef, undef, undef, undef, undef, undef, undef, undef, undef, undef, undef, undef, undef, undef, undef, undef, undef, undef, undef, undef, undef, undef, undef, undef, undef, undef, undef, undef, undef, undef, undef, undef, undef, undef, undef, undef, undef, undef, undef, undef, undef, undef, undef, v90_, v91_, v92_, v93_, v94_, v95_, v96_, v97_, v98_, v99_, v100_, v101_, v102_, v103_, v104_, v105_, v106_, v107_, v108_, v109_, v110_, v111_, v112_, v113_, v114_, v115_, v116_, v117_, v118_, v119_, v120_, v121_, v122_, v123_, v124_, v125_, v126_, v127_, v128_, v129_, v130_, v131_, v132_, v133_, v134_, v135_, v136_, v137_, v138_, v139_, v140_, v141_, v142_, v143_, v144_, v145_, v146_, v147_, v148_, v149_, v150_, v151_, v152_, v153_, v154_, v155_, v156_, v157_, v158_, v159_, v160_, v161_, v162_, v163_, v164_, v165_, v166_, v167_, v168_, v169_, v170_, v171_, v172_, v173_, v174_, v175_, v176_, v177_, v178_, v179_, v180_, v181_, v182_, v183_, v184_, v185_, v186_, v187_, v188_, v189_, v190_, v191_, v192_, v193_, v194_, v195_, v196_, v197_, v198_, v199_, v200_, v201_, v202_, v203_, v204_, v205_, v206_, v207_, v208_, v209_, v210_, v211_, v212_, v213_, v214_, v215_, v216_, v217_, v218_, v219_, v220_, v221_, v222_, v223_, v224_, v225_, v226_, v227_, v228_, v229_, v230_, v231_, v232_, v233_, v234_, v235_, v236_, v237_, v238_, v239_, v240_, v241_, v242_, v243_, v244_, v245_, v246_, v247_, v248_, v249_, v250_, v251_, v252_, v253_, v254_, v255_, v256_, v257_, v258_, v259_, v260_, v261_, v262_, v263_, v264_, v265_, v266_, v267_, v268_, v269_, v270_, v271_, v272_, v273_, v274_, v275_, v276_, v277_, v278_, v279_, v280_, v281_, v282_, v283_, v284_, v285_, v286_, v287_, undef, undef, undef, undef, undef, undef, undef, undef, undef, undef, undef, undef, undef, undef, undef, undef, undef, undef, undef, undef, undef, undef, undef, undef, undef, undef, undef, undef, undef, undef, undef, undef, undef, undef, undef, undef, undef, undef, undef, undef, undef, undef, undef, undef, undef, undef, undef, undef, undef, undef, undef, undef, undef, undef, undef, undef, undef, undef, undef, undef, undef, undef, undef, undef, undef, undef, undef, undef, undef, undef, undef, undef, undef, undef, undef, undef, undef, undef, undef, undef, undef, undef, undef, undef, undef, undef, undef, undef, undef, undef, undef, undef, undef, undef, undef, undef, undef, undef, undef, undef, undef, undef, undef, undef, undef, undef, undef, undef, undef, undef, undef, undef, undef, undef, undef, undef, undef, undef, undef, undef, undef, undef, undef, undef, undef, undef, undef, undef, undef, undef, undef, undef, undef, undef, undef, undef, undef, undef, undef, undef, undef, undef, undef, undef, undef, undef, undef, undef, undef, undef, undef, undef, undef, undef, undef, undef, undef, undef, undef, undef, undef, undef, undef, undef, undef, undef, undef, undef, undef, undef, undef, undef, undef, undef, undef, undef, undef, undef, undef, undef, undef, undef, undef, undef, undef, undef, undef, undef, undef, undef, undef, undef, undef, undef, undef, undef, undef, undef, undef, undef, undef, undef, undef, undef, undef, undef, undef, undef, undef, undef, undef, undef, undef, undef, undef, undef, undef, undef, undef, undef, undef, undef, undef, undef, undef, undef, undef, undef, undef, undef, undef, undef, undef, undef, undef, undef, undef, undef, undef, undef, undef, undef, undef, undef, undef, undef, undef, undef, undef, undef, undef, undef, undef, undef, undef, undef, undef, undef, undef, undef, undef, undef, undef, undef, undef, undef, undef, undef, undef, undef, undef, undef, undef, undef, undef, undef, undef, undef, undef, undef, undef, undef, undef, undef, undef, undef, undef, undef, undef, undef, undef, undef, undef, undef, undef, undef, undef, undef, undef, undef, undef, undef, undef, undef, undef, undef, undef, undef, undef, undef, undef, undef, undef, undef, undef, undef, undef, undef, undef, undef, undef, undef, undef, undef, undef, undef, undef, undef, undef, undef, undef, undef, undef, undef, undef, undef, undef, undef, undef, undef, undef, undef, undef, undef, undef, undef, undef, undef, undef, undef, undef, undef, undef, undef, undef, undef, undef, undef, undef, undef, undef, undef, undef, undef, undef, undef, undef, undef, undef, undef, undef, undef, undef, undef, undef, undef, undef, undef, undef, undef] []) wc := by
  conv => arg 2; whnf
  (try conv => arg 4; dsimp only)
  go_upto_region 20 with (fail)
  go_cut [304] from 100000 (fun v304 wc => ∃ (kq : Nat) (x304_84 : Bool), v304 = .bool x304_84 ∧ Aside0 (laws_FnTrainsPass.j3 kq l1 t431 t433 t439 x304_84 t429 t430 = some r) ∧ Aside0 (kq ≤ kj72) ∧ Aside0 (wc.heap[gb432]? = some (.cells #[.int .i64 t429, .int .i64 t430] 25 (0, 0))) ∧ Aside0 (Below w.heap.size w wc))
  case first =>
   (try conv => arg 2; dsimp only [List.append_eq, List.cons_append, List.nil_append])
   have H := HC85.out
   clear HC85
   by_cases c86 : t435 = true
   ·subst c86
    have H1 : (if t431 > 0 then (if t440 = 1 then (if t434 = 1 then (laws_FnTrainsPass.j3 kj72 l1 t431 t433 t439 (decide (t433 ≤ 10000)) t429 t430) else (laws_FnTrainsPass.j3 kj72 l1 t431 t433 t439 false t429 t430)) else (laws_FnTrainsPass.j3 kj72 l1 t431 t433 t439 false t429 t430)) else (laws_FnTrainsPass.j3 kj72 l1 t431 t433 t439 false t429 t430)) = some r := by rw [if_pos rfl] at H; exact H
    clear H
    have H := H1
    clear H1
    by_cases c87 : t431 > 0
    ·rw [if_pos c87] at H
     have c87b0 : decide (0 < t431) = true := decide_eq_true c87
     clear c87
     (first | rw [c87b0] | (simp only [i64_w, i32_w]; rw [c87b0]) | skip)
     by_cases c88 : t440 = 1
     ·rw [if_pos c88] at H
      have c88b0 : (t440 == 1) = true := beq_iff_eq.mpr c88
      have c88b1 : (t440 != 1) = false := bne_eq_false_iff_eq.mpr c88
      clear c88
      by_cases c89 : t434 = 1
      ·rw [if_pos c89] at H
       have c89b0 : (t434 == 1) = true := beq_iff_eq.mpr c89
       have c89b1 : (t434 != 1) = false := bne_eq_false_iff_eq.mpr c89
       clear c89
       have H' := Aside0.mk H
       clear H
       go_wp2
       go_meet
       case rel => exact ⟨_, (decide (t433 ≤ 10000)), (by first | rfl | (simp; done) | (simp [*]; done)), H', ⟨by have := HJ13.out; have := HJ60.out; have := HJ72.out; first | omega | exact Nat.le_refl _⟩, ⟨blk_to BK432⟩, ⟨below_to1 HB GE432.out⟩⟩
      ·rw [if_neg c89] at H
       have c89b0 : (t434 == 1) = false := beq_eq_false_iff_ne.mpr c89
       have c89b1 : (t434 != 1) = true := bne_iff_ne.mpr c89
       have H' := Aside0.mk H
       clear H
       go_wp2
       go_meet
       case rel => exact ⟨_, (false), (by first | rfl | (simp; done) | (simp [*]; done)), H', ⟨by have := HJ13.out; have := HJ60.out; have := HJ72.out; first | omega | exact Nat.le_refl _⟩, ⟨blk_to BK432⟩, ⟨below_to1 HB GE432.out⟩⟩
     ·rw [if_neg c88] at H
      have c88b0 : (t440 == 1) = false := beq_eq_false_iff_ne.mpr c88
      have c88b1 : (t440 != 1) = true := bne_iff_ne.mpr c88
      have H' := Aside0.mk H
      clear H
      go_wp2
      go_meet
      case rel => exact ⟨_, (false), (by first | rfl | (simp; done) | (simp [*]; done)), H', ⟨by have := HJ13.out; have := HJ60.out; have := HJ72.out; first | omega | exact Nat.le_refl _⟩, ⟨blk_to BK432⟩, ⟨below_to1 HB GE432.out⟩⟩
    ·rw [if_neg c87] at H
     have c87b0 : decide (0 < t431) = false := decide_eq_false c87
     clear c87
     (first | rw [c87b0] | (simp only [i64_w, i32_w]; rw [c87b0]) | skip)
     have H' := Aside0.mk H
     clear H
     go_wp2
     go_meet
     case rel => exact ⟨_, (false), (by first | rfl | (simp; done) | (simp [*]; done)), H', ⟨by have := HJ13.out; have := HJ60.out; have := HJ72.out; first | omega | exact Nat.le_refl _⟩, ⟨blk_to BK432⟩, ⟨below_to1 HB GE432.out⟩⟩
   ·replace c86 := Bool.eq_false_iff.mpr c86
    subst c86
    have H1 : (laws_FnTrainsPass.j3 kj72 l1 t431 t433 t439 false t429 t430) = some r := by rw [if_neg (show ¬ (false = true) by decide)] at H; exact H
    clear H
    have H := H1
    clear H1
    have H' := Aside0.mk H
    clear H
    go_wp2
    go_meet
    case rel => exact ⟨_, (false), (by first | rfl | (simp; done) | (simp [*]; done)), H', ⟨by have := HJ13.out; have := HJ60.out; have := HJ72.out; first | omega | exact Nat.le_refl _⟩, ⟨blk_to BK432⟩, ⟨below_to1 HB GE432.out⟩⟩
  case rest =>
   clear HC85
   (try clear c1); (try clear c86); (try clear c87); (try clear c87b0); (try clear c88); (try clear c88b0); (try clear c88b1); (try clear c89); (try clear c89b0); (try clear c89b1)
   obtain ⟨kq, x304_84, rfl, HA, HJ84, BK432, HB⟩ := hcut
   cases kq with
   | zero => exact absurd HA.out (by simp [laws_FnTrainsPass.j3])
   | succ kj84 =>
    have H := HA.out
    clear HA
    simp only [laws_FnTrainsPass.j3] at H
    have HC90 := Aside0.mk H
    clear H
    go_upto_if 304 with (fail)
    go_cut [] from 100000 (fun wc => ∃ (kq : Nat), Aside0 (laws_FnTrainsPass.j4 kq l1 = some r) ∧ Aside0 (kq ≤ kj84) ∧ Aside0 (wc.heap[gb432]? = some (.cells #[.int .i64 t429, .int .i64 t430] 25 (0, 0))) ∧ Aside0 (Below w.heap.size w wc))
    case first =>
     (try conv => arg 2; dsimp only [List.append_eq, List.cons_append, List.nil_append])
     have H := HC90.out
     clear HC90
     by_cases c91 : x304_84 = true
     ·subst c91
      have H1 : ((impl_TrainFromTimes.f kj84 t431 t439 t433).bind fun bt466 => (if bt466.2.2.2.2 = true then (if bt466.1 = t429 then (if bt466.2.1 = 1 then (if bt466.2.2.1 = t430 then (if bt466.2.2.2.1 = 1 then (laws_FnTrainsPass.j4 kj84 l1) else (some false)) else (some false)) else (some false)) else (some false)) else (some false))) = some r := by rw [if_pos rfl] at H; exact H
      clear H
      have H := H1
      clear H1
      replace H := Option.bind_eq_some_iff.mp H
      obtain ⟨⟨t466, t467, t468, t469, t470⟩, A920, H⟩ := H
      replace H : (if t470 = true then (if t466 = t429 then (if t467 = 1 then (if t468 = t430 then (if t469 = 1 then (laws_FnTrainsPass.j4 kj84 l1) else (some false)) else (some false)) else (some false)) else (some false)) else (some false)) = some r := H
      have A92 := Aside0.mk A920
      clear A920
      by_cases c93 : t470 = true
      ·subst c93
       have H1 : (if t466 = t429 then (if t467 = 1 then (if t468 = t430 then (if t469 = 1 then (laws_FnTrainsPass.j4 kj84 l1) else (some false)) else (some false)) else (some false)) else (some false)) = some r := by rw [if_pos rfl] at H; exact H
       clear H
       have H := H1
       clear H1
       by_cases c94 : t466 = t429
       ·rw [if_pos c94] at H
        have c94b0 : (t466 == t429) = true := beq_iff_eq.mpr c94
        have c94b1 : (t466 != t429) = false := bne_eq_false_iff_eq.mpr c94
        clear c94
        (first | rw [c94b0] | (simp only [i64_w, i32_w]; rw [c94b0]) | skip)
        by_cases c95 : t467 = 1
        ·rw [if_pos c95] at H
         have c95b0 : (t467 == 1) = true := beq_iff_eq.mpr c95
         have c95b1 : (t467 != 1) = false := bne_eq_false_iff_eq.mpr c95
         clear c95
         by_cases c96 : t468 = t430
         ·rw [if_pos c96] at H
          have c96b0 : (t468 == t430) = true := beq_iff_eq.mpr c96
          have c96b1 : (t468 != t430) = false := bne_eq_false_iff_eq.mpr c96
          clear c96
          by_cases c97 : t469 = 1
          ·rw [if_pos c97] at H
           have c97b0 : (t469 == 1) = true := beq_iff_eq.mpr c97
           have c97b1 : (t469 != 1) = false := bne_eq_false_iff_eq.mpr c97
           clear c97
           have H' := Aside0.mk H
           clear H
           go_wp2_with (first | ((with_reducible refine gate_callee (f := 18) rfl ?_); refine goesL_ (some 309) rfl rfl Tryz.func18 (by kernel_rfl) rfl #[.int .i64 t431, .int .i64 t439, .int .i64 t433] rfl am_ ?_; (with_reducible refine (impl_TrainFromTimes.calls kj84 t431 t439 t433 t466 t467 t468 t469 true _ A92.out).mono ?_); rintro e w98 ⟨rfl, hb⟩; refine ⟨_, rfl, ?_⟩; replace BK432 := Aside0.mk (blk_below (blk_to BK432) hb); replace HB := Aside0.mk (below_step (below_to1 HB GE432.out) hb); (try clear hb); have hcz99_0 : w98.cell? ⟨gb432, 0, none⟩ = some (.int .i64 t429) := (blk_cell BK432.out 0).trans rfl; have hcz99_1 : w98.cell? ⟨gb432, 1, none⟩ = some (.int .i64 t430) := (blk_cell BK432.out 1).trans rfl; have hfz99_0 := blk_frozen BK432.out 0; have hfz99_1 := blk_frozen BK432.out 1))
           go_meet
           case rel => exact ⟨_, H', ⟨by have := HJ13.out; have := HJ60.out; have := HJ72.out; have := HJ84.out; first | omega | exact Nat.le_refl _⟩, ⟨blk_to BK432⟩, ⟨below_to1 HB GE432.out⟩⟩
          ·rw [if_neg c97] at H
           have c97b0 : (t469 == 1) = false := beq_eq_false_iff_ne.mpr c97
           have c97b1 : (t469 != 1) = true := bne_iff_ne.mpr c97
           exact absurd (Option.some.inj H).symm (by rw [HR_.out]; decide)
         ·rw [if_neg c96] at H
          have c96b0 : (t468 == t430) = false := beq_eq_false_iff_ne.mpr c96
          have c96b1 : (t468 != t430) = true := bne_iff_ne.mpr c96
          exact absurd (Option.some.inj H).symm (by rw [HR_.out]; decide)
        ·rw [if_neg c95] at H
         have c95b0 : (t467 == 1) = false := beq_eq_false_iff_ne.mpr c95
         have c95b1 : (t467 != 1) = true := bne_iff_ne.mpr c95
         exact absurd (Option.some.inj H).symm (by rw [HR_.out]; decide)
       ·rw [if_neg c94] at H
        have c94b0 : (t466 == t429) = false := beq_eq_false_iff_ne.mpr c94
        have c94b1 : (t466 != t429) = true := bne_iff_ne.mpr c94
        (first | rw [c94b0] | (simp only [i64_w, i32_w]; rw [c94b0]) | skip)
        exact absurd (Option.some.inj H).symm (by rw [HR_.out]; decide)
      ·replace c93 := Bool.eq_false_iff.mpr c93
       subst c93
       have H1 : (some false) = some r := by rw [if_neg (show ¬ (false = true) by decide)] at H; exact H
       clear H
       have H := H1
       clear H1
       exact absurd (Option.some.inj H).symm (by rw [HR_.out]; decide)
     ·replace c91 := Bool.eq_false_iff.mpr c91
      subst c91
      have H1 : (laws_FnTrainsPass.j4 kj84 l1) = some r := by rw [if_neg (show ¬ (false = true) by decide)] at H; exact H
      clear H
      have H := H1
      clear H1
      have H' := Aside0.mk H
      clear H
      go_wp2
      go_meet
      case rel => exact ⟨_, H', ⟨by have := HJ13.out; have := HJ60.out; have := HJ72.out; have := HJ84.out; first | omega | exact Nat.le_refl _⟩, ⟨blk_to BK432⟩, ⟨below_to1 HB GE432.out⟩⟩
    case rest =>
     clear HC90
     (try clear c1); (try clear c86); (try clear c87); (try clear c87b0); (try clear c88); (try clear c88b0); (try clear c88b1); (try clear c89); (try clear c89b0); (try clear c89b1); (try clear c91); (try clear c93); (try clear c94); (try clear c94b0); (try clear c94b1); (try clear c95); (try clear c95b0); (try clear c95b1); (try clear c96); (try clear c96b0); (try clear c96b1); (try clear c97); (try clear c97b0); (try clear c97b1); (try clear hcz99_0); (try clear hcz99_1); (try clear hfz99_0); (try clear hfz99_1)
     obtain ⟨kq, HA, HJ89, BK432, HB⟩ := hcut
     go_step
     exact laws_FnTrainsPass.seg3 k A1 c1 l1 r w HTab_ HR_ hu25 HR1 HC1 t429 t430 nd gb432 w16 GW432 GE432 hcz17_0 hcz17_1 hfz17_0 hfz17_1 w18 hcz19_0 hcz19_1 hfz19_0 hfz19_1 w20 hcz21_0 hcz21_1 hfz21_0 hfz21_1 w22 hcz23_0 hcz23_1 hfz23_0 hfz23_1 w24 hcz25_0 hcz25_1 hfz25_0 hfz25_1 w26 hcz27_0 hcz27_1 hfz27_0 hfz27_1 w28 hcz29_0 hcz29_1 hfz29_0 hfz29_1 w30 hcz31_0 hcz31_1 hfz31_0 hfz31_1 kj13 HJ13 kj60 HJ60 kj72 HJ72 kj84 HJ84 wc u4 kq HA HJ89 BK432 HB
end Go.Proofs.YtnbmplhcbliclaaGreatDoor.QT
