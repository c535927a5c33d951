-- WRITTEN BY a program of this session (wip/xprint.py, over the kit's print): Lean checks it.
import Derived.Test.YtnbmplhcbliclaaGreatDoorQTx11d
import Derived.Test.YtnbmplhcbliclaaGreatDoorQTx11s2
namespace Go.Proofs.YtnbmplhcbliclaaGreatDoor.QT
open Go.Proofs.YtnbmplhcbliclaaGreatDoor.X Go.RowKit Go.Proofs.YtnbmplhcbliclaaGreatDoorW.PrintWords Go.Proofs.YtnbmplhcbliclaaGreatDoorW.PrintLast Go.Proofs.YtnbmplhcbliclaaGreatDoorW.PrintMore
attribute [local go_sem] max2_int min2_int max_two min_two max_three min_three max_four min_four   -- for this text's walks alone
set_option linter.unusedVariables false
set_option linter.unusedSimpArgs false

attribute [local go_sem high] eqA25
set_option maxHeartbeats 16000000 in
set_option maxRecDepth 1000000 in
theorem laws_FnTrainsPass.seg1 {v0_ v2_ v3_ v10_ v11_ v12_ v15_ v16_ v17_ v18_ v22_ v23_ v24_ v25_ v26_ v27_ v28_ v29_ v30_ v90_ v91_ v92_ v93_ v94_ v95_ v96_ v97_ v98_ v99_ v100_ v101_ v102_ v103_ v104_ v105_ v106_ v107_ v108_ v109_ v110_ v111_ v112_ v113_ v114_ v115_ v116_ v117_ v118_ v119_ v120_ v121_ v122_ v123_ v124_ v125_ v126_ v127_ v128_ v129_ v130_ v131_ v132_ v133_ v134_ v135_ v136_ v137_ v138_ v139_ v140_ v141_ v142_ v143_ v144_ v145_ v146_ v147_ v148_ v149_ v150_ v151_ v152_ v153_ v154_ v155_ v156_ v157_ v158_ v159_ v160_ v161_ v162_ v163_ v164_ v165_ v166_ v167_ v168_ v169_ v170_ v171_ v172_ v173_ v174_ v175_ v176_ v177_ v178_ v179_ v180_ v181_ v182_ v183_ v184_ v185_ v186_ v187_ v188_ v189_ v190_ v191_ v192_ v193_ v194_ v195_ v196_ v197_ v198_ v199_ v200_ v201_ v202_ v203_ v204_ v205_ v206_ v207_ v208_ v209_ v210_ v211_ v212_ v213_ v214_ v215_ v216_ v217_ v218_ v219_ v220_ v221_ v222_ v223_ v224_ v225_ v226_ v227_ v228_ v229_ v230_ v231_ v232_ v233_ v234_ v235_ v236_ v237_ v238_ v239_ v240_ v241_ v242_ v243_ v244_ v245_ v246_ v247_ v248_ v249_ v250_ v251_ v252_ v253_ v254_ v255_ v256_ v257_ v258_ v259_ : Go.Value} (k : Nat) (A1 : Option Addr) (c1 : Nat) (l1 : List Int) (r : Bool) (w : World) (HTab_ : Aside0 (YtnbmplhcbliclaaGreatDoor.XText.T2 w)) (HR_ : Aside0 (r = Bool.true)) (hu25 : Program.underlying Tryz.prog (25 : Nat) = Option.some (TypeDesc.struct #[Field.mk "Length" (3 : Nat) (0 : Nat) Bool.false "" "" (0 : Nat), Field.mk "Rate" (3 : Nat) (1 : Nat) Bool.false "" "" (8 : Nat)])) (HR1 : Aside0 (Kd.C (Kd.int IntKind.u8) w A1 (List.length l1) l1)) (HC1 : Aside0 (List.length l1 ≤ c1)) (t429 t430 t431 : Int) (t433 t434 : Int) (t435 : Bool) (t439 t440 : Int) (t445 t446 : Int) (t447 : Bool) (nd : Nat) (gb432 : Nat) (w16 : World) (GW432 GE432 : Aside0 (Array.size (World.heap w) ≤ gb432)) (hcz17_0 : World.cell? w16 (Addr.mk gb432 (0 : Nat) Option.none) = Option.some (Value.int IntKind.i64 (0 : Int))) (hcz17_1 : World.cell? w16 (Addr.mk gb432 (1 : Nat) Option.none) = Option.some (Value.int IntKind.i64 (0 : Int))) (hfz17_0 : World.frozen? w16 (Addr.mk gb432 (0 : Nat) Option.none) = Bool.false) (hfz17_1 : World.frozen? w16 (Addr.mk gb432 (1 : Nat) Option.none) = Bool.false) (w18 : World) (hcz19_0 : World.cell? w18 (Addr.mk gb432 (0 : Nat) Option.none) = Option.some (Value.int IntKind.i64 t429)) (hcz19_1 : World.cell? w18 (Addr.mk gb432 (1 : Nat) Option.none) = Option.some (Value.int IntKind.i64 t430)) (hfz19_0 : World.frozen? w18 (Addr.mk gb432 (0 : Nat) Option.none) = Bool.false) (hfz19_1 : World.frozen? w18 (Addr.mk gb432 (1 : Nat) Option.none) = Bool.false) (w20 : World) (hcz21_0 : World.cell? w20 (Addr.mk gb432 (0 : Nat) Option.none) = Option.some (Value.int IntKind.i64 t429)) (hcz21_1 : World.cell? w20 (Addr.mk gb432 (1 : Nat) Option.none) = Option.some (Value.int IntKind.i64 t430)) (hfz21_0 : World.frozen? w20 (Addr.mk gb432 (0 : Nat) Option.none) = Bool.false) (hfz21_1 : World.frozen? w20 (Addr.mk gb432 (1 : Nat) Option.none) = Bool.false) (w22 : World) (hcz23_0 : World.cell? w22 (Addr.mk gb432 (0 : Nat) Option.none) = Option.some (Value.int IntKind.i64 t429)) (hcz23_1 : World.cell? w22 (Addr.mk gb432 (1 : Nat) Option.none) = Option.some (Value.int IntKind.i64 t430)) (hfz23_0 : World.frozen? w22 (Addr.mk gb432 (0 : Nat) Option.none) = Bool.false) (hfz23_1 : World.frozen? w22 (Addr.mk gb432 (1 : Nat) Option.none) = Bool.false) (w24 : World) (hcz25_0 : World.cell? w24 (Addr.mk gb432 (0 : Nat) Option.none) = Option.some (Value.int IntKind.i64 t429)) (hcz25_1 : World.cell? w24 (Addr.mk gb432 (1 : Nat) Option.none) = Option.some (Value.int IntKind.i64 t430)) (hfz25_0 : World.frozen? w24 (Addr.mk gb432 (0 : Nat) Option.none) = Bool.false) (hfz25_1 : World.frozen? w24 (Addr.mk gb432 (1 : Nat) Option.none) = Bool.false) (w26 : World) (hcz27_0 : World.cell? w26 (Addr.mk gb432 (0 : Nat) Option.none) = Option.some (Value.int IntKind.i64 t429)) (hcz27_1 : World.cell? w26 (Addr.mk gb432 (1 : Nat) Option.none) = Option.some (Value.int IntKind.i64 t430)) (hfz27_0 : World.frozen? w26 (Addr.mk gb432 (0 : Nat) Option.none) = Bool.false) (hfz27_1 : World.frozen? w26 (Addr.mk gb432 (1 : Nat) Option.none) = Bool.false) (w28 : World) (hcz29_0 : World.cell? w28 (Addr.mk gb432 (0 : Nat) Option.none) = Option.some (Value.int IntKind.i64 t429)) (hcz29_1 : World.cell? w28 (Addr.mk gb432 (1 : Nat) Option.none) = Option.some (Value.int IntKind.i64 t430)) (hfz29_0 : World.frozen? w28 (Addr.mk gb432 (0 : Nat) Option.none) = Bool.false) (hfz29_1 : World.frozen? w28 (Addr.mk gb432 (1 : Nat) Option.none) = Bool.false) (w30 : World) (hcz31_0 : World.cell? w30 (Addr.mk gb432 (0 : Nat) Option.none) = Option.some (Value.int IntKind.i64 t429)) (hcz31_1 : World.cell? w30 (Addr.mk gb432 (1 : Nat) Option.none) = Option.some (Value.int IntKind.i64 t430)) (hfz31_0 : World.frozen? w30 (Addr.mk gb432 (0 : Nat) Option.none) = Bool.false) (hfz31_1 : World.frozen? w30 (Addr.mk gb432 (1 : Nat) Option.none) = Bool.false) (kj13 : Nat) (HJ13 : Aside0 (kj13 + (1 : Nat) ≤ k)) (wc : World) (u4 : Value) (kq : Nat) (HA : Aside0 (laws_FnTrainsPass.j1 kq l1 t431 t433 t434 t435 t439 t440 t445 t446 t447 t429 t430 = Option.some r)) (HJ60 : Aside0 (kq ≤ kj13)) (BK432 : Aside0 ((World.heap wc)[gb432]? = Option.some (Obj.cells #[Value.int IntKind.i64 t429, Value.int IntKind.i64 t430] (25 : TypeId)))) (HB : Aside0 (Below (Array.size (World.heap w)) w wc)) :
    Go.Code.wp Tryz.prog (laws_FnTrainsPass.behind 237 laws_FnTrainsPass.body) (bodyPost Tryz.prog Tryz.f3 (fun e w' => e = .returned (.bool r) ∧ Below w.heap.size w w')) (Go.Act.mk #[v0_, Value.slice A1 (List.length l1) c1, v2_, v3_, u4, Value.pointer (Option.some (Addr.mk gb432 (0 : Nat) Option.none)), Value.int IntKind.i64 t431, Value.int IntKind.i64 t433, Value.int IntKind.i64 t434, Value.bool t435, v10_, v11_, v12_, Value.int IntKind.i64 t439, Value.int IntKind.i64 t440, v15_, v16_, v17_, v18_, Value.int IntKind.i64 t445, Value.int IntKind.i64 t446, Value.bool t447, v22_, v23_, v24_, v25_, v26_, v27_, v28_, v29_, v30_, undef, undef, undef, undef, undef, undef, undef, undef, undef, undef, undef, undef, undef, undef, undef, undef, undef, undef, undef, undef, undef, undef, undef, undef, undef, undef, undef, undef, undef, undef, undef, undef, undef, undef, undef, undef, undef, undef, undef, undef, undef, undef, undef, undef, undef, undef, undef, undef, undef, undef, undef, undef, undef, undef, undef, undef, undef, undef, undef, v90_, v91_, v92_, v93_, v94_, v95_, v96_, v97_, v98_, v99_, v100_, v101_, v102_, v103_, v104_, v105_, v106_, v107_, v108_, v109_, v110_, v111_, v112_, v113_, v114_, v115_, v116_, v117_, v118_, v119_, v120_, v121_, v122_, v123_, v124_, v125_, v126_, v127_, v128_, v129_, v130_, v131_, v132_, v133_, v134_, v135_, v136_, v137_, v138_, v139_, v140_, v141_, v142_, v143_, v144_, v145_, v146_, v147_, v148_, v149_, v150_, v151_, v152_, v153_, v154_, v155_, v156_, v157_, v158_, v159_, v160_, v161_, v162_, v163_, v164_, v165_, v166_, v167_, v168_, v169_, v170_, v171_, v172_, v173_, v174_, v175_, v176_, v177_, v178_, v179_, v180_, v181_, v182_, v183_, v184_, v185_, v186_, v187_, v188_, v189_, v190_, v191_, v192_, v193_, v194_, v195_, v196_, v197_, v198_, v199_, v200_, v201_, v202_, v203_, v204_, v205_, v206_, v207_, v208_, v209_, v210_, v211_, v212_, v213_, v214_, v215_, v216_, v217_, v218_, v219_, v220_, v221_, v222_, v223_, v224_, v225_, v226_, v227_, v228_, v229_, v230_, v231_, v232_, v233_, v234_, v235_, v236_, v237_, v238_, v239_, v240_, v241_, v242_, v243_, v244_, v245_, v246_, v247_, v248_, v249_, v250_, v251_, v252_, v253_, v254_, v255_, v256_, v257_, v258_, v259_, undef, undef, undef, undef, undef, undef, undef, undef, undef, undef, undef, undef, undef, undef, undef, undef, undef, undef, undef, undef, undef, undef, undef, undef, undef, undef, undef, undef, undef, undef, undef, undef, undef, undef, undef, undef, undef, undef, undef, undef, undef, undef, undef, undef, undef, undef, undef, undef, undef, undef, undef, undef, undef, undef, undef, undef, undef, undef, undef, undef, undef, undef, undef, undef, undef, undef, undef, undef, undef, undef, undef, undef, undef, undef, undef, undef, undef, undef, undef, undef, undef, undef, undef, undef, undef, undef, undef, undef, undef, undef, undef, undef, undef, undef, undef, undef, undef, undef, undef, undef, undef, undef, undef, undef, undef, undef, undef, undef, undef, undef, undef, undef, undef, undef, undef, undef, undef, undef, undef, undef, undef, undef, undef, undef, undef, undef, undef, undef, undef, undef, undef, undef, undef, undef, undef, undef, undef, undef, undef, undef, undef, undef, undef, undef, undef, undef, undef, undef, undef, undef, undef, undef, undef, undef, undef, undef, undef, undef, undef, undef, undef, undef, undef, undef, undef, undef, undef, undef, undef, undef, undef, undef, undef, undef, undef, undef, undef, undef, undef, undef, undef, undef, undef, undef, undef, undef, undef, undef, undef, undef, undef, undef, undef, undef, undef, undef, undef, undef, undef, undef, undef, undef, undef, undef, undef, undef, undef, undef, undef, undef, undef, undef, undef, undef, undef, undef, undef, undef, undef, undef, undef, undef, undef, undef, undef, undef, undef, undef, undef, undef, undef, undef, undef, undef, undef, undef, undef, undef, undef, undef, undef, undef, undef, undef, undef, undef, undef, undef, undef, undef, undef, undef, undef, undef, undef, undef, undef, undef, undef, undef, undef, undef, undef, undef, undef, undef, undef, undef, undef, undef, undef, undef, undef, undef, undef, undef, undef, undef, undef, undef, undef, undef, undef, undef, undef, undef, undef, undef, undef, undef, undef, undef, undef, undef, undef, undef, undef, undef, undef, undef, undef, undef, undef, undef, undef, undef, undef, undef, undef, undef, undef, undef, undef, undef, undef, undef, undef, undef, undef, undef, undef, undef, undef, undef, undef, undef, undef, undef, undef, undef, undef, undef, undef, undef, undef, undef, undef, undef, undef, undef, undef, undef, undef, undef, undef, undef, undef, undef, undef, undef, undef, undef, undef, undef, undef, undef, undef, undef, undef, undef, undef, undef, undef, undef, undef, undef, undef, undef, undef, undef, undef, undef, undef, undef, undef, undef, undef, undef, undef, undef, undef, undef, undef, undef, undef, undef, undef, undef, undef, undef, undef, undef, undef, undef, undef, undef, undef, undef, undef, undef, undef, undef, undef, undef, undef, undef, undef, undef] []) wc := by
  conv => arg 2; whnf
  (try conv => arg 4; dsimp only)
  cases kq with
  | zero => exact absurd HA.out (by simp [laws_FnTrainsPass.j1])
  | succ kj60 =>
   have H := HA.out
   clear HA
   simp only [laws_FnTrainsPass.j1] at H
   have HC73 := Aside0.mk H
   clear H
   go_upto_region 18 with (fail)
   go_cut [287] from 100000 (fun v287 wc => ∃ (kq : Nat) (x287_72 : Bool), v287 = .bool x287_72 ∧ Aside0 (laws_FnTrainsPass.j2 kq l1 t431 t433 t434 t435 t439 t440 x287_72 t429 t430 = some r) ∧ Aside0 (kq ≤ kj60) ∧ Aside0 (wc.heap[gb432]? = some (.cells #[.int .i64 t429, .int .i64 t430] 25 (0, 0))) ∧ Aside0 (Below w.heap.size w wc))
   case first =>
    (try conv => arg 2; dsimp only [List.append_eq, List.cons_append, List.nil_append])
    have H := HC73.out
    clear HC73
    by_cases c74 : t435 = true
    ·subst c74
     have H1 : ((laws_qIs.f kj60 t433 t434 (wrap64 (t429 + t431)) t430).bind fun t463 => (if t463 = true then (if t447 = true then ((laws_qIs.f kj60 t445 t446 (wrap64 (t431 - t429)) t430).bind fun t464 => (laws_FnTrainsPass.j2 kj60 l1 t431 t433 t434 true t439 t440 (!t464) t429 t430)) else (laws_FnTrainsPass.j2 kj60 l1 t431 t433 t434 true t439 t440 false t429 t430)) else (laws_FnTrainsPass.j2 kj60 l1 t431 t433 t434 true t439 t440 true t429 t430))) = some r := by rw [if_pos rfl] at H; exact H
     clear H
     have H := H1
     clear H1
     replace H := Option.bind_eq_some_iff.mp H
     obtain ⟨t463, A750, H⟩ := H
     (try dsimp only at H)
     have A75 := Aside0.mk A750
     clear A750
     by_cases c76 : t463 = true
     ·subst c76
      have H1 : (if t447 = true then ((laws_qIs.f kj60 t445 t446 (wrap64 (t431 - t429)) t430).bind fun t464 => (laws_FnTrainsPass.j2 kj60 l1 t431 t433 t434 true t439 t440 (!t464) t429 t430)) else (laws_FnTrainsPass.j2 kj60 l1 t431 t433 t434 true t439 t440 false t429 t430)) = some r := by rw [if_pos rfl] at H; exact H
      clear H
      have H := H1
      clear H1
      by_cases c77 : t447 = true
      ·subst c77
       have H1 : ((laws_qIs.f kj60 t445 t446 (wrap64 (t431 - t429)) t430).bind fun t464 => (laws_FnTrainsPass.j2 kj60 l1 t431 t433 t434 true t439 t440 (!t464) t429 t430)) = some r := by rw [if_pos rfl] at H; exact H
       clear H
       have H := H1
       clear H1
       replace H := Option.bind_eq_some_iff.mp H
       obtain ⟨t464, A780, H⟩ := H
       replace H : (laws_FnTrainsPass.j2 kj60 l1 t431 t433 t434 true t439 t440 (!t464) t429 t430) = some r := H
       have A78 := Aside0.mk A780
       clear A780
       have H' := Aside0.mk H
       clear H
       have hcz79_0 : wc.cell? ⟨gb432, 0, none⟩ = some (.int .i64 t429) := (blk_cell BK432.out 0).trans rfl
       have hcz79_1 : wc.cell? ⟨gb432, 1, none⟩ = some (.int .i64 t430) := (blk_cell BK432.out 1).trans rfl
       have hfz79_0 := blk_frozen BK432.out 0
       have hfz79_1 := blk_frozen BK432.out 1
       go_wp2_with (first | (go_at_call 17; (with_reducible refine (laws_qIs.calls kj60 t433 t434 (wrap64 (t429 + t431)) t430 true _ A75.out).mono ?_); rintro e w' ⟨rfl, ⟨nd, rfl⟩⟩) | (go_at_call 17; (with_reducible refine (laws_qIs.calls kj60 t445 t446 (wrap64 (t431 - t429)) t430 t464 _ A78.out).mono ?_); rintro e w' ⟨rfl, ⟨nd, rfl⟩⟩))
       go_meet
       case rel => exact ⟨_, (!t464), (by first | rfl | (simp; done) | (simp [*]; done)), H', ⟨by have := HJ13.out; have := HJ60.out; first | omega | exact Nat.le_refl _⟩, ⟨blk_to BK432⟩, ⟨below_to1 HB GE432.out⟩⟩
      ·replace c77 := Bool.eq_false_iff.mpr c77
       subst c77
       have H1 : (laws_FnTrainsPass.j2 kj60 l1 t431 t433 t434 true t439 t440 false t429 t430) = some r := by rw [if_neg (show ¬ (false = true) by decide)] at H; exact H
       clear H
       have H := H1
       clear H1
       have H' := Aside0.mk H
       clear H
       have hcz80_0 : wc.cell? ⟨gb432, 0, none⟩ = some (.int .i64 t429) := (blk_cell BK432.out 0).trans rfl
       have hcz80_1 : wc.cell? ⟨gb432, 1, none⟩ = some (.int .i64 t430) := (blk_cell BK432.out 1).trans rfl
       have hfz80_0 := blk_frozen BK432.out 0
       have hfz80_1 := blk_frozen BK432.out 1
       go_wp2_with (first | (go_at_call 17; (with_reducible refine (laws_qIs.calls kj60 t433 t434 (wrap64 (t429 + t431)) t430 true _ A75.out).mono ?_); rintro e w' ⟨rfl, ⟨nd, rfl⟩⟩))
       go_meet
       case rel => exact ⟨_, (false), (by first | rfl | (simp; done) | (simp [*]; done)), H', ⟨by have := HJ13.out; have := HJ60.out; first | omega | exact Nat.le_refl _⟩, ⟨blk_to BK432⟩, ⟨below_to1 HB GE432.out⟩⟩
     ·replace c76 := Bool.eq_false_iff.mpr c76
      subst c76
      have H1 : (laws_FnTrainsPass.j2 kj60 l1 t431 t433 t434 true t439 t440 true t429 t430) = some r := by rw [if_neg (show ¬ (false = true) by decide)] at H; exact H
      clear H
      have H := H1
      clear H1
      exact absurd H (by rw [HR_.out]; cases kj60 <;> simp [laws_FnTrainsPass.j2])
    ·replace c74 := Bool.eq_false_iff.mpr c74
     subst c74
     have H1 : (if t447 = true then ((laws_qIs.f kj60 t445 t446 (wrap64 (t431 - t429)) t430).bind fun t465 => (laws_FnTrainsPass.j2 kj60 l1 t431 t433 t434 false t439 t440 (!t465) t429 t430)) else (laws_FnTrainsPass.j2 kj60 l1 t431 t433 t434 false t439 t440 false t429 t430)) = some r := by rw [if_neg (show ¬ (false = true) by decide)] at H; exact H
     clear H
     have H := H1
     clear H1
     by_cases c81 : t447 = true
     ·subst c81
      have H1 : ((laws_qIs.f kj60 t445 t446 (wrap64 (t431 - t429)) t430).bind fun t465 => (laws_FnTrainsPass.j2 kj60 l1 t431 t433 t434 false t439 t440 (!t465) t429 t430)) = some r := by rw [if_pos rfl] at H; exact H
      clear H
      have H := H1
      clear H1
      replace H := Option.bind_eq_some_iff.mp H
      obtain ⟨t465, A820, H⟩ := H
      replace H : (laws_FnTrainsPass.j2 kj60 l1 t431 t433 t434 false t439 t440 (!t465) t429 t430) = some r := H
      have A82 := Aside0.mk A820
      clear A820
      have H' := Aside0.mk H
      clear H
      have hcz83_0 : wc.cell? ⟨gb432, 0, none⟩ = some (.int .i64 t429) := (blk_cell BK432.out 0).trans rfl
      have hcz83_1 : wc.cell? ⟨gb432, 1, none⟩ = some (.int .i64 t430) := (blk_cell BK432.out 1).trans rfl
      have hfz83_0 := blk_frozen BK432.out 0
      have hfz83_1 := blk_frozen BK432.out 1
      go_wp2_with (first | (go_at_call 17; (with_reducible refine (laws_qIs.calls kj60 t445 t446 (wrap64 (t431 - t429)) t430 t465 _ A82.out).mono ?_); rintro e w' ⟨rfl, ⟨nd, rfl⟩⟩))
      go_meet
      case rel => exact ⟨_, (!t465), (by first | rfl | (simp; done) | (simp [*]; done)), H', ⟨by have := HJ13.out; have := HJ60.out; first | omega | exact Nat.le_refl _⟩, ⟨blk_to BK432⟩, ⟨below_to1 HB GE432.out⟩⟩
     ·replace c81 := Bool.eq_false_iff.mpr c81
      subst c81
      have H1 : (laws_FnTrainsPass.j2 kj60 l1 t431 t433 t434 false t439 t440 false t429 t430) = some r := by rw [if_neg (show ¬ (false = true) by decide)] at H; exact H
      clear H
      have H := H1
      clear H1
      have H' := Aside0.mk H
      clear H
      go_wp2
      go_meet
      case rel => exact ⟨_, (false), (by first | rfl | (simp; done) | (simp [*]; done)), H', ⟨by have := HJ13.out; have := HJ60.out; first | omega | exact Nat.le_refl _⟩, ⟨blk_to BK432⟩, ⟨below_to1 HB GE432.out⟩⟩
   case rest =>
    clear HC73
    (try clear c1); (try clear c74); (try clear c76); (try clear c77); (try clear c81); (try clear hcz79_0); (try clear hcz79_1); (try clear hcz80_0); (try clear hcz80_1); (try clear hcz83_0); (try clear hcz83_1); (try clear hfz79_0); (try clear hfz79_1); (try clear hfz80_0); (try clear hfz80_1); (try clear hfz83_0); (try clear hfz83_1)
    obtain ⟨kq, x287_72, rfl, HA, HJ72, BK432, HB⟩ := hcut
    cases kq with
    | zero => exact absurd HA.out (by simp [laws_FnTrainsPass.j2])
    | succ kj72 =>
     have H := HA.out
     clear HA
     simp only [laws_FnTrainsPass.j2] at H
     by_cases c84 : x287_72 = true
     ·subst c84
      have H1 : (some false) = some r := by rw [if_pos rfl] at H; exact H
      clear H
      have H := H1
      clear H1
      exact absurd (Option.some.inj H).symm (by rw [HR_.out]; decide)
     ·replace c84 := Bool.eq_false_iff.mpr c84
      subst c84
      have H1 : (if t435 = true then (if t431 > 0 then (if t440 = 1 then (if t434 = 1 then (laws_FnTrainsPass.j3 kj72 l1 t431 t433 t439 (decide (t433 ≤ 10000)) t429 t430) else (laws_FnTrainsPass.j3 kj72 l1 t431 t433 t439 false t429 t430)) else (laws_FnTrainsPass.j3 kj72 l1 t431 t433 t439 false t429 t430)) else (laws_FnTrainsPass.j3 kj72 l1 t431 t433 t439 false t429 t430)) else (laws_FnTrainsPass.j3 kj72 l1 t431 t433 t439 false t429 t430)) = some r := by rw [if_neg (show ¬ (false = true) by decide)] at H; exact H
      clear H
      have H := H1
      clear H1
      have HC85 := Aside0.mk H
      clear H
      go_step
      go_step
      go_step
      go_step
      go_step
      exact laws_FnTrainsPass.seg2 k A1 c1 l1 r w HTab_ HR_ hu25 HR1 HC1 t429 t430 t431 t433 t434 t435 t439 t440 nd gb432 w16 GW432 GE432 hcz17_0 hcz17_1 hfz17_0 hfz17_1 w18 hcz19_0 hcz19_1 hfz19_0 hfz19_1 w20 hcz21_0 hcz21_1 hfz21_0 hfz21_1 w22 hcz23_0 hcz23_1 hfz23_0 hfz23_1 w24 hcz25_0 hcz25_1 hfz25_0 hfz25_1 w26 hcz27_0 hcz27_1 hfz27_0 hfz27_1 w28 hcz29_0 hcz29_1 hfz29_0 hfz29_1 w30 hcz31_0 hcz31_1 hfz31_0 hfz31_1 kj13 HJ13 u4 kj60 HJ60 wc BK432 HB kj72 HJ72 HC85
end Go.Proofs.YtnbmplhcbliclaaGreatDoor.QT
