-- WRITTEN BY a program of this session (wip/xprint.py, over the kit's print): Lean checks it.
import Derived.Test.YtbhnpccbjgbcbaaGreatDoorQTx12d
import Derived.Test.YtbhnpccbjgbcbaaGreatDoorQTx12s2
import Derived.Test.YtbhnpccbjgbcbaaGreatDoorQTx12s1f331
import Derived.Test.YtbhnpccbjgbcbaaGreatDoorQTx12s1f417
import Derived.Test.YtbhnpccbjgbcbaaGreatDoorQTx12s1hc126p
import Derived.Test.YtbhnpccbjgbcbaaGreatDoorQTx12s1hc126n
namespace Go.Proofs.YtbhnpccbjgbcbaaGreatDoor.QT
open Go.Proofs.YtbhnpccbjgbcbaaGreatDoor.X Go.RowKit Go.Proofs.YtbhnpccbjgbcbaaGreatDoorW.PrintWords Go.Proofs.YtbhnpccbjgbcbaaGreatDoorW.PrintLast Go.Proofs.YtbhnpccbjgbcbaaGreatDoorW.PrintMore
attribute [local go_sem] max2_int min2_int max_two min_two max_three min_three max_four min_four   -- for this text's walks alone
set_option linter.unusedVariables false
set_option linter.unusedSimpArgs false

set_option maxHeartbeats 16000000 in
set_option maxRecDepth 1000000 in
theorem lw_.seg1 {V6 V7 V8 V9 V10 V11 V15 V16 V19 V20 V21 V22 V24 V25 V26 V29 V30 V31 V32 V34 V35 V36 V38 V39 V40 V87 V91 V92 V93 V94 V95 V96 V97 V98 V99 V100 V101 V102 V103 V104 V105 V106 V107 V108 V109 V110 V111 V112 V113 V114 V115 V116 V117 V118 V119 V120 V121 V122 V123 V124 V125 V126 V127 V128 V129 V130 V131 V132 V133 V134 V135 V136 V137 V138 V139 V140 V141 V142 V143 V144 V145 V146 V147 V148 V149 V150 V151 V152 V153 V154 V155 V156 V157 V158 V159 V160 V161 V162 V163 V164 V165 V166 V167 V168 V169 V170 V171 V172 V173 V174 V175 V176 V177 V178 V179 V180 V181 V182 V183 V184 V185 V186 V187 V188 V189 V190 V191 V192 V193 V194 V195 V196 V197 V198 V199 V200 V201 V202 V203 V204 V205 V206 V207 V208 V209 V210 V211 V212 V213 V214 V215 V216 V217 V218 V219 V220 V221 V222 V223 V224 V225 V226 V227 V228 V229 V230 V231 V232 V233 V234 V235 V236 V237 V238 V239 V240 V241 V242 V243 V244 V245 V246 V247 V248 V249 V250 V251 V252 V253 V254 V255 V256 V257 V258 V259 V260 V261 V262 V263 V264 V265 V266 V267 V268 V269 V270 V271 V272 V273 V274 V275 V276 V277 V278 V279 : Go.Value} (k : Nat) (A0 : Option Addr) (c0 : Nat) (l0 : List S37) (A1 : Option Addr) (c1 : Nat) (l1 : List S37) (a2 a3 : Int) (A4 : Option Addr) (c4 : Nat) (l4 : List Int) (a5 : ByteArray) (r : Bool) (w : World) (HTab_ : Aside0 (YtbhnpccbjgbcbaaGreatDoor.XText.T2 w)) (HR_ : Aside0 (r = Bool.true)) (hu37 : Program.underlying Tryz.prog (37 : Nat) = Option.some (TypeDesc.struct #[Field.mk "Long" (3 : Nat) (0 : Nat) Bool.false "" "" (0 : Nat), Field.mk "Fast" (3 : Nat) (1 : Nat) Bool.false "" "" (8 : Nat)])) (HR0 : Aside0 (Kd.C k37 w A0 (List.length l0) l0)) (HC0 : Aside0 (List.length l0 ≤ c0)) (HR1 : Aside0 (Kd.C k37 w A1 (List.length l1) l1)) (HC1 : Aside0 (List.length l1 ≤ c1)) (HR4 : Aside0 (Kd.C (Kd.int IntKind.i64) w A4 (List.length l4) l4)) (HC4 : Aside0 (List.length l4 ≤ c4)) (kj6 : Nat) (HJ6 : Aside0 (kj6 + (1 : Nat) ≤ k)) (t391 : List (List Int)) (t392 : Bool) (t399 t400 : Int) (t405 : Int) (t409 t410 : Int) (t415 : Int) (t419 : ByteArray) (v393 : Value) (wc : World) (HO_13 : Aside0 (Kd.S (Kd.slice (3 : Nat) (Kd.int IntKind.i64)) (23 : Nat) wc (Array.size (World.heap w)) (fun x => True) v393 t391)) (HB : Aside0 (Below (Array.size (World.heap w)) w wc)) (kj23 : Nat) (HJ23 : Aside0 (kj23 + (1 : Nat) ≤ kj6)) (HC67 : Aside0 ((if t392 = Bool.true then if (↑(List.length t391) : Int) = (↑(List.length l0) : Int) then if (0 : Int) ≤ wrap64 ((↑(List.length l0) : Int) - (1 : Int)) then if wrap64 ((↑(List.length l0) : Int) - (1 : Int)) < (↑(List.length t391) : Int) then if (0 : Int) < (↑(List.length (rd_L2 t391 (wrap64 ((↑(List.length l0) : Int) - (1 : Int))))) : Int) then if rd (rd_L2 t391 (wrap64 ((↑(List.length l0) : Int) - (1 : Int)))) (0 : Int) = t399 then if (1 : Int) < (↑(List.length (rd_L2 t391 (wrap64 ((↑(List.length l0) : Int) - (1 : Int))))) : Int) then if rd (rd_L2 t391 (wrap64 ((↑(List.length l0) : Int) - (1 : Int)))) (1 : Int) = t400 then Option.bind (laws_yLow.f kj23 t399 t400) fun t431 => if t431 = Bool.true then Option.bind (laws_yLow.f kj23 t409 t410) fun t432 => if t432 = Bool.true then lw_.j2 kj23 l0 l1 a2 a3 l4 a5 t391 t405 t415 t419 (↑(List.length l0) : Int) (wrap64 (t409 * t399) != wrap64 (wrap64 (t405 * t410) * t400)) else lw_.j2 kj23 l0 l1 a2 a3 l4 a5 t391 t405 t415 t419 (↑(List.length l0) : Int) Bool.true else lw_.j2 kj23 l0 l1 a2 a3 l4 a5 t391 t405 t415 t419 (↑(List.length l0) : Int) Bool.true else lw_.j2 kj23 l0 l1 a2 a3 l4 a5 t391 t405 t415 t419 (↑(List.length l0) : Int) Bool.true else Option.none else lw_.j2 kj23 l0 l1 a2 a3 l4 a5 t391 t405 t415 t419 (↑(List.length l0) : Int) Bool.true else Option.none else Option.none else Option.none else lw_.j2 kj23 l0 l1 a2 a3 l4 a5 t391 t405 t415 t419 (↑(List.length l0) : Int) Bool.true else lw_.j6 kj23 l1 a2 a3 l4 a5) = Option.some r)) :
    Go.Code.wp Tryz.prog (lw_.behind 279 lw_.body) (bodyPost Tryz.prog Tryz.f3 (fun e w' => e = .returned (.bool r) ∧ Below w.heap.size w w')) (Go.Act.mk #[Value.slice A0 (List.length l0) c0, Value.slice A1 (List.length l1) c1, Value.int IntKind.i64 a2, Value.int IntKind.i64 a3, Value.slice A4 (List.length l4) c4, Value.string a5, V6, V7, V8, V9, V10, V11, Value.bool Bool.false, v393, Value.bool t392, V15, V16, Value.int IntKind.i64 t399, Value.int IntKind.i64 t400, V19, V20, V21, V22, Value.int IntKind.i64 t405, V24, V25, V26, Value.int IntKind.i64 t409, Value.int IntKind.i64 t410, V29, V30, V31, V32, Value.int IntKind.i64 t415, V34, V35, V36, Value.string t419, V38, V39, V40, undef, undef, undef, undef, undef, undef, undef, undef, undef, undef, undef, undef, undef, undef, undef, undef, undef, undef, undef, undef, undef, undef, undef, undef, undef, undef, undef, undef, undef, undef, undef, undef, undef, undef, undef, undef, undef, undef, undef, undef, undef, undef, undef, undef, undef, undef, V87, undef, undef, undef, V91, V92, V93, V94, V95, V96, V97, V98, V99, V100, V101, V102, V103, V104, V105, V106, V107, V108, V109, V110, V111, V112, V113, V114, V115, V116, V117, V118, V119, V120, V121, V122, V123, V124, V125, V126, V127, V128, V129, V130, V131, V132, V133, V134, V135, V136, V137, V138, V139, V140, V141, V142, V143, V144, V145, V146, V147, V148, V149, V150, V151, V152, V153, V154, V155, V156, V157, V158, V159, V160, V161, V162, V163, V164, V165, V166, V167, V168, V169, V170, V171, V172, V173, V174, V175, V176, V177, V178, V179, V180, V181, V182, V183, V184, V185, V186, V187, V188, V189, V190, V191, V192, V193, V194, V195, V196, V197, V198, V199, V200, V201, V202, V203, V204, V205, V206, V207, V208, V209, V210, V211, V212, V213, V214, V215, V216, V217, V218, V219, V220, V221, V222, V223, V224, V225, V226, V227, V228, V229, V230, V231, V232, V233, V234, V235, V236, V237, V238, V239, V240, V241, V242, V243, V244, V245, V246, V247, V248, V249, V250, V251, V252, V253, V254, V255, V256, V257, V258, V259, V260, V261, V262, V263, V264, V265, V266, V267, V268, V269, V270, V271, V272, V273, V274, V275, V276, V277, V278, V279, undef, undef, undef, undef, undef, undef, undef, undef, undef, undef, undef, undef, undef, undef, undef, undef, undef, undef, undef, undef, undef, undef, undef, undef, undef, undef, undef, undef, undef, undef, undef, undef, undef, undef, undef, undef, undef, undef, undef, undef, undef, undef, undef, undef, undef, undef, undef, undef, undef, undef, undef, undef, undef, undef, undef, undef, undef, undef, undef, undef, undef, undef, undef, undef, undef, undef, undef, undef, undef, undef, undef, undef, undef, undef, undef, undef, undef, undef, undef, undef, undef, undef, undef, undef, undef, undef, undef, undef, undef, undef, undef, undef, undef, undef, undef, undef, undef, undef, undef, undef, undef, undef, undef, undef, undef, undef, undef, undef, undef, undef, undef, undef, undef, undef, undef, undef, undef, undef, undef, undef, undef, undef, undef, undef, undef, undef, undef, undef, undef, undef, undef, undef, undef, undef, undef, undef, undef, undef, undef, undef, undef, undef, undef, undef, undef, undef, undef, undef, undef, undef, undef, undef, undef, undef, undef, undef, undef, undef, undef, undef, undef, undef, undef, undef, undef, undef, undef, undef, undef, undef, undef, undef, undef, undef, undef, undef, undef, undef, undef, undef, undef, undef, undef, undef, undef, undef, undef, undef, undef, undef, undef, undef, undef, undef, undef, undef, undef, undef, undef, undef, undef, undef, undef, undef, undef, undef, undef, undef, undef, undef, undef, undef, undef, undef, undef, undef, undef, undef, undef, undef, undef, undef, undef, undef, undef, undef, undef, undef, undef, undef, undef, undef, undef, undef, undef, undef, undef, undef, undef, undef, undef, undef, undef, undef, undef, undef, undef, undef, undef, undef, undef, undef, undef, undef, undef, undef, undef, undef, undef, undef, undef, undef, undef, undef, undef, undef, undef, undef, undef, undef, undef, undef, undef, undef, undef, undef, undef, undef, undef, undef, undef, undef, undef, undef, undef, undef, undef, undef, undef, undef, undef, undef, undef, undef, undef, undef, undef, undef, undef, undef, undef, undef, undef, undef, undef, undef, undef, undef, undef, undef, undef, undef, undef, undef, undef, undef, undef, undef, undef, undef, undef, undef, undef, undef, undef, undef, undef, undef, undef, undef, undef, undef, undef, undef, undef, undef, undef, undef, undef, undef, undef, undef, undef, undef, undef, undef, undef, undef, undef, undef, undef, undef, undef, undef, undef, undef, undef, undef, undef, undef, undef, undef, undef, undef, undef, undef, undef, undef, undef, undef, undef, undef, undef, undef, undef, undef, undef, undef, undef, undef, undef, undef, undef, undef, undef, undef, undef, undef, undef, undef, undef, undef, undef, undef, undef, undef, undef, undef, undef, undef, undef, undef, undef, undef, undef, undef, undef, undef, undef, undef, undef, undef, undef, undef, undef, undef, undef, undef, undef, undef, undef, undef, undef, undef, undef, undef, undef, undef, undef, undef, undef, undef, undef, undef, undef, undef, undef, undef, undef, undef, undef, undef, undef, undef, undef, undef, undef, undef, undef, undef, undef, undef, undef, undef, undef, undef, undef, undef, undef, undef, undef, undef, undef, undef, undef, undef, undef, undef, undef, undef, undef, undef, undef, undef, undef, undef, undef, undef, undef, undef, undef, undef, undef, undef, undef, undef, undef, undef, undef, undef, undef, undef, undef, undef, undef, undef] []) wc := by
  conv => arg 2; whnf
  (try conv => arg 4; dsimp only)
  go_upto_if 280 with (fail)
  go_cut [] from 100000 (fun wc => ∃ (kq : Nat), Aside0 (lw_.j6 kq l1 a2 a3 l4 a5 = some r) ∧ Aside0 (kq ≤ kj23) ∧ Aside0 (Below w.heap.size w wc))
  case first =>
   (try conv => arg 2; dsimp only [List.append_eq, List.cons_append, List.nil_append])
   have H := HC67.out
   clear HC67
   by_cases c68 : t392 = true
   ·subst c68
    rw [if_pos rfl] at H
    have HC69 := Aside0.mk H
    clear H
    go_upto_region 19 with (fail)
    go_cut [331] from 100000 (fun v331 wc => ∃ (kq : Nat) (x331_68 : Bool), v331 = .bool x331_68 ∧ Aside0 (lw_.j2 kq l0 l1 a2 a3 l4 a5 t391 t405 t415 t419 (l0.length : Int) x331_68 = some r) ∧ Aside0 (kq ≤ kj23) ∧ Aside0 (Kd.S (Kd.slice 3 (Kd.int .i64)) 23 wc w.heap.size (fun _ => True) v393 t391) ∧ Aside0 (Below w.heap.size w wc))
    case first =>
     rename_i J_ K_ hJ_ hK_
     exact lw_.first331 k l0 l1 a2 a3 l4 a5 r w HR_ hu37 kj6 HJ6 t391 t399 t400 t405 t409 t410 t415 t419 v393 wc HO_13 HB kj23 HJ23 HC69 J_ K_ hJ_ hK_
    case rest =>
     clear HC69
     (try clear c1); (try clear c4); (try clear c68)
     obtain ⟨kq, x331_68, rfl, HA, HJ68, HO_13, HB⟩ := hcut
     cases kq with
     | zero => exact absurd HA.out (by simp [lw_.j2])
     | succ kj68 =>
      have H := HA.out
      clear HA
      simp only [lw_.j2] at H
      by_cases c83 : x331_68 = true
      ·subst c83
       rw [if_pos rfl] at H
       exact absurd (Option.some.inj H).symm (by rw [HR_.out]; decide)
      ·replace c83 := Bool.eq_false_iff.mpr c83
       subst c83
       rw [if_neg (show ¬ (false = true) by decide)] at H
       have H' := Aside0.mk H
       clear H
       go_wp2
       go_loopg [42, 334] kj68 (fun kq v42 v334 w' => ∃ (x42_4 : Int) (x334_4 : Int), v42 = .int .i64 x42_4 ∧ v334 = .int .i64 x334_4 ∧ Aside0 (lw_.l0 kq l0 l1 a2 a3 l4 a5 t391 t405 t415 t419 (l0.length : Int) x42_4 l0 (l0.length : Int) x334_4 = some r) ∧ Aside0 (kq ≤ kj68) ∧ Aside0 (Kd.S (Kd.slice 3 (Kd.int .i64)) 23 w' w.heap.size (fun _ => True) v393 t391) ∧ Aside0 (Below w.heap.size w w'))
       case atStart => exact ⟨(0), (0), rt_, rt_, H', ⟨Nat.le_refl _⟩, ⟨by (with_reducible repeat (first | apply Kd.S_alloc | apply Kd.S_drewN | apply Kd.S_drew)); exact HO_13.out⟩, ⟨below_to HB⟩⟩
       case round =>
        clear H'
        (try clear c1); (try clear c4); (try clear c68); (try clear c83)
        obtain ⟨x42_4, x334_4, rfl, rfl, HA, HK4, HO_13, HB⟩ := hrel
        cases gk with
        | zero => exact absurd HA.out (by simp [lw_.l0])
        | succ k4 =>
         have H := HA.out
         clear HA
         simp only [lw_.l0] at H
         by_cases c84 : x334_4 < (l0.length : Int)
         ·rw [if_pos c84] at H
          have c84b0 := decide_eq_true c84
          clear c84
          by_cases c85 : 0 ≤ x334_4
          ·rw [if_pos c85] at H
           have c85b0 := decide_eq_true c85
           clear c85
           by_cases c86 : x334_4 < (l0.length : Int)
           ·rw [if_pos c86] at H
            have c86b0 := decide_eq_true c86
            clear c86
            replace H := Option.bind_eq_some_iff.mp H
            obtain ⟨⟨t435, t436, t437⟩, A870, H⟩ := H
            (try dsimp only at H)
            have A87 := Aside0.mk A870
            clear A870
            have HC88 := Aside0.mk H
            clear H
            have p433 : 0 ≤ (x334_4 : Int) := odt_
            have q433 : x334_4 < (l0.length : Int) := odt_
            obtain ⟨ad433, e433, hx433_0, hx433_1⟩ := at_T37 HR0.out x334_4 p433 q433
            cases e433
            replace hx433_0 := bx_ HB hx433_0
            replace hx433_1 := bx_ HB hx433_1
            replace p433 := eq_true p433
            replace q433 := eq_true q433
            go_upto_region 27 with (first | ((with_reducible refine gate_dst (N := 44) rfl ?_); (try (refine gate_guard (by rfl) ?_; dsimp only)); refine box_event ?hg (N := 44) ?hd (cs := #[.int .i64 0, .int .i64 0]) (t := 37) ?hr ?_; (case hd => rfl); (case hg => rfl); (case hr => first | (go_simp; done) | (go_simp; rfl)); intro gb434 hg w89 hbox hb; have n0_ := Aside0.mk (Kd.S_below (by (with_reducible repeat (first | apply Kd.S_alloc | apply Kd.S_drewN | apply Kd.S_drew)); exact HO_13.out) hb); have n1_ := Aside0.mk (below_step (below_to HB) hb); have n2_ := Aside0.mk (hbox); have n3_ := Aside0.mk ((by rw [hg]; exact (below_size (below_to HB)) : w.heap.size ≤ gb434)); have n4_ := Aside0.mk ((by rw [hg]; exact (below_size (below_to HB)) : w.heap.size ≤ gb434)); clear HO_13; clear HB; have HO_13 := n0_; have HB := n1_; have BK434 := n2_; have GW434 := n3_; have GE434 := n4_; clear n0_ n1_ n2_ n3_ n4_; clear hb hbox hg; have hcz90_0 : w89.cell? ⟨gb434, 0, none⟩ = some (.int .i64 0) := (blk_cell BK434.out 0).trans rfl; have hcz90_1 : w89.cell? ⟨gb434, 1, none⟩ = some (.int .i64 0) := (blk_cell BK434.out 1).trans rfl; have hfz90_0 := blk_frozen BK434.out 0; have hfz90_1 := blk_frozen BK434.out 1) | ((with_reducible refine gate_callee (f := 21) rfl ?_); refine goesL_ (some 345) rfl rfl Tryz.func21 (by kernel_rfl) rfl #[.slice (some ad433) l0.length c0, .int .i64 0, .int .i64 1] rfl am_ ?_; (with_reducible refine (impl_PlaceOnLegs.calls k4 _ _ l0 0 1 t435 t436 t437 _ ?side1 ?side2 A87.out).mono ?_); (case side1 => exact Kd.C_below HR0.out (below_to1 HB GE434.out)); (case side2 => exact HC0.out); rintro e w91 ⟨rfl, hb⟩; refine ⟨_, rfl, ?_⟩; replace HO_13 := Aside0.mk (Kd.S_below (by (with_reducible repeat (first | apply Kd.S_alloc | apply Kd.S_drewN | apply Kd.S_drew)); exact (Kd.S_mono (Kd.S_far (p := ⟨gb434, 1, none⟩) (Kd.S_far (p := ⟨gb434, 0, none⟩) (Kd.S_types HO_13.out BK434.out (by decide)) (fun _ hk => hk.2) (.int .i64 ((rd_T37 l0 x334_4).f0))) (fun _ hk => hk.2) (.int .i64 ((rd_T37 l0 x334_4).f1))) (fun _ h_ => h_.1))) hb); replace BK434 := Aside0.mk (blk_below (g := gb434) (o := .cells #[.int .i64 ((rd_T37 l0 x334_4).f0), .int .i64 ((rd_T37 l0 x334_4).f1)] 37 (0, 0)) (by (with_reducible repeat (first | refine blk_drewN ?_ _ | refine blk_drew ?_ | refine blk_alloc ?_ _)); refine blk_put (cs := #[.int .i64 ((rd_T37 l0 x334_4).f0), .int .i64 0]) ?_ 1 _ rfl; (with_reducible repeat (first | refine blk_drewN ?_ _ | refine blk_drew ?_ | refine blk_alloc ?_ _)); refine blk_put (cs := #[.int .i64 0, .int .i64 0]) ?_ 0 _ rfl; (with_reducible repeat (first | refine blk_drewN ?_ _ | refine blk_drew ?_ | refine blk_alloc ?_ _)); exact BK434.out) hb); replace HB := Aside0.mk (below_step (below_to1 HB GE434.out) hb); (try clear hb)))
            (try simp only [Act.put, List.setIfInBounds_toArray, List.set_cons_zero, List.set_cons_succ])
            go_cut [417] from 100000 (fun v417 wc => ∃ (kq : Nat) (x417_87 : Bool), v417 = .bool x417_87 ∧ Aside0 (lw_.j4 kq l0 l1 a2 a3 l4 a5 t391 t405 t415 t419 (l0.length : Int) (wrap64 (x42_4 + ((rd_T37 l0 x334_4).f0))) x334_4 l0 (l0.length : Int) x334_4 x417_87 = some r) ∧ Aside0 (kq ≤ k4) ∧ Aside0 (Kd.S (Kd.slice 3 (Kd.int .i64)) 23 wc w.heap.size (fun _ => True) v393 t391) ∧ Aside0 (wc.heap[gb434]? = some (.cells #[.int .i64 ((rd_T37 l0 x334_4).f0), .int .i64 ((rd_T37 l0 x334_4).f1)] 37 (0, 0))) ∧ Aside0 (Below w.heap.size w wc))
            case first =>
             rename_i J_ K_ hJ_ hK_
             exact lw_.first417 k c0 l0 l1 a2 a3 l4 a5 r w HR_ hu37 kj6 HJ6 t391 t405 t415 t419 v393 kj23 HJ23 kj68 HJ68 wr u349 u350 u351 u352 u353 u354 u355 u356 u357 u358 u359 u360 u361 u362 u363 u364 u365 u366 u367 u368 u369 u370 u371 u372 u373 u374 u375 u376 u377 u378 u379 u380 u381 u382 u383 u384 u385 u386 u387 u388 u389 u390 u391 u392 u393 u394 u395 u396 u397 u398 u399 u400 u401 u402 u403 u404 u405 u406 u407 u408 u409 u410 u411 u412 u413 u414 u415 u416 u417 x42_4 x334_4 k4 HK4 c84b0 c85b0 c86b0 t435 t436 t437 HC88 ad433 HR0 hx433_0 hx433_1 p433 q433 gb434 w89 GW434 GE434 hcz90_0 hcz90_1 hfz90_0 hfz90_1 w91 HO_13 BK434 HB J_ K_ hJ_ hK_
            case rest =>
             clear HC88
             (try clear c1); (try clear c4)
             obtain ⟨kq, x417_87, rfl, HA, HJ87, HO_13, BK434, HB⟩ := hcut
             cases kq with
             | zero => exact absurd HA.out (by simp [lw_.j4])
             | succ kj87 =>
              have H := HA.out
              clear HA
              simp only [lw_.j4] at H
              by_cases c110 : x417_87 = true
              ·subst c110
               rw [if_pos rfl] at H
               exact absurd (Option.some.inj H).symm (by rw [HR_.out]; decide)
              ·replace c110 := Bool.eq_false_iff.mpr c110
               subst c110
               rw [if_neg (show ¬ (false = true) by decide)] at H
               have HC111 := Aside0.mk H
               clear H
               go_upto_region 29 with (fail)
               go_cut [433] from 100000 (fun v433 wc => ∃ (kq : Nat) (x433_110 : Bool), v433 = .bool x433_110 ∧ Aside0 (lw_.j5 kq l0 l1 a2 a3 l4 a5 t391 t405 t415 t419 (l0.length : Int) (wrap64 (x42_4 + ((rd_T37 l0 x334_4).f0))) x334_4 l0 (l0.length : Int) x334_4 x433_110 = some r) ∧ Aside0 (kq ≤ kj87) ∧ Aside0 (Kd.S (Kd.slice 3 (Kd.int .i64)) 23 wc w.heap.size (fun _ => True) v393 t391) ∧ Aside0 (wc.heap[gb434]? = some (.cells #[.int .i64 ((rd_T37 l0 x334_4).f0), .int .i64 ((rd_T37 l0 x334_4).f1)] 37 (0, 0))) ∧ Aside0 (Below w.heap.size w wc))
               case first =>
                rename_i J_ K_ hJ_ hK_
                exact lw_.first433 k l0 l1 a2 a3 l4 a5 r w hu37 kj6 HJ6 t391 t405 t415 t419 v393 kj23 HJ23 kj68 HJ68 wr u418 u419 u420 u421 u422 u423 u424 u425 u426 u427 u428 u429 u430 u431 u432 u433 x42_4 x334_4 k4 HK4 c84b0 c85b0 c86b0 ad433 hx433_0 hx433_1 p433 q433 gb434 w89 GW434 GE434 hcz90_0 hcz90_1 hfz90_0 hfz90_1 wc HO_13 BK434 HB kj87 HJ87 HC111 J_ K_ hJ_ hK_
               case rest =>
                clear HC111
                (try clear c1); (try clear c4); (try clear c110)
                obtain ⟨kq, x433_110, rfl, HA, HJ110, HO_13, BK434, HB⟩ := hcut
                cases kq with
                | zero => exact absurd HA.out (by simp [lw_.j5])
                | succ kj110 =>
                 have H := HA.out
                 clear HA
                 simp only [lw_.j5] at H
                 by_cases c119 : x433_110 = true
                 ·subst c119
                  rw [if_pos rfl] at H
                  by_cases c120 : 0 ≤ x334_4
                  ·rw [if_pos c120] at H
                   have c120b0 := decide_eq_true c120
                   clear c120
                   by_cases c121 : x334_4 < (t391.length : Int)
                   ·rw [if_pos c121] at H
                    have c121b0 := decide_eq_true c121
                    clear c121
                    by_cases c122 : 0 < ((rd_L2 t391 x334_4).length : Int)
                    ·rw [if_pos c122] at H
                     have c122b0 := decide_eq_true c122
                     have c122b1 : decide (0 < (rd_L2 t391 x334_4).length) = true := decide_eq_true (by omega)
                     clear c122
                     by_cases c123 : 1 < ((rd_L2 t391 x334_4).length : Int)
                     ·rw [if_pos c123] at H
                      have c123b0 := decide_eq_true c123
                      have c123b1 : decide (1 < (rd_L2 t391 x334_4).length) = true := decide_eq_true (by omega)
                      clear c123
                      replace H := Option.bind_eq_some_iff.mp H
                      obtain ⟨⟨t455, t456, t457⟩, A1240, H⟩ := H
                      (try dsimp only at H)
                      have A124 := Aside0.mk A1240
                      clear A1240
                      replace H := Option.bind_eq_some_iff.mp H
                      obtain ⟨⟨t462, t463⟩, A1250, H⟩ := H
                      (try dsimp only at H)
                      have A125 := Aside0.mk A1250
                      clear A1250
                      by_cases c126 : (wrap64 (x334_4 + 1)) = (l0.length : Int)
                      ·rename_i Z0_ Z1_ Z2_ Z3_ Z4_ Z5_ Z6_ Z7_ Z8_ Z9_ Z10_ Z11_ Z12_ Z13_ Z14_ Z15_ Z16_ Z17_ Z18_ Z19_ Z20_ Z21_ Z22_ Z23_ Z24_ Z25_ Z26_ Z27_ Z28_ Z29_ Z30_ Z31_ Z32_ Z33_ Z34_ Z35_ Z36_ Z37_ Z38_ Z39_ Z40_ Z41_ Z42_ Z43_ Z44_ Z45_ Z46_ Z47_ Z48_ Z49_ Z50_ Z51_ Z52_ Z53_ Z54_ Z55_ Z56_ Z57_ Z58_ Z59_ Z60_ Z61_ Z62_ Z63_ Z64_ Z65_ Z66_ Z67_ Z68_ Z69_ Z70_ Z71_ Z72_ Z73_ Z74_ Z75_ Z76_ Z77_ Z78_ Z79_ Z80_ Z81_ Z82_ Z83_ Z84_ Z85_ Z86_ Z87_ Z88_ Z89_ Z90_ Z91_ Z92_ Z93_ Z94_ Z95_ Z96_ Z97_ Z98_ Z99_ Z100_ Z101_ Z102_ Z103_ Z104_ Z105_ Z106_ Z107_ Z108_ Z109_ Z110_ Z111_ Z112_
                       exact Z112_ _ _ (lw_.halfc126p Z6_ Z7_ Z12_ Z97_ Z98_ Z102_ k c0 l0 l1 a2 a3 l4 a5 r w HR_ hu37 HC0 kj6 HJ6 t391 t405 t415 t419 v393 kj23 HJ23 kj68 HJ68 wr u12 u43 u44 u45 u46 u47 u48 u49 u50 u51 u52 u53 u335 u336 u337 u338 u339 u340 u341 u342 u343 u344 u345 u346 u347 u348 u417 u433 u434 u435 u436 u437 u438 u439 u440 u441 u442 u443 u444 u445 u446 u447 u448 u449 u450 u451 u452 u453 u454 u455 u456 u457 u458 u459 u460 u461 u462 u463 u464 u465 u466 u467 u468 u469 u470 u471 u472 u473 u474 u475 u476 u477 u478 u479 u480 u481 u482 u483 u484 u485 u486 u487 u488 u489 u490 u491 u492 u493 u494 u495 x42_4 x334_4 k4 HK4 c84b0 c85b0 c86b0 ad433 HR0 hx433_0 hx433_1 p433 q433 gb434 w89 GW434 GE434 hcz90_0 hcz90_1 hfz90_0 hfz90_1 u349 u350 u351 u352 u353 u354 u355 u356 u357 u358 u359 u360 u361 u362 u363 u364 u365 u366 u367 u368 u369 u370 u371 u372 u373 u374 u375 u376 u377 u378 u379 u380 u381 u382 u383 u384 u385 u386 u387 u388 u389 u390 u391 u392 u393 u394 u395 u396 u397 u398 u399 u400 u401 u402 u403 u404 u405 u406 u407 u408 u409 u410 u411 u412 u413 u414 u415 u416 kj87 HJ87 wc u418 u419 u420 u421 u422 u423 u424 u425 u426 u427 u428 u429 u430 u431 u432 HO_13 BK434 HB kj110 HJ110 c120b0 c121b0 c122b0 c122b1 c123b0 c123b1 t455 t456 t457 A124 t462 t463 H A125 c126 Z8_ Z99_ Z101_ Z103_)
                      ·rename_i Z0_ Z1_ Z2_ Z3_ Z4_ Z5_ Z6_ Z7_ Z8_ Z9_ Z10_ Z11_ Z12_ Z13_ Z14_ Z15_ Z16_ Z17_ Z18_ Z19_ Z20_ Z21_ Z22_ Z23_ Z24_ Z25_ Z26_ Z27_ Z28_ Z29_ Z30_ Z31_ Z32_ Z33_ Z34_ Z35_ Z36_ Z37_ Z38_ Z39_ Z40_ Z41_ Z42_ Z43_ Z44_ Z45_ Z46_ Z47_ Z48_ Z49_ Z50_ Z51_ Z52_ Z53_ Z54_ Z55_ Z56_ Z57_ Z58_ Z59_ Z60_ Z61_ Z62_ Z63_ Z64_ Z65_ Z66_ Z67_ Z68_ Z69_ Z70_ Z71_ Z72_ Z73_ Z74_ Z75_ Z76_ Z77_ Z78_ Z79_ Z80_ Z81_ Z82_ Z83_ Z84_ Z85_ Z86_ Z87_ Z88_ Z89_ Z90_ Z91_ Z92_ Z93_ Z94_ Z95_ Z96_ Z97_ Z98_ Z99_ Z100_ Z101_ Z102_ Z103_ Z104_ Z105_ Z106_ Z107_ Z108_ Z109_ Z110_ Z111_ Z112_
                       exact Z112_ _ _ (lw_.halfc126n Z6_ Z7_ Z12_ Z97_ Z98_ Z102_ k c0 l0 l1 a2 a3 l4 a5 r w HR_ hu37 HC0 kj6 HJ6 t391 t405 t415 t419 v393 kj23 HJ23 kj68 HJ68 wr u12 u43 u44 u45 u46 u47 u48 u49 u50 u51 u52 u53 u335 u336 u337 u338 u339 u340 u341 u342 u343 u344 u345 u346 u347 u348 u417 u433 u434 u435 u436 u437 u438 u439 u440 u441 u442 u443 u444 u445 u446 u447 u448 u449 u450 u451 u452 u453 u454 u455 u456 u457 u458 u459 u460 u461 u462 u463 u464 u465 u466 u467 u468 u469 u470 u471 u472 u473 u474 u475 u476 u477 u478 u479 u480 u481 u482 u483 u484 u485 u486 u487 u488 u489 u490 u491 u492 u493 u494 u495 x42_4 x334_4 k4 HK4 c84b0 c85b0 c86b0 ad433 HR0 hx433_0 hx433_1 p433 q433 gb434 w89 GW434 GE434 hcz90_0 hcz90_1 hfz90_0 hfz90_1 u349 u350 u351 u352 u353 u354 u355 u356 u357 u358 u359 u360 u361 u362 u363 u364 u365 u366 u367 u368 u369 u370 u371 u372 u373 u374 u375 u376 u377 u378 u379 u380 u381 u382 u383 u384 u385 u386 u387 u388 u389 u390 u391 u392 u393 u394 u395 u396 u397 u398 u399 u400 u401 u402 u403 u404 u405 u406 u407 u408 u409 u410 u411 u412 u413 u414 u415 u416 kj87 HJ87 wc u418 u419 u420 u421 u422 u423 u424 u425 u426 u427 u428 u429 u430 u431 u432 HO_13 BK434 HB kj110 HJ110 c120b0 c121b0 c122b0 c122b1 c123b0 c123b1 t455 t456 t457 A124 t462 t463 H A125 c126 Z8_ Z99_ Z101_ Z103_)
                     ·rw [if_neg c123] at H
                      exact absurd H (by simp)
                    ·rw [if_neg c122] at H
                     exact absurd H (by simp)
                   ·rw [if_neg c121] at H
                    exact absurd H (by simp)
                  ·rw [if_neg c120] at H
                   exact absurd H (by simp)
                 ·rename_i Z0_ Z1_ Z2_ Z3_ Z4_ Z5_ Z6_ Z7_ Z8_ Z9_ Z10_ Z11_ Z12_ Z13_ Z14_ Z15_ Z16_ Z17_ Z18_ Z19_ Z20_ Z21_ Z22_ Z23_ Z24_ Z25_ Z26_ Z27_ Z28_ Z29_ Z30_ Z31_ Z32_ Z33_ Z34_ Z35_ Z36_ Z37_ Z38_ Z39_ Z40_ Z41_ Z42_ Z43_ Z44_ Z45_ Z46_ Z47_ Z48_ Z49_ Z50_ Z51_ Z52_ Z53_ Z54_ Z55_ Z56_ Z57_ Z58_ Z59_ Z60_ Z61_ Z62_ Z63_ Z64_ Z65_ Z66_ Z67_ Z68_ Z69_ Z70_ Z71_ Z72_ Z73_ Z74_ Z75_ Z76_ Z77_ Z78_ Z79_ Z80_ Z81_ Z82_ Z83_ Z84_ Z85_ Z86_ Z87_ Z88_ Z89_ Z90_ Z91_ Z92_ Z93_ Z94_ Z95_ Z96_ Z97_ Z98_ Z99_ Z100_ Z101_ Z102_ Z103_ Z104_ Z105_ Z106_ Z107_ Z108_ Z109_ Z110_ Z111_ Z112_
                  exact Z112_ _ _ (lw_.halfc119n Z6_ Z7_ Z12_ Z97_ Z98_ Z102_ k c0 l0 l1 a2 a3 l4 a5 r w hu37 kj6 HJ6 t391 t405 t415 t419 v393 kj23 HJ23 kj68 HJ68 wr u12 u43 u44 u45 u46 u47 u48 u49 u50 u51 u52 u53 u335 u336 u337 u338 u339 u340 u341 u342 u343 u344 u345 u346 u347 u348 u417 u433 u434 u435 u436 u437 u438 u439 u440 u441 u442 u443 u444 u445 u446 u447 u448 u449 u450 u451 u452 u453 u454 u455 u456 u457 u458 u459 u460 u461 u462 u463 u464 u465 u466 u467 u468 u469 u470 u471 u472 u473 u474 u475 u476 u477 u478 u479 u480 u481 u482 u483 u484 u485 u486 u487 u488 u489 u490 u491 u492 u493 u494 u495 x42_4 x334_4 k4 HK4 c84b0 c85b0 c86b0 ad433 hx433_0 hx433_1 p433 q433 gb434 w89 GW434 GE434 hcz90_0 hcz90_1 hfz90_0 hfz90_1 u349 u350 u351 u352 u353 u354 u355 u356 u357 u358 u359 u360 u361 u362 u363 u364 u365 u366 u367 u368 u369 u370 u371 u372 u373 u374 u375 u376 u377 u378 u379 u380 u381 u382 u383 u384 u385 u386 u387 u388 u389 u390 u391 u392 u393 u394 u395 u396 u397 u398 u399 u400 u401 u402 u403 u404 u405 u406 u407 u408 u409 u410 u411 u412 u413 u414 u415 u416 kj87 HJ87 wc u418 u419 u420 u421 u422 u423 u424 u425 u426 u427 u428 u429 u430 u431 u432 x433_110 HO_13 HB kj110 HJ110 H c119 Z8_ Z99_ Z101_ Z103_)
           ·rw [if_neg c86] at H
            exact absurd H (by simp)
          ·rw [if_neg c85] at H
           exact absurd H (by simp)
         ·rw [if_neg c84] at H
          have c84b0 := decide_eq_false c84
          clear c84
          replace H := Option.bind_eq_some_iff.mp H
          obtain ⟨⟨t464, t465⟩, A1470, H⟩ := H
          (try dsimp only at H)
          have A147 := Aside0.mk A1470
          clear A1470
          by_cases c148 : x42_4 = t405
          ·rw [if_pos c148] at H
           have c148b0 := beq_iff_eq.mpr c148
           have c148b1 := bne_eq_false_iff_eq.mpr c148
           clear c148
           by_cases c149 : t465 = true
           ·subst c149
            rw [if_pos rfl] at H
            replace H := Option.bind_eq_some_iff.mp H
            obtain ⟨t468, A1500, H⟩ := H
            (try dsimp only at H)
            have A150 := Aside0.mk A1500
            clear A1500
            by_cases c151 : t468 = true
            ·subst c151
             rw [if_pos rfl] at H
             have H' := Aside0.mk H
             clear H
             go_wp2_with (first | ((with_reducible refine gate_callee (f := 23) rfl ?_); refine goesL_ (some 498) rfl rfl Tryz.func23 (by kernel_rfl) rfl #[.string t419] rfl am_ ?_; (with_reducible refine (impl_ParseLegs.calls k4 t419 t464 true _ A147.out ?sidet).mono ?_); (case sidet => refine Go.Proofs.YtbhnpccbjgbcbaaGreatDoor.XText.T2.on (w := w) HTab_.out ?_; repeat (first | (with_reducible first | exact HB.out | exact Below.refl _ _ | apply below_alloc | apply pw_below_drewN | apply below_drew1 | refine below_set ?_ GE434.out) | exact HB.out | exact Below.refl _ _)); rintro e w152 ⟨v466, rfl, ho0, hb⟩; refine ⟨_, rfl, ?_⟩; replace HO_13 := Aside0.mk (Kd.S_below (by (with_reducible repeat (first | apply Kd.S_alloc | apply Kd.S_drewN | apply Kd.S_drew)); exact HO_13.out) hb); have HO467 := Aside0.mk (Kd.R_lower ho0 (below_size (below_to HB))); replace HB := Aside0.mk (below_step (below_to HB) hb); (try clear hb); (try clear ho0); obtain ⟨Ao153, co153, eo153⟩ := Kd.R_slice HO467.out; subst eo153) | (go_at_call 24; (with_reducible refine (laws_yLegs.calls k4 _ _ t464 _ _ l0 true _ ?side1 ?side2 ?side3 ?side4 A150.out).mono ?_); (case side1 => repeat (first | exact (Kd.R_reads' HO467.out).2.2 | (with_reducible refine Kd.C_alloc ?_ _) | (with_reducible refine Kd.C_drewN ?_ _) | (with_reducible refine Kd.C_drew ?_))); (case side2 => exact (Kd.R_reads' HO467.out).2.1); (case side3 => exact cb_ HR0 HB); (case side4 => exact HC0.out); rintro e w' ⟨rfl, ⟨nd, rfl⟩⟩))
             go_meet
             case rel => exact ⟨_, H', ⟨by have := HJ6.out; have := HJ23.out; have := HJ68.out; have := HK4.out; first | omega | exact Nat.le_refl _⟩, ⟨below_to HB⟩⟩
            ·replace c151 := Bool.eq_false_iff.mpr c151
             subst c151
             rw [if_neg (show ¬ (false = true) by decide)] at H
             exact absurd (Option.some.inj H).symm (by rw [HR_.out]; decide)
           ·replace c149 := Bool.eq_false_iff.mpr c149
            subst c149
            rw [if_neg (show ¬ (false = true) by decide)] at H
            exact absurd (Option.some.inj H).symm (by rw [HR_.out]; decide)
          ·rw [if_neg c148] at H
           have c148b0 := beq_eq_false_iff_ne.mpr c148
           have c148b1 := bne_iff_ne.mpr c148
           exact absurd (Option.some.inj H).symm (by rw [HR_.out]; decide)
   ·replace c68 := Bool.eq_false_iff.mpr c68
    subst c68
    rw [if_neg (show ¬ (false = true) by decide)] at H
    have H' := Aside0.mk H
    clear H
    go_wp2
    go_meet
    case rel => exact ⟨_, H', ⟨by have := HJ6.out; have := HJ23.out; first | omega | exact Nat.le_refl _⟩, ⟨below_to HB⟩⟩
  case rest =>
   clear HC67
   (try clear c1); (try clear c4); (try clear c68); (try clear c84); (try clear c84b0); (try clear c85); (try clear c86); (try clear c119); (try clear c120); (try clear c121); (try clear c122); (try clear c123); (try clear c148); (try clear c148b0); (try clear c148b1); (try clear c149); (try clear c151)
   obtain ⟨kq, HA, HJ66, HB⟩ := hcut
   go_step
   exact lw_.seg2 k A1 c1 l1 a2 a3 A4 c4 l4 a5 r w HTab_ HR_ hu37 HR1 HC1 HR4 HC4 kj6 HJ6 kj23 HJ23 wc u12 kq HA HJ66 HB
end Go.Proofs.YtbhnpccbjgbcbaaGreatDoor.QT
