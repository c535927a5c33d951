import Derived.Test.YtbhnpccbjgbcbaaGreatDoorQDx15s2
import Derived.Test.YtbhnpccbjgbcbaaGreatDoorQDx15s1f316
import Derived.Test.YtbhnpccbjgbcbaaGreatDoorQDx15s1f402
import Derived.Test.YtbhnpccbjgbcbaaGreatDoorQDx15s1hc122p
import Derived.Test.YtbhnpccbjgbcbaaGreatDoorQDx15s1hc122n
namespace Go.Proofs.YtbhnpccbjgbcbaaGreatDoor.QD
open Go.Proofs.YtbhnpccbjgbcbaaGreatDoor.X Go.RowKit Go.Proofs.YtbhnpccbjgbcbaaGreatDoorW.PrintWords Go.Proofs.YtbhnpccbjgbcbaaGreatDoorW.PrintLast Go.Proofs.YtbhnpccbjgbcbaaGreatDoorW.PrintMore
attribute [local go_sem] max2_int min2_int max_two min_two max_three min_three max_four min_four
set_option linter.unusedVariables false
set_option linter.unusedSimpArgs false
set_option maxHeartbeats 16000000 in
set_option maxRecDepth 1000000 in
theorem lw_.seg1 {Aa Ac Ad Ae Af Ag Ah Ai Aj Ak Al Am An Ao Ap Aq Ar As Au Av Aw Ax Ay Az AA AB AC AD AE AF AG AH AJ AK AL AM AN AO AP AQ AR AU AV AW AX AY AZ Ba Bb Bc Bd Be Bf Bg Bh Bi Bj Bk Bl Bm Bn Bo Bp Bq Br Bs Bt Bu Bv Bw Bx Bz BA BB BC BD BE BF BG BH BI BJ BK BL BM BN BO BP BQ BR BS BT BU BV BW BX BZ B0 B1 B2 B4 B5 B6 B9 Ca Cb Cc Cd Ce Cf Cg Ch Ci Cj Ck Cl Cm Cn Co Cp Cq Cr Cs Ct Cu Cv Cw Cx Cy Cz CA CB CC CD CE CF CG CH CI CJ CK CL CM CN CO CP CQ CR CS CT CU CV CW CX CY CZ C0 C1 C2 C3 C4 C5 C6 C7 C8 C9 Da Db Dc Dd De Df Dg Dh Di Dj Dk Dl Dm Dn Dq Dr Ds Dt Du Dv Dw Dx Dy Dz DA DB DC DD DE DF DG DH DI : Go.Value} (k : Nat) (l0 : List Int) (A1 : Option Addr) (c1 : Nat) (l1 : List Int) (r : Bool) (w : World) (HTab_ : Aside0 (YtbhnpccbjgbcbaaGreatDoor.XText.T2 w)) (HR_ : Aside0 (r = Bool.true)) (hu37 : Program.underlying Tryz.prog (37 : Nat) = Option.some (TypeDesc.struct #[Field.mk "Long" (3 : Nat) (0 : Nat) Bool.false "" "" (0 : Nat), Field.mk "Fast" (3 : Nat) (1 : Nat) Bool.false "" "" (8 : Nat)])) (HR1 : Aside0 (Kd.C (Kd.int IntKind.u8) w A1 (List.length l1) l1)) (HC1 : Aside0 (List.length l1 ≤ c1)) (t573 : List S37) (t576 : List (List Int)) (t577 : Bool) (t584 t585 : Int) (t590 : Int) (t594 t595 : Int) (t600 : Int) (t604 : ByteArray) (nd : Nat) (Ao20 : Option Addr) (co20 : Nat) (v578 : Value) (wc : World) (HO_5 : Aside0 (Kd.R k37 (37 : Nat) wc (Array.size (World.heap w)) (fun x => True) (Value.slice Ao20 (List.length t573) co20) t573)) (HO_6 : Aside0 (Kd.S (Kd.slice (3 : Nat) (Kd.int IntKind.i64)) (23 : Nat) wc (Array.size (World.heap w)) (fun x => True) v578 t576)) (HB : Aside0 (Below (Array.size (World.heap w)) w wc)) (kj17 : Nat) (HJ17 : Aside0 (kj17 + (1 : Nat) ≤ k)) (HC63 : Aside0 ((if t577 = Bool.true then if (↑(List.length t576) : Int) = (↑(List.length t573) : Int) then if (0 : Int) ≤ wrap64 ((↑(List.length t573) : Int) - (1 : Int)) then if wrap64 ((↑(List.length t573) : Int) - (1 : Int)) < (↑(List.length t576) : Int) then if (0 : Int) < (↑(List.length (rd_L2 t576 (wrap64 ((↑(List.length t573) : Int) - (1 : Int))))) : Int) then if rd (rd_L2 t576 (wrap64 ((↑(List.length t573) : Int) - (1 : Int)))) (0 : Int) = t584 then if (1 : Int) < (↑(List.length (rd_L2 t576 (wrap64 ((↑(List.length t573) : Int) - (1 : Int))))) : Int) then if rd (rd_L2 t576 (wrap64 ((↑(List.length t573) : Int) - (1 : Int)))) (1 : Int) = t585 then Option.bind (laws_yLow.f kj17 t584 t585) fun t616 => if t616 = Bool.true then Option.bind (laws_yLow.f kj17 t594 t595) fun t617 => if t617 = Bool.true then lw_.j1 kj17 l1 t573 t576 t590 t600 t604 (↑(List.length t573) : Int) (wrap64 (t594 * t584) != wrap64 (wrap64 (t590 * t595) * t585)) else lw_.j1 kj17 l1 t573 t576 t590 t600 t604 (↑(List.length t573) : Int) Bool.true else lw_.j1 kj17 l1 t573 t576 t590 t600 t604 (↑(List.length t573) : Int) Bool.true else lw_.j1 kj17 l1 t573 t576 t590 t600 t604 (↑(List.length t573) : Int) Bool.true else Option.none else lw_.j1 kj17 l1 t573 t576 t590 t600 t604 (↑(List.length t573) : Int) Bool.true else Option.none else Option.none else Option.none else lw_.j1 kj17 l1 t573 t576 t590 t600 t604 (↑(List.length t573) : Int) Bool.true else lw_.j5 kj17 l1) = Option.some r)) :
    Go.Code.wp Tryz.prog (lw_.behind 264 lw_.body) (bodyPost Tryz.prog Tryz.f4 (fun e w' => e = .returned (.bool r) ∧ Below w.heap.size w w')) (Go.Act.mk #[Aa, Value.slice A1 (List.length l1) c1,Ac,Ad, Value.bool Bool.false, Value.slice Ao20 (List.length t573) co20, v578, Value.bool t577,Ae,Af, Value.int IntKind.i64 t584, Value.int IntKind.i64 t585,Ag,Ah,Ai,Aj, Value.int IntKind.i64 t590,Ak,Al,Am, Value.int IntKind.i64 t594, Value.int IntKind.i64 t595,An,Ao,Ap,Aq, Value.int IntKind.i64 t600,Ar,As,Au, Value.string t604,Av,Aw,Ax, undef, undef, undef, undef, undef, undef, undef, undef, undef, undef, undef, undef, undef, undef, undef, undef, undef, undef, undef, undef, undef, undef, undef, undef, undef, undef, undef, undef, undef, undef, undef, undef, undef, undef, undef, undef, undef, undef, undef, undef, undef, undef, undef, undef, undef, undef, undef, undef, undef, undef, undef,Ay, undef, undef, undef,Az,AA,AB,AC,AD,AE,AF,AG,AH,AJ,AK,AL,AM,AN,AO,AP,AQ,AR,AU,AV,AW,AX,AY,AZ,Ba,Bb,Bc,Bd,Be,Bf,Bg,Bh,Bi,Bj,Bk,Bl,Bm,Bn,Bo,Bp,Bq,Br,Bs,Bt,Bu,Bv,Bw,Bx,Bz,BA,BB,BC,BD,BE,BF,BG,BH,BI,BJ,BK,BL,BM,BN,BO,BP,BQ,BR,BS,BT,BU,BV,BW,BX,BZ,B0,B1,B2,B4,B5,B6,B9,Ca,Cb,Cc,Cd,Ce,Cf,Cg,Ch,Ci,Cj,Ck,Cl,Cm,Cn,Co,Cp,Cq,Cr,Cs,Ct,Cu,Cv,Cw,Cx,Cy,Cz,CA,CB,CC,CD,CE,CF,CG,CH,CI,CJ,CK,CL,CM,CN,CO,CP,CQ,CR,CS,CT,CU,CV,CW,CX,CY,CZ,C0,C1,C2,C3,C4,C5,C6,C7,C8,C9,Da,Db,Dc,Dd,De,Df,Dg,Dh,Di,Dj,Dk,Dl,Dm,Dn,Dq,Dr,Ds,Dt,Du,Dv,Dw,Dx,Dy,Dz,DA,DB,DC,DD,DE,DF,DG,DH,DI, undef, undef, undef, undef, undef, undef, undef, undef, undef, undef, undef, undef, undef, undef, undef, undef, undef, undef, undef, undef, undef, undef, undef, undef, undef, undef, undef, undef, undef, undef, undef, undef, undef, undef, undef, undef, undef, undef, undef, undef, undef, undef, undef, undef, undef, undef, undef, undef, undef, undef, undef, undef, undef, undef, undef, undef, undef, undef, undef, undef, undef, undef, undef, undef, undef, undef, undef, undef, undef, undef, undef, undef, undef, undef, undef, undef, undef, undef, undef, undef, undef, undef, undef, undef, undef, undef, undef, undef, undef, undef, undef, undef, undef, undef, undef, undef, undef, undef, undef, undef, undef, undef, undef, undef, undef, undef, undef, undef, undef, undef, undef, undef, undef, undef, undef, undef, undef, undef, undef, undef, undef, undef, undef, undef, undef, undef, undef, undef, undef, undef, undef, undef, undef, undef, undef, undef, undef, undef, undef, undef, undef, undef, undef, undef, undef, undef, undef, undef, undef, undef, undef, undef, undef, undef, undef, undef, undef, undef, undef, undef, undef, undef, undef, undef, undef, undef, undef, undef, undef, undef, undef, undef, undef, undef, undef, undef, undef, undef, undef, undef, undef, undef, undef, undef, undef, undef, undef, undef, undef, undef, undef, undef, undef, undef, undef, undef, undef, undef, undef, undef, undef, undef, undef, undef, undef, undef, undef, undef, undef, undef, undef, undef, undef, undef, undef, undef, undef, undef, undef, undef, undef, undef, undef, undef, undef, undef, undef, undef, undef, undef, undef, undef, undef, undef, undef, undef, undef, undef, undef, undef, undef, undef, undef, undef, undef, undef, undef, undef, undef, undef, undef, undef, undef, undef, undef, undef, undef, undef, undef, undef, undef, undef, undef, undef, undef, undef, undef, undef, undef, undef, undef, undef, undef, undef, undef, undef, undef, undef, undef, undef, undef, undef, undef, undef, undef, undef, undef, undef, undef, undef, undef, undef, undef, undef, undef, undef, undef, undef, undef, undef, undef, undef, undef, undef, undef, undef, undef, undef, undef, undef, undef, undef, undef, undef, undef, undef, undef, undef, undef, undef, undef, undef, undef, undef, undef, undef, undef, undef, undef, undef, undef, undef, undef, undef, undef, undef, undef, undef, undef, undef, undef, undef, undef, undef, undef, undef, undef, undef, undef, undef, undef, undef, undef, undef, undef, undef, undef, undef, undef, undef, undef, undef, undef, undef, undef, undef, undef, undef, undef, undef, undef, undef, undef, undef, undef, undef, undef, undef, undef, undef, undef, undef, undef, undef, undef, undef, undef, undef, undef, undef, undef, undef, undef, undef, undef, undef, undef, undef, undef, undef, undef, undef, undef, undef, undef, undef, undef, undef, undef, undef, undef, undef, undef, undef, undef, undef, undef, undef, undef, undef, undef, undef, undef, undef, undef, undef, undef, undef, undef, undef, undef, undef, undef, undef, undef, undef, undef, undef, undef, undef, undef, undef, undef, undef, undef, undef, undef, undef, undef, undef, undef, undef, undef, undef, undef, undef, undef, undef, undef, undef, undef, undef, undef, undef, undef, undef, undef, undef, undef, undef, undef, undef, undef, undef, undef, undef, undef, undef, undef, undef, undef, undef, undef, undef, undef, undef, undef, undef, undef, undef, undef, undef, undef, undef, undef, undef, undef, undef, undef, undef, undef, undef, undef, undef, undef, undef] []) wc := by
  conv => arg 2; whnf
  (try conv => arg 4; dsimp only)
  go_upto_if 265 with (fail)
  go_cut [] from 100000 (fun wc => ∃ (kq : Nat), Aside0 (lw_.j5 kq l1 = some r) ∧ Aside0 (kq ≤ kj17) ∧ Aside0 (Below w.heap.size w wc))
  case first =>
   (try conv => arg 2; dsimp only [List.append_eq, List.cons_append, List.nil_append])
   have H := HC63.out
   clear HC63
   by_cases c64 : t577 = true
   rotate_left
   ·replace c64 := Bool.eq_false_iff.mpr c64
    subst c64
    rw [if_neg ft_] at H
    have H' := Aside0.mk H
    clear H
    go_wp2
    go_meet
    case rel => exact ⟨_, H', ⟨by have := HJ17.out; first | omega | exact Nat.le_refl _⟩, ⟨below_to HB⟩⟩
   subst c64
   rw [if_pos rfl] at H
   have HC65 := Aside0.mk H
   clear H
   go_upto_region 20 with (fail)
   go_cut [316] from 100000 (fun v316 wc => ∃ (kq : Nat) (x316_64 : Bool), v316 = .bool x316_64 ∧ Aside0 (lw_.j1 kq l1 t573 t576 t590 t600 t604 (t573.length : Int) x316_64 = some r) ∧ Aside0 (kq ≤ kj17) ∧ Aside0 (Kd.R k37 37 wc w.heap.size (fun _ => True) (.slice Ao20 t573.length co20) t573) ∧ Aside0 (Kd.S (Kd.slice 3 (Kd.int .i64)) 23 wc w.heap.size (fun _ => True) v578 t576) ∧ Aside0 (Below w.heap.size w wc))
   case first =>
    rename_i J_ K_ hJ_ hK_
    exact lw_.first316 k l1 r w HR_ hu37 t573 t576 t584 t585 t590 t594 t595 t600 t604 nd Ao20 co20 v578 wc HO_5 HO_6 HB kj17 HJ17 HC65 J_ K_ hJ_ hK_
   clear HC65
   (try clear c1); (try clear c64)
   obtain ⟨kq, x316_64, rfl, HA, HJ64, HO_5, HO_6, HB⟩ := hcut
   cases kq with
   | zero => exact absurd HA.out (by simp [lw_.j1])
   | succ kj64 =>
    have H := HA.out
    clear HA
    simp only [lw_.j1] at H
    by_cases c79 : x316_64 = true
    ·subst c79
     rw [if_pos rfl] at H
     exact nof_ HR_ H
    replace c79 := Bool.eq_false_iff.mpr c79
    subst c79
    rw [if_neg ft_] at H
    have H' := Aside0.mk H
    clear H
    go_wp2
    go_loopg [35, 319] kj64 (fun kq v35 v319 w' => ∃ (x35_3 : Int) (x319_3 : Int), v35 = .int .i64 x35_3 ∧ v319 = .int .i64 x319_3 ∧ Aside0 (lw_.l0 kq l1 t573 t576 t590 t600 t604 (t573.length : Int) x35_3 t573 (t573.length : Int) x319_3 = some r) ∧ Aside0 (kq ≤ kj64) ∧ Aside0 (Kd.R k37 37 w' w.heap.size (fun _ => True) (.slice Ao20 t573.length co20) t573) ∧ Aside0 (Kd.S (Kd.slice 3 (Kd.int .i64)) 23 w' w.heap.size (fun _ => True) v578 t576) ∧ Aside0 (Kd.R k37 37 w' w.heap.size (fun _ => True) (.slice Ao20 t573.length co20) t573) ∧ Aside0 (Below w.heap.size w w'))
    case atStart => exact ⟨(0), (0), rt_, rt_, H', ⟨Nat.le_refl _⟩, ⟨kd_to HO_5⟩, ⟨sd_to HO_6⟩, ⟨kd_to HO_5⟩, ⟨below_to HB⟩⟩
    clear H'
    (try clear c1); (try clear c64); (try clear c79)
    obtain ⟨x35_3, x319_3, rfl, rfl, HA, HK3, HO_5, HO_6, HO_317, HB⟩ := hrel
    cases gk with
    | zero => exact absurd HA.out (by simp [lw_.l0])
    | succ k3 =>
     have H := HA.out
     clear HA
     simp only [lw_.l0] at H
     by_cases c80 : x319_3 < (t573.length : Int)
     rotate_left
     ·rw [if_neg c80] at H
      have c80b0 := decide_eq_false c80
      clear c80
      replace H := Option.bind_eq_some_iff.mp H
      obtain ⟨⟨t649, t650⟩, A1430, H⟩ := H
      (try dsimp only at H)
      have A143 := Aside0.mk A1430
      clear A1430
      by_cases c144 : x35_3 = t590
      rotate_left
      ·rw [if_neg c144] at H
       have c144b0 := beq_eq_false_iff_ne.mpr c144
       have c144b1 := bne_iff_ne.mpr c144
       exact nof_ HR_ H
      rw [if_pos c144] at H
      have c144b0 := beq_iff_eq.mpr c144
      have c144b1 := bne_eq_false_iff_eq.mpr c144
      clear c144
      by_cases c145 : t650 = true
      ·subst c145
       rw [if_pos rfl] at H
       replace H := Option.bind_eq_some_iff.mp H
       obtain ⟨t653, A1460, H⟩ := H
       (try dsimp only at H)
       have A146 := Aside0.mk A1460
       clear A1460
       by_cases c147 : t653 = true
       ·subst c147
        rw [if_pos rfl] at H
        have H' := Aside0.mk H
        clear H
        go_wp2_with (first | ((with_reducible refine gate_callee (f := 23) rfl ?_); refine goesL_ (some 483) rfl rfl Tryz.func23 (by kernel_rfl) rfl #[.string t604] rfl am_ ?_; (with_reducible refine (impl_ParseLegs.calls k3 t604 t649 true _ A143.out ?sidet).mono ?_); (case sidet => refine Go.Proofs.YtbhnpccbjgbcbaaGreatDoor.XText.T2.on (w := w) HTab_.out ?_; repeat (first | (with_reducible first | exact HB.out | exact Below.refl _ _ | apply below_alloc | apply pw_below_drewN | apply below_drew1 | refine below_set ?_ GE619.out) | exact HB.out | exact Below.refl _ _)); rintro e w148 ⟨v651, rfl, ho0, hb⟩; refine ⟨_, rfl, ?_⟩; have n0_ := Aside0.mk (Kd.R_elder' (kd_to HO_5) (Kd.R_base ho0) hb); have n1_ := Aside0.mk (Kd.S_below (sd_to HO_6) hb); have n2_ := Aside0.mk (Kd.R_elder' (kd_to HO_317) (Kd.R_base ho0) hb); have n3_ := Aside0.mk (Kd.R_lower (Kd.R_new' (Kd.R_new' ho0 (Kd.R_lt (kd_to HO_5))) (Kd.R_lt (kd_to HO_317))) (below_size (below_to HB))); have n4_ := Aside0.mk (below_step (below_to HB) hb); clear HO_5; clear HO_6; clear HO_317; clear HB; have HO_5 := n0_; have HO_6 := n1_; have HO_317 := n2_; have HO652 := n3_; have HB := n4_; clear n0_ n1_ n2_ n3_ n4_; (try clear hb); (try clear ho0); obtain ⟨Ao149, co149, eo149⟩ := Kd.R_slice HO652.out; subst eo149) | (go_at_call 24; (with_reducible refine (laws_yLegs.calls k3 _ _ t649 _ _ t573 true _ ?side1 ?side2 ?side3 ?side4 A146.out).mono ?_); (case side1 => exact cR_ HO652); (case side2 => exact (Kd.R_reads' HO652.out).2.1); (case side3 => exact cR_ HO_5); (case side4 => exact (Kd.R_reads' HO_5.out).2.1); rintro e w' ⟨rfl, ⟨nd, rfl⟩⟩))
        go_meet
        case rel => exact ⟨_, H', ⟨by have := HJ17.out; have := HJ64.out; have := HK3.out; first | omega | exact Nat.le_refl _⟩, ⟨below_to HB⟩⟩
       ·replace c147 := Bool.eq_false_iff.mpr c147
        subst c147
        rw [if_neg ft_] at H
        exact nof_ HR_ H
      ·replace c145 := Bool.eq_false_iff.mpr c145
       subst c145
       rw [if_neg ft_] at H
       exact nof_ HR_ H
     rw [if_pos c80] at H
     have c80b0 := decide_eq_true c80
     clear c80
     by_cases c81 : 0 ≤ x319_3
     rotate_left
     ·rw [if_neg c81] at H
      cases H
     rw [if_pos c81] at H
     have c81b0 := decide_eq_true c81
     clear c81
     by_cases c82 : x319_3 < (t573.length : Int)
     rotate_left
     ·rw [if_neg c82] at H
      cases H
     rw [if_pos c82] at H
     have c82b0 := decide_eq_true c82
     clear c82
     replace H := Option.bind_eq_some_iff.mp H
     obtain ⟨⟨t620, t621, t622⟩, A830, H⟩ := H
     (try dsimp only at H)
     have A83 := Aside0.mk A830
     clear A830
     have HC84 := Aside0.mk H
     clear H
     have p618 : 0 ≤ (x319_3 : Int) := odt_
     have q618 : x319_3 < (t573.length : Int) := odt_
     obtain ⟨ad618, e618, hx618_0, hx618_1⟩ := at_T37 (Kd.R_reads' HO_317.out).2.2 x319_3 p618 q618
     cases e618
     replace p618 := eq_true p618
     replace q618 := eq_true q618
     go_upto_region 28 with (first | ((with_reducible refine gate_dst (N := 37) rfl ?_); (try (refine gate_guard (by rfl) ?_; dsimp only)); refine box_event ?hg (N := 37) ?hd (cs := #[.int .i64 0, .int .i64 0]) (t := 37) ?hr ?_; (case hd => rfl); (case hg => rfl); (case hr => first | (go_simp; done) | (go_simp; rfl)); intro gb619 hg w85 hbox hb; have n0_ := Aside0.mk (Kd.R_below (Kd.R_elderB (kd_to HO_5) gb619 (Nat.le_of_eq hg.symm)) hb); have n1_ := Aside0.mk (Kd.S_below (sd_to HO_6) hb); have n2_ := Aside0.mk (Kd.R_below (Kd.R_elderB (kd_to HO_317) gb619 (Nat.le_of_eq hg.symm)) hb); have n3_ := Aside0.mk (below_step (below_to HB) hb); have n4_ := Aside0.mk (hbox); have n5_ := Aside0.mk ((by rw [hg]; exact (below_size (below_to HB)) : w.heap.size ≤ gb619)); have n6_ := Aside0.mk ((by rw [hg]; exact (below_size (below_to HB)) : w.heap.size ≤ gb619)); clear HO_5; clear HO_6; clear HO_317; clear HB; have HO_5 := n0_; have HO_6 := n1_; have HO_317 := n2_; have HB := n3_; have BK619 := n4_; have GW619 := n5_; have GE619 := n6_; clear n0_ n1_ n2_ n3_ n4_ n5_ n6_; clear hb hbox hg; have hcz86_0 : w85.cell? ⟨gb619, 0, none⟩ = some (.int .i64 0) := (blk_cell BK619.out 0).trans rfl; have hcz86_1 : w85.cell? ⟨gb619, 1, none⟩ = some (.int .i64 0) := (blk_cell BK619.out 1).trans rfl; have hfz86_0 := blk_frozen BK619.out 0; have hfz86_1 := blk_frozen BK619.out 1) | ((with_reducible refine gate_callee (f := 21) rfl ?_); refine goesL_ (some 330) rfl rfl Tryz.func21 (by kernel_rfl) rfl #[.slice (some ad618) t573.length co20, .int .i64 0, .int .i64 1] rfl am_ ?_; (with_reducible refine (impl_PlaceOnLegs.calls k3 _ _ t573 0 1 t620 t621 t622 _ ?side1 ?side2 A83.out).mono ?_); (case side1 => refine (Kd.R_reads' (e := 37) (base := w.heap.size) (ok := fun k_ => (True ∧ k_ ≠ gb619)) (n := t573.length) (c := co20) ?_).2.2; exact (by (with_reducible repeat (first | apply Kd.R_alloc | apply Kd.R_drewN | apply Kd.R_drew)); exact (Kd.R_mono (Kd.R_far (p := ⟨gb619, 1, none⟩) (Kd.R_far (p := ⟨gb619, 0, none⟩) (Kd.R_mono HO_5.out (fun k_ hk => (⟨hk, hk.2⟩ : _ ∧ k_ ≠ gb619))) (fun _ hk => hk.2) (.int .i64 ((rd_T37 t573 x319_3).f0))) (fun _ hk => hk.2) (.int .i64 ((rd_T37 t573 x319_3).f1))) (fun _ h_ => h_.1)))); (case side2 => exact (Kd.R_reads' HO_5.out).2.1); rintro e w87 ⟨rfl, hb⟩; refine ⟨_, rfl, ?_⟩; replace HO_5 := Aside0.mk (Kd.R_below (by (with_reducible repeat (first | apply Kd.R_alloc | apply Kd.R_drewN | apply Kd.R_drew)); exact (Kd.R_mono (Kd.R_far (p := ⟨gb619, 1, none⟩) (Kd.R_far (p := ⟨gb619, 0, none⟩) (Kd.R_mono HO_5.out (fun k_ hk => (⟨hk, hk.2⟩ : _ ∧ k_ ≠ gb619))) (fun _ hk => hk.2) (.int .i64 ((rd_T37 t573 x319_3).f0))) (fun _ hk => hk.2) (.int .i64 ((rd_T37 t573 x319_3).f1))) (fun _ h_ => h_.1))) hb); replace HO_6 := Aside0.mk (Kd.S_below (by (with_reducible repeat (first | apply Kd.S_alloc | apply Kd.S_drewN | apply Kd.S_drew)); exact (Kd.S_mono (Kd.S_far (p := ⟨gb619, 1, none⟩) (Kd.S_far (p := ⟨gb619, 0, none⟩) (Kd.S_types HO_6.out BK619.out (by decide)) (fun _ hk => hk.2) (.int .i64 ((rd_T37 t573 x319_3).f0))) (fun _ hk => hk.2) (.int .i64 ((rd_T37 t573 x319_3).f1))) (fun _ h_ => h_.1))) hb); replace HO_317 := Aside0.mk (Kd.R_below (by (with_reducible repeat (first | apply Kd.R_alloc | apply Kd.R_drewN | apply Kd.R_drew)); exact (Kd.R_mono (Kd.R_far (p := ⟨gb619, 1, none⟩) (Kd.R_far (p := ⟨gb619, 0, none⟩) (Kd.R_mono HO_317.out (fun k_ hk => (⟨hk, hk.2⟩ : _ ∧ k_ ≠ gb619))) (fun _ hk => hk.2) (.int .i64 ((rd_T37 t573 x319_3).f0))) (fun _ hk => hk.2) (.int .i64 ((rd_T37 t573 x319_3).f1))) (fun _ h_ => h_.1))) hb); replace BK619 := Aside0.mk (blk_below (g := gb619) (o := .cells #[.int .i64 ((rd_T37 t573 x319_3).f0), .int .i64 ((rd_T37 t573 x319_3).f1)] 37 (0, 0)) (by (with_reducible repeat (first | refine blk_drewN ?_ _ | refine blk_drew ?_ | refine blk_alloc ?_ _)); refine blk_put (cs := #[.int .i64 ((rd_T37 t573 x319_3).f0), .int .i64 0]) ?_ 1 _ rfl; (with_reducible repeat (first | refine blk_drewN ?_ _ | refine blk_drew ?_ | refine blk_alloc ?_ _)); refine blk_put (cs := #[.int .i64 0, .int .i64 0]) ?_ 0 _ rfl; (with_reducible repeat (first | refine blk_drewN ?_ _ | refine blk_drew ?_ | refine blk_alloc ?_ _)); exact BK619.out) hb); replace HB := Aside0.mk (below_step (below_to1 HB GE619.out) hb); (try clear hb)))
     (try simp only [Act.put, List.setIfInBounds_toArray, List.set_cons_zero, List.set_cons_succ])
     go_cut [402] from 100000 (fun v402 wc => ∃ (kq : Nat) (x402_83 : Bool), v402 = .bool x402_83 ∧ Aside0 (lw_.j3 kq l1 t573 t576 t590 t600 t604 (t573.length : Int) (wrap64 (x35_3 + ((rd_T37 t573 x319_3).f0))) x319_3 t573 (t573.length : Int) x319_3 x402_83 = some r) ∧ Aside0 (kq ≤ k3) ∧ Aside0 (Kd.R k37 37 wc w.heap.size (fun k_ => k_ ≠ gb619) (.slice (some ad618) t573.length co20) t573) ∧ Aside0 (Kd.S (Kd.slice 3 (Kd.int .i64)) 23 wc w.heap.size (fun _ => True) v578 t576) ∧ Aside0 (Kd.R k37 37 wc w.heap.size (fun k_ => k_ ≠ gb619) (.slice (some ad618) t573.length co20) t573) ∧ Aside0 (wc.heap[gb619]? = some (.cells #[.int .i64 ((rd_T37 t573 x319_3).f0), .int .i64 ((rd_T37 t573 x319_3).f1)] 37 (0, 0))) ∧ Aside0 (Below w.heap.size w wc))
     case first =>
      rename_i J_ K_ hJ_ hK_
      exact lw_.first402 k l1 r w HR_ hu37 t573 t576 t590 t600 t604 nd co20 v578 kj17 HJ17 kj64 HJ64 wr u334 u335 u336 u337 u338 u339 u340 u341 u342 u343 u344 u345 u346 u347 u348 u349 u350 u351 u352 u353 u354 u355 u356 u357 u358 u359 u360 u361 u362 u363 u364 u365 u366 u367 u368 u369 u370 u371 u372 u373 u374 u375 u376 u377 u378 u379 u380 u381 u382 u383 u384 u385 u386 u387 u388 u389 u390 u391 u392 u393 u394 u395 u396 u397 u398 u399 u400 u401 u402 x35_3 x319_3 k3 HK3 c80b0 c81b0 c82b0 t620 t621 t622 HC84 ad618 hx618_0 hx618_1 p618 q618 gb619 w85 GW619 GE619 hcz86_0 hcz86_1 hfz86_0 hfz86_1 w87 HO_5 HO_6 HO_317 BK619 HB J_ K_ hJ_ hK_
     clear HC84
     (try clear c1)
     obtain ⟨kq, x402_83, rfl, HA, HJ83, HO_5, HO_6, HO_317, BK619, HB⟩ := hcut
     cases kq with
     | zero => exact absurd HA.out (by simp [lw_.j3])
     | succ kj83 =>
      have H := HA.out
      clear HA
      simp only [lw_.j3] at H
      by_cases c106 : x402_83 = true
      ·subst c106
       rw [if_pos rfl] at H
       exact nof_ HR_ H
      replace c106 := Bool.eq_false_iff.mpr c106
      subst c106
      rw [if_neg ft_] at H
      have HC107 := Aside0.mk H
      clear H
      go_upto_region 30 with (fail)
      go_cut [418] from 100000 (fun v418 wc => ∃ (kq : Nat) (x418_106 : Bool), v418 = .bool x418_106 ∧ Aside0 (lw_.j4 kq l1 t573 t576 t590 t600 t604 (t573.length : Int) (wrap64 (x35_3 + ((rd_T37 t573 x319_3).f0))) x319_3 t573 (t573.length : Int) x319_3 x418_106 = some r) ∧ Aside0 (kq ≤ kj83) ∧ Aside0 (Kd.R k37 37 wc w.heap.size (fun k_ => k_ ≠ gb619) (.slice (some ad618) t573.length co20) t573) ∧ Aside0 (Kd.S (Kd.slice 3 (Kd.int .i64)) 23 wc w.heap.size (fun _ => True) v578 t576) ∧ Aside0 (Kd.R k37 37 wc w.heap.size (fun k_ => k_ ≠ gb619) (.slice (some ad618) t573.length co20) t573) ∧ Aside0 (wc.heap[gb619]? = some (.cells #[.int .i64 ((rd_T37 t573 x319_3).f0), .int .i64 ((rd_T37 t573 x319_3).f1)] 37 (0, 0))) ∧ Aside0 (Below w.heap.size w wc))
      case first =>
       rename_i J_ K_ hJ_ hK_
       exact lw_.first418 k l1 r w hu37 t573 t576 t590 t600 t604 co20 v578 kj17 HJ17 kj64 HJ64 wr u403 u404 u405 u406 u407 u408 u409 u410 u411 u412 u413 u414 u415 u416 u417 u418 x35_3 x319_3 k3 HK3 c80b0 c81b0 c82b0 ad618 hx618_0 hx618_1 p618 q618 gb619 w85 GW619 GE619 hcz86_0 hcz86_1 hfz86_0 hfz86_1 wc HO_5 HO_6 HO_317 BK619 HB kj83 HJ83 HC107 J_ K_ hJ_ hK_
      clear HC107
      (try clear c1); (try clear c106)
      obtain ⟨kq, x418_106, rfl, HA, HJ106, HO_5, HO_6, HO_317, BK619, HB⟩ := hcut
      cases kq with
      | zero => exact absurd HA.out (by simp [lw_.j4])
      | succ kj106 =>
       have H := HA.out
       clear HA
       simp only [lw_.j4] at H
       by_cases c115 : x418_106 = true
       rotate_left
       ·rename_i Z0_ Z1_ Z2_ Z3_ Z4_ Z5_ Z6_ Z7_ Z8_ Z9_ Z10_ Z11_ Z12_ Z13_ Z14_ Z15_ Z16_ Z17_ Z18_ Z19_ Z20_ Z21_ Z22_ Z23_ Z24_ Z25_ Z26_ Z27_ Z28_ Z29_ Z30_ Z31_ Z32_ Z33_ Z34_ Z35_ Z36_ Z37_ Z38_ Z39_ Z40_ Z41_ Z42_ Z43_ Z44_ Z45_ Z46_ Z47_ Z48_ Z49_ Z50_ Z51_ Z52_ Z53_ Z54_ Z55_ Z56_ Z57_ Z58_ Z59_ Z60_ Z61_ Z62_ Z63_ Z64_ Z65_ Z66_ Z67_ Z68_ Z69_ Z70_ Z71_ Z72_ Z73_ Z74_ Z75_ Z76_ Z77_ Z78_ Z79_ Z80_ Z81_ Z82_ Z83_ Z84_ Z85_ Z86_ Z87_ Z88_ Z89_ Z90_ Z91_ Z92_ Z93_ Z94_ Z95_ Z96_ Z97_ Z98_ Z99_ Z100_ Z101_ Z102_ Z103_ Z104_ Z105_ Z106_ Z107_ Z108_ Z109_ Z110_ Z111_ Z112_ Z113_ Z114_ Z115_ Z116_ Z117_ Z118_
        exact Z118_ _ _ (lw_.halfc115n Z6_ Z7_ Z12_ Z97_ Z98_ Z104_ k l0 l1 r w hu37 t573 t576 t590 t600 t604 co20 v578 kj17 HJ17 kj64 HJ64 wr u4 u36 u37 u38 u39 u40 u41 u42 u43 u44 u45 u46 u320 u321 u322 u323 u324 u325 u326 u327 u328 u329 u330 u331 u332 u333 u402 u418 u419 u420 u421 u422 u423 u424 u425 u426 u427 u428 u429 u430 u431 u432 u433 u434 u435 u436 u437 u438 u439 u440 u441 u442 u443 u444 u445 u446 u447 u448 u449 u450 u451 u452 u453 u454 u455 u456 u457 u458 u459 u460 u461 u462 u463 u464 u465 u466 u467 u468 u469 u470 u471 u472 u473 u474 u475 u476 u477 u478 u479 u480 x35_3 x319_3 k3 HK3 c80b0 c81b0 c82b0 ad618 hx618_0 hx618_1 p618 q618 gb619 w85 GW619 GE619 hcz86_0 hcz86_1 hfz86_0 hfz86_1 u334 u335 u336 u337 u338 u339 u340 u341 u342 u343 u344 u345 u346 u347 u348 u349 u350 u351 u352 u353 u354 u355 u356 u357 u358 u359 u360 u361 u362 u363 u364 u365 u366 u367 u368 u369 u370 u371 u372 u373 u374 u375 u376 u377 u378 u379 u380 u381 u382 u383 u384 u385 u386 u387 u388 u389 u390 u391 u392 u393 u394 u395 u396 u397 u398 u399 u400 u401 kj83 HJ83 wc u403 u404 u405 u406 u407 u408 u409 u410 u411 u412 u413 u414 u415 u416 u417 x418_106 HO_5 HO_6 HO_317 HB kj106 HJ106 H c115 Z8_ Z99_ Z103_ Z105_)
       subst c115
       rw [if_pos rfl] at H
       by_cases c116 : 0 ≤ x319_3
       rotate_left
       ·rw [if_neg c116] at H
        cases H
       rw [if_pos c116] at H
       have c116b0 := decide_eq_true c116
       clear c116
       by_cases c117 : x319_3 < (t576.length : Int)
       ·rw [if_pos c117] at H
        have c117b0 := decide_eq_true c117
        clear c117
        by_cases c118 : 0 < ((rd_L2 t576 x319_3).length : Int)
        ·rw [if_pos c118] at H
         have c118b0 := decide_eq_true c118
         have c118b1 : decide (0 < (rd_L2 t576 x319_3).length) = true := decide_eq_true (by omega)
         clear c118
         by_cases c119 : 1 < ((rd_L2 t576 x319_3).length : Int)
         ·rw [if_pos c119] at H
          have c119b0 := decide_eq_true c119
          have c119b1 : decide (1 < (rd_L2 t576 x319_3).length) = true := decide_eq_true (by omega)
          clear c119
          replace H := Option.bind_eq_some_iff.mp H
          obtain ⟨⟨t640, t641, t642⟩, A1200, H⟩ := H
          (try dsimp only at H)
          have A120 := Aside0.mk A1200
          clear A1200
          replace H := Option.bind_eq_some_iff.mp H
          obtain ⟨⟨t647, t648⟩, A1210, H⟩ := H
          (try dsimp only at H)
          have A121 := Aside0.mk A1210
          clear A1210
          by_cases c122 : (wrap64 (x319_3 + 1)) = (t573.length : Int)
          ·rename_i Z0_ Z1_ Z2_ Z3_ Z4_ Z5_ Z6_ Z7_ Z8_ Z9_ Z10_ Z11_ Z12_ Z13_ Z14_ Z15_ Z16_ Z17_ Z18_ Z19_ Z20_ Z21_ Z22_ Z23_ Z24_ Z25_ Z26_ Z27_ Z28_ Z29_ Z30_ Z31_ Z32_ Z33_ Z34_ Z35_ Z36_ Z37_ Z38_ Z39_ Z40_ Z41_ Z42_ Z43_ Z44_ Z45_ Z46_ Z47_ Z48_ Z49_ Z50_ Z51_ Z52_ Z53_ Z54_ Z55_ Z56_ Z57_ Z58_ Z59_ Z60_ Z61_ Z62_ Z63_ Z64_ Z65_ Z66_ Z67_ Z68_ Z69_ Z70_ Z71_ Z72_ Z73_ Z74_ Z75_ Z76_ Z77_ Z78_ Z79_ Z80_ Z81_ Z82_ Z83_ Z84_ Z85_ Z86_ Z87_ Z88_ Z89_ Z90_ Z91_ Z92_ Z93_ Z94_ Z95_ Z96_ Z97_ Z98_ Z99_ Z100_ Z101_ Z102_ Z103_ Z104_ Z105_ Z106_ Z107_ Z108_ Z109_ Z110_ Z111_ Z112_ Z113_ Z114_ Z115_ Z116_ Z117_ Z118_
           exact Z118_ _ _ (lw_.halfc122p Z6_ Z7_ Z12_ Z97_ Z98_ Z104_ k l0 l1 r w HR_ hu37 t573 t576 t590 t600 t604 co20 v578 kj17 HJ17 kj64 HJ64 wr u4 u36 u37 u38 u39 u40 u41 u42 u43 u44 u45 u46 u320 u321 u322 u323 u324 u325 u326 u327 u328 u329 u330 u331 u332 u333 u402 u418 u419 u420 u421 u422 u423 u424 u425 u426 u427 u428 u429 u430 u431 u432 u433 u434 u435 u436 u437 u438 u439 u440 u441 u442 u443 u444 u445 u446 u447 u448 u449 u450 u451 u452 u453 u454 u455 u456 u457 u458 u459 u460 u461 u462 u463 u464 u465 u466 u467 u468 u469 u470 u471 u472 u473 u474 u475 u476 u477 u478 u479 u480 x35_3 x319_3 k3 HK3 c80b0 c81b0 c82b0 ad618 hx618_0 hx618_1 p618 q618 gb619 w85 GW619 GE619 hcz86_0 hcz86_1 hfz86_0 hfz86_1 u334 u335 u336 u337 u338 u339 u340 u341 u342 u343 u344 u345 u346 u347 u348 u349 u350 u351 u352 u353 u354 u355 u356 u357 u358 u359 u360 u361 u362 u363 u364 u365 u366 u367 u368 u369 u370 u371 u372 u373 u374 u375 u376 u377 u378 u379 u380 u381 u382 u383 u384 u385 u386 u387 u388 u389 u390 u391 u392 u393 u394 u395 u396 u397 u398 u399 u400 u401 kj83 HJ83 wc u403 u404 u405 u406 u407 u408 u409 u410 u411 u412 u413 u414 u415 u416 u417 HO_5 HO_6 HO_317 BK619 HB kj106 HJ106 c116b0 c117b0 c118b0 c118b1 c119b0 c119b1 t640 t641 t642 A120 t647 t648 H A121 c122 Z8_ Z99_ Z103_ Z105_)
          ·rename_i Z0_ Z1_ Z2_ Z3_ Z4_ Z5_ Z6_ Z7_ Z8_ Z9_ Z10_ Z11_ Z12_ Z13_ Z14_ Z15_ Z16_ Z17_ Z18_ Z19_ Z20_ Z21_ Z22_ Z23_ Z24_ Z25_ Z26_ Z27_ Z28_ Z29_ Z30_ Z31_ Z32_ Z33_ Z34_ Z35_ Z36_ Z37_ Z38_ Z39_ Z40_ Z41_ Z42_ Z43_ Z44_ Z45_ Z46_ Z47_ Z48_ Z49_ Z50_ Z51_ Z52_ Z53_ Z54_ Z55_ Z56_ Z57_ Z58_ Z59_ Z60_ Z61_ Z62_ Z63_ Z64_ Z65_ Z66_ Z67_ Z68_ Z69_ Z70_ Z71_ Z72_ Z73_ Z74_ Z75_ Z76_ Z77_ Z78_ Z79_ Z80_ Z81_ Z82_ Z83_ Z84_ Z85_ Z86_ Z87_ Z88_ Z89_ Z90_ Z91_ Z92_ Z93_ Z94_ Z95_ Z96_ Z97_ Z98_ Z99_ Z100_ Z101_ Z102_ Z103_ Z104_ Z105_ Z106_ Z107_ Z108_ Z109_ Z110_ Z111_ Z112_ Z113_ Z114_ Z115_ Z116_ Z117_ Z118_
           exact Z118_ _ _ (lw_.halfc122n Z6_ Z7_ Z12_ Z97_ Z98_ Z104_ k l0 l1 r w HR_ hu37 t573 t576 t590 t600 t604 co20 v578 kj17 HJ17 kj64 HJ64 wr u4 u36 u37 u38 u39 u40 u41 u42 u43 u44 u45 u46 u320 u321 u322 u323 u324 u325 u326 u327 u328 u329 u330 u331 u332 u333 u402 u418 u419 u420 u421 u422 u423 u424 u425 u426 u427 u428 u429 u430 u431 u432 u433 u434 u435 u436 u437 u438 u439 u440 u441 u442 u443 u444 u445 u446 u447 u448 u449 u450 u451 u452 u453 u454 u455 u456 u457 u458 u459 u460 u461 u462 u463 u464 u465 u466 u467 u468 u469 u470 u471 u472 u473 u474 u475 u476 u477 u478 u479 u480 x35_3 x319_3 k3 HK3 c80b0 c81b0 c82b0 ad618 hx618_0 hx618_1 p618 q618 gb619 w85 GW619 GE619 hcz86_0 hcz86_1 hfz86_0 hfz86_1 u334 u335 u336 u337 u338 u339 u340 u341 u342 u343 u344 u345 u346 u347 u348 u349 u350 u351 u352 u353 u354 u355 u356 u357 u358 u359 u360 u361 u362 u363 u364 u365 u366 u367 u368 u369 u370 u371 u372 u373 u374 u375 u376 u377 u378 u379 u380 u381 u382 u383 u384 u385 u386 u387 u388 u389 u390 u391 u392 u393 u394 u395 u396 u397 u398 u399 u400 u401 kj83 HJ83 wc u403 u404 u405 u406 u407 u408 u409 u410 u411 u412 u413 u414 u415 u416 u417 HO_5 HO_6 HO_317 BK619 HB kj106 HJ106 c116b0 c117b0 c118b0 c118b1 c119b0 c119b1 t640 t641 t642 A120 t647 t648 H A121 c122 Z8_ Z99_ Z103_ Z105_)
         ·rw [if_neg c119] at H
          cases H
        ·rw [if_neg c118] at H
         cases H
       ·rw [if_neg c117] at H
        cases H
  clear HC63
  (try clear c1); (try clear c64); (try clear c80); (try clear c80b0); (try clear c81); (try clear c82); (try clear c115); (try clear c116); (try clear c117); (try clear c118); (try clear c119); (try clear c144); (try clear c144b0); (try clear c144b1); (try clear c145); (try clear c147)
  obtain ⟨kq, HA, HJ62, HB⟩ := hcut
  go_step
  exact lw_.seg2 k A1 c1 l1 r w HTab_ HR_ hu37 HR1 HC1 nd kj17 HJ17 wc u4 kq HA HJ62 HB
end Go.Proofs.YtbhnpccbjgbcbaaGreatDoor.QD
