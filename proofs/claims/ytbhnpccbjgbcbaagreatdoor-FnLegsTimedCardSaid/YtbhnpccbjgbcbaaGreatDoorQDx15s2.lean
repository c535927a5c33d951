import Derived.Test.YtbhnpccbjgbcbaaGreatDoorQDx15s3
namespace Go.Proofs.YtbhnpccbjgbcbaaGreatDoor.QD
open Go.Proofs.YtbhnpccbjgbcbaaGreatDoor.X Go.RowKit Go.Proofs.YtbhnpccbjgbcbaaGreatDoorW.PrintWords Go.Proofs.YtbhnpccbjgbcbaaGreatDoorW.PrintLast Go.Proofs.YtbhnpccbjgbcbaaGreatDoorW.PrintMore
attribute [local go_sem] max2_int min2_int max_two min_two max_three min_three max_four min_four
set_option linter.unusedVariables false
set_option linter.unusedSimpArgs false
set_option maxHeartbeats 16000000 in
set_option maxRecDepth 1000000 in
theorem lw_.seg2 {Aa Ac Ad Nc Ng DJ Ae Af GU GV Ag Ah Ai Aj GW Ak Al Am GX GY An Ao Ap Aq GZ Ar As Au DK Av Aw Ax Nd L2 Nf Jq Jr Js Jt L3 L4 L5 L6 L7 L8 DL DM Ay Az AA AB AC AD AE AF AG AH AJ AK AL AM AN AO AP AQ AR AU AV AW AX AY AZ Ba Bb Bc Bd Be Bf Bg Bh Bi Bj Bk Bl Bm Bn Bo Bp Bq Br Bs Bt Bu Bv Bw Bx Bz BA BB BC BD BE BF BG BH BI BJ BK BL BM BN BO BP BQ BR BS BT BU BV BW BX BZ B0 B1 B2 B4 B5 B6 B9 Ca Cb Cc Cd Ce Cf Cg Ch Ci Cj Ck Cl Cm Cn Co Cp Cq Cr Cs Ct Cu Cv Cw Cx Cy Cz CA CB CC CD CE CF CG CH CI CJ CK CL CM CN CO CP CQ CR CS CT CU CV CW CX CY CZ C0 C1 C2 C3 C4 C5 C6 C7 C8 C9 Da Db Dc Dd De Df Dg Dh Di Dj Dk Dl Dm Dn Dq Dr Ds Dt Du Dv Dw Dx Dy Dz DA DB DC DD DE DF DG DH DI DN DO DP G0 G1 G2 G3 G4 G5 G6 G7 G8 G9 Ha Hb Hc Hd He Hf Hg Hh Hi Hj Hk Hl Hm Hn Ho Hp Hq Hr Hs Ht Hu Hv Hw Hx Hy Hz HD HE HF HG HH HI HJ HM HN HP HQ HR Ea DQ DR L9 HS HU HV HW HX HY HZ H0 H1 H2 H3 H4 H5 H6 Ju Jv Jw Jx Jy Jz JA JB JC JD JE JF JG JH JI JJ JK JL JM JN JO JP JQ JR JS JT JU JV JW JX JY JZ J0 J1 J2 J3 J4 J5 J6 J7 J8 J9 Ka Kb Ke Kf Kg Kh Ki Kj Kk Kl Km Kn Ko Kp Kq Kr Ks Kt Ku Kv Kw Kx Ky Kz KA KB Ih KC KD KE KF KG KH KI KJ KK KL KM KN KO KP KQ Nb Ma Mb Mc Md Me Mf Mg Mh Mi Mj Mk Ml Mm Mn Mo Mp Mq Mr Ms Mt Mu Mv Mw Mx My Mz MA MB MC MD ME MF MG MH MI MJ MK ML MM MN MO MP MQ MR MS MT MU MV MW MX MY MZ M0 M1 M2 M3 M4 M5 M6 M7 M8 M9 DS DT DU DV DW DX DY DZ D0 D1 D2 D3 D4 D5 D6 D7 D8 D9 : Go.Value} (k : Nat) (A1 : Option Addr) (c1 : Nat) (l1 : List Int) (r : Bool) (w : World) (HTab_ : Aside0 (YtbhnpccbjgbcbaaGreatDoor.XText.T2 w)) (HR_ : Aside0 (r = Bool.true)) (hu37 : Program.underlying Tryz.prog (37 : Nat) = Option.some (TypeDesc.struct #[Field.mk "Long" (3 : Nat) (0 : Nat) Bool.false "" "" (0 : Nat), Field.mk "Fast" (3 : Nat) (1 : Nat) Bool.false "" "" (8 : Nat)])) (HR1 : Aside0 (Kd.C (Kd.int IntKind.u8) w A1 (List.length l1) l1)) (HC1 : Aside0 (List.length l1 ≤ c1)) (nd : Nat) (kj17 : Nat) (HJ17 : Aside0 (kj17 + (1 : Nat) ≤ k)) (wc : World) (u4 : Value) (kq : Nat) (HA : Aside0 (lw_.j5 kq l1 = Option.some r)) (HJ62 : Aside0 (kq ≤ kj17)) (HB : Aside0 (Below (Array.size (World.heap w)) w wc)) :
    Go.Code.wp Tryz.prog (lw_.behind 265 lw_.body) (bodyPost Tryz.prog Tryz.f4 (fun e w' => e = .returned (.bool r) ∧ Below w.heap.size w w')) (Go.Act.mk #[Aa, Value.slice A1 (List.length l1) c1,Ac,Ad, u4,Nc,Ng,DJ,Ae,Af,GU,GV,Ag,Ah,Ai,Aj,GW,Ak,Al,Am,GX,GY,An,Ao,Ap,Aq,GZ,Ar,As,Au,DK,Av,Aw,Ax,Nd,L2,Nf,Jq,Jr,Js,Jt,L3,L4,L5,L6,L7,L8,DL,DM, undef, undef, undef, undef, undef, undef, undef, undef, undef, undef, undef, undef, undef, undef, undef, undef, undef, undef, undef, undef, undef, undef, undef, undef, undef, undef, undef, undef, undef, undef, undef, undef, undef, undef, undef, undef,Ay, undef, undef, undef,Az,AA,AB,AC,AD,AE,AF,AG,AH,AJ,AK,AL,AM,AN,AO,AP,AQ,AR,AU,AV,AW,AX,AY,AZ,Ba,Bb,Bc,Bd,Be,Bf,Bg,Bh,Bi,Bj,Bk,Bl,Bm,Bn,Bo,Bp,Bq,Br,Bs,Bt,Bu,Bv,Bw,Bx,Bz,BA,BB,BC,BD,BE,BF,BG,BH,BI,BJ,BK,BL,BM,BN,BO,BP,BQ,BR,BS,BT,BU,BV,BW,BX,BZ,B0,B1,B2,B4,B5,B6,B9,Ca,Cb,Cc,Cd,Ce,Cf,Cg,Ch,Ci,Cj,Ck,Cl,Cm,Cn,Co,Cp,Cq,Cr,Cs,Ct,Cu,Cv,Cw,Cx,Cy,Cz,CA,CB,CC,CD,CE,CF,CG,CH,CI,CJ,CK,CL,CM,CN,CO,CP,CQ,CR,CS,CT,CU,CV,CW,CX,CY,CZ,C0,C1,C2,C3,C4,C5,C6,C7,C8,C9,Da,Db,Dc,Dd,De,Df,Dg,Dh,Di,Dj,Dk,Dl,Dm,Dn,Dq,Dr,Ds,Dt,Du,Dv,Dw,Dx,Dy,Dz,DA,DB,DC,DD,DE,DF,DG,DH,DI,DN,DO,DP,G0,G1,G2,G3,G4,G5,G6,G7,G8,G9,Ha,Hb,Hc,Hd,He,Hf,Hg,Hh,Hi,Hj,Hk,Hl,Hm,Hn,Ho,Hp,Hq,Hr,Hs,Ht,Hu,Hv,Hw,Hx,Hy,Hz,HD,HE,HF,HG,HH,HI,HJ,HM,HN,HP,HQ,HR,Ea,DQ,DR,L9,HS,HU,HV,HW,HX,HY,HZ,H0,H1,H2,H3,H4,H5,H6,Ju,Jv,Jw,Jx,Jy,Jz,JA,JB,JC,JD,JE,JF,JG,JH,JI,JJ,JK,JL,JM,JN,JO,JP,JQ,JR,JS,JT,JU,JV,JW,JX,JY,JZ,J0,J1,J2,J3,J4,J5,J6,J7,J8,J9,Ka,Kb,Ke,Kf,Kg,Kh,Ki,Kj,Kk,Kl,Km,Kn,Ko,Kp,Kq,Kr,Ks,Kt,Ku,Kv,Kw,Kx,Ky,Kz,KA,KB,Ih,KC,KD,KE,KF,KG,KH,KI,KJ,KK,KL,KM,KN,KO,KP,KQ,Nb,Ma,Mb,Mc,Md,Me,Mf,Mg,Mh,Mi,Mj,Mk,Ml,Mm,Mn,Mo,Mp,Mq,Mr,Ms,Mt,Mu,Mv,Mw,Mx,My,Mz,MA,MB,MC,MD,ME,MF,MG,MH,MI,MJ,MK,ML,MM,MN,MO,MP,MQ,MR,MS,MT,MU,MV,MW,MX,MY,MZ,M0,M1,M2,M3,M4,M5,M6,M7,M8,M9,DS,DT,DU,DV,DW,DX,DY,DZ,D0,D1,D2,D3,D4,D5,D6,D7,D8,D9, undef, undef, undef, undef, undef, undef, undef, undef, undef, undef, undef, undef, undef, undef, undef, undef, undef, undef, undef, undef, undef, undef, undef, undef, undef, undef, undef, undef, undef, undef, undef, undef, undef, undef, undef, undef, undef, undef, undef, undef, undef, undef, undef, undef, undef, undef, undef, undef, undef, undef, undef, undef, undef, undef, undef, undef, undef, undef, undef, undef, undef, undef, undef, undef, undef, undef, undef, undef, undef, undef, undef, undef, undef, undef, undef, undef, undef, undef, undef, undef, undef, undef, undef, undef, undef, undef, undef, undef, undef, undef, undef, undef, undef, undef, undef, undef, undef, undef, undef, undef, undef, undef, undef, undef, undef, undef, undef, undef, undef, undef, undef, undef, undef, undef, undef, undef, undef, undef, undef, undef, undef, undef, undef, undef, undef, undef, undef, undef, undef, undef, undef, undef, undef, undef, undef, undef, undef, undef, undef, undef, undef, undef, undef, undef, undef, undef, undef, undef, undef, undef, undef, undef, undef, undef, undef, undef, undef, undef, undef, undef, undef, undef, undef, undef, undef, undef, undef, undef, undef, undef, undef, undef, undef, undef, undef, undef, undef, undef, undef, undef, undef, undef, undef, undef, undef, undef, undef, undef, undef, undef, undef, undef, undef, undef, undef, undef, undef, undef, undef, undef, undef, undef, undef, undef, undef, undef, undef, undef, undef, undef, undef, undef, undef, undef, undef, undef, undef, undef, undef, undef, undef, undef, undef, undef, undef, undef, undef, undef, undef, undef, undef, undef, undef, undef, undef, undef, undef, undef, undef, undef, undef, undef, undef, undef, undef, undef, undef, undef, undef, undef, undef, undef, undef, undef, undef, undef, undef, undef, undef, undef, undef, undef, undef, undef, undef, undef, undef, undef, undef, undef, undef, undef] []) wc := by
  conv => arg 2; whnf
  (try conv => arg 4; dsimp only)
  cases kq with
  | zero => exact absurd HA.out (by simp [lw_.j5])
  | succ kj62 =>
   have H := HA.out
   clear HA
   simp only [lw_.j5] at H
   replace H := Option.bind_eq_some_iff.mp H
   obtain ⟨⟨t654, t655, t656⟩, A1500, H⟩ := H
   (try dsimp only at H)
   have A150 := Aside0.mk A1500
   clear A1500
   replace H := Option.bind_eq_some_iff.mp H
   obtain ⟨⟨t659, t660, t661⟩, A1510, H⟩ := H
   (try dsimp only at H)
   have A151 := Aside0.mk A1510
   clear A1510
   replace H := Option.bind_eq_some_iff.mp H
   obtain ⟨⟨t662, t663, t664⟩, A1520, H⟩ := H
   (try dsimp only at H)
   have A152 := Aside0.mk A1520
   clear A1520
   replace H := Option.bind_eq_some_iff.mp H
   obtain ⟨⟨t665, t666⟩, A1530, H⟩ := H
   (try dsimp only at H)
   have A153 := Aside0.mk A1530
   clear A1530
   replace H := Option.bind_eq_some_iff.mp H
   obtain ⟨⟨t667, t668⟩, A1540, H⟩ := H
   (try dsimp only at H)
   have A154 := Aside0.mk A1540
   clear A1540
   replace H := Option.bind_eq_some_iff.mp H
   obtain ⟨t669, A1550, H⟩ := H
   (try dsimp only at H)
   have A155 := Aside0.mk A1550
   clear A1550
   replace H := Option.bind_eq_some_iff.mp H
   obtain ⟨⟨t672, t673, t674⟩, A1560, H⟩ := H
   (try dsimp only at H)
   have A156 := Aside0.mk A1560
   clear A1560
   replace H := Option.bind_eq_some_iff.mp H
   obtain ⟨⟨t675, t676, t677⟩, A1570, H⟩ := H
   (try dsimp only at H)
   have A157 := Aside0.mk A1570
   clear A1570
   replace H := Option.bind_eq_some_iff.mp H
   obtain ⟨⟨t678, t679, t680⟩, A1580, H⟩ := H
   (try dsimp only at H)
   have A158 := Aside0.mk A1580
   clear A1580
   replace H := Option.bind_eq_some_iff.mp H
   obtain ⟨⟨t681, t682, t683⟩, A1590, H⟩ := H
   (try dsimp only at H)
   have A159 := Aside0.mk A1590
   clear A1590
   replace H := Option.bind_eq_some_iff.mp H
   obtain ⟨t684, A1600, H⟩ := H
   (try dsimp only at H)
   have A160 := Aside0.mk A1600
   clear A1600
   replace H := Option.bind_eq_some_iff.mp H
   obtain ⟨⟨t685, t686⟩, A1610, H⟩ := H
   (try dsimp only at H)
   have A161 := Aside0.mk A1610
   clear A1610
   replace H := Option.bind_eq_some_iff.mp H
   obtain ⟨⟨t689, t690⟩, A1620, H⟩ := H
   (try dsimp only at H)
   have A162 := Aside0.mk A1620
   clear A1620
   have HC163 := Aside0.mk H
   clear H
   go_upto_region 55 with (first | ((with_reducible refine gate_callee (f := 34) rfl ?_); refine goesL_ (some 501) rfl rfl Tryz.func34 (by kernel_rfl) rfl #[.slice A1 l1.length c1] rfl am_ ?_; (with_reducible refine (spec_DrawPlaceOnLegs.calls kj62 _ _ l1 t654 t655 t656 _ ?side1 ?side2 A150.out).mono ?_); (case side1 => exact cb_ HR1 HB); (case side2 => exact HC1.out); rintro e w164 ⟨v657, rfl, ho0, hb⟩; refine ⟨_, rfl, ?_⟩; have HO658 := Aside0.mk (Kd.R_lower ho0 (below_size (below_to HB))); replace HB := Aside0.mk (below_step (below_to HB) hb); (try clear hb); (try clear ho0); obtain ⟨Ao165, co165, eo165⟩ := Kd.R_slice HO658.out; subst eo165) | ((with_reducible refine gate_callee (f := 21) rfl ?_); refine goesL_ (some 509) rfl rfl Tryz.func21 (by kernel_rfl) rfl #[.slice Ao165 t654.length co165, .int .i64 t655, .int .i64 t656] rfl am_ ?_; (with_reducible refine (impl_PlaceOnLegs.calls kj62 _ _ t654 t655 t656 t659 t660 t661 _ ?side1 ?side2 A151.out).mono ?_); (case side1 => exact cR_ HO658); (case side2 => exact (Kd.R_reads' HO658.out).2.1); rintro e w166 ⟨rfl, hb⟩; refine ⟨_, rfl, ?_⟩; replace HO658 := Aside0.mk (Kd.R_below (kd_to HO658) hb); replace HB := Aside0.mk (below_step (below_to HB) hb); (try clear hb)) | ((with_reducible refine gate_callee (f := 25) rfl ?_); refine goesL_ (some 517) rfl rfl Tryz.func25 (by kernel_rfl) rfl #[.slice Ao165 t654.length co165, .int .i64 t655, .int .i64 t656] rfl am_ ?_; (with_reducible refine (spec_PlaceOnLegs.calls kj62 _ _ t654 t655 t656 t662 t663 t664 _ ?side1 ?side2 A152.out).mono ?_); (case side1 => exact cR_ HO658); (case side2 => exact (Kd.R_reads' HO658.out).2.1); rintro e w167 ⟨rfl, hb⟩; refine ⟨_, rfl, ?_⟩; replace HO658 := Aside0.mk (Kd.R_below (kd_to HO658) hb); replace HB := Aside0.mk (below_step (below_to HB) hb); (try clear hb)) | ((with_reducible refine gate_callee (f := 22) rfl ?_); refine goesL_ (some 525) rfl rfl Tryz.func22 (by kernel_rfl) rfl #[.slice Ao165 t654.length co165, .int .i64 t655, .int .i64 t656] rfl am_ ?_; (with_reducible refine (impl_LegAt.calls kj62 _ _ t654 t655 t656 t665 t666 _ ?side1 ?side2 A153.out).mono ?_); (case side1 => exact cR_ HO658); (case side2 => exact (Kd.R_reads' HO658.out).2.1); rintro e w168 ⟨rfl, hb⟩; refine ⟨_, rfl, ?_⟩; replace HO658 := Aside0.mk (Kd.R_below (kd_to HO658) hb); replace HB := Aside0.mk (below_step (below_to HB) hb); (try clear hb)) | ((with_reducible refine gate_callee (f := 26) rfl ?_); refine goesL_ (some 532) rfl rfl Tryz.func26 (by kernel_rfl) rfl #[.slice Ao165 t654.length co165, .int .i64 t655, .int .i64 t656] rfl am_ ?_; (with_reducible refine (spec_LegAt.calls kj62 _ _ t654 t655 t656 t667 t668 _ ?side1 ?side2 A154.out).mono ?_); (case side1 => exact cR_ HO658); (case side2 => exact (Kd.R_reads' HO658.out).2.1); rintro e w169 ⟨rfl, hb⟩; refine ⟨_, rfl, ?_⟩; replace HO658 := Aside0.mk (Kd.R_below (kd_to HO658) hb); replace HB := Aside0.mk (below_step (below_to HB) hb); (try clear hb)) | ((with_reducible refine gate_callee (f := 35) rfl ?_); refine goesL_ (some 536) rfl rfl Tryz.func35 (by kernel_rfl) rfl #[.slice A1 l1.length c1] rfl am_ ?_; (with_reducible refine (spec_DrawMeanByHalves.calls kj62 _ _ l1 t669 _ ?side1 ?side2 A155.out).mono ?_); (case side1 => exact cb_ HR1 HB); (case side2 => exact HC1.out); rintro e w170 ⟨v670, rfl, ho0, hb⟩; refine ⟨_, rfl, ?_⟩; have n0_ := Aside0.mk (Kd.R_below (kd_to HO658) hb); have n1_ := Aside0.mk (Kd.V_lower (Kd.V_mono (ok' := fun k_ => some k_ ≠ (.slice Ao165 t654.length co165 : Value).ownBlock) ho0 (fun k_ hk_ => (Kd.fresh' (Kd.R_lt (kd_to HO658)) k_ hk_))) (below_size (below_to HB))); have n2_ := Aside0.mk (below_step (below_to HB) hb); clear HO658; clear HB; have HO658 := n0_; have HO671 := n1_; have HB := n2_; clear n0_ n1_ n2_; (try clear hb); (try clear ho0); obtain ⟨Ao171, co171, eo171⟩ := Kd.V_slice HO671.out; subst eo171) | ((with_reducible refine gate_callee (f := 27) rfl ?_); refine goesL_ (some 539) rfl rfl Tryz.func27 (by kernel_rfl) rfl #[.slice Ao171 t669.length co171] rfl am_ ?_; (with_reducible refine (impl_MeanByHalves.calls kj62 _ _ t669 t672 t673 t674 _ ?side1 ?side2 A156.out).mono ?_); (case side1 => repeat (first | exact (Kd.V_reads' HO671.out).2.2 | (with_reducible refine Kd.C_alloc ?_ _) | (with_reducible refine Kd.C_drewN ?_ _) | (with_reducible refine Kd.C_drew ?_))); (case side2 => exact (Kd.V_reads' HO671.out).2.1); rintro e w172 ⟨rfl, hb⟩; refine ⟨_, rfl, ?_⟩; replace HO658 := Aside0.mk (Kd.R_below (kd_to HO658) hb); replace HO671 := Aside0.mk (Kd.V_below (vd_to HO671) hb); replace HB := Aside0.mk (below_step (below_to HB) hb); (try clear hb)) | ((with_reducible refine gate_callee (f := 28) rfl ?_); refine goesL_ (some 545) rfl rfl Tryz.func28 (by kernel_rfl) rfl #[.slice Ao171 t669.length co171] rfl am_ ?_; (with_reducible refine (spec_MeanByHalves.calls kj62 _ _ t669 t675 t676 t677 _ ?side1 ?side2 A157.out).mono ?_); (case side1 => repeat (first | exact (Kd.V_reads' HO671.out).2.2 | (with_reducible refine Kd.C_alloc ?_ _) | (with_reducible refine Kd.C_drewN ?_ _) | (with_reducible refine Kd.C_drew ?_))); (case side2 => exact (Kd.V_reads' HO671.out).2.1); rintro e w173 ⟨rfl, hb⟩; refine ⟨_, rfl, ?_⟩; replace HO658 := Aside0.mk (Kd.R_below (kd_to HO658) hb); replace HO671 := Aside0.mk (Kd.V_below (vd_to HO671) hb); replace HB := Aside0.mk (below_step (below_to HB) hb); (try clear hb)) | ((with_reducible refine gate_callee (f := 29) rfl ?_); refine goesL_ (some 551) rfl rfl Tryz.func29 (by kernel_rfl) rfl #[.slice Ao171 t669.length co171] rfl am_ ?_; (with_reducible refine (impl_MeanByTimes.calls kj62 _ _ t669 t678 t679 t680 _ ?side1 ?side2 A158.out).mono ?_); (case side1 => repeat (first | exact (Kd.V_reads' HO671.out).2.2 | (with_reducible refine Kd.C_alloc ?_ _) | (with_reducible refine Kd.C_drewN ?_ _) | (with_reducible refine Kd.C_drew ?_))); (case side2 => exact (Kd.V_reads' HO671.out).2.1); rintro e w174 ⟨rfl, hb⟩; refine ⟨_, rfl, ?_⟩; replace HO658 := Aside0.mk (Kd.R_below (kd_to HO658) hb); replace HO671 := Aside0.mk (Kd.V_below (vd_to HO671) hb); replace HB := Aside0.mk (below_step (below_to HB) hb); (try clear hb)) | ((with_reducible refine gate_callee (f := 30) rfl ?_); refine goesL_ (some 557) rfl rfl Tryz.func30 (by kernel_rfl) rfl #[.slice Ao171 t669.length co171] rfl am_ ?_; (with_reducible refine (spec_MeanByTimes.calls kj62 _ _ t669 t681 t682 t683 _ ?side1 ?side2 A159.out).mono ?_); (case side1 => repeat (first | exact (Kd.V_reads' HO671.out).2.2 | (with_reducible refine Kd.C_alloc ?_ _) | (with_reducible refine Kd.C_drewN ?_ _) | (with_reducible refine Kd.C_drew ?_))); (case side2 => exact (Kd.V_reads' HO671.out).2.1); rintro e w' ⟨rfl, ⟨nd, rfl⟩⟩; refine ⟨_, rfl, ?_⟩) | ((with_reducible refine gate_callee (f := 36) rfl ?_); refine goesL_ (some 562) rfl rfl Tryz.func36 (by kernel_rfl) rfl #[.slice A1 l1.length c1] rfl am_ ?_; (with_reducible refine (spec_DrawParseLegs.calls kj62 _ _ l1 t684 _ ?side1 ?side2 A160.out).mono ?_); (case side1 => repeat (first | exact (Kd.C_below HR1.out (below_to HB)) | (with_reducible refine Kd.C_alloc ?_ _) | (with_reducible refine Kd.C_drewN ?_ _) | (with_reducible refine Kd.C_drew ?_))); (case side2 => exact HC1.out); rintro e w175 ⟨rfl, hb⟩; refine ⟨_, rfl, ?_⟩; replace HO658 := Aside0.mk (Kd.R_below (kd_to HO658) hb); replace HO671 := Aside0.mk (Kd.V_below (vd_to HO671) hb); replace HB := Aside0.mk (below_step (below_to HB) hb); (try clear hb)) | ((with_reducible refine gate_callee (f := 23) rfl ?_); refine goesL_ (some 565) rfl rfl Tryz.func23 (by kernel_rfl) rfl #[.string t684] rfl am_ ?_; (with_reducible refine (impl_ParseLegs.calls kj62 t684 t685 t686 _ A161.out ?sidet).mono ?_); (case sidet => refine Go.Proofs.YtbhnpccbjgbcbaaGreatDoor.XText.T2.on (w := w) HTab_.out ?_; repeat (first | (with_reducible first | exact HB.out | exact Below.refl _ _ | apply below_alloc | apply pw_below_drewN | apply below_drew1 | refine below_set ?_ GE619.out) | exact HB.out | exact Below.refl _ _)); rintro e w176 ⟨v687, rfl, ho0, hb⟩; refine ⟨_, rfl, ?_⟩; have n0_ := Aside0.mk (Kd.R_elder' (kd_to HO658) (Kd.R_base ho0) hb); have n1_ := Aside0.mk (Kd.V_elder' (vd_to HO671) (Kd.R_base ho0) hb); have n2_ := Aside0.mk (Kd.R_lower (Kd.R_new' ho0 (Kd.R_lt (kd_to HO658))) (below_size (below_to HB))); have n3_ := Aside0.mk (below_step (below_to HB) hb); clear HO658; clear HO671; clear HB; have HO658 := n0_; have HO671 := n1_; have HO688 := n2_; have HB := n3_; clear n0_ n1_ n2_ n3_; (try clear hb); (try clear ho0)) | ((with_reducible refine gate_callee (f := 31) rfl ?_); refine goesL_ (some 570) rfl rfl Tryz.func31 (by kernel_rfl) rfl #[.string t684] rfl am_ ?_; (with_reducible refine (spec_ParseLegs.calls kj62 t684 t689 t690 _ A162.out).mono ?_); rintro e w177 ⟨v691, rfl, ho0, hb⟩; refine ⟨_, rfl, ?_⟩; have n0_ := Aside0.mk (Kd.R_elder' (kd_to HO658) (Kd.R_base ho0) hb); have n1_ := Aside0.mk (Kd.V_elder' (vd_to HO671) (Kd.R_base ho0) hb); have n2_ := Aside0.mk (Kd.R_elder' (kd_to HO688) (Kd.R_base ho0) hb); have n3_ := Aside0.mk (Kd.R_lower (Kd.R_new' (Kd.R_new' ho0 (Kd.R_lt (kd_to HO658))) (Kd.R_lt (kd_to HO688))) (below_size (below_to HB))); have n4_ := Aside0.mk (below_step (below_to HB) hb); clear HO658; clear HO671; clear HO688; clear HB; have HO658 := n0_; have HO671 := n1_; have HO688 := n2_; have HO692 := n3_; have HB := n4_; clear n0_ n1_ n2_ n3_ n4_; (try clear hb); (try clear ho0)))
   (try simp only [Act.put, List.setIfInBounds_toArray, List.set_cons_zero, List.set_cons_succ])
   go_cut [646] from 100000 (fun v646 wc => ∃ (kq : Nat) (x646_162 : Bool), v646 = .bool x646_162 ∧ Aside0 (lw_.j6 kq t654 t659 t660 t661 t665 t669 t672 t673 t674 t678 t679 t684 t685 t686 x646_162 = some r) ∧ Aside0 (kq ≤ kj62) ∧ Aside0 (Kd.R k37 37 wc w.heap.size (fun k_ => some k_ ≠ (v687 : Value).ownBlock) (.slice Ao165 t654.length co165) t654) ∧ Aside0 (Kd.V (Kd.int .i64) 3 wc w.heap.size (fun k_ => some k_ ≠ ((.slice Ao165 t654.length co165) : Value).ownBlock ∧ some k_ ≠ (v687 : Value).ownBlock) (.slice Ao171 t669.length co171) t669) ∧ Aside0 (Kd.R k37 37 wc w.heap.size (fun k_ => some k_ ≠ ((.slice Ao165 t654.length co165) : Value).ownBlock) v687 t685) ∧ Aside0 (Below w.heap.size w wc))
   case first =>
    (try conv => arg 2; dsimp only [List.append_eq, List.cons_append, List.nil_append])
    have H := HC163.out
    clear HC163
    by_cases c178 : (t661 != t664) = true
    ·rw [if_pos c178] at H
     have c178b0 : (t661 != t664) = true := c178
     (try (have c178b1 : decide (t661 = t664) = false := by simpa using c178))
     (try (have c178b2 : (t661 == t664) = false := by simpa using c178))
     (try (have c178b3 : ¬ (t661 = t664) := by simpa using c178))
     clear c178
     (first | rw [c178b0] | (simp only [i64_w, i32_w]; rw [c178b0]) | skip)
     exact absurd H (by rw [HR_.out]; cases kj62 <;> simp [lw_.j6])
    rw [if_neg c178] at H
    have c178b0 : (t661 != t664) = false := by simpa using c178
    (try (have c178b1 : decide (t661 = t664) = true := by simpa using c178))
    (try (have c178b2 : (t661 == t664) = true := by simpa using c178))
    clear c178
    (first | rw [c178b0] | (simp only [i64_w, i32_w]; rw [c178b0]) | skip)
    by_cases c179 : t659 = t662
    rotate_left
    ·rw [if_neg c179] at H
     have c179b0 := beq_eq_false_iff_ne.mpr c179
     have c179b1 := bne_iff_ne.mpr c179
     exact absurd H (by rw [HR_.out]; cases kj62 <;> simp [lw_.j6])
    rw [if_pos c179] at H
    have c179b0 := beq_iff_eq.mpr c179
    have c179b1 := bne_eq_false_iff_eq.mpr c179
    clear c179
    by_cases c180 : t660 = t663
    rotate_left
    ·rw [if_neg c180] at H
     have c180b0 := beq_eq_false_iff_ne.mpr c180
     have c180b1 := bne_iff_ne.mpr c180
     exact absurd H (by rw [HR_.out]; cases kj62 <;> simp [lw_.j6])
    rw [if_pos c180] at H
    have c180b0 := beq_iff_eq.mpr c180
    have c180b1 := bne_eq_false_iff_eq.mpr c180
    clear c180
    by_cases c181 : (t666 != t668) = true
    ·rw [if_pos c181] at H
     have c181b0 : (t666 != t668) = true := c181
     (try (have c181b1 : decide (t666 = t668) = false := by simpa using c181))
     (try (have c181b2 : (t666 == t668) = false := by simpa using c181))
     (try (have c181b3 : ¬ (t666 = t668) := by simpa using c181))
     clear c181
     exact absurd H (by rw [HR_.out]; cases kj62 <;> simp [lw_.j6])
    rw [if_neg c181] at H
    have c181b0 : (t666 != t668) = false := by simpa using c181
    (try (have c181b1 : decide (t666 = t668) = true := by simpa using c181))
    (try (have c181b2 : (t666 == t668) = true := by simpa using c181))
    clear c181
    by_cases c182 : t665 = t667
    rotate_left
    ·rw [if_neg c182] at H
     have c182b0 := beq_eq_false_iff_ne.mpr c182
     have c182b1 := bne_iff_ne.mpr c182
     exact absurd H (by rw [HR_.out]; cases kj62 <;> simp [lw_.j6])
    rw [if_pos c182] at H
    have c182b0 := beq_iff_eq.mpr c182
    have c182b1 := bne_eq_false_iff_eq.mpr c182
    clear c182
    by_cases c183 : (t666 != t661) = true
    ·rw [if_pos c183] at H
     have c183b0 : (t666 != t661) = true := c183
     (try (have c183b1 : decide (t666 = t661) = false := by simpa using c183))
     (try (have c183b2 : (t666 == t661) = false := by simpa using c183))
     (try (have c183b3 : ¬ (t666 = t661) := by simpa using c183))
     clear c183
     exact absurd H (by rw [HR_.out]; cases kj62 <;> simp [lw_.j6])
    rw [if_neg c183] at H
    have c183b0 : (t666 != t661) = false := by simpa using c183
    (try (have c183b1 : decide (t666 = t661) = true := by simpa using c183))
    (try (have c183b2 : (t666 == t661) = true := by simpa using c183))
    clear c183
    by_cases c184 : (t674 != t677) = true
    ·rw [if_pos c184] at H
     have c184b0 : (t674 != t677) = true := c184
     (try (have c184b1 : decide (t674 = t677) = false := by simpa using c184))
     (try (have c184b2 : (t674 == t677) = false := by simpa using c184))
     (try (have c184b3 : ¬ (t674 = t677) := by simpa using c184))
     clear c184
     exact absurd H (by rw [HR_.out]; cases kj62 <;> simp [lw_.j6])
    rw [if_neg c184] at H
    have c184b0 : (t674 != t677) = false := by simpa using c184
    (try (have c184b1 : decide (t674 = t677) = true := by simpa using c184))
    (try (have c184b2 : (t674 == t677) = true := by simpa using c184))
    clear c184
    by_cases c185 : t672 = t675
    rotate_left
    ·rw [if_neg c185] at H
     have c185b0 := beq_eq_false_iff_ne.mpr c185
     have c185b1 := bne_iff_ne.mpr c185
     exact absurd H (by rw [HR_.out]; cases kj62 <;> simp [lw_.j6])
    rw [if_pos c185] at H
    have c185b0 := beq_iff_eq.mpr c185
    have c185b1 := bne_eq_false_iff_eq.mpr c185
    clear c185
    by_cases c186 : t673 = t676
    rotate_left
    ·rw [if_neg c186] at H
     have c186b0 := beq_eq_false_iff_ne.mpr c186
     have c186b1 := bne_iff_ne.mpr c186
     exact absurd H (by rw [HR_.out]; cases kj62 <;> simp [lw_.j6])
    rw [if_pos c186] at H
    have c186b0 := beq_iff_eq.mpr c186
    have c186b1 := bne_eq_false_iff_eq.mpr c186
    clear c186
    by_cases c187 : (t680 != t683) = true
    ·rw [if_pos c187] at H
     have c187b0 : (t680 != t683) = true := c187
     (try (have c187b1 : decide (t680 = t683) = false := by simpa using c187))
     (try (have c187b2 : (t680 == t683) = false := by simpa using c187))
     (try (have c187b3 : ¬ (t680 = t683) := by simpa using c187))
     clear c187
     exact absurd H (by rw [HR_.out]; cases kj62 <;> simp [lw_.j6])
    rw [if_neg c187] at H
    have c187b0 : (t680 != t683) = false := by simpa using c187
    (try (have c187b1 : decide (t680 = t683) = true := by simpa using c187))
    (try (have c187b2 : (t680 == t683) = true := by simpa using c187))
    clear c187
    by_cases c188 : t678 = t681
    rotate_left
    ·rw [if_neg c188] at H
     have c188b0 := beq_eq_false_iff_ne.mpr c188
     have c188b1 := bne_iff_ne.mpr c188
     exact absurd H (by rw [HR_.out]; cases kj62 <;> simp [lw_.j6])
    rw [if_pos c188] at H
    have c188b0 := beq_iff_eq.mpr c188
    have c188b1 := bne_eq_false_iff_eq.mpr c188
    clear c188
    by_cases c189 : t679 = t682
    rotate_left
    ·rw [if_neg c189] at H
     have c189b0 := beq_eq_false_iff_ne.mpr c189
     have c189b1 := bne_iff_ne.mpr c189
     exact absurd H (by rw [HR_.out]; cases kj62 <;> simp [lw_.j6])
    rw [if_pos c189] at H
    have c189b0 := beq_iff_eq.mpr c189
    have c189b1 := bne_eq_false_iff_eq.mpr c189
    clear c189
    by_cases c190 : (t680 != t674) = true
    ·rw [if_pos c190] at H
     have c190b0 : (t680 != t674) = true := c190
     (try (have c190b1 : decide (t680 = t674) = false := by simpa using c190))
     (try (have c190b2 : (t680 == t674) = false := by simpa using c190))
     (try (have c190b3 : ¬ (t680 = t674) := by simpa using c190))
     clear c190
     exact absurd H (by rw [HR_.out]; cases kj62 <;> simp [lw_.j6])
    ·rw [if_neg c190] at H
     have c190b0 : (t680 != t674) = false := by simpa using c190
     (try (have c190b1 : decide (t680 = t674) = true := by simpa using c190))
     (try (have c190b2 : (t680 == t674) = true := by simpa using c190))
     clear c190
     by_cases c191 : (t686 != t690) = true
     ·rw [if_pos c191] at H
      have c191b0 : (t686 != t690) = true := c191
      (try (have c191b1 : decide (t686 = t690) = false := by simpa using c191))
      (try (have c191b2 : (t686 == t690) = false := by simpa using c191))
      (try (have c191b3 : ¬ (t686 = t690) := by simpa using c191))
      clear c191
      exact absurd H (by rw [HR_.out]; cases kj62 <;> simp [lw_.j6])
     ·rw [if_neg c191] at H
      have c191b0 : (t686 != t690) = false := by simpa using c191
      (try (have c191b1 : decide (t686 = t690) = true := by simpa using c191))
      (try (have c191b2 : (t686 == t690) = true := by simpa using c191))
      clear c191
      replace H := Option.bind_eq_some_iff.mp H
      obtain ⟨t693, A1920, H⟩ := H
      (try dsimp only at H)
      have A192 := Aside0.mk A1920
      clear A1920
      have H' := Aside0.mk H
      clear H
      obtain ⟨Ao193, co193, eo193⟩ := Kd.R_slice HO688.out
      subst eo193
      obtain ⟨Ao194, co194, eo194⟩ := Kd.R_slice HO692.out
      subst eo194
      go_wp2_with (first | (go_at_call 24; (with_reducible refine (laws_yLegs.calls kj62 _ _ t685 _ _ t689 t693 _ ?side1 ?side2 ?side3 ?side4 A192.out).mono ?_); (case side1 => exact cR_ HO688); (case side2 => exact (Kd.R_reads' HO688.out).2.1); (case side3 => exact cR_ HO692); (case side4 => exact (Kd.R_reads' HO692.out).2.1); rintro e w' ⟨rfl, ⟨nd, rfl⟩⟩))
      go_meet
      case rel => exact ⟨_, (!t693), rt_, H', ⟨by have := HJ17.out; have := HJ62.out; first | omega | exact Nat.le_refl _⟩, ⟨by (with_reducible repeat (first | apply Kd.R_alloc | apply Kd.R_drewN | apply Kd.R_drew)); exact Kd.R_mono HO658.out (fun _ hk => hk.1.2)⟩, ⟨by (with_reducible repeat (first | apply Kd.V_alloc | apply Kd.V_drewN | apply Kd.V_drew)); exact Kd.V_mono HO671.out (fun _ hk => ⟨hk.1.1, hk.1.2⟩)⟩, ⟨by (with_reducible repeat (first | apply Kd.R_alloc | apply Kd.R_drewN | apply Kd.R_drew)); exact Kd.R_mono HO688.out (fun _ hk => hk.1.2)⟩, ⟨below_to HB⟩⟩
   clear HC163
   (try clear c1); (try clear c178); (try clear c178b0); (try clear c178b1); (try clear c178b2); (try clear c179); (try clear c179b0); (try clear c179b1); (try clear c180); (try clear c180b0); (try clear c180b1); (try clear c181); (try clear c181b0); (try clear c181b1); (try clear c181b2); (try clear c182); (try clear c182b0); (try clear c182b1); (try clear c183); (try clear c183b0); (try clear c183b1); (try clear c183b2); (try clear c184); (try clear c184b0); (try clear c184b1); (try clear c184b2); (try clear c185); (try clear c185b0); (try clear c185b1); (try clear c186); (try clear c186b0); (try clear c186b1); (try clear c187); (try clear c187b0); (try clear c187b1); (try clear c187b2); (try clear c188); (try clear c188b0); (try clear c188b1); (try clear c189); (try clear c189b0); (try clear c189b1); (try clear c190); (try clear c190b0); (try clear c190b1); (try clear c190b2); (try clear c191); (try clear c191b0); (try clear c191b1); (try clear c191b2)
   obtain ⟨kq, x646_162, rfl, HA, HJ162, HO_49, HO_62, HO_76, HB⟩ := hcut
   cases kq with
   | zero => exact absurd HA.out (by simp [lw_.j6])
   | succ kj162 =>
    have H := HA.out
    clear HA
    simp only [lw_.j6] at H
    by_cases c195 : x646_162 = true
    ·subst c195
     rw [if_pos rfl] at H
     exact nof_ HR_ H
    ·replace c195 := Bool.eq_false_iff.mpr c195
     subst c195
     rw [if_neg ft_] at H
     have HC196 := Aside0.mk H
     clear H
     go_step
     go_step
     go_step
     go_step
     go_step
     exact lw_.seg3 k l1 r w HTab_ HR_ hu37 kj17 HJ17 u4 kj62 HJ62 t654 t659 t660 t661 t665 t669 t672 t673 t674 t678 t679 t684 t685 t686 Ao165 co165 Ao171 co171 nd v687 wc HO_49 HO_62 HO_76 HB kj162 HJ162 HC196
end Go.Proofs.YtbhnpccbjgbcbaaGreatDoor.QD
