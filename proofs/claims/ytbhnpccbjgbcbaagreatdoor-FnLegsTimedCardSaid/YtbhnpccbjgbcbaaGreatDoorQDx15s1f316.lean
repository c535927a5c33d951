import Derived.Test.YtbhnpccbjgbcbaaGreatDoorQDx15s1r
namespace Go.Proofs.YtbhnpccbjgbcbaaGreatDoor.QD
open Go.Proofs.YtbhnpccbjgbcbaaGreatDoor.X Go.RowKit Go.Proofs.YtbhnpccbjgbcbaaGreatDoorW.PrintWords Go.Proofs.YtbhnpccbjgbcbaaGreatDoorW.PrintLast Go.Proofs.YtbhnpccbjgbcbaaGreatDoorW.PrintMore
attribute [local go_sem] max2_int min2_int max_two min_two max_three min_three max_four min_four
set_option linter.unusedVariables false
set_option linter.unusedSimpArgs false
variable {Aa Ab Ac Ad Na Nc DJ Ae Af Ag Ah Ai Aj Ak Al Am An Ao Ap Aq GZ Ar As Au DK Av Aw Ax L2 Nf Jq Jr Js Jt L3 L4 L5 L6 L7 L8 DL DM H7 Eb Ec H8 H9 Ia Ed Ee Ef Ib Eg Eh Ei KR KS KT KU Ej Ek El KV KW Em En Eo Ep KX KY KZ Er Es Ic Id Ie Ig K0 Ay K1 K2 K3 Az AA AB AC AD AE AF AG AH AJ AK AL AM AN AO AP AQ AR AU AV AW AX AY AZ Ba Bb Bc Bd Be Bf Bg Bh Bi Bj Bk Bl Bm Bn Bo Bp Bq Br Bs Bt Bu Bv Bw Bx Bz BA BB BC BD BE BF BG BH BI BJ BK BL BM BN BO BP BQ BR BS BT BU BV BW BX BZ B0 B1 B2 B4 B5 B6 B9 Ca Cb Cc Cd Ce Cf Cg Ch Ci Cj Ck Cl Cm Cn Co Cp Cq Cr Cs Ct Cu Cv Cw Cx Cy Cz CA CB CC CD CE CF CG CH CI CJ CK CL CM CN CO CP CQ CR CS CT CU CV CW CX CY CZ C0 C1 C2 C3 C4 C5 C6 C7 C8 C9 Da Db Dc Dd De Df Dg Dh Di Dj Dk Dl Dm Dn Dq Dr Ds Dt Du Dv Dw Dx Dy Dz DA DB DC DD DE DF DG DH DI DN DO DP Ea DQ DR L9 HS HU HV HW HX HY HZ H0 H1 H2 H3 H4 H5 H6 Ju Jv Jw Jx Jy Jz JA JB JC JD JE JF JG JH JI JJ JK JL JM JN JO JP JQ JR JS JT JU JV JW JX JY JZ J0 J1 J2 J3 J4 J5 J6 J7 J8 J9 Ka Kb Ke Kf Kg Kh Ki Kj Kk Kl Km Kn Ko Kp Kq Kr Ks Kt Ku Kv Kw Kx Ky Kz KA KB Ih KC KD KE KF KG KH KI KJ KK KL KM KN KO KP KQ Nb Ma Mb Mc Md Me Mf Mg Mh Mi Mj Mk Ml Mm Mn Mo Mp Mq Mr Ms Mt Mu Mv Mw Mx My Mz MA MB MC MD ME MF MG MH MI MJ MK ML MM MN MO MP MQ MR MS MT MU MV MW MX MY MZ M0 M1 M2 M3 M4 M5 M6 M7 M8 M9 DS DT DU DV DW DX DY DZ D0 D1 D2 D3 D4 D5 D6 D7 D8 D9 Et Eu Ew Ex Ey Ez EA EB EC ED EE EF EG EH EI EJ EK EL EM EN EO EP EQ ER ES ET EU EV EW EX EY EZ E0 E1 E2 E3 E4 E5 E6 E7 E8 E9 Fa Fb Fc Fd Fe Ff Fg Fh Fi Fj Fk Fl Fm Fn Fo Fp Fq Fr Fs Ft Fu Fv Fw Fx Fy Fz FA FB FC FD FE FF FG FH FI FJ FL FM FN FO FP FQ FR FS FT FU FV FW FX FY FZ F0 F1 F2 F3 F4 F5 F6 F7 F8 F9 Ga Gb Gc Gd Ge Gf Gg Gh Gi Gj Gk Gl Gm Gn Gp Gq Gr Gs Gt Gu Gv Gw Gx Gy Gz GA GB GC GD GE GF GG GH GI GJ GK GL GM GN GO GP GQ GR GS GT Ii Ij Ik Il Im Io Ip Iq Ir Is It Iu Iv Iw Ix Iy Iz IA IB IC ID IE IF IG IH II IJ IK IL IM IP IQ IR IU IV IW IX IY IZ I0 I1 I2 I3 I4 I5 I6 I7 I8 I9 Ja Jb Jc Jd Je Jf Jg Jh Ji Jj Jk Jl Jm Jn Jo Jp K4 K5 K6 K7 K8 K9 La Lb Lc Ld Le Lf Lg Lh Li Lj Lk Lm Ln Lo Lp Lq Lr Ls Lt Lu Lv Lw Lx Ly Lz LA LB LC LD LE LF LG LH LI LJ LK LL LM LN LO LP LQ LR LS LT LU LV LW LX LY LZ L0 L1 GU GV GW GX GY Nd G0 G1 G2 G3 G4 G5 G6 G7 G8 G9 Ha Hb Hc Hd He Hf Hg Hh Hi Hj Hk Hl Hm Hn Ho Hp Hq Hr Hs Ht Hu Hv Hw Hx Hy Hz HD HE HF HG HH HI HJ HM HN HP HQ HR : Value}
set_option maxHeartbeats 16000000 in
set_option maxRecDepth 1000000 in
theorem lw_.first316 {Kz0_ Kz1_ : Act → World → Prop} (k : Nat) (l1 : List Int) (r : Bool) (w : World) (HR_ : Aside0 (r = Bool.true)) (hu37 : Program.underlying Tryz.prog (37 : Nat) = Option.some (TypeDesc.struct #[Field.mk "Long" (3 : Nat) (0 : Nat) Bool.false "" "" (0 : Nat), Field.mk "Fast" (3 : Nat) (1 : Nat) Bool.false "" "" (8 : Nat)])) (t573 : List S37) (t576 : List (List Int)) (t584 t585 t590 t594 t595 t600 : Int) (t604 : ByteArray) (nd : Nat) (Ao20 : Option Addr) (co20 : Nat) (v578 : Value) (wc : World) (HO_5 : Aside0 (Kd.R k37 (37 : Nat) wc (Array.size (World.heap w)) (fun x => True) (Value.slice Ao20 (List.length t573) co20) t573)) (HO_6 : Aside0 (Kd.S (Kd.slice (3 : Nat) (Kd.int IntKind.i64)) (23 : Nat) wc (Array.size (World.heap w)) (fun x => True) v578 t576)) (HB : Aside0 (Below (Array.size (World.heap w)) w wc)) (kj17 : Nat) (HJ17 : Aside0 (kj17 + (1 : Nat) ≤ k)) (HC65 : Aside0 ((if (↑(List.length t576) : Int) = (↑(List.length t573) : Int) then if (0 : Int) ≤ wrap64 ((↑(List.length t573) : Int) - (1 : Int)) then if wrap64 ((↑(List.length t573) : Int) - (1 : Int)) < (↑(List.length t576) : Int) then if (0 : Int) < (↑(List.length (rd_L2 t576 (wrap64 ((↑(List.length t573) : Int) - (1 : Int))))) : Int) then if rd (rd_L2 t576 (wrap64 ((↑(List.length t573) : Int) - (1 : Int)))) (0 : Int) = t584 then if (1 : Int) < (↑(List.length (rd_L2 t576 (wrap64 ((↑(List.length t573) : Int) - (1 : Int))))) : Int) then if rd (rd_L2 t576 (wrap64 ((↑(List.length t573) : Int) - (1 : Int)))) (1 : Int) = t585 then Option.bind (laws_yLow.f kj17 t584 t585) fun t616 => if t616 = Bool.true then Option.bind (laws_yLow.f kj17 t594 t595) fun t617 => if t617 = Bool.true then lw_.j1 kj17 l1 t573 t576 t590 t600 t604 (↑(List.length t573) : Int) (wrap64 (t594 * t584) != wrap64 (wrap64 (t590 * t595) * t585)) else lw_.j1 kj17 l1 t573 t576 t590 t600 t604 (↑(List.length t573) : Int) Bool.true else lw_.j1 kj17 l1 t573 t576 t590 t600 t604 (↑(List.length t573) : Int) Bool.true else lw_.j1 kj17 l1 t573 t576 t590 t600 t604 (↑(List.length t573) : Int) Bool.true else Option.none else lw_.j1 kj17 l1 t573 t576 t590 t600 t604 (↑(List.length t573) : Int) Bool.true else Option.none else Option.none else Option.none else lw_.j1 kj17 l1 t573 t576 t590 t600 t604 (↑(List.length t573) : Int) Bool.true) = Option.some r)) (J_ K_ : Act → World → Prop) (hJ_ : ∀ (a' : Act) (w' : World), (∃ u268 u269 u270 u271 u272 u273 u274 u275 u276 u277 u278 u279 u280 u281 u282 u283 u284 u285 u286 u287 u288 u289 u290 u291 u292 u293 u294 u295 u296 u297 u298 u299 u300 u301 u302 u303 u304 u305 u306 u307 u308 u309 u310 u311 u312 u313 u314 u315 u316, (∃ kq x316_64, u316 = Value.bool x316_64 ∧ Aside0 (lw_.j1 kq l1 t573 t576 t590 t600 t604 (↑(List.length t573) : Int) x316_64 = Option.some r) ∧ Aside0 (kq ≤ kj17) ∧ Aside0 (Kd.R k37 (37 : Nat) w' (Array.size (World.heap w)) (fun x => True) (Value.slice Ao20 (List.length t573) co20) t573) ∧ Aside0 (Kd.S (Kd.slice (3 : Nat) (Kd.int IntKind.i64)) (23 : Nat) w' (Array.size (World.heap w)) (fun x => True) v578 t576) ∧ Aside0 (Below (Array.size (World.heap w)) w w')) ∧ a' = Act.mk #[Aa,Ab,Ac,Ad,Na,Nc, v578,DJ,Ae,Af, Value.int IntKind.i64 t584, Value.int IntKind.i64 t585,Ag,Ah,Ai,Aj, Value.int IntKind.i64 t590,Ak,Al,Am, Value.int IntKind.i64 t594, Value.int IntKind.i64 t595,An,Ao,Ap,Aq,GZ,Ar,As,Au,DK,Av,Aw,Ax, Value.int IntKind.i64 (↑(List.length t573) : Int), L2,Nf,Jq,Jr,Js,Jt,L3,L4,L5,L6,L7,L8,DL,DM,H7,Eb,Ec,H8,H9,Ia,Ed,Ee,Ef,Ib,Eg,Eh,Ei,KR,KS,KT,KU,Ej,Ek,El,KV,KW,Em,En,Eo,Ep,KX,KY,KZ,Er,Es,Ic,Id,Ie,Ig,K0,Ay,K1,K2,K3,Az,AA,AB,AC,AD,AE,AF,AG,AH,AJ,AK,AL,AM,AN,AO,AP,AQ,AR,AU,AV,AW,AX,AY,AZ,Ba,Bb,Bc,Bd,Be,Bf,Bg,Bh,Bi,Bj,Bk,Bl,Bm,Bn,Bo,Bp,Bq,Br,Bs,Bt,Bu,Bv,Bw,Bx,Bz,BA,BB,BC,BD,BE,BF,BG,BH,BI,BJ,BK,BL,BM,BN,BO,BP,BQ,BR,BS,BT,BU,BV,BW,BX,BZ,B0,B1,B2,B4,B5,B6,B9,Ca,Cb,Cc,Cd,Ce,Cf,Cg,Ch,Ci,Cj,Ck,Cl,Cm,Cn,Co,Cp,Cq,Cr,Cs,Ct,Cu,Cv,Cw,Cx,Cy,Cz,CA,CB,CC,CD,CE,CF,CG,CH,CI,CJ,CK,CL,CM,CN,CO,CP,CQ,CR,CS,CT,CU,CV,CW,CX,CY,CZ,C0,C1,C2,C3,C4,C5,C6,C7,C8,C9,Da,Db,Dc,Dd,De,Df,Dg,Dh,Di,Dj,Dk,Dl,Dm,Dn,Dq,Dr,Ds,Dt,Du,Dv,Dw,Dx,Dy,Dz,DA,DB,DC,DD,DE,DF,DG,DH,DI,DN,DO,DP, u268, u269, u270, u271, u272, u273, u274, u275, u276, u277, u278, u279, u280, u281, u282, u283, u284, u285, u286, u287, u288, u289, u290, u291, u292, u293, u294, u295, u296, u297, u298, u299, u300, u301, u302, u303, u304, u305, u306, u307, u308, u309, u310, u311, u312, u313, u314, u315, u316,DQ,DR,L9,HS,HU,HV,HW,HX,HY,HZ,H0,H1,H2,H3,H4,H5,H6,Ju,Jv,Jw,Jx,Jy,Jz,JA,JB,JC,JD,JE,JF,JG,JH,JI,JJ,JK,JL,JM,JN,JO,JP,JQ,JR,JS,JT,JU,JV,JW,JX,JY,JZ,J0,J1,J2,J3,J4,J5,J6,J7,J8,J9,Ka,Kb,Ke,Kf,Kg,Kh,Ki,Kj,Kk,Kl,Km,Kn,Ko,Kp,Kq,Kr,Ks,Kt,Ku,Kv,Kw,Kx,Ky,Kz,KA,KB,Ih,KC,KD,KE,KF,KG,KH,KI,KJ,KK,KL,KM,KN,KO,KP,KQ,Nb,Ma,Mb,Mc,Md,Me,Mf,Mg,Mh,Mi,Mj,Mk,Ml,Mm,Mn,Mo,Mp,Mq,Mr,Ms,Mt,Mu,Mv,Mw,Mx,My,Mz,MA,MB,MC,MD,ME,MF,MG,MH,MI,MJ,MK,ML,MM,MN,MO,MP,MQ,MR,MS,MT,MU,MV,MW,MX,MY,MZ,M0,M1,M2,M3,M4,M5,M6,M7,M8,M9,DS,DT,DU,DV,DW,DX,DY,DZ,D0,D1,D2,D3,D4,D5,D6,D7,D8,D9,Et,Eu,Ew,Ex,Ey,Ez,EA,EB,EC,ED,EE,EF,EG,EH,EI,EJ,EK,EL,EM,EN,EO,EP,EQ,ER,ES,ET,EU,EV,EW,EX,EY,EZ,E0,E1,E2,E3,E4,E5,E6,E7,E8,E9,Fa,Fb,Fc,Fd,Fe,Ff,Fg,Fh,Fi,Fj,Fk,Fl,Fm,Fn,Fo,Fp,Fq,Fr,Fs,Ft,Fu,Fv,Fw,Fx,Fy,Fz,FA,FB,FC,FD,FE,FF,FG,FH,FI,FJ,FL,FM,FN,FO,FP,FQ,FR,FS,FT,FU,FV,FW,FX,FY,FZ,F0,F1,F2,F3,F4,F5,F6,F7,F8,F9,Ga,Gb,Gc,Gd,Ge,Gf,Gg,Gh,Gi,Gj,Gk,Gl,Gm,Gn,Gp,Gq,Gr,Gs,Gt,Gu,Gv,Gw,Gx,Gy,Gz,GA,GB,GC,GD,GE,GF,GG,GH,GI,GJ,GK,GL,GM,GN,GO,GP,GQ,GR,GS,GT,Ii,Ij,Ik,Il,Im,Io,Ip,Iq,Ir,Is,It,Iu,Iv,Iw,Ix,Iy,Iz,IA,IB,IC,ID,IE,IF,IG,IH,II,IJ,IK,IL,IM,IP,IQ,IR,IU,IV,IW,IX,IY,IZ,I0,I1,I2,I3,I4,I5,I6,I7,I8,I9,Ja,Jb,Jc,Jd,Je,Jf,Jg,Jh,Ji,Jj,Jk,Jl,Jm,Jn,Jo,Jp,K4,K5,K6,K7,K8,K9,La,Lb,Lc,Ld,Le,Lf,Lg,Lh,Li,Lj,Lk,Lm,Ln,Lo,Lp,Lq,Lr,Ls,Lt,Lu,Lv,Lw,Lx,Ly,Lz,LA,LB,LC,LD,LE,LF,LG,LH,LI,LJ,LK,LL,LM,LN,LO,LP,LQ,LR,LS,LT,LU,LV,LW,LX,LY,LZ,L0,L1] []) → J_ a' w') (hK_ : ∀ a' w', Met J_ a' w' → K_ a' w') :
    Code.wp Tryz.prog ((lw_.reg 20 lw_.body).getD .skip) (Exit.then K_ (Exit.then Kz1_ (Exit.then Kz0_ (bodyPost Tryz.prog Tryz.f4 fun e w' => e = Ending.returned (Value.bool r) ∧ Below (Array.size (World.heap w)) w w')))) (Act.mk #[Aa,Ab,Ac,Ad,Na,Nc, v578,DJ,Ae,Af, Value.int IntKind.i64 t584, Value.int IntKind.i64 t585,Ag,Ah,Ai,Aj, Value.int IntKind.i64 t590,Ak,Al,Am, Value.int IntKind.i64 t594, Value.int IntKind.i64 t595,An,Ao,Ap,Aq,GZ,Ar,As,Au,DK,Av,Aw,Ax, Value.int IntKind.i64 (↑(List.length t573) : Int), L2,Nf,Jq,Jr,Js,Jt,L3,L4,L5,L6,L7,L8,DL,DM,H7,Eb,Ec,H8,H9,Ia,Ed,Ee,Ef,Ib,Eg,Eh,Ei,KR,KS,KT,KU,Ej,Ek,El,KV,KW,Em,En,Eo,Ep,KX,KY,KZ,Er,Es,Ic,Id,Ie,Ig,K0,Ay,K1,K2,K3,Az,AA,AB,AC,AD,AE,AF,AG,AH,AJ,AK,AL,AM,AN,AO,AP,AQ,AR,AU,AV,AW,AX,AY,AZ,Ba,Bb,Bc,Bd,Be,Bf,Bg,Bh,Bi,Bj,Bk,Bl,Bm,Bn,Bo,Bp,Bq,Br,Bs,Bt,Bu,Bv,Bw,Bx,Bz,BA,BB,BC,BD,BE,BF,BG,BH,BI,BJ,BK,BL,BM,BN,BO,BP,BQ,BR,BS,BT,BU,BV,BW,BX,BZ,B0,B1,B2,B4,B5,B6,B9,Ca,Cb,Cc,Cd,Ce,Cf,Cg,Ch,Ci,Cj,Ck,Cl,Cm,Cn,Co,Cp,Cq,Cr,Cs,Ct,Cu,Cv,Cw,Cx,Cy,Cz,CA,CB,CC,CD,CE,CF,CG,CH,CI,CJ,CK,CL,CM,CN,CO,CP,CQ,CR,CS,CT,CU,CV,CW,CX,CY,CZ,C0,C1,C2,C3,C4,C5,C6,C7,C8,C9,Da,Db,Dc,Dd,De,Df,Dg,Dh,Di,Dj,Dk,Dl,Dm,Dn,Dq,Dr,Ds,Dt,Du,Dv,Dw,Dx,Dy,Dz,DA,DB,DC,DD,DE,DF,DG,DH,DI,DN,DO,DP, undef, undef, undef, undef, undef, undef, undef, undef, undef, undef, undef, undef, undef, undef, undef, undef, undef, undef, undef, undef, undef, undef, undef, undef, undef, undef, undef, undef, undef, undef, undef, undef, undef, undef, undef, undef, undef, undef, undef, undef, undef, undef, undef, undef, undef, undef, undef, undef,Ea,DQ,DR,L9,HS,HU,HV,HW,HX,HY,HZ,H0,H1,H2,H3,H4,H5,H6,Ju,Jv,Jw,Jx,Jy,Jz,JA,JB,JC,JD,JE,JF,JG,JH,JI,JJ,JK,JL,JM,JN,JO,JP,JQ,JR,JS,JT,JU,JV,JW,JX,JY,JZ,J0,J1,J2,J3,J4,J5,J6,J7,J8,J9,Ka,Kb,Ke,Kf,Kg,Kh,Ki,Kj,Kk,Kl,Km,Kn,Ko,Kp,Kq,Kr,Ks,Kt,Ku,Kv,Kw,Kx,Ky,Kz,KA,KB,Ih,KC,KD,KE,KF,KG,KH,KI,KJ,KK,KL,KM,KN,KO,KP,KQ,Nb,Ma,Mb,Mc,Md,Me,Mf,Mg,Mh,Mi,Mj,Mk,Ml,Mm,Mn,Mo,Mp,Mq,Mr,Ms,Mt,Mu,Mv,Mw,Mx,My,Mz,MA,MB,MC,MD,ME,MF,MG,MH,MI,MJ,MK,ML,MM,MN,MO,MP,MQ,MR,MS,MT,MU,MV,MW,MX,MY,MZ,M0,M1,M2,M3,M4,M5,M6,M7,M8,M9,DS,DT,DU,DV,DW,DX,DY,DZ,D0,D1,D2,D3,D4,D5,D6,D7,D8,D9,Et,Eu,Ew,Ex,Ey,Ez,EA,EB,EC,ED,EE,EF,EG,EH,EI,EJ,EK,EL,EM,EN,EO,EP,EQ,ER,ES,ET,EU,EV,EW,EX,EY,EZ,E0,E1,E2,E3,E4,E5,E6,E7,E8,E9,Fa,Fb,Fc,Fd,Fe,Ff,Fg,Fh,Fi,Fj,Fk,Fl,Fm,Fn,Fo,Fp,Fq,Fr,Fs,Ft,Fu,Fv,Fw,Fx,Fy,Fz,FA,FB,FC,FD,FE,FF,FG,FH,FI,FJ,FL,FM,FN,FO,FP,FQ,FR,FS,FT,FU,FV,FW,FX,FY,FZ,F0,F1,F2,F3,F4,F5,F6,F7,F8,F9,Ga,Gb,Gc,Gd,Ge,Gf,Gg,Gh,Gi,Gj,Gk,Gl,Gm,Gn,Gp,Gq,Gr,Gs,Gt,Gu,Gv,Gw,Gx,Gy,Gz,GA,GB,GC,GD,GE,GF,GG,GH,GI,GJ,GK,GL,GM,GN,GO,GP,GQ,GR,GS,GT,Ii,Ij,Ik,Il,Im,Io,Ip,Iq,Ir,Is,It,Iu,Iv,Iw,Ix,Iy,Iz,IA,IB,IC,ID,IE,IF,IG,IH,II,IJ,IK,IL,IM,IP,IQ,IR,IU,IV,IW,IX,IY,IZ,I0,I1,I2,I3,I4,I5,I6,I7,I8,I9,Ja,Jb,Jc,Jd,Je,Jf,Jg,Jh,Ji,Jj,Jk,Jl,Jm,Jn,Jo,Jp,K4,K5,K6,K7,K8,K9,La,Lb,Lc,Ld,Le,Lf,Lg,Lh,Li,Lj,Lk,Lm,Ln,Lo,Lp,Lq,Lr,Ls,Lt,Lu,Lv,Lw,Lx,Ly,Lz,LA,LB,LC,LD,LE,LF,LG,LH,LI,LJ,LK,LL,LM,LN,LO,LP,LQ,LR,LS,LT,LU,LV,LW,LX,LY,LZ,L0,L1] []) wc := by
  conv => arg 2; whnf
  (try conv => arg 4; dsimp only)
  (try conv => arg 2; dsimp only [List.append_eq, List.cons_append, List.nil_append])
  have H := HC65.out
  clear HC65
  by_cases c66 : (t576.length : Int) = (t573.length : Int)
  rotate_left
  ·rw [if_neg c66] at H
   have c66b0 := beq_eq_false_iff_ne.mpr c66
   have c66b1 := bne_iff_ne.mpr c66
   have c66b2 : (t576.length == t573.length) = false := by first | simpa using c66 | (simp at c66 ⊢; omega)
   (first | rw [c66b0] | (simp only [i64_w, i32_w]; rw [c66b0]) | skip)
   exact absurd H (by rw [HR_.out]; cases kj17 <;> simp [lw_.j1])
  rw [if_pos c66] at H
  have c66b0 := beq_iff_eq.mpr c66
  have c66b1 := bne_eq_false_iff_eq.mpr c66
  have c66b2 : (t576.length == t573.length) = true := by first | simpa using c66 | (simp at c66 ⊢; omega)
  clear c66
  (first | rw [c66b0] | (simp only [i64_w, i32_w]; rw [c66b0]) | skip)
  obtain ⟨ji67, hji67⟩ : ∃ j_ : Int, (wrap64 ((t573.length : Int) - 1)) = j_ := ⟨_, rfl⟩
  replace H : (if 0 ≤ (ji67) then (if (ji67) < (t576.length : Int) then (if 0 < ((rd_L2 t576 (ji67)).length : Int) then (if (rd (rd_L2 t576 (ji67)) 0) = t584 then (if 1 < ((rd_L2 t576 (ji67)).length : Int) then (if (rd (rd_L2 t576 (ji67)) 1) = t585 then ((laws_yLow.f kj17 t584 t585).bind fun t616 => (if t616 = true then ((laws_yLow.f kj17 t594 t595).bind fun t617 => (if t617 = true then (lw_.j1 kj17 l1 t573 t576 t590 t600 t604 (t573.length : Int) ((wrap64 (t594 * t584)) != (wrap64 ((wrap64 (t590 * t595)) * t585)))) else (lw_.j1 kj17 l1 t573 t576 t590 t600 t604 (t573.length : Int) true))) else (lw_.j1 kj17 l1 t573 t576 t590 t600 t604 (t573.length : Int) true))) else (lw_.j1 kj17 l1 t573 t576 t590 t600 t604 (t573.length : Int) true)) else (none)) else (lw_.j1 kj17 l1 t573 t576 t590 t600 t604 (t573.length : Int) true)) else (none)) else (none)) else (none)) = some r := by first | (rw [hji67] at H; exact H) | (simp only [hji67] at H ⊢; exact H)
  have hji67w : (IntKind.i64.wrap ((t573.length : Int) - 1)) = ji67 := (i64_w _).trans hji67
  by_cases c68 : 0 ≤ (ji67)
  rotate_left
  ·rw [if_neg c68] at H
   cases H
  rw [if_pos c68] at H
  have c68b0 := decide_eq_true c68
  clear c68
  by_cases c69 : (ji67) < (t576.length : Int)
  rotate_left
  ·rw [if_neg c69] at H
   cases H
  rw [if_pos c69] at H
  have c69b0 := decide_eq_true c69
  clear c69
  by_cases c70 : 0 < ((rd_L2 t576 (ji67)).length : Int)
  rotate_left
  ·rw [if_neg c70] at H
   cases H
  rw [if_pos c70] at H
  have c70b0 := decide_eq_true c70
  have c70b1 : decide (0 < (rd_L2 t576 (ji67)).length) = true := decide_eq_true (by omega)
  clear c70
  by_cases c71 : (rd (rd_L2 t576 (ji67)) 0) = t584
  rotate_left
  ·rw [if_neg c71] at H
   have c71b0 := beq_eq_false_iff_ne.mpr c71
   have c71b1 := bne_iff_ne.mpr c71
   exact absurd H (by rw [HR_.out]; cases kj17 <;> simp [lw_.j1])
  rw [if_pos c71] at H
  have c71b0 := beq_iff_eq.mpr c71
  have c71b1 := bne_eq_false_iff_eq.mpr c71
  clear c71
  by_cases c72 : 1 < ((rd_L2 t576 (ji67)).length : Int)
  rotate_left
  ·rw [if_neg c72] at H
   cases H
  rw [if_pos c72] at H
  have c72b0 := decide_eq_true c72
  have c72b1 : decide (1 < (rd_L2 t576 (ji67)).length) = true := decide_eq_true (by omega)
  clear c72
  by_cases c73 : (rd (rd_L2 t576 (ji67)) 1) = t585
  rotate_left
  ·rw [if_neg c73] at H
   have c73b0 := beq_eq_false_iff_ne.mpr c73
   have c73b1 := bne_iff_ne.mpr c73
   exact absurd H (by rw [HR_.out]; cases kj17 <;> simp [lw_.j1])
  rw [if_pos c73] at H
  have c73b0 := beq_iff_eq.mpr c73
  have c73b1 := bne_eq_false_iff_eq.mpr c73
  clear c73
  replace H := Option.bind_eq_some_iff.mp H
  obtain ⟨t616, A740, H⟩ := H
  (try dsimp only at H)
  have A74 := Aside0.mk A740
  clear A740
  by_cases c75 : t616 = true
  rotate_left
  ·replace c75 := Bool.eq_false_iff.mpr c75
   subst c75
   rw [if_neg ft_] at H
   exact absurd H (by rw [HR_.out]; cases kj17 <;> simp [lw_.j1])
  subst c75
  rw [if_pos rfl] at H
  replace H := Option.bind_eq_some_iff.mp H
  obtain ⟨t617, A760, H⟩ := H
  (try dsimp only at H)
  have A76 := Aside0.mk A760
  clear A760
  by_cases c77 : t617 = true
  rotate_left
  ·replace c77 := Bool.eq_false_iff.mpr c77
   subst c77
   rw [if_neg ft_] at H
   exact absurd H (by rw [HR_.out]; cases kj17 <;> simp [lw_.j1])
  subst c77
  rw [if_pos rfl] at H
  have H' := Aside0.mk H
  clear H
  obtain ⟨Ao78, co78, eo78⟩ := Kd.S_slice HO_6.out
  subst eo78
  have p612 : 0 ≤ ((ji67) : Int) := odt_
  have q612 : (ji67) < (t576.length : Int) := odt_
  obtain ⟨ad612, A612_0, c612_0, e612, hx612_0, hl612_0, hi612_0⟩ := at_L2 (Kd.S_reads' HO_6.out).2.2 (ji67) p612 q612
  cases e612
  obtain ⟨ce612, hce612, hMe612, hcc612⟩ := Kd.S_get HO_6.out [] (ji67) p612 (by first | exact q612 | exact of_decide_eq_true (by first | (with_reducible assumption) | assumption) | (have e_ := (Kd.S_reads' HO_6.out).1; omega))
  obtain ⟨ve612_0, rfl, ge612_0⟩ := hMe612
  have hv612_0 := hcc612 0 _ rfl
  rw [Nat.add_zero, show ((Kd.slice 3 (Kd.int .i64))).sz = 1 from rfl, Nat.mul_one] at hv612_0
  replace hv612_0 := Option.some.inj (hv612_0.symm.trans hx612_0)
  rw [hv612_0] at ge612_0
  have HL612_0 := Aside0.mk (show Kd.R (Kd.int .i64) 3 _ _ _ _ (rd_L2 t576 (ji67)) from ge612_0)
  clear hv612_0 ge612_0
  clear hcc612 hce612
  have HR612_0 := Aside0.mk hi612_0
  have HC612_0 := Aside0.mk hl612_0
  clear hi612_0 hl612_0
  replace p612 := eq_true p612
  replace q612 := eq_true q612
  have p613 : 0 ≤ (0 : Int) := (by omega)
  have q613 : 0 < ((rd_L2 t576 (ji67)).length : Int) := odt_
  obtain ⟨ad613, e613, hx613_0⟩ := Kd.at_int (by repeat (first | (with_reducible exact HR612_0.out) | (with_reducible refine Kd.C_alloc ?_ _) | (with_reducible refine Kd.C_drewN ?_ _) | (with_reducible refine Kd.C_drew ?_) | exact HR612_0.out)) 0 p613 q613
  cases e613
  have qi613 : (0 < (rd_L2 t576 (ji67)).length) = True := eq_true (by omega)
  (try rw [show ((0 : Int)).toNat = 0 from rfl] at hx613_0)
  (try rw [Addr.add_zero'] at hx613_0)
  replace p613 := eq_true p613
  replace q613 := eq_true q613
  have p614 : 0 ≤ ((ji67) : Int) := odt_
  have q614 : (ji67) < (t576.length : Int) := odt_
  obtain ⟨ad614, A614_0, c614_0, e614, hx614_0, hl614_0, hi614_0⟩ := at_L2 (Kd.S_reads' HO_6.out).2.2 (ji67) p614 q614
  obtain rfl : ad612 = ad614 := (by injection e614)
  obtain ⟨ce614, hce614, hMe614, hcc614⟩ := Kd.S_get HO_6.out [] (ji67) p614 (by first | exact q614 | exact of_decide_eq_true (by first | (with_reducible assumption) | assumption) | (have e_ := (Kd.S_reads' HO_6.out).1; omega))
  obtain ⟨ve614_0, rfl, ge614_0⟩ := hMe614
  have hv614_0 := hcc614 0 _ rfl
  rw [Nat.add_zero, show ((Kd.slice 3 (Kd.int .i64))).sz = 1 from rfl, Nat.mul_one] at hv614_0
  replace hv614_0 := Option.some.inj (hv614_0.symm.trans hx614_0)
  rw [hv614_0] at ge614_0
  have HL614_0 := Aside0.mk (show Kd.R (Kd.int .i64) 3 _ _ _ _ (rd_L2 t576 (ji67)) from ge614_0)
  clear hv614_0 ge614_0
  clear hcc614 hce614
  have HR614_0 := Aside0.mk hi614_0
  have HC614_0 := Aside0.mk hl614_0
  clear hi614_0 hl614_0
  replace p614 := eq_true p614
  replace q614 := eq_true q614
  have ea_ := Option.some.inj (hx612_0.symm.trans hx614_0)
  injection ea_ with ea_ en_ ec_
  subst ea_
  subst ec_
  clear en_
  have p615 : 0 ≤ (1 : Int) := (by omega)
  have q615 : 1 < ((rd_L2 t576 (ji67)).length : Int) := odt_
  obtain ⟨ad615, e615, hx615_0⟩ := Kd.at_int (by repeat (first | (with_reducible exact HR614_0.out) | (with_reducible refine Kd.C_alloc ?_ _) | (with_reducible refine Kd.C_drewN ?_ _) | (with_reducible refine Kd.C_drew ?_) | exact HR614_0.out)) 1 p615 q615
  cases e615
  (try simp only [show (1 : Int).toNat = 1 from rfl, Nat.reduceMul, Nat.reduceEqDiff, Go.Addr.add, ↓reduceIte] at hx615_0)
  have qi615 : (1 < (rd_L2 t576 (ji67)).length) = True := eq_true (by omega)
  (try rw [show ((1 : Int)).toNat = 1 from rfl] at hx615_0)
  replace p615 := eq_true p615
  replace q615 := eq_true q615
  go_wp2_with (first | (go_at_call 20; (with_reducible refine (laws_yLow.calls kj17 t584 t585 true _ A74.out).mono ?_); rintro e w' ⟨rfl, ⟨nd, rfl⟩⟩) | (go_at_call 20; (with_reducible refine (laws_yLow.calls kj17 t594 t595 true _ A76.out).mono ?_); rintro e w' ⟨rfl, ⟨nd, rfl⟩⟩))
  go_meet
  case rel => exact ⟨_, (((wrap64 (t594 * t584)) != (wrap64 ((wrap64 (t590 * t595)) * t585)))), rt_, H', ⟨by have := HJ17.out; first | omega | exact Nat.le_refl _⟩, ⟨kd_to HO_5⟩, ⟨sd_to HO_6⟩, ⟨below_to HB⟩⟩
set_option maxHeartbeats 16000000 in
set_option maxRecDepth 1000000 in
theorem lw_.first418 {Kz0_ Kz1_ Kz2_ Kz3_ : Act → World → Prop} (k : Nat) (l1 : List Int) (r : Bool) (w : World) (hu37 : Program.underlying Tryz.prog (37 : Nat) = Option.some (TypeDesc.struct #[Field.mk "Long" (3 : Nat) (0 : Nat) Bool.false "" "" (0 : Nat), Field.mk "Fast" (3 : Nat) (1 : Nat) Bool.false "" "" (8 : Nat)])) (t573 : List S37) (t576 : List (List Int)) (t590 t600 : Int) (t604 : ByteArray) (co20 : Nat) (v578 : Value) (kj17 : Nat) (HJ17 : Aside0 (kj17 + (1 : Nat) ≤ k)) (kj64 : Nat) (HJ64 : Aside0 (kj64 + (1 : Nat) ≤ kj17)) (wr : World) (u403 u404 u405 u406 u407 u408 u409 u410 u411 u412 u413 u414 u415 u416 u417 u418 : Value) (x35_3 x319_3 : Int) (k3 : Nat) (HK3 : Aside0 (k3 + (1 : Nat) ≤ kj64)) (c80b0 : Decidable.decide (x319_3 < (↑(List.length t573) : Int)) = Bool.true) (c81b0 : Decidable.decide ((0 : Int) ≤ x319_3) = Bool.true) (c82b0 : Decidable.decide (x319_3 < (↑(List.length t573) : Int)) = Bool.true) (ad618 : Addr) (hx618_0 : World.cell? wr (Addr.add ad618 (Int.toNat x319_3 * (2 : Nat))) = Option.some (Value.int IntKind.i64 (S37.f0 (rd_T37 t573 x319_3)))) (hx618_1 : World.cell? wr (Addr.mk (Addr.block (Addr.add ad618 (Int.toNat x319_3 * (2 : Nat)))) (Addr.off (Addr.add ad618 (Int.toNat x319_3 * (2 : Nat))) + (1 : Nat)) Option.none) = Option.some (Value.int IntKind.i64 (S37.f1 (rd_T37 t573 x319_3)))) (p618 : ((0 : Int) ≤ x319_3) = True) (q618 : (x319_3 < (↑(List.length t573) : Int)) = True) (gb619 : Nat) (w85 : World) (GW619 GE619 : Aside0 (Array.size (World.heap w) ≤ gb619)) (hcz86_0 : World.cell? w85 (Addr.mk gb619 (0 : Nat) Option.none) = Option.some (Value.int IntKind.i64 (0 : Int))) (hcz86_1 : World.cell? w85 (Addr.mk gb619 (1 : Nat) Option.none) = Option.some (Value.int IntKind.i64 (0 : Int))) (hfz86_0 : World.frozen? w85 (Addr.mk gb619 (0 : Nat) Option.none) = Bool.false) (hfz86_1 : World.frozen? w85 (Addr.mk gb619 (1 : Nat) Option.none) = Bool.false) (wc : World) (HO_5 : Aside0 (Kd.R k37 (37 : Nat) wc (Array.size (World.heap w)) (fun k_ => k_ ≠ gb619) (Value.slice (Option.some ad618) (List.length t573) co20) t573)) (HO_6 : Aside0 (Kd.S (Kd.slice (3 : Nat) (Kd.int IntKind.i64)) (23 : Nat) wc (Array.size (World.heap w)) (fun x => True) v578 t576)) (HO_317 : Aside0 (Kd.R k37 (37 : Nat) wc (Array.size (World.heap w)) (fun k_ => k_ ≠ gb619) (Value.slice (Option.some ad618) (List.length t573) co20) t573)) (BK619 : Aside0 ((World.heap wc)[gb619]? = Option.some (Obj.cells #[Value.int IntKind.i64 (S37.f0 (rd_T37 t573 x319_3)), Value.int IntKind.i64 (S37.f1 (rd_T37 t573 x319_3))] (37 : TypeId)))) (HB : Aside0 (Below (Array.size (World.heap w)) w wc)) (kj83 : Nat) (HJ83 : Aside0 (kj83 + (1 : Nat) ≤ k3)) (HC107 : Aside0 ((if (0 : Int) ≤ x319_3 then if x319_3 < (↑(List.length t576) : Int) then if (0 : Int) < (↑(List.length (rd_L2 t576 x319_3)) : Int) then if rd (rd_L2 t576 x319_3) (0 : Int) ≤ (100000 : Int) then if (1 : Int) < (↑(List.length (rd_L2 t576 x319_3)) : Int) then lw_.j4 kj83 l1 t573 t576 t590 t600 t604 (↑(List.length t573) : Int) (wrap64 (x35_3 + S37.f0 (rd_T37 t573 x319_3))) x319_3 t573 (↑(List.length t573) : Int) x319_3 (Decidable.decide (rd (rd_L2 t576 x319_3) (1 : Int) ≤ (1000 : Int))) else Option.none else lw_.j4 kj83 l1 t573 t576 t590 t600 t604 (↑(List.length t573) : Int) (wrap64 (x35_3 + S37.f0 (rd_T37 t573 x319_3))) x319_3 t573 (↑(List.length t573) : Int) x319_3 Bool.false else Option.none else Option.none else Option.none) = Option.some r)) (J_ K_ : Act → World → Prop) (hJ_ : ∀ (a' : Act) (w' : World), (∃ u403 u404 u405 u406 u407 u408 u409 u410 u411 u412 u413 u414 u415 u416 u417 u418, (∃ kq x418_106, u418 = Value.bool x418_106 ∧ Aside0 (lw_.j4 kq l1 t573 t576 t590 t600 t604 (↑(List.length t573) : Int) (wrap64 (x35_3 + S37.f0 (rd_T37 t573 x319_3))) x319_3 t573 (↑(List.length t573) : Int) x319_3 x418_106 = Option.some r) ∧ Aside0 (kq ≤ kj83) ∧ Aside0 (Kd.R k37 (37 : Nat) w' (Array.size (World.heap w)) (fun k_ => k_ ≠ gb619) (Value.slice (Option.some ad618) (List.length t573) co20) t573) ∧ Aside0 (Kd.S (Kd.slice (3 : Nat) (Kd.int IntKind.i64)) (23 : Nat) w' (Array.size (World.heap w)) (fun x => True) v578 t576) ∧ Aside0 (Kd.R k37 (37 : Nat) w' (Array.size (World.heap w)) (fun k_ => k_ ≠ gb619) (Value.slice (Option.some ad618) (List.length t573) co20) t573) ∧ Aside0 ((World.heap w')[gb619]? = Option.some (Obj.cells #[Value.int IntKind.i64 (S37.f0 (rd_T37 t573 x319_3)), Value.int IntKind.i64 (S37.f1 (rd_T37 t573 x319_3))] (37 : TypeId))) ∧ Aside0 (Below (Array.size (World.heap w)) w w')) ∧ a' = Act.mk #[Aa,Ab,Ac,Ad,Na,Nc, v578,DJ,Ae,Af,GU,GV,Ag,Ah,Ai,Aj,GW,Ak,Al,Am,GX,GY,An,Ao,Ap,Aq,GZ,Ar,As,Au,DK,Av,Aw,Ax,Nd,L2, Value.int IntKind.i64 x319_3,Jq,Jr,Js,Jt,L3,L4,L5,L6,L7,L8,DL,DM,H7,Eb,Ec,H8,H9,Ia,Ed,Ee,Ef,Ib,Eg,Eh,Ei,KR,KS,KT,KU,Ej,Ek,El,KV,KW,Em,En,Eo,Ep,KX,KY,KZ,Er,Es,Ic,Id,Ie,Ig,K0,Ay,K1,K2,K3,Az,AA,AB,AC,AD,AE,AF,AG,AH,AJ,AK,AL,AM,AN,AO,AP,AQ,AR,AU,AV,AW,AX,AY,AZ,Ba,Bb,Bc,Bd,Be,Bf,Bg,Bh,Bi,Bj,Bk,Bl,Bm,Bn,Bo,Bp,Bq,Br,Bs,Bt,Bu,Bv,Bw,Bx,Bz,BA,BB,BC,BD,BE,BF,BG,BH,BI,BJ,BK,BL,BM,BN,BO,BP,BQ,BR,BS,BT,BU,BV,BW,BX,BZ,B0,B1,B2,B4,B5,B6,B9,Ca,Cb,Cc,Cd,Ce,Cf,Cg,Ch,Ci,Cj,Ck,Cl,Cm,Cn,Co,Cp,Cq,Cr,Cs,Ct,Cu,Cv,Cw,Cx,Cy,Cz,CA,CB,CC,CD,CE,CF,CG,CH,CI,CJ,CK,CL,CM,CN,CO,CP,CQ,CR,CS,CT,CU,CV,CW,CX,CY,CZ,C0,C1,C2,C3,C4,C5,C6,C7,C8,C9,Da,Db,Dc,Dd,De,Df,Dg,Dh,Di,Dj,Dk,Dl,Dm,Dn,Dq,Dr,Ds,Dt,Du,Dv,Dw,Dx,Dy,Dz,DA,DB,DC,DD,DE,DF,DG,DH,DI,DN,DO,DP,G0,G1,G2,G3,G4,G5,G6,G7,G8,G9,Ha,Hb,Hc,Hd,He,Hf,Hg,Hh,Hi,Hj,Hk,Hl,Hm,Hn,Ho,Hp,Hq,Hr,Hs,Ht,Hu,Hv,Hw,Hx,Hy,Hz,HD,HE,HF,HG,HH,HI,HJ,HM,HN,HP,HQ,HR,Ea,DQ,DR,L9,HS,HU,HV,HW,HX,HY,HZ,H0,H1,H2,H3,H4,H5,H6,Ju,Jv,Jw,Jx,Jy,Jz,JA,JB,JC,JD,JE,JF,JG,JH,JI,JJ,JK,JL,JM,JN,JO,JP,JQ,JR,JS,JT,JU,JV,JW,JX,JY,JZ,J0,J1,J2,J3,J4,J5,J6,J7,J8,J9,Ka,Kb,Ke,Kf,Kg,Kh,Ki,Kj,Kk,Kl,Km,Kn,Ko,Kp,Kq,Kr,Ks,Kt,Ku,Kv,Kw,Kx,Ky,Kz,KA,KB,Ih, u403, u404, u405, u406, u407, u408, u409, u410, u411, u412, u413, u414, u415, u416, u417, u418,Ma,Mb,Mc,Md,Me,Mf,Mg,Mh,Mi,Mj,Mk,Ml,Mm,Mn,Mo,Mp,Mq,Mr,Ms,Mt,Mu,Mv,Mw,Mx,My,Mz,MA,MB,MC,MD,ME,MF,MG,MH,MI,MJ,MK,ML,MM,MN,MO,MP,MQ,MR,MS,MT,MU,MV,MW,MX,MY,MZ,M0,M1,M2,M3,M4,M5,M6,M7,M8,M9,DS,DT,DU,DV,DW,DX,DY,DZ,D0,D1,D2,D3,D4,D5,D6,D7,D8,D9,Et,Eu,Ew,Ex,Ey,Ez,EA,EB,EC,ED,EE,EF,EG,EH,EI,EJ,EK,EL,EM,EN,EO,EP,EQ,ER,ES,ET,EU,EV,EW,EX,EY,EZ,E0,E1,E2,E3,E4,E5,E6,E7,E8,E9,Fa,Fb,Fc,Fd,Fe,Ff,Fg,Fh,Fi,Fj,Fk,Fl,Fm,Fn,Fo,Fp,Fq,Fr,Fs,Ft,Fu,Fv,Fw,Fx,Fy,Fz,FA,FB,FC,FD,FE,FF,FG,FH,FI,FJ,FL,FM,FN,FO,FP,FQ,FR,FS,FT,FU,FV,FW,FX,FY,FZ,F0,F1,F2,F3,F4,F5,F6,F7,F8,F9,Ga,Gb,Gc,Gd,Ge,Gf,Gg,Gh,Gi,Gj,Gk,Gl,Gm,Gn,Gp,Gq,Gr,Gs,Gt,Gu,Gv,Gw,Gx,Gy,Gz,GA,GB,GC,GD,GE,GF,GG,GH,GI,GJ,GK,GL,GM,GN,GO,GP,GQ,GR,GS,GT,Ii,Ij,Ik,Il,Im,Io,Ip,Iq,Ir,Is,It,Iu,Iv,Iw,Ix,Iy,Iz,IA,IB,IC,ID,IE,IF,IG,IH,II,IJ,IK,IL,IM,IP,IQ,IR,IU,IV,IW,IX,IY,IZ,I0,I1,I2,I3,I4,I5,I6,I7,I8,I9,Ja,Jb,Jc,Jd,Je,Jf,Jg,Jh,Ji,Jj,Jk,Jl,Jm,Jn,Jo,Jp,K4,K5,K6,K7,K8,K9,La,Lb,Lc,Ld,Le,Lf,Lg,Lh,Li,Lj,Lk,Lm,Ln,Lo,Lp,Lq,Lr,Ls,Lt,Lu,Lv,Lw,Lx,Ly,Lz,LA,LB,LC,LD,LE,LF,LG,LH,LI,LJ,LK,LL,LM,LN,LO,LP,LQ,LR,LS,LT,LU,LV,LW,LX,LY,LZ,L0,L1] []) → J_ a' w') (hK_ : ∀ a' w', Met J_ a' w' → K_ a' w') :
    Code.wp Tryz.prog ((lw_.reg 30 lw_.body).getD .skip) (Exit.then K_ (Exit.inBlock (1 : Nat) (Exit.then Kz3_ (Exit.then Kz2_ (Exit.inBlock (0 : Nat) (Exit.then Kz1_ (Exit.then Kz0_ (bodyPost Tryz.prog Tryz.f4 fun e w' => e = Ending.returned (Value.bool r) ∧ Below (Array.size (World.heap w)) w w')))))))) (Act.mk #[Aa,Ab,Ac,Ad,Na,Nc, v578,DJ,Ae,Af,GU,GV,Ag,Ah,Ai,Aj,GW,Ak,Al,Am,GX,GY,An,Ao,Ap,Aq,GZ,Ar,As,Au,DK,Av,Aw,Ax,Nd,L2, Value.int IntKind.i64 x319_3,Jq,Jr,Js,Jt,L3,L4,L5,L6,L7,L8,DL,DM,H7,Eb,Ec,H8,H9,Ia,Ed,Ee,Ef,Ib,Eg,Eh,Ei,KR,KS,KT,KU,Ej,Ek,El,KV,KW,Em,En,Eo,Ep,KX,KY,KZ,Er,Es,Ic,Id,Ie,Ig,K0,Ay,K1,K2,K3,Az,AA,AB,AC,AD,AE,AF,AG,AH,AJ,AK,AL,AM,AN,AO,AP,AQ,AR,AU,AV,AW,AX,AY,AZ,Ba,Bb,Bc,Bd,Be,Bf,Bg,Bh,Bi,Bj,Bk,Bl,Bm,Bn,Bo,Bp,Bq,Br,Bs,Bt,Bu,Bv,Bw,Bx,Bz,BA,BB,BC,BD,BE,BF,BG,BH,BI,BJ,BK,BL,BM,BN,BO,BP,BQ,BR,BS,BT,BU,BV,BW,BX,BZ,B0,B1,B2,B4,B5,B6,B9,Ca,Cb,Cc,Cd,Ce,Cf,Cg,Ch,Ci,Cj,Ck,Cl,Cm,Cn,Co,Cp,Cq,Cr,Cs,Ct,Cu,Cv,Cw,Cx,Cy,Cz,CA,CB,CC,CD,CE,CF,CG,CH,CI,CJ,CK,CL,CM,CN,CO,CP,CQ,CR,CS,CT,CU,CV,CW,CX,CY,CZ,C0,C1,C2,C3,C4,C5,C6,C7,C8,C9,Da,Db,Dc,Dd,De,Df,Dg,Dh,Di,Dj,Dk,Dl,Dm,Dn,Dq,Dr,Ds,Dt,Du,Dv,Dw,Dx,Dy,Dz,DA,DB,DC,DD,DE,DF,DG,DH,DI,DN,DO,DP,G0,G1,G2,G3,G4,G5,G6,G7,G8,G9,Ha,Hb,Hc,Hd,He,Hf,Hg,Hh,Hi,Hj,Hk,Hl,Hm,Hn,Ho,Hp,Hq,Hr,Hs,Ht,Hu,Hv,Hw,Hx,Hy,Hz,HD,HE,HF,HG,HH,HI,HJ,HM,HN,HP,HQ,HR,Ea,DQ,DR,L9,HS,HU,HV,HW,HX,HY,HZ,H0,H1,H2,H3,H4,H5,H6,Ju,Jv,Jw,Jx,Jy,Jz,JA,JB,JC,JD,JE,JF,JG,JH,JI,JJ,JK,JL,JM,JN,JO,JP,JQ,JR,JS,JT,JU,JV,JW,JX,JY,JZ,J0,J1,J2,J3,J4,J5,J6,J7,J8,J9,Ka,Kb,Ke,Kf,Kg,Kh,Ki,Kj,Kk,Kl,Km,Kn,Ko,Kp,Kq,Kr,Ks,Kt,Ku,Kv,Kw,Kx,Ky,Kz,KA,KB,Ih, u403, u404, u405, u406, u407, u408, u409, u410, u411, u412, u413, u414, u415, u416, u417,Nb,Ma,Mb,Mc,Md,Me,Mf,Mg,Mh,Mi,Mj,Mk,Ml,Mm,Mn,Mo,Mp,Mq,Mr,Ms,Mt,Mu,Mv,Mw,Mx,My,Mz,MA,MB,MC,MD,ME,MF,MG,MH,MI,MJ,MK,ML,MM,MN,MO,MP,MQ,MR,MS,MT,MU,MV,MW,MX,MY,MZ,M0,M1,M2,M3,M4,M5,M6,M7,M8,M9,DS,DT,DU,DV,DW,DX,DY,DZ,D0,D1,D2,D3,D4,D5,D6,D7,D8,D9,Et,Eu,Ew,Ex,Ey,Ez,EA,EB,EC,ED,EE,EF,EG,EH,EI,EJ,EK,EL,EM,EN,EO,EP,EQ,ER,ES,ET,EU,EV,EW,EX,EY,EZ,E0,E1,E2,E3,E4,E5,E6,E7,E8,E9,Fa,Fb,Fc,Fd,Fe,Ff,Fg,Fh,Fi,Fj,Fk,Fl,Fm,Fn,Fo,Fp,Fq,Fr,Fs,Ft,Fu,Fv,Fw,Fx,Fy,Fz,FA,FB,FC,FD,FE,FF,FG,FH,FI,FJ,FL,FM,FN,FO,FP,FQ,FR,FS,FT,FU,FV,FW,FX,FY,FZ,F0,F1,F2,F3,F4,F5,F6,F7,F8,F9,Ga,Gb,Gc,Gd,Ge,Gf,Gg,Gh,Gi,Gj,Gk,Gl,Gm,Gn,Gp,Gq,Gr,Gs,Gt,Gu,Gv,Gw,Gx,Gy,Gz,GA,GB,GC,GD,GE,GF,GG,GH,GI,GJ,GK,GL,GM,GN,GO,GP,GQ,GR,GS,GT,Ii,Ij,Ik,Il,Im,Io,Ip,Iq,Ir,Is,It,Iu,Iv,Iw,Ix,Iy,Iz,IA,IB,IC,ID,IE,IF,IG,IH,II,IJ,IK,IL,IM,IP,IQ,IR,IU,IV,IW,IX,IY,IZ,I0,I1,I2,I3,I4,I5,I6,I7,I8,I9,Ja,Jb,Jc,Jd,Je,Jf,Jg,Jh,Ji,Jj,Jk,Jl,Jm,Jn,Jo,Jp,K4,K5,K6,K7,K8,K9,La,Lb,Lc,Ld,Le,Lf,Lg,Lh,Li,Lj,Lk,Lm,Ln,Lo,Lp,Lq,Lr,Ls,Lt,Lu,Lv,Lw,Lx,Ly,Lz,LA,LB,LC,LD,LE,LF,LG,LH,LI,LJ,LK,LL,LM,LN,LO,LP,LQ,LR,LS,LT,LU,LV,LW,LX,LY,LZ,L0,L1] []) wc := by
  conv => arg 2; whnf
  (try conv => arg 4; dsimp only)
  (try conv => arg 2; dsimp only [List.append_eq, List.cons_append, List.nil_append])
  have H := HC107.out
  clear HC107
  by_cases c108 : 0 ≤ x319_3
  rotate_left
  ·rw [if_neg c108] at H
   cases H
  rw [if_pos c108] at H
  have c108b0 := decide_eq_true c108
  clear c108
  (first | rw [c108b0] | (simp only [i64_w, i32_w]; rw [c108b0]) | skip)
  by_cases c109 : x319_3 < (t576.length : Int)
  rotate_left
  ·rw [if_neg c109] at H
   cases H
  rw [if_pos c109] at H
  have c109b0 := decide_eq_true c109
  clear c109
  by_cases c110 : 0 < ((rd_L2 t576 x319_3).length : Int)
  rotate_left
  ·rw [if_neg c110] at H
   cases H
  rw [if_pos c110] at H
  have c110b0 := decide_eq_true c110
  have c110b1 : decide (0 < (rd_L2 t576 x319_3).length) = true := decide_eq_true (by omega)
  clear c110
  by_cases c111 : (rd (rd_L2 t576 x319_3) 0) ≤ 100000
  rotate_left
  ·rw [if_neg c111] at H
   have c111b0 := decide_eq_false c111
   clear c111
   have H' := Aside0.mk H
   clear H
   obtain ⟨Ao114, co114, eo114⟩ := Kd.S_slice HO_6.out
   subst eo114
   have p632 : 0 ≤ (x319_3 : Int) := odt_
   have q632 : x319_3 < (t576.length : Int) := odt_
   obtain ⟨ad632, A632_0, c632_0, e632, hx632_0, hl632_0, hi632_0⟩ := at_L2 (Kd.S_reads' HO_6.out).2.2 x319_3 p632 q632
   cases e632
   obtain ⟨ce632, hce632, hMe632, hcc632⟩ := Kd.S_get HO_6.out [] x319_3 p632 (by first | exact q632 | exact of_decide_eq_true (by first | (with_reducible assumption) | assumption) | (have e_ := (Kd.S_reads' HO_6.out).1; omega))
   obtain ⟨ve632_0, rfl, ge632_0⟩ := hMe632
   have hv632_0 := hcc632 0 _ rfl
   rw [Nat.add_zero, show ((Kd.slice 3 (Kd.int .i64))).sz = 1 from rfl, Nat.mul_one] at hv632_0
   replace hv632_0 := Option.some.inj (hv632_0.symm.trans hx632_0)
   rw [hv632_0] at ge632_0
   have HL632_0 := Aside0.mk (show Kd.R (Kd.int .i64) 3 _ _ _ _ (rd_L2 t576 x319_3) from ge632_0)
   clear hv632_0 ge632_0
   clear hcc632 hce632
   have HR632_0 := Aside0.mk hi632_0
   have HC632_0 := Aside0.mk hl632_0
   clear hi632_0 hl632_0
   replace p632 := eq_true p632
   replace q632 := eq_true q632
   have p633 : 0 ≤ (0 : Int) := (by omega)
   have q633 : 0 < ((rd_L2 t576 x319_3).length : Int) := odt_
   obtain ⟨ad633, e633, hx633_0⟩ := Kd.at_int (by repeat (first | (with_reducible exact HR632_0.out) | (with_reducible refine Kd.C_alloc ?_ _) | (with_reducible refine Kd.C_drewN ?_ _) | (with_reducible refine Kd.C_drew ?_) | exact HR632_0.out)) 0 p633 q633
   cases e633
   have qi633 : (0 < (rd_L2 t576 x319_3).length) = True := eq_true (by omega)
   (try rw [show ((0 : Int)).toNat = 0 from rfl] at hx633_0)
   (try rw [Addr.add_zero'] at hx633_0)
   replace p633 := eq_true p633
   replace q633 := eq_true q633
   go_wp2
   go_meet
   case rel => exact ⟨_, (false), rt_, H', ⟨by have := HJ17.out; have := HJ64.out; have := HK3.out; have := HJ83.out; first | omega | exact Nat.le_refl _⟩, ⟨kd_to HO_5⟩, ⟨sd_to HO_6⟩, ⟨kd_to HO_317⟩, ⟨blk_to BK619⟩, ⟨below_to1 HB GE619.out⟩⟩
  rw [if_pos c111] at H
  have c111b0 := decide_eq_true c111
  clear c111
  by_cases c112 : 1 < ((rd_L2 t576 x319_3).length : Int)
  rotate_left
  ·rw [if_neg c112] at H
   cases H
  rw [if_pos c112] at H
  have c112b0 := decide_eq_true c112
  have c112b1 : decide (1 < (rd_L2 t576 x319_3).length) = true := decide_eq_true (by omega)
  clear c112
  have H' := Aside0.mk H
  clear H
  obtain ⟨Ao113, co113, eo113⟩ := Kd.S_slice HO_6.out
  subst eo113
  have p632 : 0 ≤ (x319_3 : Int) := odt_
  have q632 : x319_3 < (t576.length : Int) := odt_
  obtain ⟨ad632, A632_0, c632_0, e632, hx632_0, hl632_0, hi632_0⟩ := at_L2 (Kd.S_reads' HO_6.out).2.2 x319_3 p632 q632
  cases e632
  obtain ⟨ce632, hce632, hMe632, hcc632⟩ := Kd.S_get HO_6.out [] x319_3 p632 (by first | exact q632 | exact of_decide_eq_true (by first | (with_reducible assumption) | assumption) | (have e_ := (Kd.S_reads' HO_6.out).1; omega))
  obtain ⟨ve632_0, rfl, ge632_0⟩ := hMe632
  have hv632_0 := hcc632 0 _ rfl
  rw [Nat.add_zero, show ((Kd.slice 3 (Kd.int .i64))).sz = 1 from rfl, Nat.mul_one] at hv632_0
  replace hv632_0 := Option.some.inj (hv632_0.symm.trans hx632_0)
  rw [hv632_0] at ge632_0
  have HL632_0 := Aside0.mk (show Kd.R (Kd.int .i64) 3 _ _ _ _ (rd_L2 t576 x319_3) from ge632_0)
  clear hv632_0 ge632_0
  clear hcc632 hce632
  have HR632_0 := Aside0.mk hi632_0
  have HC632_0 := Aside0.mk hl632_0
  clear hi632_0 hl632_0
  replace p632 := eq_true p632
  replace q632 := eq_true q632
  have p633 : 0 ≤ (0 : Int) := (by omega)
  have q633 : 0 < ((rd_L2 t576 x319_3).length : Int) := odt_
  obtain ⟨ad633, e633, hx633_0⟩ := Kd.at_int (by repeat (first | (with_reducible exact HR632_0.out) | (with_reducible refine Kd.C_alloc ?_ _) | (with_reducible refine Kd.C_drewN ?_ _) | (with_reducible refine Kd.C_drew ?_) | exact HR632_0.out)) 0 p633 q633
  cases e633
  have qi633 : (0 < (rd_L2 t576 x319_3).length) = True := eq_true (by omega)
  (try rw [show ((0 : Int)).toNat = 0 from rfl] at hx633_0)
  (try rw [Addr.add_zero'] at hx633_0)
  replace p633 := eq_true p633
  replace q633 := eq_true q633
  have p634 : 0 ≤ (x319_3 : Int) := odt_
  have q634 : x319_3 < (t576.length : Int) := odt_
  obtain ⟨ad634, A634_0, c634_0, e634, hx634_0, hl634_0, hi634_0⟩ := at_L2 (Kd.S_reads' HO_6.out).2.2 x319_3 p634 q634
  obtain rfl : ad632 = ad634 := (by injection e634)
  obtain ⟨ce634, hce634, hMe634, hcc634⟩ := Kd.S_get HO_6.out [] x319_3 p634 (by first | exact q634 | exact of_decide_eq_true (by first | (with_reducible assumption) | assumption) | (have e_ := (Kd.S_reads' HO_6.out).1; omega))
  obtain ⟨ve634_0, rfl, ge634_0⟩ := hMe634
  have hv634_0 := hcc634 0 _ rfl
  rw [Nat.add_zero, show ((Kd.slice 3 (Kd.int .i64))).sz = 1 from rfl, Nat.mul_one] at hv634_0
  replace hv634_0 := Option.some.inj (hv634_0.symm.trans hx634_0)
  rw [hv634_0] at ge634_0
  have HL634_0 := Aside0.mk (show Kd.R (Kd.int .i64) 3 _ _ _ _ (rd_L2 t576 x319_3) from ge634_0)
  clear hv634_0 ge634_0
  clear hcc634 hce634
  have HR634_0 := Aside0.mk hi634_0
  have HC634_0 := Aside0.mk hl634_0
  clear hi634_0 hl634_0
  replace p634 := eq_true p634
  replace q634 := eq_true q634
  have ea_ := Option.some.inj (hx632_0.symm.trans hx634_0)
  injection ea_ with ea_ en_ ec_
  subst ea_
  subst ec_
  clear en_
  have p635 : 0 ≤ (1 : Int) := (by omega)
  have q635 : 1 < ((rd_L2 t576 x319_3).length : Int) := odt_
  obtain ⟨ad635, e635, hx635_0⟩ := Kd.at_int (by repeat (first | (with_reducible exact HR634_0.out) | (with_reducible refine Kd.C_alloc ?_ _) | (with_reducible refine Kd.C_drewN ?_ _) | (with_reducible refine Kd.C_drew ?_) | exact HR634_0.out)) 1 p635 q635
  cases e635
  (try simp only [show (1 : Int).toNat = 1 from rfl, Nat.reduceMul, Nat.reduceEqDiff, Go.Addr.add, ↓reduceIte] at hx635_0)
  have qi635 : (1 < (rd_L2 t576 x319_3).length) = True := eq_true (by omega)
  (try rw [show ((1 : Int)).toNat = 1 from rfl] at hx635_0)
  replace p635 := eq_true p635
  replace q635 := eq_true q635
  go_wp2
  go_meet
  case rel => exact ⟨_, (decide ((rd (rd_L2 t576 x319_3) 1) ≤ 1000)), rt_, H', ⟨by have := HJ17.out; have := HJ64.out; have := HK3.out; have := HJ83.out; first | omega | exact Nat.le_refl _⟩, ⟨kd_to HO_5⟩, ⟨sd_to HO_6⟩, ⟨kd_to HO_317⟩, ⟨blk_to BK619⟩, ⟨below_to1 HB GE619.out⟩⟩
set_option maxHeartbeats 16000000 in
set_option maxRecDepth 1000000 in
theorem lw_.halfc115n (Z6_ : Act → World → Prop) (Z7_ : Act → World → Prop) (Z12_ : Act → World → Prop) (Z97_ : Nat → Act → World → Prop) (Z98_ : Act → World → Prop) (Z104_ : Act → World → Prop) (k : Nat) (l0 : List Int) (l1 : List Int) (r : Bool) (w : World) (hu37 : Program.underlying Tryz.prog (37 : Nat) = Option.some (TypeDesc.struct #[Field.mk "Long" (3 : Nat) (0 : Nat) Bool.false "" "" (0 : Nat), Field.mk "Fast" (3 : Nat) (1 : Nat) Bool.false "" "" (8 : Nat)])) (t573 : List S37) (t576 : List (List Int)) (t590 t600 : Int) (t604 : ByteArray) (co20 : Nat) (v578 : Value) (kj17 : Nat) (HJ17 : Aside0 (kj17 + (1 : Nat) ≤ k)) (kj64 : Nat) (HJ64 : Aside0 (kj64 + (1 : Nat) ≤ kj17)) (wr : World) (u4 u36 u37 u38 u39 u40 u41 u42 u43 u44 u45 u46 u320 u321 u322 u323 u324 u325 u326 u327 u328 u329 u330 u331 u332 u333 u402 u418 u419 u420 u421 u422 u423 u424 u425 u426 u427 u428 u429 u430 u431 u432 u433 u434 u435 u436 u437 u438 u439 u440 u441 u442 u443 u444 u445 u446 u447 u448 u449 u450 u451 u452 u453 u454 u455 u456 u457 u458 u459 u460 u461 u462 u463 u464 u465 u466 u467 u468 u469 u470 u471 u472 u473 u474 u475 u476 u477 u478 u479 u480 : Value) (x35_3 x319_3 : Int) (k3 : Nat) (HK3 : Aside0 (k3 + (1 : Nat) ≤ kj64)) (c80b0 : Decidable.decide (x319_3 < (↑(List.length t573) : Int)) = Bool.true) (c81b0 : Decidable.decide ((0 : Int) ≤ x319_3) = Bool.true) (c82b0 : Decidable.decide (x319_3 < (↑(List.length t573) : Int)) = Bool.true) (ad618 : Addr) (hx618_0 : World.cell? wr (Addr.add ad618 (Int.toNat x319_3 * (2 : Nat))) = Option.some (Value.int IntKind.i64 (S37.f0 (rd_T37 t573 x319_3)))) (hx618_1 : World.cell? wr (Addr.mk (Addr.block (Addr.add ad618 (Int.toNat x319_3 * (2 : Nat)))) (Addr.off (Addr.add ad618 (Int.toNat x319_3 * (2 : Nat))) + (1 : Nat)) Option.none) = Option.some (Value.int IntKind.i64 (S37.f1 (rd_T37 t573 x319_3)))) (p618 : ((0 : Int) ≤ x319_3) = True) (q618 : (x319_3 < (↑(List.length t573) : Int)) = True) (gb619 : Nat) (w85 : World) (GW619 GE619 : Aside0 (Array.size (World.heap w) ≤ gb619)) (hcz86_0 : World.cell? w85 (Addr.mk gb619 (0 : Nat) Option.none) = Option.some (Value.int IntKind.i64 (0 : Int))) (hcz86_1 : World.cell? w85 (Addr.mk gb619 (1 : Nat) Option.none) = Option.some (Value.int IntKind.i64 (0 : Int))) (hfz86_0 : World.frozen? w85 (Addr.mk gb619 (0 : Nat) Option.none) = Bool.false) (hfz86_1 : World.frozen? w85 (Addr.mk gb619 (1 : Nat) Option.none) = Bool.false) (u334 u335 u336 u337 u338 u339 u340 u341 u342 u343 u344 u345 u346 u347 u348 u349 u350 u351 u352 u353 u354 u355 u356 u357 u358 u359 u360 u361 u362 u363 u364 u365 u366 u367 u368 u369 u370 u371 u372 u373 u374 u375 u376 u377 u378 u379 u380 u381 u382 u383 u384 u385 u386 u387 u388 u389 u390 u391 u392 u393 u394 u395 u396 u397 u398 u399 u400 u401 : Value) (kj83 : Nat) (HJ83 : Aside0 (kj83 + (1 : Nat) ≤ k3)) (wc : World) (u403 u404 u405 u406 u407 u408 u409 u410 u411 u412 u413 u414 u415 u416 u417 : Value) (x418_106 : Bool) (HO_5 : Aside0 (Kd.R k37 (37 : Nat) wc (Array.size (World.heap w)) (fun k_ => k_ ≠ gb619) (Value.slice (Option.some ad618) (List.length t573) co20) t573)) (HO_6 : Aside0 (Kd.S (Kd.slice (3 : Nat) (Kd.int IntKind.i64)) (23 : Nat) wc (Array.size (World.heap w)) (fun x => True) v578 t576)) (HO_317 : Aside0 (Kd.R k37 (37 : Nat) wc (Array.size (World.heap w)) (fun k_ => k_ ≠ gb619) (Value.slice (Option.some ad618) (List.length t573) co20) t573)) (HB : Aside0 (Below (Array.size (World.heap w)) w wc)) (kj106 : Nat) (HJ106 : Aside0 (kj106 + (1 : Nat) ≤ kj83)) (H : (if x418_106 = Bool.true then if (0 : Int) ≤ x319_3 then if x319_3 < (↑(List.length t576) : Int) then if (0 : Int) < (↑(List.length (rd_L2 t576 x319_3)) : Int) then if (1 : Int) < (↑(List.length (rd_L2 t576 x319_3)) : Int) then Option.bind (impl_PlaceOnLegs.f kj106 t573 (rd (rd_L2 t576 x319_3) (0 : Int)) (rd (rd_L2 t576 x319_3) (1 : Int))) fun bt640 => Option.bind (impl_LegAt.f kj106 t573 (rd (rd_L2 t576 x319_3) (0 : Int)) (rd (rd_L2 t576 x319_3) (1 : Int))) fun bt647 => if wrap64 (x319_3 + (1 : Int)) = (↑(List.length t573) : Int) then if Prod.snd (Prod.snd bt640) = Bool.true then if Prod.fst bt640 = wrap64 (x35_3 + S37.f0 (rd_T37 t573 x319_3)) then if Prod.fst (Prod.snd bt640) = (1 : Int) then if Prod.snd bt647 = Bool.true then if Prod.fst bt647 = x319_3 then lw_.l0 kj106 l1 t573 t576 t590 t600 t604 (↑(List.length t573) : Int) (wrap64 (x35_3 + S37.f0 (rd_T37 t573 x319_3))) t573 (↑(List.length t573) : Int) (wrap64 (x319_3 + (1 : Int))) else Option.some Bool.false else Option.some Bool.false else Option.some Bool.false else Option.some Bool.false else Option.some Bool.false else if Prod.snd (Prod.snd bt640) = Bool.true then if Prod.fst bt640 = wrap64 (x35_3 + S37.f0 (rd_T37 t573 x319_3)) then if Prod.fst (Prod.snd bt640) = (1 : Int) then if Prod.snd bt647 = Bool.true then if Prod.fst bt647 = wrap64 (x319_3 + (1 : Int)) then lw_.l0 kj106 l1 t573 t576 t590 t600 t604 (↑(List.length t573) : Int) (wrap64 (x35_3 + S37.f0 (rd_T37 t573 x319_3))) t573 (↑(List.length t573) : Int) (wrap64 (x319_3 + (1 : Int))) else Option.some Bool.false else Option.some Bool.false else Option.some Bool.false else Option.some Bool.false else Option.some Bool.false else Option.none else Option.none else Option.none else Option.none else lw_.l0 kj106 l1 t573 t576 t590 t600 t604 (↑(List.length t573) : Int) (wrap64 (x35_3 + S37.f0 (rd_T37 t573 x319_3))) t573 (↑(List.length t573) : Int) (wrap64 (x319_3 + (1 : Int)))) = Option.some r) (c115 : ¬x418_106 = Bool.true) (Z8_ : ∀ (a' : Act) (w' : World), Met Z6_ a' w' → Z7_ a' w') (Z99_ : ∀ (a' : Act) (w' : World), Handed Z97_ (k3 + (1 : Nat)) a' w' → Z98_ a' w') (Z103_ : ∀ (k : Nat) (a' : Act) (w' : World), (∃ u4 u35 u36 u37 u38 u39 u40 u41 u42 u43 u44 u45 u46 u319 u320 u321 u322 u323 u324 u325 u326 u327 u328 u329 u330 u331 u332 u333 u334 u335 u336 u337 u338 u339 u340 u341 u342 u343 u344 u345 u346 u347 u348 u349 u350 u351 u352 u353 u354 u355 u356 u357 u358 u359 u360 u361 u362 u363 u364 u365 u366 u367 u368 u369 u370 u371 u372 u373 u374 u375 u376 u377 u378 u379 u380 u381 u382 u383 u384 u385 u386 u387 u388 u389 u390 u391 u392 u393 u394 u395 u396 u397 u398 u399 u400 u401 u402 u403 u404 u405 u406 u407 u408 u409 u410 u411 u412 u413 u414 u415 u416 u417 u418 u419 u420 u421 u422 u423 u424 u425 u426 u427 u428 u429 u430 u431 u432 u433 u434 u435 u436 u437 u438 u439 u440 u441 u442 u443 u444 u445 u446 u447 u448 u449 u450 u451 u452 u453 u454 u455 u456 u457 u458 u459 u460 u461 u462 u463 u464 u465 u466 u467 u468 u469 u470 u471 u472 u473 u474 u475 u476 u477 u478 u479 u480, (∃ x35_3 x319_3, u35 = Value.int IntKind.i64 x35_3 ∧ u319 = Value.int IntKind.i64 x319_3 ∧ Aside0 (lw_.l0 k l1 t573 t576 t590 t600 t604 (↑(List.length t573) : Int) x35_3 t573 (↑(List.length t573) : Int) x319_3 = Option.some r) ∧ Aside0 (k ≤ kj64) ∧ Aside0 (Kd.R k37 (37 : Nat) w' (Array.size (World.heap w)) (fun x => True) (Value.slice (Option.some ad618) (List.length t573) co20) t573) ∧ Aside0 (Kd.S (Kd.slice (3 : Nat) (Kd.int IntKind.i64)) (23 : Nat) w' (Array.size (World.heap w)) (fun x => True) v578 t576) ∧ Aside0 (Kd.R k37 (37 : Nat) w' (Array.size (World.heap w)) (fun x => True) (Value.slice (Option.some ad618) (List.length t573) co20) t573) ∧ Aside0 (Below (Array.size (World.heap w)) w w')) ∧ a' = Act.mk #[Aa,Ab,Ac,Ad, u4, Value.slice (Option.some ad618) (List.length t573) co20, v578,DJ,Ae,Af,GU,GV,Ag,Ah,Ai,Aj,GW,Ak,Al,Am,GX,GY,An,Ao,Ap,Aq,GZ,Ar,As,Au,DK,Av,Aw,Ax, Value.int IntKind.i64 (↑(List.length t573) : Int), u35, u36, u37, u38, u39, u40, u41, u42, u43, u44, u45, u46,DL,DM,H7,Eb,Ec,H8,H9,Ia,Ed,Ee,Ef,Ib,Eg,Eh,Ei,KR,KS,KT,KU,Ej,Ek,El,KV,KW,Em,En,Eo,Ep,KX,KY,KZ,Er,Es,Ic,Id,Ie,Ig,K0,Ay,K1,K2,K3,Az,AA,AB,AC,AD,AE,AF,AG,AH,AJ,AK,AL,AM,AN,AO,AP,AQ,AR,AU,AV,AW,AX,AY,AZ,Ba,Bb,Bc,Bd,Be,Bf,Bg,Bh,Bi,Bj,Bk,Bl,Bm,Bn,Bo,Bp,Bq,Br,Bs,Bt,Bu,Bv,Bw,Bx,Bz,BA,BB,BC,BD,BE,BF,BG,BH,BI,BJ,BK,BL,BM,BN,BO,BP,BQ,BR,BS,BT,BU,BV,BW,BX,BZ,B0,B1,B2,B4,B5,B6,B9,Ca,Cb,Cc,Cd,Ce,Cf,Cg,Ch,Ci,Cj,Ck,Cl,Cm,Cn,Co,Cp,Cq,Cr,Cs,Ct,Cu,Cv,Cw,Cx,Cy,Cz,CA,CB,CC,CD,CE,CF,CG,CH,CI,CJ,CK,CL,CM,CN,CO,CP,CQ,CR,CS,CT,CU,CV,CW,CX,CY,CZ,C0,C1,C2,C3,C4,C5,C6,C7,C8,C9,Da,Db,Dc,Dd,De,Df,Dg,Dh,Di,Dj,Dk,Dl,Dm,Dn,Dq,Dr,Ds,Dt,Du,Dv,Dw,Dx,Dy,Dz,DA,DB,DC,DD,DE,DF,DG,DH,DI,DN,DO,DP,G0,G1,G2,G3,G4,G5,G6,G7,G8,G9,Ha,Hb,Hc,Hd,He,Hf,Hg,Hh,Hi,Hj,Hk,Hl,Hm,Hn,Ho,Hp,Hq,Hr,Hs,Ht,Hu,Hv,Hw,Hx,Hy,Hz,HD,HE,HF,HG,HH,HI,HJ,HM,HN,HP,HQ,HR,Ea,DQ,DR, u319, u320, u321, u322, u323, u324, u325, u326, u327, u328, u329, u330, u331, u332, u333, u334, u335, u336, u337, u338, u339, u340, u341, u342, u343, u344, u345, u346, u347, u348, u349, u350, u351, u352, u353, u354, u355, u356, u357, u358, u359, u360, u361, u362, u363, u364, u365, u366, u367, u368, u369, u370, u371, u372, u373, u374, u375, u376, u377, u378, u379, u380, u381, u382, u383, u384, u385, u386, u387, u388, u389, u390, u391, u392, u393, u394, u395, u396, u397, u398, u399, u400, u401, u402, u403, u404, u405, u406, u407, u408, u409, u410, u411, u412, u413, u414, u415, u416, u417, u418, u419, u420, u421, u422, u423, u424, u425, u426, u427, u428, u429, u430, u431, u432, u433, u434, u435, u436, u437, u438, u439, u440, u441, u442, u443, u444, u445, u446, u447, u448, u449, u450, u451, u452, u453, u454, u455, u456, u457, u458, u459, u460, u461, u462, u463, u464, u465, u466, u467, u468, u469, u470, u471, u472, u473, u474, u475, u476, u477, u478, u479, u480,DS,DT,DU,DV,DW,DX,DY,DZ,D0,D1,D2,D3,D4,D5,D6,D7,D8,D9,Et,Eu,Ew,Ex,Ey,Ez,EA,EB,EC,ED,EE,EF,EG,EH,EI,EJ,EK,EL,EM,EN,EO,EP,EQ,ER,ES,ET,EU,EV,EW,EX,EY,EZ,E0,E1,E2,E3,E4,E5,E6,E7,E8,E9,Fa,Fb,Fc,Fd,Fe,Ff,Fg,Fh,Fi,Fj,Fk,Fl,Fm,Fn,Fo,Fp,Fq,Fr,Fs,Ft,Fu,Fv,Fw,Fx,Fy,Fz,FA,FB,FC,FD,FE,FF,FG,FH,FI,FJ,FL,FM,FN,FO,FP,FQ,FR,FS,FT,FU,FV,FW,FX,FY,FZ,F0,F1,F2,F3,F4,F5,F6,F7,F8,F9,Ga,Gb,Gc,Gd,Ge,Gf,Gg,Gh,Gi,Gj,Gk,Gl,Gm,Gn,Gp,Gq,Gr,Gs,Gt,Gu,Gv,Gw,Gx,Gy,Gz,GA,GB,GC,GD,GE,GF,GG,GH,GI,GJ,GK,GL,GM,GN,GO,GP,GQ,GR,GS,GT,Ii,Ij,Ik,Il,Im,Io,Ip,Iq,Ir,Is,It,Iu,Iv,Iw,Ix,Iy,Iz,IA,IB,IC,ID,IE,IF,IG,IH,II,IJ,IK,IL,IM,IP,IQ,IR,IU,IV,IW,IX,IY,IZ,I0,I1,I2,I3,I4,I5,I6,I7,I8,I9,Ja,Jb,Jc,Jd,Je,Jf,Jg,Jh,Ji,Jj,Jk,Jl,Jm,Jn,Jo,Jp,K4,K5,K6,K7,K8,K9,La,Lb,Lc,Ld,Le,Lf,Lg,Lh,Li,Lj,Lk,Lm,Ln,Lo,Lp,Lq,Lr,Ls,Lt,Lu,Lv,Lw,Lx,Ly,Lz,LA,LB,LC,LD,LE,LF,LG,LH,LI,LJ,LK,LL,LM,LN,LO,LP,LQ,LR,LS,LT,LU,LV,LW,LX,LY,LZ,L0,L1] []) → Z97_ k a' w') (Z105_ : ∀ (a_ : Act) (w_ : World), Code.wp Tryz.prog (Code.region (38 : Nat) #[Oper.mk (Option.some (480 : Nat)) (Op.binOp BinOp.add (3 : Nat) (Operand.tmp (319 : Nat)) (Operand.const (Value.int IntKind.i64 (1 : Int))) (3 : Nat)) (3 : Nat) "laws.go:2770" #[] Option.none, Oper.mk (Option.some (319 : Nat)) (Op.move (Operand.tmp (480 : Nat))) (3 : Nat) "laws.go:2770" #[Edge.mk (0 : Nat) Ground.data] Option.none] Bool.false) (Exit.then Z98_ (Exit.inBlock (0 : Nat) (Exit.then Z12_ (Exit.then Z7_ (bodyPost Tryz.prog Tryz.f4 fun e w' => e = Ending.returned (Value.bool r) ∧ Below (Array.size (World.heap w)) w w'))))) a_ w_ → Z104_ a_ w_) :
    Code.wp Tryz.prog ((lw_.cnd 418 lw_.body).getD .skip) (Exit.inBlock (1 : Nat) (Exit.then Z104_ (Exit.then Z98_ (Exit.inBlock (0 : Nat) (Exit.then Z12_ (Exit.then Z7_ (bodyPost Tryz.prog Tryz.f4 fun e w' => e = Ending.returned (Value.bool r) ∧ Below (Array.size (World.heap w)) w w'))))))) (Act.mk #[Aa,Ab,Ac,Ad,Na, Value.slice (Option.some ad618) (List.length t573) co20, v578,DJ,Ae,Af,GU,GV,Ag,Ah,Ai,Aj,GW,Ak,Al,Am,GX,GY,An,Ao,Ap,Aq,GZ,Ar,As,Au,DK,Av,Aw,Ax, Value.int IntKind.i64 (↑(List.length t573) : Int), Value.int IntKind.i64 (wrap64 (x35_3 + S37.f0 (rd_T37 t573 x319_3))), Value.int IntKind.i64 x319_3,Jq,Jr,Js,Jt, u41, u42, u43, u44, u45, u46,DL,DM,H7,Eb,Ec,H8,H9,Ia,Ed,Ee,Ef,Ib,Eg,Eh,Ei,KR,KS,KT,KU,Ej,Ek,El,KV,KW,Em,En,Eo,Ep,KX,KY,KZ,Er,Es,Ic,Id,Ie,Ig,K0,Ay,K1,K2,K3,Az,AA,AB,AC,AD,AE,AF,AG,AH,AJ,AK,AL,AM,AN,AO,AP,AQ,AR,AU,AV,AW,AX,AY,AZ,Ba,Bb,Bc,Bd,Be,Bf,Bg,Bh,Bi,Bj,Bk,Bl,Bm,Bn,Bo,Bp,Bq,Br,Bs,Bt,Bu,Bv,Bw,Bx,Bz,BA,BB,BC,BD,BE,BF,BG,BH,BI,BJ,BK,BL,BM,BN,BO,BP,BQ,BR,BS,BT,BU,BV,BW,BX,BZ,B0,B1,B2,B4,B5,B6,B9,Ca,Cb,Cc,Cd,Ce,Cf,Cg,Ch,Ci,Cj,Ck,Cl,Cm,Cn,Co,Cp,Cq,Cr,Cs,Ct,Cu,Cv,Cw,Cx,Cy,Cz,CA,CB,CC,CD,CE,CF,CG,CH,CI,CJ,CK,CL,CM,CN,CO,CP,CQ,CR,CS,CT,CU,CV,CW,CX,CY,CZ,C0,C1,C2,C3,C4,C5,C6,C7,C8,C9,Da,Db,Dc,Dd,De,Df,Dg,Dh,Di,Dj,Dk,Dl,Dm,Dn,Dq,Dr,Ds,Dt,Du,Dv,Dw,Dx,Dy,Dz,DA,DB,DC,DD,DE,DF,DG,DH,DI,DN,DO,DP,G0,G1,G2,G3,G4,G5,G6,G7,G8,G9,Ha,Hb,Hc,Hd,He,Hf,Hg,Hh,Hi,Hj,Hk,Hl,Hm,Hn,Ho,Hp,Hq,Hr,Hs,Ht,Hu,Hv,Hw,Hx,Hy,Hz,HD,HE,HF,HG,HH,HI,HJ,HM,HN,HP,HQ,HR,Ea,DQ,DR, Value.int IntKind.i64 x319_3,HS,HU,HV,HW,HX,HY,HZ,H0,H1,H2,H3,H4,H5,H6,Ju,Jv,Jw,Jx,Jy,Jz,JA,JB,JC,JD,JE,JF,JG,JH,JI,JJ,JK,JL,JM,JN,JO,JP,JQ,JR,JS,JT,JU,JV,JW,JX,JY,JZ,J0,J1,J2,J3,J4,J5,J6,J7,J8,J9,Ka,Kb,Ke,Kf,Kg,Kh,Ki,Kj,Kk,Kl,Km,Kn,Ko,Kp,Kq,Kr,Ks,Kt,Ku,Kv,Kw,Kx,Ky,Kz,KA,KB,Ih,KC,KD,KE,KF,KG,KH,KI,KJ,KK,KL,KM,KN,KO,KP,KQ, Value.bool x418_106, u419, u420, u421, u422, u423, u424, u425, u426, u427, u428, u429, u430, u431, u432, u433, u434, u435, u436, u437, u438, u439, u440, u441, u442, u443, u444, u445, u446, u447, u448, u449, u450, u451, u452, u453, u454, u455, u456, u457, u458, u459, u460, u461, u462, u463, u464, u465, u466, u467, u468, u469, u470, u471, u472, u473, u474, u475, u476, u477, u478, u479, u480,DS,DT,DU,DV,DW,DX,DY,DZ,D0,D1,D2,D3,D4,D5,D6,D7,D8,D9,Et,Eu,Ew,Ex,Ey,Ez,EA,EB,EC,ED,EE,EF,EG,EH,EI,EJ,EK,EL,EM,EN,EO,EP,EQ,ER,ES,ET,EU,EV,EW,EX,EY,EZ,E0,E1,E2,E3,E4,E5,E6,E7,E8,E9,Fa,Fb,Fc,Fd,Fe,Ff,Fg,Fh,Fi,Fj,Fk,Fl,Fm,Fn,Fo,Fp,Fq,Fr,Fs,Ft,Fu,Fv,Fw,Fx,Fy,Fz,FA,FB,FC,FD,FE,FF,FG,FH,FI,FJ,FL,FM,FN,FO,FP,FQ,FR,FS,FT,FU,FV,FW,FX,FY,FZ,F0,F1,F2,F3,F4,F5,F6,F7,F8,F9,Ga,Gb,Gc,Gd,Ge,Gf,Gg,Gh,Gi,Gj,Gk,Gl,Gm,Gn,Gp,Gq,Gr,Gs,Gt,Gu,Gv,Gw,Gx,Gy,Gz,GA,GB,GC,GD,GE,GF,GG,GH,GI,GJ,GK,GL,GM,GN,GO,GP,GQ,GR,GS,GT,Ii,Ij,Ik,Il,Im,Io,Ip,Iq,Ir,Is,It,Iu,Iv,Iw,Ix,Iy,Iz,IA,IB,IC,ID,IE,IF,IG,IH,II,IJ,IK,IL,IM,IP,IQ,IR,IU,IV,IW,IX,IY,IZ,I0,I1,I2,I3,I4,I5,I6,I7,I8,I9,Ja,Jb,Jc,Jd,Je,Jf,Jg,Jh,Ji,Jj,Jk,Jl,Jm,Jn,Jo,Jp,K4,K5,K6,K7,K8,K9,La,Lb,Lc,Ld,Le,Lf,Lg,Lh,Li,Lj,Lk,Lm,Ln,Lo,Lp,Lq,Lr,Ls,Lt,Lu,Lv,Lw,Lx,Ly,Lz,LA,LB,LC,LD,LE,LF,LG,LH,LI,LJ,LK,LL,LM,LN,LO,LP,LQ,LR,LS,LT,LU,LV,LW,LX,LY,LZ,L0,L1] []) wc := by
  conv => arg 2; whnf
  (try conv => arg 4; dsimp only)
  replace c115 := Bool.eq_false_iff.mpr c115
  subst c115
  rw [if_neg ft_] at H
  have H' := Aside0.mk H
  clear H
  go_wp2
  go_roundg kj106
  case measure => have := HJ17.out; have := HJ64.out; have := HK3.out; have := HJ83.out; have := HJ106.out; omega
  case rel => exact ⟨((wrap64 (x35_3 + ((rd_T37 t573 x319_3).f0)))), (wrap64 (x319_3 + 1)), rt_, rt_, H', ⟨by have := HJ17.out; have := HJ64.out; have := HK3.out; have := HJ83.out; have := HJ106.out; omega⟩, ⟨by (with_reducible repeat (first | apply Kd.R_alloc | apply Kd.R_drewN | apply Kd.R_drew)); exact Kd.R_mono HO_5.out (fun _ hk => trivial)⟩, ⟨sd_to HO_6⟩, ⟨by (with_reducible repeat (first | apply Kd.R_alloc | apply Kd.R_drewN | apply Kd.R_drew)); exact Kd.R_mono HO_317.out (fun _ hk => trivial)⟩, ⟨below_to1 HB GE619.out⟩⟩
end Go.Proofs.YtbhnpccbjgbcbaaGreatDoor.QD
