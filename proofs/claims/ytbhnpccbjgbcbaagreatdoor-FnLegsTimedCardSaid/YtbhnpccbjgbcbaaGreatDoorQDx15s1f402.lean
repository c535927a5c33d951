import Derived.Test.YtbhnpccbjgbcbaaGreatDoorQDx15s1r
namespace Go.Proofs.YtbhnpccbjgbcbaaGreatDoor.QD
open Go.Proofs.YtbhnpccbjgbcbaaGreatDoor.X Go.RowKit Go.Proofs.YtbhnpccbjgbcbaaGreatDoorW.PrintWords Go.Proofs.YtbhnpccbjgbcbaaGreatDoorW.PrintLast Go.Proofs.YtbhnpccbjgbcbaaGreatDoorW.PrintMore
attribute [local go_sem] max2_int min2_int max_two min_two max_three min_three max_four min_four
set_option linter.unusedVariables false
set_option linter.unusedSimpArgs false
set_option maxHeartbeats 16000000 in
set_option maxRecDepth 1000000 in
theorem lw_.first402 {Aa Ab Ac Ad Na DJ Ae Af GU GV Ag Ah Ai Aj GW Ak Al Am GX GY An Ao Ap Aq Ar As Au DK Av Aw Ax Nd L2 L3 L4 L5 L6 L7 L8 DL DM H7 Eb Ec H8 H9 Ia Ed Ee Ef Ib Eg Eh Ei KR KS KT KU Ej Ek El KV KW Em En Eo Ep KX KY KZ Er Es Ic Id Ie Ig K0 Ay K1 K2 K3 Az AA AB AC AD AE AF AG AH AJ AK AL AM AN AO AP AQ AR AU AV AW AX AY AZ Ba Bb Bc Bd Be Bf Bg Bh Bi Bj Bk Bl Bm Bn Bo Bp Bq Br Bs Bt Bu Bv Bw Bx Bz BA BB BC BD BE BF BG BH BI BJ BK BL BM BN BO BP BQ BR BS BT BU BV BW BX BZ B0 B1 B2 B4 B5 B6 B9 Ca Cb Cc Cd Ce Cf Cg Ch Ci Cj Ck Cl Cm Cn Co Cp Cq Cr Cs Ct Cu Cv Cw Cx Cy Cz CA CB CC CD CE CF CG CH CI CJ CK CL CM CN CO CP CQ CR CS CT CU CV CW CX CY CZ C0 C1 C2 C3 C4 C5 C6 C7 C8 C9 Da Db Dc Dd De Df Dg Dh Di Dj Dk Dl Dm Dn Dq Dr Ds Dt Du Dv Dw Dx Dy Dz DA DB DC DD DE DF DG DH DI DN DO DP G0 G1 G2 G3 G4 G5 G6 G7 G8 G9 Ha Hb Hc Hd He Hf Hg Hh Hi Hj Hk Hl Hm Hn Ho Hp Hq Hr Hs Ht Hu Hv Hw Hx Hy Hz HD HE HF HG HH HI HJ HM HN HP HQ HR Ea DQ DR L9 HS HU HV HW HX HY HZ H0 H1 H2 H3 H4 H5 H6 Ih KC KD KE KF KG KH KI KJ KK KL KM KN KO KP KQ Nb Ma Mb Mc Md Me Mf Mg Mh Mi Mj Mk Ml Mm Mn Mo Mp Mq Mr Ms Mt Mu Mv Mw Mx My Mz MA MB MC MD ME MF MG MH MI MJ MK ML MM MN MO MP MQ MR MS MT MU MV MW MX MY MZ M0 M1 M2 M3 M4 M5 M6 M7 M8 M9 DS DT DU DV DW DX DY DZ D0 D1 D2 D3 D4 D5 D6 D7 D8 D9 Et Eu Ew Ex Ey Ez EA EB EC ED EE EF EG EH EI EJ EK EL EM EN EO EP EQ ER ES ET EU EV EW EX EY EZ E0 E1 E2 E3 E4 E5 E6 E7 E8 E9 Fa Fb Fc Fd Fe Ff Fg Fh Fi Fj Fk Fl Fm Fn Fo Fp Fq Fr Fs Ft Fu Fv Fw Fx Fy Fz FA FB FC FD FE FF FG FH FI FJ FL FM FN FO FP FQ FR FS FT FU FV FW FX FY FZ F0 F1 F2 F3 F4 F5 F6 F7 F8 F9 Ga Gb Gc Gd Ge Gf Gg Gh Gi Gj Gk Gl Gm Gn Gp Gq Gr Gs Gt Gu Gv Gw Gx Gy Gz GA GB GC GD GE GF GG GH GI GJ GK GL GM GN GO GP GQ GR GS GT Ii Ij Ik Il Im Io Ip Iq Ir Is It Iu Iv Iw Ix Iy Iz IA IB IC ID IE IF IG IH II IJ IK IL IM IP IQ IR IU IV IW IX IY IZ I0 I1 I2 I3 I4 I5 I6 I7 I8 I9 Ja Jb Jc Jd Je Jf Jg Jh Ji Jj Jk Jl Jm Jn Jo Jp K4 K5 K6 K7 K8 K9 La Lb Lc Ld Le Lf Lg Lh Li Lj Lk Lm Ln Lo Lp Lq Lr Ls Lt Lu Lv Lw Lx Ly Lz LA LB LC LD LE LF LG LH LI LJ LK LL LM LN LO LP LQ LR LS LT LU LV LW LX LY LZ L0 L1 : Value} {Kz0_ Kz1_ Kz2_ Kz3_ Kz4_ : Act → World → Prop} (k : Nat) (l1 : List Int) (r : Bool) (w : World) (HR_ : Aside0 (r = Bool.true)) (hu37 : Program.underlying Tryz.prog (37 : Nat) = Option.some (TypeDesc.struct #[Field.mk "Long" (3 : Nat) (0 : Nat) Bool.false "" "" (0 : Nat), Field.mk "Fast" (3 : Nat) (1 : Nat) Bool.false "" "" (8 : Nat)])) (t573 : List S37) (t576 : List (List Int)) (t590 t600 : Int) (t604 : ByteArray) (nd co20 : Nat) (v578 : Value) (kj17 : Nat) (HJ17 : Aside0 (kj17 + (1 : Nat) ≤ k)) (kj64 : Nat) (HJ64 : Aside0 (kj64 + (1 : Nat) ≤ kj17)) (wr : World) (u334 u335 u336 u337 u338 u339 u340 u341 u342 u343 u344 u345 u346 u347 u348 u349 u350 u351 u352 u353 u354 u355 u356 u357 u358 u359 u360 u361 u362 u363 u364 u365 u366 u367 u368 u369 u370 u371 u372 u373 u374 u375 u376 u377 u378 u379 u380 u381 u382 u383 u384 u385 u386 u387 u388 u389 u390 u391 u392 u393 u394 u395 u396 u397 u398 u399 u400 u401 u402 : Value) (x35_3 x319_3 : Int) (k3 : Nat) (HK3 : Aside0 (k3 + (1 : Nat) ≤ kj64)) (c80b0 : Decidable.decide (x319_3 < (↑(List.length t573) : Int)) = Bool.true) (c81b0 : Decidable.decide ((0 : Int) ≤ x319_3) = Bool.true) (c82b0 : Decidable.decide (x319_3 < (↑(List.length t573) : Int)) = Bool.true) (t620 t621 : Int) (t622 : Bool) (HC84 : Aside0 ((if x319_3 < (↑(List.length t576) : Int) then if (0 : Int) < (↑(List.length (rd_L2 t576 x319_3)) : Int) then if (1 : Int) < (↑(List.length (rd_L2 t576 x319_3)) : Int) then Option.bind (laws_yLow.f k3 (rd (rd_L2 t576 x319_3) (0 : Int)) (rd (rd_L2 t576 x319_3) (1 : Int))) fun t627 => if t627 = Bool.true then if (0 : Int) ≤ t600 then if t600 < (↑(List.length t573) : Int) then if wrap64 (S37.f0 (rd_T37 t573 x319_3) * S37.f1 (rd_T37 t573 t600)) > wrap64 (S37.f0 (rd_T37 t573 t600) * S37.f1 (rd_T37 t573 x319_3)) then lw_.j3 k3 l1 t573 t576 t590 t600 t604 (↑(List.length t573) : Int) (wrap64 (x35_3 + S37.f0 (rd_T37 t573 x319_3))) x319_3 t573 (↑(List.length t573) : Int) x319_3 Bool.true else if x319_3 < t600 then if wrap64 (S37.f0 (rd_T37 t573 x319_3) * S37.f1 (rd_T37 t573 t600)) = wrap64 (S37.f0 (rd_T37 t573 t600) * S37.f1 (rd_T37 t573 x319_3)) then lw_.j3 k3 l1 t573 t576 t590 t600 t604 (↑(List.length t573) : Int) (wrap64 (x35_3 + S37.f0 (rd_T37 t573 x319_3))) x319_3 t573 (↑(List.length t573) : Int) x319_3 Bool.true else if t622 = Bool.true then if t620 = (0 : Int) then lw_.j3 k3 l1 t573 t576 t590 t600 t604 (↑(List.length t573) : Int) (wrap64 (x35_3 + S37.f0 (rd_T37 t573 x319_3))) x319_3 t573 (↑(List.length t573) : Int) x319_3 (t621 != (1 : Int)) else lw_.j3 k3 l1 t573 t576 t590 t600 t604 (↑(List.length t573) : Int) (wrap64 (x35_3 + S37.f0 (rd_T37 t573 x319_3))) x319_3 t573 (↑(List.length t573) : Int) x319_3 Bool.true else lw_.j3 k3 l1 t573 t576 t590 t600 t604 (↑(List.length t573) : Int) (wrap64 (x35_3 + S37.f0 (rd_T37 t573 x319_3))) x319_3 t573 (↑(List.length t573) : Int) x319_3 Bool.true else if t622 = Bool.true then if t620 = (0 : Int) then lw_.j3 k3 l1 t573 t576 t590 t600 t604 (↑(List.length t573) : Int) (wrap64 (x35_3 + S37.f0 (rd_T37 t573 x319_3))) x319_3 t573 (↑(List.length t573) : Int) x319_3 (t621 != (1 : Int)) else lw_.j3 k3 l1 t573 t576 t590 t600 t604 (↑(List.length t573) : Int) (wrap64 (x35_3 + S37.f0 (rd_T37 t573 x319_3))) x319_3 t573 (↑(List.length t573) : Int) x319_3 Bool.true else lw_.j3 k3 l1 t573 t576 t590 t600 t604 (↑(List.length t573) : Int) (wrap64 (x35_3 + S37.f0 (rd_T37 t573 x319_3))) x319_3 t573 (↑(List.length t573) : Int) x319_3 Bool.true else Option.none else Option.none else lw_.j3 k3 l1 t573 t576 t590 t600 t604 (↑(List.length t573) : Int) (wrap64 (x35_3 + S37.f0 (rd_T37 t573 x319_3))) x319_3 t573 (↑(List.length t573) : Int) x319_3 Bool.true else Option.none else Option.none else Option.none) = Option.some r)) (ad618 : Addr) (hx618_0 : World.cell? wr (Addr.add ad618 (Int.toNat x319_3 * (2 : Nat))) = Option.some (Value.int IntKind.i64 (S37.f0 (rd_T37 t573 x319_3)))) (hx618_1 : World.cell? wr (Addr.mk (Addr.block (Addr.add ad618 (Int.toNat x319_3 * (2 : Nat)))) (Addr.off (Addr.add ad618 (Int.toNat x319_3 * (2 : Nat))) + (1 : Nat)) Option.none) = Option.some (Value.int IntKind.i64 (S37.f1 (rd_T37 t573 x319_3)))) (p618 : ((0 : Int) ≤ x319_3) = True) (q618 : (x319_3 < (↑(List.length t573) : Int)) = True) (gb619 : Nat) (w85 : World) (GW619 GE619 : Aside0 (Array.size (World.heap w) ≤ gb619)) (hcz86_0 : World.cell? w85 (Addr.mk gb619 (0 : Nat) Option.none) = Option.some (Value.int IntKind.i64 (0 : Int))) (hcz86_1 : World.cell? w85 (Addr.mk gb619 (1 : Nat) Option.none) = Option.some (Value.int IntKind.i64 (0 : Int))) (hfz86_0 : World.frozen? w85 (Addr.mk gb619 (0 : Nat) Option.none) = Bool.false) (hfz86_1 : World.frozen? w85 (Addr.mk gb619 (1 : Nat) Option.none) = Bool.false) (w87 : World) (HO_5 : Aside0 (Kd.R k37 (37 : Nat) w87 (Array.size (World.heap w)) (fun x => True ∧ x ≠ gb619) (Value.slice (Option.some ad618) (List.length t573) co20) t573)) (HO_6 : Aside0 (Kd.S (Kd.slice (3 : Nat) (Kd.int IntKind.i64)) (23 : Nat) w87 (Array.size (World.heap w)) (fun x => True) v578 t576)) (HO_317 : Aside0 (Kd.R k37 (37 : Nat) w87 (Array.size (World.heap w)) (fun x => True ∧ x ≠ gb619) (Value.slice (Option.some ad618) (List.length t573) co20) t573)) (BK619 : Aside0 ((World.heap w87)[gb619]? = Option.some (Obj.cells #[Value.int IntKind.i64 (S37.f0 (rd_T37 t573 x319_3)), Value.int IntKind.i64 (S37.f1 (rd_T37 t573 x319_3))] (37 : TypeId)))) (HB : Aside0 (Below (Array.size (World.heap w)) w w87)) (J_ K_ : Act → World → Prop) (hJ_ : ∀ (a' : Act) (w' : World), (∃ u334 u335 u336 u337 u338 u339 u340 u341 u342 u343 u344 u345 u346 u347 u348 u349 u350 u351 u352 u353 u354 u355 u356 u357 u358 u359 u360 u361 u362 u363 u364 u365 u366 u367 u368 u369 u370 u371 u372 u373 u374 u375 u376 u377 u378 u379 u380 u381 u382 u383 u384 u385 u386 u387 u388 u389 u390 u391 u392 u393 u394 u395 u396 u397 u398 u399 u400 u401 u402, (∃ kq x402_83, u402 = Value.bool x402_83 ∧ Aside0 (lw_.j3 kq l1 t573 t576 t590 t600 t604 (↑(List.length t573) : Int) (wrap64 (x35_3 + S37.f0 (rd_T37 t573 x319_3))) x319_3 t573 (↑(List.length t573) : Int) x319_3 x402_83 = Option.some r) ∧ Aside0 (kq ≤ k3) ∧ Aside0 (Kd.R k37 (37 : Nat) w' (Array.size (World.heap w)) (fun k_ => k_ ≠ gb619) (Value.slice (Option.some ad618) (List.length t573) co20) t573) ∧ Aside0 (Kd.S (Kd.slice (3 : Nat) (Kd.int IntKind.i64)) (23 : Nat) w' (Array.size (World.heap w)) (fun x => True) v578 t576) ∧ Aside0 (Kd.R k37 (37 : Nat) w' (Array.size (World.heap w)) (fun k_ => k_ ≠ gb619) (Value.slice (Option.some ad618) (List.length t573) co20) t573) ∧ Aside0 ((World.heap w')[gb619]? = Option.some (Obj.cells #[Value.int IntKind.i64 (S37.f0 (rd_T37 t573 x319_3)), Value.int IntKind.i64 (S37.f1 (rd_T37 t573 x319_3))] (37 : TypeId))) ∧ Aside0 (Below (Array.size (World.heap w)) w w')) ∧ a' = Act.mk #[Aa,Ab,Ac,Ad,Na, Value.slice (Option.some ad618) (List.length t573) co20, v578,DJ,Ae,Af,GU,GV,Ag,Ah,Ai,Aj,GW,Ak,Al,Am,GX,GY,An,Ao,Ap,Aq, Value.int IntKind.i64 t600,Ar,As,Au,DK,Av,Aw,Ax,Nd,L2, Value.int IntKind.i64 x319_3, Value.pointer (Option.some (Addr.mk gb619 (0 : Nat) Option.none)), Value.int IntKind.i64 t620, Value.int IntKind.i64 t621, Value.bool t622,L3,L4,L5,L6,L7,L8,DL,DM,H7,Eb,Ec,H8,H9,Ia,Ed,Ee,Ef,Ib,Eg,Eh,Ei,KR,KS,KT,KU,Ej,Ek,El,KV,KW,Em,En,Eo,Ep,KX,KY,KZ,Er,Es,Ic,Id,Ie,Ig,K0,Ay,K1,K2,K3,Az,AA,AB,AC,AD,AE,AF,AG,AH,AJ,AK,AL,AM,AN,AO,AP,AQ,AR,AU,AV,AW,AX,AY,AZ,Ba,Bb,Bc,Bd,Be,Bf,Bg,Bh,Bi,Bj,Bk,Bl,Bm,Bn,Bo,Bp,Bq,Br,Bs,Bt,Bu,Bv,Bw,Bx,Bz,BA,BB,BC,BD,BE,BF,BG,BH,BI,BJ,BK,BL,BM,BN,BO,BP,BQ,BR,BS,BT,BU,BV,BW,BX,BZ,B0,B1,B2,B4,B5,B6,B9,Ca,Cb,Cc,Cd,Ce,Cf,Cg,Ch,Ci,Cj,Ck,Cl,Cm,Cn,Co,Cp,Cq,Cr,Cs,Ct,Cu,Cv,Cw,Cx,Cy,Cz,CA,CB,CC,CD,CE,CF,CG,CH,CI,CJ,CK,CL,CM,CN,CO,CP,CQ,CR,CS,CT,CU,CV,CW,CX,CY,CZ,C0,C1,C2,C3,C4,C5,C6,C7,C8,C9,Da,Db,Dc,Dd,De,Df,Dg,Dh,Di,Dj,Dk,Dl,Dm,Dn,Dq,Dr,Ds,Dt,Du,Dv,Dw,Dx,Dy,Dz,DA,DB,DC,DD,DE,DF,DG,DH,DI,DN,DO,DP,G0,G1,G2,G3,G4,G5,G6,G7,G8,G9,Ha,Hb,Hc,Hd,He,Hf,Hg,Hh,Hi,Hj,Hk,Hl,Hm,Hn,Ho,Hp,Hq,Hr,Hs,Ht,Hu,Hv,Hw,Hx,Hy,Hz,HD,HE,HF,HG,HH,HI,HJ,HM,HN,HP,HQ,HR,Ea,DQ,DR,L9,HS,HU,HV,HW,HX,HY,HZ,H0,H1,H2,H3,H4,H5,H6, u334, u335, u336, u337, u338, u339, u340, u341, u342, u343, u344, u345, u346, u347, u348, u349, u350, u351, u352, u353, u354, u355, u356, u357, u358, u359, u360, u361, u362, u363, u364, u365, u366, u367, u368, u369, u370, u371, u372, u373, u374, u375, u376, u377, u378, u379, u380, u381, u382, u383, u384, u385, u386, u387, u388, u389, u390, u391, u392, u393, u394, u395, u396, u397, u398, u399, u400, u401, u402,KC,KD,KE,KF,KG,KH,KI,KJ,KK,KL,KM,KN,KO,KP,KQ,Nb,Ma,Mb,Mc,Md,Me,Mf,Mg,Mh,Mi,Mj,Mk,Ml,Mm,Mn,Mo,Mp,Mq,Mr,Ms,Mt,Mu,Mv,Mw,Mx,My,Mz,MA,MB,MC,MD,ME,MF,MG,MH,MI,MJ,MK,ML,MM,MN,MO,MP,MQ,MR,MS,MT,MU,MV,MW,MX,MY,MZ,M0,M1,M2,M3,M4,M5,M6,M7,M8,M9,DS,DT,DU,DV,DW,DX,DY,DZ,D0,D1,D2,D3,D4,D5,D6,D7,D8,D9,Et,Eu,Ew,Ex,Ey,Ez,EA,EB,EC,ED,EE,EF,EG,EH,EI,EJ,EK,EL,EM,EN,EO,EP,EQ,ER,ES,ET,EU,EV,EW,EX,EY,EZ,E0,E1,E2,E3,E4,E5,E6,E7,E8,E9,Fa,Fb,Fc,Fd,Fe,Ff,Fg,Fh,Fi,Fj,Fk,Fl,Fm,Fn,Fo,Fp,Fq,Fr,Fs,Ft,Fu,Fv,Fw,Fx,Fy,Fz,FA,FB,FC,FD,FE,FF,FG,FH,FI,FJ,FL,FM,FN,FO,FP,FQ,FR,FS,FT,FU,FV,FW,FX,FY,FZ,F0,F1,F2,F3,F4,F5,F6,F7,F8,F9,Ga,Gb,Gc,Gd,Ge,Gf,Gg,Gh,Gi,Gj,Gk,Gl,Gm,Gn,Gp,Gq,Gr,Gs,Gt,Gu,Gv,Gw,Gx,Gy,Gz,GA,GB,GC,GD,GE,GF,GG,GH,GI,GJ,GK,GL,GM,GN,GO,GP,GQ,GR,GS,GT,Ii,Ij,Ik,Il,Im,Io,Ip,Iq,Ir,Is,It,Iu,Iv,Iw,Ix,Iy,Iz,IA,IB,IC,ID,IE,IF,IG,IH,II,IJ,IK,IL,IM,IP,IQ,IR,IU,IV,IW,IX,IY,IZ,I0,I1,I2,I3,I4,I5,I6,I7,I8,I9,Ja,Jb,Jc,Jd,Je,Jf,Jg,Jh,Ji,Jj,Jk,Jl,Jm,Jn,Jo,Jp,K4,K5,K6,K7,K8,K9,La,Lb,Lc,Ld,Le,Lf,Lg,Lh,Li,Lj,Lk,Lm,Ln,Lo,Lp,Lq,Lr,Ls,Lt,Lu,Lv,Lw,Lx,Ly,Lz,LA,LB,LC,LD,LE,LF,LG,LH,LI,LJ,LK,LL,LM,LN,LO,LP,LQ,LR,LS,LT,LU,LV,LW,LX,LY,LZ,L0,L1] []) → J_ a' w') (hK_ : ∀ a' w', Met J_ a' w' → K_ a' w') :
    Code.wp Tryz.prog ((lw_.reg 28 lw_.body).getD .skip) (Exit.then K_ (Exit.then Kz1_ (Exit.inBlock (1 : Nat) (Exit.then Kz0_ (Exit.then Kz3_ (Exit.inBlock (0 : Nat) (Exit.then Kz4_ (Exit.then Kz2_ (bodyPost Tryz.prog Tryz.f4 fun e w' => e = Ending.returned (Value.bool r) ∧ Below (Array.size (World.heap w)) w w'))))))))) (Act.mk #[Aa,Ab,Ac,Ad,Na, Value.slice (Option.some ad618) (List.length t573) co20, v578,DJ,Ae,Af,GU,GV,Ag,Ah,Ai,Aj,GW,Ak,Al,Am,GX,GY,An,Ao,Ap,Aq, Value.int IntKind.i64 t600,Ar,As,Au,DK,Av,Aw,Ax,Nd,L2, Value.int IntKind.i64 x319_3, Value.pointer (Option.some (Addr.mk gb619 (0 : Nat) Option.none)), Value.int IntKind.i64 t620, Value.int IntKind.i64 t621, Value.bool t622,L3,L4,L5,L6,L7,L8,DL,DM,H7,Eb,Ec,H8,H9,Ia,Ed,Ee,Ef,Ib,Eg,Eh,Ei,KR,KS,KT,KU,Ej,Ek,El,KV,KW,Em,En,Eo,Ep,KX,KY,KZ,Er,Es,Ic,Id,Ie,Ig,K0,Ay,K1,K2,K3,Az,AA,AB,AC,AD,AE,AF,AG,AH,AJ,AK,AL,AM,AN,AO,AP,AQ,AR,AU,AV,AW,AX,AY,AZ,Ba,Bb,Bc,Bd,Be,Bf,Bg,Bh,Bi,Bj,Bk,Bl,Bm,Bn,Bo,Bp,Bq,Br,Bs,Bt,Bu,Bv,Bw,Bx,Bz,BA,BB,BC,BD,BE,BF,BG,BH,BI,BJ,BK,BL,BM,BN,BO,BP,BQ,BR,BS,BT,BU,BV,BW,BX,BZ,B0,B1,B2,B4,B5,B6,B9,Ca,Cb,Cc,Cd,Ce,Cf,Cg,Ch,Ci,Cj,Ck,Cl,Cm,Cn,Co,Cp,Cq,Cr,Cs,Ct,Cu,Cv,Cw,Cx,Cy,Cz,CA,CB,CC,CD,CE,CF,CG,CH,CI,CJ,CK,CL,CM,CN,CO,CP,CQ,CR,CS,CT,CU,CV,CW,CX,CY,CZ,C0,C1,C2,C3,C4,C5,C6,C7,C8,C9,Da,Db,Dc,Dd,De,Df,Dg,Dh,Di,Dj,Dk,Dl,Dm,Dn,Dq,Dr,Ds,Dt,Du,Dv,Dw,Dx,Dy,Dz,DA,DB,DC,DD,DE,DF,DG,DH,DI,DN,DO,DP,G0,G1,G2,G3,G4,G5,G6,G7,G8,G9,Ha,Hb,Hc,Hd,He,Hf,Hg,Hh,Hi,Hj,Hk,Hl,Hm,Hn,Ho,Hp,Hq,Hr,Hs,Ht,Hu,Hv,Hw,Hx,Hy,Hz,HD,HE,HF,HG,HH,HI,HJ,HM,HN,HP,HQ,HR,Ea,DQ,DR,L9,HS,HU,HV,HW,HX,HY,HZ,H0,H1,H2,H3,H4,H5,H6, u334, u335, u336, u337, u338, u339, u340, u341, u342, u343, u344, u345, u346, u347, u348, u349, u350, u351, u352, u353, u354, u355, u356, u357, u358, u359, u360, u361, u362, u363, u364, u365, u366, u367, u368, u369, u370, u371, u372, u373, u374, u375, u376, u377, u378, u379, u380, u381, u382, u383, u384, u385, u386, u387, u388, u389, u390, u391, u392, u393, u394, u395, u396, u397, u398, u399, u400, u401,Ih,KC,KD,KE,KF,KG,KH,KI,KJ,KK,KL,KM,KN,KO,KP,KQ,Nb,Ma,Mb,Mc,Md,Me,Mf,Mg,Mh,Mi,Mj,Mk,Ml,Mm,Mn,Mo,Mp,Mq,Mr,Ms,Mt,Mu,Mv,Mw,Mx,My,Mz,MA,MB,MC,MD,ME,MF,MG,MH,MI,MJ,MK,ML,MM,MN,MO,MP,MQ,MR,MS,MT,MU,MV,MW,MX,MY,MZ,M0,M1,M2,M3,M4,M5,M6,M7,M8,M9,DS,DT,DU,DV,DW,DX,DY,DZ,D0,D1,D2,D3,D4,D5,D6,D7,D8,D9,Et,Eu,Ew,Ex,Ey,Ez,EA,EB,EC,ED,EE,EF,EG,EH,EI,EJ,EK,EL,EM,EN,EO,EP,EQ,ER,ES,ET,EU,EV,EW,EX,EY,EZ,E0,E1,E2,E3,E4,E5,E6,E7,E8,E9,Fa,Fb,Fc,Fd,Fe,Ff,Fg,Fh,Fi,Fj,Fk,Fl,Fm,Fn,Fo,Fp,Fq,Fr,Fs,Ft,Fu,Fv,Fw,Fx,Fy,Fz,FA,FB,FC,FD,FE,FF,FG,FH,FI,FJ,FL,FM,FN,FO,FP,FQ,FR,FS,FT,FU,FV,FW,FX,FY,FZ,F0,F1,F2,F3,F4,F5,F6,F7,F8,F9,Ga,Gb,Gc,Gd,Ge,Gf,Gg,Gh,Gi,Gj,Gk,Gl,Gm,Gn,Gp,Gq,Gr,Gs,Gt,Gu,Gv,Gw,Gx,Gy,Gz,GA,GB,GC,GD,GE,GF,GG,GH,GI,GJ,GK,GL,GM,GN,GO,GP,GQ,GR,GS,GT,Ii,Ij,Ik,Il,Im,Io,Ip,Iq,Ir,Is,It,Iu,Iv,Iw,Ix,Iy,Iz,IA,IB,IC,ID,IE,IF,IG,IH,II,IJ,IK,IL,IM,IP,IQ,IR,IU,IV,IW,IX,IY,IZ,I0,I1,I2,I3,I4,I5,I6,I7,I8,I9,Ja,Jb,Jc,Jd,Je,Jf,Jg,Jh,Ji,Jj,Jk,Jl,Jm,Jn,Jo,Jp,K4,K5,K6,K7,K8,K9,La,Lb,Lc,Ld,Le,Lf,Lg,Lh,Li,Lj,Lk,Lm,Ln,Lo,Lp,Lq,Lr,Ls,Lt,Lu,Lv,Lw,Lx,Ly,Lz,LA,LB,LC,LD,LE,LF,LG,LH,LI,LJ,LK,LL,LM,LN,LO,LP,LQ,LR,LS,LT,LU,LV,LW,LX,LY,LZ,L0,L1] []) w87 := by
  conv => arg 2; whnf
  (try conv => arg 4; dsimp only)
  (try conv => arg 2; dsimp only [List.append_eq, List.cons_append, List.nil_append])
  have H := HC84.out
  clear HC84
  by_cases c88 : x319_3 < (t576.length : Int)
  rotate_left
  ·rw [if_neg c88] at H
   cases H
  rw [if_pos c88] at H
  have c88b0 := decide_eq_true c88
  clear c88
  (first | rw [c88b0] | (simp only [i64_w, i32_w]; rw [c88b0]) | skip)
  by_cases c89 : 0 < ((rd_L2 t576 x319_3).length : Int)
  rotate_left
  ·rw [if_neg c89] at H
   cases H
  rw [if_pos c89] at H
  have c89b0 := decide_eq_true c89
  have c89b1 : decide (0 < (rd_L2 t576 x319_3).length) = true := decide_eq_true (by omega)
  clear c89
  by_cases c90 : 1 < ((rd_L2 t576 x319_3).length : Int)
  rotate_left
  ·rw [if_neg c90] at H
   cases H
  rw [if_pos c90] at H
  have c90b0 := decide_eq_true c90
  have c90b1 : decide (1 < (rd_L2 t576 x319_3).length) = true := decide_eq_true (by omega)
  clear c90
  replace H := Option.bind_eq_some_iff.mp H
  obtain ⟨t627, A910, H⟩ := H
  (try dsimp only at H)
  have A91 := Aside0.mk A910
  clear A910
  by_cases c92 : t627 = true
  rotate_left
  ·replace c92 := Bool.eq_false_iff.mpr c92
   subst c92
   rw [if_neg ft_] at H
   exact absurd H (by rw [HR_.out]; cases k3 <;> simp [lw_.j3])
  subst c92
  rw [if_pos rfl] at H
  by_cases c93 : 0 ≤ t600
  rotate_left
  ·rw [if_neg c93] at H
   cases H
  rw [if_pos c93] at H
  have c93b0 := decide_eq_true c93
  clear c93
  by_cases c94 : t600 < (t573.length : Int)
  rotate_left
  ·rw [if_neg c94] at H
   cases H
  rw [if_pos c94] at H
  have c94b0 := decide_eq_true c94
  clear c94
  by_cases c95 : (wrap64 (((rd_T37 t573 x319_3).f0) * ((rd_T37 t573 t600).f1))) > (wrap64 (((rd_T37 t573 t600).f0) * ((rd_T37 t573 x319_3).f1)))
  ·rw [if_pos c95] at H
   have c95b0 := decide_eq_true c95
   clear c95
   exact absurd H (by rw [HR_.out]; cases k3 <;> simp [lw_.j3])
  rw [if_neg c95] at H
  have c95b0 := decide_eq_false c95
  clear c95
  by_cases c96 : x319_3 < t600
  ·rw [if_pos c96] at H
   have c96b0 := decide_eq_true c96
   clear c96
   by_cases c97 : (wrap64 (((rd_T37 t573 x319_3).f0) * ((rd_T37 t573 t600).f1))) = (wrap64 (((rd_T37 t573 t600).f0) * ((rd_T37 t573 x319_3).f1)))
   ·rw [if_pos c97] at H
    have c97b0 := beq_iff_eq.mpr c97
    have c97b1 := bne_eq_false_iff_eq.mpr c97
    clear c97
    exact absurd H (by rw [HR_.out]; cases k3 <;> simp [lw_.j3])
   rw [if_neg c97] at H
   have c97b0 := beq_eq_false_iff_ne.mpr c97
   have c97b1 := bne_iff_ne.mpr c97
   by_cases c98 : t622 = true
   rotate_left
   ·replace c98 := Bool.eq_false_iff.mpr c98
    subst c98
    rw [if_neg ft_] at H
    exact absurd H (by rw [HR_.out]; cases k3 <;> simp [lw_.j3])
   subst c98
   rw [if_pos rfl] at H
   by_cases c99 : t620 = 0
   rotate_left
   ·rw [if_neg c99] at H
    have c99b0 := beq_eq_false_iff_ne.mpr c99
    have c99b1 := bne_iff_ne.mpr c99
    exact absurd H (by rw [HR_.out]; cases k3 <;> simp [lw_.j3])
   rw [if_pos c99] at H
   have c99b0 := beq_iff_eq.mpr c99
   have c99b1 := bne_eq_false_iff_eq.mpr c99
   clear c99
   have H' := Aside0.mk H
   clear H
   try go_wp2
   have n0_ := Aside0.mk (Kd.R_drew HO_5.out)
   have n1_ := Aside0.mk (Kd.S_drew HO_6.out)
   have n2_ := Aside0.mk (Kd.R_drew HO_317.out)
   have n3_ := Aside0.mk (blk_drew BK619.out)
   have n4_ := Aside0.mk (below_drew1 HB.out)
   clear HO_5
   clear HO_6
   clear HO_317
   clear BK619
   clear HB
   have HO_5 := n0_
   have HO_6 := n1_
   have HO_317 := n2_
   have BK619 := n3_
   have HB := n4_
   clear n0_ n1_ n2_ n3_ n4_
   obtain ⟨Ao101, co101, eo101⟩ := Kd.S_slice HO_6.out
   (first | subst eo101 | (injection eo101 with f1_ f2_ f3_; have f4_ := f1_.symm; have f5_ := f3_.symm; clear f1_ f2_ f3_; subst f4_; subst f5_))
   have p623 : 0 ≤ (x319_3 : Int) := odt_
   have q623 : x319_3 < (t576.length : Int) := odt_
   obtain ⟨ad623, A623_0, c623_0, e623, hx623_0, hl623_0, hi623_0⟩ := at_L2 (Kd.S_reads' HO_6.out).2.2 x319_3 p623 q623
   cases e623
   obtain ⟨ce623, hce623, hMe623, hcc623⟩ := Kd.S_get HO_6.out [] x319_3 p623 (by first | exact q623 | exact of_decide_eq_true (by first | (with_reducible assumption) | assumption) | (have e_ := (Kd.S_reads' HO_6.out).1; omega))
   obtain ⟨ve623_0, rfl, ge623_0⟩ := hMe623
   have hv623_0 := hcc623 0 _ rfl
   rw [Nat.add_zero, show ((Kd.slice 3 (Kd.int .i64))).sz = 1 from rfl, Nat.mul_one] at hv623_0
   replace hv623_0 := Option.some.inj (hv623_0.symm.trans hx623_0)
   rw [hv623_0] at ge623_0
   have HL623_0 := Aside0.mk (show Kd.R (Kd.int .i64) 3 _ _ _ _ (rd_L2 t576 x319_3) from ge623_0)
   clear hv623_0 ge623_0
   clear hcc623 hce623
   have HR623_0 := Aside0.mk hi623_0
   have HC623_0 := Aside0.mk hl623_0
   clear hi623_0 hl623_0
   replace p623 := eq_true p623
   replace q623 := eq_true q623
   have p624 : 0 ≤ (0 : Int) := (by omega)
   have q624 : 0 < ((rd_L2 t576 x319_3).length : Int) := odt_
   obtain ⟨ad624, e624, hx624_0⟩ := Kd.at_int (by repeat (first | (with_reducible exact HR623_0.out) | (with_reducible refine Kd.C_alloc ?_ _) | (with_reducible refine Kd.C_drewN ?_ _) | (with_reducible refine Kd.C_drew ?_) | exact HR623_0.out)) 0 p624 q624
   cases e624
   have qi624 : (0 < (rd_L2 t576 x319_3).length) = True := eq_true (by omega)
   (try rw [show ((0 : Int)).toNat = 0 from rfl] at hx624_0)
   (try rw [Addr.add_zero'] at hx624_0)
   replace p624 := eq_true p624
   replace q624 := eq_true q624
   have p625 : 0 ≤ (x319_3 : Int) := odt_
   have q625 : x319_3 < (t576.length : Int) := odt_
   obtain ⟨ad625, A625_0, c625_0, e625, hx625_0, hl625_0, hi625_0⟩ := at_L2 (Kd.S_reads' HO_6.out).2.2 x319_3 p625 q625
   obtain rfl : ad623 = ad625 := (by injection e625)
   obtain ⟨ce625, hce625, hMe625, hcc625⟩ := Kd.S_get HO_6.out [] x319_3 p625 (by first | exact q625 | exact of_decide_eq_true (by first | (with_reducible assumption) | assumption) | (have e_ := (Kd.S_reads' HO_6.out).1; omega))
   obtain ⟨ve625_0, rfl, ge625_0⟩ := hMe625
   have hv625_0 := hcc625 0 _ rfl
   rw [Nat.add_zero, show ((Kd.slice 3 (Kd.int .i64))).sz = 1 from rfl, Nat.mul_one] at hv625_0
   replace hv625_0 := Option.some.inj (hv625_0.symm.trans hx625_0)
   rw [hv625_0] at ge625_0
   have HL625_0 := Aside0.mk (show Kd.R (Kd.int .i64) 3 _ _ _ _ (rd_L2 t576 x319_3) from ge625_0)
   clear hv625_0 ge625_0
   clear hcc625 hce625
   have HR625_0 := Aside0.mk hi625_0
   have HC625_0 := Aside0.mk hl625_0
   clear hi625_0 hl625_0
   replace p625 := eq_true p625
   replace q625 := eq_true q625
   have ea_ := Option.some.inj (hx623_0.symm.trans hx625_0)
   injection ea_ with ea_ en_ ec_
   subst ea_
   subst ec_
   clear en_
   have p626 : 0 ≤ (1 : Int) := (by omega)
   have q626 : 1 < ((rd_L2 t576 x319_3).length : Int) := odt_
   obtain ⟨ad626, e626, hx626_0⟩ := Kd.at_int (by repeat (first | (with_reducible exact HR625_0.out) | (with_reducible refine Kd.C_alloc ?_ _) | (with_reducible refine Kd.C_drewN ?_ _) | (with_reducible refine Kd.C_drew ?_) | exact HR625_0.out)) 1 p626 q626
   cases e626
   (try simp only [show (1 : Int).toNat = 1 from rfl, Nat.reduceMul, Nat.reduceEqDiff, Go.Addr.add, ↓reduceIte] at hx626_0)
   have qi626 : (1 < (rd_L2 t576 x319_3).length) = True := eq_true (by omega)
   (try rw [show ((1 : Int)).toNat = 1 from rfl] at hx626_0)
   replace p626 := eq_true p626
   replace q626 := eq_true q626
   have p628 : 0 ≤ (t600 : Int) := odt_
   have q628 : t600 < (t573.length : Int) := odt_
   obtain ⟨ad628, e628, hx628_0, hx628_1⟩ := at_T37 (Kd.R_reads' HO_5.out).2.2 t600 p628 q628
   obtain rfl : ad618 = ad628 := (by injection e628)
   replace p628 := eq_true p628
   replace q628 := eq_true q628
   have p629 : 0 ≤ (t600 : Int) := odt_
   have q629 : t600 < (t573.length : Int) := odt_
   obtain ⟨ad629, e629, hx629_0, hx629_1⟩ := at_T37 (Kd.R_reads' HO_5.out).2.2 t600 p629 q629
   obtain rfl : ad618 = ad629 := (by injection e629)
   replace p629 := eq_true p629
   replace q629 := eq_true q629
   have p630 : 0 ≤ (t600 : Int) := odt_
   have q630 : t600 < (t573.length : Int) := odt_
   obtain ⟨ad630, e630, hx630_0, hx630_1⟩ := at_T37 (Kd.R_reads' HO_5.out).2.2 t600 p630 q630
   obtain rfl : ad618 = ad630 := (by injection e630)
   replace p630 := eq_true p630
   replace q630 := eq_true q630
   have p631 : 0 ≤ (t600 : Int) := odt_
   have q631 : t600 < (t573.length : Int) := odt_
   obtain ⟨ad631, e631, hx631_0, hx631_1⟩ := at_T37 (Kd.R_reads' HO_5.out).2.2 t600 p631 q631
   obtain rfl : ad618 = ad631 := (by injection e631)
   replace p631 := eq_true p631
   replace q631 := eq_true q631
   refine start_ (n := 69) (S := fun w' => w'.cell? ⟨gb619, 0, none⟩ = some (.int .i64 ((rd_T37 t573 x319_3).f0)) ∧ w'.cell? ⟨gb619, 1, none⟩ = some (.int .i64 ((rd_T37 t573 x319_3).f1)) ∧ w'.cell? (ad623.add (x319_3).toNat) = some (.slice (some ad624) (rd_L2 t576 x319_3).length c623_0) ∧ w'.cell? ad624 = some (.int .i64 (rd (rd_L2 t576 x319_3) 0)) ∧ w'.cell? (ad623.add (x319_3).toNat) = some (.slice (some ad624) (rd_L2 t576 x319_3).length c623_0) ∧ w'.cell? ⟨ad624.block, ad624.off + 1, none⟩ = some (.int .i64 (rd (rd_L2 t576 x319_3) 1)) ∧ w'.cell? (ad618.add ((t600).toNat * 2)) = some (.int .i64 ((rd_T37 t573 t600).f0)) ∧ w'.cell? ⟨(ad618.add ((t600).toNat * 2)).block, (ad618.add ((t600).toNat * 2)).off + 1, none⟩ = some (.int .i64 ((rd_T37 t573 t600).f1)) ∧ w'.cell? (ad618.add ((t600).toNat * 2)) = some (.int .i64 ((rd_T37 t573 t600).f0)) ∧ w'.cell? ⟨(ad618.add ((t600).toNat * 2)).block, (ad618.add ((t600).toNat * 2)).off + 1, none⟩ = some (.int .i64 ((rd_T37 t573 t600).f1)) ∧ w'.cell? (ad618.add ((t600).toNat * 2)) = some (.int .i64 ((rd_T37 t573 t600).f0)) ∧ w'.cell? ⟨(ad618.add ((t600).toNat * 2)).block, (ad618.add ((t600).toNat * 2)).off + 1, none⟩ = some (.int .i64 ((rd_T37 t573 t600).f1)) ∧ w'.cell? (ad618.add ((t600).toNat * 2)) = some (.int .i64 ((rd_T37 t573 t600).f0)) ∧ w'.cell? ⟨(ad618.add ((t600).toNat * 2)).block, (ad618.add ((t600).toNat * 2)).off + 1, none⟩ = some (.int .i64 ((rd_T37 t573 t600).f1))) (ds := []) (fr_ [0, 69]) (by kernel_rfl) rfl rfl ⟨(blk_cell BK619.out 0).trans rfl, (blk_cell BK619.out 1).trans rfl, hx623_0, hx624_0, hx625_0, hx626_0, hx628_0, hx628_1, hx629_0, hx629_1, hx630_0, hx630_1, hx631_0, hx631_1⟩ (fun hHeld => ?_); refine with_tabW lw_.tab28 lw_.bits28 (fun HT_ HW_ => ?_)
   generalize w87.drew = w100 at HO_5 HO_6 HO_317 BK619 HB HL623_0 HL625_0 HR623_0 HR625_0 hx623_0 hx624_0 hx625_0 hx626_0 hx628_0 hx628_1 hx629_0 hx629_1 hx630_0 hx630_1 hx631_0 hx631_1 hHeld ⊢
   refine purS_ (i := 0) (N := some 334) (fl_ 69 1) HT_.out ?_
   refine purS_ (i := 1) (N := some 335) (fl_ 69 2) HT_.out ?_
   refine purS_ (i := 2) (N := some 336) (fl_ 69 3) HT_.out ?_
   refine purS_ (i := 6) (N := some 340) (fr_ [3, 3, 1, 62]) HT_.out ?_
   refine purS_ (i := 7) (N := some 341) (fr_ [3, 3, 2, 61]) HT_.out ?_
   refine purS_ (i := 8) (N := some 342) (fr_ [3, 3, 3, 60]) HT_.out ?_
   refine take_ (i := 3) (N := some 337) (v := ?_) (a' := ?_) (fr_ [4, 2, 3, 60]) rfl rfl (take_ofW HT_.out HW_.out (by kernel_rfl)) (fun _ _ _ h => h) (Or.inl ⟨by rfl, ?_⟩) hHeld ?_ ?_
   rotate_left
   ·rintro w' ⟨s0, s1, s2, s3, s4, s5, s6, s7, s8, s9, s10, s11, s12, s13⟩
    go_simp
    with_reducible rfl
   rotate_left
   ·simp only [Act.put, List.setIfInBounds_toArray, List.set_cons_zero, List.set_cons_succ, i64_w, i32_w]
    rfl
   refine purS_ (i := 4) (N := some 338) (fr_ [5, 1, 3, 60]) HT_.out ?_
   refine take_ (i := 5) (N := some 339) (v := ?_) (a' := ?_) (fr_ [9, 60]) rfl rfl (take_ofW HT_.out HW_.out (by kernel_rfl)) (fun _ _ _ h => h) (Or.inl ⟨by rfl, ?_⟩) hHeld ?_ ?_
   rotate_left
   ·rintro w' ⟨s0, s1, s2, s3, s4, s5, s6, s7, s8, s9, s10, s11, s12, s13⟩
    go_simp
    with_reducible rfl
   rotate_left
   ·simp only [Act.put, List.setIfInBounds_toArray, List.set_cons_zero, List.set_cons_succ, i64_w, i32_w]
    rfl
   refine take_ (i := 9) (N := some 343) (v := ?_) (a' := ?_) (fr_ [10, 59]) rfl rfl (take_ofW HT_.out HW_.out (by kernel_rfl)) (fun _ _ _ h => h) (Or.inl ⟨by rfl, ?_⟩) hHeld ?_ ?_
   rotate_left
   ·rintro w' ⟨s0, s1, s2, s3, s4, s5, s6, s7, s8, s9, s10, s11, s12, s13⟩
    go_simp
    with_reducible rfl
   rotate_left
   ·simp only [Act.put, List.setIfInBounds_toArray, List.set_cons_zero, List.set_cons_succ, i64_w, i32_w]
    rfl
   refine purS_ (i := 10) (N := some 344) (fl_ 69 11) HT_.out ?_
   refine take_ (i := 11) (N := some 345) (v := ?_) (a' := ?_) (fr_ [12, 57]) rfl rfl (take_ofW HT_.out HW_.out (by kernel_rfl)) (fun _ _ _ h => h) (Or.inl ⟨by rfl, ?_⟩) hHeld ?_ ?_
   rotate_left
   ·rintro w' ⟨s0, s1, s2, s3, s4, s5, s6, s7, s8, s9, s10, s11, s12, s13⟩
    go_simp
    with_reducible rfl
   rotate_left
   ·simp only [Act.put, List.setIfInBounds_toArray, List.set_cons_zero, List.set_cons_succ, i64_w, i32_w]
    rfl
   refine one_ (i := 12) (N := some 346) (fr_ [13, 56]) rfl rfl (one_of HT_.out (by kernel_rfl)) (by decide) (fun K hK => ?_)
   refine goes_ Tryz.func20 (by kernel_rfl) rfl #[.int .i64 (rd (rd_L2 t576 x319_3) 0), .int .i64 (rd (rd_L2 t576 x319_3) 1)] (by rfl) rfl rfl am_ ?_
   with_reducible refine (laws_yLow.calls k3 (rd (rd_L2 t576 x319_3) 0) (rd (rd_L2 t576 x319_3) 1) true _ A91.out).mono ?_
   rintro e w' ⟨rfl, ⟨nd, rfl⟩⟩
   refine ⟨_, rfl, ?_⟩
   refine hK.out _ _ ⟨(blk_cell BK619.out 0).trans rfl, (blk_cell BK619.out 1).trans rfl, hHeld.2.2.1, hHeld.2.2.2.1, hHeld.2.2.2.2.1, hHeld.2.2.2.2.2.1, hHeld.2.2.2.2.2.2.1, hHeld.2.2.2.2.2.2.2.1, hHeld.2.2.2.2.2.2.2.2.1, hHeld.2.2.2.2.2.2.2.2.2.1, hHeld.2.2.2.2.2.2.2.2.2.2.1, hHeld.2.2.2.2.2.2.2.2.2.2.2.1, hHeld.2.2.2.2.2.2.2.2.2.2.2.2.1, hHeld.2.2.2.2.2.2.2.2.2.2.2.2.2⟩ (fun hHeld => ?_)
   clear hK K
   refine norm_ (a' := ?_) ?_ ?_
   rotate_left
   ·show Act.put _ (some 346) _ = _
    simp only [Act.put, List.setIfInBounds_toArray, List.set_cons_zero, List.set_cons_succ, i64_w, i32_w]
    rfl
   refine purS_ (i := 13) (N := some 347) (fl_ 69 14) HT_.out ?_
   refine purS_ (i := 14) (N := some 348) (fl_ 69 15) HT_.out ?_
   refine purS_ (i := 15) (N := some 349) (fl_ 69 16) HT_.out ?_
   refine purS_ (i := 17) (N := some 351) (fr_ [16, 1, 1, 51]) HT_.out ?_
   refine purS_ (i := 18) (N := some 352) (fr_ [16, 1, 2, 50]) HT_.out ?_
   refine purS_ (i := 19) (N := some 353) (fr_ [16, 1, 3, 49]) HT_.out ?_
   refine purS_ (i := 20) (N := some 354) (fr_ [16, 1, 4, 48]) HT_.out ?_
   refine purS_ (i := 23) (N := some 357) (fr_ [16, 1, 4, 2, 1, 45]) HT_.out ?_
   refine purS_ (i := 24) (N := some 358) (fr_ [16, 1, 4, 2, 2, 44]) HT_.out ?_
   refine purS_ (i := 25) (N := some 359) (fr_ [16, 1, 4, 2, 3, 43]) HT_.out ?_
   refine purS_ (i := 26) (N := some 360) (fr_ [16, 1, 4, 2, 4, 42]) HT_.out ?_
   refine purS_ (i := 28) (N := some 362) (fr_ [16, 1, 4, 2, 4, 1, 1, 40]) HT_.out ?_
   refine take_ (i := 16) (N := some 350) (v := ?_) (a' := ?_) (fr_ [21, 2, 4, 1, 1, 40]) rfl rfl (take_ofW HT_.out HW_.out (by kernel_rfl)) (fun _ _ _ h => h) (Or.inl ⟨by rfl, ?_⟩) hHeld ?_ ?_
   rotate_left
   ·rintro w' ⟨s0, s1, s2, s3, s4, s5, s6, s7, s8, s9, s10, s11, s12, s13⟩
    go_simp
    with_reducible rfl
   rotate_left
   ·simp only [Act.put, List.setIfInBounds_toArray, List.set_cons_zero, List.set_cons_succ, i64_w, i32_w]
    rfl
   refine take_ (i := 21) (N := some 355) (v := ?_) (a' := ?_) (fr_ [22, 1, 4, 1, 1, 40]) rfl rfl (take_ofW HT_.out HW_.out (by kernel_rfl)) (fun _ _ _ h => h) (Or.inl ⟨by rfl, ?_⟩) hHeld ?_ ?_
   rotate_left
   ·rintro w' ⟨s0, s1, s2, s3, s4, s5, s6, s7, s8, s9, s10, s11, s12, s13⟩
    go_simp
    with_reducible rfl
   rotate_left
   ·simp only [Act.put, List.setIfInBounds_toArray, List.set_cons_zero, List.set_cons_succ, i64_w, i32_w]
    rfl
   refine purS_ (i := 22) (N := some 356) (fr_ [27, 1, 1, 40]) HT_.out ?_
   refine take_ (i := 27) (N := some 361) (v := ?_) (a' := ?_) (fr_ [29, 40]) rfl rfl (take_ofW HT_.out HW_.out (by kernel_rfl)) (fun _ _ _ h => h) (Or.inl ⟨by rfl, ?_⟩) hHeld ?_ ?_
   rotate_left
   ·rintro w' ⟨s0, s1, s2, s3, s4, s5, s6, s7, s8, s9, s10, s11, s12, s13⟩
    go_simp
    with_reducible rfl
   rotate_left
   ·simp only [Act.put, List.setIfInBounds_toArray, List.set_cons_zero, List.set_cons_succ, i64_w, i32_w]
    rfl
   refine take_ (i := 29) (N := some 363) (v := ?_) (a' := ?_) (fr_ [30, 39]) rfl rfl (take_ofW HT_.out HW_.out (by kernel_rfl)) (fun _ _ _ h => h) (Or.inl ⟨by rfl, ?_⟩) hHeld ?_ ?_
   rotate_left
   ·rintro w' ⟨s0, s1, s2, s3, s4, s5, s6, s7, s8, s9, s10, s11, s12, s13⟩
    go_simp
    with_reducible rfl
   rotate_left
   ·simp only [Act.put, List.setIfInBounds_toArray, List.set_cons_zero, List.set_cons_succ, i64_w, i32_w]
    rfl
   refine purS_ (i := 30) (N := some 364) (fl_ 69 31) HT_.out ?_
   refine purS_ (i := 31) (N := some 365) (fl_ 69 32) HT_.out ?_
   refine purS_ (i := 32) (N := some 366) (fl_ 69 33) HT_.out ?_
   refine purS_ (i := 33) (N := some 367) (fl_ 69 34) HT_.out ?_
   refine purS_ (i := 34) (N := some 368) (fl_ 69 35) HT_.out ?_
   refine purS_ (i := 35) (N := some 369) (fl_ 69 36) HT_.out ?_
   refine purS_ (i := 36) (N := some 370) (fl_ 69 37) HT_.out ?_
   refine purS_ (i := 37) (N := some 371) (fl_ 69 38) HT_.out ?_
   refine purS_ (i := 38) (N := some 372) (fl_ 69 39) HT_.out ?_
   refine purS_ (i := 40) (N := some 374) (fr_ [39, 1, 1, 28]) HT_.out ?_
   refine purS_ (i := 41) (N := some 375) (fr_ [39, 1, 2, 27]) HT_.out ?_
   refine purS_ (i := 42) (N := some 376) (fr_ [39, 1, 3, 26]) HT_.out ?_
   refine purS_ (i := 43) (N := some 377) (fr_ [39, 1, 4, 25]) HT_.out ?_
   refine purS_ (i := 46) (N := some 380) (fr_ [39, 1, 4, 2, 1, 22]) HT_.out ?_
   refine purS_ (i := 47) (N := some 381) (fr_ [39, 1, 4, 2, 2, 21]) HT_.out ?_
   refine purS_ (i := 48) (N := some 382) (fr_ [39, 1, 4, 2, 3, 20]) HT_.out ?_
   refine purS_ (i := 49) (N := some 383) (fr_ [39, 1, 4, 2, 4, 19]) HT_.out ?_
   refine purS_ (i := 51) (N := some 385) (fr_ [39, 1, 4, 2, 4, 1, 1, 17]) HT_.out ?_
   refine take_ (i := 39) (N := some 373) (v := ?_) (a' := ?_) (fr_ [44, 2, 4, 1, 1, 17]) rfl rfl (take_ofW HT_.out HW_.out (by kernel_rfl)) (fun _ _ _ h => h) (Or.inl ⟨by rfl, ?_⟩) hHeld ?_ ?_
   rotate_left
   ·rintro w' ⟨s0, s1, s2, s3, s4, s5, s6, s7, s8, s9, s10, s11, s12, s13⟩
    go_simp
    with_reducible rfl
   rotate_left
   ·simp only [Act.put, List.setIfInBounds_toArray, List.set_cons_zero, List.set_cons_succ, i64_w, i32_w]
    rfl
   refine take_ (i := 44) (N := some 378) (v := ?_) (a' := ?_) (fr_ [45, 1, 4, 1, 1, 17]) rfl rfl (take_ofW HT_.out HW_.out (by kernel_rfl)) (fun _ _ _ h => h) (Or.inl ⟨by rfl, ?_⟩) hHeld ?_ ?_
   rotate_left
   ·rintro w' ⟨s0, s1, s2, s3, s4, s5, s6, s7, s8, s9, s10, s11, s12, s13⟩
    go_simp
    with_reducible rfl
   rotate_left
   ·simp only [Act.put, List.setIfInBounds_toArray, List.set_cons_zero, List.set_cons_succ, i64_w, i32_w]
    rfl
   refine purS_ (i := 45) (N := some 379) (fr_ [50, 1, 1, 17]) HT_.out ?_
   refine take_ (i := 50) (N := some 384) (v := ?_) (a' := ?_) (fr_ [52, 17]) rfl rfl (take_ofW HT_.out HW_.out (by kernel_rfl)) (fun _ _ _ h => h) (Or.inl ⟨by rfl, ?_⟩) hHeld ?_ ?_
   rotate_left
   ·rintro w' ⟨s0, s1, s2, s3, s4, s5, s6, s7, s8, s9, s10, s11, s12, s13⟩
    go_simp
    with_reducible rfl
   rotate_left
   ·simp only [Act.put, List.setIfInBounds_toArray, List.set_cons_zero, List.set_cons_succ, i64_w, i32_w]
    rfl
   refine take_ (i := 52) (N := some 386) (v := ?_) (a' := ?_) (fr_ [53, 16]) rfl rfl (take_ofW HT_.out HW_.out (by kernel_rfl)) (fun _ _ _ h => h) (Or.inl ⟨by rfl, ?_⟩) hHeld ?_ ?_
   rotate_left
   ·rintro w' ⟨s0, s1, s2, s3, s4, s5, s6, s7, s8, s9, s10, s11, s12, s13⟩
    go_simp
    with_reducible rfl
   rotate_left
   ·simp only [Act.put, List.setIfInBounds_toArray, List.set_cons_zero, List.set_cons_succ, i64_w, i32_w]
    rfl
   refine purS_ (i := 53) (N := some 387) (fl_ 69 54) HT_.out ?_
   refine purS_ (i := 54) (N := some 388) (fl_ 69 55) HT_.out ?_
   refine purS_ (i := 55) (N := some 389) (fl_ 69 56) HT_.out ?_
   refine purS_ (i := 56) (N := some 390) (fl_ 69 57) HT_.out ?_
   refine purS_ (i := 57) (N := some 391) (fl_ 69 58) HT_.out ?_
   refine purS_ (i := 58) (N := some 392) (fl_ 69 59) HT_.out ?_
   refine purS_ (i := 59) (N := some 393) (fl_ 69 60) HT_.out ?_
   refine purS_ (i := 60) (N := some 394) (fl_ 69 61) HT_.out ?_
   refine purS_ (i := 61) (N := some 395) (fl_ 69 62) HT_.out ?_
   refine purS_ (i := 62) (N := some 396) (fl_ 69 63) HT_.out ?_
   refine purS_ (i := 63) (N := some 397) (fl_ 69 64) HT_.out ?_
   refine purS_ (i := 64) (N := some 398) (fl_ 69 65) HT_.out ?_
   refine purS_ (i := 65) (N := some 399) (fl_ 69 66) HT_.out ?_
   refine purS_ (i := 66) (N := some 400) (fl_ 69 67) HT_.out ?_
   refine purS_ (i := 67) (N := some 401) (fl_ 69 68) HT_.out ?_
   refine purS_ (i := 68) (N := some 402) (fl_ 69 69) HT_.out ?_
   refine done_ (done_of HT_.out (by kernel_rfl)) ?_
   try go_wp2
   go_meet
   case rel => exact ⟨_, ((t621 != 1)), rt_, H', ⟨by have := HJ17.out; have := HJ64.out; have := HK3.out; first | omega | exact Nat.le_refl _⟩, ⟨by (with_reducible repeat (first | apply Kd.R_alloc | apply Kd.R_drewN | apply Kd.R_drew)); exact Kd.R_mono HO_5.out (fun _ hk => hk.2)⟩, ⟨sd_to HO_6⟩, ⟨by (with_reducible repeat (first | apply Kd.R_alloc | apply Kd.R_drewN | apply Kd.R_drew)); exact Kd.R_mono HO_317.out (fun _ hk => hk.2)⟩, ⟨blk_to BK619⟩, ⟨below_to1 HB GE619.out⟩⟩
  rw [if_neg c96] at H
  have c96b0 := decide_eq_false c96
  clear c96
  by_cases c102 : t622 = true
  rotate_left
  ·replace c102 := Bool.eq_false_iff.mpr c102
   subst c102
   rw [if_neg ft_] at H
   exact absurd H (by rw [HR_.out]; cases k3 <;> simp [lw_.j3])
  subst c102
  rw [if_pos rfl] at H
  by_cases c103 : t620 = 0
  rotate_left
  ·rw [if_neg c103] at H
   have c103b0 := beq_eq_false_iff_ne.mpr c103
   have c103b1 := bne_iff_ne.mpr c103
   exact absurd H (by rw [HR_.out]; cases k3 <;> simp [lw_.j3])
  rw [if_pos c103] at H
  have c103b0 := beq_iff_eq.mpr c103
  have c103b1 := bne_eq_false_iff_eq.mpr c103
  clear c103
  have H' := Aside0.mk H
  clear H
  try go_wp2
  have n0_ := Aside0.mk (Kd.R_drew HO_5.out)
  have n1_ := Aside0.mk (Kd.S_drew HO_6.out)
  have n2_ := Aside0.mk (Kd.R_drew HO_317.out)
  have n3_ := Aside0.mk (blk_drew BK619.out)
  have n4_ := Aside0.mk (below_drew1 HB.out)
  clear HO_5
  clear HO_6
  clear HO_317
  clear BK619
  clear HB
  have HO_5 := n0_
  have HO_6 := n1_
  have HO_317 := n2_
  have BK619 := n3_
  have HB := n4_
  clear n0_ n1_ n2_ n3_ n4_
  obtain ⟨Ao105, co105, eo105⟩ := Kd.S_slice HO_6.out
  (first | subst eo105 | (injection eo105 with f1_ f2_ f3_; have f4_ := f1_.symm; have f5_ := f3_.symm; clear f1_ f2_ f3_; subst f4_; subst f5_))
  have p623 : 0 ≤ (x319_3 : Int) := odt_
  have q623 : x319_3 < (t576.length : Int) := odt_
  obtain ⟨ad623, A623_0, c623_0, e623, hx623_0, hl623_0, hi623_0⟩ := at_L2 (Kd.S_reads' HO_6.out).2.2 x319_3 p623 q623
  cases e623
  obtain ⟨ce623, hce623, hMe623, hcc623⟩ := Kd.S_get HO_6.out [] x319_3 p623 (by first | exact q623 | exact of_decide_eq_true (by first | (with_reducible assumption) | assumption) | (have e_ := (Kd.S_reads' HO_6.out).1; omega))
  obtain ⟨ve623_0, rfl, ge623_0⟩ := hMe623
  have hv623_0 := hcc623 0 _ rfl
  rw [Nat.add_zero, show ((Kd.slice 3 (Kd.int .i64))).sz = 1 from rfl, Nat.mul_one] at hv623_0
  replace hv623_0 := Option.some.inj (hv623_0.symm.trans hx623_0)
  rw [hv623_0] at ge623_0
  have HL623_0 := Aside0.mk (show Kd.R (Kd.int .i64) 3 _ _ _ _ (rd_L2 t576 x319_3) from ge623_0)
  clear hv623_0 ge623_0
  clear hcc623 hce623
  have HR623_0 := Aside0.mk hi623_0
  have HC623_0 := Aside0.mk hl623_0
  clear hi623_0 hl623_0
  replace p623 := eq_true p623
  replace q623 := eq_true q623
  have p624 : 0 ≤ (0 : Int) := (by omega)
  have q624 : 0 < ((rd_L2 t576 x319_3).length : Int) := odt_
  obtain ⟨ad624, e624, hx624_0⟩ := Kd.at_int (by repeat (first | (with_reducible exact HR623_0.out) | (with_reducible refine Kd.C_alloc ?_ _) | (with_reducible refine Kd.C_drewN ?_ _) | (with_reducible refine Kd.C_drew ?_) | exact HR623_0.out)) 0 p624 q624
  cases e624
  have qi624 : (0 < (rd_L2 t576 x319_3).length) = True := eq_true (by omega)
  (try rw [show ((0 : Int)).toNat = 0 from rfl] at hx624_0)
  (try rw [Addr.add_zero'] at hx624_0)
  replace p624 := eq_true p624
  replace q624 := eq_true q624
  have p625 : 0 ≤ (x319_3 : Int) := odt_
  have q625 : x319_3 < (t576.length : Int) := odt_
  obtain ⟨ad625, A625_0, c625_0, e625, hx625_0, hl625_0, hi625_0⟩ := at_L2 (Kd.S_reads' HO_6.out).2.2 x319_3 p625 q625
  obtain rfl : ad623 = ad625 := (by injection e625)
  obtain ⟨ce625, hce625, hMe625, hcc625⟩ := Kd.S_get HO_6.out [] x319_3 p625 (by first | exact q625 | exact of_decide_eq_true (by first | (with_reducible assumption) | assumption) | (have e_ := (Kd.S_reads' HO_6.out).1; omega))
  obtain ⟨ve625_0, rfl, ge625_0⟩ := hMe625
  have hv625_0 := hcc625 0 _ rfl
  rw [Nat.add_zero, show ((Kd.slice 3 (Kd.int .i64))).sz = 1 from rfl, Nat.mul_one] at hv625_0
  replace hv625_0 := Option.some.inj (hv625_0.symm.trans hx625_0)
  rw [hv625_0] at ge625_0
  have HL625_0 := Aside0.mk (show Kd.R (Kd.int .i64) 3 _ _ _ _ (rd_L2 t576 x319_3) from ge625_0)
  clear hv625_0 ge625_0
  clear hcc625 hce625
  have HR625_0 := Aside0.mk hi625_0
  have HC625_0 := Aside0.mk hl625_0
  clear hi625_0 hl625_0
  replace p625 := eq_true p625
  replace q625 := eq_true q625
  have ea_ := Option.some.inj (hx623_0.symm.trans hx625_0)
  injection ea_ with ea_ en_ ec_
  subst ea_
  subst ec_
  clear en_
  have p626 : 0 ≤ (1 : Int) := (by omega)
  have q626 : 1 < ((rd_L2 t576 x319_3).length : Int) := odt_
  obtain ⟨ad626, e626, hx626_0⟩ := Kd.at_int (by repeat (first | (with_reducible exact HR625_0.out) | (with_reducible refine Kd.C_alloc ?_ _) | (with_reducible refine Kd.C_drewN ?_ _) | (with_reducible refine Kd.C_drew ?_) | exact HR625_0.out)) 1 p626 q626
  cases e626
  (try simp only [show (1 : Int).toNat = 1 from rfl, Nat.reduceMul, Nat.reduceEqDiff, Go.Addr.add, ↓reduceIte] at hx626_0)
  have qi626 : (1 < (rd_L2 t576 x319_3).length) = True := eq_true (by omega)
  (try rw [show ((1 : Int)).toNat = 1 from rfl] at hx626_0)
  replace p626 := eq_true p626
  replace q626 := eq_true q626
  have p628 : 0 ≤ (t600 : Int) := odt_
  have q628 : t600 < (t573.length : Int) := odt_
  obtain ⟨ad628, e628, hx628_0, hx628_1⟩ := at_T37 (Kd.R_reads' HO_5.out).2.2 t600 p628 q628
  obtain rfl : ad618 = ad628 := (by injection e628)
  replace p628 := eq_true p628
  replace q628 := eq_true q628
  have p629 : 0 ≤ (t600 : Int) := odt_
  have q629 : t600 < (t573.length : Int) := odt_
  obtain ⟨ad629, e629, hx629_0, hx629_1⟩ := at_T37 (Kd.R_reads' HO_5.out).2.2 t600 p629 q629
  obtain rfl : ad618 = ad629 := (by injection e629)
  replace p629 := eq_true p629
  replace q629 := eq_true q629
  refine start_ (n := 69) (S := fun w' => w'.cell? ⟨gb619, 0, none⟩ = some (.int .i64 ((rd_T37 t573 x319_3).f0)) ∧ w'.cell? ⟨gb619, 1, none⟩ = some (.int .i64 ((rd_T37 t573 x319_3).f1)) ∧ w'.cell? (ad623.add (x319_3).toNat) = some (.slice (some ad624) (rd_L2 t576 x319_3).length c623_0) ∧ w'.cell? ad624 = some (.int .i64 (rd (rd_L2 t576 x319_3) 0)) ∧ w'.cell? (ad623.add (x319_3).toNat) = some (.slice (some ad624) (rd_L2 t576 x319_3).length c623_0) ∧ w'.cell? ⟨ad624.block, ad624.off + 1, none⟩ = some (.int .i64 (rd (rd_L2 t576 x319_3) 1)) ∧ w'.cell? (ad618.add ((t600).toNat * 2)) = some (.int .i64 ((rd_T37 t573 t600).f0)) ∧ w'.cell? ⟨(ad618.add ((t600).toNat * 2)).block, (ad618.add ((t600).toNat * 2)).off + 1, none⟩ = some (.int .i64 ((rd_T37 t573 t600).f1)) ∧ w'.cell? (ad618.add ((t600).toNat * 2)) = some (.int .i64 ((rd_T37 t573 t600).f0)) ∧ w'.cell? ⟨(ad618.add ((t600).toNat * 2)).block, (ad618.add ((t600).toNat * 2)).off + 1, none⟩ = some (.int .i64 ((rd_T37 t573 t600).f1))) (ds := []) (fr_ [0, 69]) (by kernel_rfl) rfl rfl ⟨(blk_cell BK619.out 0).trans rfl, (blk_cell BK619.out 1).trans rfl, hx623_0, hx624_0, hx625_0, hx626_0, hx628_0, hx628_1, hx629_0, hx629_1⟩ (fun hHeld => ?_); refine with_tabW lw_.tab28 lw_.bits28 (fun HT_ HW_ => ?_)
  generalize w87.drew = w104 at HO_5 HO_6 HO_317 BK619 HB HL623_0 HL625_0 HR623_0 HR625_0 hx623_0 hx624_0 hx625_0 hx626_0 hx628_0 hx628_1 hx629_0 hx629_1 hHeld ⊢
  refine purS_ (i := 0) (N := some 334) (fl_ 69 1) HT_.out ?_
  refine purS_ (i := 1) (N := some 335) (fl_ 69 2) HT_.out ?_
  refine purS_ (i := 2) (N := some 336) (fl_ 69 3) HT_.out ?_
  refine purS_ (i := 6) (N := some 340) (fr_ [3, 3, 1, 62]) HT_.out ?_
  refine purS_ (i := 7) (N := some 341) (fr_ [3, 3, 2, 61]) HT_.out ?_
  refine purS_ (i := 8) (N := some 342) (fr_ [3, 3, 3, 60]) HT_.out ?_
  refine take_ (i := 3) (N := some 337) (v := ?_) (a' := ?_) (fr_ [4, 2, 3, 60]) rfl rfl (take_ofW HT_.out HW_.out (by kernel_rfl)) (fun _ _ _ h => h) (Or.inl ⟨by rfl, ?_⟩) hHeld ?_ ?_
  rotate_left
  ·rintro w' ⟨s0, s1, s2, s3, s4, s5, s6, s7, s8, s9⟩
   go_simp
   with_reducible rfl
  rotate_left
  ·simp only [Act.put, List.setIfInBounds_toArray, List.set_cons_zero, List.set_cons_succ, i64_w, i32_w]
   rfl
  refine purS_ (i := 4) (N := some 338) (fr_ [5, 1, 3, 60]) HT_.out ?_
  refine take_ (i := 5) (N := some 339) (v := ?_) (a' := ?_) (fr_ [9, 60]) rfl rfl (take_ofW HT_.out HW_.out (by kernel_rfl)) (fun _ _ _ h => h) (Or.inl ⟨by rfl, ?_⟩) hHeld ?_ ?_
  rotate_left
  ·rintro w' ⟨s0, s1, s2, s3, s4, s5, s6, s7, s8, s9⟩
   go_simp
   with_reducible rfl
  rotate_left
  ·simp only [Act.put, List.setIfInBounds_toArray, List.set_cons_zero, List.set_cons_succ, i64_w, i32_w]
   rfl
  refine take_ (i := 9) (N := some 343) (v := ?_) (a' := ?_) (fr_ [10, 59]) rfl rfl (take_ofW HT_.out HW_.out (by kernel_rfl)) (fun _ _ _ h => h) (Or.inl ⟨by rfl, ?_⟩) hHeld ?_ ?_
  rotate_left
  ·rintro w' ⟨s0, s1, s2, s3, s4, s5, s6, s7, s8, s9⟩
   go_simp
   with_reducible rfl
  rotate_left
  ·simp only [Act.put, List.setIfInBounds_toArray, List.set_cons_zero, List.set_cons_succ, i64_w, i32_w]
   rfl
  refine purS_ (i := 10) (N := some 344) (fl_ 69 11) HT_.out ?_
  refine take_ (i := 11) (N := some 345) (v := ?_) (a' := ?_) (fr_ [12, 57]) rfl rfl (take_ofW HT_.out HW_.out (by kernel_rfl)) (fun _ _ _ h => h) (Or.inl ⟨by rfl, ?_⟩) hHeld ?_ ?_
  rotate_left
  ·rintro w' ⟨s0, s1, s2, s3, s4, s5, s6, s7, s8, s9⟩
   go_simp
   with_reducible rfl
  rotate_left
  ·simp only [Act.put, List.setIfInBounds_toArray, List.set_cons_zero, List.set_cons_succ, i64_w, i32_w]
   rfl
  refine one_ (i := 12) (N := some 346) (fr_ [13, 56]) rfl rfl (one_of HT_.out (by kernel_rfl)) (by decide) (fun K hK => ?_)
  refine goes_ Tryz.func20 (by kernel_rfl) rfl #[.int .i64 (rd (rd_L2 t576 x319_3) 0), .int .i64 (rd (rd_L2 t576 x319_3) 1)] (by rfl) rfl rfl am_ ?_
  with_reducible refine (laws_yLow.calls k3 (rd (rd_L2 t576 x319_3) 0) (rd (rd_L2 t576 x319_3) 1) true _ A91.out).mono ?_
  rintro e w' ⟨rfl, ⟨nd, rfl⟩⟩
  refine ⟨_, rfl, ?_⟩
  refine hK.out _ _ ⟨(blk_cell BK619.out 0).trans rfl, (blk_cell BK619.out 1).trans rfl, hHeld.2.2.1, hHeld.2.2.2.1, hHeld.2.2.2.2.1, hHeld.2.2.2.2.2.1, hHeld.2.2.2.2.2.2.1, hHeld.2.2.2.2.2.2.2.1, hHeld.2.2.2.2.2.2.2.2.1, hHeld.2.2.2.2.2.2.2.2.2⟩ (fun hHeld => ?_)
  clear hK K
  refine norm_ (a' := ?_) ?_ ?_
  rotate_left
  ·show Act.put _ (some 346) _ = _
   simp only [Act.put, List.setIfInBounds_toArray, List.set_cons_zero, List.set_cons_succ, i64_w, i32_w]
   rfl
  refine purS_ (i := 13) (N := some 347) (fl_ 69 14) HT_.out ?_
  refine purS_ (i := 14) (N := some 348) (fl_ 69 15) HT_.out ?_
  refine purS_ (i := 15) (N := some 349) (fl_ 69 16) HT_.out ?_
  refine purS_ (i := 17) (N := some 351) (fr_ [16, 1, 1, 51]) HT_.out ?_
  refine purS_ (i := 18) (N := some 352) (fr_ [16, 1, 2, 50]) HT_.out ?_
  refine purS_ (i := 19) (N := some 353) (fr_ [16, 1, 3, 49]) HT_.out ?_
  refine purS_ (i := 20) (N := some 354) (fr_ [16, 1, 4, 48]) HT_.out ?_
  refine purS_ (i := 23) (N := some 357) (fr_ [16, 1, 4, 2, 1, 45]) HT_.out ?_
  refine purS_ (i := 24) (N := some 358) (fr_ [16, 1, 4, 2, 2, 44]) HT_.out ?_
  refine purS_ (i := 25) (N := some 359) (fr_ [16, 1, 4, 2, 3, 43]) HT_.out ?_
  refine purS_ (i := 26) (N := some 360) (fr_ [16, 1, 4, 2, 4, 42]) HT_.out ?_
  refine purS_ (i := 28) (N := some 362) (fr_ [16, 1, 4, 2, 4, 1, 1, 40]) HT_.out ?_
  refine take_ (i := 16) (N := some 350) (v := ?_) (a' := ?_) (fr_ [21, 2, 4, 1, 1, 40]) rfl rfl (take_ofW HT_.out HW_.out (by kernel_rfl)) (fun _ _ _ h => h) (Or.inl ⟨by rfl, ?_⟩) hHeld ?_ ?_
  rotate_left
  ·rintro w' ⟨s0, s1, s2, s3, s4, s5, s6, s7, s8, s9⟩
   go_simp
   with_reducible rfl
  rotate_left
  ·simp only [Act.put, List.setIfInBounds_toArray, List.set_cons_zero, List.set_cons_succ, i64_w, i32_w]
   rfl
  refine take_ (i := 21) (N := some 355) (v := ?_) (a' := ?_) (fr_ [22, 1, 4, 1, 1, 40]) rfl rfl (take_ofW HT_.out HW_.out (by kernel_rfl)) (fun _ _ _ h => h) (Or.inl ⟨by rfl, ?_⟩) hHeld ?_ ?_
  rotate_left
  ·rintro w' ⟨s0, s1, s2, s3, s4, s5, s6, s7, s8, s9⟩
   go_simp
   with_reducible rfl
  rotate_left
  ·simp only [Act.put, List.setIfInBounds_toArray, List.set_cons_zero, List.set_cons_succ, i64_w, i32_w]
   rfl
  refine purS_ (i := 22) (N := some 356) (fr_ [27, 1, 1, 40]) HT_.out ?_
  refine take_ (i := 27) (N := some 361) (v := ?_) (a' := ?_) (fr_ [29, 40]) rfl rfl (take_ofW HT_.out HW_.out (by kernel_rfl)) (fun _ _ _ h => h) (Or.inl ⟨by rfl, ?_⟩) hHeld ?_ ?_
  rotate_left
  ·rintro w' ⟨s0, s1, s2, s3, s4, s5, s6, s7, s8, s9⟩
   go_simp
   with_reducible rfl
  rotate_left
  ·simp only [Act.put, List.setIfInBounds_toArray, List.set_cons_zero, List.set_cons_succ, i64_w, i32_w]
   rfl
  refine take_ (i := 29) (N := some 363) (v := ?_) (a' := ?_) (fr_ [30, 39]) rfl rfl (take_ofW HT_.out HW_.out (by kernel_rfl)) (fun _ _ _ h => h) (Or.inl ⟨by rfl, ?_⟩) hHeld ?_ ?_
  rotate_left
  ·rintro w' ⟨s0, s1, s2, s3, s4, s5, s6, s7, s8, s9⟩
   go_simp
   with_reducible rfl
  rotate_left
  ·simp only [Act.put, List.setIfInBounds_toArray, List.set_cons_zero, List.set_cons_succ, i64_w, i32_w]
   rfl
  refine purS_ (i := 30) (N := some 364) (fl_ 69 31) HT_.out ?_
  refine purS_ (i := 31) (N := some 365) (fl_ 69 32) HT_.out ?_
  refine purS_ (i := 32) (N := some 366) (fl_ 69 33) HT_.out ?_
  refine purS_ (i := 33) (N := some 367) (fl_ 69 34) HT_.out ?_
  refine purS_ (i := 34) (N := some 368) (fl_ 69 35) HT_.out ?_
  refine purS_ (i := 35) (N := some 369) (fl_ 69 36) HT_.out ?_
  refine purS_ (i := 36) (N := some 370) (fl_ 69 37) HT_.out ?_
  refine purS_ (i := 37) (N := some 371) (fl_ 69 38) HT_.out ?_
  refine pure_ (i := 38) (N := some 372) (v := undef) (a' := ?_) (fl_ 69 39) rfl rfl (any_of HT_.out (by kernel_rfl)) (fun _ _ _ h => h) (Or.inr ⟨by rfl, rfl⟩) ?_ ?_
  rotate_left
  ·simp only [Act.put, List.setIfInBounds_toArray, List.set_cons_zero, List.set_cons_succ, i64_w, i32_w]
   rfl
  refine pure_ (i := 39) (N := some 373) (v := undef) (a' := ?_) (fl_ 69 40) rfl rfl (any_of HT_.out (by kernel_rfl)) (fun _ _ _ h => h) (Or.inr ⟨by rfl, rfl⟩) ?_ ?_
  rotate_left
  ·simp only [Act.put, List.setIfInBounds_toArray, List.set_cons_zero, List.set_cons_succ, i64_w, i32_w]
   rfl
  refine pure_ (i := 40) (N := some 374) (v := undef) (a' := ?_) (fl_ 69 41) rfl rfl (any_of HT_.out (by kernel_rfl)) (fun _ _ _ h => h) (Or.inr ⟨by rfl, rfl⟩) ?_ ?_
  rotate_left
  ·simp only [Act.put, List.setIfInBounds_toArray, List.set_cons_zero, List.set_cons_succ, i64_w, i32_w]
   rfl
  refine pure_ (i := 41) (N := some 375) (v := undef) (a' := ?_) (fl_ 69 42) rfl rfl (any_of HT_.out (by kernel_rfl)) (fun _ _ _ h => h) (Or.inr ⟨by rfl, rfl⟩) ?_ ?_
  rotate_left
  ·simp only [Act.put, List.setIfInBounds_toArray, List.set_cons_zero, List.set_cons_succ, i64_w, i32_w]
   rfl
  refine pure_ (i := 42) (N := some 376) (v := undef) (a' := ?_) (fl_ 69 43) rfl rfl (any_of HT_.out (by kernel_rfl)) (fun _ _ _ h => h) (Or.inr ⟨by rfl, rfl⟩) ?_ ?_
  rotate_left
  ·simp only [Act.put, List.setIfInBounds_toArray, List.set_cons_zero, List.set_cons_succ, i64_w, i32_w]
   rfl
  refine pure_ (i := 43) (N := some 377) (v := undef) (a' := ?_) (fl_ 69 44) rfl rfl (any_of HT_.out (by kernel_rfl)) (fun _ _ _ h => h) (Or.inr ⟨by rfl, rfl⟩) ?_ ?_
  rotate_left
  ·simp only [Act.put, List.setIfInBounds_toArray, List.set_cons_zero, List.set_cons_succ, i64_w, i32_w]
   rfl
  refine pure_ (i := 44) (N := some 378) (v := undef) (a' := ?_) (fl_ 69 45) rfl rfl (any_of HT_.out (by kernel_rfl)) (fun _ _ _ h => h) (Or.inr ⟨by rfl, rfl⟩) ?_ ?_
  rotate_left
  ·simp only [Act.put, List.setIfInBounds_toArray, List.set_cons_zero, List.set_cons_succ, i64_w, i32_w]
   rfl
  refine pure_ (i := 45) (N := some 379) (v := undef) (a' := ?_) (fl_ 69 46) rfl rfl (any_of HT_.out (by kernel_rfl)) (fun _ _ _ h => h) (Or.inr ⟨by rfl, rfl⟩) ?_ ?_
  rotate_left
  ·simp only [Act.put, List.setIfInBounds_toArray, List.set_cons_zero, List.set_cons_succ, i64_w, i32_w]
   rfl
  refine pure_ (i := 46) (N := some 380) (v := undef) (a' := ?_) (fl_ 69 47) rfl rfl (any_of HT_.out (by kernel_rfl)) (fun _ _ _ h => h) (Or.inr ⟨by rfl, rfl⟩) ?_ ?_
  rotate_left
  ·simp only [Act.put, List.setIfInBounds_toArray, List.set_cons_zero, List.set_cons_succ, i64_w, i32_w]
   rfl
  refine pure_ (i := 47) (N := some 381) (v := undef) (a' := ?_) (fl_ 69 48) rfl rfl (any_of HT_.out (by kernel_rfl)) (fun _ _ _ h => h) (Or.inr ⟨by rfl, rfl⟩) ?_ ?_
  rotate_left
  ·simp only [Act.put, List.setIfInBounds_toArray, List.set_cons_zero, List.set_cons_succ, i64_w, i32_w]
   rfl
  refine pure_ (i := 48) (N := some 382) (v := undef) (a' := ?_) (fl_ 69 49) rfl rfl (any_of HT_.out (by kernel_rfl)) (fun _ _ _ h => h) (Or.inr ⟨by rfl, rfl⟩) ?_ ?_
  rotate_left
  ·simp only [Act.put, List.setIfInBounds_toArray, List.set_cons_zero, List.set_cons_succ, i64_w, i32_w]
   rfl
  refine pure_ (i := 49) (N := some 383) (v := undef) (a' := ?_) (fl_ 69 50) rfl rfl (any_of HT_.out (by kernel_rfl)) (fun _ _ _ h => h) (Or.inr ⟨by rfl, rfl⟩) ?_ ?_
  rotate_left
  ·simp only [Act.put, List.setIfInBounds_toArray, List.set_cons_zero, List.set_cons_succ, i64_w, i32_w]
   rfl
  refine pure_ (i := 50) (N := some 384) (v := undef) (a' := ?_) (fl_ 69 51) rfl rfl (any_of HT_.out (by kernel_rfl)) (fun _ _ _ h => h) (Or.inr ⟨by rfl, rfl⟩) ?_ ?_
  rotate_left
  ·simp only [Act.put, List.setIfInBounds_toArray, List.set_cons_zero, List.set_cons_succ, i64_w, i32_w]
   rfl
  refine pure_ (i := 51) (N := some 385) (v := undef) (a' := ?_) (fl_ 69 52) rfl rfl (any_of HT_.out (by kernel_rfl)) (fun _ _ _ h => h) (Or.inr ⟨by rfl, rfl⟩) ?_ ?_
  rotate_left
  ·simp only [Act.put, List.setIfInBounds_toArray, List.set_cons_zero, List.set_cons_succ, i64_w, i32_w]
   rfl
  refine pure_ (i := 52) (N := some 386) (v := undef) (a' := ?_) (fl_ 69 53) rfl rfl (any_of HT_.out (by kernel_rfl)) (fun _ _ _ h => h) (Or.inr ⟨by rfl, rfl⟩) ?_ ?_
  rotate_left
  ·simp only [Act.put, List.setIfInBounds_toArray, List.set_cons_zero, List.set_cons_succ, i64_w, i32_w]
   rfl
  refine pure_ (i := 53) (N := some 387) (v := undef) (a' := ?_) (fl_ 69 54) rfl rfl (any_of HT_.out (by kernel_rfl)) (fun _ _ _ h => h) (Or.inr ⟨by rfl, rfl⟩) ?_ ?_
  rotate_left
  ·simp only [Act.put, List.setIfInBounds_toArray, List.set_cons_zero, List.set_cons_succ, i64_w, i32_w]
   rfl
  refine pure_ (i := 54) (N := some 388) (v := undef) (a' := ?_) (fl_ 69 55) rfl rfl (any_of HT_.out (by kernel_rfl)) (fun _ _ _ h => h) (Or.inr ⟨by rfl, rfl⟩) ?_ ?_
  rotate_left
  ·simp only [Act.put, List.setIfInBounds_toArray, List.set_cons_zero, List.set_cons_succ, i64_w, i32_w]
   rfl
  refine purS_ (i := 55) (N := some 389) (fl_ 69 56) HT_.out ?_
  refine purS_ (i := 56) (N := some 390) (fl_ 69 57) HT_.out ?_
  refine purS_ (i := 57) (N := some 391) (fl_ 69 58) HT_.out ?_
  refine purS_ (i := 58) (N := some 392) (fl_ 69 59) HT_.out ?_
  refine purS_ (i := 59) (N := some 393) (fl_ 69 60) HT_.out ?_
  refine purS_ (i := 60) (N := some 394) (fl_ 69 61) HT_.out ?_
  refine purS_ (i := 61) (N := some 395) (fl_ 69 62) HT_.out ?_
  refine purS_ (i := 62) (N := some 396) (fl_ 69 63) HT_.out ?_
  refine purS_ (i := 63) (N := some 397) (fl_ 69 64) HT_.out ?_
  refine purS_ (i := 64) (N := some 398) (fl_ 69 65) HT_.out ?_
  refine purS_ (i := 65) (N := some 399) (fl_ 69 66) HT_.out ?_
  refine purS_ (i := 66) (N := some 400) (fl_ 69 67) HT_.out ?_
  refine purS_ (i := 67) (N := some 401) (fl_ 69 68) HT_.out ?_
  refine purS_ (i := 68) (N := some 402) (fl_ 69 69) HT_.out ?_
  refine done_ (done_of HT_.out (by kernel_rfl)) ?_
  try go_wp2
  go_meet
  case rel => exact ⟨_, ((t621 != 1)), rt_, H', ⟨by have := HJ17.out; have := HJ64.out; have := HK3.out; first | omega | exact Nat.le_refl _⟩, ⟨by (with_reducible repeat (first | apply Kd.R_alloc | apply Kd.R_drewN | apply Kd.R_drew)); exact Kd.R_mono HO_5.out (fun _ hk => hk.2)⟩, ⟨sd_to HO_6⟩, ⟨by (with_reducible repeat (first | apply Kd.R_alloc | apply Kd.R_drewN | apply Kd.R_drew)); exact Kd.R_mono HO_317.out (fun _ hk => hk.2)⟩, ⟨blk_to BK619⟩, ⟨below_to1 HB GE619.out⟩⟩
end Go.Proofs.YtbhnpccbjgbcbaaGreatDoor.QD
