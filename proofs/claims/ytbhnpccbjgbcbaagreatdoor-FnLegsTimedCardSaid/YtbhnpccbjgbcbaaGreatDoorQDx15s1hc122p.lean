import Derived.Test.YtbhnpccbjgbcbaaGreatDoorQDx15s1r
namespace Go.Proofs.YtbhnpccbjgbcbaaGreatDoor.QD
open Go.Proofs.YtbhnpccbjgbcbaaGreatDoor.X Go.RowKit Go.Proofs.YtbhnpccbjgbcbaaGreatDoorW.PrintWords Go.Proofs.YtbhnpccbjgbcbaaGreatDoorW.PrintLast Go.Proofs.YtbhnpccbjgbcbaaGreatDoorW.PrintMore
attribute [local go_sem] max2_int min2_int max_two min_two max_three min_three max_four min_four
set_option linter.unusedVariables false
set_option linter.unusedSimpArgs false
set_option maxHeartbeats 16000000 in
set_option maxRecDepth 1000000 in
theorem lw_.halfc122p {Aa Ab Ac Ad Na DJ Ae Af GU GV Ag Ah Ai Aj GW Ak Al Am GX GY An Ao Ap Aq GZ Ar As Au DK Av Aw Ax Jq Jr Js Jt DL DM H7 Eb Ec H8 H9 Ia Ed Ee Ef Ib Eg Eh Ei KR KS KT KU Ej Ek El KV KW Em En Eo Ep KX KY KZ Er Es Ic Id Ie Ig K0 Ay K1 K2 K3 Az AA AB AC AD AE AF AG AH AJ AK AL AM AN AO AP AQ AR AU AV AW AX AY AZ Ba Bb Bc Bd Be Bf Bg Bh Bi Bj Bk Bl Bm Bn Bo Bp Bq Br Bs Bt Bu Bv Bw Bx Bz BA BB BC BD BE BF BG BH BI BJ BK BL BM BN BO BP BQ BR BS BT BU BV BW BX BZ B0 B1 B2 B4 B5 B6 B9 Ca Cb Cc Cd Ce Cf Cg Ch Ci Cj Ck Cl Cm Cn Co Cp Cq Cr Cs Ct Cu Cv Cw Cx Cy Cz CA CB CC CD CE CF CG CH CI CJ CK CL CM CN CO CP CQ CR CS CT CU CV CW CX CY CZ C0 C1 C2 C3 C4 C5 C6 C7 C8 C9 Da Db Dc Dd De Df Dg Dh Di Dj Dk Dl Dm Dn Dq Dr Ds Dt Du Dv Dw Dx Dy Dz DA DB DC DD DE DF DG DH DI DN DO DP G0 G1 G2 G3 G4 G5 G6 G7 G8 G9 Ha Hb Hc Hd He Hf Hg Hh Hi Hj Hk Hl Hm Hn Ho Hp Hq Hr Hs Ht Hu Hv Hw Hx Hy Hz HD HE HF HG HH HI HJ HM HN HP HQ HR Ea DQ DR HS HU HV HW HX HY HZ H0 H1 H2 H3 H4 H5 H6 Ju Jv Jw Jx Jy Jz JA JB JC JD JE JF JG JH JI JJ JK JL JM JN JO JP JQ JR JS JT JU JV JW JX JY JZ J0 J1 J2 J3 J4 J5 J6 J7 J8 J9 Ka Kb Ke Kf Kg Kh Ki Kj Kk Kl Km Kn Ko Kp Kq Kr Ks Kt Ku Kv Kw Kx Ky Kz KA KB Ih KC KD KE KF KG KH KI KJ KK KL KM KN KO KP KQ DS DT DU DV DW DX DY DZ D0 D1 D2 D3 D4 D5 D6 D7 D8 D9 Et Eu Ew Ex Ey Ez EA EB EC ED EE EF EG EH EI EJ EK EL EM EN EO EP EQ ER ES ET EU EV EW EX EY EZ E0 E1 E2 E3 E4 E5 E6 E7 E8 E9 Fa Fb Fc Fd Fe Ff Fg Fh Fi Fj Fk Fl Fm Fn Fo Fp Fq Fr Fs Ft Fu Fv Fw Fx Fy Fz FA FB FC FD FE FF FG FH FI FJ FL FM FN FO FP FQ FR FS FT FU FV FW FX FY FZ F0 F1 F2 F3 F4 F5 F6 F7 F8 F9 Ga Gb Gc Gd Ge Gf Gg Gh Gi Gj Gk Gl Gm Gn Gp Gq Gr Gs Gt Gu Gv Gw Gx Gy Gz GA GB GC GD GE GF GG GH GI GJ GK GL GM GN GO GP GQ GR GS GT Ii Ij Ik Il Im Io Ip Iq Ir Is It Iu Iv Iw Ix Iy Iz IA IB IC ID IE IF IG IH II IJ IK IL IM IP IQ IR IU IV IW IX IY IZ I0 I1 I2 I3 I4 I5 I6 I7 I8 I9 Ja Jb Jc Jd Je Jf Jg Jh Ji Jj Jk Jl Jm Jn Jo Jp K4 K5 K6 K7 K8 K9 La Lb Lc Ld Le Lf Lg Lh Li Lj Lk Lm Ln Lo Lp Lq Lr Ls Lt Lu Lv Lw Lx Ly Lz LA LB LC LD LE LF LG LH LI LJ LK LL LM LN LO LP LQ LR LS LT LU LV LW LX LY LZ L0 L1 : Value} (Z6_ : Act → World → Prop) (Z7_ : Act → World → Prop) (Z12_ : Act → World → Prop) (Z97_ : Nat → Act → World → Prop) (Z98_ : Act → World → Prop) (Z104_ : Act → World → Prop) (k : Nat) (l0 : List Int) (l1 : List Int) (r : Bool) (w : World) (HR_ : Aside0 (r = Bool.true)) (hu37 : Program.underlying Tryz.prog (37 : Nat) = Option.some (TypeDesc.struct #[Field.mk "Long" (3 : Nat) (0 : Nat) Bool.false "" "" (0 : Nat), Field.mk "Fast" (3 : Nat) (1 : Nat) Bool.false "" "" (8 : Nat)])) (t573 : List S37) (t576 : List (List Int)) (t590 t600 : Int) (t604 : ByteArray) (co20 : Nat) (v578 : Value) (kj17 : Nat) (HJ17 : Aside0 (kj17 + (1 : Nat) ≤ k)) (kj64 : Nat) (HJ64 : Aside0 (kj64 + (1 : Nat) ≤ kj17)) (wr : World) (u4 u36 u37 u38 u39 u40 u41 u42 u43 u44 u45 u46 u320 u321 u322 u323 u324 u325 u326 u327 u328 u329 u330 u331 u332 u333 u402 u418 u419 u420 u421 u422 u423 u424 u425 u426 u427 u428 u429 u430 u431 u432 u433 u434 u435 u436 u437 u438 u439 u440 u441 u442 u443 u444 u445 u446 u447 u448 u449 u450 u451 u452 u453 u454 u455 u456 u457 u458 u459 u460 u461 u462 u463 u464 u465 u466 u467 u468 u469 u470 u471 u472 u473 u474 u475 u476 u477 u478 u479 u480 : Value) (x35_3 x319_3 : Int) (k3 : Nat) (HK3 : Aside0 (k3 + (1 : Nat) ≤ kj64)) (c80b0 : Decidable.decide (x319_3 < (↑(List.length t573) : Int)) = Bool.true) (c81b0 : Decidable.decide ((0 : Int) ≤ x319_3) = Bool.true) (c82b0 : Decidable.decide (x319_3 < (↑(List.length t573) : Int)) = Bool.true) (ad618 : Addr) (hx618_0 : World.cell? wr (Addr.add ad618 (Int.toNat x319_3 * (2 : Nat))) = Option.some (Value.int IntKind.i64 (S37.f0 (rd_T37 t573 x319_3)))) (hx618_1 : World.cell? wr (Addr.mk (Addr.block (Addr.add ad618 (Int.toNat x319_3 * (2 : Nat)))) (Addr.off (Addr.add ad618 (Int.toNat x319_3 * (2 : Nat))) + (1 : Nat)) Option.none) = Option.some (Value.int IntKind.i64 (S37.f1 (rd_T37 t573 x319_3)))) (p618 : ((0 : Int) ≤ x319_3) = True) (q618 : (x319_3 < (↑(List.length t573) : Int)) = True) (gb619 : Nat) (w85 : World) (GW619 GE619 : Aside0 (Array.size (World.heap w) ≤ gb619)) (hcz86_0 : World.cell? w85 (Addr.mk gb619 (0 : Nat) Option.none) = Option.some (Value.int IntKind.i64 (0 : Int))) (hcz86_1 : World.cell? w85 (Addr.mk gb619 (1 : Nat) Option.none) = Option.some (Value.int IntKind.i64 (0 : Int))) (hfz86_0 : World.frozen? w85 (Addr.mk gb619 (0 : Nat) Option.none) = Bool.false) (hfz86_1 : World.frozen? w85 (Addr.mk gb619 (1 : Nat) Option.none) = Bool.false) (u334 u335 u336 u337 u338 u339 u340 u341 u342 u343 u344 u345 u346 u347 u348 u349 u350 u351 u352 u353 u354 u355 u356 u357 u358 u359 u360 u361 u362 u363 u364 u365 u366 u367 u368 u369 u370 u371 u372 u373 u374 u375 u376 u377 u378 u379 u380 u381 u382 u383 u384 u385 u386 u387 u388 u389 u390 u391 u392 u393 u394 u395 u396 u397 u398 u399 u400 u401 : Value) (kj83 : Nat) (HJ83 : Aside0 (kj83 + (1 : Nat) ≤ k3)) (wc : World) (u403 u404 u405 u406 u407 u408 u409 u410 u411 u412 u413 u414 u415 u416 u417 : Value) (HO_5 : Aside0 (Kd.R k37 (37 : Nat) wc (Array.size (World.heap w)) (fun k_ => k_ ≠ gb619) (Value.slice (Option.some ad618) (List.length t573) co20) t573)) (HO_6 : Aside0 (Kd.S (Kd.slice (3 : Nat) (Kd.int IntKind.i64)) (23 : Nat) wc (Array.size (World.heap w)) (fun x => True) v578 t576)) (HO_317 : Aside0 (Kd.R k37 (37 : Nat) wc (Array.size (World.heap w)) (fun k_ => k_ ≠ gb619) (Value.slice (Option.some ad618) (List.length t573) co20) t573)) (BK619 : Aside0 ((World.heap wc)[gb619]? = Option.some (Obj.cells #[Value.int IntKind.i64 (S37.f0 (rd_T37 t573 x319_3)), Value.int IntKind.i64 (S37.f1 (rd_T37 t573 x319_3))] (37 : TypeId)))) (HB : Aside0 (Below (Array.size (World.heap w)) w wc)) (kj106 : Nat) (HJ106 : Aside0 (kj106 + (1 : Nat) ≤ kj83)) (c116b0 : Decidable.decide ((0 : Int) ≤ x319_3) = Bool.true) (c117b0 : Decidable.decide (x319_3 < (↑(List.length t576) : Int)) = Bool.true) (c118b0 : Decidable.decide ((0 : Int) < (↑(List.length (rd_L2 t576 x319_3)) : Int)) = Bool.true) (c118b1 : Decidable.decide ((0 : Nat) < List.length (rd_L2 t576 x319_3)) = Bool.true) (c119b0 : Decidable.decide ((1 : Int) < (↑(List.length (rd_L2 t576 x319_3)) : Int)) = Bool.true) (c119b1 : Decidable.decide ((1 : Nat) < List.length (rd_L2 t576 x319_3)) = Bool.true) (t640 t641 : Int) (t642 : Bool) (A120 : Aside0 (impl_PlaceOnLegs.f kj106 t573 (rd (rd_L2 t576 x319_3) (0 : Int)) (rd (rd_L2 t576 x319_3) (1 : Int)) = Option.some (t640, t641, t642))) (t647 : Int) (t648 : Bool) (H : (if wrap64 (x319_3 + (1 : Int)) = (↑(List.length t573) : Int) then if t642 = Bool.true then if t640 = wrap64 (x35_3 + S37.f0 (rd_T37 t573 x319_3)) then if t641 = (1 : Int) then if t648 = Bool.true then if t647 = x319_3 then lw_.l0 kj106 l1 t573 t576 t590 t600 t604 (↑(List.length t573) : Int) (wrap64 (x35_3 + S37.f0 (rd_T37 t573 x319_3))) t573 (↑(List.length t573) : Int) (wrap64 (x319_3 + (1 : Int))) else Option.some Bool.false else Option.some Bool.false else Option.some Bool.false else Option.some Bool.false else Option.some Bool.false else if t642 = Bool.true then if t640 = wrap64 (x35_3 + S37.f0 (rd_T37 t573 x319_3)) then if t641 = (1 : Int) then if t648 = Bool.true then if t647 = wrap64 (x319_3 + (1 : Int)) then lw_.l0 kj106 l1 t573 t576 t590 t600 t604 (↑(List.length t573) : Int) (wrap64 (x35_3 + S37.f0 (rd_T37 t573 x319_3))) t573 (↑(List.length t573) : Int) (wrap64 (x319_3 + (1 : Int))) else Option.some Bool.false else Option.some Bool.false else Option.some Bool.false else Option.some Bool.false else Option.some Bool.false) = Option.some r) (A121 : Aside0 (impl_LegAt.f kj106 t573 (rd (rd_L2 t576 x319_3) (0 : Int)) (rd (rd_L2 t576 x319_3) (1 : Int)) = Option.some (t647, t648))) (c122 : wrap64 (x319_3 + (1 : Int)) = (↑(List.length t573) : Int)) (Z8_ : ∀ (a' : Act) (w' : World), Met Z6_ a' w' → Z7_ a' w') (Z99_ : ∀ (a' : Act) (w' : World), Handed Z97_ (k3 + (1 : Nat)) a' w' → Z98_ a' w') (Z103_ : ∀ (k : Nat) (a' : Act) (w' : World), (∃ u4 u35 u36 u37 u38 u39 u40 u41 u42 u43 u44 u45 u46 u319 u320 u321 u322 u323 u324 u325 u326 u327 u328 u329 u330 u331 u332 u333 u334 u335 u336 u337 u338 u339 u340 u341 u342 u343 u344 u345 u346 u347 u348 u349 u350 u351 u352 u353 u354 u355 u356 u357 u358 u359 u360 u361 u362 u363 u364 u365 u366 u367 u368 u369 u370 u371 u372 u373 u374 u375 u376 u377 u378 u379 u380 u381 u382 u383 u384 u385 u386 u387 u388 u389 u390 u391 u392 u393 u394 u395 u396 u397 u398 u399 u400 u401 u402 u403 u404 u405 u406 u407 u408 u409 u410 u411 u412 u413 u414 u415 u416 u417 u418 u419 u420 u421 u422 u423 u424 u425 u426 u427 u428 u429 u430 u431 u432 u433 u434 u435 u436 u437 u438 u439 u440 u441 u442 u443 u444 u445 u446 u447 u448 u449 u450 u451 u452 u453 u454 u455 u456 u457 u458 u459 u460 u461 u462 u463 u464 u465 u466 u467 u468 u469 u470 u471 u472 u473 u474 u475 u476 u477 u478 u479 u480, (∃ x35_3 x319_3, u35 = Value.int IntKind.i64 x35_3 ∧ u319 = Value.int IntKind.i64 x319_3 ∧ Aside0 (lw_.l0 k l1 t573 t576 t590 t600 t604 (↑(List.length t573) : Int) x35_3 t573 (↑(List.length t573) : Int) x319_3 = Option.some r) ∧ Aside0 (k ≤ kj64) ∧ Aside0 (Kd.R k37 (37 : Nat) w' (Array.size (World.heap w)) (fun x => True) (Value.slice (Option.some ad618) (List.length t573) co20) t573) ∧ Aside0 (Kd.S (Kd.slice (3 : Nat) (Kd.int IntKind.i64)) (23 : Nat) w' (Array.size (World.heap w)) (fun x => True) v578 t576) ∧ Aside0 (Kd.R k37 (37 : Nat) w' (Array.size (World.heap w)) (fun x => True) (Value.slice (Option.some ad618) (List.length t573) co20) t573) ∧ Aside0 (Below (Array.size (World.heap w)) w w')) ∧ a' = Act.mk #[Aa,Ab,Ac,Ad, u4, Value.slice (Option.some ad618) (List.length t573) co20, v578,DJ,Ae,Af,GU,GV,Ag,Ah,Ai,Aj,GW,Ak,Al,Am,GX,GY,An,Ao,Ap,Aq,GZ,Ar,As,Au,DK,Av,Aw,Ax, Value.int IntKind.i64 (↑(List.length t573) : Int), u35, u36, u37, u38, u39, u40, u41, u42, u43, u44, u45, u46,DL,DM,H7,Eb,Ec,H8,H9,Ia,Ed,Ee,Ef,Ib,Eg,Eh,Ei,KR,KS,KT,KU,Ej,Ek,El,KV,KW,Em,En,Eo,Ep,KX,KY,KZ,Er,Es,Ic,Id,Ie,Ig,K0,Ay,K1,K2,K3,Az,AA,AB,AC,AD,AE,AF,AG,AH,AJ,AK,AL,AM,AN,AO,AP,AQ,AR,AU,AV,AW,AX,AY,AZ,Ba,Bb,Bc,Bd,Be,Bf,Bg,Bh,Bi,Bj,Bk,Bl,Bm,Bn,Bo,Bp,Bq,Br,Bs,Bt,Bu,Bv,Bw,Bx,Bz,BA,BB,BC,BD,BE,BF,BG,BH,BI,BJ,BK,BL,BM,BN,BO,BP,BQ,BR,BS,BT,BU,BV,BW,BX,BZ,B0,B1,B2,B4,B5,B6,B9,Ca,Cb,Cc,Cd,Ce,Cf,Cg,Ch,Ci,Cj,Ck,Cl,Cm,Cn,Co,Cp,Cq,Cr,Cs,Ct,Cu,Cv,Cw,Cx,Cy,Cz,CA,CB,CC,CD,CE,CF,CG,CH,CI,CJ,CK,CL,CM,CN,CO,CP,CQ,CR,CS,CT,CU,CV,CW,CX,CY,CZ,C0,C1,C2,C3,C4,C5,C6,C7,C8,C9,Da,Db,Dc,Dd,De,Df,Dg,Dh,Di,Dj,Dk,Dl,Dm,Dn,Dq,Dr,Ds,Dt,Du,Dv,Dw,Dx,Dy,Dz,DA,DB,DC,DD,DE,DF,DG,DH,DI,DN,DO,DP,G0,G1,G2,G3,G4,G5,G6,G7,G8,G9,Ha,Hb,Hc,Hd,He,Hf,Hg,Hh,Hi,Hj,Hk,Hl,Hm,Hn,Ho,Hp,Hq,Hr,Hs,Ht,Hu,Hv,Hw,Hx,Hy,Hz,HD,HE,HF,HG,HH,HI,HJ,HM,HN,HP,HQ,HR,Ea,DQ,DR, u319, u320, u321, u322, u323, u324, u325, u326, u327, u328, u329, u330, u331, u332, u333, u334, u335, u336, u337, u338, u339, u340, u341, u342, u343, u344, u345, u346, u347, u348, u349, u350, u351, u352, u353, u354, u355, u356, u357, u358, u359, u360, u361, u362, u363, u364, u365, u366, u367, u368, u369, u370, u371, u372, u373, u374, u375, u376, u377, u378, u379, u380, u381, u382, u383, u384, u385, u386, u387, u388, u389, u390, u391, u392, u393, u394, u395, u396, u397, u398, u399, u400, u401, u402, u403, u404, u405, u406, u407, u408, u409, u410, u411, u412, u413, u414, u415, u416, u417, u418, u419, u420, u421, u422, u423, u424, u425, u426, u427, u428, u429, u430, u431, u432, u433, u434, u435, u436, u437, u438, u439, u440, u441, u442, u443, u444, u445, u446, u447, u448, u449, u450, u451, u452, u453, u454, u455, u456, u457, u458, u459, u460, u461, u462, u463, u464, u465, u466, u467, u468, u469, u470, u471, u472, u473, u474, u475, u476, u477, u478, u479, u480,DS,DT,DU,DV,DW,DX,DY,DZ,D0,D1,D2,D3,D4,D5,D6,D7,D8,D9,Et,Eu,Ew,Ex,Ey,Ez,EA,EB,EC,ED,EE,EF,EG,EH,EI,EJ,EK,EL,EM,EN,EO,EP,EQ,ER,ES,ET,EU,EV,EW,EX,EY,EZ,E0,E1,E2,E3,E4,E5,E6,E7,E8,E9,Fa,Fb,Fc,Fd,Fe,Ff,Fg,Fh,Fi,Fj,Fk,Fl,Fm,Fn,Fo,Fp,Fq,Fr,Fs,Ft,Fu,Fv,Fw,Fx,Fy,Fz,FA,FB,FC,FD,FE,FF,FG,FH,FI,FJ,FL,FM,FN,FO,FP,FQ,FR,FS,FT,FU,FV,FW,FX,FY,FZ,F0,F1,F2,F3,F4,F5,F6,F7,F8,F9,Ga,Gb,Gc,Gd,Ge,Gf,Gg,Gh,Gi,Gj,Gk,Gl,Gm,Gn,Gp,Gq,Gr,Gs,Gt,Gu,Gv,Gw,Gx,Gy,Gz,GA,GB,GC,GD,GE,GF,GG,GH,GI,GJ,GK,GL,GM,GN,GO,GP,GQ,GR,GS,GT,Ii,Ij,Ik,Il,Im,Io,Ip,Iq,Ir,Is,It,Iu,Iv,Iw,Ix,Iy,Iz,IA,IB,IC,ID,IE,IF,IG,IH,II,IJ,IK,IL,IM,IP,IQ,IR,IU,IV,IW,IX,IY,IZ,I0,I1,I2,I3,I4,I5,I6,I7,I8,I9,Ja,Jb,Jc,Jd,Je,Jf,Jg,Jh,Ji,Jj,Jk,Jl,Jm,Jn,Jo,Jp,K4,K5,K6,K7,K8,K9,La,Lb,Lc,Ld,Le,Lf,Lg,Lh,Li,Lj,Lk,Lm,Ln,Lo,Lp,Lq,Lr,Ls,Lt,Lu,Lv,Lw,Lx,Ly,Lz,LA,LB,LC,LD,LE,LF,LG,LH,LI,LJ,LK,LL,LM,LN,LO,LP,LQ,LR,LS,LT,LU,LV,LW,LX,LY,LZ,L0,L1] []) → Z97_ k a' w') (Z105_ : ∀ (a_ : Act) (w_ : World), Code.wp Tryz.prog (Code.region (38 : Nat) #[Oper.mk (Option.some (480 : Nat)) (Op.binOp BinOp.add (3 : Nat) (Operand.tmp (319 : Nat)) (Operand.const (Value.int IntKind.i64 (1 : Int))) (3 : Nat)) (3 : Nat) "laws.go:2770" #[] Option.none, Oper.mk (Option.some (319 : Nat)) (Op.move (Operand.tmp (480 : Nat))) (3 : Nat) "laws.go:2770" #[Edge.mk (0 : Nat) Ground.data] Option.none] Bool.false) (Exit.then Z98_ (Exit.inBlock (0 : Nat) (Exit.then Z12_ (Exit.then Z7_ (bodyPost Tryz.prog Tryz.f4 fun e w' => e = Ending.returned (Value.bool r) ∧ Below (Array.size (World.heap w)) w w'))))) a_ w_ → Z104_ a_ w_) :
    Code.wp Tryz.prog ((lw_.cnd 418 lw_.body).getD .skip) (Exit.inBlock (1 : Nat) (Exit.then Z104_ (Exit.then Z98_ (Exit.inBlock (0 : Nat) (Exit.then Z12_ (Exit.then Z7_ (bodyPost Tryz.prog Tryz.f4 fun e w' => e = Ending.returned (Value.bool r) ∧ Below (Array.size (World.heap w)) w w'))))))) (Act.mk #[Aa,Ab,Ac,Ad,Na, Value.slice (Option.some ad618) (List.length t573) co20, v578,DJ,Ae,Af,GU,GV,Ag,Ah,Ai,Aj,GW,Ak,Al,Am,GX,GY,An,Ao,Ap,Aq,GZ,Ar,As,Au,DK,Av,Aw,Ax, Value.int IntKind.i64 (↑(List.length t573) : Int), Value.int IntKind.i64 (wrap64 (x35_3 + S37.f0 (rd_T37 t573 x319_3))), Value.int IntKind.i64 x319_3,Jq,Jr,Js,Jt, u41, u42, u43, u44, u45, u46,DL,DM,H7,Eb,Ec,H8,H9,Ia,Ed,Ee,Ef,Ib,Eg,Eh,Ei,KR,KS,KT,KU,Ej,Ek,El,KV,KW,Em,En,Eo,Ep,KX,KY,KZ,Er,Es,Ic,Id,Ie,Ig,K0,Ay,K1,K2,K3,Az,AA,AB,AC,AD,AE,AF,AG,AH,AJ,AK,AL,AM,AN,AO,AP,AQ,AR,AU,AV,AW,AX,AY,AZ,Ba,Bb,Bc,Bd,Be,Bf,Bg,Bh,Bi,Bj,Bk,Bl,Bm,Bn,Bo,Bp,Bq,Br,Bs,Bt,Bu,Bv,Bw,Bx,Bz,BA,BB,BC,BD,BE,BF,BG,BH,BI,BJ,BK,BL,BM,BN,BO,BP,BQ,BR,BS,BT,BU,BV,BW,BX,BZ,B0,B1,B2,B4,B5,B6,B9,Ca,Cb,Cc,Cd,Ce,Cf,Cg,Ch,Ci,Cj,Ck,Cl,Cm,Cn,Co,Cp,Cq,Cr,Cs,Ct,Cu,Cv,Cw,Cx,Cy,Cz,CA,CB,CC,CD,CE,CF,CG,CH,CI,CJ,CK,CL,CM,CN,CO,CP,CQ,CR,CS,CT,CU,CV,CW,CX,CY,CZ,C0,C1,C2,C3,C4,C5,C6,C7,C8,C9,Da,Db,Dc,Dd,De,Df,Dg,Dh,Di,Dj,Dk,Dl,Dm,Dn,Dq,Dr,Ds,Dt,Du,Dv,Dw,Dx,Dy,Dz,DA,DB,DC,DD,DE,DF,DG,DH,DI,DN,DO,DP,G0,G1,G2,G3,G4,G5,G6,G7,G8,G9,Ha,Hb,Hc,Hd,He,Hf,Hg,Hh,Hi,Hj,Hk,Hl,Hm,Hn,Ho,Hp,Hq,Hr,Hs,Ht,Hu,Hv,Hw,Hx,Hy,Hz,HD,HE,HF,HG,HH,HI,HJ,HM,HN,HP,HQ,HR,Ea,DQ,DR, Value.int IntKind.i64 x319_3,HS,HU,HV,HW,HX,HY,HZ,H0,H1,H2,H3,H4,H5,H6,Ju,Jv,Jw,Jx,Jy,Jz,JA,JB,JC,JD,JE,JF,JG,JH,JI,JJ,JK,JL,JM,JN,JO,JP,JQ,JR,JS,JT,JU,JV,JW,JX,JY,JZ,J0,J1,J2,J3,J4,J5,J6,J7,J8,J9,Ka,Kb,Ke,Kf,Kg,Kh,Ki,Kj,Kk,Kl,Km,Kn,Ko,Kp,Kq,Kr,Ks,Kt,Ku,Kv,Kw,Kx,Ky,Kz,KA,KB,Ih,KC,KD,KE,KF,KG,KH,KI,KJ,KK,KL,KM,KN,KO,KP,KQ, Value.bool Bool.true, u419, u420, u421, u422, u423, u424, u425, u426, u427, u428, u429, u430, u431, u432, u433, u434, u435, u436, u437, u438, u439, u440, u441, u442, u443, u444, u445, u446, u447, u448, u449, u450, u451, u452, u453, u454, u455, u456, u457, u458, u459, u460, u461, u462, u463, u464, u465, u466, u467, u468, u469, u470, u471, u472, u473, u474, u475, u476, u477, u478, u479, u480,DS,DT,DU,DV,DW,DX,DY,DZ,D0,D1,D2,D3,D4,D5,D6,D7,D8,D9,Et,Eu,Ew,Ex,Ey,Ez,EA,EB,EC,ED,EE,EF,EG,EH,EI,EJ,EK,EL,EM,EN,EO,EP,EQ,ER,ES,ET,EU,EV,EW,EX,EY,EZ,E0,E1,E2,E3,E4,E5,E6,E7,E8,E9,Fa,Fb,Fc,Fd,Fe,Ff,Fg,Fh,Fi,Fj,Fk,Fl,Fm,Fn,Fo,Fp,Fq,Fr,Fs,Ft,Fu,Fv,Fw,Fx,Fy,Fz,FA,FB,FC,FD,FE,FF,FG,FH,FI,FJ,FL,FM,FN,FO,FP,FQ,FR,FS,FT,FU,FV,FW,FX,FY,FZ,F0,F1,F2,F3,F4,F5,F6,F7,F8,F9,Ga,Gb,Gc,Gd,Ge,Gf,Gg,Gh,Gi,Gj,Gk,Gl,Gm,Gn,Gp,Gq,Gr,Gs,Gt,Gu,Gv,Gw,Gx,Gy,Gz,GA,GB,GC,GD,GE,GF,GG,GH,GI,GJ,GK,GL,GM,GN,GO,GP,GQ,GR,GS,GT,Ii,Ij,Ik,Il,Im,Io,Ip,Iq,Ir,Is,It,Iu,Iv,Iw,Ix,Iy,Iz,IA,IB,IC,ID,IE,IF,IG,IH,II,IJ,IK,IL,IM,IP,IQ,IR,IU,IV,IW,IX,IY,IZ,I0,I1,I2,I3,I4,I5,I6,I7,I8,I9,Ja,Jb,Jc,Jd,Je,Jf,Jg,Jh,Ji,Jj,Jk,Jl,Jm,Jn,Jo,Jp,K4,K5,K6,K7,K8,K9,La,Lb,Lc,Ld,Le,Lf,Lg,Lh,Li,Lj,Lk,Lm,Ln,Lo,Lp,Lq,Lr,Ls,Lt,Lu,Lv,Lw,Lx,Ly,Lz,LA,LB,LC,LD,LE,LF,LG,LH,LI,LJ,LK,LL,LM,LN,LO,LP,LQ,LR,LS,LT,LU,LV,LW,LX,LY,LZ,L0,L1] []) wc := by
  conv => arg 2; whnf
  (try conv => arg 4; dsimp only)
  rw [if_pos c122] at H
  have c122b0 := beq_iff_eq.mpr c122
  have c122b1 := bne_eq_false_iff_eq.mpr c122
  clear c122
  by_cases c123 : t642 = true
  rotate_left
  ·replace c123 := Bool.eq_false_iff.mpr c123
   subst c123
   rw [if_neg ft_] at H
   exact nof_ HR_ H
  subst c123
  rw [if_pos rfl] at H
  by_cases c124 : t640 = (wrap64 (x35_3 + ((rd_T37 t573 x319_3).f0)))
  rotate_left
  ·rw [if_neg c124] at H
   have c124b0 := beq_eq_false_iff_ne.mpr c124
   have c124b1 := bne_iff_ne.mpr c124
   exact nof_ HR_ H
  rw [if_pos c124] at H
  have c124b0 := beq_iff_eq.mpr c124
  have c124b1 := bne_eq_false_iff_eq.mpr c124
  clear c124
  by_cases c125 : t641 = 1
  rotate_left
  ·rw [if_neg c125] at H
   have c125b0 := beq_eq_false_iff_ne.mpr c125
   have c125b1 := bne_iff_ne.mpr c125
   exact nof_ HR_ H
  rw [if_pos c125] at H
  have c125b0 := beq_iff_eq.mpr c125
  have c125b1 := bne_eq_false_iff_eq.mpr c125
  clear c125
  by_cases c126 : t648 = true
  rotate_left
  ·replace c126 := Bool.eq_false_iff.mpr c126
   subst c126
   rw [if_neg ft_] at H
   exact nof_ HR_ H
  subst c126
  rw [if_pos rfl] at H
  by_cases c127 : t647 = x319_3
  rotate_left
  ·rw [if_neg c127] at H
   have c127b0 := beq_eq_false_iff_ne.mpr c127
   have c127b1 := bne_iff_ne.mpr c127
   exact nof_ HR_ H
  rw [if_pos c127] at H
  have c127b0 := beq_iff_eq.mpr c127
  have c127b1 := bne_eq_false_iff_eq.mpr c127
  clear c127
  have H' := Aside0.mk H
  clear H
  try go_wp2
  have n0_ := Aside0.mk (Kd.R_drew HO_5.out)
  have n1_ := Aside0.mk (Kd.S_drew HO_6.out)
  have n2_ := Aside0.mk (Kd.R_drew HO_317.out)
  have n3_ := Aside0.mk (blk_drew BK619.out)
  have n4_ := Aside0.mk (below_drew1 HB.out)
  clear HO_5
  clear HO_6
  clear HO_317
  clear BK619
  clear HB
  have HO_5 := n0_
  have HO_6 := n1_
  have HO_317 := n2_
  have BK619 := n3_
  have HB := n4_
  clear n0_ n1_ n2_ n3_ n4_
  obtain ⟨Ao129, co129, eo129⟩ := Kd.S_slice HO_6.out
  (first | subst eo129 | (injection eo129 with f1_ f2_ f3_; have f4_ := f1_.symm; have f5_ := f3_.symm; clear f1_ f2_ f3_; subst f4_; subst f5_))
  have p636 : 0 ≤ (x319_3 : Int) := odt_
  have q636 : x319_3 < (t576.length : Int) := odt_
  obtain ⟨ad636, A636_0, c636_0, e636, hx636_0, hl636_0, hi636_0⟩ := at_L2 (Kd.S_reads' HO_6.out).2.2 x319_3 p636 q636
  cases e636
  obtain ⟨ce636, hce636, hMe636, hcc636⟩ := Kd.S_get HO_6.out [] x319_3 p636 (by first | exact q636 | exact of_decide_eq_true (by first | (with_reducible assumption) | assumption) | (have e_ := (Kd.S_reads' HO_6.out).1; omega))
  obtain ⟨ve636_0, rfl, ge636_0⟩ := hMe636
  have hv636_0 := hcc636 0 _ rfl
  rw [Nat.add_zero, show ((Kd.slice 3 (Kd.int .i64))).sz = 1 from rfl, Nat.mul_one] at hv636_0
  replace hv636_0 := Option.some.inj (hv636_0.symm.trans hx636_0)
  rw [hv636_0] at ge636_0
  have HL636_0 := Aside0.mk (show Kd.R (Kd.int .i64) 3 _ _ _ _ (rd_L2 t576 x319_3) from ge636_0)
  clear hv636_0 ge636_0
  clear hcc636 hce636
  have HR636_0 := Aside0.mk hi636_0
  have HC636_0 := Aside0.mk hl636_0
  clear hi636_0 hl636_0
  replace p636 := eq_true p636
  replace q636 := eq_true q636
  have p637 : 0 ≤ (0 : Int) := (by omega)
  have q637 : 0 < ((rd_L2 t576 x319_3).length : Int) := odt_
  obtain ⟨ad637, e637, hx637_0⟩ := Kd.at_int (by repeat (first | (with_reducible exact HR636_0.out) | (with_reducible refine Kd.C_alloc ?_ _) | (with_reducible refine Kd.C_drewN ?_ _) | (with_reducible refine Kd.C_drew ?_) | exact HR636_0.out)) 0 p637 q637
  cases e637
  have qi637 : (0 < (rd_L2 t576 x319_3).length) = True := eq_true (by omega)
  (try rw [show ((0 : Int)).toNat = 0 from rfl] at hx637_0)
  (try rw [Addr.add_zero'] at hx637_0)
  replace p637 := eq_true p637
  replace q637 := eq_true q637
  have p638 : 0 ≤ (x319_3 : Int) := odt_
  have q638 : x319_3 < (t576.length : Int) := odt_
  obtain ⟨ad638, A638_0, c638_0, e638, hx638_0, hl638_0, hi638_0⟩ := at_L2 (Kd.S_reads' HO_6.out).2.2 x319_3 p638 q638
  obtain rfl : ad636 = ad638 := (by injection e638)
  obtain ⟨ce638, hce638, hMe638, hcc638⟩ := Kd.S_get HO_6.out [] x319_3 p638 (by first | exact q638 | exact of_decide_eq_true (by first | (with_reducible assumption) | assumption) | (have e_ := (Kd.S_reads' HO_6.out).1; omega))
  obtain ⟨ve638_0, rfl, ge638_0⟩ := hMe638
  have hv638_0 := hcc638 0 _ rfl
  rw [Nat.add_zero, show ((Kd.slice 3 (Kd.int .i64))).sz = 1 from rfl, Nat.mul_one] at hv638_0
  replace hv638_0 := Option.some.inj (hv638_0.symm.trans hx638_0)
  rw [hv638_0] at ge638_0
  have HL638_0 := Aside0.mk (show Kd.R (Kd.int .i64) 3 _ _ _ _ (rd_L2 t576 x319_3) from ge638_0)
  clear hv638_0 ge638_0
  clear hcc638 hce638
  have HR638_0 := Aside0.mk hi638_0
  have HC638_0 := Aside0.mk hl638_0
  clear hi638_0 hl638_0
  replace p638 := eq_true p638
  replace q638 := eq_true q638
  have ea_ := Option.some.inj (hx636_0.symm.trans hx638_0)
  injection ea_ with ea_ en_ ec_
  subst ea_
  subst ec_
  clear en_
  have p639 : 0 ≤ (1 : Int) := (by omega)
  have q639 : 1 < ((rd_L2 t576 x319_3).length : Int) := odt_
  obtain ⟨ad639, e639, hx639_0⟩ := Kd.at_int (by repeat (first | (with_reducible exact HR638_0.out) | (with_reducible refine Kd.C_alloc ?_ _) | (with_reducible refine Kd.C_drewN ?_ _) | (with_reducible refine Kd.C_drew ?_) | exact HR638_0.out)) 1 p639 q639
  cases e639
  (try simp only [show (1 : Int).toNat = 1 from rfl, Nat.reduceMul, Nat.reduceEqDiff, Go.Addr.add, ↓reduceIte] at hx639_0)
  have qi639 : (1 < (rd_L2 t576 x319_3).length) = True := eq_true (by omega)
  (try rw [show ((1 : Int)).toNat = 1 from rfl] at hx639_0)
  replace p639 := eq_true p639
  replace q639 := eq_true q639
  refine start_ (n := 21) (S := fun w' => w'.cell? (ad636.add (x319_3).toNat) = some (.slice (some ad637) (rd_L2 t576 x319_3).length c636_0) ∧ w'.cell? ad637 = some (.int .i64 (rd (rd_L2 t576 x319_3) 0)) ∧ w'.cell? (ad636.add (x319_3).toNat) = some (.slice (some ad637) (rd_L2 t576 x319_3).length c636_0) ∧ w'.cell? ⟨ad637.block, ad637.off + 1, none⟩ = some (.int .i64 (rd (rd_L2 t576 x319_3) 1))) (ds := []) (fr_ [0, 21]) (by kernel_rfl) rfl rfl ⟨hx636_0, hx637_0, hx638_0, hx639_0⟩ (fun hHeld => ?_); refine with_tabW lw_.tab31 lw_.bits31 (fun HT_ HW_ => ?_)
  generalize wc.drew = w128 at HO_5 HO_6 HO_317 BK619 HB HL636_0 HL638_0 HR636_0 HR638_0 hx636_0 hx637_0 hx638_0 hx639_0 hHeld ⊢
  refine purS_ (i := 0) (N := some 420) (fl_ 21 1) HT_.out ?_
  refine purS_ (i := 1) (N := some 421) (fl_ 21 2) HT_.out ?_
  refine purS_ (i := 2) (N := some 422) (fl_ 21 3) HT_.out ?_
  refine purS_ (i := 3) (N := some 423) (fl_ 21 4) HT_.out ?_
  refine purS_ (i := 7) (N := some 427) (fr_ [4, 3, 1, 13]) HT_.out ?_
  refine purS_ (i := 8) (N := some 428) (fr_ [4, 3, 2, 12]) HT_.out ?_
  refine purS_ (i := 9) (N := some 429) (fr_ [4, 3, 3, 11]) HT_.out ?_
  refine take_ (i := 4) (N := some 424) (v := ?_) (a' := ?_) (fr_ [5, 2, 3, 11]) rfl rfl (take_ofW HT_.out HW_.out (by kernel_rfl)) (fun _ _ _ h => h) (Or.inl ⟨by rfl, ?_⟩) hHeld ?_ ?_
  rotate_left
  ·rintro w' ⟨s0, s1, s2, s3⟩
   go_simp
   with_reducible rfl
  rotate_left
  ·simp only [Act.put, List.setIfInBounds_toArray, List.set_cons_zero, List.set_cons_succ, i64_w, i32_w]
   rfl
  refine purS_ (i := 5) (N := some 425) (fr_ [6, 1, 3, 11]) HT_.out ?_
  refine take_ (i := 6) (N := some 426) (v := ?_) (a' := ?_) (fr_ [10, 11]) rfl rfl (take_ofW HT_.out HW_.out (by kernel_rfl)) (fun _ _ _ h => h) (Or.inl ⟨by rfl, ?_⟩) hHeld ?_ ?_
  rotate_left
  ·rintro w' ⟨s0, s1, s2, s3⟩
   go_simp
   with_reducible rfl
  rotate_left
  ·simp only [Act.put, List.setIfInBounds_toArray, List.set_cons_zero, List.set_cons_succ, i64_w, i32_w]
   rfl
  refine take_ (i := 10) (N := some 430) (v := ?_) (a' := ?_) (fr_ [11, 10]) rfl rfl (take_ofW HT_.out HW_.out (by kernel_rfl)) (fun _ _ _ h => h) (Or.inl ⟨by rfl, ?_⟩) hHeld ?_ ?_
  rotate_left
  ·rintro w' ⟨s0, s1, s2, s3⟩
   go_simp
   with_reducible rfl
  rotate_left
  ·simp only [Act.put, List.setIfInBounds_toArray, List.set_cons_zero, List.set_cons_succ, i64_w, i32_w]
   rfl
  refine purS_ (i := 11) (N := some 431) (fl_ 21 12) HT_.out ?_
  refine take_ (i := 12) (N := some 432) (v := ?_) (a' := ?_) (fr_ [13, 8]) rfl rfl (take_ofW HT_.out HW_.out (by kernel_rfl)) (fun _ _ _ h => h) (Or.inl ⟨by rfl, ?_⟩) hHeld ?_ ?_
  rotate_left
  ·rintro w' ⟨s0, s1, s2, s3⟩
   go_simp
   with_reducible rfl
  rotate_left
  ·simp only [Act.put, List.setIfInBounds_toArray, List.set_cons_zero, List.set_cons_succ, i64_w, i32_w]
   rfl
  refine one_ (i := 13) (N := some 433) (fr_ [14, 7]) rfl rfl (one_of HT_.out (by kernel_rfl)) (by decide) (fun K hK => ?_)
  refine goes_ Tryz.func21 (by kernel_rfl) rfl #[.slice (some ad618) t573.length co20, .int .i64 (rd (rd_L2 t576 x319_3) 0), .int .i64 (rd (rd_L2 t576 x319_3) 1)] (by rfl) rfl rfl am_ ?_
  with_reducible refine (impl_PlaceOnLegs.calls kj106 _ _ t573 (rd (rd_L2 t576 x319_3) 0) (rd (rd_L2 t576 x319_3) 1) t640 t641 true _ ?side1 ?side2 A120.out).mono ?_
  (case side1 => exact cR_ HO_5)
  (case side2 => exact (Kd.R_reads' HO_5.out).2.1)
  rintro e w130 ⟨rfl, hb⟩
  have HS0_ := (hb.cell (World.block_lt_of_cell? _ _ (hHeld.1))).trans (hHeld.1)
  have HS1_ := (hb.cell (World.block_lt_of_cell? _ _ (hHeld.2.1))).trans (hHeld.2.1)
  have HS2_ := (hb.cell (World.block_lt_of_cell? _ _ (hHeld.2.2.1))).trans (hHeld.2.2.1)
  have HS3_ := (hb.cell (World.block_lt_of_cell? _ _ (hHeld.2.2.2))).trans (hHeld.2.2.2)
  refine ⟨_, rfl, ?_⟩
  have n0_ := Aside0.mk (Kd.R_below (kd_to HO_5) hb)
  have n1_ := Aside0.mk (Kd.S_below (sd_to HO_6) hb)
  have n2_ := Aside0.mk (Kd.R_below (kd_to HO_317) hb)
  have n3_ := Aside0.mk (Kd.R_below (kd_to HL636_0) hb)
  have n4_ := Aside0.mk (Kd.R_below (kd_to HL638_0) hb)
  have n5_ := Aside0.mk (blk_below (blk_to BK619) hb)
  have n6_ := Aside0.mk (Kd.C_below (by repeat (first | (with_reducible exact HR636_0.out) | (with_reducible refine Kd.C_alloc ?_ _) | (with_reducible refine Kd.C_drewN ?_ _) | (with_reducible refine Kd.C_drew ?_) | exact HR636_0.out)) hb)
  have n7_ := Aside0.mk (Kd.C_below (by repeat (first | (with_reducible exact HR638_0.out) | (with_reducible refine Kd.C_alloc ?_ _) | (with_reducible refine Kd.C_drewN ?_ _) | (with_reducible refine Kd.C_drew ?_) | exact HR638_0.out)) hb)
  have n8_ := Aside0.mk (below_step (below_to1 HB GE619.out) hb)
  clear HO_5
  clear HO_6
  clear HO_317
  clear HL636_0
  clear HL638_0
  clear BK619
  clear HR636_0
  clear HR638_0
  clear HB
  have HO_5 := n0_
  have HO_6 := n1_
  have HO_317 := n2_
  have HL636_0 := n3_
  have HL638_0 := n4_
  have BK619 := n5_
  have HR636_0 := n6_
  have HR638_0 := n7_
  have HB := n8_
  clear n0_ n1_ n2_ n3_ n4_ n5_ n6_ n7_ n8_
  (try clear hb)
  (try clear hk)
  refine hK.out _ _ ⟨HS0_, HS1_, HS2_, HS3_⟩ (fun hHeld => ?_)
  clear hK K
  refine norm_ (a' := ?_) ?_ ?_
  rotate_left
  ·show Act.put _ (some 433) _ = _
   simp only [Act.put, List.setIfInBounds_toArray, List.set_cons_zero, List.set_cons_succ, i64_w, i32_w]
   rfl
  refine purS_ (i := 14) (N := some 419) (fl_ 21 15) HT_.out ?_
  refine purS_ (i := 15) (N := some 434) (fl_ 21 16) HT_.out ?_
  refine purS_ (i := 16) (N := some 435) (fl_ 21 17) HT_.out ?_
  refine purS_ (i := 17) (N := some 436) (fl_ 21 18) HT_.out ?_
  refine purS_ (i := 18) (N := some 41) (fl_ 21 19) HT_.out ?_
  refine purS_ (i := 19) (N := some 42) (fl_ 21 20) HT_.out ?_
  refine purS_ (i := 20) (N := some 43) (fl_ 21 21) HT_.out ?_
  refine done_ (done_of HT_.out (by kernel_rfl)) ?_
  try go_wp2
  have n0_ := Aside0.mk (Kd.R_drew HO_5.out)
  have n1_ := Aside0.mk (Kd.S_drew HO_6.out)
  have n2_ := Aside0.mk (Kd.R_drew HO_317.out)
  have n3_ := Aside0.mk (Kd.R_drew HL636_0.out)
  have n4_ := Aside0.mk (Kd.R_drew HL638_0.out)
  have n5_ := Aside0.mk (blk_drew BK619.out)
  have n6_ := Aside0.mk (Kd.C_drew HR636_0.out)
  have n7_ := Aside0.mk (Kd.C_drew HR638_0.out)
  have n8_ := Aside0.mk (below_drew1 HB.out)
  clear HO_5
  clear HO_6
  clear HO_317
  clear HL636_0
  clear HL638_0
  clear BK619
  clear HR636_0
  clear HR638_0
  clear HB
  have HO_5 := n0_
  have HO_6 := n1_
  have HO_317 := n2_
  have HL636_0 := n3_
  have HL638_0 := n4_
  have BK619 := n5_
  have HR636_0 := n6_
  have HR638_0 := n7_
  have HB := n8_
  clear n0_ n1_ n2_ n3_ n4_ n5_ n6_ n7_ n8_
  have p643 : 0 ≤ (x319_3 : Int) := odt_
  have q643 : x319_3 < (t576.length : Int) := odt_
  obtain ⟨ad643, A643_0, c643_0, e643, hx643_0, hl643_0, hi643_0⟩ := at_L2 (Kd.S_reads' HO_6.out).2.2 x319_3 p643 q643
  obtain rfl : ad636 = ad643 := (by injection e643)
  obtain ⟨ce643, hce643, hMe643, hcc643⟩ := Kd.S_get HO_6.out [] x319_3 p643 (by first | exact q643 | exact of_decide_eq_true (by first | (with_reducible assumption) | assumption) | (have e_ := (Kd.S_reads' HO_6.out).1; omega))
  obtain ⟨ve643_0, rfl, ge643_0⟩ := hMe643
  have hv643_0 := hcc643 0 _ rfl
  rw [Nat.add_zero, show ((Kd.slice 3 (Kd.int .i64))).sz = 1 from rfl, Nat.mul_one] at hv643_0
  replace hv643_0 := Option.some.inj (hv643_0.symm.trans hx643_0)
  rw [hv643_0] at ge643_0
  have HL643_0 := Aside0.mk (show Kd.R (Kd.int .i64) 3 _ _ _ _ (rd_L2 t576 x319_3) from ge643_0)
  clear hv643_0 ge643_0
  clear hcc643 hce643
  have HR643_0 := Aside0.mk hi643_0
  have HC643_0 := Aside0.mk hl643_0
  clear hi643_0 hl643_0
  replace p643 := eq_true p643
  replace q643 := eq_true q643
  have p644 : 0 ≤ (0 : Int) := (by omega)
  have q644 : 0 < ((rd_L2 t576 x319_3).length : Int) := odt_
  obtain ⟨ad644, e644, hx644_0⟩ := Kd.at_int (by repeat (first | (with_reducible exact HR643_0.out) | (with_reducible refine Kd.C_alloc ?_ _) | (with_reducible refine Kd.C_drewN ?_ _) | (with_reducible refine Kd.C_drew ?_) | exact HR643_0.out)) 0 p644 q644
  cases e644
  have qi644 : (0 < (rd_L2 t576 x319_3).length) = True := eq_true (by omega)
  (try rw [show ((0 : Int)).toNat = 0 from rfl] at hx644_0)
  (try rw [Addr.add_zero'] at hx644_0)
  replace p644 := eq_true p644
  replace q644 := eq_true q644
  have p645 : 0 ≤ (x319_3 : Int) := odt_
  have q645 : x319_3 < (t576.length : Int) := odt_
  obtain ⟨ad645, A645_0, c645_0, e645, hx645_0, hl645_0, hi645_0⟩ := at_L2 (Kd.S_reads' HO_6.out).2.2 x319_3 p645 q645
  obtain rfl : ad636 = ad645 := (by injection e645)
  obtain ⟨ce645, hce645, hMe645, hcc645⟩ := Kd.S_get HO_6.out [] x319_3 p645 (by first | exact q645 | exact of_decide_eq_true (by first | (with_reducible assumption) | assumption) | (have e_ := (Kd.S_reads' HO_6.out).1; omega))
  obtain ⟨ve645_0, rfl, ge645_0⟩ := hMe645
  have hv645_0 := hcc645 0 _ rfl
  rw [Nat.add_zero, show ((Kd.slice 3 (Kd.int .i64))).sz = 1 from rfl, Nat.mul_one] at hv645_0
  replace hv645_0 := Option.some.inj (hv645_0.symm.trans hx645_0)
  rw [hv645_0] at ge645_0
  have HL645_0 := Aside0.mk (show Kd.R (Kd.int .i64) 3 _ _ _ _ (rd_L2 t576 x319_3) from ge645_0)
  clear hv645_0 ge645_0
  clear hcc645 hce645
  have HR645_0 := Aside0.mk hi645_0
  have HC645_0 := Aside0.mk hl645_0
  clear hi645_0 hl645_0
  replace p645 := eq_true p645
  replace q645 := eq_true q645
  have ea_ := Option.some.inj (hx643_0.symm.trans hx645_0)
  injection ea_ with ea_ en_ ec_
  subst ea_
  subst ec_
  clear en_
  have p646 : 0 ≤ (1 : Int) := (by omega)
  have q646 : 1 < ((rd_L2 t576 x319_3).length : Int) := odt_
  obtain ⟨ad646, e646, hx646_0⟩ := Kd.at_int (by repeat (first | (with_reducible exact HR645_0.out) | (with_reducible refine Kd.C_alloc ?_ _) | (with_reducible refine Kd.C_drewN ?_ _) | (with_reducible refine Kd.C_drew ?_) | exact HR645_0.out)) 1 p646 q646
  cases e646
  (try simp only [show (1 : Int).toNat = 1 from rfl, Nat.reduceMul, Nat.reduceEqDiff, Go.Addr.add, ↓reduceIte] at hx646_0)
  have qi646 : (1 < (rd_L2 t576 x319_3).length) = True := eq_true (by omega)
  (try rw [show ((1 : Int)).toNat = 1 from rfl] at hx646_0)
  replace p646 := eq_true p646
  replace q646 := eq_true q646
  refine start_ (n := 19) (S := fun w' => w'.cell? (ad636.add (x319_3).toNat) = some (.slice (some ad644) (rd_L2 t576 x319_3).length c643_0) ∧ w'.cell? ad644 = some (.int .i64 (rd (rd_L2 t576 x319_3) 0)) ∧ w'.cell? (ad636.add (x319_3).toNat) = some (.slice (some ad644) (rd_L2 t576 x319_3).length c643_0) ∧ w'.cell? ⟨ad644.block, ad644.off + 1, none⟩ = some (.int .i64 (rd (rd_L2 t576 x319_3) 1))) (ds := []) (fr_ [0, 19]) (by kernel_rfl) rfl rfl ⟨hx643_0, hx644_0, hx645_0, hx646_0⟩ (fun hHeld => ?_); refine with_tabW lw_.tab32 lw_.bits32 (fun HT_ HW_ => ?_)
  generalize w130.drew = w131 at HO_5 HO_6 HO_317 HL636_0 HL638_0 BK619 HR636_0 HR638_0 HB HL643_0 HL645_0 HR643_0 HR645_0 hx643_0 hx644_0 hx645_0 hx646_0 hHeld ⊢
  refine purS_ (i := 0) (N := some 438) (fl_ 19 1) HT_.out ?_
  refine purS_ (i := 1) (N := some 439) (fl_ 19 2) HT_.out ?_
  refine purS_ (i := 2) (N := some 440) (fl_ 19 3) HT_.out ?_
  refine purS_ (i := 3) (N := some 441) (fl_ 19 4) HT_.out ?_
  refine purS_ (i := 7) (N := some 445) (fr_ [4, 3, 1, 11]) HT_.out ?_
  refine purS_ (i := 8) (N := some 446) (fr_ [4, 3, 2, 10]) HT_.out ?_
  refine purS_ (i := 9) (N := some 447) (fr_ [4, 3, 3, 9]) HT_.out ?_
  refine take_ (i := 4) (N := some 442) (v := ?_) (a' := ?_) (fr_ [5, 2, 3, 9]) rfl rfl (take_ofW HT_.out HW_.out (by kernel_rfl)) (fun _ _ _ h => h) (Or.inl ⟨by rfl, ?_⟩) hHeld ?_ ?_
  rotate_left
  ·rintro w' ⟨s0, s1, s2, s3⟩
   go_simp
   with_reducible rfl
  rotate_left
  ·simp only [Act.put, List.setIfInBounds_toArray, List.set_cons_zero, List.set_cons_succ, i64_w, i32_w]
   rfl
  refine purS_ (i := 5) (N := some 443) (fr_ [6, 1, 3, 9]) HT_.out ?_
  refine take_ (i := 6) (N := some 444) (v := ?_) (a' := ?_) (fr_ [10, 9]) rfl rfl (take_ofW HT_.out HW_.out (by kernel_rfl)) (fun _ _ _ h => h) (Or.inl ⟨by rfl, ?_⟩) hHeld ?_ ?_
  rotate_left
  ·rintro w' ⟨s0, s1, s2, s3⟩
   go_simp
   with_reducible rfl
  rotate_left
  ·simp only [Act.put, List.setIfInBounds_toArray, List.set_cons_zero, List.set_cons_succ, i64_w, i32_w]
   rfl
  refine take_ (i := 10) (N := some 448) (v := ?_) (a' := ?_) (fr_ [11, 8]) rfl rfl (take_ofW HT_.out HW_.out (by kernel_rfl)) (fun _ _ _ h => h) (Or.inl ⟨by rfl, ?_⟩) hHeld ?_ ?_
  rotate_left
  ·rintro w' ⟨s0, s1, s2, s3⟩
   go_simp
   with_reducible rfl
  rotate_left
  ·simp only [Act.put, List.setIfInBounds_toArray, List.set_cons_zero, List.set_cons_succ, i64_w, i32_w]
   rfl
  refine purS_ (i := 11) (N := some 449) (fl_ 19 12) HT_.out ?_
  refine take_ (i := 12) (N := some 450) (v := ?_) (a' := ?_) (fr_ [13, 6]) rfl rfl (take_ofW HT_.out HW_.out (by kernel_rfl)) (fun _ _ _ h => h) (Or.inl ⟨by rfl, ?_⟩) hHeld ?_ ?_
  rotate_left
  ·rintro w' ⟨s0, s1, s2, s3⟩
   go_simp
   with_reducible rfl
  rotate_left
  ·simp only [Act.put, List.setIfInBounds_toArray, List.set_cons_zero, List.set_cons_succ, i64_w, i32_w]
   rfl
  refine one_ (i := 13) (N := some 451) (fr_ [14, 5]) rfl rfl (one_of HT_.out (by kernel_rfl)) (by decide) (fun K hK => ?_)
  refine goes_ Tryz.func22 (by kernel_rfl) rfl #[.slice (some ad618) t573.length co20, .int .i64 (rd (rd_L2 t576 x319_3) 0), .int .i64 (rd (rd_L2 t576 x319_3) 1)] (by rfl) rfl rfl am_ ?_
  with_reducible refine (impl_LegAt.calls kj106 _ _ t573 (rd (rd_L2 t576 x319_3) 0) (rd (rd_L2 t576 x319_3) 1) t647 true _ ?side1 ?side2 A121.out).mono ?_
  (case side1 => exact cR_ HO_5)
  (case side2 => exact (Kd.R_reads' HO_5.out).2.1)
  rintro e w132 ⟨rfl, hb⟩
  have HS0_ := (hb.cell (World.block_lt_of_cell? _ _ (hHeld.1))).trans (hHeld.1)
  have HS1_ := (hb.cell (World.block_lt_of_cell? _ _ (hHeld.2.1))).trans (hHeld.2.1)
  have HS2_ := (hb.cell (World.block_lt_of_cell? _ _ (hHeld.2.2.1))).trans (hHeld.2.2.1)
  have HS3_ := (hb.cell (World.block_lt_of_cell? _ _ (hHeld.2.2.2))).trans (hHeld.2.2.2)
  refine ⟨_, rfl, ?_⟩
  have n0_ := Aside0.mk (Kd.R_below (kd_to HO_5) hb)
  have n1_ := Aside0.mk (Kd.S_below (sd_to HO_6) hb)
  have n2_ := Aside0.mk (Kd.R_below (kd_to HO_317) hb)
  have n3_ := Aside0.mk (Kd.R_below (kd_to HL636_0) hb)
  have n4_ := Aside0.mk (Kd.R_below (kd_to HL638_0) hb)
  have n5_ := Aside0.mk (Kd.R_below (kd_to HL643_0) hb)
  have n6_ := Aside0.mk (Kd.R_below (kd_to HL645_0) hb)
  have n7_ := Aside0.mk (blk_below (blk_to BK619) hb)
  have n8_ := Aside0.mk (Kd.C_below (by repeat (first | (with_reducible exact HR636_0.out) | (with_reducible refine Kd.C_alloc ?_ _) | (with_reducible refine Kd.C_drewN ?_ _) | (with_reducible refine Kd.C_drew ?_) | exact HR636_0.out)) hb)
  have n9_ := Aside0.mk (Kd.C_below (by repeat (first | (with_reducible exact HR638_0.out) | (with_reducible refine Kd.C_alloc ?_ _) | (with_reducible refine Kd.C_drewN ?_ _) | (with_reducible refine Kd.C_drew ?_) | exact HR638_0.out)) hb)
  have n10_ := Aside0.mk (Kd.C_below (by repeat (first | (with_reducible exact HR643_0.out) | (with_reducible refine Kd.C_alloc ?_ _) | (with_reducible refine Kd.C_drewN ?_ _) | (with_reducible refine Kd.C_drew ?_) | exact HR643_0.out)) hb)
  have n11_ := Aside0.mk (Kd.C_below (by repeat (first | (with_reducible exact HR645_0.out) | (with_reducible refine Kd.C_alloc ?_ _) | (with_reducible refine Kd.C_drewN ?_ _) | (with_reducible refine Kd.C_drew ?_) | exact HR645_0.out)) hb)
  have n12_ := Aside0.mk (below_step (below_to1 HB GE619.out) hb)
  clear HO_5
  clear HO_6
  clear HO_317
  clear HL636_0
  clear HL638_0
  clear HL643_0
  clear HL645_0
  clear BK619
  clear HR636_0
  clear HR638_0
  clear HR643_0
  clear HR645_0
  clear HB
  have HO_5 := n0_
  have HO_6 := n1_
  have HO_317 := n2_
  have HL636_0 := n3_
  have HL638_0 := n4_
  have HL643_0 := n5_
  have HL645_0 := n6_
  have BK619 := n7_
  have HR636_0 := n8_
  have HR638_0 := n9_
  have HR643_0 := n10_
  have HR645_0 := n11_
  have HB := n12_
  clear n0_ n1_ n2_ n3_ n4_ n5_ n6_ n7_ n8_ n9_ n10_ n11_ n12_
  (try clear hb)
  (try clear hk)
  refine hK.out _ _ ⟨HS0_, HS1_, HS2_, HS3_⟩ (fun hHeld => ?_)
  clear hK K
  refine norm_ (a' := ?_) ?_ ?_
  rotate_left
  ·show Act.put _ (some 451) _ = _
   simp only [Act.put, List.setIfInBounds_toArray, List.set_cons_zero, List.set_cons_succ, i64_w, i32_w]
   rfl
  refine purS_ (i := 14) (N := some 437) (fl_ 19 15) HT_.out ?_
  refine purS_ (i := 15) (N := some 452) (fl_ 19 16) HT_.out ?_
  refine purS_ (i := 16) (N := some 453) (fl_ 19 17) HT_.out ?_
  refine purS_ (i := 17) (N := some 44) (fl_ 19 18) HT_.out ?_
  refine purS_ (i := 18) (N := some 45) (fl_ 19 19) HT_.out ?_
  refine done_ (done_of HT_.out (by kernel_rfl)) ?_
  try go_wp2
  go_roundg kj106
  case measure => have := HJ17.out; have := HJ64.out; have := HK3.out; have := HJ83.out; have := HJ106.out; omega
  case rel => exact ⟨((wrap64 (x35_3 + ((rd_T37 t573 x319_3).f0)))), (wrap64 (x319_3 + 1)), rt_, rt_, H', ⟨by have := HJ17.out; have := HJ64.out; have := HK3.out; have := HJ83.out; have := HJ106.out; omega⟩, ⟨by (with_reducible repeat (first | apply Kd.R_alloc | apply Kd.R_drewN | apply Kd.R_drew)); exact Kd.R_mono HO_5.out (fun _ hk => trivial)⟩, ⟨sd_to HO_6⟩, ⟨by (with_reducible repeat (first | apply Kd.R_alloc | apply Kd.R_drewN | apply Kd.R_drew)); exact Kd.R_mono HO_317.out (fun _ hk => trivial)⟩, ⟨below_to1 HB GE619.out⟩⟩
end Go.Proofs.YtbhnpccbjgbcbaaGreatDoor.QD
