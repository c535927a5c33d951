import Derived.Test.YtbhnpccbjgbcbaaGreatDoorQDx15d
namespace Go.Proofs.YtbhnpccbjgbcbaaGreatDoor.QD
open Go.Proofs.YtbhnpccbjgbcbaaGreatDoor.X Go.RowKit Go.Proofs.YtbhnpccbjgbcbaaGreatDoorW.PrintWords Go.Proofs.YtbhnpccbjgbcbaaGreatDoorW.PrintLast Go.Proofs.YtbhnpccbjgbcbaaGreatDoorW.PrintMore
attribute [local go_sem] max2_int min2_int max_two min_two max_three min_three max_four min_four
set_option linter.unusedVariables false
set_option linter.unusedSimpArgs false
variable {Aa Ab Ac Ad Nc Ng DJ Ae Af GU GV Ag Ah Ai Aj GW Ak Al Am GX GY An Ao Ap Aq GZ Ar As Au DK Av Aw Ax Nd L2 Nf Jq Jr Js Jt L3 L4 L5 L6 L7 L8 DL DM H7 Eb Ec H8 H9 Ia Ed Ee Ef Ib Eg Eh Ei Ej Ek El Em En Eo Ep Er Es Ic Id Ie Ig Ay Az AA AB AC AD AE AF AG AH AJ AK AL AM AN AO AP AQ AR AU AV AW AX AY AZ Ba Bb Bc Bd Be Bf Bg Bh Bi Bj Bk Bl Bm Bn Bo Bp Bq Br Bs Bt Bu Bv Bw Bx Bz BA BB BC BD BE BF BG BH BI BJ BK BL BM BN BO BP BQ BR BS BT BU BV BW BX BZ B0 B1 B2 B4 B5 B6 B9 Ca Cb Cc Cd Ce Cf Cg Ch Ci Cj Ck Cl Cm Cn Co Cp Cq Cr Cs Ct Cu Cv Cw Cx Cy Cz CA CB CC CD CE CF CG CH CI CJ CK CL CM CN CO CP CQ CR CS CT CU CV CW CX CY CZ C0 C1 C2 C3 C4 C5 C6 C7 C8 C9 Da Db Dc Dd De Df Dg Dh Di Dj Dk Dl Dm Dn Dq Dr Ds Dt Du Dv Dw Dx Dy Dz DA DB DC DD DE DF DG DH DI DN DO DP G0 G1 G2 G3 G4 G5 G6 G7 G8 G9 Ha Hb Hc Hd He Hf Hg Hh Hi Hj Hk Hl Hm Hn Ho Hp Hq Hr Hs Ht Hu Hv Hw Hx Hy Hz HD HE HF HG HH HI HJ HM HN HP HQ HR Ea DQ DR L9 HS HU HV HW HX HY HZ H0 H1 H2 H3 H4 H5 H6 Ju Jv Jw Jx Jy Jz JA JB JC JD JE JF JG JH JI JJ JK JL JM JN JO JP JQ JR JS JT JU JV JW JX JY JZ J0 J1 J2 J3 J4 J5 J6 J7 J8 J9 Ka Kb Ke Kf Kg Kh Ki Kj Kk Kl Km Kn Ko Kp Kq Kr Ks Kt Ku Kv Kw Kx Ky Kz KA KB Ih KC KD KE KF KG KH KI KJ KK KL KM KN KO KP KQ Nb Ma Mb Mc Md Me Mf Mg Mh Mi Mj Mk Ml Mm Mn Mo Mp Mq Mr Ms Mt Mu Mv Mw Mx My Mz MA MB MC MD ME MF MG MH MI MJ MK ML MM MN MO MP MQ MR MS MT MU MV MW MX MY MZ M0 M1 M2 M3 M4 M5 M6 M7 M8 M9 DS DT DU DV DW DX DY DZ D0 D1 D2 D3 D4 D5 D6 D7 D8 D9 Et Eu Ew Ex Ey Ez EA EB EC ED EE EF EG EH EI EJ EK EL EM EN EO EP EQ ER ES ET EU EV EW EX EY EZ E0 E1 E2 E3 E4 E5 E6 E7 E8 E9 Fa Fb Fc Fd Fe Ff Fg Fh Fi Fj Fk Fl Fm Fn Fo Fp Fq Fr Fs Ft Fu Fv Fw Fx Fy Fz FA FB FC FD FE FF FG FH FI FJ FL FM FN FO FP FQ FR FS FT FU FV FW FX FY FZ F0 F1 F2 F3 F4 F5 F6 F7 F8 F9 Ga Gb Gc Gd Ge Gf Gg Gh Gi Gj Gk Gl Gm Gn Gp Gq Gr Gs Gt Gu Gv Gw Gx Gy Gz GA GB GC GD GE GF GG GH GI GJ GK GL GM GN GO GP GQ GR GS GT Ii Ij Ik Il Im Io Ip Iq Ir Is It Iu Iv Iw Ix Iy Iz IA IB IC ID IE IF IG IH II IJ IK IL IM IP IQ IR IU IV IW IX IY IZ I0 I1 I2 I3 I4 I5 I6 I7 I8 I9 Ja Jb Jc Jd Je Jf Jg Jh Ji Jj Jk Jl Jm Jn Jo Jp : Value}
set_option maxHeartbeats 16000000 in
set_option maxRecDepth 1000000 in
theorem lw_.seg4 (k : Nat) (r : Bool) (w : World) (HTab_ : Aside0 (YtbhnpccbjgbcbaaGreatDoor.XText.T2 w)) (HR_ : Aside0 (r = Bool.true)) (hu37 : Program.underlying Tryz.prog (37 : Nat) = Option.some (TypeDesc.struct #[Field.mk "Long" (3 : Nat) (0 : Nat) Bool.false "" "" (0 : Nat), Field.mk "Fast" (3 : Nat) (1 : Nat) Bool.false "" "" (8 : Nat)])) (kj17 : Nat) (HJ17 : Aside0 (kj17 + (1 : Nat) ≤ k)) (kj62 : Nat) (HJ62 : Aside0 (kj62 + (1 : Nat) ≤ kj17)) (t669 : List Int) (t672 t673 : Int) (t674 : Bool) (t678 t679 : Int) (t684 : ByteArray) (t685 : List S37) (t686 : Bool) (Ao171 : Option Addr) (co171 nd : Nat) (v687 : Value) (kj162 : Nat) (HJ162 : Aside0 (kj162 + (1 : Nat) ≤ kj62)) (wc : World) (u4 : Value) (kq : Nat) (HA : Aside0 (lw_.j9 kq t669 t672 t673 t674 t678 t679 t684 t685 t686 = Option.some r)) (HJ195 : Aside0 (kq ≤ kj162)) (HO_62 : Aside0 (Kd.V (Kd.int IntKind.i64) (3 : Nat) wc (Array.size (World.heap w)) (fun k_ => Option.some k_ ≠ Value.ownBlock v687) (Value.slice Ao171 (List.length t669) co171) t669)) (HO_76 : Aside0 (Kd.R k37 (37 : Nat) wc (Array.size (World.heap w)) (fun x => True) v687 t685)) (HB : Aside0 (Below (Array.size (World.heap w)) w wc)) :
    Go.Code.wp Tryz.prog (lw_.behind 647 lw_.body) (bodyPost Tryz.prog Tryz.f4 (fun e w' => e = .returned (.bool r) ∧ Below w.heap.size w w')) (Go.Act.mk #[Aa,Ab,Ac,Ad, u4,Nc,Ng,DJ,Ae,Af,GU,GV,Ag,Ah,Ai,Aj,GW,Ak,Al,Am,GX,GY,An,Ao,Ap,Aq,GZ,Ar,As,Au,DK,Av,Aw,Ax,Nd,L2,Nf,Jq,Jr,Js,Jt,L3,L4,L5,L6,L7,L8,DL,DM,H7,Eb,Ec,H8,H9,Ia,Ed,Ee,Ef,Ib,Eg,Eh,Ei, Value.slice Ao171 (List.length t669) co171, Value.int IntKind.i64 t672, Value.int IntKind.i64 t673, Value.bool t674,Ej,Ek,El, Value.int IntKind.i64 t678, Value.int IntKind.i64 t679,Em,En,Eo,Ep, Value.string t684, v687, Value.bool t686,Er,Es,Ic,Id,Ie,Ig, undef,Ay, undef, undef, undef,Az,AA,AB,AC,AD,AE,AF,AG,AH,AJ,AK,AL,AM,AN,AO,AP,AQ,AR,AU,AV,AW,AX,AY,AZ,Ba,Bb,Bc,Bd,Be,Bf,Bg,Bh,Bi,Bj,Bk,Bl,Bm,Bn,Bo,Bp,Bq,Br,Bs,Bt,Bu,Bv,Bw,Bx,Bz,BA,BB,BC,BD,BE,BF,BG,BH,BI,BJ,BK,BL,BM,BN,BO,BP,BQ,BR,BS,BT,BU,BV,BW,BX,BZ,B0,B1,B2,B4,B5,B6,B9,Ca,Cb,Cc,Cd,Ce,Cf,Cg,Ch,Ci,Cj,Ck,Cl,Cm,Cn,Co,Cp,Cq,Cr,Cs,Ct,Cu,Cv,Cw,Cx,Cy,Cz,CA,CB,CC,CD,CE,CF,CG,CH,CI,CJ,CK,CL,CM,CN,CO,CP,CQ,CR,CS,CT,CU,CV,CW,CX,CY,CZ,C0,C1,C2,C3,C4,C5,C6,C7,C8,C9,Da,Db,Dc,Dd,De,Df,Dg,Dh,Di,Dj,Dk,Dl,Dm,Dn,Dq,Dr,Ds,Dt,Du,Dv,Dw,Dx,Dy,Dz,DA,DB,DC,DD,DE,DF,DG,DH,DI,DN,DO,DP,G0,G1,G2,G3,G4,G5,G6,G7,G8,G9,Ha,Hb,Hc,Hd,He,Hf,Hg,Hh,Hi,Hj,Hk,Hl,Hm,Hn,Ho,Hp,Hq,Hr,Hs,Ht,Hu,Hv,Hw,Hx,Hy,Hz,HD,HE,HF,HG,HH,HI,HJ,HM,HN,HP,HQ,HR,Ea,DQ,DR,L9,HS,HU,HV,HW,HX,HY,HZ,H0,H1,H2,H3,H4,H5,H6,Ju,Jv,Jw,Jx,Jy,Jz,JA,JB,JC,JD,JE,JF,JG,JH,JI,JJ,JK,JL,JM,JN,JO,JP,JQ,JR,JS,JT,JU,JV,JW,JX,JY,JZ,J0,J1,J2,J3,J4,J5,J6,J7,J8,J9,Ka,Kb,Ke,Kf,Kg,Kh,Ki,Kj,Kk,Kl,Km,Kn,Ko,Kp,Kq,Kr,Ks,Kt,Ku,Kv,Kw,Kx,Ky,Kz,KA,KB,Ih,KC,KD,KE,KF,KG,KH,KI,KJ,KK,KL,KM,KN,KO,KP,KQ,Nb,Ma,Mb,Mc,Md,Me,Mf,Mg,Mh,Mi,Mj,Mk,Ml,Mm,Mn,Mo,Mp,Mq,Mr,Ms,Mt,Mu,Mv,Mw,Mx,My,Mz,MA,MB,MC,MD,ME,MF,MG,MH,MI,MJ,MK,ML,MM,MN,MO,MP,MQ,MR,MS,MT,MU,MV,MW,MX,MY,MZ,M0,M1,M2,M3,M4,M5,M6,M7,M8,M9,DS,DT,DU,DV,DW,DX,DY,DZ,D0,D1,D2,D3,D4,D5,D6,D7,D8,D9,Et,Eu,Ew,Ex,Ey,Ez,EA,EB,EC,ED,EE,EF,EG,EH,EI,EJ,EK,EL,EM,EN,EO,EP,EQ,ER,ES,ET,EU,EV,EW,EX,EY,EZ,E0,E1,E2,E3,E4,E5,E6,E7,E8,E9,Fa,Fb,Fc,Fd,Fe,Ff,Fg,Fh,Fi,Fj,Fk,Fl,Fm,Fn,Fo,Fp,Fq,Fr,Fs,Ft,Fu,Fv,Fw,Fx,Fy,Fz,FA,FB,FC,FD,FE,FF,FG,FH,FI,FJ,FL,FM,FN,FO,FP,FQ,FR,FS,FT,FU,FV,FW,FX,FY,FZ,F0,F1,F2,F3,F4,F5,F6,F7,F8,F9,Ga,Gb,Gc,Gd,Ge,Gf,Gg,Gh,Gi,Gj,Gk,Gl,Gm,Gn,Gp,Gq,Gr,Gs,Gt,Gu,Gv,Gw,Gx,Gy,Gz,GA,GB,GC,GD,GE,GF,GG,GH,GI,GJ,GK,GL,GM,GN,GO,GP,GQ,GR,GS,GT,Ii,Ij,Ik,Il,Im,Io,Ip,Iq,Ir,Is,It,Iu,Iv,Iw,Ix,Iy,Iz,IA,IB,IC,ID,IE,IF,IG,IH,II,IJ,IK,IL,IM,IP,IQ,IR,IU,IV,IW,IX,IY,IZ,I0,I1,I2,I3,I4,I5,I6,I7,I8,I9,Ja,Jb,Jc,Jd,Je,Jf,Jg,Jh,Ji,Jj,Jk,Jl,Jm,Jn,Jo,Jp, undef, undef, undef, undef, undef, undef, undef, undef, undef, undef, undef, undef, undef, undef, undef, undef, undef, undef, undef, undef, undef, undef, undef, undef, undef, undef, undef, undef, undef, undef, undef, undef, undef, undef, undef, undef, undef, undef, undef, undef, undef, undef, undef, undef, undef, undef, undef, undef, undef, undef, undef, undef, undef, undef, undef, undef, undef, undef, undef] []) wc := by
  conv => arg 2; whnf
  (try conv => arg 4; dsimp only)
  cases kq with
  | zero => exact absurd HA.out (by simp [lw_.j9])
  | succ kj195 =>
   have H := HA.out
   clear HA
   simp only [lw_.j9] at H
   by_cases c215 : t674 = true
   rotate_left
   ·replace c215 := Bool.eq_false_iff.mpr c215
    subst c215
    rw [if_neg ft_] at H
    by_cases c234 : t686 = true
    ·subst c234
     rw [if_pos rfl] at H
     replace H := Option.bind_eq_some_iff.mp H
     obtain ⟨⟨t705, t706⟩, A2350, H⟩ := H
     (try dsimp only at H)
     have A235 := Aside0.mk A2350
     clear A2350
     by_cases c236 : t706 = true
     ·subst c236
      rw [if_pos rfl] at H
      obtain rfl := Option.some.inj H
      obtain ⟨Ao237, co237, eo237⟩ := Kd.R_slice HO_76.out
      subst eo237
      go_wp2_with (first | ((with_reducible refine gate_callee (f := 15) rfl ?_); refine goesL_ (some 762) rfl rfl Tryz.func15 (by kernel_rfl) rfl #[.slice Ao237 t685.length co237] rfl am_ ?_; (with_reducible refine (impl_LegsText.calls kj195 _ _ t685 t705 true _ ?side1 ?side2 A235.out ?sidet).mono ?_); (case sidet => refine Go.Proofs.YtbhnpccbjgbcbaaGreatDoor.XText.T1.on (w := w) (Go.Proofs.YtbhnpccbjgbcbaaGreatDoor.XText.T2.to1 HTab_.out) ?_; repeat (first | (with_reducible first | exact HB.out | exact Below.refl _ _ | apply below_alloc | apply pw_below_drewN | apply below_drew1 | refine below_set ?_ GE619.out) | exact HB.out | exact Below.refl _ _)); (case side1 => exact cR_ HO_76); (case side2 => exact (Kd.R_reads' HO_76.out).2.1); rintro e w238 ⟨rfl, hb⟩; refine ⟨_, rfl, ?_⟩; replace HO_62 := Aside0.mk (Kd.V_below (vd_to HO_62) hb); replace HO_76 := Aside0.mk (Kd.R_below (kd_to HO_76) hb); replace HB := Aside0.mk (below_step (below_to HB) hb); (try clear hb)))
      go_ret
      exact ⟨rtE_, below_to HB⟩
     ·replace c236 := Bool.eq_false_iff.mpr c236
      subst c236
      rw [if_neg ft_] at H
      exact nof_ HR_ H
    ·replace c234 := Bool.eq_false_iff.mpr c234
     subst c234
     rw [if_neg ft_] at H
     obtain rfl := Option.some.inj H
     go_wp2
     go_ret
     exact ⟨rtE_, below_to HB⟩
  
   subst c215
   rw [if_pos rfl] at H
   have H' := Aside0.mk H
   clear H
   go_wp2
   go_loopg [84, 715] kj195 (fun kq v84 v715 w' => ∃ (x84_5 : Bool) (x715_5 : Int), v84 = .bool x84_5 ∧ v715 = .int .i64 x715_5 ∧ Aside0 (lw_.l2 kq t669 t672 t673 t678 t679 t684 t685 t686 x84_5 t669 (t669.length : Int) x715_5 = some r) ∧ Aside0 (kq ≤ kj195) ∧ Aside0 (Kd.V (Kd.int .i64) 3 w' w.heap.size (fun k_ => some k_ ≠ (v687 : Value).ownBlock) (.slice Ao171 t669.length co171) t669) ∧ Aside0 (Kd.R k37 37 w' w.heap.size (fun _ => True) v687 t685) ∧ Aside0 (Kd.V (Kd.int .i64) 3 w' w.heap.size (fun k_ => some k_ ≠ (v687 : Value).ownBlock) (.slice Ao171 t669.length co171) t669) ∧ Aside0 (Below w.heap.size w w'))
   case atStart => exact ⟨(true), (0), rt_, rt_, H', ⟨Nat.le_refl _⟩, ⟨vd_to HO_62⟩, ⟨kd_to HO_76⟩, ⟨vd_to HO_62⟩, ⟨below_to HB⟩⟩
   clear H'
   (try clear c215)
   obtain ⟨x84_5, x715_5, rfl, rfl, HA, HK5, HO_62, HO_76, HO_713, HB⟩ := hrel
   cases gk with
   | zero => exact absurd HA.out (by simp [lw_.l2])
   | succ k5 =>
    have H := HA.out
    clear HA
    simp only [lw_.l2] at H
    by_cases c216 : x715_5 < (t669.length : Int)
    ·rw [if_pos c216] at H
     have c216b0 := decide_eq_true c216
     clear c216
     by_cases c217 : 0 ≤ x715_5
     rotate_left
     ·rw [if_neg c217] at H
      cases H
     rw [if_pos c217] at H
     have c217b0 := decide_eq_true c217
     clear c217
     by_cases c218 : x715_5 < (t669.length : Int)
     rotate_left
     ·rw [if_neg c218] at H
      cases H
     rw [if_pos c218] at H
     have c218b0 := decide_eq_true c218
     clear c218
     by_cases c219 : x84_5 = true
     rotate_left
     ·replace c219 := Bool.eq_false_iff.mpr c219
      subst c219
      rw [if_neg ft_] at H
      have H' := Aside0.mk H
      clear H
      have p699 : 0 ≤ (x715_5 : Int) := odt_
      have q699 : x715_5 < (t669.length : Int) := odt_
      obtain ⟨ad699, e699, hx699_0⟩ := Kd.at_int (Kd.V_reads' HO_713.out).2.2 x715_5 p699 q699
      cases e699
      replace p699 := eq_true p699
      replace q699 := eq_true q699
      go_wp2
      go_roundg k5
      case measure => have := HJ17.out; have := HJ62.out; have := HJ162.out; have := HJ195.out; have := HK5.out; omega
      case rel => exact ⟨(false), (wrap64 (x715_5 + 1)), rt_, rt_, H', ⟨by have := HJ17.out; have := HJ62.out; have := HJ162.out; have := HJ195.out; have := HK5.out; omega⟩, ⟨vd_to HO_62⟩, ⟨kd_to HO_76⟩, ⟨vd_to HO_713⟩, ⟨below_to HB⟩⟩
     subst c219
     rw [if_pos rfl] at H
     by_cases c220 : 0 < (t669.length : Int)
     ·rw [if_pos c220] at H
      have c220b0 := decide_eq_true c220
      have c220b1 : decide (0 < t669.length) = true := decide_eq_true (by omega)
      clear c220
      have H' := Aside0.mk H
      clear H
      have p699 : 0 ≤ (x715_5 : Int) := odt_
      have q699 : x715_5 < (t669.length : Int) := odt_
      obtain ⟨ad699, e699, hx699_0⟩ := Kd.at_int (Kd.V_reads' HO_713.out).2.2 x715_5 p699 q699
      cases e699
      replace p699 := eq_true p699
      replace q699 := eq_true q699
      have p700 : 0 ≤ (0 : Int) := (by omega)
      have q700 : 0 < (t669.length : Int) := odt_
      obtain ⟨ad700, e700, hx700_0⟩ := Kd.at_int (Kd.V_reads' HO_62.out).2.2 0 p700 q700
      obtain rfl : ad699 = ad700 := (by injection e700)
      have qi700 : (0 < t669.length) = True := eq_true (by omega)
      (try rw [show ((0 : Int)).toNat = 0 from rfl] at hx700_0)
      (try rw [Addr.add_zero'] at hx700_0)
      replace p700 := eq_true p700
      replace q700 := eq_true q700
      go_wp2
      go_roundg k5
      case measure => have := HJ17.out; have := HJ62.out; have := HJ162.out; have := HJ195.out; have := HK5.out; omega
      case rel => exact ⟨(((rd t669 x715_5) == (rd t669 0))), (wrap64 (x715_5 + 1)), rt_, rt_, H', ⟨by have := HJ17.out; have := HJ62.out; have := HJ162.out; have := HJ195.out; have := HK5.out; omega⟩, ⟨vd_to HO_62⟩, ⟨kd_to HO_76⟩, ⟨vd_to HO_713⟩, ⟨below_to HB⟩⟩
     ·rw [if_neg c220] at H
      cases H
    rw [if_neg c216] at H
    have c216b0 := decide_eq_false c216
    clear c216
    have HC221 := Aside0.mk H
    clear H
    go_upto_region 75 with (fail)
    go_cut [758] from 100000 (fun v758 wc => ∃ (kq : Nat) (x758_220 : Bool), v758 = .bool x758_220 ∧ Aside0 (lw_.j11 kq t684 t685 t686 x758_220 = some r) ∧ Aside0 (kq ≤ k5) ∧ Aside0 (Kd.R k37 37 wc w.heap.size (fun _ => True) v687 t685) ∧ Aside0 (Below w.heap.size w wc))
    case first =>
     (try conv => arg 2; dsimp only [List.append_eq, List.cons_append, List.nil_append])
     have H := HC221.out
     clear HC221
     replace H := Option.bind_eq_some_iff.mp H
     obtain ⟨t701, A2220, H⟩ := H
     (try dsimp only at H)
     have A222 := Aside0.mk A2220
     clear A2220
     by_cases c223 : t701 = true
     rotate_left
     ·replace c223 := Bool.eq_false_iff.mpr c223
      subst c223
      rw [if_neg ft_] at H
      exact absurd H (by rw [HR_.out]; cases k5 <;> simp [lw_.j11])
     subst c223
     rw [if_pos rfl] at H
     replace H := Option.bind_eq_some_iff.mp H
     obtain ⟨t702, A2240, H⟩ := H
     (try dsimp only at H)
     have A224 := Aside0.mk A2240
     clear A2240
     by_cases c225 : t702 = true
     rotate_left
     ·replace c225 := Bool.eq_false_iff.mpr c225
      subst c225
      rw [if_neg ft_] at H
      exact absurd H (by rw [HR_.out]; cases k5 <;> simp [lw_.j11])
     subst c225
     rw [if_pos rfl] at H
     by_cases c226 : (wrap64 (t672 * t679)) > (wrap64 (t678 * t673))
     ·rw [if_pos c226] at H
      have c226b0 := decide_eq_true c226
      clear c226
      (first | rw [c226b0] | (simp only [i64_w, i32_w]; rw [c226b0]) | skip)
      exact absurd H (by rw [HR_.out]; cases k5 <;> simp [lw_.j11])
     ·rw [if_neg c226] at H
      have c226b0 := decide_eq_false c226
      clear c226
      (first | rw [c226b0] | (simp only [i64_w, i32_w]; rw [c226b0]) | skip)
      by_cases c227 : t672 = t678
      ·rw [if_pos c227] at H
       have c227b0 := beq_iff_eq.mpr c227
       have c227b1 := bne_eq_false_iff_eq.mpr c227
       clear c227
       have H' := Aside0.mk H
       clear H
       go_wp2_with (first | ((with_reducible refine gate_callee (f := 20) rfl ?_); refine goesL_ (some 730) rfl rfl Tryz.func20 (by kernel_rfl) rfl #[.int .i64 t672, .int .i64 t673] rfl am_ ?_; (with_reducible refine (laws_yLow.calls k5 t672 t673 true _ A222.out).mono ?_); rintro e w' ⟨rfl, ⟨nd, rfl⟩⟩; refine ⟨_, rfl, ?_⟩) | (go_at_call 20; (with_reducible refine (laws_yLow.calls k5 t678 t679 true _ A224.out).mono ?_); rintro e w' ⟨rfl, ⟨nd, rfl⟩⟩))
       go_meet
       case rel => exact ⟨_, ((x84_5 != (t673 == t679))), rt_, H', ⟨by have := HJ17.out; have := HJ62.out; have := HJ162.out; have := HJ195.out; have := HK5.out; first | omega | exact Nat.le_refl _⟩, ⟨kd_to HO_76⟩, ⟨below_to HB⟩⟩
      ·rw [if_neg c227] at H
       have c227b0 := beq_eq_false_iff_ne.mpr c227
       have c227b1 := bne_iff_ne.mpr c227
       have H' := Aside0.mk H
       clear H
       go_wp2_with (first | ((with_reducible refine gate_callee (f := 20) rfl ?_); refine goesL_ (some 730) rfl rfl Tryz.func20 (by kernel_rfl) rfl #[.int .i64 t672, .int .i64 t673] rfl am_ ?_; (with_reducible refine (laws_yLow.calls k5 t672 t673 true _ A222.out).mono ?_); rintro e w' ⟨rfl, ⟨nd, rfl⟩⟩; refine ⟨_, rfl, ?_⟩) | (go_at_call 20; (with_reducible refine (laws_yLow.calls k5 t678 t679 true _ A224.out).mono ?_); rintro e w' ⟨rfl, ⟨nd, rfl⟩⟩))
       go_meet
       case rel => exact ⟨_, ((x84_5 != false)), rt_, H', ⟨by have := HJ17.out; have := HJ62.out; have := HJ162.out; have := HJ195.out; have := HK5.out; first | omega | exact Nat.le_refl _⟩, ⟨kd_to HO_76⟩, ⟨below_to HB⟩⟩
    clear HC221
    (try clear c215); (try clear c216); (try clear c216b0); (try clear c217); (try clear c217b0); (try clear c218); (try clear c218b0); (try clear c219); (try clear c220); (try clear c220b0); (try clear c220b1); (try clear c223); (try clear c225); (try clear c226); (try clear c226b0); (try clear c227); (try clear c227b0); (try clear c227b1); (try clear hx699_0); (try clear hx700_0); (try clear p699); (try clear p700); (try clear q699); (try clear q700)
    obtain ⟨kq, x758_220, rfl, HA, HJ220, HO_76, HB⟩ := hcut
    cases kq with
    | zero => exact absurd HA.out (by simp [lw_.j11])
    | succ kj220 =>
     have H := HA.out
     clear HA
     simp only [lw_.j11] at H
     by_cases c228 : x758_220 = true
     ·subst c228
      rw [if_pos rfl] at H
      exact nof_ HR_ H
     replace c228 := Bool.eq_false_iff.mpr c228
     subst c228
     rw [if_neg ft_] at H
     by_cases c229 : t686 = true
     ·subst c229
      rw [if_pos rfl] at H
      replace H := Option.bind_eq_some_iff.mp H
      obtain ⟨⟨t703, t704⟩, A2300, H⟩ := H
      (try dsimp only at H)
      have A230 := Aside0.mk A2300
      clear A2300
      by_cases c231 : t704 = true
      ·subst c231
       rw [if_pos rfl] at H
       obtain rfl := Option.some.inj H
       obtain ⟨Ao232, co232, eo232⟩ := Kd.R_slice HO_76.out
       subst eo232
       go_wp2_with (first | ((with_reducible refine gate_callee (f := 15) rfl ?_); refine goesL_ (some 762) rfl rfl Tryz.func15 (by kernel_rfl) rfl #[.slice Ao232 t685.length co232] rfl am_ ?_; (with_reducible refine (impl_LegsText.calls kj220 _ _ t685 t703 true _ ?side1 ?side2 A230.out ?sidet).mono ?_); (case sidet => refine Go.Proofs.YtbhnpccbjgbcbaaGreatDoor.XText.T1.on (w := w) (Go.Proofs.YtbhnpccbjgbcbaaGreatDoor.XText.T2.to1 HTab_.out) ?_; repeat (first | (with_reducible first | exact HB.out | exact Below.refl _ _ | apply below_alloc | apply pw_below_drewN | apply below_drew1 | refine below_set ?_ GE619.out) | exact HB.out | exact Below.refl _ _)); (case side1 => exact cR_ HO_76); (case side2 => exact (Kd.R_reads' HO_76.out).2.1); rintro e w233 ⟨rfl, hb⟩; refine ⟨_, rfl, ?_⟩; replace HO_76 := Aside0.mk (Kd.R_below (kd_to HO_76) hb); replace HB := Aside0.mk (below_step (below_to HB) hb); (try clear hb)))
       go_ret
       exact ⟨rtE_, below_to HB⟩
      ·replace c231 := Bool.eq_false_iff.mpr c231
       subst c231
       rw [if_neg ft_] at H
       exact nof_ HR_ H
     ·replace c229 := Bool.eq_false_iff.mpr c229
      subst c229
      rw [if_neg ft_] at H
      obtain rfl := Option.some.inj H
      go_wp2
      go_ret
      exact ⟨rtE_, below_to HB⟩
set_option maxHeartbeats 16000000 in
set_option maxRecDepth 1000000 in
theorem lw_.seg3 (k : Nat) (l1 : List Int) (r : Bool) (w : World) (HTab_ : Aside0 (YtbhnpccbjgbcbaaGreatDoor.XText.T2 w)) (HR_ : Aside0 (r = Bool.true)) (hu37 : Program.underlying Tryz.prog (37 : Nat) = Option.some (TypeDesc.struct #[Field.mk "Long" (3 : Nat) (0 : Nat) Bool.false "" "" (0 : Nat), Field.mk "Fast" (3 : Nat) (1 : Nat) Bool.false "" "" (8 : Nat)])) (kj17 : Nat) (HJ17 : Aside0 (kj17 + (1 : Nat) ≤ k)) (u4 : Value) (kj62 : Nat) (HJ62 : Aside0 (kj62 + (1 : Nat) ≤ kj17)) (t654 : List S37) (t659 t660 : Int) (t661 : Bool) (t665 : Int) (t669 : List Int) (t672 t673 : Int) (t674 : Bool) (t678 t679 : Int) (t684 : ByteArray) (t685 : List S37) (t686 : Bool) (Ao165 : Option Addr) (co165 : Nat) (Ao171 : Option Addr) (co171 : Nat) (nd : Nat) (v687 : Value) (wc : World) (HO_49 : Aside0 (Kd.R k37 (37 : Nat) wc (Array.size (World.heap w)) (fun k_ => Option.some k_ ≠ Value.ownBlock v687) (Value.slice Ao165 (List.length t654) co165) t654)) (HO_62 : Aside0 (Kd.V (Kd.int IntKind.i64) (3 : Nat) wc (Array.size (World.heap w)) (fun k_ => Option.some k_ ≠ Value.ownBlock (Value.slice Ao165 (List.length t654) co165) ∧ Option.some k_ ≠ Value.ownBlock v687) (Value.slice Ao171 (List.length t669) co171) t669)) (HO_76 : Aside0 (Kd.R k37 (37 : Nat) wc (Array.size (World.heap w)) (fun k_ => Option.some k_ ≠ Value.ownBlock (Value.slice Ao165 (List.length t654) co165)) v687 t685)) (HB : Aside0 (Below (Array.size (World.heap w)) w wc)) (kj162 : Nat) (HJ162 : Aside0 (kj162 + (1 : Nat) ≤ kj62)) (HC196 : Aside0 ((if t661 = Bool.true then Option.bind (impl_LongOfLegs.f kj162 t654) fun bt694 => if Prod.snd bt694 = Bool.true then Option.bind (laws_yLow.f kj162 t659 t660) fun t696 => if t696 = Bool.true then if t659 < (0 : Int) then lw_.j7 kj162 t654 t659 t660 t665 t669 t672 t673 t674 t678 t679 t684 t685 t686 Bool.true else if t659 > wrap64 (Prod.fst bt694 * t660) then lw_.j7 kj162 t654 t659 t660 t665 t669 t672 t673 t674 t678 t679 t684 t685 t686 Bool.true else if t665 < (0 : Int) then lw_.j7 kj162 t654 t659 t660 t665 t669 t672 t673 t674 t678 t679 t684 t685 t686 Bool.true else lw_.j7 kj162 t654 t659 t660 t665 t669 t672 t673 t674 t678 t679 t684 t685 t686 (Decidable.decide (t665 ≥ (↑(List.length t654) : Int))) else lw_.j7 kj162 t654 t659 t660 t665 t669 t672 t673 t674 t678 t679 t684 t685 t686 Bool.true else lw_.j7 kj162 t654 t659 t660 t665 t669 t672 t673 t674 t678 t679 t684 t685 t686 Bool.true else lw_.j9 kj162 t669 t672 t673 t674 t678 t679 t684 t685 t686) = Option.some r)) :
    Go.Code.wp Tryz.prog (lw_.behind 646 lw_.body) (bodyPost Tryz.prog Tryz.f4 (fun e w' => e = .returned (.bool r) ∧ Below w.heap.size w w')) (Go.Act.mk #[Aa,Ab,Ac,Ad, u4,Nc,Ng,DJ,Ae,Af,GU,GV,Ag,Ah,Ai,Aj,GW,Ak,Al,Am,GX,GY,An,Ao,Ap,Aq,GZ,Ar,As,Au,DK,Av,Aw,Ax,Nd,L2,Nf,Jq,Jr,Js,Jt,L3,L4,L5,L6,L7,L8,DL,DM, Value.slice Ao165 (List.length t654) co165,Eb,Ec, Value.int IntKind.i64 t659, Value.int IntKind.i64 t660, Value.bool t661,Ed,Ee,Ef, Value.int IntKind.i64 t665,Eg,Eh,Ei, Value.slice Ao171 (List.length t669) co171, Value.int IntKind.i64 t672, Value.int IntKind.i64 t673, Value.bool t674,Ej,Ek,El, Value.int IntKind.i64 t678, Value.int IntKind.i64 t679,Em,En,Eo,Ep, Value.string t684, v687, Value.bool t686,Er,Es, undef, undef, undef, undef, undef,Ay, undef, undef, undef,Az,AA,AB,AC,AD,AE,AF,AG,AH,AJ,AK,AL,AM,AN,AO,AP,AQ,AR,AU,AV,AW,AX,AY,AZ,Ba,Bb,Bc,Bd,Be,Bf,Bg,Bh,Bi,Bj,Bk,Bl,Bm,Bn,Bo,Bp,Bq,Br,Bs,Bt,Bu,Bv,Bw,Bx,Bz,BA,BB,BC,BD,BE,BF,BG,BH,BI,BJ,BK,BL,BM,BN,BO,BP,BQ,BR,BS,BT,BU,BV,BW,BX,BZ,B0,B1,B2,B4,B5,B6,B9,Ca,Cb,Cc,Cd,Ce,Cf,Cg,Ch,Ci,Cj,Ck,Cl,Cm,Cn,Co,Cp,Cq,Cr,Cs,Ct,Cu,Cv,Cw,Cx,Cy,Cz,CA,CB,CC,CD,CE,CF,CG,CH,CI,CJ,CK,CL,CM,CN,CO,CP,CQ,CR,CS,CT,CU,CV,CW,CX,CY,CZ,C0,C1,C2,C3,C4,C5,C6,C7,C8,C9,Da,Db,Dc,Dd,De,Df,Dg,Dh,Di,Dj,Dk,Dl,Dm,Dn,Dq,Dr,Ds,Dt,Du,Dv,Dw,Dx,Dy,Dz,DA,DB,DC,DD,DE,DF,DG,DH,DI,DN,DO,DP,G0,G1,G2,G3,G4,G5,G6,G7,G8,G9,Ha,Hb,Hc,Hd,He,Hf,Hg,Hh,Hi,Hj,Hk,Hl,Hm,Hn,Ho,Hp,Hq,Hr,Hs,Ht,Hu,Hv,Hw,Hx,Hy,Hz,HD,HE,HF,HG,HH,HI,HJ,HM,HN,HP,HQ,HR,Ea,DQ,DR,L9,HS,HU,HV,HW,HX,HY,HZ,H0,H1,H2,H3,H4,H5,H6,Ju,Jv,Jw,Jx,Jy,Jz,JA,JB,JC,JD,JE,JF,JG,JH,JI,JJ,JK,JL,JM,JN,JO,JP,JQ,JR,JS,JT,JU,JV,JW,JX,JY,JZ,J0,J1,J2,J3,J4,J5,J6,J7,J8,J9,Ka,Kb,Ke,Kf,Kg,Kh,Ki,Kj,Kk,Kl,Km,Kn,Ko,Kp,Kq,Kr,Ks,Kt,Ku,Kv,Kw,Kx,Ky,Kz,KA,KB,Ih,KC,KD,KE,KF,KG,KH,KI,KJ,KK,KL,KM,KN,KO,KP,KQ,Nb,Ma,Mb,Mc,Md,Me,Mf,Mg,Mh,Mi,Mj,Mk,Ml,Mm,Mn,Mo,Mp,Mq,Mr,Ms,Mt,Mu,Mv,Mw,Mx,My,Mz,MA,MB,MC,MD,ME,MF,MG,MH,MI,MJ,MK,ML,MM,MN,MO,MP,MQ,MR,MS,MT,MU,MV,MW,MX,MY,MZ,M0,M1,M2,M3,M4,M5,M6,M7,M8,M9,DS,DT,DU,DV,DW,DX,DY,DZ,D0,D1,D2,D3,D4,D5,D6,D7,D8,D9,Et,Eu,Ew,Ex,Ey,Ez,EA,EB,EC,ED,EE,EF,EG,EH,EI,EJ,EK,EL,EM,EN,EO,EP,EQ,ER,ES,ET,EU,EV,EW,EX,EY,EZ,E0,E1,E2,E3,E4,E5,E6,E7,E8,E9,Fa,Fb,Fc,Fd,Fe,Ff,Fg,Fh,Fi,Fj,Fk,Fl,Fm,Fn,Fo,Fp,Fq,Fr,Fs,Ft,Fu,Fv,Fw,Fx,Fy,Fz,FA,FB,FC,FD,FE,FF,FG,FH,FI,FJ,FL,FM,FN,FO,FP,FQ,FR,FS,FT,FU,FV,FW,FX,FY,FZ,F0,F1,F2,F3,F4,F5,F6,F7,F8,F9,Ga,Gb,Gc,Gd,Ge,Gf,Gg,Gh,Gi,Gj,Gk,Gl,Gm,Gn,Gp,Gq,Gr,Gs,Gt,Gu,Gv,Gw,Gx,Gy,Gz,GA,GB,GC,GD,GE,GF,GG,GH,GI,GJ,GK,GL,GM,GN,GO,GP,GQ,GR,GS,GT, undef, undef, undef, undef, undef, undef, undef, undef, undef, undef, undef, undef, undef, undef, undef, undef, undef, undef, undef, undef, undef, undef, undef, undef, undef, undef, undef, undef, undef, undef, undef, undef, undef, undef, undef, undef, undef, undef, undef, undef, undef, undef, undef, undef, undef, undef, undef, undef, undef, undef, undef, undef, undef, undef, undef, undef, undef, undef, undef, undef, undef, undef, undef, undef, undef, undef, undef, undef, undef, undef, undef, undef, undef, undef, undef, undef, undef, undef, undef, undef, undef, undef, undef, undef, undef, undef, undef, undef, undef, undef, undef, undef, undef, undef, undef, undef, undef, undef, undef, undef, undef, undef, undef, undef, undef, undef, undef, undef, undef, undef, undef, undef, undef, undef, undef, undef, undef, undef, undef, undef, undef, undef, undef, undef] []) wc := by
  conv => arg 2; whnf
  (try conv => arg 4; dsimp only)
  go_upto_if 647 with (fail)
  go_cut [] from 100000 (fun wc => ∃ (kq : Nat), Aside0 (lw_.j9 kq t669 t672 t673 t674 t678 t679 t684 t685 t686 = some r) ∧ Aside0 (kq ≤ kj162) ∧ Aside0 (Kd.V (Kd.int .i64) 3 wc w.heap.size (fun k_ => some k_ ≠ (v687 : Value).ownBlock) (.slice Ao171 t669.length co171) t669) ∧ Aside0 (Kd.R k37 37 wc w.heap.size (fun _ => True) v687 t685) ∧ Aside0 (Below w.heap.size w wc))
  case first =>
   (try conv => arg 2; dsimp only [List.append_eq, List.cons_append, List.nil_append])
   have H := HC196.out
   clear HC196
   by_cases c197 : t661 = true
   rotate_left
   ·replace c197 := Bool.eq_false_iff.mpr c197
    subst c197
    rw [if_neg ft_] at H
    have H' := Aside0.mk H
    clear H
    go_wp2
    go_meet
    case rel => exact ⟨_, H', ⟨by have := HJ17.out; have := HJ62.out; have := HJ162.out; first | omega | exact Nat.le_refl _⟩, ⟨by (with_reducible repeat (first | apply Kd.V_alloc | apply Kd.V_drewN | apply Kd.V_drew)); exact Kd.V_mono HO_62.out (fun _ hk => hk.2)⟩, ⟨by (with_reducible repeat (first | apply Kd.R_alloc | apply Kd.R_drewN | apply Kd.R_drew)); exact Kd.R_mono HO_76.out (fun _ hk => trivial)⟩, ⟨below_to HB⟩⟩
   subst c197
   rw [if_pos rfl] at H
   replace H := Option.bind_eq_some_iff.mp H
   obtain ⟨⟨t694, t695⟩, A1980, H⟩ := H
   (try dsimp only at H)
   have A198 := Aside0.mk A1980
   clear A1980
   have HC199 := Aside0.mk H
   clear H
   go_upto_region 59 with (first | ((with_reducible refine gate_callee (f := 9) rfl ?_); refine goesL_ (some 650) rfl rfl Tryz.func9 (by kernel_rfl) rfl #[.slice Ao165 t654.length co165] rfl am_ ?_; (with_reducible refine (impl_LongOfLegs.calls kj162 _ _ t654 t694 t695 _ ?side1 ?side2 A198.out).mono ?_); (case side1 => exact cR_ HO_49); (case side2 => exact (Kd.R_reads' HO_49.out).2.1); rintro e w200 ⟨rfl, hb⟩; refine ⟨_, rfl, ?_⟩; replace HO_49 := Aside0.mk (Kd.R_below (kd_to HO_49) hb); replace HO_62 := Aside0.mk (Kd.V_below (vd_to HO_62) hb); replace HO_76 := Aside0.mk (Kd.R_below (kd_to HO_76) hb); replace HB := Aside0.mk (below_step (below_to HB) hb); (try clear hb)))
   (try simp only [Act.put, List.setIfInBounds_toArray, List.set_cons_zero, List.set_cons_succ])
   go_cut [681] from 100000 (fun v681 wc => ∃ (kq : Nat) (x681_198 : Bool), v681 = .bool x681_198 ∧ Aside0 (lw_.j7 kq t654 t659 t660 t665 t669 t672 t673 t674 t678 t679 t684 t685 t686 x681_198 = some r) ∧ Aside0 (kq ≤ kj162) ∧ Aside0 (Kd.R k37 37 wc w.heap.size (fun k_ => some k_ ≠ (v687 : Value).ownBlock) (.slice Ao165 t654.length co165) t654) ∧ Aside0 (Kd.V (Kd.int .i64) 3 wc w.heap.size (fun k_ => some k_ ≠ ((.slice Ao165 t654.length co165) : Value).ownBlock ∧ some k_ ≠ (v687 : Value).ownBlock) (.slice Ao171 t669.length co171) t669) ∧ Aside0 (Kd.R k37 37 wc w.heap.size (fun k_ => some k_ ≠ ((.slice Ao165 t654.length co165) : Value).ownBlock) v687 t685) ∧ Aside0 (Below w.heap.size w wc))
   case first =>
    (try conv => arg 2; dsimp only [List.append_eq, List.cons_append, List.nil_append])
    have H := HC199.out
    clear HC199
    by_cases c201 : t695 = true
    rotate_left
    ·replace c201 := Bool.eq_false_iff.mpr c201
     subst c201
     rw [if_neg ft_] at H
     exact absurd H (by rw [HR_.out]; cases kj162 <;> simp [lw_.j7])
    subst c201
    rw [if_pos rfl] at H
    replace H := Option.bind_eq_some_iff.mp H
    obtain ⟨t696, A2020, H⟩ := H
    (try dsimp only at H)
    have A202 := Aside0.mk A2020
    clear A2020
    by_cases c203 : t696 = true
    rotate_left
    ·replace c203 := Bool.eq_false_iff.mpr c203
     subst c203
     rw [if_neg ft_] at H
     exact absurd H (by rw [HR_.out]; cases kj162 <;> simp [lw_.j7])
    subst c203
    rw [if_pos rfl] at H
    by_cases c204 : t659 < 0
    ·rw [if_pos c204] at H
     have c204b0 := decide_eq_true c204
     clear c204
     (first | rw [c204b0] | (simp only [i64_w, i32_w]; rw [c204b0]) | skip)
     exact absurd H (by rw [HR_.out]; cases kj162 <;> simp [lw_.j7])
    rw [if_neg c204] at H
    have c204b0 := decide_eq_false c204
    clear c204
    (first | rw [c204b0] | (simp only [i64_w, i32_w]; rw [c204b0]) | skip)
    by_cases c205 : t659 > (wrap64 (t694 * t660))
    ·rw [if_pos c205] at H
     have c205b0 := decide_eq_true c205
     clear c205
     exact absurd H (by rw [HR_.out]; cases kj162 <;> simp [lw_.j7])
    ·rw [if_neg c205] at H
     have c205b0 := decide_eq_false c205
     clear c205
     by_cases c206 : t665 < 0
     ·rw [if_pos c206] at H
      have c206b0 := decide_eq_true c206
      clear c206
      exact absurd H (by rw [HR_.out]; cases kj162 <;> simp [lw_.j7])
     ·rw [if_neg c206] at H
      have c206b0 := decide_eq_false c206
      clear c206
      have H' := Aside0.mk H
      clear H
      go_wp2_with (first | (go_at_call 20; (with_reducible refine (laws_yLow.calls kj162 t659 t660 true _ A202.out).mono ?_); rintro e w' ⟨rfl, ⟨nd, rfl⟩⟩))
      go_meet
      case rel => exact ⟨_, (decide (t665 ≥ (t654.length : Int))), rt_, H', ⟨by have := HJ17.out; have := HJ62.out; have := HJ162.out; first | omega | exact Nat.le_refl _⟩, ⟨kd_to HO_49⟩, ⟨vd_to HO_62⟩, ⟨kd_to HO_76⟩, ⟨below_to HB⟩⟩
   clear HC199
   (try clear c197); (try clear c201); (try clear c203); (try clear c204); (try clear c204b0); (try clear c205); (try clear c205b0); (try clear c206); (try clear c206b0)
   obtain ⟨kq, x681_198, rfl, HA, HJ198, HO_49, HO_62, HO_76, HB⟩ := hcut
   cases kq with
   | zero => exact absurd HA.out (by simp [lw_.j7])
   | succ kj198 =>
    have H := HA.out
    clear HA
    simp only [lw_.j7] at H
    by_cases c207 : x681_198 = true
    ·subst c207
     rw [if_pos rfl] at H
     exact nof_ HR_ H
    replace c207 := Bool.eq_false_iff.mpr c207
    subst c207
    rw [if_neg ft_] at H
    have H' := Aside0.mk H
    clear H
    go_wp2
    go_loopg [82, 83] kj198 (fun kq v82 v83 w' => ∃ (x82_5 : Int) (x83_5 : Int), v82 = .int .i64 x82_5 ∧ v83 = .int .i64 x83_5 ∧ Aside0 (lw_.l1 kq t654 t659 t660 t665 t669 t672 t673 t674 t678 t679 t684 t685 t686 x82_5 x83_5 = some r) ∧ Aside0 (kq ≤ kj198) ∧ Aside0 (Kd.R k37 37 w' w.heap.size (fun k_ => some k_ ≠ (v687 : Value).ownBlock) (.slice Ao165 t654.length co165) t654) ∧ Aside0 (Kd.V (Kd.int .i64) 3 w' w.heap.size (fun k_ => some k_ ≠ ((.slice Ao165 t654.length co165) : Value).ownBlock ∧ some k_ ≠ (v687 : Value).ownBlock) (.slice Ao171 t669.length co171) t669) ∧ Aside0 (Kd.R k37 37 w' w.heap.size (fun k_ => some k_ ≠ ((.slice Ao165 t654.length co165) : Value).ownBlock) v687 t685) ∧ Aside0 (Below w.heap.size w w'))
    case atStart => exact ⟨(0), (0), rt_, rt_, H', ⟨Nat.le_refl _⟩, ⟨kd_to HO_49⟩, ⟨vd_to HO_62⟩, ⟨kd_to HO_76⟩, ⟨below_to HB⟩⟩
    clear H'
    (try clear c197); (try clear c201); (try clear c203); (try clear c204); (try clear c204b0); (try clear c205); (try clear c205b0); (try clear c206); (try clear c206b0); (try clear c207)
    obtain ⟨x82_5, x83_5, rfl, rfl, HA, HK5, HO_49, HO_62, HO_76, HB⟩ := hrel
    cases gk with
    | zero => exact absurd HA.out (by simp [lw_.l1])
    | succ k5 =>
     have H := HA.out
     clear HA
     simp only [lw_.l1] at H
     by_cases c208 : x83_5 < t665
     ·rw [if_pos c208] at H
      have c208b0 := decide_eq_true c208
      clear c208
      by_cases c209 : 0 ≤ x83_5
      ·rw [if_pos c209] at H
       have c209b0 := decide_eq_true c209
       clear c209
       by_cases c210 : x83_5 < (t654.length : Int)
       ·rw [if_pos c210] at H
        have c210b0 := decide_eq_true c210
        clear c210
        have H' := Aside0.mk H
        clear H
        have p697 : 0 ≤ (x83_5 : Int) := odt_
        have q697 : x83_5 < (t654.length : Int) := odt_
        obtain ⟨ad697, e697, hx697_0, hx697_1⟩ := at_T37 (Kd.R_reads' HO_49.out).2.2 x83_5 p697 q697
        cases e697
        replace p697 := eq_true p697
        replace q697 := eq_true q697
        go_wp2
        go_roundg k5
        case measure => have := HJ17.out; have := HJ62.out; have := HJ162.out; have := HJ198.out; have := HK5.out; omega
        case rel => exact ⟨(wrap64 (x82_5 + ((rd_T37 t654 x83_5).f0))), (wrap64 (x83_5 + 1)), rt_, rt_, H', ⟨by have := HJ17.out; have := HJ62.out; have := HJ162.out; have := HJ198.out; have := HK5.out; omega⟩, ⟨kd_to HO_49⟩, ⟨vd_to HO_62⟩, ⟨kd_to HO_76⟩, ⟨below_to HB⟩⟩
       ·rw [if_neg c210] at H
        cases H
      ·rw [if_neg c209] at H
       cases H
     rw [if_neg c208] at H
     have c208b0 := decide_eq_false c208
     clear c208
     by_cases c211 : t659 < (wrap64 (x82_5 * t660))
     ·rw [if_pos c211] at H
      have c211b0 := decide_eq_true c211
      clear c211
      exact nof_ HR_ H
     rw [if_neg c211] at H
     have c211b0 := decide_eq_false c211
     clear c211
     by_cases c212 : 0 ≤ t665
     rotate_left
     ·rw [if_neg c212] at H
      cases H
     rw [if_pos c212] at H
     have c212b0 := decide_eq_true c212
     clear c212
     by_cases c213 : t665 < (t654.length : Int)
     ·rw [if_pos c213] at H
      have c213b0 := decide_eq_true c213
      clear c213
      by_cases c214 : t659 > (wrap64 ((wrap64 (x82_5 + ((rd_T37 t654 t665).f0))) * t660))
      ·rw [if_pos c214] at H
       have c214b0 := decide_eq_true c214
       clear c214
       exact nof_ HR_ H
      ·rw [if_neg c214] at H
       have c214b0 := decide_eq_false c214
       clear c214
       have H' := Aside0.mk H
       clear H
       have p698 : 0 ≤ (t665 : Int) := odt_
       have q698 : t665 < (t654.length : Int) := odt_
       obtain ⟨ad698, e698, hx698_0, hx698_1⟩ := at_T37 (Kd.R_reads' HO_49.out).2.2 t665 p698 q698
       cases e698
       replace p698 := eq_true p698
       replace q698 := eq_true q698
       go_wp2
       go_meet
       case rel => exact ⟨_, H', ⟨by have := HJ17.out; have := HJ62.out; have := HJ162.out; have := HJ198.out; have := HK5.out; first | omega | exact Nat.le_refl _⟩, ⟨by (with_reducible repeat (first | apply Kd.V_alloc | apply Kd.V_drewN | apply Kd.V_drew)); exact Kd.V_mono HO_62.out (fun _ hk => hk.2)⟩, ⟨by (with_reducible repeat (first | apply Kd.R_alloc | apply Kd.R_drewN | apply Kd.R_drew)); exact Kd.R_mono HO_76.out (fun _ hk => trivial)⟩, ⟨below_to HB⟩⟩
     ·rw [if_neg c213] at H
      cases H
  clear HC196
  (try clear c197); (try clear c201); (try clear c203); (try clear c204); (try clear c204b0); (try clear c205); (try clear c205b0); (try clear c206); (try clear c206b0); (try clear c207); (try clear c208); (try clear c208b0); (try clear c209); (try clear c209b0); (try clear c210); (try clear c210b0); (try clear c211); (try clear c211b0); (try clear c212); (try clear c212b0); (try clear c213); (try clear c213b0); (try clear c214); (try clear c214b0); (try clear hx697_0); (try clear hx697_1); (try clear hx698_0); (try clear hx698_1); (try clear p697); (try clear p698); (try clear q697); (try clear q698)
  obtain ⟨kq, HA, HJ195, HO_62, HO_76, HB⟩ := hcut
  go_step
  exact lw_.seg4 k r w HTab_ HR_ hu37 kj17 HJ17 kj62 HJ62 t669 t672 t673 t674 t678 t679 t684 t685 t686 Ao171 co171 nd v687 kj162 HJ162 wc u4 kq HA HJ195 HO_62 HO_76 HB
end Go.Proofs.YtbhnpccbjgbcbaaGreatDoor.QD
