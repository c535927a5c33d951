import Derived.Test.YthdnodmidbcgpaaGreatDoorQRx19s4
namespace Go.Proofs.YthdnodmidbcgpaaGreatDoor.QR
open Go.Proofs.YthdnodmidbcgpaaGreatDoor.X Go.RowKit Go.Proofs.YthdnodmidbcgpaaGreatDoorW.PrintWords Go.Proofs.YthdnodmidbcgpaaGreatDoorW.PrintLast Go.Proofs.YthdnodmidbcgpaaGreatDoorW.PrintMore
attribute [local go_sem] max2_int min2_int max_two min_two max_three min_three max_four min_four
set_option linter.unusedVariables false
set_option linter.unusedSimpArgs false
variable {Ab Ac Aa CU DU CV CW CX Ad Ae Af CY Ag Ah Ai DV DW Aj Ak Al Am CZ C0 C1 C2 DX DY DZ D0 D1 D2 D3 D4 An Ao Ap Aq Ar As Au Av Aw Ax Ay Az AA AB AC AD AE AF AG AH AJ AK AL AM AN AO AP AQ AR AU AV AW AX AY AZ Ba Bb Bc Bd Be Bf Bg Bh Bi Bj Bk Bl Bm Bn Bo Bp Bq Br Bs Bt Bu Bv Bw Bx Bz BA BB BC BD BE BF BG BH BI BJ BK BL BM BN BO BP BQ BR BS BT BU BV BW BX BZ B0 B2 B4 B5 B6 B9 Ca Cb Cc Cd Ce Cf Cg Ch Ci Cj Ck Cl Cm Cn Co Cp Cq Cr Cs Ct Cu Cv Cw Cx Cy Cz CA CB CC CD CE CF CG CH CI CJ CK CL CM CN CO CP CQ CR CS CT C3 C4 C5 C6 C7 C8 C9 Da Db Dc Dd De Df Dg Dh Di Dj Dk Dl Dm Dn Dp Dq Dr Ds Dt Du Dv Dw Dx Dy Dz DA DB DC DD DE DF DG DH DI DJ DK DL DM DN DO DP DQ DR DS DT D5 D6 D7 D8 D9 Ea Eb Ec Ed Ee Ef Eg Eh Ei Ej Ek El Em En Eo Ep Er Es Et Eu Ew Ex Ey Ez EA EB EC ED EE EF EG EH EI EJ EK EL EM EN EO EP EQ ER ES ET EU EV EW EX EY EZ E0 E1 E2 E3 E4 E5 E6 E7 E8 E9 Fa:Value}
set_option maxHeartbeats 16000000 in
set_option maxRecDepth 1000000 in
theorem lw_.seg3 (k:Nat) (A1:Option Addr) (c1:Nat) (l1:List Int) (r:Bool) (w:World) (HTab_:Aside0 (YthdnodmidbcgpaaGreatDoor.XText.T2 w)) (HR_:Aside0 (r=Bool.true)) (hu26:Program.underlying Tryz.prog (26:Nat)=Option.some (TypeDesc.struct #[Field.mk "First" (3:Nat) (0:Nat) Bool.false "" "" (0:Nat),Field.mk "Every" (3:Nat) (1:Nat) Bool.false "" "" (8:Nat),Field.mk "Count" (3:Nat) (2:Nat) Bool.false "" "" (16:Nat),Field.mk "Stops" (24:Nat) (3:Nat) Bool.false "" "" (24:Nat)])) (HR1:Aside0 (Kd.C (Kd.int IntKind.u8) w A1 (List.length l1) l1)) (HC1:Aside0 (List.length l1≤c1)) (jh jf jg:Int) (jc:List Int) (jm:ByteArray) (jn:Bool) (nd ji:Nat) (w16:World) (j1e je:Aside0 (Array.size (World.heap w)≤ji)) (Ao18:Option Addr) (co18:Nat) (w19:World) (w21:World) (w23:World) (w25:World) (w27:World) (w29:World) (w31:World) (kj13:Nat) (HJ13:Aside0 (kj13+(1:Nat)≤k)) (kj71:Nat) (HJ71:Aside0 (kj71+(1:Nat)≤kj13)) (wc:World) (u4:Value) (kq:Nat) (HA:Aside0 (lw_.j5 kq l1 jm jn jh jf jg jc=Option.some r)) (HJ89:Aside0 (kq≤kj71)) (ja:Aside0 (Kd.R (Kd.int IntKind.i64) (3:Nat) wc (Array.size (World.heap w)) (fun x=>True) (Value.slice Ao18 (List.length jc) co18) jc)) (jb:Aside0 ((World.heap wc)[ji]?=Option.some (Obj.cells #[Value.int IntKind.i64 jh,Value.int IntKind.i64 jf,Value.int IntKind.i64 jg,Value.slice Ao18 (List.length jc) co18] (26:TypeId)))) (HB:Aside0 (Below (Array.size (World.heap w)) w wc)) :
    Go.Code.wp Tryz.prog (lw_.behind 288 lw_.body) (bodyPost Tryz.prog Tryz.f3 (fun e w'=>e=.returned (.bool r)∧Below w.heap.size w w')) (Go.Act.mk #[Ab,Value.slice A1 (List.length l1) c1,Ac,Aa,u4,Value.pointer (Option.some (Addr.mk ji (0:Nat) Option.none)),CU,DU,CV,CW,CX,Ad,Ae,Af,CY,Ag,Ah,Ai,DV,DW,Aj,Ak,Value.string jm,Value.bool jn,Al,Am,CZ,C0,C1,C2,DX,DY,DZ,D0,D1,D2,D3,D4,undef,undef,undef,undef,undef,undef,undef,undef,undef,undef,undef,undef,undef,undef,undef,undef,undef,undef,undef,undef,undef,undef,undef,undef,undef,undef,undef,undef,undef,undef,undef,undef,undef,undef,undef,undef,undef,undef,undef,undef,undef,undef,undef,undef,undef,undef,undef,undef,undef,undef,undef,undef,undef,undef,undef,undef,undef,undef,undef,undef,undef,An,Ao,Ap,Aq,Ar,As,Au,Av,Aw,Ax,Ay,Az,AA,AB,AC,AD,AE,AF,AG,AH,AJ,AK,AL,AM,AN,AO,AP,AQ,AR,AU,AV,AW,AX,AY,AZ,Ba,Bb,Bc,Bd,Be,Bf,Bg,Bh,Bi,Bj,Bk,Bl,Bm,Bn,Bo,Bp,Bq,Br,Bs,Bt,Bu,Bv,Bw,Bx,Bz,BA,BB,BC,BD,BE,BF,BG,BH,BI,BJ,BK,BL,BM,BN,BO,BP,BQ,BR,BS,BT,BU,BV,BW,BX,BZ,B0,B2,B4,B5,B6,B9,Ca,Cb,Cc,Cd,Ce,Cf,Cg,Ch,Ci,Cj,Ck,Cl,Cm,Cn,Co,Cp,Cq,Cr,Cs,Ct,Cu,Cv,Cw,Cx,Cy,Cz,CA,CB,CC,CD,CE,CF,CG,CH,CI,CJ,CK,CL,CM,CN,CO,CP,CQ,CR,CS,CT,C3,C4,C5,C6,C7,C8,C9,Da,Db,Dc,Dd,De,Df,Dg,Dh,Di,Dj,Dk,Dl,Dm,Dn,Dp,Dq,Dr,Ds,Dt,Du,Dv,Dw,Dx,Dy,Dz,DA,DB,DC,DD,DE,DF,DG,DH,DI,DJ,DK,DL,DM,DN,DO,DP,DQ,DR,DS,DT,D5,D6,D7,D8,D9,Ea,Eb,Ec,Ed,Ee,Ef,Eg,Eh,Ei,Ej,Ek,El,Em,En,Eo,Ep,Er,Es,Et,Eu,Ew,Ex,Ey,Ez,EA,EB,EC,ED,EE,EF,EG,EH,EI,EJ,EK,EL,EM,EN,EO,EP,EQ,ER,ES,ET,EU,EV,EW,EX,EY,EZ,E0,E1,E2,E3,E4,E5,E6,E7,E8,E9,Fa,undef,undef,undef,undef,undef,undef,undef,undef,undef,undef,undef,undef,undef,undef,undef,undef,undef,undef,undef,undef,undef,undef,undef,undef,undef,undef,undef,undef,undef,undef,undef,undef,undef,undef,undef,undef,undef,undef,undef,undef,undef,undef,undef,undef,undef,undef,undef,undef,undef,undef,undef,undef,undef,undef,undef,undef,undef,undef,undef,undef,undef,undef,undef,undef,undef,undef,undef,undef,undef,undef,undef,undef,undef,undef,undef,undef,undef,undef,undef,undef,undef,undef,undef,undef,undef,undef,undef,undef,undef,undef,undef,undef,undef,undef,undef,undef,undef,undef,undef,undef,undef,undef,undef,undef,undef,undef,undef,undef,undef,undef,undef,undef,undef,undef,undef,undef,undef,undef,undef,undef,undef,undef,undef,undef,undef,undef,undef,undef,undef,undef,undef,undef,undef,undef,undef,undef,undef,undef,undef,undef,undef,undef,undef,undef,undef,undef,undef,undef,undef,undef,undef,undef,undef,undef,undef,undef,undef,undef,undef,undef,undef,undef,undef,undef,undef,undef,undef,undef,undef,undef,undef,undef,undef,undef,undef,undef,undef,undef,undef,undef,undef,undef,undef,undef,undef,undef,undef,undef,undef,undef,undef,undef,undef,undef,undef,undef,undef,undef,undef,undef,undef,undef,undef,undef,undef,undef,undef,undef,undef,undef,undef,undef,undef,undef,undef,undef,undef,undef,undef,undef,undef,undef,undef,undef,undef,undef,undef,undef,undef,undef,undef,undef,undef,undef,undef,undef,undef,undef,undef,undef,undef,undef,undef,undef,undef,undef,undef,undef,undef,undef,undef,undef,undef,undef,undef,undef,undef,undef,undef,undef,undef,undef,undef,undef,undef,undef,undef,undef,undef,undef,undef,undef,undef,undef,undef,undef,undef,undef,undef,undef,undef,undef,undef,undef,undef,undef,undef,undef,undef,undef,undef,undef,undef,undef,undef,undef,undef,undef,undef,undef,undef,undef,undef,undef,undef,undef,undef,undef,undef,undef,undef,undef,undef,undef,undef,undef,undef,undef,undef,undef,undef,undef,undef,undef,undef,undef,undef,undef,undef,undef,undef,undef,undef,undef,undef,undef,undef,undef,undef,undef,undef,undef,undef,undef,undef,undef] []) wc:=by
  conv=>arg 2;whnf
  (try conv=>arg 4;dsimp only)
  cases kq with
  | zero=>exact absurd HA.out (by simp [lw_.j5])
  | succ kj89 =>
   have H:=HA.out
   clear HA
   simp only [lw_.j5] at H
   have HC119:=ai_ H
   clear H
   go_upto_region 39 with (fail)
   go_cut [359] from 100000 (fun j5r wc => ∃ (kq:Nat) (jp:Bool),j5r=.bool jp∧Aside0 (lw_.j6 kq l1 jm jp jh jf jg jc=some r)∧Aside0 (kq≤kj89)∧Aside0 (Kd.R Ki_ 3 wc w.heap.size (fun _=>True) (.slice Ao18 jc.length co18) jc)∧Aside0 (wc.heap[ji]?=some (.cells #[.int .i64 jh,.int .i64 jf,.int .i64 jg,(.slice Ao18 jc.length co18)] 26 (0,0)))∧Aside0 (Below w.heap.size w wc))
   case first =>
    (try conv=>arg 2;dsimp only [List.append_eq,List.cons_append,List.nil_append])
    have H:=HC119.out
    clear HC119
    by_cases c120:jn=true
    ·subst c120
     rw [if_pos rfl] at H
     have H':=ai_ H
     clear H
     go_wp2
     go_meet
     case rel=>exact ⟨_,(decide ((jm.size:Int)≤80)),rt_,H',⟨by have:=HJ13.out;have:=HJ71.out;have:=HJ89.out;first|omega|exact Nat.le_refl _⟩,⟨kd_to ja⟩,⟨blk_to jb⟩,⟨below_to1 HB je.out⟩⟩
    ·replace c120:=Bool.eq_false_iff.mpr c120
     subst c120
     rw [if_neg ft_] at H
     have H':=ai_ H
     clear H
     go_wp2
     go_meet
     case rel=>exact ⟨_,(false),rt_,H',⟨by have:=HJ13.out;have:=HJ71.out;have:=HJ89.out;first|omega|exact Nat.le_refl _⟩,⟨kd_to ja⟩,⟨blk_to jb⟩,⟨below_to1 HB je.out⟩⟩
   clear HC119
   (try clear c1);(try clear c120)
   obtain ⟨kq,jp,rfl,HA,HJ118,ja,jb,HB⟩:=hcut
   cases kq with
   | zero=>exact absurd HA.out (by simp [lw_.j6])
   | succ kj118 =>
    have H:=HA.out
    clear HA
    simp only [lw_.j6] at H
    have HC121:=ai_ H
    clear H
    go_upto_if 359 with (fail)
    go_cut [] from 100000 (fun wc => ∃ (kq:Nat),Aside0 (lw_.j7 kq l1=some r)∧Aside0 (kq≤kj118)∧Aside0 (Kd.R Ki_ 3 wc w.heap.size (fun _=>True) (.slice Ao18 jc.length co18) jc)∧Aside0 (wc.heap[ji]?=some (.cells #[.int .i64 jh,.int .i64 jf,.int .i64 jg,(.slice Ao18 jc.length co18)] 26 (0,0)))∧Aside0 (Below w.heap.size w wc))
    case first =>
     (try conv=>arg 2;dsimp only [List.append_eq,List.cons_append,List.nil_append])
     have H:=HC121.out
     clear HC121
     by_cases c122:jp=true
     rotate_left
     ·replace c122:=Bool.eq_false_iff.mpr c122
      subst c122
      rw [if_neg ft_] at H
      have H':=ai_ H
      clear H
      go_wp2
      go_meet
      case rel=>exact ⟨_,H',⟨by have:=HJ13.out;have:=HJ71.out;have:=HJ89.out;have:=HJ118.out;first|omega|exact Nat.le_refl _⟩,⟨kd_to ja⟩,⟨blk_to jb⟩,⟨below_to1 HB je.out⟩⟩
     subst c122
     rw [if_pos rfl] at H
     obtain ⟨⟨j5e,j5f,j5g,j2f,j5s⟩,A123,H⟩:=bs_ H
     (try dsimp only at H)
     by_cases c124:j5s=true
     ·subst c124
      rw [if_pos rfl] at H
      obtain ⟨j5t,A125,H⟩:=bs_ H
      (try dsimp only at H)
      by_cases c126:j5t=true
      ·subst c126
       rw [if_pos rfl] at H
       have H':=ai_ H
       clear H
       go_wp2_with (first|((with_reducible refine gate_callee (f:=21) rfl ?_);refine gl_ (some 362) Tryz.func21 #[.string jm] ?_;(with_reducible refine (impl_ParseLine.calls kj118 jm j5e j5f j5g j2f true _ A123.out ?sidet).mono ?_);(case sidet=>refine Go.Proofs.YthdnodmidbcgpaaGreatDoor.XText.T2.on (w:=w) HTab_.out ?_;repeat (first|(with_reducible first|exact HB.out|exact Below.refl _ _|apply below_alloc|apply pw_below_drewN|apply below_drew1|refine below_set ?_ je.out|refine below_set ?_ j2g.out|refine below_set ?_ j6b.out|refine below_set ?_ j6c.out|refine below_set ?_ j6d.out|refine below_set ?_ j6e.out|refine below_set ?_ j6f.out|refine below_set ?_ j6g.out)|exact HB.out|exact Below.refl _ _));rintro e j6j ⟨j6k,rfl,ho0,hb⟩;refine ⟨_,rfl,?_⟩;have jx:=ai_ (Kd.R_lower (Kd.R_new' ho0 (Kd.R_lt (kd_to ja))) (below_size (below_to1 HB je.out)));replace ja:=ai_ (Kd.R_elder' (kd_to ja) (Kd.R_base ho0) hb);replace jb:=bb_ jb hb;replace HB:=ai_ (below_step (below_to1 HB je.out) hb);(try clear hb);(try clear ho0))|((with_reducible refine gate_dst (N:=38) rfl ?_);(try (refine gate_guard (by rfl) ?_;dsimp only));refine bxe_ #[.int .i64 0,.int .i64 0,.int .i64 0,.slice none 0 0] 26 ?_;intro j5m hg j6l hbox hb;replace ja:=rb_ ja hb;replace jx:=rb_ jx hb;have jy:=ai_ (hbox);have j6h:=ai_ (gb_ hg (below_size (below_to1 HB je.out)));have j2g:=ai_ (gb_ hg (below_size (below_to1 HB je.out)));replace HB:=ai_ (below_step (below_to1 HB je.out) hb);have jr:=ai_ (ne_ hg (blk_lt (blk_to jb)));replace jb:=bb_ jb hb;have j2e:=ai_ jr.out.symm;clear hb hbox hg;have j5u:=j2e.out;have j5v:=jr.out;obtain ⟨j2h,j2i,j2j,j2k,j2l,j2m,j2n,j2o⟩:=blk4_ jy;obtain ⟨Ao131,co131,eo131⟩:=Kd.R_slice jx.out;subst eo131;obtain ⟨j2p,j2q,j2r,j2s,j2t,j2u,j2v,j2w⟩:=blk4_ jb)|(go_at_call 22;(with_reducible refine (laws_qLine.calls kj118 j5e j5f j5g _ _ j2f jh jf jg _ _ jc true _ ?side1 ?side2 ?side3 ?side4 A125.out).mono ?_);(case side1=>refine (Kd.R_reads' (e:=3) (base:=w.heap.size) (ok:=fun k_=>(True∧some k_≠(.slice Ao18 jc.length co18:Value).ownBlock)) (n:=j2f.length) (c:=co131) ?_).2.2;exact (rtf_ jx jy));(case side2=>exact (Kd.R_reads' jx.out).2.1);(case side3=>refine (Kd.R_reads' (e:=3) (base:=w.heap.size) (ok:=fun k_=>(True∧some k_≠(.slice Ao131 j2f.length co131:Value).ownBlock)) (n:=jc.length) (c:=co18) ?_).2.2;exact (rtf_ ja jy));(case side4=>exact (Kd.R_reads' ja.out).2.1);rintro e j6m ⟨rfl,hb⟩;replace ja:=ai_ (Kd.R_below (rtf_ ja jy) hb);replace jx:=ai_ (Kd.R_below (rtf_ jx jy) hb);replace jb:=ai_ (blk_below (blk_f1 jb jr) hb);replace jy:=ai_ (blk_below (g:=j5m) (o:=.cells #[.int .i64 j5e,.int .i64 j5f,.int .i64 j5g,.slice Ao131 j2f.length co131] 26 (0,0)) (bput4 jy) hb);replace HB:=ai_ (below_step (below_to2 HB je.out j2g.out) hb);(try clear hb)))
       go_meet
       case rel=>exact ⟨_,H',⟨by have:=HJ13.out;have:=HJ71.out;have:=HJ89.out;have:=HJ118.out;first|omega|exact Nat.le_refl _⟩,⟨by (with_reducible repeat (first|apply Kd.R_alloc|apply Kd.R_drewN|apply Kd.R_drew));exact Kd.R_mono ja.out (fun _ hk=>trivial)⟩,⟨blk_to jb⟩,⟨below_to2 HB je.out j2g.out⟩⟩
      ·replace c126:=Bool.eq_false_iff.mpr c126
       subst c126
       rw [if_neg ft_] at H
       exact nof_ HR_ H
     ·replace c124:=Bool.eq_false_iff.mpr c124
      subst c124
      rw [if_neg ft_] at H
      exact nof_ HR_ H
    clear HC121
    (try clear c1);(try clear c120);(try clear c122);(try clear c124);(try clear c126);(try clear j2h j2i j2j j2k);(try clear j2p j2q j2r j2s);(try clear j2l j2m j2n j2o);(try clear j2t j2u j2v j2w)
    obtain ⟨kq,HA,HJ120,ja,jb,HB⟩:=hcut
    go_step
    exact lw_.seg4 k A1 c1 l1 r w HTab_ HR_ hu26 HR1 HC1 jh jf jg jc nd ji w16 j1e je Ao18 co18 w19 w21 w23 w25 w27 w29 w31 kj13 HJ13 kj71 HJ71 kj89 HJ89 kj118 HJ118 wc u4 kq HA HJ120 ja jb HB
set_option maxHeartbeats 16000000 in
set_option maxRecDepth 1000000 in
theorem lw_.seg2 (k:Nat) (l0:List Int) (A1:Option Addr) (c1:Nat) (l1:List Int) (r:Bool) (w:World) (HTab_:Aside0 (YthdnodmidbcgpaaGreatDoor.XText.T2 w)) (HR_:Aside0 (r=Bool.true)) (hu26:Program.underlying Tryz.prog (26:Nat)=Option.some (TypeDesc.struct #[Field.mk "First" (3:Nat) (0:Nat) Bool.false "" "" (0:Nat),Field.mk "Every" (3:Nat) (1:Nat) Bool.false "" "" (8:Nat),Field.mk "Count" (3:Nat) (2:Nat) Bool.false "" "" (16:Nat),Field.mk "Stops" (24:Nat) (3:Nat) Bool.false "" "" (24:Nat)])) (HR1:Aside0 (Kd.C (Kd.int IntKind.u8) w A1 (List.length l1) l1)) (HC1:Aside0 (List.length l1≤c1)) (jh jf jg:Int) (jc:List Int) (jl:Int) (jk:List Int) (js:Bool) (jm:ByteArray) (jn:Bool) (nd ji:Nat) (w16:World) (j1e je:Aside0 (Array.size (World.heap w)≤ji)) (Ao18:Option Addr) (co18:Nat) (w19:World) (w21:World) (w23:World) (w25:World) (w27:World) (ju:Value) (w29:World) (w31:World) (kj13:Nat) (HJ13:Aside0 (kj13+(1:Nat)≤k)) (wc:World) (u4:Value) (kq:Nat) (HA:Aside0 (lw_.j2 kq l1 jl jk js jm jn jh jf jg jc=Option.some r)) (HJ71:Aside0 (kq≤kj13)) (jd:Aside0 (Kd.R (Kd.int IntKind.i64) (3:Nat) wc (Array.size (World.heap w)) (fun k_=>Option.some k_≠Value.ownBlock (Value.slice Ao18 (List.length jc) co18)) ju jk)) (ja:Aside0 (Kd.R (Kd.int IntKind.i64) (3:Nat) wc (Array.size (World.heap w)) (fun k_=>Option.some k_≠Value.ownBlock ju) (Value.slice Ao18 (List.length jc) co18) jc)) (jb:Aside0 ((World.heap wc)[ji]?=Option.some (Obj.cells #[Value.int IntKind.i64 jh,Value.int IntKind.i64 jf,Value.int IntKind.i64 jg,Value.slice Ao18 (List.length jc) co18] (26:TypeId)))) (HB:Aside0 (Below (Array.size (World.heap w)) w wc)) :
    Go.Code.wp Tryz.prog (lw_.behind 236 lw_.body) (bodyPost Tryz.prog Tryz.f3 (fun e w'=>e=.returned (.bool r)∧Below w.heap.size w w')) (Go.Act.mk #[Ab,Value.slice A1 (List.length l1) c1,Ac,Aa,u4,Value.pointer (Option.some (Addr.mk ji (0:Nat) Option.none)),CU,Value.int IntKind.i64 jl,CV,CW,CX,Ad,Ae,Af,CY,Ag,Ah,Ai,ju,Value.bool js,Aj,Ak,Value.string jm,Value.bool jn,Al,Am,CZ,C0,C1,C2,undef,undef,undef,undef,undef,undef,undef,undef,undef,undef,undef,undef,undef,undef,undef,undef,undef,undef,undef,undef,undef,undef,undef,undef,undef,undef,undef,undef,undef,undef,undef,undef,undef,undef,undef,undef,undef,undef,undef,undef,undef,undef,undef,undef,undef,undef,undef,undef,undef,undef,undef,undef,undef,undef,undef,undef,undef,undef,undef,undef,undef,undef,undef,undef,undef,undef,undef,undef,undef,An,Ao,Ap,Aq,Ar,As,Au,Av,Aw,Ax,Ay,Az,AA,AB,AC,AD,AE,AF,AG,AH,AJ,AK,AL,AM,AN,AO,AP,AQ,AR,AU,AV,AW,AX,AY,AZ,Ba,Bb,Bc,Bd,Be,Bf,Bg,Bh,Bi,Bj,Bk,Bl,Bm,Bn,Bo,Bp,Bq,Br,Bs,Bt,Bu,Bv,Bw,Bx,Bz,BA,BB,BC,BD,BE,BF,BG,BH,BI,BJ,BK,BL,BM,BN,BO,BP,BQ,BR,BS,BT,BU,BV,BW,BX,BZ,B0,B2,B4,B5,B6,B9,Ca,Cb,Cc,Cd,Ce,Cf,Cg,Ch,Ci,Cj,Ck,Cl,Cm,Cn,Co,Cp,Cq,Cr,Cs,Ct,Cu,Cv,Cw,Cx,Cy,Cz,CA,CB,CC,CD,CE,CF,CG,CH,CI,CJ,CK,CL,CM,CN,CO,CP,CQ,CR,CS,CT,C3,C4,C5,C6,C7,C8,C9,Da,Db,Dc,Dd,De,Df,Dg,Dh,Di,Dj,Dk,Dl,Dm,Dn,Dp,Dq,Dr,Ds,Dt,Du,Dv,Dw,Dx,Dy,Dz,DA,DB,DC,DD,DE,DF,DG,DH,DI,DJ,DK,DL,DM,DN,DO,DP,DQ,DR,DS,DT,undef,undef,undef,undef,undef,undef,undef,undef,undef,undef,undef,undef,undef,undef,undef,undef,undef,undef,undef,undef,undef,undef,undef,undef,undef,undef,undef,undef,undef,undef,undef,undef,undef,undef,undef,undef,undef,undef,undef,undef,undef,undef,undef,undef,undef,undef,undef,undef,undef,undef,undef,undef,undef,undef,undef,undef,undef,undef,undef,undef,undef,undef,undef,undef,undef,undef,undef,undef,undef,undef,undef,undef,undef,undef,undef,undef,undef,undef,undef,undef,undef,undef,undef,undef,undef,undef,undef,undef,undef,undef,undef,undef,undef,undef,undef,undef,undef,undef,undef,undef,undef,undef,undef,undef,undef,undef,undef,undef,undef,undef,undef,undef,undef,undef,undef,undef,undef,undef,undef,undef,undef,undef,undef,undef,undef,undef,undef,undef,undef,undef,undef,undef,undef,undef,undef,undef,undef,undef,undef,undef,undef,undef,undef,undef,undef,undef,undef,undef,undef,undef,undef,undef,undef,undef,undef,undef,undef,undef,undef,undef,undef,undef,undef,undef,undef,undef,undef,undef,undef,undef,undef,undef,undef,undef,undef,undef,undef,undef,undef,undef,undef,undef,undef,undef,undef,undef,undef,undef,undef,undef,undef,undef,undef,undef,undef,undef,undef,undef,undef,undef,undef,undef,undef,undef,undef,undef,undef,undef,undef,undef,undef,undef,undef,undef,undef,undef,undef,undef,undef,undef,undef,undef,undef,undef,undef,undef,undef,undef,undef,undef,undef,undef,undef,undef,undef,undef,undef,undef,undef,undef,undef,undef,undef,undef,undef,undef,undef,undef,undef,undef,undef,undef,undef,undef,undef,undef,undef,undef,undef,undef,undef,undef,undef,undef,undef,undef,undef,undef,undef,undef,undef,undef,undef,undef,undef,undef,undef,undef,undef,undef,undef,undef,undef,undef,undef,undef,undef,undef,undef,undef,undef,undef,undef,undef,undef,undef,undef,undef,undef,undef,undef,undef,undef,undef,undef,undef,undef,undef,undef,undef,undef,undef,undef,undef,undef,undef,undef,undef,undef,undef,undef,undef,undef,undef,undef,undef,undef,undef,undef,undef,undef,undef,undef,undef,undef,undef,undef,undef,undef,undef,undef,undef,undef,undef,undef,undef,undef,undef,undef,undef,undef,undef,undef,undef,undef,undef,undef,undef,undef,undef,undef,undef,undef,undef,undef,undef,undef,undef,undef,undef,undef,undef,undef,undef,undef,undef,undef,undef,undef,undef,undef,undef,undef,undef,undef,undef,undef,undef,undef,undef,undef,undef,undef,undef,undef,undef,undef,undef,undef,undef,undef,undef,undef,undef,undef,undef,undef,undef,undef,undef,undef,undef] []) wc:=by
  conv=>arg 2;whnf
  (try conv=>arg 4;dsimp only)
  cases kq with
  | zero=>exact absurd HA.out (by simp [lw_.j2])
  | succ kj71 =>
   have H:=HA.out
   clear HA
   simp only [lw_.j2] at H
   have HC90:=ai_ H
   clear H
   go_upto_if 288 with (fail)
   go_cut [] from 100000 (fun wc => ∃ (kq:Nat),Aside0 (lw_.j5 kq l1 jm jn jh jf jg jc=some r)∧Aside0 (kq≤kj71)∧Aside0 (Kd.R Ki_ 3 wc w.heap.size (fun _=>True) (.slice Ao18 jc.length co18) jc)∧Aside0 (wc.heap[ji]?=some (.cells #[.int .i64 jh,.int .i64 jf,.int .i64 jg,(.slice Ao18 jc.length co18)] 26 (0,0)))∧Aside0 (Below w.heap.size w wc))
   case first =>
    (try conv=>arg 2;dsimp only [List.append_eq,List.cons_append,List.nil_append])
    have H:=HC90.out
    clear HC90
    by_cases c91:js=true
    rotate_left
    ·replace c91:=Bool.eq_false_iff.mpr c91
     subst c91
     rw [if_neg ft_] at H
     have H':=ai_ H
     clear H
     go_wp2
     go_meet
     case rel=>exact ⟨_,H',⟨by have:=HJ13.out;have:=HJ71.out;first|omega|exact Nat.le_refl _⟩,⟨by (with_reducible repeat (first|apply Kd.R_alloc|apply Kd.R_drewN|apply Kd.R_drew));exact Kd.R_mono ja.out (fun _ hk=>trivial)⟩,⟨blk_to jb⟩,⟨below_to1 HB je.out⟩⟩
    subst c91
    rw [if_pos rfl] at H
    obtain ⟨j5w,A92,H⟩:=bs_ H
    (try dsimp only at H)
    by_cases c93:j5w=true
    rotate_left
    ·replace c93:=Bool.eq_false_iff.mpr c93
     subst c93
     rw [if_neg ft_] at H
     exact nof_ HR_ H
    subst c93
    rw [if_pos rfl] at H
    have H':=ai_ H
    clear H
    obtain ⟨Ao94,co94,eo94⟩:=Kd.R_slice jd.out
    subst eo94
    go_wp2_with (first|((with_reducible refine gate_callee (f:=18) rfl ?_);refine gl_ (some 290) Tryz.func18 #[.slice Ao94 jk.length co94] ?_;(with_reducible refine (laws_qRises.calls kj71 _ _ jk true _ ?side1 ?side2 A92.out).mono ?_);(case side1=>exact cR_ jd);(case side2=>exact (Kd.R_reads' jd.out).2.1);rintro e w' ⟨rfl,⟨nd,rfl⟩⟩;refine ⟨_,rfl,?_⟩))
    go_loopg [30] kj71 (fun kq v30 w' => ∃ (jj:Int),v30=.int .i64 jj∧Aside0 (lw_.l0 kq l1 jl jk jm jn jj jh jf jg jc=some r)∧Aside0 (kq≤kj71)∧Aside0 (Kd.R Ki_ 3 w' w.heap.size (fun k_=>some k_≠((.slice Ao18 jc.length co18):Value).ownBlock) (.slice Ao94 jk.length co94) jk)∧Aside0 (Kd.R Ki_ 3 w' w.heap.size (fun k_=>some k_≠((.slice Ao94 jk.length co94):Value).ownBlock) (.slice Ao18 jc.length co18) jc)∧Aside0 (w'.heap[ji]?=some (.cells #[.int .i64 jh,.int .i64 jf,.int .i64 jg,(.slice Ao18 jc.length co18)] 26 (0,0)))∧Aside0 (Below w.heap.size w w'))
    case atStart=>exact ⟨(0),rt_,H',⟨Nat.le_refl _⟩,⟨kd_to jd⟩,⟨kd_to ja⟩,⟨blk_to jb⟩,⟨below_to1 HB je.out⟩⟩
    clear H'
    (try clear c1);(try clear c91);(try clear c93)
    obtain ⟨jj,rfl,HA,HK3,jd,ja,jb,HB⟩:=hrel
    cases gk with
    | zero=>exact absurd HA.out (by simp [lw_.l0])
    | succ k3 =>
     have H:=HA.out
     clear HA
     simp only [lw_.l0] at H
     by_cases c95:jj < jg
     rotate_left
     ·rw [if_neg c95] at H
      have jz:=decide_eq_false c95
      clear c95
      (first|rw [jz]|(simp only [i64_w,i32_w];rw [jz])|skip)
      have H':=ai_ H
      clear H
      obtain ⟨j2x,j2y,j2z,j3a,j3b,j3c,j3d,j3e⟩:=blk4_ jb
      go_wp2
      go_meet
      case rel=>exact ⟨_,H',⟨by have:=HJ13.out;have:=HJ71.out;have:=HK3.out;first|omega|exact Nat.le_refl _⟩,⟨by (with_reducible repeat (first|apply Kd.R_alloc|apply Kd.R_drewN|apply Kd.R_drew));exact Kd.R_mono ja.out (fun _ hk=>trivial)⟩,⟨blk_to jb⟩,⟨below_to1 HB je.out⟩⟩
     rw [if_pos c95] at H
     have jz:=decide_eq_true c95
     clear c95
     (first|rw [jz]|(simp only [i64_w,i32_w];rw [jz])|skip)
     obtain ⟨⟨j1f,j5h,j1d⟩,A96,H⟩:=bs_ H
     (try dsimp only at H)
     obtain ⟨j1c,A97,H⟩:=bs_ H
     (try dsimp only at H)
     by_cases c98:(j1d != j1c)=true
     ·rw [if_pos c98] at H
      have j3f:(j1d != j1c)=true:=c98
      (try (have j3g:decide (j1d=j1c)=false:=by simpa using c98))
      (try (have j3h:(j1d == j1c)=false:=by simpa using c98))
      (try (have j6i:¬ (j1d=j1c):=by simpa using c98))
      clear c98
      exact nof_ HR_ H
     rw [if_neg c98] at H
     have j3f:(j1d != j1c)=false:=by simpa using c98
     (try (have j3g:decide (j1d=j1c)=true:=by simpa using c98))
     (try (have j3h:(j1d == j1c)=true:=by simpa using c98))
     clear c98
     by_cases c99:j1d=true
     rotate_left
     ·replace c99:=Bool.eq_false_iff.mpr c99
      subst c99
      rw [if_neg ft_] at H
      have H':=ai_ H
      clear H
      obtain ⟨j3i,j3j,j3k,j3l,j3m,j3n,j3o,j3p⟩:=blk4_ jb
      go_wp2_with (first|((with_reducible refine gate_callee (f:=19) rfl ?_);refine gl_ (some 302) Tryz.func19 #[.agg #[.int .i64 jh,.int .i64 jf,.int .i64 jg,.slice Ao18 jc.length co18],.int .i64 jj,.int .i64 jl] ?_;(with_reducible refine (impl_WhereIsBus.calls k3 jh jf jg _ _ jc jj jl j1f j5h false _ ?side1 ?side2 A96.out).mono ?_);(case side1=>exact cR_ ja);(case side2=>exact (Kd.R_reads' ja.out).2.1);rintro e j6n ⟨rfl,hb⟩;refine ⟨_,rfl,?_⟩;replace jd:=rb_ jd hb;replace ja:=rb_ ja hb;replace jb:=bb_ jb hb;replace HB:=ai_ (below_step (below_to1 HB je.out) hb);(try clear hb))|((with_reducible refine gate_callee (f:=20) rfl ?_);refine gl_ (some 309) Tryz.func20 #[.slice Ao94 jk.length co94,.int .i64 jj] ?_;(with_reducible refine (laws_qHas.calls k3 _ _ jk jj j1c _ ?side1 ?side2 A97.out).mono ?_);(case side1=>exact cR_ jd);(case side2=>exact (Kd.R_reads' jd.out).2.1);rintro e w' ⟨rfl,⟨nd,rfl⟩⟩;refine ⟨_,rfl,?_⟩))
      go_roundg k3
      case measure=>have:=HJ13.out;have:=HJ71.out;have:=HK3.out;omega
      case rel=>exact ⟨(wrap64 (jj+1)),rt_,H',⟨by have:=HJ13.out;have:=HJ71.out;have:=HK3.out;omega⟩,⟨kd_to jd⟩,⟨kd_to ja⟩,⟨blk_to jb⟩,⟨below_to1 HB je.out⟩⟩
     subst c99
     rw [if_pos rfl] at H
     obtain ⟨⟨j5i,j5n⟩,A100,H⟩:=bs_ H
     (try dsimp only at H)
     have HC101:=ai_ H
     clear H
     obtain ⟨j1g,j1h,j1i,j1j,j1k,j1l,j1m,j1n⟩:=blk4_ jb
     go_upto_region 33 with (first|((with_reducible refine gate_callee (f:=19) rfl ?_);refine gl_ (some 302) Tryz.func19 #[.agg #[.int .i64 jh,.int .i64 jf,.int .i64 jg,.slice Ao18 jc.length co18],.int .i64 jj,.int .i64 jl] ?_;(with_reducible refine (impl_WhereIsBus.calls k3 jh jf jg _ _ jc jj jl j1f j5h true _ ?side1 ?side2 A96.out).mono ?_);(case side1=>exact cR_ ja);(case side2=>exact (Kd.R_reads' ja.out).2.1);rintro e j6o ⟨rfl,hb⟩;refine ⟨_,rfl,?_⟩;replace jd:=rb_ jd hb;replace ja:=rb_ ja hb;replace jb:=bb_ jb hb;replace HB:=ai_ (below_step (below_to1 HB je.out) hb);(try clear hb))|((with_reducible refine gate_callee (f:=20) rfl ?_);refine gl_ (some 309) Tryz.func20 #[.slice Ao94 jk.length co94,.int .i64 jj] ?_;(with_reducible refine (laws_qHas.calls k3 _ _ jk jj j1c _ ?side1 ?side2 A97.out).mono ?_);(case side1=>exact cR_ jd);(case side2=>exact (Kd.R_reads' jd.out).2.1);rintro e w' ⟨rfl,⟨nd,rfl⟩⟩;refine ⟨_,rfl,?_⟩;obtain ⟨j1o,j1p,j1q,j1r,j1s,j1t,j1u,j1v⟩:=blk4_ jb)|((with_reducible refine gate_callee (f:=17) rfl ?_);refine gl_ (some 316) Tryz.func17 #[.agg #[.int .i64 jh,.int .i64 jf,.int .i64 jg,.slice Ao18 jc.length co18],.int .i64 jj,.int .i64 j1f] ?_;(with_reducible refine (impl_TimeAtStop.calls k3 jh jf jg _ _ jc jj j1f j5i j5n _ ?side1 ?side2 A100.out).mono ?_);(case side1=>exact cR_ ja);(case side2=>exact (Kd.R_reads' ja.out).2.1);rintro e j6p ⟨rfl,hb⟩;refine ⟨_,rfl,?_⟩;replace jd:=rb_ jd hb;replace ja:=rb_ ja hb;replace jb:=bb_ jb hb;replace HB:=ai_ (below_step (below_to1 HB je.out) hb);(try clear hb)))
     (try simp only [Act.put,List.setIfInBounds_toArray,List.set_cons_zero,List.set_cons_succ])
     go_cut [332] from 100000 (fun j5x wc => ∃ (kq:Nat) (jq:Bool),j5x=.bool jq∧Aside0 (lw_.j4 kq l1 jl jk jm jn jj j1f jq jh jf jg jc=some r)∧Aside0 (kq≤k3)∧Aside0 (Kd.R Ki_ 3 wc w.heap.size (fun k_=>some k_≠((.slice Ao18 jc.length co18):Value).ownBlock) (.slice Ao94 jk.length co94) jk)∧Aside0 (Kd.R Ki_ 3 wc w.heap.size (fun k_=>some k_≠((.slice Ao94 jk.length co94):Value).ownBlock) (.slice Ao18 jc.length co18) jc)∧Aside0 (wc.heap[ji]?=some (.cells #[.int .i64 jh,.int .i64 jf,.int .i64 jg,(.slice Ao18 jc.length co18)] 26 (0,0)))∧Aside0 (Below w.heap.size w wc))
     case first =>
      (try conv=>arg 2;dsimp only [List.append_eq,List.cons_append,List.nil_append])
      have H:=HC101.out
      clear HC101
      by_cases c106:j5n=true
      ·subst c106
       rw [if_pos rfl] at H
       by_cases c107:j5i > jl
       ·rw [if_pos c107] at H
        have jo:=decide_eq_true c107
        clear c107
        (first|rw [jo]|(simp only [i64_w,i32_w];rw [jo])|skip)
        exact absurd H (by rw [HR_.out];cases k3 <;> simp [lw_.j4])
       ·rw [if_neg c107] at H
        have jo:=decide_eq_false c107
        clear c107
        (first|rw [jo]|(simp only [i64_w,i32_w];rw [jo])|skip)
        have H':=ai_ H
        clear H
        go_wp2
        go_meet
        case rel=>exact ⟨_,((j5h != (j5i == jl))),rt_,H',⟨by have:=HJ13.out;have:=HJ71.out;have:=HK3.out;first|omega|exact Nat.le_refl _⟩,⟨kd_to jd⟩,⟨kd_to ja⟩,⟨blk_to jb⟩,⟨below_to1 HB je.out⟩⟩
      ·replace c106:=Bool.eq_false_iff.mpr c106
       subst c106
       rw [if_neg ft_] at H
       exact absurd H (by rw [HR_.out];cases k3 <;> simp [lw_.j4])
     clear HC101
     (try clear c1);(try clear c91);(try clear c93);(try clear c95);(try clear jz);(try clear c98);(try clear j3f);(try clear j3g);(try clear j3h);(try clear c99);(try clear c106);(try clear c107);(try clear jo);(try clear j1g j1h j1i j1j);(try clear j1o j1p j1q j1r);(try clear j1k j1l j1m j1n);(try clear j1s j1t j1u j1v)
     obtain ⟨kq,jq,rfl,HA,HJ100,jd,ja,jb,HB⟩:=hcut
     cases kq with
     | zero=>exact absurd HA.out (by simp [lw_.j4])
     | succ kj100 =>
      have H:=HA.out
      clear HA
      simp only [lw_.j4] at H
      by_cases c108:jq=true
      ·subst c108
       rw [if_pos rfl] at H
       exact nof_ HR_ H
      replace c108:=Bool.eq_false_iff.mpr c108
      subst c108
      rw [if_neg ft_] at H
      by_cases c109:(wrap64 (j1f+1)) < (jc.length:Int)
      rotate_left
      ·rw [if_neg c109] at H
       have j3q:=decide_eq_false c109
       clear c109
       have H':=ai_ H
       clear H
       obtain ⟨j3r,j3s,j3t,j3u,j3v,j3w,j3x,j3y⟩:=blk4_ jb
       go_wp2
       go_roundg kj100
       case measure=>have:=HJ13.out;have:=HJ71.out;have:=HK3.out;have:=HJ100.out;omega
       case rel=>exact ⟨(wrap64 (jj+1)),rt_,H',⟨by have:=HJ13.out;have:=HJ71.out;have:=HK3.out;have:=HJ100.out;omega⟩,⟨kd_to jd⟩,⟨kd_to ja⟩,⟨blk_to jb⟩,⟨below_to1 HB je.out⟩⟩
      rw [if_pos c109] at H
      have j3q:=decide_eq_true c109
      clear c109
      obtain ⟨⟨j5o,j5y⟩,A110,H⟩:=bs_ H
      (try dsimp only at H)
      by_cases c111:j5y=true
      ·subst c111
       rw [if_pos rfl] at H
       by_cases c112:j5o≤jl
       ·rw [if_pos c112] at H
        have j3z:=decide_eq_true c112
        clear c112
        exact nof_ HR_ H
       ·rw [if_neg c112] at H
        have j3z:=decide_eq_false c112
        clear c112
        have H':=ai_ H
        clear H
        obtain ⟨j4a,j4b,j4c,j4d,j4e,j4f,j4g,j4h⟩:=blk4_ jb
        go_wp2_with (first|((with_reducible refine gate_callee (f:=17) rfl ?_);refine gl_ (some 344) Tryz.func17 #[.agg #[.int .i64 jh,.int .i64 jf,.int .i64 jg,.slice Ao18 jc.length co18],.int .i64 jj,.int .i64 (wrap64 (j1f+1))] ?_;(with_reducible refine (impl_TimeAtStop.calls kj100 jh jf jg _ _ jc jj (wrap64 (j1f+1)) j5o true _ ?side1 ?side2 A110.out).mono ?_);(case side1=>exact cR_ ja);(case side2=>exact (Kd.R_reads' ja.out).2.1);rintro e j6q ⟨rfl,hb⟩;refine ⟨_,rfl,?_⟩;replace jd:=rb_ jd hb;replace ja:=rb_ ja hb;replace jb:=bb_ jb hb;replace HB:=ai_ (below_step (below_to1 HB je.out) hb);(try clear hb)))
        go_roundg kj100
        case measure=>have:=HJ13.out;have:=HJ71.out;have:=HK3.out;have:=HJ100.out;omega
        case rel=>exact ⟨(wrap64 (jj+1)),rt_,H',⟨by have:=HJ13.out;have:=HJ71.out;have:=HK3.out;have:=HJ100.out;omega⟩,⟨kd_to jd⟩,⟨kd_to ja⟩,⟨blk_to jb⟩,⟨below_to1 HB je.out⟩⟩
      ·replace c111:=Bool.eq_false_iff.mpr c111
       subst c111
       rw [if_neg ft_] at H
       exact nof_ HR_ H
   clear HC90
   (try clear c1);(try clear c91);(try clear c93);(try clear c95);(try clear jz);(try clear c98);(try clear j3f);(try clear j3g);(try clear j3h);(try clear c99);(try clear c106);(try clear c107);(try clear jo);(try clear c108);(try clear c109);(try clear j3q);(try clear c111);(try clear c112);(try clear j3z);(try clear j1g j1h j1i j1j);(try clear j1o j1p j1q j1r);(try clear j4a j4b j4c j4d);(try clear j3r j3s j3t j3u);(try clear j3i j3j j3k j3l);(try clear j2x j2y j2z j3a);(try clear j1k j1l j1m j1n);(try clear j1s j1t j1u j1v);(try clear j4e j4f j4g j4h);(try clear j3v j3w j3x j3y);(try clear j3m j3n j3o j3p);(try clear j3b j3c j3d j3e)
   obtain ⟨kq,HA,HJ89,ja,jb,HB⟩:=hcut
   go_step
   exact lw_.seg3 k A1 c1 l1 r w HTab_ HR_ hu26 HR1 HC1 jh jf jg jc jm jn nd ji w16 j1e je Ao18 co18 w19 w21 w23 w25 w27 w29 w31 kj13 HJ13 kj71 HJ71 wc u4 kq HA HJ89 ja jb HB
set_option maxHeartbeats 16000000 in
set_option maxRecDepth 1000000 in
theorem lw_.seg1 (k:Nat) (l0:List Int) (A1:Option Addr) (c1:Nat) (l1:List Int) (r:Bool) (w:World) (HTab_:Aside0 (YthdnodmidbcgpaaGreatDoor.XText.T2 w)) (HR_:Aside0 (r=Bool.true)) (hu26:Program.underlying Tryz.prog (26:Nat)=Option.some (TypeDesc.struct #[Field.mk "First" (3:Nat) (0:Nat) Bool.false "" "" (0:Nat),Field.mk "Every" (3:Nat) (1:Nat) Bool.false "" "" (8:Nat),Field.mk "Count" (3:Nat) (2:Nat) Bool.false "" "" (16:Nat),Field.mk "Stops" (24:Nat) (3:Nat) Bool.false "" "" (24:Nat)])) (HR1:Aside0 (Kd.C (Kd.int IntKind.u8) w A1 (List.length l1) l1)) (HC1:Aside0 (List.length l1≤c1)) (jh jf jg:Int) (jc:List Int) (j1a jl:Int) (jv jt:Int) (j5j:Bool) (j5k:Int) (jk:List Int) (js:Bool) (jm:ByteArray) (jn:Bool) (nd:Nat) (ji:Nat) (w16:World) (j1e je:Aside0 (Array.size (World.heap w)≤ji)) (Ao18:Option Addr) (co18:Nat) (w19:World) (w21:World) (w23:World) (w25:World) (w27:World) (ju:Value) (w29:World) (w31:World) (wc:World) (jd:Aside0 (Kd.R (Kd.int IntKind.i64) (3:Nat) wc (Array.size (World.heap w)) (fun k_=>Option.some k_≠Value.ownBlock (Value.slice Ao18 (List.length jc) co18)) ju jk)) (ja:Aside0 (Kd.R (Kd.int IntKind.i64) (3:Nat) wc (Array.size (World.heap w)) (fun k_=>Option.some k_≠Value.ownBlock ju) (Value.slice Ao18 (List.length jc) co18) jc)) (jb:Aside0 ((World.heap wc)[ji]?=Option.some (Obj.cells #[Value.int IntKind.i64 jh,Value.int IntKind.i64 jf,Value.int IntKind.i64 jg,Value.slice Ao18 (List.length jc) co18] (26:TypeId)))) (HB:Aside0 (Below (Array.size (World.heap w)) w wc)) (kj13:Nat) (HJ13:Aside0 (kj13+(1:Nat)≤k)) (HC72:Aside0 ((if j5j=Bool.true then Option.bind (impl_TimeAtStop.f kj13 jh jf jg jc jv j1a) fun bt669=>if Prod.snd bt669=Bool.true then if Prod.fst bt669=jt then if jt < jl then lw_.j1 kj13 l1 j1a jl jv jt jk js jm jn Bool.true jh jf jg jc else lw_.j1 kj13 l1 j1a jl jv jt jk js jm jn (j5k != wrap64 (jt - jl)) jh jf jg jc else lw_.j1 kj13 l1 j1a jl jv jt jk js jm jn Bool.true jh jf jg jc else lw_.j1 kj13 l1 j1a jl jv jt jk js jm jn Bool.true jh jf jg jc else lw_.j2 kj13 l1 jl jk js jm jn jh jf jg jc)=Option.some r)) :
    Go.Code.wp Tryz.prog (lw_.behind 235 lw_.body) (bodyPost Tryz.prog Tryz.f3 (fun e w'=>e=.returned (.bool r)∧Below w.heap.size w w')) (Go.Act.mk #[Ab,Value.slice A1 (List.length l1) c1,Ac,Aa,Value.bool Bool.false,Value.pointer (Option.some (Addr.mk ji (0:Nat) Option.none)),Value.int IntKind.i64 j1a,Value.int IntKind.i64 jl,Value.int IntKind.i64 jv,Value.int IntKind.i64 jt,Value.bool j5j,Ad,Ae,Af,Value.int IntKind.i64 j5k,Ag,Ah,Ai,ju,Value.bool js,Aj,Ak,Value.string jm,Value.bool jn,Al,Am,undef,undef,undef,undef,undef,undef,undef,undef,undef,undef,undef,undef,undef,undef,undef,undef,undef,undef,undef,undef,undef,undef,undef,undef,undef,undef,undef,undef,undef,undef,undef,undef,undef,undef,undef,undef,undef,undef,undef,undef,undef,undef,undef,undef,undef,undef,undef,undef,undef,undef,undef,undef,undef,undef,undef,undef,undef,undef,undef,undef,undef,undef,undef,undef,undef,undef,undef,undef,undef,undef,undef,undef,undef,An,Ao,Ap,Aq,Ar,As,Au,Av,Aw,Ax,Ay,Az,AA,AB,AC,AD,AE,AF,AG,AH,AJ,AK,AL,AM,AN,AO,AP,AQ,AR,AU,AV,AW,AX,AY,AZ,Ba,Bb,Bc,Bd,Be,Bf,Bg,Bh,Bi,Bj,Bk,Bl,Bm,Bn,Bo,Bp,Bq,Br,Bs,Bt,Bu,Bv,Bw,Bx,Bz,BA,BB,BC,BD,BE,BF,BG,BH,BI,BJ,BK,BL,BM,BN,BO,BP,BQ,BR,BS,BT,BU,BV,BW,BX,BZ,B0,B2,B4,B5,B6,B9,Ca,Cb,Cc,Cd,Ce,Cf,Cg,Ch,Ci,Cj,Ck,Cl,Cm,Cn,Co,Cp,Cq,Cr,Cs,Ct,Cu,Cv,Cw,Cx,Cy,Cz,CA,CB,CC,CD,CE,CF,CG,CH,CI,CJ,CK,CL,CM,CN,CO,CP,CQ,CR,CS,CT,undef,undef,undef,undef,undef,undef,undef,undef,undef,undef,undef,undef,undef,undef,undef,undef,undef,undef,undef,undef,undef,undef,undef,undef,undef,undef,undef,undef,undef,undef,undef,undef,undef,undef,undef,undef,undef,undef,undef,undef,undef,undef,undef,undef,undef,undef,undef,undef,undef,undef,undef,undef,undef,undef,undef,undef,undef,undef,undef,undef,undef,undef,undef,undef,undef,undef,undef,undef,undef,undef,undef,undef,undef,undef,undef,undef,undef,undef,undef,undef,undef,undef,undef,undef,undef,undef,undef,undef,undef,undef,undef,undef,undef,undef,undef,undef,undef,undef,undef,undef,undef,undef,undef,undef,undef,undef,undef,undef,undef,undef,undef,undef,undef,undef,undef,undef,undef,undef,undef,undef,undef,undef,undef,undef,undef,undef,undef,undef,undef,undef,undef,undef,undef,undef,undef,undef,undef,undef,undef,undef,undef,undef,undef,undef,undef,undef,undef,undef,undef,undef,undef,undef,undef,undef,undef,undef,undef,undef,undef,undef,undef,undef,undef,undef,undef,undef,undef,undef,undef,undef,undef,undef,undef,undef,undef,undef,undef,undef,undef,undef,undef,undef,undef,undef,undef,undef,undef,undef,undef,undef,undef,undef,undef,undef,undef,undef,undef,undef,undef,undef,undef,undef,undef,undef,undef,undef,undef,undef,undef,undef,undef,undef,undef,undef,undef,undef,undef,undef,undef,undef,undef,undef,undef,undef,undef,undef,undef,undef,undef,undef,undef,undef,undef,undef,undef,undef,undef,undef,undef,undef,undef,undef,undef,undef,undef,undef,undef,undef,undef,undef,undef,undef,undef,undef,undef,undef,undef,undef,undef,undef,undef,undef,undef,undef,undef,undef,undef,undef,undef,undef,undef,undef,undef,undef,undef,undef,undef,undef,undef,undef,undef,undef,undef,undef,undef,undef,undef,undef,undef,undef,undef,undef,undef,undef,undef,undef,undef,undef,undef,undef,undef,undef,undef,undef,undef,undef,undef,undef,undef,undef,undef,undef,undef,undef,undef,undef,undef,undef,undef,undef,undef,undef,undef,undef,undef,undef,undef,undef,undef,undef,undef,undef,undef,undef,undef,undef,undef,undef,undef,undef,undef,undef,undef,undef,undef,undef,undef,undef,undef,undef,undef,undef,undef,undef,undef,undef,undef,undef,undef,undef,undef,undef,undef,undef,undef,undef,undef,undef,undef,undef,undef,undef,undef,undef,undef,undef,undef,undef,undef,undef,undef,undef,undef,undef,undef,undef,undef,undef,undef,undef,undef,undef,undef,undef,undef,undef,undef,undef,undef,undef,undef,undef,undef,undef,undef,undef,undef,undef,undef,undef,undef,undef,undef,undef,undef,undef,undef,undef,undef,undef,undef,undef,undef,undef,undef,undef,undef,undef,undef,undef,undef,undef,undef,undef,undef,undef,undef,undef,undef,undef,undef,undef,undef,undef,undef,undef,undef,undef,undef,undef,undef,undef,undef,undef,undef,undef,undef,undef,undef,undef,undef,undef,undef,undef] []) wc:=by
  conv=>arg 2;whnf
  (try conv=>arg 4;dsimp only)
  go_upto_if 236 with (fail)
  go_cut [] from 100000 (fun wc => ∃ (kq:Nat),Aside0 (lw_.j2 kq l1 jl jk js jm jn jh jf jg jc=some r)∧Aside0 (kq≤kj13)∧Aside0 (Kd.R Ki_ 3 wc w.heap.size (fun k_=>some k_≠((.slice Ao18 jc.length co18):Value).ownBlock) ju jk)∧Aside0 (Kd.R Ki_ 3 wc w.heap.size (fun k_=>some k_≠(ju:Value).ownBlock) (.slice Ao18 jc.length co18) jc)∧Aside0 (wc.heap[ji]?=some (.cells #[.int .i64 jh,.int .i64 jf,.int .i64 jg,(.slice Ao18 jc.length co18)] 26 (0,0)))∧Aside0 (Below w.heap.size w wc))
  case first =>
   (try conv=>arg 2;dsimp only [List.append_eq,List.cons_append,List.nil_append])
   have H:=HC72.out
   clear HC72
   by_cases c73:j5j=true
   rotate_left
   ·replace c73:=Bool.eq_false_iff.mpr c73
    subst c73
    rw [if_neg ft_] at H
    have H':=ai_ H
    clear H
    go_wp2
    go_meet
    case rel=>exact ⟨_,H',⟨by have:=HJ13.out;first|omega|exact Nat.le_refl _⟩,⟨kd_to jd⟩,⟨kd_to ja⟩,⟨blk_to jb⟩,⟨below_to1 HB je.out⟩⟩
   subst c73
   rw [if_pos rfl] at H
   obtain ⟨⟨j5p,j5q⟩,A74,H⟩:=bs_ H
   (try dsimp only at H)
   have HC75:=ai_ H
   clear H
   obtain ⟨j1w,j1x,j1y,j1z,j2a,j2b,j2c,j2d⟩:=blk4_ jb
   go_upto_region 16 with (first|((with_reducible refine gate_callee (f:=17) rfl ?_);refine gl_ (some 241) Tryz.func17 #[.agg #[.int .i64 jh,.int .i64 jf,.int .i64 jg,.slice Ao18 jc.length co18],.int .i64 jv,.int .i64 j1a] ?_;(with_reducible refine (impl_TimeAtStop.calls kj13 jh jf jg _ _ jc jv j1a j5p j5q _ ?side1 ?side2 A74.out).mono ?_);(case side1=>exact cR_ ja);(case side2=>exact (Kd.R_reads' ja.out).2.1);rintro e w77 ⟨rfl,hb⟩;refine ⟨_,rfl,?_⟩;replace jd:=rb_ jd hb;replace ja:=rb_ ja hb;replace jb:=bb_ jb hb;replace HB:=ai_ (below_step (below_to1 HB je.out) hb);(try clear hb)))
   (try simp only [Act.put,List.setIfInBounds_toArray,List.set_cons_zero,List.set_cons_succ])
   go_cut [262] from 100000 (fun j5z wc => ∃ (kq:Nat) (jw:Bool),j5z=.bool jw∧Aside0 (lw_.j1 kq l1 j1a jl jv jt jk js jm jn jw jh jf jg jc=some r)∧Aside0 (kq≤kj13)∧Aside0 (Kd.R Ki_ 3 wc w.heap.size (fun k_=>some k_≠((.slice Ao18 jc.length co18):Value).ownBlock) ju jk)∧Aside0 (Kd.R Ki_ 3 wc w.heap.size (fun k_=>some k_≠(ju:Value).ownBlock) (.slice Ao18 jc.length co18) jc)∧Aside0 (wc.heap[ji]?=some (.cells #[.int .i64 jh,.int .i64 jf,.int .i64 jg,(.slice Ao18 jc.length co18)] 26 (0,0)))∧Aside0 (Below w.heap.size w wc))
   case first =>
    (try conv=>arg 2;dsimp only [List.append_eq,List.cons_append,List.nil_append])
    have H:=HC75.out
    clear HC75
    by_cases c78:j5q=true
    rotate_left
    ·replace c78:=Bool.eq_false_iff.mpr c78
     subst c78
     rw [if_neg ft_] at H
     exact absurd H (by rw [HR_.out];cases kj13 <;> simp [lw_.j1])
    subst c78
    rw [if_pos rfl] at H
    by_cases c79:j5p=jt
    ·rw [if_pos c79] at H
     have j1b:=beq_iff_eq.mpr c79
     have j4i:=bne_eq_false_iff_eq.mpr c79
     clear c79
     (first|rw [j1b]|(simp only [i64_w,i32_w];rw [j1b])|skip)
     by_cases c80:jt < jl
     ·rw [if_pos c80] at H
      have j4j:=decide_eq_true c80
      clear c80
      exact absurd H (by rw [HR_.out];cases kj13 <;> simp [lw_.j1])
     ·rw [if_neg c80] at H
      have j4j:=decide_eq_false c80
      clear c80
      have H':=ai_ H
      clear H
      go_wp2
      go_meet
      case rel=>exact ⟨_,((j5k != (wrap64 (jt - jl)))),rt_,H',⟨by have:=HJ13.out;first|omega|exact Nat.le_refl _⟩,⟨kd_to jd⟩,⟨kd_to ja⟩,⟨blk_to jb⟩,⟨below_to1 HB je.out⟩⟩
    ·rw [if_neg c79] at H
     have j1b:=beq_eq_false_iff_ne.mpr c79
     have j4i:=bne_iff_ne.mpr c79
     (first|rw [j1b]|(simp only [i64_w,i32_w];rw [j1b])|skip)
     exact absurd H (by rw [HR_.out];cases kj13 <;> simp [lw_.j1])
   clear HC75
   (try clear c1);(try clear c73);(try clear c78);(try clear c79);(try clear j1b);(try clear j4i);(try clear c80);(try clear j4j);(try clear j1w j1x j1y j1z);(try clear j2a j2b j2c j2d)
   obtain ⟨kq,jw,rfl,HA,HJ74,jd,ja,jb,HB⟩:=hcut
   cases kq with
   | zero=>exact absurd HA.out (by simp [lw_.j1])
   | succ kj74 =>
    have H:=HA.out
    clear HA
    simp only [lw_.j1] at H
    by_cases c81:jw=true
    ·subst c81
     rw [if_pos rfl] at H
     exact nof_ HR_ H
    replace c81:=Bool.eq_false_iff.mpr c81
    subst c81
    rw [if_neg ft_] at H
    by_cases c82:jv > 0
    rotate_left
    ·rw [if_neg c82] at H
     have j5a:=decide_eq_false c82
     clear c82
     have H':=ai_ H
     clear H
     go_wp2
     go_meet
     case rel=>exact ⟨_,H',⟨by have:=HJ13.out;have:=HJ74.out;first|omega|exact Nat.le_refl _⟩,⟨kd_to jd⟩,⟨kd_to ja⟩,⟨blk_to jb⟩,⟨below_to1 HB je.out⟩⟩
    rw [if_pos c82] at H
    have j5a:=decide_eq_true c82
    clear c82
    obtain ⟨⟨j5l,j6a⟩,A83,H⟩:=bs_ H
    (try dsimp only at H)
    by_cases c84:j6a=true
    rotate_left
    ·replace c84:=Bool.eq_false_iff.mpr c84
     subst c84
     rw [if_neg ft_] at H
     exact nof_ HR_ H
    subst c84
    rw [if_pos rfl] at H
    by_cases c85:j5l≥jl
    ·rw [if_pos c85] at H
     have j5b:=decide_eq_true c85
     clear c85
     exact nof_ HR_ H
    ·rw [if_neg c85] at H
     have j5b:=decide_eq_false c85
     clear c85
     by_cases c86:(wrap64 (jt - j5l))=jf
     ·rw [if_pos c86] at H
      have j5c:=beq_iff_eq.mpr c86
      have j5d:=bne_eq_false_iff_eq.mpr c86
      clear c86
      have H':=ai_ H
      clear H
      obtain ⟨j4k,j4l,j4m,j4n,j4o,j4p,j4q,j4r⟩:=blk4_ jb
      go_wp2_with (first|((with_reducible refine gate_callee (f:=17) rfl ?_);refine gl_ (some 270) Tryz.func17 #[.agg #[.int .i64 jh,.int .i64 jf,.int .i64 jg,.slice Ao18 jc.length co18],.int .i64 (wrap64 (jv - 1)),.int .i64 j1a] ?_;(with_reducible refine (impl_TimeAtStop.calls kj74 jh jf jg _ _ jc (wrap64 (jv - 1)) j1a j5l true _ ?side1 ?side2 A83.out).mono ?_);(case side1=>exact cR_ ja);(case side2=>exact (Kd.R_reads' ja.out).2.1);rintro e w88 ⟨rfl,hb⟩;refine ⟨_,rfl,?_⟩;replace jd:=rb_ jd hb;replace ja:=rb_ ja hb;replace jb:=bb_ jb hb;replace HB:=ai_ (below_step (below_to1 HB je.out) hb);(try clear hb);obtain ⟨j4s,j4t,j4u,j4v,j4w,j4x,j4y,j4z⟩:=blk4_ jb))
      go_meet
      case rel=>exact ⟨_,H',⟨by have:=HJ13.out;have:=HJ74.out;first|omega|exact Nat.le_refl _⟩,⟨kd_to jd⟩,⟨kd_to ja⟩,⟨blk_to jb⟩,⟨below_to1 HB je.out⟩⟩
     ·rw [if_neg c86] at H
      have j5c:=beq_eq_false_iff_ne.mpr c86
      have j5d:=bne_iff_ne.mpr c86
      exact nof_ HR_ H
  clear HC72
  (try clear c1);(try clear c73);(try clear c78);(try clear c79);(try clear j1b);(try clear j4i);(try clear c80);(try clear j4j);(try clear c81);(try clear c82);(try clear j5a);(try clear c84);(try clear c85);(try clear j5b);(try clear c86);(try clear j5c);(try clear j5d);(try clear j1w j1x j1y j1z);(try clear j4k j4l j4m j4n);(try clear j4s j4t j4u j4v);(try clear j2a j2b j2c j2d);(try clear j4o j4p j4q j4r);(try clear j4w j4x j4y j4z)
  obtain ⟨kq,HA,HJ71,jd,ja,jb,HB⟩:=hcut
  go_step
  exact lw_.seg2 k l0 A1 c1 l1 r w HTab_ HR_ hu26 HR1 HC1 jh jf jg jc jl jk js jm jn nd ji w16 j1e je Ao18 co18 w19 w21 w23 w25 w27 ju w29 w31 kj13 HJ13 wc u4 kq HA HJ71 jd ja jb HB
end Go.Proofs.YthdnodmidbcgpaaGreatDoor.QR
