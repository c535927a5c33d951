import Derived.Test.YthdnodmidbcgpaaQEx0
namespace Go.Proofs.Ythdnodmidbcgpaa.QE
open Go.Proofs.Ythdnodmidbcgpaa.X Go.RowKit Go.Proofs.YthdnodmidbcgpaaW.PrintWords Go.Proofs.YthdnodmidbcgpaaW.PrintLast Go.Proofs.YthdnodmidbcgpaaW.PrintMore
set_option maxHeartbeats 8000000
set_option maxRecDepth 100000
attribute [local go_sem] max2_int min2_int max_two min_two max_three min_three max_four min_four
set_option linter.unusedVariables false
set_option linter.unusedSimpArgs false
def spec_l1In.f (a0:Int) (a1:Int) (a2:Int):Option (Bool):=if a0≥a1 then (some (decide (a0≤a2))) else (some false)
theorem spec_l1In.calls (a0:Int) (a1:Int) (a2:Int) (r:Bool) (w:World) (h:spec_l1In.f a0 a1 a2=some r) :
  Calls Try.prog 43 #[.int .i64 a0,.int .i64 a1,.int .i64 a2] w fun e w'=>e=.returned (.bool r)∧Drawn0 w w':=by
 have H:=h
 unfold spec_l1In.f at H
 clear h
 by_cases c4:a0≥a1
 ·rw [if_pos c4] at H
  have j3x:=decide_eq_true c4;clear c4;obtain rfl:=Option.some.inj H;go_enter Try.func43,Try.ntmps43
  go_wp2
  go_ret;exact ⟨rt_,d0_⟩
 ·rw [if_neg c4] at H
  have j3x:=decide_eq_false c4;clear c4;obtain rfl:=Option.some.inj H;go_enter Try.func43,Try.ntmps43
  go_wp2
  go_ret;exact ⟨rt_,d0_⟩
def spec_l1Rising.l0:Nat→List Int→Int→Int→List Int→Int→Int→Option (Bool)
 | 0,_,_,_,_,_,_=>none
 | k+1,x0,x1,x2,x9,x10,x11=>if x11 < x10 then (if 0≤x11 then (if x11 < (x9.length:Int) then ((spec_l1In.f (rd x9 x11) x1 x2).bind fun j5l=>(if j5l=true then (if x11 > 0 then (if 0≤(wrap64 (x11 - 1)) then (if (wrap64 (x11 - 1)) < (x0.length:Int) then (if (rd x0 (wrap64 (x11 - 1)))≥(rd x9 x11) then (some false) else (spec_l1Rising.l0 k x0 x1 x2 x9 x10 (wrap64 (x11+1)))) else (none)) else (none)) else (spec_l1Rising.l0 k x0 x1 x2 x9 x10 (wrap64 (x11+1)))) else (some false))) else (none)) else (none)) else (some true)
def spec_l1Rising.f (k:Nat) (l0:List Int) (a1:Int) (a2:Int):Option (Bool):=spec_l1Rising.l0 k l0 a1 a2 l0 (l0.length:Int) 0
theorem spec_l1Rising.calls (k:Nat) (A0:Option Addr) (c0:Nat) (l0:List Int) (a1:Int) (a2:Int) (r:Bool) (w:World) (hr0:Kd.C Ki_ w A0 l0.length l0) (hc0:l0.length≤c0) (h:spec_l1Rising.f k l0 a1 a2=some r) :
  Calls Try.prog 79 #[.slice A0 l0.length c0,.int .i64 a1,.int .i64 a2] w fun e w'=>e=.returned (.bool r)∧Drawn0 w w':=by
 have HR0:=ai_ hr0;have HC0:=ai_ hc0;clear hr0 hc0;have H:=h
 unfold spec_l1Rising.f at H
 clear h;have H':=ai_ H;clear H;go_enter Try.func79,Try.ntmps79
 go_wp2
 go_loopg [11] k (fun kq v11 w' => ∃ (je:Int),v11=.int .i64 je∧Aside0 (spec_l1Rising.l0 kq l0 a1 a2 l0 (l0.length:Int) je=some r)∧Aside0 (kq≤k)∧Drawn0 w w')
 case atStart=>exact ⟨(0),rt_,H',⟨Nat.le_refl _⟩,d0_⟩
 clear H'
 try clear p2
 obtain ⟨je,rfl,HA,HK1,⟨m1,rfl⟩⟩:=hrel
 cases gk with
 | zero=>exact absurd HA.out (by simp [spec_l1Rising.l0])
 | succ k1 =>
  have H:=HA.out;clear HA;simp only [spec_l1Rising.l0] at H
  by_cases c4:je < (l0.length:Int)
  rotate_left
  ·rw [if_neg c4] at H
   have j3x:=decide_eq_false c4;clear c4;obtain rfl:=Option.some.inj H
   go_wp2
   go_ret;exact ⟨rt_,d0_⟩
  rw [if_pos c4] at H;have j3x:=decide_eq_true c4;clear c4
  by_cases c5:0≤je
  rotate_left
  ·rw [if_neg c5] at H
   cases H
  rw [if_pos c5] at H;have j5m:=decide_eq_true c5;clear c5
  by_cases c6:je < (l0.length:Int)
  rotate_left
  ·rw [if_neg c6] at H
   cases H
  rw [if_pos c6] at H;have j6b:=decide_eq_true c6;clear c6;obtain ⟨j5l,A7,H⟩:=bs_ H;(try dsimp only at H)
  by_cases c8:j5l=true
  rotate_left
  ·replace c8:=Bool.eq_false_iff.mpr c8
   subst c8;rw [if_neg ft_] at H;obtain rfl:=Option.some.inj H;have jw:0≤(je:Int):=odt_;have jx:je < (l0.length:Int):=odt_;obtain ⟨j2e,e101,j1l⟩:=Kd.at_int HR0.out je jw jx
   cases e101
   replace jw:=eq_true jw;replace jx:=eq_true jx
   go_wp2_with (first|((with_reducible refine gc_ 43 rfl ?_);refine gl_ (some 19) Try.func43 #[.int .i64 (rd l0 je),.int .i64 a1,.int .i64 a2] ?_;(with_reducible refine (spec_l1In.calls (rd l0 je) a1 a2 false _ A7.out).mono ?_);rintro e w' ⟨rfl,⟨nd,rfl⟩⟩;refine ⟨_,rfl,?_⟩))
   go_ret;exact ⟨rt_,d0_⟩
  subst c8;rw [if_pos rfl] at H
  by_cases c9:je > 0
  rotate_left
  ·rw [if_neg c9] at H
   have j8s:=decide_eq_false c9;clear c9;have H':=ai_ H;clear H;have jw:0≤(je:Int):=odt_;have jx:je < (l0.length:Int):=odt_;obtain ⟨j2e,e101,j1l⟩:=Kd.at_int HR0.out je jw jx
   cases e101
   replace jw:=eq_true jw;replace jx:=eq_true jx
   go_wp2_with (first|((with_reducible refine gc_ 43 rfl ?_);refine gl_ (some 19) Try.func43 #[.int .i64 (rd l0 je),.int .i64 a1,.int .i64 a2] ?_;(with_reducible refine (spec_l1In.calls (rd l0 je) a1 a2 true _ A7.out).mono ?_);rintro e w' ⟨rfl,⟨nd,rfl⟩⟩;refine ⟨_,rfl,?_⟩))
   go_roundg k1
   case measure=>have:=HK1.out;omega
   case rel=>exact ⟨(wrap64 (je+1)),rt_,H',⟨by have:=HK1.out;omega⟩,d0_⟩
  rw [if_pos c9] at H;have j8s:=decide_eq_true c9;clear c9
  obtain ⟨j1a,j2f⟩:∃ j_:Int,(wrap64 (je - 1))=j_:=⟨_,rfl⟩
  replace H:(if 0≤(j1a) then (if (j1a) < (l0.length:Int) then (if (rd l0 (j1a))≥(rd l0 je) then (some false) else (spec_l1Rising.l0 k1 l0 a1 a2 l0 (l0.length:Int) (wrap64 (je+1)))) else (none)) else (none))=some r:=by first|(rw [j2f] at H;exact H)|(simp only [j2f] at H ⊢;exact H)
  (try rw [j2f] at A7);have j8t:(IntKind.i64.wrap (je - 1))=j1a:=(i64_w _).trans j2f
  by_cases c11:0≤(j1a)
  rotate_left
  ·rw [if_neg c11] at H
   cases H
  rw [if_pos c11] at H;have j8y:=decide_eq_true c11;clear c11
  by_cases c12:(j1a) < (l0.length:Int)
  rotate_left
  ·rw [if_neg c12] at H
   cases H
  rw [if_pos c12] at H;have j8z:=decide_eq_true c12;clear c12
  by_cases c13:(rd l0 (j1a))≥(rd l0 je)
  ·rw [if_pos c13] at H
   have j3t:=decide_eq_true c13;clear c13;obtain rfl:=Option.some.inj H;have jw:0≤(je:Int):=odt_;have jx:je < (l0.length:Int):=odt_;obtain ⟨j2e,e101,j1l⟩:=Kd.at_int HR0.out je jw jx
   cases e101
   replace jw:=eq_true jw;replace jx:=eq_true jx
   go_wp2_with (first|((with_reducible refine gc_ 43 rfl ?_);refine gl_ (some 19) Try.func43 #[.int .i64 (rd l0 je),.int .i64 a1,.int .i64 a2] ?_;(with_reducible refine (spec_l1In.calls (rd l0 je) a1 a2 true _ A7.out).mono ?_);rintro e w' ⟨rfl,⟨nd,rfl⟩⟩;refine ⟨_,rfl,?_⟩;have j2k:0≤((j1a):Int):=of_decide_eq_true (by first|(with_reducible assumption)|assumption);have j2l:(j1a) < (l0.length:Int):=of_decide_eq_true (by first|(with_reducible assumption)|assumption);obtain ⟨j3u,e103,j3y⟩:=Kd.at_int HR0.out (j1a) j2k j2l;obtain rfl:j2e=j3u:=(by injection e103);replace j2k:=eq_true j2k;replace j2l:=eq_true j2l))
   go_ret;exact ⟨by first|rfl|(simp;done)|(simp only [← j2f] <;> (first|rfl|simp))|(simp [*];done),d0_⟩
  ·rw [if_neg c13] at H
   have j3t:=decide_eq_false c13;clear c13;have H':=ai_ H;clear H;have jw:0≤(je:Int):=odt_;have jx:je < (l0.length:Int):=odt_;obtain ⟨j2e,e101,j1l⟩:=Kd.at_int HR0.out je jw jx
   cases e101
   replace jw:=eq_true jw;replace jx:=eq_true jx
   go_wp2_with (first|((with_reducible refine gc_ 43 rfl ?_);refine gl_ (some 19) Try.func43 #[.int .i64 (rd l0 je),.int .i64 a1,.int .i64 a2] ?_;(with_reducible refine (spec_l1In.calls (rd l0 je) a1 a2 true _ A7.out).mono ?_);rintro e w' ⟨rfl,⟨nd,rfl⟩⟩;refine ⟨_,rfl,?_⟩;have j2k:0≤((j1a):Int):=of_decide_eq_true (by first|(with_reducible assumption)|assumption);have j2l:(j1a) < (l0.length:Int):=of_decide_eq_true (by first|(with_reducible assumption)|assumption);obtain ⟨j3u,e103,j3y⟩:=Kd.at_int HR0.out (j1a) j2k j2l;obtain rfl:j2e=j3u:=(by injection e103);replace j2k:=eq_true j2k;replace j2l:=eq_true j2l))
   go_roundg k1
   case measure=>have:=HK1.out;omega
   case rel=>exact ⟨(wrap64 (je+1)),rt_,H',⟨by have:=HK1.out;omega⟩,d0_⟩
def spec_buGood.j0:Nat→Bool→Int→Int→Int→List Int→Option (Bool)
 | 0,_,_,_,_,_=>none
 | k+1,x18,j3z,j4a,j4b,j1d=>if x18=true then (some false) else (if (wrap64 (j3z+(wrap64 ((wrap64 (j4b - 1))*j4a)))) > 2000 then (some false) else ((spec_l1In.f (j1d.length:Int) 2 12).bind fun j5n=>(if j5n=true then (if 0 < (j1d.length:Int) then (if (rd j1d 0)=0 then ((spec_l1Rising.f k j1d 0 500).bind fun j4c=>(some j4c)) else (some false)) else (none)) else (some false))))
def spec_buGood.f (k:Nat) (jb:Int) (jc:Int) (jd:Int) (ja:List Int):Option (Bool):=(spec_l1In.f jb 0 2000).bind fun j5o=>(if j5o=true then ((spec_l1In.f jc 1 2000).bind fun j5p=>(if j5p=true then ((spec_l1In.f jd 1 60).bind fun j4d=>(spec_buGood.j0 k (!j4d) jb jc jd ja)) else (spec_buGood.j0 k true jb jc jd ja))) else (spec_buGood.j0 k true jb jc jd ja))
theorem spec_buGood.calls (k:Nat) (jb:Int) (jc:Int) (jd:Int) (jf:Option Addr) (jg:Nat) (ja:List Int) (r:Bool) (w:World) (hr0_3:Kd.C Ki_ w jf ja.length ja) (hc0_3:ja.length≤jg) (h:spec_buGood.f k jb jc jd ja=some r) :
  Calls Try.prog 68 #[ag_ jb jc jd jf ja jg] w fun e w'=>e=.returned (.bool r)∧Below w.heap.size w w':=by
 have hu30:=Try.underlying30;have jh:=ai_ hr0_3;have jj:=ai_ hc0_3;clear hr0_3 hc0_3;have HB:=ai_ (Below.refl w.heap.size w);have H:=h
 unfold spec_buGood.f at H
 clear h;have HC2:=ai_ H;clear H;go_enter Try.func68,Try.ntmps68
 go_upto_region 1 with (first|((with_reducible refine gd_ 1 rfl ?_);(try (refine gate_guard (by rfl) ?_;dsimp only));refine bxe_ #[.int .i64 jb,.int .i64 jc,.int .i64 jd,.slice jf ja.length jg] 30 ?_;intro j6c hg w3 hbox hb;have jr:=ai_ (hbox);have j9a:=ai_ (gb_ hg (below_size (below_to HB)));have jy:=ai_ (gb_ hg (below_size (below_to HB)));replace HB:=ai_ (below_step (below_to HB) hb);clear hb hbox hg))
 (try simp only [Act.put,List.setIfInBounds_toArray,List.set_cons_zero,List.set_cons_succ])
 go_cut [18] (fun v18 wc => ∃ (kq:Nat) (j3g:Bool),v18=.bool j3g∧Aside0 (spec_buGood.j0 kq j3g jb jc jd ja=some r)∧Aside0 (kq≤k)∧B4_ wc j6c jb jc jd jf ja jg 30∧Aside0 (Below w.heap.size w wc))
 case first =>
  have H:=HC2.out;clear HC2;obtain ⟨j5o,A4,H⟩:=bs_ H;(try dsimp only at H)
  by_cases c5:j5o=true
  rotate_left
  ·replace c5:=Bool.eq_false_iff.mpr c5
   subst c5;rw [if_neg ft_] at H;have H':=ai_ H;clear H;obtain ⟨j1m,j1n,j1o,j1p,j1q,j1r,j1s,j1t⟩:=blk4_ jr
   go_wp2_with (first|((with_reducible refine gc_ 43 rfl ?_);refine gl_ (some 5) Try.func43 #[.int .i64 jb,.int .i64 0,.int .i64 2000] ?_;(with_reducible refine (spec_l1In.calls jb 0 2000 false _ A4.out).mono ?_);rintro e w' ⟨rfl,⟨nd,rfl⟩⟩;refine ⟨_,rfl,?_⟩))
   go_meet
   case rel=>exact ⟨_,(true),rt_,H',⟨by first|omega|exact Nat.le_refl _⟩,⟨blk_to jr⟩,⟨below_to1 HB jy.out⟩⟩
  subst c5;rw [if_pos rfl] at H;obtain ⟨j5p,A6,H⟩:=bs_ H;(try dsimp only at H)
  by_cases c7:j5p=true
  rotate_left
  ·replace c7:=Bool.eq_false_iff.mpr c7
   subst c7;rw [if_neg ft_] at H;have H':=ai_ H;clear H;obtain ⟨j3h,j3i,j3j,j3k,j3l,j3m,j3n,j3o⟩:=blk4_ jr
   go_wp2_with (first|((with_reducible refine gc_ 43 rfl ?_);refine gl_ (some 5) Try.func43 #[.int .i64 jb,.int .i64 0,.int .i64 2000] ?_;(with_reducible refine (spec_l1In.calls jb 0 2000 true _ A4.out).mono ?_);rintro e w' ⟨rfl,⟨nd,rfl⟩⟩;refine ⟨_,rfl,?_⟩)|(go_at_call 43;(with_reducible refine (spec_l1In.calls jc 1 2000 false _ A6.out).mono ?_);rintro e w' ⟨rfl,⟨nd,rfl⟩⟩))
   go_meet
   case rel=>exact ⟨_,(true),rt_,H',⟨by first|omega|exact Nat.le_refl _⟩,⟨blk_to jr⟩,⟨below_to1 HB jy.out⟩⟩
  subst c7;rw [if_pos rfl] at H;obtain ⟨j4d,A8,H⟩:=bs_ H;(try dsimp only at H);have H':=ai_ H;clear H;obtain ⟨j2m,j2n,j2o,j2p,j2q,j2r,j2s,j2t⟩:=blk4_ jr
  go_wp2_with (first|((with_reducible refine gc_ 43 rfl ?_);refine gl_ (some 5) Try.func43 #[.int .i64 jb,.int .i64 0,.int .i64 2000] ?_;(with_reducible refine (spec_l1In.calls jb 0 2000 true _ A4.out).mono ?_);rintro e w' ⟨rfl,⟨nd,rfl⟩⟩;refine ⟨_,rfl,?_⟩)|(go_at_call 43;(with_reducible refine (spec_l1In.calls jc 1 2000 true _ A6.out).mono ?_);rintro e w' ⟨rfl,⟨nd,rfl⟩⟩)|(go_at_call 43;(with_reducible refine (spec_l1In.calls jd 1 60 j4d _ A8.out).mono ?_);rintro e w' ⟨rfl,⟨nd,rfl⟩⟩))
  go_meet
  case rel=>exact ⟨_,(!j4d),rt_,H',⟨by first|omega|exact Nat.le_refl _⟩,⟨blk_to jr⟩,⟨below_to1 HB jy.out⟩⟩
 clear HC2
 try clear p2
 try clear c4
 try clear c5
 try clear c6
 try clear c7
 try clear j3h
 try clear j3i
 try clear j3j
 try clear j3k
 try clear j1m
 try clear j1n
 try clear j1o
 try clear j1p
 try clear j2m
 try clear j2n
 try clear j2o
 try clear j2p
 try clear j3l
 try clear j3m
 try clear j3n
 try clear j3o
 try clear j1q
 try clear j1r
 try clear j1s
 try clear j1t
 try clear j2q
 try clear j2r
 try clear j2s
 try clear j2t
 obtain ⟨kq,j3g,rfl,HA,HJ1,jr,HB⟩:=hcut
 cases kq with
 | zero=>exact absurd HA.out (by simp [spec_buGood.j0])
 | succ kj1 =>
  have H:=HA.out;clear HA;simp only [spec_buGood.j0] at H
  by_cases c12:j3g=true
  ·subst c12
   rw [if_pos rfl] at H;obtain rfl:=Option.some.inj H
   go_wp2
   go_ret;exact ⟨rtE_,below_to1 HB jy.out⟩
  replace c12:=Bool.eq_false_iff.mpr c12;subst c12;rw [if_neg ft_] at H
  by_cases c13:(wrap64 (jb+(wrap64 ((wrap64 (jd - 1))*jc)))) > 2000
  ·rw [if_pos c13] at H
   have j3t:=decide_eq_true c13;clear c13;obtain rfl:=Option.some.inj H;obtain ⟨j1u,j1v,j1w,j1x,j1y,j1z,j2a,j2b⟩:=blk4_ jr
   go_wp2
   go_ret;exact ⟨rtE_,below_to1 HB jy.out⟩
  rw [if_neg c13] at H;have j3t:=decide_eq_false c13;clear c13;obtain ⟨j5n,A15,H⟩:=bs_ H;(try dsimp only at H)
  by_cases c16:j5n=true
  rotate_left
  ·replace c16:=Bool.eq_false_iff.mpr c16
   subst c16;rw [if_neg ft_] at H;obtain rfl:=Option.some.inj H;obtain ⟨j6o,j6p,j6q,j6r,j6s,j6t,j6u,j6v⟩:=blk4_ jr
   go_wp2_with (first|(go_at_call 43;(with_reducible refine (spec_l1In.calls (ja.length:Int) 2 12 false _ A15.out).mono ?_);rintro e w' ⟨rfl,⟨nd,rfl⟩⟩))
   go_ret;exact ⟨rtE_,below_to1 HB jy.out⟩
  subst c16;rw [if_pos rfl] at H
  by_cases c17:0 < (ja.length:Int)
  rotate_left
  ·rw [if_neg c17] at H
   cases H
  rw [if_pos c17] at H;have j4x:=decide_eq_true c17;have j9b:decide (0 < ja.length)=true:=decide_eq_true (by omega);clear c17
  by_cases c18:(rd ja 0)=0
  ·rw [if_pos c18] at H
   have j6d:=beq_iff_eq.mpr c18;have j6e:=bne_eq_false_iff_eq.mpr c18;clear c18;replace H:=Option.bind_eq_some_iff.mp H;obtain ⟨j4c,A190,H⟩:=H;replace H:(some j4c)=some r:=H;have A19:=ai_ A190;clear A190;obtain rfl:=Option.some.inj H;obtain ⟨j6w,j6x,j6y,j6z,j7a,j7b,j7c,j7d⟩:=blk4_ jr
   go_wp2_with (first|(go_at_call 43;(with_reducible refine (spec_l1In.calls (ja.length:Int) 2 12 true _ A15.out).mono ?_);rintro e w' ⟨rfl,⟨nd,rfl⟩⟩;have j2u:0≤(0:Int):=(by omega);have j2v:0 < (ja.length:Int):=of_decide_eq_true (by first|(with_reducible assumption)|assumption);obtain ⟨j6f,e109,jl⟩:=Kd.at_int jh.out 0 j2u j2v;cases e109;have qi109:(0 < ja.length)=True:=eq_true (by omega);(try rw [show ((0:Int)).toNat=0 from rfl] at jl);(try rw [Addr.add_zero'] at jl);replace jl:=(HB.out.cell (World.block_lt_of_cell? w _ jl)).trans jl;replace j2u:=eq_true j2u;replace j2v:=eq_true j2v)|(go_at_call 79;(with_reducible refine (spec_l1Rising.calls kj1 _ _ ja 0 500 j4c _ ?side1 jj.out A19.out).mono ?_);(case side1=>repeat (first|exact (Kd.C_below jh.out (below_to1 HB jy.out))|(with_reducible refine Kd.C_alloc ?_ _)|(with_reducible refine Kd.C_drewN ?_ _)|(with_reducible refine Kd.C_drew ?_)));rintro e w' ⟨rfl,⟨nd,rfl⟩⟩))
   go_ret;exact ⟨rtE_,below_to1 HB jy.out⟩
  ·rw [if_neg c18] at H
   have j6d:=beq_eq_false_iff_ne.mpr c18;have j6e:=bne_iff_ne.mpr c18;obtain rfl:=Option.some.inj H;obtain ⟨j4e,j4f,j4g,j4h,j4i,j4j,j4k,j4l⟩:=blk4_ jr
   go_wp2_with (first|(go_at_call 43;(with_reducible refine (spec_l1In.calls (ja.length:Int) 2 12 true _ A15.out).mono ?_);rintro e w' ⟨rfl,⟨nd,rfl⟩⟩;have j2u:0≤(0:Int):=(by omega);have j2v:0 < (ja.length:Int):=of_decide_eq_true (by first|(with_reducible assumption)|assumption);obtain ⟨j6f,e109,jl⟩:=Kd.at_int jh.out 0 j2u j2v;cases e109;have qi109:(0 < ja.length)=True:=eq_true (by omega);(try rw [show ((0:Int)).toNat=0 from rfl] at jl);(try rw [Addr.add_zero'] at jl);replace jl:=(HB.out.cell (World.block_lt_of_cell? w _ jl)).trans jl;replace j2u:=eq_true j2u;replace j2v:=eq_true j2v))
   go_ret;exact ⟨rtE_,below_to1 HB jy.out⟩
def spec_buStop.f (k:Nat) (jb:Int) (jc:Int) (jd:Int) (ja:List Int) (a1:Int):Option (Bool):=(spec_buGood.f k jb jc jd ja).bind fun j5q=>(if j5q=true then ((spec_l1In.f a1 0 (wrap64 ((ja.length:Int) - 1))).bind fun j4m=>(some j4m)) else (some false))
theorem spec_buStop.calls (k:Nat) (jb:Int) (jc:Int) (jd:Int) (jf:Option Addr) (jg:Nat) (ja:List Int) (a1:Int) (r:Bool) (w:World) (hr0_3:Kd.C Ki_ w jf ja.length ja) (hc0_3:ja.length≤jg) (h:spec_buStop.f k jb jc jd ja a1=some r) :
  Calls Try.prog 42 #[ag_ jb jc jd jf ja jg,.int .i64 a1] w fun e w'=>e=.returned (.bool r)∧Below w.heap.size w w':=by
 have hu30:=Try.underlying30;have jh:=ai_ hr0_3;have jj:=ai_ hc0_3;clear hr0_3 hc0_3;have HB:=ai_ (Below.refl w.heap.size w);have H:=h
 unfold spec_buStop.f at H
 clear h;obtain ⟨j5q,A3,H⟩:=bs_ H;(try dsimp only at H)
 by_cases c4:j5q=true
 ·subst c4
  rw [if_pos rfl] at H;replace H:=Option.bind_eq_some_iff.mp H;obtain ⟨j4m,A50,H⟩:=H;replace H:(some j4m)=some r:=H;have A5:=ai_ A50;clear A50;obtain rfl:=Option.some.inj H;go_enter Try.func42,Try.ntmps42
  go_wp2_with (first|((with_reducible refine gd_ 2 rfl ?_);(try (refine gate_guard (by rfl) ?_;dsimp only));refine bxe_ #[.int .i64 jb,.int .i64 jc,.int .i64 jd,.slice jf ja.length jg] 30 ?_;intro j6g hg w6 hbox hb;have j1b:=ai_ (hbox);have j6h:=ai_ (gb_ hg (below_size (below_to HB)));have j2g:=ai_ (gb_ hg (below_size (below_to HB)));replace HB:=ai_ (below_step (below_to HB) hb);clear hb hbox hg;obtain ⟨j2w,j2x,j2y,j2z,j3a,j3b,j3c,j3d⟩:=blk4_ j1b)|((with_reducible refine gc_ 68 rfl ?_);refine gl_ (some 6) Try.func68 #[ag_ jb jc jd jf ja jg] ?_;(with_reducible refine (spec_buGood.calls k jb jc jd _ _ ja true _ (cb_ jh HB) jj.out A3.out).mono ?_);rintro e w8 ⟨rfl,hb⟩;refine ⟨_,rfl,?_⟩;replace j1b:=bb_ j1b hb;replace HB:=ai_ (below_step (below_to1 HB j2g.out) hb);clear hb;obtain ⟨j2m,j2n,j2o,j2p,j2q,j2r,j2s,j2t⟩:=blk4_ j1b)|(go_at_call 43;(with_reducible refine (spec_l1In.calls a1 0 (wrap64 ((ja.length:Int) - 1)) j4m _ A5.out).mono ?_);rintro e w' ⟨rfl,⟨nd,rfl⟩⟩))
  go_ret;exact ⟨rtE_,below_to1 HB j2g.out⟩
 ·replace c4:=Bool.eq_false_iff.mpr c4
  subst c4;rw [if_neg ft_] at H;obtain rfl:=Option.some.inj H;go_enter Try.func42,Try.ntmps42
  go_wp2_with (first|((with_reducible refine gd_ 2 rfl ?_);(try (refine gate_guard (by rfl) ?_;dsimp only));refine bxe_ #[.int .i64 jb,.int .i64 jc,.int .i64 jd,.slice jf ja.length jg] 30 ?_;intro j6g hg w10 hbox hb;have j1b:=ai_ (hbox);have j6h:=ai_ (gb_ hg (below_size (below_to HB)));have j2g:=ai_ (gb_ hg (below_size (below_to HB)));replace HB:=ai_ (below_step (below_to HB) hb);clear hb hbox hg;obtain ⟨j1m,j1n,j1o,j1p,j1q,j1r,j1s,j1t⟩:=blk4_ j1b)|((with_reducible refine gc_ 68 rfl ?_);refine gl_ (some 6) Try.func68 #[ag_ jb jc jd jf ja jg] ?_;(with_reducible refine (spec_buGood.calls k jb jc jd _ _ ja false _ (cb_ jh HB) jj.out A3.out).mono ?_);rintro e w12 ⟨rfl,hb⟩;refine ⟨_,rfl,?_⟩;replace j1b:=bb_ j1b hb;replace HB:=ai_ (below_step (below_to1 HB j2g.out) hb);clear hb))
  go_ret;exact ⟨rtE_,below_to1 HB j2g.out⟩
def spec_buMinute.f (a0:Int):Option (Bool):=(spec_l1In.f a0 0 2000).bind fun j4n=>(some j4n)
theorem spec_buMinute.calls (a0:Int) (r:Bool) (w:World) (h:spec_buMinute.f a0=some r) :
  Calls Try.prog 44 #[.int .i64 a0] w fun e w'=>e=.returned (.bool r)∧Drawn0 w w':=by
 have H:=h
 unfold spec_buMinute.f at H
 clear h;replace H:=Option.bind_eq_some_iff.mp H;obtain ⟨j4n,A20,H⟩:=H;replace H:(some j4n)=some r:=H;have A2:=ai_ A20;clear A20;obtain rfl:=Option.some.inj H;go_enter Try.func44,Try.ntmps44
 go_wp2_with (first|((with_reducible refine gc_ 43 rfl ?_);refine gl_ (some 4) Try.func43 #[.int .i64 a0,.int .i64 0,.int .i64 2000] ?_;(with_reducible refine (spec_l1In.calls a0 0 2000 j4n _ A2.out).mono ?_);rintro e w' ⟨rfl,⟨nd,rfl⟩⟩;refine ⟨_,rfl,?_⟩))
 go_ret;exact ⟨rt_,d0_⟩
def spec_buRide.f (k:Nat) (jb:Int) (jc:Int) (jd:Int) (ja:List Int) (a1:Int) (a2:Int):Option (Bool):=(spec_buStop.f k jb jc jd ja a1).bind fun j5r=>(if j5r=true then ((spec_buStop.f k jb jc jd ja a2).bind fun j5s=>(if j5s=true then (some (decide (a1 < a2))) else (some false))) else (some false))
theorem spec_buRide.calls (k:Nat) (jb:Int) (jc:Int) (jd:Int) (jf:Option Addr) (jg:Nat) (ja:List Int) (a1:Int) (a2:Int) (r:Bool) (w:World) (hr0_3:Kd.C Ki_ w jf ja.length ja) (hc0_3:ja.length≤jg) (h:spec_buRide.f k jb jc jd ja a1 a2=some r) :
  Calls Try.prog 45 #[ag_ jb jc jd jf ja jg,.int .i64 a1,.int .i64 a2] w fun e w'=>e=.returned (.bool r)∧Below w.heap.size w w':=by
 have hu30:=Try.underlying30;have jh:=ai_ hr0_3;have jj:=ai_ hc0_3;clear hr0_3 hc0_3;have HB:=ai_ (Below.refl w.heap.size w);have H:=h
 unfold spec_buRide.f at H
 clear h;obtain ⟨j5r,A4,H⟩:=bs_ H;(try dsimp only at H)
 by_cases c5:j5r=true
 rotate_left
 ·replace c5:=Bool.eq_false_iff.mpr c5
  subst c5;rw [if_neg ft_] at H;obtain rfl:=Option.some.inj H;go_enter Try.func45,Try.ntmps45
  go_wp2_with (first|((with_reducible refine gd_ 3 rfl ?_);refine bxe_ #[.int .i64 jb,.int .i64 jc,.int .i64 jd,.slice jf ja.length jg] 30 ?_;intro j4y hg w18 hbox hb;have jo:=ai_ (hbox);have j4z:=ai_ (gb_ hg (below_size (below_to HB)));have js:=ai_ (gb_ hg (below_size (below_to HB)));replace HB:=ai_ (below_step (below_to HB) hb);clear hb hbox hg;obtain ⟨j7e,j7f,j7g,j7h,j7i,j7j,j7k,j7l⟩:=blk4_ jo)|((with_reducible refine gc_ 42 rfl ?_);refine gl_ (some 9) Try.func42 #[ag_ jb jc jd jf ja jg,.int .i64 a1] ?_;(with_reducible refine (spec_buStop.calls k jb jc jd _ _ ja a1 false _ (cb_ jh HB) jj.out A4.out).mono ?_);rintro e w20 ⟨rfl,hb⟩;refine ⟨_,rfl,?_⟩;replace jo:=bb_ jo hb;replace HB:=ai_ (below_step (below_to1 HB js.out) hb);clear hb))
  go_ret;exact ⟨rtE_,below_to1 HB js.out⟩
 subst c5;rw [if_pos rfl] at H;obtain ⟨j5s,A6,H⟩:=bs_ H;(try dsimp only at H)
 by_cases c7:j5s=true
 ·subst c7
  rw [if_pos rfl] at H;obtain rfl:=Option.some.inj H;go_enter Try.func45,Try.ntmps45
  go_wp2_with (first|((with_reducible refine gd_ 3 rfl ?_);refine bxe_ #[.int .i64 jb,.int .i64 jc,.int .i64 jd,.slice jf ja.length jg] 30 ?_;intro j4y hg w8 hbox hb;have jo:=ai_ (hbox);have j4z:=ai_ (gb_ hg (below_size (below_to HB)));have js:=ai_ (gb_ hg (below_size (below_to HB)));replace HB:=ai_ (below_step (below_to HB) hb);clear hb hbox hg;obtain ⟨j2m,j2n,j2o,j2p,j2q,j2r,j2s,j2t⟩:=blk4_ jo)|((with_reducible refine gc_ 42 rfl ?_);refine gl_ (some 9) Try.func42 #[ag_ jb jc jd jf ja jg,.int .i64 a1] ?_;(with_reducible refine (spec_buStop.calls k jb jc jd _ _ ja a1 true _ (cb_ jh HB) jj.out A4.out).mono ?_);rintro e w10 ⟨rfl,hb⟩;refine ⟨_,rfl,?_⟩;replace jo:=bb_ jo hb;replace HB:=ai_ (below_step (below_to1 HB js.out) hb);clear hb;obtain ⟨j1m,j1n,j1o,j1p,j1q,j1r,j1s,j1t⟩:=blk4_ jo)|(go_at_call 42;(with_reducible refine (spec_buStop.calls k jb jc jd _ _ ja a2 true _ (cb_ jh HB) jj.out A6.out).mono ?_);rintro e w12 ⟨rfl,hb⟩;replace jo:=bb_ jo hb;replace HB:=ai_ (below_step (below_to1 HB js.out) hb);clear hb))
  go_ret;exact ⟨rtE_,below_to1 HB js.out⟩
 ·replace c7:=Bool.eq_false_iff.mpr c7
  subst c7;rw [if_neg ft_] at H;obtain rfl:=Option.some.inj H;go_enter Try.func45,Try.ntmps45
  go_wp2_with (first|((with_reducible refine gd_ 3 rfl ?_);refine bxe_ #[.int .i64 jb,.int .i64 jc,.int .i64 jd,.slice jf ja.length jg] 30 ?_;intro j4y hg w13 hbox hb;have jo:=ai_ (hbox);have j4z:=ai_ (gb_ hg (below_size (below_to HB)));have js:=ai_ (gb_ hg (below_size (below_to HB)));replace HB:=ai_ (below_step (below_to HB) hb);clear hb hbox hg;obtain ⟨j1u,j1v,j1w,j1x,j1y,j1z,j2a,j2b⟩:=blk4_ jo)|((with_reducible refine gc_ 42 rfl ?_);refine gl_ (some 9) Try.func42 #[ag_ jb jc jd jf ja jg,.int .i64 a1] ?_;(with_reducible refine (spec_buStop.calls k jb jc jd _ _ ja a1 true _ (cb_ jh HB) jj.out A4.out).mono ?_);rintro e w15 ⟨rfl,hb⟩;refine ⟨_,rfl,?_⟩;replace jo:=bb_ jo hb;replace HB:=ai_ (below_step (below_to1 HB js.out) hb);clear hb;obtain ⟨j7m,j7n,j7o,j7p,j7q,j7r,j7s,j7t⟩:=blk4_ jo)|(go_at_call 42;(with_reducible refine (spec_buStop.calls k jb jc jd _ _ ja a2 false _ (cb_ jh HB) jj.out A6.out).mono ?_);rintro e w17 ⟨rfl,hb⟩;replace jo:=bb_ jo hb;replace HB:=ai_ (below_step (below_to1 HB js.out) hb);clear hb))
  go_ret;exact ⟨rtE_,below_to1 HB js.out⟩
def spec_buTime.f (jb:Int) (jc:Int) (jd:Int) (ja:List Int) (a1:Int) (a2:Int):Option (Int):=if 0≤a2 then (if a2 < (ja.length:Int) then (some (wrap64 ((wrap64 (jb+(wrap64 (a1*jc))))+(rd ja a2)))) else (none)) else (none)
theorem spec_buTime.calls (jb:Int) (jc:Int) (jd:Int) (jf:Option Addr) (jg:Nat) (ja:List Int) (a1:Int) (a2:Int) (r:Int) (w:World) (hr0_3:Kd.C Ki_ w jf ja.length ja) (hc0_3:ja.length≤jg) (h:spec_buTime.f jb jc jd ja a1 a2=some r) :
  Calls Try.prog 62 #[ag_ jb jc jd jf ja jg,.int .i64 a1,.int .i64 a2] w fun e w'=>e=.returned (.int .i64 r)∧Below w.heap.size w w':=by
 have hu30:=Try.underlying30;have jh:=ai_ hr0_3;have jj:=ai_ hc0_3;clear hr0_3 hc0_3;have HB:=ai_ (Below.refl w.heap.size w);have H:=h
 unfold spec_buTime.f at H
 clear h
 by_cases c4:0≤a2
 ·rw [if_pos c4] at H
  have j3x:=decide_eq_true c4;clear c4
  by_cases c5:a2 < (ja.length:Int)
  ·rw [if_pos c5] at H
   have j5m:=decide_eq_true c5;clear c5;obtain rfl:=Option.some.inj H;go_enter Try.func62,Try.ntmps62
   go_wp2_with (first|((with_reducible refine gd_ 3 rfl ?_);refine bxe_ #[.int .i64 jb,.int .i64 jc,.int .i64 jd,.slice jf ja.length jg] 30 ?_;intro j5a hg w6 hbox hb;have j2h:=ai_ (hbox);have j5b:=ai_ (gb_ hg (below_size (below_to HB)));have j3v:=ai_ (gb_ hg (below_size (below_to HB)));replace HB:=ai_ (below_step (below_to HB) hb);clear hb hbox hg;obtain ⟨j2w,j2x,j2y,j2z,j3a,j3b,j3c,j3d⟩:=blk4_ j2h;have j1e:0≤(a2:Int):=of_decide_eq_true (by first|(with_reducible assumption)|assumption);have j1f:a2 < (ja.length:Int):=of_decide_eq_true (by first|(with_reducible assumption)|assumption);obtain ⟨j5c,e119,jm⟩:=Kd.at_int jh.out a2 j1e j1f;cases e119;replace jm:=(HB.out.cell (World.block_lt_of_cell? w _ jm)).trans jm;replace j1e:=eq_true j1e;replace j1f:=eq_true j1f))
   repeat (go_quiet (first|((with_reducible refine gd_ 3 rfl ?_);refine bxe_ #[.int .i64 jb,.int .i64 jc,.int .i64 jd,.slice jf ja.length jg] 30 ?_;intro j5a hg w6 hbox hb;have j2h:=ai_ (hbox);have j5b:=ai_ (gb_ hg (below_size (below_to HB)));have j3v:=ai_ (gb_ hg (below_size (below_to HB)));replace HB:=ai_ (below_step (below_to HB) hb);clear hb hbox hg;obtain ⟨j2w,j2x,j2y,j2z,j3a,j3b,j3c,j3d⟩:=blk4_ j2h;have j1e:0≤(a2:Int):=of_decide_eq_true (by first|(with_reducible assumption)|assumption);have j1f:a2 < (ja.length:Int):=of_decide_eq_true (by first|(with_reducible assumption)|assumption);obtain ⟨j5c,e119,jm⟩:=Kd.at_int jh.out a2 j1e j1f;cases e119;replace jm:=(HB.out.cell (World.block_lt_of_cell? w _ jm)).trans jm;replace j1e:=eq_true j1e;replace j1f:=eq_true j1f));try go_wp2_with (first|((with_reducible refine gd_ 3 rfl ?_);refine bxe_ #[.int .i64 jb,.int .i64 jc,.int .i64 jd,.slice jf ja.length jg] 30 ?_;intro j5a hg w6 hbox hb;have j2h:=ai_ (hbox);have j5b:=ai_ (gb_ hg (below_size (below_to HB)));have j3v:=ai_ (gb_ hg (below_size (below_to HB)));replace HB:=ai_ (below_step (below_to HB) hb);clear hb hbox hg;obtain ⟨j2w,j2x,j2y,j2z,j3a,j3b,j3c,j3d⟩:=blk4_ j2h;have j1e:0≤(a2:Int):=of_decide_eq_true (by first|(with_reducible assumption)|assumption);have j1f:a2 < (ja.length:Int):=of_decide_eq_true (by first|(with_reducible assumption)|assumption);obtain ⟨j5c,e119,jm⟩:=Kd.at_int jh.out a2 j1e j1f;cases e119;replace jm:=(HB.out.cell (World.block_lt_of_cell? w _ jm)).trans jm;replace j1e:=eq_true j1e;replace j1f:=eq_true j1f)))
   go_ret;exact ⟨rtE_,below_to1 HB j3v.out⟩
  ·rw [if_neg c5] at H
   cases H
 ·rw [if_neg c4] at H
  cases H
def spec_buNext.l0:Nat→Int→Int→Int→Int→Int→Int→List Int→Option (Int)
 | 0,_,_,_,_,_,_,_=>none
 | k+1,x1,x2,x7,j3p,j3q,j2c,j3r=>if x7 < j2c then ((spec_buTime.f j3p j3q j2c j3r x7 x1).bind fun j3w=>(if j3w≥x2 then (some x7) else (spec_buNext.l0 k x1 x2 (wrap64 (x7+1)) j3p j3q j2c j3r))) else (some (-1))
def spec_buNext.f (k:Nat) (jb:Int) (jc:Int) (jd:Int) (ja:List Int) (a1:Int) (a2:Int):Option (Int):=spec_buNext.l0 k a1 a2 0 jb jc jd ja
theorem spec_buNext.calls (k:Nat) (jb:Int) (jc:Int) (jd:Int) (jf:Option Addr) (jg:Nat) (ja:List Int) (a1:Int) (a2:Int) (r:Int) (w:World) (hr0_3:Kd.C Ki_ w jf ja.length ja) (hc0_3:ja.length≤jg) (h:spec_buNext.f k jb jc jd ja a1 a2=some r) :
  Calls Try.prog 63 #[ag_ jb jc jd jf ja jg,.int .i64 a1,.int .i64 a2] w fun e w'=>e=.returned (.int .i64 r)∧Below w.heap.size w w':=by
 have hu30:=Try.underlying30;have jh:=ai_ hr0_3;have jj:=ai_ hc0_3;clear hr0_3 hc0_3;have HB:=ai_ (Below.refl w.heap.size w);have H:(spec_buNext.l0 k a1 a2 0 jb jc jd ja)=some r:=h;clear h;have H':=ai_ H;clear H;go_enter Try.func63,Try.ntmps63
 go_wp2_with (first|((with_reducible refine gd_ 3 rfl ?_);refine bxe_ #[.int .i64 jb,.int .i64 jc,.int .i64 jd,.slice jf ja.length jg] 30 ?_;intro j6i hg w4 hbox hb;have jt:=ai_ (hbox);have j9c:=ai_ (gb_ hg (below_size (below_to HB)));have j1j:=ai_ (gb_ hg (below_size (below_to HB)));replace HB:=ai_ (below_step (below_to HB) hb);clear hb hbox hg))
 go_loopg [7] k (fun kq v7 w' => ∃ (j2d:Int),v7=.int .i64 j2d∧Aside0 (spec_buNext.l0 kq a1 a2 j2d jb jc jd ja=some r)∧Aside0 (kq≤k)∧Aside0 (w'.heap[j6i]?=some (.cells #[.int .i64 jb,.int .i64 jc,.int .i64 jd,(.slice jf ja.length jg)] 30 (0,0)))∧Aside0 (Below w.heap.size w w'))
 case atStart=>exact ⟨(0),rt_,H',⟨Nat.le_refl _⟩,⟨blk_to jt⟩,⟨below_to1 HB j1j.out⟩⟩
 clear H'
 try clear p2
 obtain ⟨j2d,rfl,HA,HK1,jt,HB⟩:=hrel
 cases gk with
 | zero=>exact absurd HA.out (by simp [spec_buNext.l0])
 | succ k1 =>
  have H:=HA.out;clear HA;simp only [spec_buNext.l0] at H
  by_cases c5:j2d < jd
  rotate_left
  ·rw [if_neg c5] at H
   have j5m:=decide_eq_false c5;clear c5;obtain rfl:=Option.some.inj H;obtain ⟨j4o,j4p,j4q,j4r,j4s,j4t,j4u,j4v⟩:=blk4_ jt
   go_wp2
   go_ret;exact ⟨rtE_,below_to1 HB j1j.out⟩
  rw [if_pos c5] at H;have j5m:=decide_eq_true c5;clear c5;obtain ⟨j3w,A6,H⟩:=bs_ H;(try dsimp only at H)
  by_cases c7:j3w≥a2
  ·rw [if_pos c7] at H
   have j8u:=decide_eq_true c7;clear c7;obtain rfl:=Option.some.inj H;obtain ⟨j5t,j5u,j5v,j5w,j5x,j5y,j5z,j6a⟩:=blk4_ jt
   go_wp2_with (first|((with_reducible refine gc_ 62 rfl ?_);refine gl_ (some 17) Try.func62 #[ag_ jb jc jd jf ja jg,.int .i64 j2d,.int .i64 a1] ?_;(with_reducible refine (spec_buTime.calls jb jc jd _ _ ja j2d a1 j3w _ (cb_ jh HB) jj.out A6.out).mono ?_);rintro e w9 ⟨rfl,hb⟩;refine ⟨_,rfl,?_⟩;replace jt:=bb_ jt hb;replace HB:=ai_ (below_step (below_to1 HB j1j.out) hb);clear hb))
   go_ret;exact ⟨rtE_,below_to1 HB j1j.out⟩
  ·rw [if_neg c7] at H
   have j8u:=decide_eq_false c7;clear c7;have H':=ai_ H;clear H;obtain ⟨j3h,j3i,j3j,j3k,j3l,j3m,j3n,j3o⟩:=blk4_ jt
   go_wp2_with (first|((with_reducible refine gc_ 62 rfl ?_);refine gl_ (some 17) Try.func62 #[ag_ jb jc jd jf ja jg,.int .i64 j2d,.int .i64 a1] ?_;(with_reducible refine (spec_buTime.calls jb jc jd _ _ ja j2d a1 j3w _ (cb_ jh HB) jj.out A6.out).mono ?_);rintro e w11 ⟨rfl,hb⟩;refine ⟨_,rfl,?_⟩;replace jt:=bb_ jt hb;replace HB:=ai_ (below_step (below_to1 HB j1j.out) hb);clear hb))
   go_roundg k1
   case measure=>have:=HK1.out;omega
   case rel=>exact ⟨(wrap64 (j2d+1)),rt_,H',⟨by have:=HK1.out;omega⟩,⟨blk_to jt⟩,⟨below_to1 HB j1j.out⟩⟩
def spec_buArrive.f (k:Nat) (jb:Int) (jc:Int) (jd:Int) (ja:List Int) (a1:Int) (a2:Int) (a3:Int):Option (Int):=(spec_buNext.f k jb jc jd ja a1 a3).bind fun j2i=>(if j2i < 0 then (some (-1)) else ((spec_buTime.f jb jc jd ja j2i a2).bind fun j4w=>(some j4w)))
theorem spec_buArrive.calls (k:Nat) (jb:Int) (jc:Int) (jd:Int) (jf:Option Addr) (jg:Nat) (ja:List Int) (a1:Int) (a2:Int) (a3:Int) (r:Int) (w:World) (hr0_3:Kd.C Ki_ w jf ja.length ja) (hc0_3:ja.length≤jg) (h:spec_buArrive.f k jb jc jd ja a1 a2 a3=some r) :
  Calls Try.prog 72 #[ag_ jb jc jd jf ja jg,.int .i64 a1,.int .i64 a2,.int .i64 a3] w fun e w'=>e=.returned (.int .i64 r)∧Below w.heap.size w w':=by
 have hu30:=Try.underlying30;have jh:=ai_ hr0_3;have jj:=ai_ hc0_3;clear hr0_3 hc0_3;have HB:=ai_ (Below.refl w.heap.size w);have H:=h
 unfold spec_buArrive.f at H
 clear h;obtain ⟨j2i,A5,H⟩:=bs_ H;(try dsimp only at H)
 by_cases c6:j2i < 0
 ·rw [if_pos c6] at H
  have j6b:=decide_eq_true c6;clear c6;obtain rfl:=Option.some.inj H;go_enter Try.func72,Try.ntmps72
  go_wp2_with (first|((with_reducible refine gd_ 4 rfl ?_);refine bxe_ #[.int .i64 jb,.int .i64 jc,.int .i64 jd,.slice jf ja.length jg] 30 ?_;intro j6j hg w7 hbox hb;have ju:=ai_ (hbox);have j6k:=ai_ (gb_ hg (below_size (below_to HB)));have j1k:=ai_ (gb_ hg (below_size (below_to HB)));replace HB:=ai_ (below_step (below_to HB) hb);clear hb hbox hg;obtain ⟨j5t,j5u,j5v,j5w,j5x,j5y,j5z,j6a⟩:=blk4_ ju)|((with_reducible refine gc_ 63 rfl ?_);refine gl_ (some 13) Try.func63 #[ag_ jb jc jd jf ja jg,.int .i64 a1,.int .i64 a3] ?_;(with_reducible refine (spec_buNext.calls k jb jc jd _ _ ja a1 a3 j2i _ (cb_ jh HB) jj.out A5.out).mono ?_);rintro e w9 ⟨rfl,hb⟩;refine ⟨_,rfl,?_⟩;replace ju:=bb_ ju hb;replace HB:=ai_ (below_step (below_to1 HB j1k.out) hb);clear hb))
  go_ret;exact ⟨rtE_,below_to1 HB j1k.out⟩
 ·rw [if_neg c6] at H
  have j6b:=decide_eq_false c6;clear c6;replace H:=Option.bind_eq_some_iff.mp H;obtain ⟨j4w,A100,H⟩:=H;replace H:(some j4w)=some r:=H;have A10:=ai_ A100;clear A100;obtain rfl:=Option.some.inj H;go_enter Try.func72,Try.ntmps72
  go_wp2_with (first|((with_reducible refine gd_ 4 rfl ?_);refine bxe_ #[.int .i64 jb,.int .i64 jc,.int .i64 jd,.slice jf ja.length jg] 30 ?_;intro j6j hg w11 hbox hb;have ju:=ai_ (hbox);have j6k:=ai_ (gb_ hg (below_size (below_to HB)));have j1k:=ai_ (gb_ hg (below_size (below_to HB)));replace HB:=ai_ (below_step (below_to HB) hb);clear hb hbox hg;obtain ⟨j4o,j4p,j4q,j4r,j4s,j4t,j4u,j4v⟩:=blk4_ ju)|((with_reducible refine gc_ 63 rfl ?_);refine gl_ (some 13) Try.func63 #[ag_ jb jc jd jf ja jg,.int .i64 a1,.int .i64 a3] ?_;(with_reducible refine (spec_buNext.calls k jb jc jd _ _ ja a1 a3 j2i _ (cb_ jh HB) jj.out A5.out).mono ?_);rintro e w13 ⟨rfl,hb⟩;refine ⟨_,rfl,?_⟩;replace ju:=bb_ ju hb;replace HB:=ai_ (below_step (below_to1 HB j1k.out) hb);clear hb;obtain ⟨j1u,j1v,j1w,j1x,j1y,j1z,j2a,j2b⟩:=blk4_ ju)|((with_reducible refine gc_ 62 rfl ?_);refine gl_ (some 19) Try.func62 #[ag_ jb jc jd jf ja jg,.int .i64 j2i,.int .i64 a2] ?_;(with_reducible refine (spec_buTime.calls jb jc jd _ _ ja j2i a2 j4w _ (cb_ jh HB) jj.out A10.out).mono ?_);rintro e w15 ⟨rfl,hb⟩;refine ⟨_,rfl,?_⟩;replace ju:=bb_ ju hb;replace HB:=ai_ (below_step (below_to1 HB j1k.out) hb);clear hb))
  go_ret;exact ⟨rtE_,below_to1 HB j1k.out⟩
def spec_buChange.f (k:Nat) (jb:Int) (jc:Int) (jd:Int) (ja:List Int) (a1:Int) (a2:Int) (j1g:Int) (j1h:Int) (j1i:Int) (jz:List Int) (a4:Int) (a5:Int) (a6:Int) (a7:Int):Option (Int × Int × Bool):=(spec_buArrive.f k jb jc jd ja a1 a2 a7).bind fun j1c=>(if j1c < 0 then (some (0,0,false)) else ((spec_buArrive.f k j1g j1h j1i jz a4 a5 (wrap64 (j1c+a6))).bind fun j3s=>(if j3s < 0 then (some (0,0,false)) else (some (wrap64 (j1c+a6),j3s,true)))))
theorem spec_buChange.calls (k:Nat) (jb:Int) (jc:Int) (jd:Int) (jf:Option Addr) (jg:Nat) (ja:List Int) (a1:Int) (a2:Int) (j1g:Int) (j1h:Int) (j1i:Int) (j3e:Option Addr) (j3f:Nat) (jz:List Int) (a4:Int) (a5:Int) (a6:Int) (a7:Int) (r1:Int) (r2:Int) (r3:Bool) (w:World) (hr0_3:Kd.C Ki_ w jf ja.length ja) (hc0_3:ja.length≤jg) (hr3_3:Kd.C Ki_ w j3e jz.length jz) (hc3_3:jz.length≤j3f) (h:spec_buChange.f k jb jc jd ja a1 a2 j1g j1h j1i jz a4 a5 a6 a7=some (r1,r2,r3)) :
  Calls Try.prog 46 #[ag_ jb jc jd jf ja jg,.int .i64 a1,.int .i64 a2,ag_ j1g j1h j1i j3e jz j3f,.int .i64 a4,.int .i64 a5,.int .i64 a6,.int .i64 a7] w fun e w'=>e=.returned (.tuple #[.int .i64 r1,.int .i64 r2,.bool r3])∧Below w.heap.size w w':=by
 have hu30:=Try.underlying30;have jh:=ai_ hr0_3;have jj:=ai_ hc0_3;clear hr0_3 hc0_3;have j5d:=ai_ hr3_3;have j5e:=ai_ hc3_3;clear hr3_3 hc3_3;have HB:=ai_ (Below.refl w.heap.size w);have H:=h
 unfold spec_buChange.f at H
 clear h;obtain ⟨j1c,A9,H⟩:=bs_ H;(try dsimp only at H)
 by_cases c10:j1c < 0
 ·rw [if_pos c10] at H
  have j6l:=decide_eq_true c10;clear c10;simp only [Option.some.injEq,Prod.mk.injEq] at H;obtain ⟨rfl,rfl,rfl⟩:=H;go_enter Try.func46,Try.ntmps46
  go_wp2_with (first|((with_reducible refine gd_ 8 rfl ?_);refine bxe_ #[.int .i64 jb,.int .i64 jc,.int .i64 jd,.slice jf ja.length jg] 30 ?_;intro j5f hg w11 hbox hb;have ji:=ai_ (hbox);have j5g:=ai_ (gb_ hg (below_size (below_to HB)));have jn:=ai_ (gb_ hg (below_size (below_to HB)));replace HB:=ai_ (below_step (below_to HB) hb);clear hb hbox hg)|((with_reducible refine gd_ 11 rfl ?_);refine bxe_ #[.int .i64 j1g,.int .i64 j1h,.int .i64 j1i,.slice j3e jz.length j3f] 30 ?_;intro j5h hg w12 hbox hb;have jp:=ai_ (hbox);have j5i:=ai_ (gb_ hg (below_size (below_to1 HB jn.out)));have jv:=ai_ (gb_ hg (below_size (below_to1 HB jn.out)));replace HB:=ai_ (below_step (below_to1 HB jn.out) hb);have jk:=ai_ (ne_ hg (blk_lt (blk_to ji)));replace ji:=bb_ ji hb;have jq:=ai_ jk.out.symm;clear hb hbox hg;have j9d:=jk.out;have j9e:=jq.out;obtain ⟨j1u,j1v,j1w,j1x,j1y,j1z,j2a,j2b⟩:=blk4_ ji)|((with_reducible refine gc_ 72 rfl ?_);refine gl_ (some 25) Try.func72 #[ag_ jb jc jd jf ja jg,.int .i64 a1,.int .i64 a2,.int .i64 a7] ?_;(with_reducible refine (spec_buArrive.calls k jb jc jd _ _ ja a1 a2 a7 j1c _ (cb_ jh HB) jj.out A9.out).mono ?_);rintro e w15 ⟨rfl,hb⟩;refine ⟨_,rfl,?_⟩;replace ji:=bb_ ji hb;replace jp:=bb_ jp hb;replace HB:=ai_ (below_step (below_to2 HB jn.out jv.out) hb);clear hb))
  go_ret3
  exact ⟨rtE_,below_to2 HB jn.out jv.out⟩
 rw [if_neg c10] at H;have j6l:=decide_eq_false c10;clear c10;obtain ⟨j3s,A16,H⟩:=bs_ H;(try dsimp only at H)
 by_cases c17:j3s < 0
 ·rw [if_pos c17] at H
  have j4x:=decide_eq_true c17;clear c17;simp only [Option.some.injEq,Prod.mk.injEq] at H;obtain ⟨rfl,rfl,rfl⟩:=H;go_enter Try.func46,Try.ntmps46
  go_wp2_with (first|((with_reducible refine gd_ 8 rfl ?_);refine bxe_ #[.int .i64 jb,.int .i64 jc,.int .i64 jd,.slice jf ja.length jg] 30 ?_;intro j5f hg w18 hbox hb;have ji:=ai_ (hbox);have j5g:=ai_ (gb_ hg (below_size (below_to HB)));have jn:=ai_ (gb_ hg (below_size (below_to HB)));replace HB:=ai_ (below_step (below_to HB) hb);clear hb hbox hg)|((with_reducible refine gd_ 11 rfl ?_);refine bxe_ #[.int .i64 j1g,.int .i64 j1h,.int .i64 j1i,.slice j3e jz.length j3f] 30 ?_;intro j5h hg w19 hbox hb;have jp:=ai_ (hbox);have j5i:=ai_ (gb_ hg (below_size (below_to1 HB jn.out)));have jv:=ai_ (gb_ hg (below_size (below_to1 HB jn.out)));replace HB:=ai_ (below_step (below_to1 HB jn.out) hb);have jk:=ai_ (ne_ hg (blk_lt (blk_to ji)));replace ji:=bb_ ji hb;have jq:=ai_ jk.out.symm;clear hb hbox hg;have j9f:=jk.out;have j9g:=jq.out;obtain ⟨j4e,j4f,j4g,j4h,j4i,j4j,j4k,j4l⟩:=blk4_ ji)|((with_reducible refine gc_ 72 rfl ?_);refine gl_ (some 25) Try.func72 #[ag_ jb jc jd jf ja jg,.int .i64 a1,.int .i64 a2,.int .i64 a7] ?_;(with_reducible refine (spec_buArrive.calls k jb jc jd _ _ ja a1 a2 a7 j1c _ (cb_ jh HB) jj.out A9.out).mono ?_);rintro e w22 ⟨rfl,hb⟩;refine ⟨_,rfl,?_⟩;replace ji:=bb_ ji hb;replace jp:=bb_ jp hb;replace HB:=ai_ (below_step (below_to2 HB jn.out jv.out) hb);clear hb;obtain ⟨j7u,j7v,j7w,j7x,j7y,j7z,j8a,j8b⟩:=blk4_ jp)|((with_reducible refine gc_ 72 rfl ?_);refine gl_ (some 35) Try.func72 #[ag_ j1g j1h j1i j3e jz j3f,.int .i64 a4,.int .i64 a5,.int .i64 (wrap64 (j1c+a6))] ?_;(with_reducible refine (spec_buArrive.calls k j1g j1h j1i _ _ jz a4 a5 (wrap64 (j1c+a6)) j3s _ (cb_ j5d HB) j5e.out A16.out).mono ?_);rintro e w24 ⟨rfl,hb⟩;refine ⟨_,rfl,?_⟩;replace ji:=bb_ ji hb;replace jp:=bb_ jp hb;replace HB:=ai_ (below_step (below_to2 HB jn.out jv.out) hb);clear hb))
  go_ret3
  exact ⟨rtE_,below_to2 HB jn.out jv.out⟩
 ·rw [if_neg c17] at H
  have j4x:=decide_eq_false c17;clear c17;simp only [Option.some.injEq,Prod.mk.injEq] at H;obtain ⟨rfl,rfl,rfl⟩:=H;go_enter Try.func46,Try.ntmps46
  go_wp2_with (first|((with_reducible refine gd_ 8 rfl ?_);refine bxe_ #[.int .i64 jb,.int .i64 jc,.int .i64 jd,.slice jf ja.length jg] 30 ?_;intro j5f hg w25 hbox hb;have ji:=ai_ (hbox);have j5g:=ai_ (gb_ hg (below_size (below_to HB)));have jn:=ai_ (gb_ hg (below_size (below_to HB)));replace HB:=ai_ (below_step (below_to HB) hb);clear hb hbox hg)|((with_reducible refine gd_ 11 rfl ?_);refine bxe_ #[.int .i64 j1g,.int .i64 j1h,.int .i64 j1i,.slice j3e jz.length j3f] 30 ?_;intro j5h hg w26 hbox hb;have jp:=ai_ (hbox);have j5i:=ai_ (gb_ hg (below_size (below_to1 HB jn.out)));have jv:=ai_ (gb_ hg (below_size (below_to1 HB jn.out)));replace HB:=ai_ (below_step (below_to1 HB jn.out) hb);have jk:=ai_ (ne_ hg (blk_lt (blk_to ji)));replace ji:=bb_ ji hb;have jq:=ai_ jk.out.symm;clear hb hbox hg;have j9h:=jk.out;have j9i:=jq.out;obtain ⟨j8c,j8d,j8e,j8f,j8g,j8h,j8i,j8j⟩:=blk4_ ji)|((with_reducible refine gc_ 72 rfl ?_);refine gl_ (some 25) Try.func72 #[ag_ jb jc jd jf ja jg,.int .i64 a1,.int .i64 a2,.int .i64 a7] ?_;(with_reducible refine (spec_buArrive.calls k jb jc jd _ _ ja a1 a2 a7 j1c _ (cb_ jh HB) jj.out A9.out).mono ?_);rintro e w29 ⟨rfl,hb⟩;refine ⟨_,rfl,?_⟩;replace ji:=bb_ ji hb;replace jp:=bb_ jp hb;replace HB:=ai_ (below_step (below_to2 HB jn.out jv.out) hb);clear hb;obtain ⟨j8k,j8l,j8m,j8n,j8o,j8p,j8q,j8r⟩:=blk4_ jp)|((with_reducible refine gc_ 72 rfl ?_);refine gl_ (some 35) Try.func72 #[ag_ j1g j1h j1i j3e jz j3f,.int .i64 a4,.int .i64 a5,.int .i64 (wrap64 (j1c+a6))] ?_;(with_reducible refine (spec_buArrive.calls k j1g j1h j1i _ _ jz a4 a5 (wrap64 (j1c+a6)) j3s _ (cb_ j5d HB) j5e.out A16.out).mono ?_);rintro e w31 ⟨rfl,hb⟩;refine ⟨_,rfl,?_⟩;replace ji:=bb_ ji hb;replace jp:=bb_ jp hb;replace HB:=ai_ (below_step (below_to2 HB jn.out jv.out) hb);clear hb))
  go_ret3
  exact ⟨rtE_,below_to2 HB jn.out jv.out⟩
def spec_l1Own.f (l0:List Int):Option (List Int):=(some (([]:List Int):List Int)).bind fun j2j=>(if j2j.length+l0.length < 17592186044416 then (some (j2j ++ l0)) else (none))
theorem spec_l1Own.calls (A0:Option Addr) (c0:Nat) (l0:List Int) (r:List Int) (w:World) (hr0:Kd.C Ki_ w A0 l0.length l0) (hc0:l0.length≤c0) (h:spec_l1Own.f l0=some r) :
  Calls Try.prog 47 #[.slice A0 l0.length c0] w fun e w' => ∃ Ab:Value,e=.returned (Ab)∧Kd.R Ki_ 3 w' w.heap.size (fun _=>True) Ab r∧Below w.heap.size w w':=by
 have HR0:=ai_ hr0;have HC0:=ai_ hc0;clear hr0 hc0;have HB:=ai_ (Below.refl w.heap.size w);have H:=h
 unfold spec_l1Own.f at H
 clear h
 obtain ⟨j2j,hy129⟩:∃ y_:List Int,y_=(([]:List Int)):=⟨_,rfl⟩
 replace H:(if j2j.length+l0.length < 17592186044416 then (some (j2j ++ l0)) else (none))=some r:=rx_ H hy129;have j5j:=ai_ hy129;clear hy129
 by_cases c2:j2j.length+l0.length < 17592186044416
 ·rw [if_pos c2] at H
  have j8v:=ai_ c2;clear c2
  obtain ⟨j8w,hy132⟩:∃ y_:List Int,y_=(j2j ++ l0):=⟨_,rfl⟩
  replace H:(some j8w)=some r:=rx_ H hy132;have j6m:=ai_ hy132;clear hy132;obtain rfl:=Option.some.inj H;go_enter Try.func47,Try.ntmps47
  go_wp2_with (first|((with_reducible refine gd_ 3 rfl ?_);refine lit_ 3 3 [] ?_;intro j8x w3 ho4 hb hg_ hnew_;clear hg_ hnew_;(first|rw [← j5j.out] at ho4|(simp only [Int.reduceToNat] at ho4;rw [← j5j.out] at ho4));have j5k:=ai_ (Kd.R_lower ho4 (below_size (below_to HB)));replace HB:=ai_ (below_step (below_to HB) hb);clear hb ho4)|((with_reducible refine gate_builtin (b:=.append) (xs:=#[.tmp 3,.tmp 4]) rfl ?_);at_builtin;refine Kd.R_append_rows Ki_ (w0:=w) w.heap.size rfl (.tmp 3) (.tmp 4) 22 3 (.int .i64 0) 8 rfl Try.underlying22 info3 rfl (by decide) (by omega) j8x j2j l0 _ _ _ (fun _=>True) (fun _=>False) rfl rfl ?aO ?aR (fun _ _ h=>h) (fun _ h=>h.elim) ?aF ?aB ?aS ?aL ?_;(case aR=>repeat (first|exact (Kd.C_below HR0.out HB.out)|(with_reducible refine Kd.C_alloc ?_ _)|(with_reducible refine Kd.C_drewN ?_ _)|(with_reducible refine Kd.C_drew ?_)));(case aB=>exact (below_to HB));(case aF=>exact (fun _ _=>trivial));(case aO=>exact (kd_to j5k));(case aS=>exact (below_size (below_to HB)));(case aL=>have:=j8v.out;omega);intro j9j w5 ho hb hg hat;rw [← j6m.out] at ho;replace HB:=ai_ (hb);have j6n:=ai_ (ho);clear j5k;clear ho hb hg hat))
  go_ret;exact ⟨_,rtE_,kd_to j6n,below_to HB⟩
 ·rw [if_neg c2] at H
  cases H
end Go.Proofs.Ythdnodmidbcgpaa.QE
