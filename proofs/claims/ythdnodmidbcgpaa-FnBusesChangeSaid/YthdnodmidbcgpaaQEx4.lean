import Derived.Test.YthdnodmidbcgpaaQEx0
namespace Go.Proofs.Ythdnodmidbcgpaa.QE
open Go.Proofs.Ythdnodmidbcgpaa.X Go.RowKit Go.Proofs.YthdnodmidbcgpaaW.PrintWords Go.Proofs.YthdnodmidbcgpaaW.PrintLast Go.Proofs.YthdnodmidbcgpaaW.PrintMore
set_option maxHeartbeats 8000000
set_option maxRecDepth 100000
attribute [local go_sem] max2_int min2_int max_two min_two max_three min_three max_four min_four
set_option linter.unusedVariables false
set_option linter.unusedSimpArgs false
def impl_within.f (a0:Int) (a1:Int) (a2:Int):Option (Bool):=if a0≥a1 then (some (decide (a0≤a2))) else (some false)
theorem impl_within.calls (a0:Int) (a1:Int) (a2:Int) (r:Bool) (w:World) (h:impl_within.f a0 a1 a2=some r) :
  Calls Try.prog 50 #[.int .i64 a0,.int .i64 a1,.int .i64 a2] w fun e w'=>e=.returned (.bool r)∧Drawn0 w w':=by
 have H:=h
 unfold impl_within.f at H
 clear h
 by_cases c4:a0≥a1
 ·rw [if_pos c4] at H
  have j2z:=decide_eq_true c4;clear c4;obtain rfl:=Option.some.inj H;go_enter Try.func50,Try.ntmps50
  go_wp2
  go_ret;exact ⟨rt_,d0_⟩
 ·rw [if_neg c4] at H
  have j2z:=decide_eq_false c4;clear c4;obtain rfl:=Option.some.inj H;go_enter Try.func50,Try.ntmps50
  go_wp2
  go_ret;exact ⟨rt_,d0_⟩
def impl_isMinute.f (a0:Int):Option (Bool):=(impl_within.f a0 0 2000).bind fun j3h=>(some j3h)
theorem impl_isMinute.calls (a0:Int) (r:Bool) (w:World) (h:impl_isMinute.f a0=some r) :
  Calls Try.prog 51 #[.int .i64 a0] w fun e w'=>e=.returned (.bool r)∧Drawn0 w w':=by
 have H:=h
 unfold impl_isMinute.f at H
 clear h;replace H:=Option.bind_eq_some_iff.mp H;obtain ⟨j3h,A20,H⟩:=H;replace H:(some j3h)=some r:=H;have A2:=ai_ A20;clear A20;obtain rfl:=Option.some.inj H;go_enter Try.func51,Try.ntmps51
 go_wp2_with (first|((with_reducible refine gc_ 50 rfl ?_);refine gl_ (some 4) Try.func50 #[.int .i64 a0,.int .i64 0,.int .i64 2000] ?_;(with_reducible refine (impl_within.calls a0 0 2000 j3h _ A2.out).mono ?_);rintro e w' ⟨rfl,⟨nd,rfl⟩⟩;refine ⟨_,rfl,?_⟩))
 go_ret;exact ⟨rt_,d0_⟩
def impl_increasing.l0:Nat→List Int→Int→Option (Bool)
 | 0,_,_=>none
 | k+1,x0,x3=>if x3 < (x0.length:Int) then (if 0≤(wrap64 (x3 - 1)) then (if (wrap64 (x3 - 1)) < (x0.length:Int) then (if 0≤x3 then (if (rd x0 (wrap64 (x3 - 1)))≥(rd x0 x3) then (some false) else (impl_increasing.l0 k x0 (wrap64 (x3+1)))) else (none)) else (none)) else (none)) else (some true)
def impl_increasing.f (k:Nat) (l0:List Int):Option (Bool):=impl_increasing.l0 k l0 1
theorem impl_increasing.calls (k:Nat) (A0:Option Addr) (c0:Nat) (l0:List Int) (r:Bool) (w:World) (hr0:Kd.C Ki_ w A0 l0.length l0) (hc0:l0.length≤c0) (h:impl_increasing.f k l0=some r) :
  Calls Try.prog 71 #[.slice A0 l0.length c0] w fun e w'=>e=.returned (.bool r)∧Drawn0 w w':=by
 have HR0:=ai_ hr0;have HC0:=ai_ hc0;clear hr0 hc0;have H:(impl_increasing.l0 k l0 1)=some r:=h;clear h;have H':=ai_ H;clear H;go_enter Try.func71,Try.ntmps71
 go_wp2
 repeat (go_quiet (fail);try go_wp2)
 go_loopg [3] k (fun kq v3 w' => ∃ (ju:Int),v3=.int .i64 ju∧Aside0 (impl_increasing.l0 kq l0 ju=some r)∧Aside0 (kq≤k)∧Drawn0 w w')
 case atStart=>exact ⟨(1),rt_,H',⟨Nat.le_refl _⟩,d0_⟩
 clear H';obtain ⟨ju,rfl,HA,HK1,⟨m1,rfl⟩⟩:=hrel
 cases gk with
 | zero=>exact absurd HA.out (by simp [impl_increasing.l0])
 | succ k1 =>
  have H:=HA.out;clear HA;simp only [impl_increasing.l0] at H
  by_cases c2:ju < (l0.length:Int)
  rotate_left
  ·rw [if_neg c2] at H
   have j8t:=decide_eq_false c2;clear c2;obtain rfl:=Option.some.inj H
   go_wp2
   repeat (go_quiet (fail);try go_wp2)
   go_ret;exact ⟨rt_,d0_⟩
  rw [if_pos c2] at H;have j8t:=decide_eq_true c2;clear c2
  obtain ⟨ji3,j3i⟩:∃ j_:Int,(wrap64 (ju - 1))=j_:=⟨_,rfl⟩
  replace H:(if 0≤(ji3) then (if (ji3) < (l0.length:Int) then (if 0≤ju then (if (rd l0 (ji3))≥(rd l0 ju) then (some false) else (impl_increasing.l0 k1 l0 (wrap64 (ju+1)))) else (none)) else (none)) else (none))=some r:=by first|(rw [j3i] at H;exact H)|(simp only [j3i] at H ⊢;exact H)
  have j9c:(IntKind.i64.wrap (ju - 1))=ji3:=(i64_w _).trans j3i
  by_cases c4:0≤(ji3)
  rotate_left
  ·rw [if_neg c4] at H
   cases H
  rw [if_pos c4] at H;have j2z:=decide_eq_true c4;clear c4
  by_cases c5:(ji3) < (l0.length:Int)
  rotate_left
  ·rw [if_neg c5] at H
   cases H
  rw [if_pos c5] at H;have j5p:=decide_eq_true c5;clear c5
  by_cases c6:0≤ju
  rotate_left
  ·rw [if_neg c6] at H
   cases H
  rw [if_pos c6] at H;have j8u:=decide_eq_true c6;clear c6
  by_cases c7:(rd l0 (ji3))≥(rd l0 ju)
  ·rw [if_pos c7] at H
   have j3a:=decide_eq_true c7;clear c7;obtain rfl:=Option.some.inj H;have j1z:0≤((ji3):Int):=odt_;have j2a:(ji3) < (l0.length:Int):=odt_;obtain ⟨j3b,e162,j3j⟩:=Kd.at_int HR0.out (ji3) j1z j2a
   cases e162
   replace j1z:=eq_true j1z;replace j2a:=eq_true j2a;have j2b:0≤(ju:Int):=odt_;have j2c:ju < (l0.length:Int):=odt_;obtain ⟨j3c,e163,j3k⟩:=Kd.at_int HR0.out ju j2b j2c
   obtain rfl:j3b=j3c:=(by injection e163)
   replace j2b:=eq_true j2b;replace j2c:=eq_true j2c
   go_wp2
   repeat (go_quiet (fail);try go_wp2)
   go_ret;exact ⟨by first|rfl|(simp;done)|(simp only [← j3i] <;> (first|rfl|simp))|(simp [*];done),d0_⟩
  ·rw [if_neg c7] at H
   have j3a:=decide_eq_false c7;clear c7;have H':=ai_ H;clear H;have j1z:0≤((ji3):Int):=odt_;have j2a:(ji3) < (l0.length:Int):=odt_;obtain ⟨j3b,e162,j3j⟩:=Kd.at_int HR0.out (ji3) j1z j2a
   cases e162
   replace j1z:=eq_true j1z;replace j2a:=eq_true j2a;have j2b:0≤(ju:Int):=odt_;have j2c:ju < (l0.length:Int):=odt_;obtain ⟨j3c,e163,j3k⟩:=Kd.at_int HR0.out ju j2b j2c
   obtain rfl:j3b=j3c:=(by injection e163)
   replace j2b:=eq_true j2b;replace j2c:=eq_true j2c
   go_wp2
   repeat (go_quiet (fail);try go_wp2)
   go_roundg k1
   case measure=>have:=HK1.out;omega
   case rel=>exact ⟨(wrap64 (ju+1)),rt_,H',⟨by have:=HK1.out;omega⟩,d0_⟩
def impl_IsLine.j0:Nat→Bool→Int→Int→Int→List Int→Option (Bool)
 | 0,_,_,_,_,_=>none
 | k+1,x30,j6u,j6v,j6w,jp=>if x30=true then (some false) else ((impl_within.f (jp.length:Int) 2 12).bind fun j5q=>(if j5q=true then (if 0 < (jp.length:Int) then (if (rd jp 0)=0 then ((impl_increasing.f k jp).bind fun j5r=>(if j5r=true then (if 0≤(wrap64 ((jp.length:Int) - 1)) then (if (wrap64 ((jp.length:Int) - 1)) < (jp.length:Int) then (some (decide ((rd jp (wrap64 ((jp.length:Int) - 1)))≤500))) else (none)) else (none)) else (some false))) else (some false)) else (none)) else (some false)))
def impl_IsLine.f (k:Nat) (jc:Int) (jb:Int) (jd:Int) (ja:List Int):Option (Bool):=(impl_isMinute.f jc).bind fun j5s=>(if j5s=true then ((impl_within.f jb 1 2000).bind fun j5t=>(if j5t=true then ((impl_within.f jd 1 60).bind fun j5u=>(if j5u=true then (impl_IsLine.j0 k (decide ((wrap64 (jc+(wrap64 ((wrap64 (jd - 1))*jb)))) > 2000)) jc jb jd ja) else (impl_IsLine.j0 k true jc jb jd ja))) else (impl_IsLine.j0 k true jc jb jd ja))) else (impl_IsLine.j0 k true jc jb jd ja))
theorem impl_IsLine.calls (k:Nat) (jc:Int) (jb:Int) (jd:Int) (jf:Option Addr) (jg:Nat) (ja:List Int) (r:Bool) (w:World) (hr0_3:Kd.C Ki_ w jf ja.length ja) (hc0_3:ja.length≤jg) (h:impl_IsLine.f k jc jb jd ja=some r) :
  Calls Try.prog 40 #[ag_ jc jb jd jf ja jg] w fun e w'=>e=.returned (.bool r)∧Below w.heap.size w w':=by
 have hu30:=Try.underlying30;have ji:=ai_ hr0_3;have jl:=ai_ hc0_3;clear hr0_3 hc0_3;have HB:=ai_ (Below.refl w.heap.size w);have H:=h
 unfold impl_IsLine.f at H
 clear h;have HC2:=ai_ H;clear H;go_enter Try.func40,Try.ntmps40
 go_upto_region 1 with (first|((with_reducible refine gd_ 1 rfl ?_);(try (refine gate_guard (by rfl) ?_;dsimp only));refine bxe_ #[.int .i64 jc,.int .i64 jb,.int .i64 jd,.slice jf ja.length jg] 30 ?_;intro j6j hg w3 hbox hb;have js:=ai_ (hbox);have j9d:=ai_ (gb_ hg (below_size (below_to HB)));have jv:=ai_ (gb_ hg (below_size (below_to HB)));replace HB:=ai_ (below_step (below_to HB) hb);clear hb hbox hg))
 (try simp only [Act.put,List.setIfInBounds_toArray,List.set_cons_zero,List.set_cons_succ])
 go_cut [30] (fun v30 wc => ∃ (kq:Nat) (j2q:Bool),v30=.bool j2q∧Aside0 (impl_IsLine.j0 kq j2q jc jb jd ja=some r)∧Aside0 (kq≤k)∧B4_ wc j6j jc jb jd jf ja jg 30∧Aside0 (Below w.heap.size w wc))
 case first =>
  have H:=HC2.out;clear HC2;obtain ⟨j5s,A4,H⟩:=bs_ H;(try dsimp only at H)
  by_cases c5:j5s=true
  rotate_left
  ·replace c5:=Bool.eq_false_iff.mpr c5
   subst c5;rw [if_neg ft_] at H;have H':=ai_ H;clear H;obtain ⟨j2r,j2s,j2t,j2u,j2v,j2w,j2x,j2y⟩:=blk4_ js
   go_wp2_with (first|((with_reducible refine gc_ 51 rfl ?_);refine gl_ (some 5) Try.func51 #[.int .i64 jc] ?_;(with_reducible refine (impl_isMinute.calls jc false _ A4.out).mono ?_);rintro e w' ⟨rfl,⟨nd,rfl⟩⟩;refine ⟨_,rfl,?_⟩))
   go_meet
   case rel=>exact ⟨_,(true),rt_,H',⟨by first|omega|exact Nat.le_refl _⟩,⟨blk_to js⟩,⟨below_to1 HB jv.out⟩⟩
  subst c5;rw [if_pos rfl] at H;obtain ⟨j5t,A6,H⟩:=bs_ H;(try dsimp only at H)
  by_cases c7:j5t=true
  rotate_left
  ·replace c7:=Bool.eq_false_iff.mpr c7
   subst c7;rw [if_neg ft_] at H;have H':=ai_ H;clear H;obtain ⟨j3l,j3m,j3n,j3o,j3p,j3q,j3r,j3s⟩:=blk4_ js
   go_wp2_with (first|((with_reducible refine gc_ 51 rfl ?_);refine gl_ (some 5) Try.func51 #[.int .i64 jc] ?_;(with_reducible refine (impl_isMinute.calls jc true _ A4.out).mono ?_);rintro e w' ⟨rfl,⟨nd,rfl⟩⟩;refine ⟨_,rfl,?_⟩)|(go_at_call 50;(with_reducible refine (impl_within.calls jb 1 2000 false _ A6.out).mono ?_);rintro e w' ⟨rfl,⟨nd,rfl⟩⟩))
   go_meet
   case rel=>exact ⟨_,(true),rt_,H',⟨by first|omega|exact Nat.le_refl _⟩,⟨blk_to js⟩,⟨below_to1 HB jv.out⟩⟩
  subst c7;rw [if_pos rfl] at H;obtain ⟨j5u,A8,H⟩:=bs_ H;(try dsimp only at H)
  by_cases c9:j5u=true
  ·subst c9
   rw [if_pos rfl] at H;have H':=ai_ H;clear H;obtain ⟨j3t,j3u,j3v,j3w,j3x,j3y,j3z,j4a⟩:=blk4_ js
   go_wp2_with (first|((with_reducible refine gc_ 51 rfl ?_);refine gl_ (some 5) Try.func51 #[.int .i64 jc] ?_;(with_reducible refine (impl_isMinute.calls jc true _ A4.out).mono ?_);rintro e w' ⟨rfl,⟨nd,rfl⟩⟩;refine ⟨_,rfl,?_⟩)|(go_at_call 50;(with_reducible refine (impl_within.calls jb 1 2000 true _ A6.out).mono ?_);rintro e w' ⟨rfl,⟨nd,rfl⟩⟩)|(go_at_call 50;(with_reducible refine (impl_within.calls jd 1 60 true _ A8.out).mono ?_);rintro e w' ⟨rfl,⟨nd,rfl⟩⟩))
   go_meet
   case rel=>exact ⟨_,(decide ((wrap64 (jc+(wrap64 ((wrap64 (jd - 1))*jb)))) > 2000)),rt_,H',⟨by first|omega|exact Nat.le_refl _⟩,⟨blk_to js⟩,⟨below_to1 HB jv.out⟩⟩
  ·replace c9:=Bool.eq_false_iff.mpr c9
   subst c9;rw [if_neg ft_] at H;have H':=ai_ H;clear H;obtain ⟨j1k,j1l,j1m,j1n,j1o,j1p,j1q,j1r⟩:=blk4_ js
   go_wp2_with (first|((with_reducible refine gc_ 51 rfl ?_);refine gl_ (some 5) Try.func51 #[.int .i64 jc] ?_;(with_reducible refine (impl_isMinute.calls jc true _ A4.out).mono ?_);rintro e w' ⟨rfl,⟨nd,rfl⟩⟩;refine ⟨_,rfl,?_⟩)|(go_at_call 50;(with_reducible refine (impl_within.calls jb 1 2000 true _ A6.out).mono ?_);rintro e w' ⟨rfl,⟨nd,rfl⟩⟩)|(go_at_call 50;(with_reducible refine (impl_within.calls jd 1 60 false _ A8.out).mono ?_);rintro e w' ⟨rfl,⟨nd,rfl⟩⟩))
   go_meet
   case rel=>exact ⟨_,(true),rt_,H',⟨by first|omega|exact Nat.le_refl _⟩,⟨blk_to js⟩,⟨below_to1 HB jv.out⟩⟩
 clear HC2
 try clear p2
 try clear c4
 try clear c5
 try clear p6
 try clear c7
 try clear c9
 try clear j3t
 try clear j3u
 try clear j3v
 try clear j3w
 try clear j1k
 try clear j1l
 try clear j1m
 try clear j1n
 try clear j3l
 try clear j3m
 try clear j3n
 try clear j3o
 try clear j2r
 try clear j2s
 try clear j2t
 try clear j2u
 try clear j3x
 try clear j3y
 try clear j3z
 try clear j4a
 try clear j1o
 try clear j1p
 try clear j1q
 try clear j1r
 try clear j3p
 try clear j3q
 try clear j3r
 try clear j3s
 try clear j2v
 try clear j2w
 try clear j2x
 try clear j2y
 obtain ⟨kq,j2q,rfl,HA,HJ1,js,HB⟩:=hcut
 cases kq with
 | zero=>exact absurd HA.out (by simp [impl_IsLine.j0])
 | succ kj1 =>
  have H:=HA.out;clear HA;simp only [impl_IsLine.j0] at H
  by_cases c14:j2q=true
  ·subst c14
   rw [if_pos rfl] at H;obtain rfl:=Option.some.inj H
   go_wp2
   go_ret;exact ⟨rtE_,below_to1 HB jv.out⟩
  replace c14:=Bool.eq_false_iff.mpr c14;subst c14;rw [if_neg ft_] at H;obtain ⟨j5q,A15,H⟩:=bs_ H;(try dsimp only at H)
  by_cases c16:j5q=true
  rotate_left
  ·replace c16:=Bool.eq_false_iff.mpr c16
   subst c16;rw [if_neg ft_] at H;obtain rfl:=Option.some.inj H;obtain ⟨j6x,j6y,j6z,j7a,j7b,j7c,j7d,j7e⟩:=blk4_ js
   go_wp2_with (first|((with_reducible refine gc_ 50 rfl ?_);refine gl_ (some 34) Try.func50 #[.int .i64 (ja.length:Int),.int .i64 2,.int .i64 12] ?_;(with_reducible refine (impl_within.calls (ja.length:Int) 2 12 false _ A15.out).mono ?_);rintro e w' ⟨rfl,⟨nd,rfl⟩⟩;refine ⟨_,rfl,?_⟩))
   go_ret;exact ⟨rtE_,below_to1 HB jv.out⟩
  subst c16;rw [if_pos rfl] at H
  by_cases c17:0 < (ja.length:Int)
  rotate_left
  ·rw [if_neg c17] at H
   cases H
  rw [if_pos c17] at H;have j9e:=decide_eq_true c17;have j9f:decide (0 < ja.length)=true:=decide_eq_true (by omega);clear c17
  by_cases c18:(rd ja 0)=0
  rotate_left
  ·rw [if_neg c18] at H
   have j6k:=beq_eq_false_iff_ne.mpr c18;have j6l:=bne_iff_ne.mpr c18;obtain rfl:=Option.some.inj H;obtain ⟨j7f,j7g,j7h,j7i,j7j,j7k,j7l,j7m⟩:=blk4_ js
   go_wp2_with (first|((with_reducible refine gc_ 50 rfl ?_);refine gl_ (some 34) Try.func50 #[.int .i64 (ja.length:Int),.int .i64 2,.int .i64 12] ?_;(with_reducible refine (impl_within.calls (ja.length:Int) 2 12 true _ A15.out).mono ?_);rintro e w' ⟨rfl,⟨nd,rfl⟩⟩;refine ⟨_,rfl,?_⟩;have j1b:0≤(0:Int):=(by omega);have j1c:0 < (ja.length:Int):=of_decide_eq_true (by first|(with_reducible assumption)|assumption);obtain ⟨j3d,e169,jh⟩:=Kd.at_int ji.out 0 j1b j1c;cases e169;have qi169:(0 < ja.length)=True:=eq_true (by omega);(try rw [show ((0:Int)).toNat=0 from rfl] at jh);(try rw [Addr.add_zero'] at jh);replace jh:=(HB.out.cell (World.block_lt_of_cell? w _ jh)).trans jh;replace j1b:=eq_true j1b;replace j1c:=eq_true j1c))
   go_ret;exact ⟨rtE_,below_to1 HB jv.out⟩
  rw [if_pos c18] at H;have j6k:=beq_iff_eq.mpr c18;have j6l:=bne_eq_false_iff_eq.mpr c18;clear c18;obtain ⟨j5r,A19,H⟩:=bs_ H;(try dsimp only at H)
  by_cases c20:j5r=true
  rotate_left
  ·replace c20:=Bool.eq_false_iff.mpr c20
   subst c20;rw [if_neg ft_] at H;obtain rfl:=Option.some.inj H;obtain ⟨j4b,j4c,j4d,j4e,j4f,j4g,j4h,j4i⟩:=blk4_ js
   go_wp2_with (first|((with_reducible refine gc_ 50 rfl ?_);refine gl_ (some 34) Try.func50 #[.int .i64 (ja.length:Int),.int .i64 2,.int .i64 12] ?_;(with_reducible refine (impl_within.calls (ja.length:Int) 2 12 true _ A15.out).mono ?_);rintro e w' ⟨rfl,⟨nd,rfl⟩⟩;refine ⟨_,rfl,?_⟩;have j1b:0≤(0:Int):=(by omega);have j1c:0 < (ja.length:Int):=of_decide_eq_true (by first|(with_reducible assumption)|assumption);obtain ⟨j3d,e169,jh⟩:=Kd.at_int ji.out 0 j1b j1c;cases e169;have qi169:(0 < ja.length)=True:=eq_true (by omega);(try rw [show ((0:Int)).toNat=0 from rfl] at jh);(try rw [Addr.add_zero'] at jh);replace jh:=(HB.out.cell (World.block_lt_of_cell? w _ jh)).trans jh;replace j1b:=eq_true j1b;replace j1c:=eq_true j1c)|(go_at_call 71;(with_reducible refine (impl_increasing.calls kj1 _ _ ja false _ ?side1 jl.out A19.out).mono ?_);(case side1=>repeat (first|exact (Kd.C_below ji.out (below_to1 HB jv.out))|(with_reducible refine Kd.C_alloc ?_ _)|(with_reducible refine Kd.C_drewN ?_ _)|(with_reducible refine Kd.C_drew ?_)));rintro e w' ⟨rfl,⟨nd,rfl⟩⟩))
   go_ret;exact ⟨rtE_,below_to1 HB jv.out⟩
  subst c20;rw [if_pos rfl] at H
  obtain ⟨j1s,j1i⟩:∃ j_:Int,(wrap64 ((ja.length:Int) - 1))=j_:=⟨_,rfl⟩
  replace H:(if 0≤(j1s) then (if (j1s) < (ja.length:Int) then (some (decide ((rd ja (j1s))≤500))) else (none)) else (none))=some r:=by first|(rw [j1i] at H;exact H)|(simp only [j1i] at H ⊢;exact H)
  (try rw [j1i] at A15);(try rw [j1i] at A19);have j8v:(IntKind.i64.wrap ((ja.length:Int) - 1))=j1s:=(i64_w _).trans j1i
  by_cases c22:0≤(j1s)
  ·rw [if_pos c22] at H
   have j9g:=decide_eq_true c22;clear c22
   by_cases c23:(j1s) < (ja.length:Int)
   ·rw [if_pos c23] at H
    have j9h:=decide_eq_true c23;clear c23;obtain rfl:=Option.some.inj H;obtain ⟨j7n,j7o,j7p,j7q,j7r,j7s,j7t,j7u⟩:=blk4_ js
    go_wp2_with (first|((with_reducible refine gc_ 50 rfl ?_);refine gl_ (some 34) Try.func50 #[.int .i64 (ja.length:Int),.int .i64 2,.int .i64 12] ?_;(with_reducible refine (impl_within.calls (ja.length:Int) 2 12 true _ A15.out).mono ?_);rintro e w' ⟨rfl,⟨nd,rfl⟩⟩;refine ⟨_,rfl,?_⟩;have j1b:0≤(0:Int):=(by omega);have j1c:0 < (ja.length:Int):=of_decide_eq_true (by first|(with_reducible assumption)|assumption);obtain ⟨j3d,e169,jh⟩:=Kd.at_int ji.out 0 j1b j1c;cases e169;have qi169:(0 < ja.length)=True:=eq_true (by omega);(try rw [show ((0:Int)).toNat=0 from rfl] at jh);(try rw [Addr.add_zero'] at jh);replace jh:=(HB.out.cell (World.block_lt_of_cell? w _ jh)).trans jh;replace j1b:=eq_true j1b;replace j1c:=eq_true j1c)|(go_at_call 71;(with_reducible refine (impl_increasing.calls kj1 _ _ ja true _ ?side1 jl.out A19.out).mono ?_);(case side1=>repeat (first|exact (Kd.C_below ji.out (below_to1 HB jv.out))|(with_reducible refine Kd.C_alloc ?_ _)|(with_reducible refine Kd.C_drewN ?_ _)|(with_reducible refine Kd.C_drew ?_)));rintro e w' ⟨rfl,⟨nd,rfl⟩⟩;have j5v:0≤((j1s):Int):=of_decide_eq_true (by first|(with_reducible assumption)|assumption);have j5w:(j1s) < (ja.length:Int):=of_decide_eq_true (by first|(with_reducible assumption)|assumption);obtain ⟨j6m,e171,j1t⟩:=Kd.at_int ji.out (j1s) j5v j5w;obtain rfl:j3d=j6m:=(by injection e171);replace j1t:=(HB.out.cell (World.block_lt_of_cell? w _ j1t)).trans j1t;replace j5v:=eq_true j5v;replace j5w:=eq_true j5w))
    go_ret;exact ⟨by first|rfl|(simp [errW_none,errW_some] <;> rfl)|(simp only [← j1i];first|rfl|(simp [errW_none,errW_some] <;> rfl))|(simp [*,errW_none,errW_some] <;> rfl),below_to1 HB jv.out⟩
   ·rw [if_neg c23] at H
    cases H
  ·rw [if_neg c22] at H
   cases H
def impl_allWithin.l0:Nat→Int→Int→List Int→Int→Int→Option (Bool)
 | 0,_,_,_,_,_=>none
 | k+1,x1,x2,x9,x10,x11=>if x11 < x10 then (if 0≤x11 then (if x11 < (x9.length:Int) then ((impl_within.f (rd x9 x11) x1 x2).bind fun j5x=>(if j5x=true then (impl_allWithin.l0 k x1 x2 x9 x10 (wrap64 (x11+1))) else (some false))) else (none)) else (none)) else (some true)
def impl_allWithin.f (k:Nat) (l0:List Int) (a1:Int) (a2:Int):Option (Bool):=impl_allWithin.l0 k a1 a2 l0 (l0.length:Int) 0
theorem impl_allWithin.calls (k:Nat) (A0:Option Addr) (c0:Nat) (l0:List Int) (a1:Int) (a2:Int) (r:Bool) (w:World) (hr0:Kd.C Ki_ w A0 l0.length l0) (hc0:l0.length≤c0) (h:impl_allWithin.f k l0 a1 a2=some r) :
  Calls Try.prog 73 #[.slice A0 l0.length c0,.int .i64 a1,.int .i64 a2] w fun e w'=>e=.returned (.bool r)∧Drawn0 w w':=by
 have HR0:=ai_ hr0;have HC0:=ai_ hc0;clear hr0 hc0;have H:(impl_allWithin.l0 k a1 a2 l0 (l0.length:Int) 0)=some r:=h;clear h;have H':=ai_ H;clear H;go_enter Try.func73,Try.ntmps73
 go_wp2
 go_loopg [11] k (fun kq v11 w' => ∃ (jo:Int),v11=.int .i64 jo∧Aside0 (impl_allWithin.l0 kq a1 a2 l0 (l0.length:Int) jo=some r)∧Aside0 (kq≤k)∧Drawn0 w w')
 case atStart=>exact ⟨(0),rt_,H',⟨Nat.le_refl _⟩,d0_⟩
 clear H'
 try clear p2
 obtain ⟨jo,rfl,HA,HK1,⟨m1,rfl⟩⟩:=hrel
 cases gk with
 | zero=>exact absurd HA.out (by simp [impl_allWithin.l0])
 | succ k1 =>
  have H:=HA.out;clear HA;simp only [impl_allWithin.l0] at H
  by_cases c4:jo < (l0.length:Int)
  rotate_left
  ·rw [if_neg c4] at H
   have j2z:=decide_eq_false c4;clear c4;obtain rfl:=Option.some.inj H
   go_wp2
   go_ret;exact ⟨rt_,d0_⟩
  rw [if_pos c4] at H;have j2z:=decide_eq_true c4;clear c4
  by_cases c5:0≤jo
  rotate_left
  ·rw [if_neg c5] at H
   cases H
  rw [if_pos c5] at H;have j5p:=decide_eq_true c5;clear c5
  by_cases c6:jo < (l0.length:Int)
  rotate_left
  ·rw [if_neg c6] at H
   cases H
  rw [if_pos c6] at H;have j8u:=decide_eq_true c6;clear c6;obtain ⟨j5x,A7,H⟩:=bs_ H;(try dsimp only at H)
  by_cases c8:j5x=true
  ·subst c8
   rw [if_pos rfl] at H;have H':=ai_ H;clear H;have j2d:0≤(jo:Int):=odt_;have j2e:jo < (l0.length:Int):=odt_;obtain ⟨j6n,e172,j4j⟩:=Kd.at_int HR0.out jo j2d j2e
   cases e172
   replace j2d:=eq_true j2d;replace j2e:=eq_true j2e
   go_wp2_with (first|((with_reducible refine gc_ 50 rfl ?_);refine gl_ (some 18) Try.func50 #[.int .i64 (rd l0 jo),.int .i64 a1,.int .i64 a2] ?_;(with_reducible refine (impl_within.calls (rd l0 jo) a1 a2 true _ A7.out).mono ?_);rintro e w' ⟨rfl,⟨nd,rfl⟩⟩;refine ⟨_,rfl,?_⟩))
   go_roundg k1
   case measure=>have:=HK1.out;omega
   case rel=>exact ⟨(wrap64 (jo+1)),rt_,H',⟨by have:=HK1.out;omega⟩,d0_⟩
  ·replace c8:=Bool.eq_false_iff.mpr c8
   subst c8;rw [if_neg ft_] at H;obtain rfl:=Option.some.inj H;have j2d:0≤(jo:Int):=odt_;have j2e:jo < (l0.length:Int):=odt_;obtain ⟨j6n,e172,j4j⟩:=Kd.at_int HR0.out jo j2d j2e
   cases e172
   replace j2d:=eq_true j2d;replace j2e:=eq_true j2e
   go_wp2_with (first|((with_reducible refine gc_ 50 rfl ?_);refine gl_ (some 18) Try.func50 #[.int .i64 (rd l0 jo),.int .i64 a1,.int .i64 a2] ?_;(with_reducible refine (impl_within.calls (rd l0 jo) a1 a2 false _ A7.out).mono ?_);rintro e w' ⟨rfl,⟨nd,rfl⟩⟩;refine ⟨_,rfl,?_⟩))
   go_ret;exact ⟨rt_,d0_⟩
def impl_hasStops.f (k:Nat) (jc:Int) (jb:Int) (jd:Int) (ja:List Int) (l1:List Int):Option (Bool):=(impl_IsLine.f k jc jb jd ja).bind fun j5y=>(if j5y=true then ((impl_allWithin.f k l1 0 (wrap64 ((ja.length:Int) - 1))).bind fun j4k=>(some j4k)) else (some false))
theorem impl_hasStops.calls (k:Nat) (jc:Int) (jb:Int) (jd:Int) (jf:Option Addr) (jg:Nat) (ja:List Int) (A1:Option Addr) (c1:Nat) (l1:List Int) (r:Bool) (w:World) (hr0_3:Kd.C Ki_ w jf ja.length ja) (hc0_3:ja.length≤jg) (hr1:Kd.C Ki_ w A1 l1.length l1) (hc1:l1.length≤c1) (h:impl_hasStops.f k jc jb jd ja l1=some r) :
  Calls Try.prog 49 #[ag_ jc jb jd jf ja jg,.slice A1 l1.length c1] w fun e w'=>e=.returned (.bool r)∧Below w.heap.size w w':=by
 have hu30:=Try.underlying30;have ji:=ai_ hr0_3;have jl:=ai_ hc0_3;clear hr0_3 hc0_3;have HR1:=ai_ hr1;have HC1:=ai_ hc1;clear hr1 hc1;have HB:=ai_ (Below.refl w.heap.size w);have H:=h
 unfold impl_hasStops.f at H
 clear h;obtain ⟨j5y,A3,H⟩:=bs_ H;(try dsimp only at H)
 by_cases c4:j5y=true
 ·subst c4
  rw [if_pos rfl] at H;replace H:=Option.bind_eq_some_iff.mp H;obtain ⟨j4k,A50,H⟩:=H;replace H:(some j4k)=some r:=H;have A5:=ai_ A50;clear A50;obtain rfl:=Option.some.inj H;go_enter Try.func49,Try.ntmps49
  go_wp2_with (first|((with_reducible refine gd_ 2 rfl ?_);(try (refine gate_guard (by rfl) ?_;dsimp only));refine bxe_ #[.int .i64 jc,.int .i64 jb,.int .i64 jd,.slice jf ja.length jg] 30 ?_;intro j6o hg w6 hbox hb;have j1a:=ai_ (hbox);have j6p:=ai_ (gb_ hg (below_size (below_to HB)));have j1v:=ai_ (gb_ hg (below_size (below_to HB)));replace HB:=ai_ (below_step (below_to HB) hb);clear hb hbox hg;obtain ⟨j2f,j2g,j2h,j2i,j2j,j2k,j2l,j2m⟩:=blk4_ j1a)|((with_reducible refine gc_ 40 rfl ?_);refine gl_ (some 6) Try.func40 #[ag_ jc jb jd jf ja jg] ?_;(with_reducible refine (impl_IsLine.calls k jc jb jd _ _ ja true _ (cb_ ji HB) jl.out A3.out).mono ?_);rintro e w8 ⟨rfl,hb⟩;refine ⟨_,rfl,?_⟩;replace j1a:=bb_ j1a hb;replace HB:=ai_ (below_step (below_to1 HB j1v.out) hb);clear hb;obtain ⟨j5z,j6a,j6b,j6c,j6d,j6e,j6f,j6g⟩:=blk4_ j1a)|(go_at_call 73;(with_reducible refine (impl_allWithin.calls k _ _ l1 0 (wrap64 ((ja.length:Int) - 1)) j4k _ (cb_ HR1 HB) HC1.out A5.out).mono ?_);rintro e w' ⟨rfl,⟨nd,rfl⟩⟩))
  go_ret;exact ⟨rtE_,below_to1 HB j1v.out⟩
 ·replace c4:=Bool.eq_false_iff.mpr c4
  subst c4;rw [if_neg ft_] at H;obtain rfl:=Option.some.inj H;go_enter Try.func49,Try.ntmps49
  go_wp2_with (first|((with_reducible refine gd_ 2 rfl ?_);(try (refine gate_guard (by rfl) ?_;dsimp only));refine bxe_ #[.int .i64 jc,.int .i64 jb,.int .i64 jd,.slice jf ja.length jg] 30 ?_;intro j6o hg w10 hbox hb;have j1a:=ai_ (hbox);have j6p:=ai_ (gb_ hg (below_size (below_to HB)));have j1v:=ai_ (gb_ hg (below_size (below_to HB)));replace HB:=ai_ (below_step (below_to HB) hb);clear hb hbox hg;obtain ⟨j1k,j1l,j1m,j1n,j1o,j1p,j1q,j1r⟩:=blk4_ j1a)|((with_reducible refine gc_ 40 rfl ?_);refine gl_ (some 6) Try.func40 #[ag_ jc jb jd jf ja jg] ?_;(with_reducible refine (impl_IsLine.calls k jc jb jd _ _ ja false _ (cb_ ji HB) jl.out A3.out).mono ?_);rintro e w12 ⟨rfl,hb⟩;refine ⟨_,rfl,?_⟩;replace j1a:=bb_ j1a hb;replace HB:=ai_ (below_step (below_to1 HB j1v.out) hb);clear hb))
  go_ret;exact ⟨rtE_,below_to1 HB j1v.out⟩
def impl_isWalk.f (a0:Int):Option (Bool):=(impl_within.f a0 0 100).bind fun j4l=>(some j4l)
theorem impl_isWalk.calls (a0:Int) (r:Bool) (w:World) (h:impl_isWalk.f a0=some r) :
  Calls Try.prog 52 #[.int .i64 a0] w fun e w'=>e=.returned (.bool r)∧Drawn0 w w':=by
 have H:=h
 unfold impl_isWalk.f at H
 clear h;replace H:=Option.bind_eq_some_iff.mp H;obtain ⟨j4l,A20,H⟩:=H;replace H:(some j4l)=some r:=H;have A2:=ai_ A20;clear A20;obtain rfl:=Option.some.inj H;go_enter Try.func52,Try.ntmps52
 go_wp2_with (first|((with_reducible refine gc_ 50 rfl ?_);refine gl_ (some 4) Try.func50 #[.int .i64 a0,.int .i64 0,.int .i64 100] ?_;(with_reducible refine (impl_within.calls a0 0 100 j4l _ A2.out).mono ?_);rintro e w' ⟨rfl,⟨nd,rfl⟩⟩;refine ⟨_,rfl,?_⟩))
 go_ret;exact ⟨rt_,d0_⟩
def impl_timeAt.f (jc:Int) (jb:Int) (jd:Int) (ja:List Int) (a1:Int) (a2:Int):Option (Int):=if 0≤a2 then (if a2 < (ja.length:Int) then (some (wrap64 ((wrap64 (jc+(wrap64 (a1*jb))))+(rd ja a2)))) else (none)) else (none)
theorem impl_timeAt.calls (jc:Int) (jb:Int) (jd:Int) (jf:Option Addr) (jg:Nat) (ja:List Int) (a1:Int) (a2:Int) (r:Int) (w:World) (hr0_3:Kd.C Ki_ w jf ja.length ja) (hc0_3:ja.length≤jg) (h:impl_timeAt.f jc jb jd ja a1 a2=some r) :
  Calls Try.prog 61 #[ag_ jc jb jd jf ja jg,.int .i64 a1,.int .i64 a2] w fun e w'=>e=.returned (.int .i64 r)∧Below w.heap.size w w':=by
 have hu30:=Try.underlying30;have ji:=ai_ hr0_3;have jl:=ai_ hc0_3;clear hr0_3 hc0_3;have HB:=ai_ (Below.refl w.heap.size w);have H:=h
 unfold impl_timeAt.f at H
 clear h
 by_cases c4:0≤a2
 ·rw [if_pos c4] at H
  have j2z:=decide_eq_true c4;clear c4
  by_cases c5:a2 < (ja.length:Int)
  ·rw [if_pos c5] at H
   have j5p:=decide_eq_true c5;clear c5;obtain rfl:=Option.some.inj H;go_enter Try.func61,Try.ntmps61
   go_wp2_with (first|((with_reducible refine gd_ 3 rfl ?_);refine bxe_ #[.int .i64 jc,.int .i64 jb,.int .i64 jd,.slice jf ja.length jg] 30 ?_;intro j5c hg w6 hbox hb;have j1w:=ai_ (hbox);have j5d:=ai_ (gb_ hg (below_size (below_to HB)));have j3e:=ai_ (gb_ hg (below_size (below_to HB)));replace HB:=ai_ (below_step (below_to HB) hb);clear hb hbox hg;obtain ⟨j2f,j2g,j2h,j2i,j2j,j2k,j2l,j2m⟩:=blk4_ j1w;have j1d:0≤(a2:Int):=of_decide_eq_true (by first|(with_reducible assumption)|assumption);have j1e:a2 < (ja.length:Int):=of_decide_eq_true (by first|(with_reducible assumption)|assumption);obtain ⟨j5e,e179,jm⟩:=Kd.at_int ji.out a2 j1d j1e;cases e179;replace jm:=(HB.out.cell (World.block_lt_of_cell? w _ jm)).trans jm;replace j1d:=eq_true j1d;replace j1e:=eq_true j1e))
   repeat (go_quiet (first|((with_reducible refine gd_ 3 rfl ?_);refine bxe_ #[.int .i64 jc,.int .i64 jb,.int .i64 jd,.slice jf ja.length jg] 30 ?_;intro j5c hg w6 hbox hb;have j1w:=ai_ (hbox);have j5d:=ai_ (gb_ hg (below_size (below_to HB)));have j3e:=ai_ (gb_ hg (below_size (below_to HB)));replace HB:=ai_ (below_step (below_to HB) hb);clear hb hbox hg;obtain ⟨j2f,j2g,j2h,j2i,j2j,j2k,j2l,j2m⟩:=blk4_ j1w;have j1d:0≤(a2:Int):=of_decide_eq_true (by first|(with_reducible assumption)|assumption);have j1e:a2 < (ja.length:Int):=of_decide_eq_true (by first|(with_reducible assumption)|assumption);obtain ⟨j5e,e179,jm⟩:=Kd.at_int ji.out a2 j1d j1e;cases e179;replace jm:=(HB.out.cell (World.block_lt_of_cell? w _ jm)).trans jm;replace j1d:=eq_true j1d;replace j1e:=eq_true j1e));try go_wp2_with (first|((with_reducible refine gd_ 3 rfl ?_);refine bxe_ #[.int .i64 jc,.int .i64 jb,.int .i64 jd,.slice jf ja.length jg] 30 ?_;intro j5c hg w6 hbox hb;have j1w:=ai_ (hbox);have j5d:=ai_ (gb_ hg (below_size (below_to HB)));have j3e:=ai_ (gb_ hg (below_size (below_to HB)));replace HB:=ai_ (below_step (below_to HB) hb);clear hb hbox hg;obtain ⟨j2f,j2g,j2h,j2i,j2j,j2k,j2l,j2m⟩:=blk4_ j1w;have j1d:0≤(a2:Int):=of_decide_eq_true (by first|(with_reducible assumption)|assumption);have j1e:a2 < (ja.length:Int):=of_decide_eq_true (by first|(with_reducible assumption)|assumption);obtain ⟨j5e,e179,jm⟩:=Kd.at_int ji.out a2 j1d j1e;cases e179;replace jm:=(HB.out.cell (World.block_lt_of_cell? w _ jm)).trans jm;replace j1d:=eq_true j1d;replace j1e:=eq_true j1e)))
   go_ret;exact ⟨rtE_,below_to1 HB j3e.out⟩
  ·rw [if_neg c5] at H
   cases H
 ·rw [if_neg c4] at H
  cases H
def impl_nextBus.f (jc:Int) (jb:Int) (jd:Int) (ja:List Int) (a1:Int) (a2:Int):Option (Int × Int × Bool):=(impl_timeAt.f jc jb jd ja 0 a1).bind fun j1u=>(if jb=0 then (none) else (if (mx 0 (wrap64 (Int.tdiv (wrap64 ((wrap64 ((wrap64 (a2 - j1u))+jb)) - 1)) jb)))≥jd then (some (0,0,false)) else ((impl_timeAt.f jc jb jd ja (mx 0 (wrap64 (Int.tdiv (wrap64 ((wrap64 ((wrap64 (a2 - j1u))+jb)) - 1)) jb))) a1).bind fun j3f=>(some (mx 0 (wrap64 (Int.tdiv (wrap64 ((wrap64 ((wrap64 (a2 - j1u))+jb)) - 1)) jb)),j3f,true)))))
def impl_nextBus.T1:Bool × List (List Nat × List Nat):=(true,[([],[]),([],[]),([],[]),([1,2],[1,2]),([0,3],[0,3]),([],[]),([5],[5]),([4,6],[4,6]),([7],[7]),([],[]),([9],[9]),([8,10],[8,10]),([11],[11]),([12,3,0,1,2,3,4,5,6,7,8,9,10,11,12],[12])])
def impl_nextBus.B1:List Nat:=[0,0,0,6,15,0,32,127,255,0,512,2047,4095,8191]
theorem impl_nextBus.tab1:rtab .any (opsOf Try.f60 1)=impl_nextBus.T1:=by kernel_rfl
theorem impl_nextBus.bits1:waitsOk impl_nextBus.T1.2 impl_nextBus.B1=true:=by kernel_rfl
theorem impl_nextBus.calls (jc:Int) (jb:Int) (jd:Int) (jf:Option Addr) (jg:Nat) (ja:List Int) (a1:Int) (a2:Int) (r1:Int) (r2:Int) (r3:Bool) (w:World) (hr0_3:Kd.C Ki_ w jf ja.length ja) (hc0_3:ja.length≤jg) (h:impl_nextBus.f jc jb jd ja a1 a2=some (r1,r2,r3)) :
  Calls Try.prog 60 #[ag_ jc jb jd jf ja jg,.int .i64 a1,.int .i64 a2] w fun e w'=>e=.returned (.tuple #[.int .i64 r1,.int .i64 r2,.bool r3])∧Below w.heap.size w w':=by
 have hu30:=Try.underlying30;have ji:=ai_ hr0_3;have jl:=ai_ hc0_3;clear hr0_3 hc0_3;have HB:=ai_ (Below.refl w.heap.size w);have H:=h
 unfold impl_nextBus.f at H
 clear h;obtain ⟨j1u,A4,H⟩:=bs_ H;(try dsimp only at H)
 by_cases c5:jb=0
 ·rw [if_pos c5] at H
  cases H
 rw [if_neg c5] at H;have j5p:=beq_eq_false_iff_ne.mpr c5;have j9o:=bne_iff_ne.mpr c5
 obtain ⟨ji6,j1x⟩:∃ j_:Int,(mx 0 (wrap64 (Int.tdiv (wrap64 ((wrap64 ((wrap64 (a2 - j1u))+jb)) - 1)) jb)))=j_:=⟨_,rfl⟩
 replace H:(if (ji6)≥jd then (some (0,0,false)) else ((impl_timeAt.f jc jb jd ja (ji6) a1).bind fun j3f=>(some (ji6,j3f,true))))=some (r1,r2,r3):=by first|(rw [j1x] at H;exact H)|(simp only [j1x] at H ⊢;exact H)
 (try rw [j1x] at A4);(try (have hji6l:0≤ji6:=by (rw [← j1x];unfold mx;(repeat' split) <;> omega)));(try (have hji6m:0≤ji6:=by omega));have hji6_:(if 0 < (wrap64 (Int.tdiv (wrap64 ((wrap64 ((wrap64 (a2 - j1u))+jb)) - 1)) jb)) then (wrap64 (Int.tdiv (wrap64 ((wrap64 ((wrap64 (a2 - j1u))+jb)) - 1)) jb)) else 0)=ji6:=j1x
 by_cases c7:(ji6)≥jd
 ·rw [if_pos c7] at H
  have j3a:=decide_eq_true c7;clear c7;simp only [Option.some.injEq,Prod.mk.injEq] at H;obtain ⟨rfl,rfl,rfl⟩:=H;go_enter Try.func60,Try.ntmps60
  try go_wp2_with (first|((with_reducible refine gd_ 3 rfl ?_);refine bxe_ #[.int .i64 jc,.int .i64 jb,.int .i64 jd,.slice jf ja.length jg] 30 ?_;intro jx hg w8 hbox hb;have je:=ai_ (hbox);have j6q:=ai_ (gb_ hg (below_size (below_to HB)));have j1j:=ai_ (gb_ hg (below_size (below_to HB)));replace HB:=ai_ (below_step (below_to HB) hb);clear hb hbox hg))
  replace je:=ai_ (blk_drew je.out);replace HB:=ai_ (below_drew1 HB.out);refine start_ (n:=14) (S:=fun w'=>w'.cell? ⟨jx,0,none⟩=some (.int .i64 jc)∧w'.cell? ⟨jx,1,none⟩=some (.int .i64 jb)∧w'.cell? ⟨jx,2,none⟩=some (.int .i64 jd)∧w'.cell? ⟨jx,3,none⟩=some (.slice jf ja.length jg)) (ds:=[]) (fr_ [0,14]) (by kernel_rfl) rfl rfl ⟨bc_ je 0,bc_ je 1,bc_ je 2,bc_ je 3⟩ (fun hHeld=>?_);refine with_tabW impl_nextBus.tab1 impl_nextBus.bits1 (fun HT_ HW_=>?_);generalize w8.drew=w9 at je HB hHeld ⊢;refine pq_ 0 10 14 ?_;refine pS_ 2 12 (fr_ [1,1,1,11]) HT_ ?_;refine pS_ 5 15 (fr_ [1,1,1,2,1,8]) HT_ ?_;refine pS_ 9 19 (fr_ [1,1,1,2,1,3,1,4]) HT_ ?_;refine tk4_ 1 11 (fr_ [3,2,1,3,1,4]) HT_ HW_ hHeld ?_;refine tk4_ 6 16 (fr_ [3,2,2,2,1,4]) HT_ HW_ hHeld ?_;refine tk4_ 10 20 (fr_ [3,2,2,2,2,3]) HT_ HW_ hHeld ?_;refine on_ 3 13 (fr_ [4,1,2,2,2,3]) HT_ (fun K hK=>?_);refine gs_ Try.func61 #[ag_ jc jb jd jf ja jg,.int .i64 0,.int .i64 a1] ?_
  with_reducible refine (impl_timeAt.calls jc jb jd _ _ ja 0 a1 j1u _ ?side1 ?side2 A4.out).mono ?_
  (case side1=>exact cb_ ji HB)
  (case side2=>exact jl.out)
  rintro e w10 ⟨rfl,hb⟩;refine ⟨_,rfl,?_⟩;replace je:=bb_ je hb;replace HB:=ai_ (below_step (below_to1 HB j1j.out) hb);(try clear hb);(try clear hb2);(try clear hk);(try clear hi);refine hK.out _ _ ⟨bc_ je 0,bc_ je 1,bc_ je 2,bc_ je 3⟩ (fun hHeld=>?_);clear hK K;refine norm_ (a':=?_) ?_ ?_;rotate_left
  ·show Act.put _ (some 13) _=_
   simp only [Act.put,List.setIfInBounds_toArray,List.set_cons_zero,List.set_cons_succ,i64_w,i32_w]
   rfl
  refine pS_ 4 14 (fr_ [7,2,2,3]) HT_ ?_;refine pS_ 7 17 (fr_ [8,1,2,3]) HT_ ?_;refine pS_ 8 18 (fl_ 14 11) HT_ ?_;refine pq_ 11 21 14 ?_;refine pq_ 12 22 14 ?_;refine pq_ 13 9 14 ?_;refine done_ (done_of HT_.out (by kernel_rfl)) ?_;obtain ⟨j1k,j1l,j1m,j1n,j1o,j1p,j1q,j1r⟩:=blk4_ je
  try go_wp2
  go_ret3
  exact ⟨by first|rfl|(simp [errW_none,errW_some] <;> rfl)|(simp only [← j1x];first|rfl|(simp [errW_none,errW_some] <;> rfl))|(simp [*,errW_none,errW_some] <;> rfl),below_to1 HB j1j.out⟩
 rw [if_neg c7] at H;have j3a:=decide_eq_false c7;clear c7;obtain ⟨j3f,A12,H⟩:=bs_ H;(try dsimp only at H);simp only [Option.some.injEq,Prod.mk.injEq] at H;obtain ⟨rfl,rfl,rfl⟩:=H;go_enter Try.func60,Try.ntmps60
 try go_wp2_with (first|((with_reducible refine gd_ 3 rfl ?_);refine bxe_ #[.int .i64 jc,.int .i64 jb,.int .i64 jd,.slice jf ja.length jg] 30 ?_;intro jx hg w13 hbox hb;have je:=ai_ (hbox);have j6q:=ai_ (gb_ hg (below_size (below_to HB)));have j1j:=ai_ (gb_ hg (below_size (below_to HB)));replace HB:=ai_ (below_step (below_to HB) hb);clear hb hbox hg))
 replace je:=ai_ (blk_drew je.out);replace HB:=ai_ (below_drew1 HB.out);refine start_ (n:=14) (S:=fun w'=>w'.cell? ⟨jx,0,none⟩=some (.int .i64 jc)∧w'.cell? ⟨jx,1,none⟩=some (.int .i64 jb)∧w'.cell? ⟨jx,2,none⟩=some (.int .i64 jd)∧w'.cell? ⟨jx,3,none⟩=some (.slice jf ja.length jg)) (ds:=[]) (fr_ [0,14]) (by kernel_rfl) rfl rfl ⟨bc_ je 0,bc_ je 1,bc_ je 2,bc_ je 3⟩ (fun hHeld=>?_);refine with_tabW impl_nextBus.tab1 impl_nextBus.bits1 (fun HT_ HW_=>?_);generalize w13.drew=w14 at je HB hHeld ⊢;refine pq_ 0 10 14 ?_;refine pS_ 2 12 (fr_ [1,1,1,11]) HT_ ?_;refine pS_ 5 15 (fr_ [1,1,1,2,1,8]) HT_ ?_;refine pS_ 9 19 (fr_ [1,1,1,2,1,3,1,4]) HT_ ?_;refine tk4_ 1 11 (fr_ [3,2,1,3,1,4]) HT_ HW_ hHeld ?_;refine tk4_ 6 16 (fr_ [3,2,2,2,1,4]) HT_ HW_ hHeld ?_;refine tk4_ 10 20 (fr_ [3,2,2,2,2,3]) HT_ HW_ hHeld ?_;refine on_ 3 13 (fr_ [4,1,2,2,2,3]) HT_ (fun K hK=>?_);refine gs_ Try.func61 #[ag_ jc jb jd jf ja jg,.int .i64 0,.int .i64 a1] ?_
 with_reducible refine (impl_timeAt.calls jc jb jd _ _ ja 0 a1 j1u _ ?side1 ?side2 A4.out).mono ?_
 (case side1=>exact cb_ ji HB)
 (case side2=>exact jl.out)
 rintro e w15 ⟨rfl,hb⟩;refine ⟨_,rfl,?_⟩;replace je:=bb_ je hb;replace HB:=ai_ (below_step (below_to1 HB j1j.out) hb);(try clear hb);(try clear hb2);(try clear hk);(try clear hi);refine hK.out _ _ ⟨bc_ je 0,bc_ je 1,bc_ je 2,bc_ je 3⟩ (fun hHeld=>?_);clear hK K;refine norm_ (a':=?_) ?_ ?_;rotate_left
 ·show Act.put _ (some 13) _=_
  simp only [Act.put,List.setIfInBounds_toArray,List.set_cons_zero,List.set_cons_succ,i64_w,i32_w]
  rfl
 refine pS_ 4 14 (fr_ [7,2,2,3]) HT_ ?_;refine pS_ 7 17 (fr_ [8,1,2,3]) HT_ ?_;refine pS_ 8 18 (fl_ 14 11) HT_ ?_;refine pq_ 11 21 14 ?_;refine pq_ 12 22 14 ?_;refine pq_ 13 9 14 ?_;refine done_ (done_of HT_.out (by kernel_rfl)) ?_;obtain ⟨j4m,j4n,j4o,j4p,j4q,j4r,j4s,j4t⟩:=blk4_ je
 try go_wp2_with (first|((with_reducible refine gc_ 61 rfl ?_);refine goesL_ (some 31) rfl rfl Try.func61 (by kernel_rfl) rfl #[ag_ jc jb jd jf ja jg,.int .i64 ji6,.int .i64 a1] rfl (by (try simp only [List.map_toArray,List.map_cons,List.map_nil]);first|done|(simp only [j1x];rfl)|rfl|(simp only [List.length_drop,List.length_take];rfl)) ?_;(with_reducible refine (impl_timeAt.calls jc jb jd _ _ ja ji6 a1 j3f _ (cb_ ji HB) jl.out A12.out).mono ?_);rintro e w17 ⟨rfl,hb⟩;refine ⟨_,rfl,?_⟩;replace je:=bb_ je hb;replace HB:=ai_ (below_step (below_to1 HB j1j.out) hb);clear hb))
 go_ret3
 exact ⟨by first|rfl|(simp [errW_none,errW_some] <;> rfl)|(simp only [← j1x];first|rfl|(simp [errW_none,errW_some] <;> rfl))|(simp [*,errW_none,errW_some] <;> rfl),below_to1 HB j1j.out⟩
def impl_arriveAt.f (jc:Int) (jb:Int) (jd:Int) (ja:List Int) (a1:Int) (a2:Int) (a3:Int):Option (Int × Bool):=(impl_nextBus.f jc jb jd ja a1 a3).bind fun bt184=>(if bt184.2.2=true then (if a1≥a2 then (some (0,false)) else ((impl_timeAt.f jc jb jd ja bt184.1 a2).bind fun j6h=>(some (j6h,true)))) else (some (0,false)))
theorem impl_arriveAt.calls (jc:Int) (jb:Int) (jd:Int) (jf:Option Addr) (jg:Nat) (ja:List Int) (a1:Int) (a2:Int) (a3:Int) (r1:Int) (r2:Bool) (w:World) (hr0_3:Kd.C Ki_ w jf ja.length ja) (hc0_3:ja.length≤jg) (h:impl_arriveAt.f jc jb jd ja a1 a2 a3=some (r1,r2)) :
  Calls Try.prog 70 #[ag_ jc jb jd jf ja jg,.int .i64 a1,.int .i64 a2,.int .i64 a3] w fun e w'=>e=.returned (.tuple #[.int .i64 r1,.bool r2])∧Below w.heap.size w w':=by
 have hu30:=Try.underlying30;have ji:=ai_ hr0_3;have jl:=ai_ hc0_3;clear hr0_3 hc0_3;have HB:=ai_ (Below.refl w.heap.size w);have H:=h
 unfold impl_arriveAt.f at H
 clear h;obtain ⟨⟨j3g,j6i,j8w⟩,A5,H⟩:=bs_ H;(try dsimp only at H)
 by_cases c6:j8w=true
 rotate_left
 ·replace c6:=Bool.eq_false_iff.mpr c6
  subst c6;rw [if_neg ft_] at H;simp only [Option.some.injEq,Prod.mk.injEq] at H;obtain ⟨rfl,rfl⟩:=H;go_enter Try.func70,Try.ntmps70
  go_wp2_with (first|((with_reducible refine gd_ 4 rfl ?_);refine bxe_ #[.int .i64 jc,.int .i64 jb,.int .i64 jd,.slice jf ja.length jg] 30 ?_;intro j5f hg w17 hbox hb;have jq:=ai_ (hbox);have j5g:=ai_ (gb_ hg (below_size (below_to HB)));have jy:=ai_ (gb_ hg (below_size (below_to HB)));replace HB:=ai_ (below_step (below_to HB) hb);clear hb hbox hg;obtain ⟨j4u,j4v,j4w,j4x,j4y,j4z,j5a,j5b⟩:=blk4_ jq)|((with_reducible refine gc_ 60 rfl ?_);refine gl_ (some 17) Try.func60 #[ag_ jc jb jd jf ja jg,.int .i64 a1,.int .i64 a3] ?_;(with_reducible refine (impl_nextBus.calls jc jb jd _ _ ja a1 a3 j3g j6i false _ (cb_ ji HB) jl.out A5.out).mono ?_);rintro e w19 ⟨rfl,hb⟩;refine ⟨_,rfl,?_⟩;replace jq:=bb_ jq hb;replace HB:=ai_ (below_step (below_to1 HB jy.out) hb);clear hb))
  go_ret2
  exact ⟨rtE_,below_to1 HB jy.out⟩
 subst c6;rw [if_pos rfl] at H
 by_cases c7:a1≥a2
 ·rw [if_pos c7] at H
  have j3a:=decide_eq_true c7;clear c7;simp only [Option.some.injEq,Prod.mk.injEq] at H;obtain ⟨rfl,rfl⟩:=H;go_enter Try.func70,Try.ntmps70
  go_wp2_with (first|((with_reducible refine gd_ 4 rfl ?_);refine bxe_ #[.int .i64 jc,.int .i64 jb,.int .i64 jd,.slice jf ja.length jg] 30 ?_;intro j5f hg w8 hbox hb;have jq:=ai_ (hbox);have j5g:=ai_ (gb_ hg (below_size (below_to HB)));have jy:=ai_ (gb_ hg (below_size (below_to HB)));replace HB:=ai_ (below_step (below_to HB) hb);clear hb hbox hg;obtain ⟨j5z,j6a,j6b,j6c,j6d,j6e,j6f,j6g⟩:=blk4_ jq)|((with_reducible refine gc_ 60 rfl ?_);refine gl_ (some 17) Try.func60 #[ag_ jc jb jd jf ja jg,.int .i64 a1,.int .i64 a3] ?_;(with_reducible refine (impl_nextBus.calls jc jb jd _ _ ja a1 a3 j3g j6i true _ (cb_ ji HB) jl.out A5.out).mono ?_);rintro e w10 ⟨rfl,hb⟩;refine ⟨_,rfl,?_⟩;replace jq:=bb_ jq hb;replace HB:=ai_ (below_step (below_to1 HB jy.out) hb);clear hb))
  go_ret2
  exact ⟨rtE_,below_to1 HB jy.out⟩
 ·rw [if_neg c7] at H
  have j3a:=decide_eq_false c7;clear c7;obtain ⟨j6h,A11,H⟩:=bs_ H;(try dsimp only at H);simp only [Option.some.injEq,Prod.mk.injEq] at H;obtain ⟨rfl,rfl⟩:=H;go_enter Try.func70,Try.ntmps70
  go_wp2_with (first|((with_reducible refine gd_ 4 rfl ?_);refine bxe_ #[.int .i64 jc,.int .i64 jb,.int .i64 jd,.slice jf ja.length jg] 30 ?_;intro j5f hg w12 hbox hb;have jq:=ai_ (hbox);have j5g:=ai_ (gb_ hg (below_size (below_to HB)));have jy:=ai_ (gb_ hg (below_size (below_to HB)));replace HB:=ai_ (below_step (below_to HB) hb);clear hb hbox hg;obtain ⟨j2r,j2s,j2t,j2u,j2v,j2w,j2x,j2y⟩:=blk4_ jq)|((with_reducible refine gc_ 60 rfl ?_);refine gl_ (some 17) Try.func60 #[ag_ jc jb jd jf ja jg,.int .i64 a1,.int .i64 a3] ?_;(with_reducible refine (impl_nextBus.calls jc jb jd _ _ ja a1 a3 j3g j6i true _ (cb_ ji HB) jl.out A5.out).mono ?_);rintro e w14 ⟨rfl,hb⟩;refine ⟨_,rfl,?_⟩;replace jq:=bb_ jq hb;replace HB:=ai_ (below_step (below_to1 HB jy.out) hb);clear hb;obtain ⟨j7v,j7w,j7x,j7y,j7z,j8a,j8b,j8c⟩:=blk4_ jq)|((with_reducible refine gc_ 61 rfl ?_);refine gl_ (some 31) Try.func61 #[ag_ jc jb jd jf ja jg,.int .i64 j3g,.int .i64 a2] ?_;(with_reducible refine (impl_timeAt.calls jc jb jd _ _ ja j3g a2 j6h _ (cb_ ji HB) jl.out A11.out).mono ?_);rintro e w16 ⟨rfl,hb⟩;refine ⟨_,rfl,?_⟩;replace jq:=bb_ jq hb;replace HB:=ai_ (below_step (below_to1 HB jy.out) hb);clear hb))
  go_ret2
  exact ⟨rtE_,below_to1 HB jy.out⟩
def impl_changeAt.f (jc:Int) (jb:Int) (jd:Int) (ja:List Int) (a1:Int) (a2:Int) (j1f:Int) (j1g:Int) (j1h:Int) (jz:List Int) (a4:Int) (a5:Int) (a6:Int) (a7:Int):Option (Int × Int × Bool):=(impl_arriveAt.f jc jb jd ja a1 a2 a7).bind fun bt190=>(if bt190.2=true then ((impl_arriveAt.f j1f j1g j1h jz a4 a5 (wrap64 (bt190.1+a6))).bind fun bt192=>(if bt192.2=true then (some (wrap64 (bt190.1+a6),bt192.1,true)) else (some (0,0,false)))) else (some (0,0,false)))
theorem impl_changeAt.calls (jc:Int) (jb:Int) (jd:Int) (jf:Option Addr) (jg:Nat) (ja:List Int) (a1:Int) (a2:Int) (j1f:Int) (j1g:Int) (j1h:Int) (j2n:Option Addr) (j2o:Nat) (jz:List Int) (a4:Int) (a5:Int) (a6:Int) (a7:Int) (r1:Int) (r2:Int) (r3:Bool) (w:World) (hr0_3:Kd.C Ki_ w jf ja.length ja) (hc0_3:ja.length≤jg) (hr3_3:Kd.C Ki_ w j2n jz.length jz) (hc3_3:jz.length≤j2o) (h:impl_changeAt.f jc jb jd ja a1 a2 j1f j1g j1h jz a4 a5 a6 a7=some (r1,r2,r3)) :
  Calls Try.prog 53 #[ag_ jc jb jd jf ja jg,.int .i64 a1,.int .i64 a2,ag_ j1f j1g j1h j2n jz j2o,.int .i64 a4,.int .i64 a5,.int .i64 a6,.int .i64 a7] w fun e w'=>e=.returned (.tuple #[.int .i64 r1,.int .i64 r2,.bool r3])∧Below w.heap.size w w':=by
 have hu30:=Try.underlying30;have ji:=ai_ hr0_3;have jl:=ai_ hc0_3;clear hr0_3 hc0_3;have j5h:=ai_ hr3_3;have j5i:=ai_ hc3_3;clear hr3_3 hc3_3;have HB:=ai_ (Below.refl w.heap.size w);have H:=h
 unfold impl_changeAt.f at H
 clear h;obtain ⟨⟨j2p,j8x⟩,A9,H⟩:=bs_ H;(try dsimp only at H)
 by_cases c10:j8x=true
 rotate_left
 ·replace c10:=Bool.eq_false_iff.mpr c10
  subst c10;rw [if_neg ft_] at H;simp only [Option.some.injEq,Prod.mk.injEq] at H;obtain ⟨rfl,rfl,rfl⟩:=H;go_enter Try.func53,Try.ntmps53
  go_wp2_with (first|((with_reducible refine gd_ 8 rfl ?_);refine bxe_ #[.int .i64 jc,.int .i64 jb,.int .i64 jd,.slice jf ja.length jg] 30 ?_;intro j5j hg w27 hbox hb;have jj:=ai_ (hbox);have j5k:=ai_ (gb_ hg (below_size (below_to HB)));have jn:=ai_ (gb_ hg (below_size (below_to HB)));replace HB:=ai_ (below_step (below_to HB) hb);clear hb hbox hg)|((with_reducible refine gd_ 11 rfl ?_);refine bxe_ #[.int .i64 j1f,.int .i64 j1g,.int .i64 j1h,.slice j2n jz.length j2o] 30 ?_;intro j5l hg w28 hbox hb;have jr:=ai_ (hbox);have j5m:=ai_ (gb_ hg (below_size (below_to1 HB jn.out)));have jw:=ai_ (gb_ hg (below_size (below_to1 HB jn.out)));replace HB:=ai_ (below_step (below_to1 HB jn.out) hb);have jk:=ai_ (ne_ hg (blk_lt (blk_to jj)));replace jj:=bb_ jj hb;have jt:=ai_ jk.out.symm;clear hb hbox hg;have j9i:=jk.out;have j9j:=jt.out;obtain ⟨j8d,j8e,j8f,j8g,j8h,j8i,j8j,j8k⟩:=blk4_ jj)|((with_reducible refine gc_ 70 rfl ?_);refine gl_ (some 27) Try.func70 #[ag_ jc jb jd jf ja jg,.int .i64 a1,.int .i64 a2,.int .i64 a7] ?_;(with_reducible refine (impl_arriveAt.calls jc jb jd _ _ ja a1 a2 a7 j2p false _ (cb_ ji HB) jl.out A9.out).mono ?_);rintro e w31 ⟨rfl,hb⟩;refine ⟨_,rfl,?_⟩;replace jj:=bb_ jj hb;replace jr:=bb_ jr hb;replace HB:=ai_ (below_step (below_to2 HB jn.out jw.out) hb);clear hb))
  go_ret3
  exact ⟨rtE_,below_to2 HB jn.out jw.out⟩
 subst c10;rw [if_pos rfl] at H;obtain ⟨⟨j6r,j8y⟩,A11,H⟩:=bs_ H;(try dsimp only at H)
 by_cases c12:j8y=true
 ·subst c12
  rw [if_pos rfl] at H;simp only [Option.some.injEq,Prod.mk.injEq] at H;obtain ⟨rfl,rfl,rfl⟩:=H;go_enter Try.func53,Try.ntmps53
  go_wp2_with (first|((with_reducible refine gd_ 8 rfl ?_);refine bxe_ #[.int .i64 jc,.int .i64 jb,.int .i64 jd,.slice jf ja.length jg] 30 ?_;intro j5j hg w13 hbox hb;have jj:=ai_ (hbox);have j5k:=ai_ (gb_ hg (below_size (below_to HB)));have jn:=ai_ (gb_ hg (below_size (below_to HB)));replace HB:=ai_ (below_step (below_to HB) hb);clear hb hbox hg)|((with_reducible refine gd_ 11 rfl ?_);refine bxe_ #[.int .i64 j1f,.int .i64 j1g,.int .i64 j1h,.slice j2n jz.length j2o] 30 ?_;intro j5l hg w14 hbox hb;have jr:=ai_ (hbox);have j5m:=ai_ (gb_ hg (below_size (below_to1 HB jn.out)));have jw:=ai_ (gb_ hg (below_size (below_to1 HB jn.out)));replace HB:=ai_ (below_step (below_to1 HB jn.out) hb);have jk:=ai_ (ne_ hg (blk_lt (blk_to jj)));replace jj:=bb_ jj hb;have jt:=ai_ jk.out.symm;clear hb hbox hg;have j9k:=jk.out;have j9l:=jt.out;obtain ⟨j4m,j4n,j4o,j4p,j4q,j4r,j4s,j4t⟩:=blk4_ jj)|((with_reducible refine gc_ 70 rfl ?_);refine gl_ (some 27) Try.func70 #[ag_ jc jb jd jf ja jg,.int .i64 a1,.int .i64 a2,.int .i64 a7] ?_;(with_reducible refine (impl_arriveAt.calls jc jb jd _ _ ja a1 a2 a7 j2p true _ (cb_ ji HB) jl.out A9.out).mono ?_);rintro e w17 ⟨rfl,hb⟩;refine ⟨_,rfl,?_⟩;replace jj:=bb_ jj hb;replace jr:=bb_ jr hb;replace HB:=ai_ (below_step (below_to2 HB jn.out jw.out) hb);clear hb;obtain ⟨j4u,j4v,j4w,j4x,j4y,j4z,j5a,j5b⟩:=blk4_ jr)|((with_reducible refine gc_ 70 rfl ?_);refine gl_ (some 39) Try.func70 #[ag_ j1f j1g j1h j2n jz j2o,.int .i64 a4,.int .i64 a5,.int .i64 (wrap64 (j2p+a6))] ?_;(with_reducible refine (impl_arriveAt.calls j1f j1g j1h _ _ jz a4 a5 (wrap64 (j2p+a6)) j6r true _ (cb_ j5h HB) j5i.out A11.out).mono ?_);rintro e w19 ⟨rfl,hb⟩;refine ⟨_,rfl,?_⟩;replace jj:=bb_ jj hb;replace jr:=bb_ jr hb;replace HB:=ai_ (below_step (below_to2 HB jn.out jw.out) hb);clear hb))
  go_ret3
  exact ⟨rtE_,below_to2 HB jn.out jw.out⟩
 ·replace c12:=Bool.eq_false_iff.mpr c12
  subst c12;rw [if_neg ft_] at H;simp only [Option.some.injEq,Prod.mk.injEq] at H;obtain ⟨rfl,rfl,rfl⟩:=H;go_enter Try.func53,Try.ntmps53
  go_wp2_with (first|((with_reducible refine gd_ 8 rfl ?_);refine bxe_ #[.int .i64 jc,.int .i64 jb,.int .i64 jd,.slice jf ja.length jg] 30 ?_;intro j5j hg w20 hbox hb;have jj:=ai_ (hbox);have j5k:=ai_ (gb_ hg (below_size (below_to HB)));have jn:=ai_ (gb_ hg (below_size (below_to HB)));replace HB:=ai_ (below_step (below_to HB) hb);clear hb hbox hg)|((with_reducible refine gd_ 11 rfl ?_);refine bxe_ #[.int .i64 j1f,.int .i64 j1g,.int .i64 j1h,.slice j2n jz.length j2o] 30 ?_;intro j5l hg w21 hbox hb;have jr:=ai_ (hbox);have j5m:=ai_ (gb_ hg (below_size (below_to1 HB jn.out)));have jw:=ai_ (gb_ hg (below_size (below_to1 HB jn.out)));replace HB:=ai_ (below_step (below_to1 HB jn.out) hb);have jk:=ai_ (ne_ hg (blk_lt (blk_to jj)));replace jj:=bb_ jj hb;have jt:=ai_ jk.out.symm;clear hb hbox hg;have j9m:=jk.out;have j9n:=jt.out;obtain ⟨j8l,j8m,j8n,j8o,j8p,j8q,j8r,j8s⟩:=blk4_ jj)|((with_reducible refine gc_ 70 rfl ?_);refine gl_ (some 27) Try.func70 #[ag_ jc jb jd jf ja jg,.int .i64 a1,.int .i64 a2,.int .i64 a7] ?_;(with_reducible refine (impl_arriveAt.calls jc jb jd _ _ ja a1 a2 a7 j2p true _ (cb_ ji HB) jl.out A9.out).mono ?_);rintro e w24 ⟨rfl,hb⟩;refine ⟨_,rfl,?_⟩;replace jj:=bb_ jj hb;replace jr:=bb_ jr hb;replace HB:=ai_ (below_step (below_to2 HB jn.out jw.out) hb);clear hb;obtain ⟨j4b,j4c,j4d,j4e,j4f,j4g,j4h,j4i⟩:=blk4_ jr)|((with_reducible refine gc_ 70 rfl ?_);refine gl_ (some 39) Try.func70 #[ag_ j1f j1g j1h j2n jz j2o,.int .i64 a4,.int .i64 a5,.int .i64 (wrap64 (j2p+a6))] ?_;(with_reducible refine (impl_arriveAt.calls j1f j1g j1h _ _ jz a4 a5 (wrap64 (j2p+a6)) j6r false _ (cb_ j5h HB) j5i.out A11.out).mono ?_);rintro e w26 ⟨rfl,hb⟩;refine ⟨_,rfl,?_⟩;replace jj:=bb_ jj hb;replace jr:=bb_ jr hb;replace HB:=ai_ (below_step (below_to2 HB jn.out jw.out) hb);clear hb))
  go_ret3
  exact ⟨rtE_,below_to2 HB jn.out jw.out⟩
def slices_Clone_int_int.f (l0:List Int):Option (List Int):=(some (([]:List Int):List Int)).bind fun j1y=>(if j1y.length+l0.length < 17592186044416 then (some (j1y ++ l0)) else (none))
theorem slices_Clone_int_int.calls (A0:Option Addr) (c0:Nat) (l0:List Int) (r:List Int) (w:World) (hr0:Kd.C Ki_ w A0 l0.length l0) (hc0:l0.length≤c0) (h:slices_Clone_int_int.f l0=some r) :
  Calls Try.prog 54 #[.slice A0 l0.length c0] w fun e w' => ∃ Ab:Value,e=.returned (Ab)∧Kd.R Ki_ 3 w' w.heap.size (fun _=>True) Ab r∧Below w.heap.size w w':=by
 have HR0:=ai_ hr0;have HC0:=ai_ hc0;clear hr0 hc0;have q_:∀ (w:World) (a:Option Addr) (n c n' c':Nat),(binOp .eql 22 (.slice a n c) (.slice none n' c')).run Try.prog w=.ok (.bool a.isNone) w:=fun w a n c n' c'=>Lib.run_eql_slice_nil w _ _ a n c n' c' Try.underlying22
 by_cases hA0:A0.isNone=true
 ·have hl0:l0.length=0:=by
   cases A0 with
   | some a=>cases hA0
   | none =>
    obtain ⟨_,_,h3⟩:=HR0.out
    cases l0 with
    | nil=>rfl
    | cons x l=>obtain ⟨_,h4,_⟩:=h3 (by simp);cases h4
  obtain rfl:l0=[]:=List.eq_nil_of_length_eq_zero hl0;obtain rfl:r=[]:=by simpa [slices_Clone_int_int.f] using h.symm
  clear h hl0;go_enter Try.func54,Try.ntmps54
  go_wp2
  go_ret;exact ⟨.slice none 0 0,rfl,Kd.R_nil _ _ _ _ _,Below.refl _ _⟩
 replace hA0:A0.isNone=false:=Bool.eq_false_iff.2 hA0;have HB:=ai_ (Below.refl w.heap.size w);have H:=h
 unfold slices_Clone_int_int.f at H
 clear h
 obtain ⟨j1y,hy194⟩:∃ y_:List Int,y_=(([]:List Int)):=⟨_,rfl⟩
 replace H:(if j1y.length+l0.length < 17592186044416 then (some (j1y ++ l0)) else (none))=some r:=rx_ H hy194;have j5n:=ai_ hy194;clear hy194
 by_cases c2:j1y.length+l0.length < 17592186044416
 ·rw [if_pos c2] at H
  have j8z:=ai_ c2;clear c2
  obtain ⟨j9a,hy197⟩:∃ y_:List Int,y_=(j1y ++ l0):=⟨_,rfl⟩
  replace H:(some j9a)=some r:=rx_ H hy197;have j6s:=ai_ hy197;clear hy197;obtain rfl:=Option.some.inj H;go_enter Try.func54,Try.ntmps54
  go_wp2_with (first|((with_reducible refine gd_ 5 rfl ?_);refine lit_ 3 5 [] ?_;intro j9b w3 ho4 hb hg_ hnew_;clear hg_ hnew_;(first|rw [← j5n.out] at ho4|(simp only [Int.reduceToNat] at ho4;rw [← j5n.out] at ho4));have j5o:=ai_ (Kd.R_lower ho4 (below_size (below_to HB)));replace HB:=ai_ (below_step (below_to HB) hb);clear hb ho4)|((with_reducible refine gate_builtin (b:=.append) (xs:=#[.tmp 5,.tmp 6]) rfl ?_);at_builtin;refine Kd.R_append_rows Ki_ (w0:=w) w.heap.size rfl (.tmp 5) (.tmp 6) 22 3 (.int .i64 0) 8 rfl Try.underlying22 info3 rfl (by decide) (by omega) j9b j1y l0 _ _ _ (fun _=>True) (fun _=>False) rfl rfl ?aO ?aR (fun _ _ h=>h) (fun _ h=>h.elim) ?aF ?aB ?aS ?aL ?_;(case aR=>repeat (first|exact (Kd.C_below HR0.out HB.out)|(with_reducible refine Kd.C_alloc ?_ _)|(with_reducible refine Kd.C_drewN ?_ _)|(with_reducible refine Kd.C_drew ?_)));(case aB=>exact (below_to HB));(case aF=>exact (fun _ _=>trivial));(case aO=>exact (kd_to j5o));(case aS=>exact (below_size (below_to HB)));(case aL=>have:=j8z.out;omega);intro j9p w5 ho hb hg hat;rw [← j6s.out] at ho;replace HB:=ai_ (hb);have j6t:=ai_ (ho);clear j5o;clear ho hb hg hat))
  go_ret;exact ⟨_,rtE_,kd_to j6t,below_to HB⟩
 ·rw [if_neg c2] at H
  cases H
end Go.Proofs.Ythdnodmidbcgpaa.QE
