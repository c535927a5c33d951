import Derived.Test.YthdnodmidbcgpaaGreatDoorQRx3
namespace Go.Proofs.YthdnodmidbcgpaaGreatDoor.QR
open Go.Proofs.YthdnodmidbcgpaaGreatDoor.X Go.RowKit Go.Proofs.YthdnodmidbcgpaaGreatDoorW.PrintWords Go.Proofs.YthdnodmidbcgpaaGreatDoorW.PrintLast Go.Proofs.YthdnodmidbcgpaaGreatDoorW.PrintMore
set_option maxHeartbeats 8000000
set_option maxRecDepth 100000
attribute [local go_sem] max2_int min2_int max_two min_two max_three min_three max_four min_four
set_option linter.unusedVariables false
set_option linter.unusedSimpArgs false
def spec_buGood.j0:Nat→Bool→Int→Int→Int→List Int→Option (Bool)
 | 0,_,_,_,_,_=>none
 | k+1,x18,j2s,j2t,j2u,jq=>if x18=true then (some false) else (if (wrap64 (j2s+(wrap64 ((wrap64 (j2u - 1))*j2t)))) > 2000 then (some false) else ((spec_l1In.f (jq.length:Int) 2 12).bind fun j3l=>(if j3l=true then (if 0 < (jq.length:Int) then (if (rd jq 0)=0 then ((spec_l1Rising.f k jq 0 500).bind fun j2v=>(some j2v)) else (some false)) else (none)) else (some false))))
def spec_buGood.f (k:Nat) (jb:Int) (jc:Int) (jd:Int) (ja:List Int):Option (Bool):=(spec_l1In.f jb 0 2000).bind fun j3m=>(if j3m=true then ((spec_l1In.f jc 1 2000).bind fun j3n=>(if j3n=true then ((spec_l1In.f jd 1 60).bind fun j2w=>(spec_buGood.j0 k (!j2w) jb jc jd ja)) else (spec_buGood.j0 k true jb jc jd ja))) else (spec_buGood.j0 k true jb jc jd ja))
theorem spec_buGood.calls (k:Nat) (jb:Int) (jc:Int) (jd:Int) (je:Option Addr) (jf:Nat) (ja:List Int) (r:Bool) (w:World) (hr0_3:Kd.C Ki_ w je ja.length ja) (hc0_3:ja.length≤jf) (h:spec_buGood.f k jb jc jd ja=some r) :
  Calls Tryz.prog 52 #[.agg #[.int .i64 jb,.int .i64 jc,.int .i64 jd,.slice je ja.length jf]] w fun e w'=>e=.returned (.bool r)∧Below w.heap.size w w':=by
 have hu26:=Tryz.underlying26
 have jg:=ai_ hr0_3
 have jk:=ai_ hc0_3
 clear hr0_3 hc0_3
 have HB:=ai_ (Below.refl w.heap.size w)
 have H:=h
 unfold spec_buGood.f at H
 clear h
 have HC2:=ai_ H
 clear H
 go_enter Tryz.func52,Tryz.ntmps52
 go_upto_region 1 with (first|((with_reducible refine gate_dst (N:=1) rfl ?_);(try (refine gate_guard (by rfl) ?_;dsimp only));refine bxe_ #[.int .i64 jb,.int .i64 jc,.int .i64 jd,.slice je ja.length jf] 26 ?_;intro j3r hg w3 hbox hb;have jl:=ai_ (hbox);have j6h:=ai_ (gb_ hg (below_size (below_to HB)));have jo:=ai_ (gb_ hg (below_size (below_to HB)));replace HB:=ai_ (below_step (below_to HB) hb);clear hb hbox hg))
 (try simp only [Act.put,List.setIfInBounds_toArray,List.set_cons_zero,List.set_cons_succ])
 go_cut [18] (fun v18 wc => ∃ (kq:Nat) (j1z:Bool),v18=.bool j1z∧Aside0 (spec_buGood.j0 kq j1z jb jc jd ja=some r)∧Aside0 (kq≤k)∧Aside0 (wc.heap[j3r]?=some (.cells #[.int .i64 jb,.int .i64 jc,.int .i64 jd,(.slice je ja.length jf)] 26 (0,0)))∧Aside0 (Below w.heap.size w wc))
 case first =>
  have H:=HC2.out
  clear HC2
  obtain ⟨j3m,A4,H⟩:=bs_ H
  (try dsimp only at H)
  by_cases c5:j3m=true
  rotate_left
  ·replace c5:=Bool.eq_false_iff.mpr c5
   subst c5
   rw [if_neg ft_] at H
   have H':=ai_ H
   clear H
   obtain ⟨jr,js,jt,ju,jv,jw,jx,jy⟩:=blk4_ jl
   go_wp2_with (first|((with_reducible refine gate_callee (f:=64) rfl ?_);refine gl_ (some 5) Tryz.func64 #[.int .i64 jb,.int .i64 0,.int .i64 2000] ?_;(with_reducible refine (spec_l1In.calls jb 0 2000 false _ A4.out).mono ?_);rintro e w' ⟨rfl,⟨nd,rfl⟩⟩;refine ⟨_,rfl,?_⟩))
   go_meet
   case rel=>exact ⟨_,(true),rt_,H',⟨by first|omega|exact Nat.le_refl _⟩,⟨blk_to jl⟩,⟨below_to1 HB jo.out⟩⟩
  subst c5
  rw [if_pos rfl] at H
  obtain ⟨j3n,A6,H⟩:=bs_ H
  (try dsimp only at H)
  by_cases c7:j3n=true
  rotate_left
  ·replace c7:=Bool.eq_false_iff.mpr c7
   subst c7
   rw [if_neg ft_] at H
   have H':=ai_ H
   clear H
   obtain ⟨j2a,j2b,j2c,j2d,j2e,j2f,j2g,j2h⟩:=blk4_ jl
   go_wp2_with (first|((with_reducible refine gate_callee (f:=64) rfl ?_);refine gl_ (some 5) Tryz.func64 #[.int .i64 jb,.int .i64 0,.int .i64 2000] ?_;(with_reducible refine (spec_l1In.calls jb 0 2000 true _ A4.out).mono ?_);rintro e w' ⟨rfl,⟨nd,rfl⟩⟩;refine ⟨_,rfl,?_⟩)|(go_at_call 64;(with_reducible refine (spec_l1In.calls jc 1 2000 false _ A6.out).mono ?_);rintro e w' ⟨rfl,⟨nd,rfl⟩⟩))
   go_meet
   case rel=>exact ⟨_,(true),rt_,H',⟨by first|omega|exact Nat.le_refl _⟩,⟨blk_to jl⟩,⟨below_to1 HB jo.out⟩⟩
  subst c7
  rw [if_pos rfl] at H
  obtain ⟨j2w,A8,H⟩:=bs_ H
  (try dsimp only at H)
  have H':=ai_ H
  clear H
  obtain ⟨j1c,j1d,j1e,j1f,j1g,j1h,j1i,j1j⟩:=blk4_ jl
  go_wp2_with (first|((with_reducible refine gate_callee (f:=64) rfl ?_);refine gl_ (some 5) Tryz.func64 #[.int .i64 jb,.int .i64 0,.int .i64 2000] ?_;(with_reducible refine (spec_l1In.calls jb 0 2000 true _ A4.out).mono ?_);rintro e w' ⟨rfl,⟨nd,rfl⟩⟩;refine ⟨_,rfl,?_⟩)|(go_at_call 64;(with_reducible refine (spec_l1In.calls jc 1 2000 true _ A6.out).mono ?_);rintro e w' ⟨rfl,⟨nd,rfl⟩⟩)|(go_at_call 64;(with_reducible refine (spec_l1In.calls jd 1 60 j2w _ A8.out).mono ?_);rintro e w' ⟨rfl,⟨nd,rfl⟩⟩))
  go_meet
  case rel=>exact ⟨_,(!j2w),rt_,H',⟨by first|omega|exact Nat.le_refl _⟩,⟨blk_to jl⟩,⟨below_to1 HB jo.out⟩⟩
 clear HC2
 try clear p2
 try clear c5
 try clear c6
 try clear c7
 try clear j2a
 try clear j2b
 try clear j2c
 try clear j2d
 try clear jr
 try clear js
 try clear jt
 try clear ju
 try clear j1c
 try clear j1d
 try clear j1e
 try clear j1f
 try clear j2e
 try clear j2f
 try clear j2g
 try clear j2h
 try clear jv
 try clear jw
 try clear jx
 try clear jy
 try clear j1g
 try clear j1h
 try clear j1i
 try clear j1j
 obtain ⟨kq,j1z,rfl,HA,HJ1,jl,HB⟩:=hcut
 cases kq with
 | zero=>exact absurd HA.out (by simp [spec_buGood.j0])
 | succ kj1 =>
  have H:=HA.out
  clear HA
  simp only [spec_buGood.j0] at H
  by_cases c12:j1z=true
  ·subst c12
   rw [if_pos rfl] at H
   obtain rfl:=Option.some.inj H
   go_wp2
   go_ret
   exact ⟨rtE_,below_to1 HB jo.out⟩
  replace c12:=Bool.eq_false_iff.mpr c12
  subst c12
  rw [if_neg ft_] at H
  by_cases c13:(wrap64 (jb+(wrap64 ((wrap64 (jd - 1))*jc)))) > 2000
  ·rw [if_pos c13] at H
   have j3s:=decide_eq_true c13
   clear c13
   obtain rfl:=Option.some.inj H
   obtain ⟨j4c,j4d,j4e,j4f,j4g,j4h,j4i,j4j⟩:=blk4_ jl
   go_wp2
   go_ret
   exact ⟨rtE_,below_to1 HB jo.out⟩
  rw [if_neg c13] at H
  have j3s:=decide_eq_false c13
  clear c13
  obtain ⟨j3l,A15,H⟩:=bs_ H
  (try dsimp only at H)
  by_cases c16:j3l=true
  rotate_left
  ·replace c16:=Bool.eq_false_iff.mpr c16
   subst c16
   rw [if_neg ft_] at H
   obtain rfl:=Option.some.inj H
   obtain ⟨j4k,j4l,j4m,j4n,j4o,j4p,j4q,j4r⟩:=blk4_ jl
   go_wp2_with (first|(go_at_call 64;(with_reducible refine (spec_l1In.calls (ja.length:Int) 2 12 false _ A15.out).mono ?_);rintro e w' ⟨rfl,⟨nd,rfl⟩⟩))
   go_ret
   exact ⟨rtE_,below_to1 HB jo.out⟩
  subst c16
  rw [if_pos rfl] at H
  by_cases c17:0 < (ja.length:Int)
  rotate_left
  ·rw [if_neg c17] at H
   cases H
  rw [if_pos c17] at H
  have j6i:=decide_eq_true c17
  have j6j:decide (0 < ja.length)=true:=decide_eq_true (by omega)
  clear c17
  by_cases c18:(rd ja 0)=0
  ·rw [if_pos c18] at H
   have j3t:=beq_iff_eq.mpr c18
   have j3u:=bne_eq_false_iff_eq.mpr c18
   clear c18
   replace H:=Option.bind_eq_some_iff.mp H
   obtain ⟨j2v,A190,H⟩:=H
   replace H:(some j2v)=some r:=H
   have A19:=ai_ A190
   clear A190
   obtain rfl:=Option.some.inj H
   obtain ⟨j4s,j4t,j4u,j4v,j4w,j4x,j4y,j4z⟩:=blk4_ jl
   go_wp2_with (first|(go_at_call 64;(with_reducible refine (spec_l1In.calls (ja.length:Int) 2 12 true _ A15.out).mono ?_);rintro e w' ⟨rfl,⟨nd,rfl⟩⟩;have j1p:0≤(0:Int):=(by omega);have j1q:0 < (ja.length:Int):=of_decide_eq_true (by first|(with_reducible assumption)|assumption);obtain ⟨j3v,e252,jh⟩:=Kd.at_int jg.out 0 j1p j1q;cases e252;have qi252:(0 < ja.length)=True:=eq_true (by omega);(try rw [show ((0:Int)).toNat=0 from rfl] at jh);(try rw [Addr.add_zero'] at jh);replace jh:=(HB.out.cell (World.block_lt_of_cell? w _ jh)).trans jh;replace j1p:=eq_true j1p;replace j1q:=eq_true j1q)|(go_at_call 72;(with_reducible refine (spec_l1Rising.calls kj1 _ _ ja 0 500 j2v _ ?side1 jk.out A19.out).mono ?_);(case side1=>repeat (first|exact (Kd.C_below jg.out (below_to1 HB jo.out))|(with_reducible refine Kd.C_alloc ?_ _)|(with_reducible refine Kd.C_drewN ?_ _)|(with_reducible refine Kd.C_drew ?_)));rintro e w' ⟨rfl,⟨nd,rfl⟩⟩))
   go_ret
   exact ⟨rtE_,below_to1 HB jo.out⟩
  ·rw [if_neg c18] at H
   have j3t:=beq_eq_false_iff_ne.mpr c18
   have j3u:=bne_iff_ne.mpr c18
   obtain rfl:=Option.some.inj H
   obtain ⟨j2x,j2y,j2z,j3a,j3b,j3c,j3d,j3e⟩:=blk4_ jl
   go_wp2_with (first|(go_at_call 64;(with_reducible refine (spec_l1In.calls (ja.length:Int) 2 12 true _ A15.out).mono ?_);rintro e w' ⟨rfl,⟨nd,rfl⟩⟩;have j1p:0≤(0:Int):=(by omega);have j1q:0 < (ja.length:Int):=of_decide_eq_true (by first|(with_reducible assumption)|assumption);obtain ⟨j3v,e252,jh⟩:=Kd.at_int jg.out 0 j1p j1q;cases e252;have qi252:(0 < ja.length)=True:=eq_true (by omega);(try rw [show ((0:Int)).toNat=0 from rfl] at jh);(try rw [Addr.add_zero'] at jh);replace jh:=(HB.out.cell (World.block_lt_of_cell? w _ jh)).trans jh;replace j1p:=eq_true j1p;replace j1q:=eq_true j1q))
   go_ret
   exact ⟨rtE_,below_to1 HB jo.out⟩
def spec_buStop.f (k:Nat) (jb:Int) (jc:Int) (jd:Int) (ja:List Int) (a1:Int):Option (Bool):=(spec_buGood.f k jb jc jd ja).bind fun j3o=>(if j3o=true then ((spec_l1In.f a1 0 (wrap64 ((ja.length:Int) - 1))).bind fun j3f=>(some j3f)) else (some false))
theorem spec_buStop.calls (k:Nat) (jb:Int) (jc:Int) (jd:Int) (je:Option Addr) (jf:Nat) (ja:List Int) (a1:Int) (r:Bool) (w:World) (hr0_3:Kd.C Ki_ w je ja.length ja) (hc0_3:ja.length≤jf) (h:spec_buStop.f k jb jc jd ja a1=some r) :
  Calls Tryz.prog 46 #[.agg #[.int .i64 jb,.int .i64 jc,.int .i64 jd,.slice je ja.length jf],.int .i64 a1] w fun e w'=>e=.returned (.bool r)∧Below w.heap.size w w':=by
 have hu26:=Tryz.underlying26
 have jg:=ai_ hr0_3
 have jk:=ai_ hc0_3
 clear hr0_3 hc0_3
 have HB:=ai_ (Below.refl w.heap.size w)
 have H:=h
 unfold spec_buStop.f at H
 clear h
 obtain ⟨j3o,A3,H⟩:=bs_ H
 (try dsimp only at H)
 by_cases c4:j3o=true
 ·subst c4
  rw [if_pos rfl] at H
  replace H:=Option.bind_eq_some_iff.mp H
  obtain ⟨j3f,A50,H⟩:=H
  replace H:(some j3f)=some r:=H
  have A5:=ai_ A50
  clear A50
  obtain rfl:=Option.some.inj H
  go_enter Tryz.func46,Tryz.ntmps46
  go_wp2_with (first|((with_reducible refine gate_dst (N:=2) rfl ?_);(try (refine gate_guard (by rfl) ?_;dsimp only));refine bxe_ #[.int .i64 jb,.int .i64 jc,.int .i64 jd,.slice je ja.length jf] 26 ?_;intro j3w hg w6 hbox hb;have jp:=ai_ (hbox);have j3x:=ai_ (gb_ hg (below_size (below_to HB)));have j1n:=ai_ (gb_ hg (below_size (below_to HB)));replace HB:=ai_ (below_step (below_to HB) hb);clear hb hbox hg;obtain ⟨j1r,j1s,j1t,j1u,j1v,j1w,j1x,j1y⟩:=blk4_ jp)|((with_reducible refine gate_callee (f:=52) rfl ?_);refine gl_ (some 6) Tryz.func52 #[.agg #[.int .i64 jb,.int .i64 jc,.int .i64 jd,.slice je ja.length jf]] ?_;(with_reducible refine (spec_buGood.calls k jb jc jd _ _ ja true _ ?side1 jk.out A3.out).mono ?_);(case side1=>exact cb_ jg HB);rintro e w8 ⟨rfl,hb⟩;refine ⟨_,rfl,?_⟩;replace jp:=bb_ jp hb;replace HB:=ai_ (below_step (below_to1 HB j1n.out) hb);clear hb;obtain ⟨j1c,j1d,j1e,j1f,j1g,j1h,j1i,j1j⟩:=blk4_ jp)|(go_at_call 64;(with_reducible refine (spec_l1In.calls a1 0 (wrap64 ((ja.length:Int) - 1)) j3f _ A5.out).mono ?_);rintro e w' ⟨rfl,⟨nd,rfl⟩⟩))
  go_ret
  exact ⟨rtE_,below_to1 HB j1n.out⟩
 ·replace c4:=Bool.eq_false_iff.mpr c4
  subst c4
  rw [if_neg ft_] at H
  obtain rfl:=Option.some.inj H
  go_enter Tryz.func46,Tryz.ntmps46
  go_wp2_with (first|((with_reducible refine gate_dst (N:=2) rfl ?_);(try (refine gate_guard (by rfl) ?_;dsimp only));refine bxe_ #[.int .i64 jb,.int .i64 jc,.int .i64 jd,.slice je ja.length jf] 26 ?_;intro j3w hg w10 hbox hb;have jp:=ai_ (hbox);have j3x:=ai_ (gb_ hg (below_size (below_to HB)));have j1n:=ai_ (gb_ hg (below_size (below_to HB)));replace HB:=ai_ (below_step (below_to HB) hb);clear hb hbox hg;obtain ⟨jr,js,jt,ju,jv,jw,jx,jy⟩:=blk4_ jp)|((with_reducible refine gate_callee (f:=52) rfl ?_);refine gl_ (some 6) Tryz.func52 #[.agg #[.int .i64 jb,.int .i64 jc,.int .i64 jd,.slice je ja.length jf]] ?_;(with_reducible refine (spec_buGood.calls k jb jc jd _ _ ja false _ ?side1 jk.out A3.out).mono ?_);(case side1=>exact cb_ jg HB);rintro e w12 ⟨rfl,hb⟩;refine ⟨_,rfl,?_⟩;replace jp:=bb_ jp hb;replace HB:=ai_ (below_step (below_to1 HB j1n.out) hb);clear hb))
  go_ret
  exact ⟨rtE_,below_to1 HB j1n.out⟩
def spec_buMinute.f (a0:Int):Option (Bool):=(spec_l1In.f a0 0 2000).bind fun j3g=>(some j3g)
theorem spec_buMinute.calls (a0:Int) (r:Bool) (w:World) (h:spec_buMinute.f a0=some r) :
  Calls Tryz.prog 47 #[.int .i64 a0] w fun e w'=>e=.returned (.bool r)∧Drawn0 w w':=by
 have H:=h
 unfold spec_buMinute.f at H
 clear h
 replace H:=Option.bind_eq_some_iff.mp H
 obtain ⟨j3g,A20,H⟩:=H
 replace H:(some j3g)=some r:=H
 have A2:=ai_ A20
 clear A20
 obtain rfl:=Option.some.inj H
 go_enter Tryz.func47,Tryz.ntmps47
 go_wp2_with (first|((with_reducible refine gate_callee (f:=64) rfl ?_);refine gl_ (some 4) Tryz.func64 #[.int .i64 a0,.int .i64 0,.int .i64 2000] ?_;(with_reducible refine (spec_l1In.calls a0 0 2000 j3g _ A2.out).mono ?_);rintro e w' ⟨rfl,⟨nd,rfl⟩⟩;refine ⟨_,rfl,?_⟩))
 go_ret
 exact ⟨rt_,d0_⟩
def spec_buTime.f (jb:Int) (jc:Int) (jd:Int) (ja:List Int) (a1:Int) (a2:Int):Option (Int):=if 0≤a2 then (if a2 < (ja.length:Int) then (some (wrap64 ((wrap64 (jb+(wrap64 (a1*jc))))+(rd ja a2)))) else (none)) else (none)
theorem spec_buTime.calls (jb:Int) (jc:Int) (jd:Int) (je:Option Addr) (jf:Nat) (ja:List Int) (a1:Int) (a2:Int) (r:Int) (w:World) (hr0_3:Kd.C Ki_ w je ja.length ja) (hc0_3:ja.length≤jf) (h:spec_buTime.f jb jc jd ja a1 a2=some r) :
  Calls Tryz.prog 49 #[.agg #[.int .i64 jb,.int .i64 jc,.int .i64 jd,.slice je ja.length jf],.int .i64 a1,.int .i64 a2] w fun e w'=>e=.returned (.int .i64 r)∧Below w.heap.size w w':=by
 have hu26:=Tryz.underlying26
 have jg:=ai_ hr0_3
 have jk:=ai_ hc0_3
 clear hr0_3 hc0_3
 have HB:=ai_ (Below.refl w.heap.size w)
 have H:=h
 unfold spec_buTime.f at H
 clear h
 by_cases c4:0≤a2
 ·rw [if_pos c4] at H
  have j6m:=decide_eq_true c4
  clear c4
  by_cases c5:a2 < (ja.length:Int)
  ·rw [if_pos c5] at H
   have j3y:=decide_eq_true c5
   clear c5
   obtain rfl:=Option.some.inj H
   go_enter Tryz.func49,Tryz.ntmps49
   go_wp2_with (first|((with_reducible refine gate_dst (N:=3) rfl ?_);refine bxe_ #[.int .i64 jb,.int .i64 jc,.int .i64 jd,.slice je ja.length jf] 26 ?_;intro j3i hg w6 hbox hb;have j1o:=ai_ (hbox);have j3j:=ai_ (gb_ hg (below_size (below_to HB)));have j2q:=ai_ (gb_ hg (below_size (below_to HB)));replace HB:=ai_ (below_step (below_to HB) hb);clear hb hbox hg;obtain ⟨j1r,j1s,j1t,j1u,j1v,j1w,j1x,j1y⟩:=blk4_ j1o;have jz:0≤(a2:Int):=of_decide_eq_true (by first|(with_reducible assumption)|assumption);have j1a:a2 < (ja.length:Int):=of_decide_eq_true (by first|(with_reducible assumption)|assumption);obtain ⟨j3k,e259,ji⟩:=Kd.at_int jg.out a2 jz j1a;cases e259;replace ji:=(HB.out.cell (World.block_lt_of_cell? w _ ji)).trans ji;replace jz:=eq_true jz;replace j1a:=eq_true j1a))
   repeat (go_quiet (first|((with_reducible refine gate_dst (N:=3) rfl ?_);refine bxe_ #[.int .i64 jb,.int .i64 jc,.int .i64 jd,.slice je ja.length jf] 26 ?_;intro j3i hg w6 hbox hb;have j1o:=ai_ (hbox);have j3j:=ai_ (gb_ hg (below_size (below_to HB)));have j2q:=ai_ (gb_ hg (below_size (below_to HB)));replace HB:=ai_ (below_step (below_to HB) hb);clear hb hbox hg;obtain ⟨j1r,j1s,j1t,j1u,j1v,j1w,j1x,j1y⟩:=blk4_ j1o;have jz:0≤(a2:Int):=of_decide_eq_true (by first|(with_reducible assumption)|assumption);have j1a:a2 < (ja.length:Int):=of_decide_eq_true (by first|(with_reducible assumption)|assumption);obtain ⟨j3k,e259,ji⟩:=Kd.at_int jg.out a2 jz j1a;cases e259;replace ji:=(HB.out.cell (World.block_lt_of_cell? w _ ji)).trans ji;replace jz:=eq_true jz;replace j1a:=eq_true j1a));try go_wp2_with (first|((with_reducible refine gate_dst (N:=3) rfl ?_);refine bxe_ #[.int .i64 jb,.int .i64 jc,.int .i64 jd,.slice je ja.length jf] 26 ?_;intro j3i hg w6 hbox hb;have j1o:=ai_ (hbox);have j3j:=ai_ (gb_ hg (below_size (below_to HB)));have j2q:=ai_ (gb_ hg (below_size (below_to HB)));replace HB:=ai_ (below_step (below_to HB) hb);clear hb hbox hg;obtain ⟨j1r,j1s,j1t,j1u,j1v,j1w,j1x,j1y⟩:=blk4_ j1o;have jz:0≤(a2:Int):=of_decide_eq_true (by first|(with_reducible assumption)|assumption);have j1a:a2 < (ja.length:Int):=of_decide_eq_true (by first|(with_reducible assumption)|assumption);obtain ⟨j3k,e259,ji⟩:=Kd.at_int jg.out a2 jz j1a;cases e259;replace ji:=(HB.out.cell (World.block_lt_of_cell? w _ ji)).trans ji;replace jz:=eq_true jz;replace j1a:=eq_true j1a)))
   go_ret
   exact ⟨rtE_,below_to1 HB j2q.out⟩
  ·rw [if_neg c5] at H
   cases H
 ·rw [if_neg c4] at H
  cases H
def spec_buNext.l0:Nat→Int→Int→Int→Int→Int→Int→List Int→Option (Int)
 | 0,_,_,_,_,_,_,_=>none
 | k+1,x1,x2,x7,j2i,j2j,j1k,j2k=>if x7 < j1k then ((spec_buTime.f j2i j2j j1k j2k x7 x1).bind fun j2r=>(if j2r≥x2 then (some x7) else (spec_buNext.l0 k x1 x2 (wrap64 (x7+1)) j2i j2j j1k j2k))) else (some (-1))
def spec_buNext.f (k:Nat) (jb:Int) (jc:Int) (jd:Int) (ja:List Int) (a1:Int) (a2:Int):Option (Int):=spec_buNext.l0 k a1 a2 0 jb jc jd ja
theorem spec_buNext.calls (k:Nat) (jb:Int) (jc:Int) (jd:Int) (je:Option Addr) (jf:Nat) (ja:List Int) (a1:Int) (a2:Int) (r:Int) (w:World) (hr0_3:Kd.C Ki_ w je ja.length ja) (hc0_3:ja.length≤jf) (h:spec_buNext.f k jb jc jd ja a1 a2=some r) :
  Calls Tryz.prog 48 #[.agg #[.int .i64 jb,.int .i64 jc,.int .i64 jd,.slice je ja.length jf],.int .i64 a1,.int .i64 a2] w fun e w'=>e=.returned (.int .i64 r)∧Below w.heap.size w w':=by
 have hu26:=Tryz.underlying26
 have jg:=ai_ hr0_3
 have jk:=ai_ hc0_3
 clear hr0_3 hc0_3
 have HB:=ai_ (Below.refl w.heap.size w)
 have H:(spec_buNext.l0 k a1 a2 0 jb jc jd ja)=some r:=h
 clear h
 have H':=ai_ H
 clear H
 go_enter Tryz.func48,Tryz.ntmps48
 go_wp2_with (first|((with_reducible refine gate_dst (N:=3) rfl ?_);refine bxe_ #[.int .i64 jb,.int .i64 jc,.int .i64 jd,.slice je ja.length jf] 26 ?_;intro j3z hg w4 hbox hb;have jm:=ai_ (hbox);have j6k:=ai_ (gb_ hg (below_size (below_to HB)));have j1b:=ai_ (gb_ hg (below_size (below_to HB)));replace HB:=ai_ (below_step (below_to HB) hb);clear hb hbox hg))
 go_loopg [7] k (fun kq v7 w' => ∃ (j1l:Int),v7=.int .i64 j1l∧Aside0 (spec_buNext.l0 kq a1 a2 j1l jb jc jd ja=some r)∧Aside0 (kq≤k)∧Aside0 (w'.heap[j3z]?=some (.cells #[.int .i64 jb,.int .i64 jc,.int .i64 jd,(.slice je ja.length jf)] 26 (0,0)))∧Aside0 (Below w.heap.size w w'))
 case atStart=>exact ⟨(0),rt_,H',⟨Nat.le_refl _⟩,⟨blk_to jm⟩,⟨below_to1 HB j1b.out⟩⟩
 clear H'
 try clear p2
 try clear c4
 obtain ⟨j1l,rfl,HA,HK1,jm,HB⟩:=hrel
 cases gk with
 | zero=>exact absurd HA.out (by simp [spec_buNext.l0])
 | succ k1 =>
  have H:=HA.out
  clear HA
  simp only [spec_buNext.l0] at H
  by_cases c5:j1l < jd
  rotate_left
  ·rw [if_neg c5] at H
   have j3y:=decide_eq_false c5
   clear c5
   obtain rfl:=Option.some.inj H
   obtain ⟨j5a,j5b,j5c,j5d,j5e,j5f,j5g,j5h⟩:=blk4_ jm
   go_wp2
   go_ret
   exact ⟨rtE_,below_to1 HB j1b.out⟩
  rw [if_pos c5] at H
  have j3y:=decide_eq_true c5
  clear c5
  obtain ⟨j2r,A6,H⟩:=bs_ H
  (try dsimp only at H)
  by_cases c7:j2r≥a2
  ·rw [if_pos c7] at H
   have j5y:=decide_eq_true c7
   clear c7
   obtain rfl:=Option.some.inj H
   obtain ⟨j5z,j6a,j6b,j6c,j6d,j6e,j6f,j6g⟩:=blk4_ jm
   go_wp2_with (first|((with_reducible refine gate_callee (f:=49) rfl ?_);refine gl_ (some 17) Tryz.func49 #[.agg #[.int .i64 jb,.int .i64 jc,.int .i64 jd,.slice je ja.length jf],.int .i64 j1l,.int .i64 a1] ?_;(with_reducible refine (spec_buTime.calls jb jc jd _ _ ja j1l a1 j2r _ ?side1 jk.out A6.out).mono ?_);(case side1=>exact cb_ jg HB);rintro e w9 ⟨rfl,hb⟩;refine ⟨_,rfl,?_⟩;replace jm:=bb_ jm hb;replace HB:=ai_ (below_step (below_to1 HB j1b.out) hb);clear hb))
   go_ret
   exact ⟨rtE_,below_to1 HB j1b.out⟩
  ·rw [if_neg c7] at H
   have j5y:=decide_eq_false c7
   clear c7
   have H':=ai_ H
   clear H
   obtain ⟨j2a,j2b,j2c,j2d,j2e,j2f,j2g,j2h⟩:=blk4_ jm
   go_wp2_with (first|((with_reducible refine gate_callee (f:=49) rfl ?_);refine gl_ (some 17) Tryz.func49 #[.agg #[.int .i64 jb,.int .i64 jc,.int .i64 jd,.slice je ja.length jf],.int .i64 j1l,.int .i64 a1] ?_;(with_reducible refine (spec_buTime.calls jb jc jd _ _ ja j1l a1 j2r _ ?side1 jk.out A6.out).mono ?_);(case side1=>exact cb_ jg HB);rintro e w11 ⟨rfl,hb⟩;refine ⟨_,rfl,?_⟩;replace jm:=bb_ jm hb;replace HB:=ai_ (below_step (below_to1 HB j1b.out) hb);clear hb))
   go_roundg k1
   case measure=>have:=HK1.out;omega
   case rel=>exact ⟨(wrap64 (j1l+1)),rt_,H',⟨by have:=HK1.out;omega⟩,⟨blk_to jm⟩,⟨below_to1 HB j1b.out⟩⟩
def spec_NextBus.j0:Nat→Int→Int→Bool→Int→Int→Int→List Int→Option (Int × Int × Bool)
 | 0,_,_,_,_,_,_,_=>none
 | k+1,x1,x2,x18,j2l,j2m,j2n,j2o=>if x18=true then (some (0,0,false)) else ((spec_buNext.f k j2l j2m j2n j2o x1 x2).bind fun j1m=>(if j1m < 0 then (some (0,0,false)) else ((spec_buTime.f j2l j2m j2n j2o j1m x1).bind fun j3p=>(some (j1m,j3p,true)))))
def spec_NextBus.f (k:Nat) (jb:Int) (jc:Int) (jd:Int) (ja:List Int) (a1:Int) (a2:Int):Option (Int × Int × Bool):=(spec_buStop.f k jb jc jd ja a1).bind fun j3q=>(if j3q=true then ((spec_buMinute.f a2).bind fun j3h=>(spec_NextBus.j0 k a1 a2 (!j3h) jb jc jd ja)) else (spec_NextBus.j0 k a1 a2 true jb jc jd ja))
theorem spec_NextBus.calls (k:Nat) (jb:Int) (jc:Int) (jd:Int) (je:Option Addr) (jf:Nat) (ja:List Int) (a1:Int) (a2:Int) (r1:Int) (r2:Int) (r3:Bool) (w:World) (hr0_3:Kd.C Ki_ w je ja.length ja) (hc0_3:ja.length≤jf) (h:spec_NextBus.f k jb jc jd ja a1 a2=some (r1,r2,r3)) :
  Calls Tryz.prog 7 #[.agg #[.int .i64 jb,.int .i64 jc,.int .i64 jd,.slice je ja.length jf],.int .i64 a1,.int .i64 a2] w fun e w'=>e=.returned (.tuple #[.int .i64 r1,.int .i64 r2,.bool r3])∧Below w.heap.size w w':=by
 have hu26:=Tryz.underlying26
 have jg:=ai_ hr0_3
 have jk:=ai_ hc0_3
 clear hr0_3 hc0_3
 have HB:=ai_ (Below.refl w.heap.size w)
 have H:=h
 unfold spec_NextBus.f at H
 clear h
 have HC4:=ai_ H
 clear H
 go_enter Tryz.func7,Tryz.ntmps7
 go_upto_region 1 with (first|((with_reducible refine gate_dst (N:=3) rfl ?_);refine bxe_ #[.int .i64 jb,.int .i64 jc,.int .i64 jd,.slice je ja.length jf] 26 ?_;intro j4a hg w5 hbox hb;have jj:=ai_ (hbox);have j6l:=ai_ (gb_ hg (below_size (below_to HB)));have jn:=ai_ (gb_ hg (below_size (below_to HB)));replace HB:=ai_ (below_step (below_to HB) hb);clear hb hbox hg))
 (try simp only [Act.put,List.setIfInBounds_toArray,List.set_cons_zero,List.set_cons_succ])
 go_cut [18] (fun v18 wc => ∃ (kq:Nat) (j2p:Bool),v18=.bool j2p∧Aside0 (spec_NextBus.j0 kq a1 a2 j2p jb jc jd ja=some (r1,r2,r3))∧Aside0 (kq≤k)∧Aside0 (wc.heap[j4a]?=some (.cells #[.int .i64 jb,.int .i64 jc,.int .i64 jd,(.slice je ja.length jf)] 26 (0,0)))∧Aside0 (Below w.heap.size w wc))
 case first =>
  have H:=HC4.out
  clear HC4
  obtain ⟨j3q,A6,H⟩:=bs_ H
  (try dsimp only at H)
  by_cases c7:j3q=true
  rotate_left
  ·replace c7:=Bool.eq_false_iff.mpr c7
   subst c7
   rw [if_neg ft_] at H
   have H':=ai_ H
   clear H
   obtain ⟨jr,js,jt,ju,jv,jw,jx,jy⟩:=blk4_ jj
   go_wp2_with (first|((with_reducible refine gate_callee (f:=46) rfl ?_);refine gl_ (some 12) Tryz.func46 #[.agg #[.int .i64 jb,.int .i64 jc,.int .i64 jd,.slice je ja.length jf],.int .i64 a1] ?_;(with_reducible refine (spec_buStop.calls k jb jc jd _ _ ja a1 false _ ?side1 jk.out A6.out).mono ?_);(case side1=>exact cb_ jg HB);rintro e w12 ⟨rfl,hb⟩;refine ⟨_,rfl,?_⟩;replace jj:=bb_ jj hb;replace HB:=ai_ (below_step (below_to1 HB jn.out) hb);clear hb))
   go_meet
   case rel=>exact ⟨_,(true),rt_,H',⟨by first|omega|exact Nat.le_refl _⟩,⟨blk_to jj⟩,⟨below_to1 HB jn.out⟩⟩
  subst c7
  rw [if_pos rfl] at H
  obtain ⟨j3h,A8,H⟩:=bs_ H
  (try dsimp only at H)
  have H':=ai_ H
  clear H
  obtain ⟨j1c,j1d,j1e,j1f,j1g,j1h,j1i,j1j⟩:=blk4_ jj
  go_wp2_with (first|((with_reducible refine gate_callee (f:=46) rfl ?_);refine gl_ (some 12) Tryz.func46 #[.agg #[.int .i64 jb,.int .i64 jc,.int .i64 jd,.slice je ja.length jf],.int .i64 a1] ?_;(with_reducible refine (spec_buStop.calls k jb jc jd _ _ ja a1 true _ ?side1 jk.out A6.out).mono ?_);(case side1=>exact cb_ jg HB);rintro e w10 ⟨rfl,hb⟩;refine ⟨_,rfl,?_⟩;replace jj:=bb_ jj hb;replace HB:=ai_ (below_step (below_to1 HB jn.out) hb);clear hb)|(go_at_call 47;(with_reducible refine (spec_buMinute.calls a2 j3h _ A8.out).mono ?_);rintro e w' ⟨rfl,⟨nd,rfl⟩⟩))
  go_meet
  case rel=>exact ⟨_,(!j3h),rt_,H',⟨by first|omega|exact Nat.le_refl _⟩,⟨blk_to jj⟩,⟨below_to1 HB jn.out⟩⟩
 clear HC4
 try clear p2
 try clear c4
 try clear c7
 try clear jr
 try clear js
 try clear jt
 try clear ju
 try clear j1c
 try clear j1d
 try clear j1e
 try clear j1f
 try clear jv
 try clear jw
 try clear jx
 try clear jy
 try clear j1g
 try clear j1h
 try clear j1i
 try clear j1j
 obtain ⟨kq,j2p,rfl,HA,HJ3,jj,HB⟩:=hcut
 cases kq with
 | zero=>exact absurd HA.out (by simp [spec_NextBus.j0])
 | succ kj3 =>
  have H:=HA.out
  clear HA
  simp only [spec_NextBus.j0] at H
  by_cases c13:j2p=true
  ·subst c13
   rw [if_pos rfl] at H
   simp only [Option.some.injEq,Prod.mk.injEq] at H
   obtain ⟨rfl,rfl,rfl⟩:=H
   go_wp2
   go_ret3
   exact ⟨rtE_,below_to1 HB jn.out⟩
  replace c13:=Bool.eq_false_iff.mpr c13
  subst c13
  rw [if_neg ft_] at H
  obtain ⟨j1m,A14,H⟩:=bs_ H
  (try dsimp only at H)
  by_cases c15:j1m < 0
  ·rw [if_pos c15] at H
   have j4b:=decide_eq_true c15
   clear c15
   simp only [Option.some.injEq,Prod.mk.injEq] at H
   obtain ⟨rfl,rfl,rfl⟩:=H
   obtain ⟨j5i,j5j,j5k,j5l,j5m,j5n,j5o,j5p⟩:=blk4_ jj
   go_wp2_with (first|((with_reducible refine gate_callee (f:=48) rfl ?_);refine gl_ (some 22) Tryz.func48 #[.agg #[.int .i64 jb,.int .i64 jc,.int .i64 jd,.slice je ja.length jf],.int .i64 a1,.int .i64 a2] ?_;(with_reducible refine (spec_buNext.calls kj3 jb jc jd _ _ ja a1 a2 j1m _ ?side1 jk.out A14.out).mono ?_);(case side1=>exact cb_ jg HB);rintro e w17 ⟨rfl,hb⟩;refine ⟨_,rfl,?_⟩;replace jj:=bb_ jj hb;replace HB:=ai_ (below_step (below_to1 HB jn.out) hb);clear hb))
   go_ret3
   exact ⟨rtE_,below_to1 HB jn.out⟩
  rw [if_neg c15] at H
  have j4b:=decide_eq_false c15
  clear c15
  obtain ⟨j3p,A18,H⟩:=bs_ H
  (try dsimp only at H)
  simp only [Option.some.injEq,Prod.mk.injEq] at H
  obtain ⟨rfl,rfl,rfl⟩:=H
  obtain ⟨j5q,j5r,j5s,j5t,j5u,j5v,j5w,j5x⟩:=blk4_ jj
  go_wp2_with (first|((with_reducible refine gate_callee (f:=48) rfl ?_);refine gl_ (some 22) Tryz.func48 #[.agg #[.int .i64 jb,.int .i64 jc,.int .i64 jd,.slice je ja.length jf],.int .i64 a1,.int .i64 a2] ?_;(with_reducible refine (spec_buNext.calls kj3 jb jc jd _ _ ja a1 a2 j1m _ ?side1 jk.out A14.out).mono ?_);(case side1=>exact cb_ jg HB);rintro e w20 ⟨rfl,hb⟩;refine ⟨_,rfl,?_⟩;replace jj:=bb_ jj hb;replace HB:=ai_ (below_step (below_to1 HB jn.out) hb);clear hb;obtain ⟨j2x,j2y,j2z,j3a,j3b,j3c,j3d,j3e⟩:=blk4_ jj)|((with_reducible refine gate_callee (f:=49) rfl ?_);refine gl_ (some 29) Tryz.func49 #[.agg #[.int .i64 jb,.int .i64 jc,.int .i64 jd,.slice je ja.length jf],.int .i64 j1m,.int .i64 a1] ?_;(with_reducible refine (spec_buTime.calls jb jc jd _ _ ja j1m a1 j3p _ ?side1 jk.out A18.out).mono ?_);(case side1=>exact cb_ jg HB);rintro e w22 ⟨rfl,hb⟩;refine ⟨_,rfl,?_⟩;replace jj:=bb_ jj hb;replace HB:=ai_ (below_step (below_to1 HB jn.out) hb);clear hb))
  go_ret3
  exact ⟨rtE_,below_to1 HB jn.out⟩
end Go.Proofs.YthdnodmidbcgpaaGreatDoor.QR
