import Derived.Test.YthdnodmidbcgpaaGreatDoorQRx11
namespace Go.Proofs.YthdnodmidbcgpaaGreatDoor.QR
open Go.Proofs.YthdnodmidbcgpaaGreatDoor.X Go.RowKit Go.Proofs.YthdnodmidbcgpaaGreatDoorW.PrintWords Go.Proofs.YthdnodmidbcgpaaGreatDoorW.PrintLast Go.Proofs.YthdnodmidbcgpaaGreatDoorW.PrintMore
set_option maxHeartbeats 8000000
set_option maxRecDepth 100000
attribute [local go_sem] max2_int min2_int max_two min_two max_three min_three max_four min_four
set_option linter.unusedVariables false
set_option linter.unusedSimpArgs false
mutual
def spec_LastBusBy.j0:Nat→Int→Int→Int→Bool→Int→Int→Int→List Int→Option (Int × Int × Bool)
 | 0,_,_,_,_,_,_,_,_=>none
 | k+1,x1,x2,x3,x21,j1e,j1f,j1c,j1g=>if x21=true then (some (0,0,false)) else (spec_LastBusBy.l0 k x1 x2 x3 (wrap64 (j1c - 1)) j1e j1f j1c j1g)
def spec_LastBusBy.l0:Nat→Int→Int→Int→Int→Int→Int→Int→List Int→Option (Int × Int × Bool)
 | 0,_,_,_,_,_,_,_,_=>none
 | k+1,x1,x2,x3,x11,j1e,j1f,j1c,j1g=>if x11≥0 then ((spec_buTime.f j1e j1f j1c j1g x11 x2).bind fun j4i=>(if j4i≤x3 then ((spec_buTime.f j1e j1f j1c j1g x11 x1).bind fun j6u=>(some (x11,j6u,true))) else (spec_LastBusBy.l0 k x1 x2 x3 (wrap64 (x11 - 1)) j1e j1f j1c j1g))) else (some (0,0,false))
end
def spec_LastBusBy.f (k:Nat) (jc:Int) (jd:Int) (jb:Int) (ja:List Int) (a1:Int) (a2:Int) (a3:Int):Option (Int × Int × Bool):=(spec_buRide.f k jc jd jb ja a1 a2).bind fun j6v=>(if j6v=true then ((spec_buMinute.f a3).bind fun j5g=>(spec_LastBusBy.j0 k a1 a2 a3 (!j5g) jc jd jb ja)) else (spec_LastBusBy.j0 k a1 a2 a3 true jc jd jb ja))
theorem spec_LastBusBy.calls (k:Nat) (jc:Int) (jd:Int) (jb:Int) (jg:Option Addr) (jh:Nat) (ja:List Int) (a1:Int) (a2:Int) (a3:Int) (r1:Int) (r2:Int) (r3:Bool) (w:World) (hr0_3:Kd.C Ki_ w jg ja.length ja) (hc0_3:ja.length≤jh) (h:spec_LastBusBy.f k jc jd jb ja a1 a2 a3=some (r1,r2,r3)) :
  Calls Tryz.prog 25 #[.agg #[.int .i64 jc,.int .i64 jd,.int .i64 jb,.slice jg ja.length jh],.int .i64 a1,.int .i64 a2,.int .i64 a3] w fun e w'=>e=.returned (.tuple #[.int .i64 r1,.int .i64 r2,.bool r3])∧Below w.heap.size w w':=by
 have hu26:=Tryz.underlying26
 have je:=ai_ hr0_3
 have ji:=ai_ hc0_3
 clear hr0_3 hc0_3
 have HB:=ai_ (Below.refl w.heap.size w)
 have H:=h
 unfold spec_LastBusBy.f at H
 clear h
 have HC5:=ai_ H
 clear H
 go_enter Tryz.func25,Tryz.ntmps25
 go_upto_region 1 with (first|((with_reducible refine gate_dst (N:=4) rfl ?_);refine bxe_ #[.int .i64 jc,.int .i64 jd,.int .i64 jb,.slice jg ja.length jh] 26 ?_;intro j6q hg w6 hbox hb;have jo:=ai_ (hbox);have j8y:=ai_ (gb_ hg (below_size (below_to HB)));have jx:=ai_ (gb_ hg (below_size (below_to HB)));replace HB:=ai_ (below_step (below_to HB) hb);clear hb hbox hg))
 (try simp only [Act.put,List.setIfInBounds_toArray,List.set_cons_zero,List.set_cons_succ])
 go_cut [21] (fun v21 wc => ∃ (kq:Nat) (j3r:Bool),v21=.bool j3r∧Aside0 (spec_LastBusBy.j0 kq a1 a2 a3 j3r jc jd jb ja=some (r1,r2,r3))∧Aside0 (kq≤k)∧Aside0 (wc.heap[j6q]?=some (.cells #[.int .i64 jc,.int .i64 jd,.int .i64 jb,(.slice jg ja.length jh)] 26 (0,0)))∧Aside0 (Below w.heap.size w wc))
 case first =>
  have H:=HC5.out
  clear HC5
  obtain ⟨j6v,A7,H⟩:=bs_ H
  (try dsimp only at H)
  by_cases c8:j6v=true
  rotate_left
  ·replace c8:=Bool.eq_false_iff.mpr c8
   subst c8
   rw [if_neg ft_] at H
   have H':=ai_ H
   clear H
   obtain ⟨j1j,j1k,j1l,j1m,j1n,j1o,j1p,j1q⟩:=blk4_ jo
   go_wp2_with (first|((with_reducible refine gate_callee (f:=59) rfl ?_);refine gl_ (some 15) Tryz.func59 #[.agg #[.int .i64 jc,.int .i64 jd,.int .i64 jb,.slice jg ja.length jh],.int .i64 a1,.int .i64 a2] ?_;(with_reducible refine (spec_buRide.calls k jc jd jb _ _ ja a1 a2 false _ ?side1 ji.out A7.out).mono ?_);(case side1=>exact cb_ je HB);rintro e w13 ⟨rfl,hb⟩;refine ⟨_,rfl,?_⟩;replace jo:=bb_ jo hb;replace HB:=ai_ (below_step (below_to1 HB jx.out) hb);clear hb))
   go_meet
   case rel=>exact ⟨_,(true),rt_,H',⟨by first|omega|exact Nat.le_refl _⟩,⟨blk_to jo⟩,⟨below_to1 HB jx.out⟩⟩
  subst c8
  rw [if_pos rfl] at H
  obtain ⟨j5g,A9,H⟩:=bs_ H
  (try dsimp only at H)
  have H':=ai_ H
  clear H
  obtain ⟨j3s,j3t,j3u,j3v,j3w,j3x,j3y,j3z⟩:=blk4_ jo
  go_wp2_with (first|((with_reducible refine gate_callee (f:=59) rfl ?_);refine gl_ (some 15) Tryz.func59 #[.agg #[.int .i64 jc,.int .i64 jd,.int .i64 jb,.slice jg ja.length jh],.int .i64 a1,.int .i64 a2] ?_;(with_reducible refine (spec_buRide.calls k jc jd jb _ _ ja a1 a2 true _ ?side1 ji.out A7.out).mono ?_);(case side1=>exact cb_ je HB);rintro e w11 ⟨rfl,hb⟩;refine ⟨_,rfl,?_⟩;replace jo:=bb_ jo hb;replace HB:=ai_ (below_step (below_to1 HB jx.out) hb);clear hb)|(go_at_call 47;(with_reducible refine (spec_buMinute.calls a3 j5g _ A9.out).mono ?_);rintro e w' ⟨rfl,⟨nd,rfl⟩⟩))
  go_meet
  case rel=>exact ⟨_,(!j5g),rt_,H',⟨by first|omega|exact Nat.le_refl _⟩,⟨blk_to jo⟩,⟨below_to1 HB jx.out⟩⟩
 clear HC5
 try clear c2
 try clear p2
 try clear c5
 try clear c8
 try clear j3s
 try clear j3t
 try clear j3u
 try clear j3v
 try clear j1j
 try clear j1k
 try clear j1l
 try clear j1m
 try clear j3w
 try clear j3x
 try clear j3y
 try clear j3z
 try clear j1n
 try clear j1o
 try clear j1p
 try clear j1q
 obtain ⟨kq,j3r,rfl,HA,HJ4,jo,HB⟩:=hcut
 cases kq with
 | zero=>exact absurd HA.out (by simp [spec_LastBusBy.j0])
 | succ kj4 =>
  have H:=HA.out
  clear HA
  simp only [spec_LastBusBy.j0] at H
  by_cases c14:j3r=true
  ·subst c14
   rw [if_pos rfl] at H
   simp only [Option.some.injEq,Prod.mk.injEq] at H
   obtain ⟨rfl,rfl,rfl⟩:=H
   go_wp2
   go_ret3
   exact ⟨rtE_,below_to1 HB jx.out⟩
  replace c14:=Bool.eq_false_iff.mpr c14
  subst c14
  rw [if_neg ft_] at H
  have H':=ai_ H
  clear H
  obtain ⟨j1r,j1s,j1t,j1u,j1v,j1w,j1x,j1y⟩:=blk4_ jo
  go_wp2
  go_loopg [11] kj4 (fun kq v11 w' => ∃ (jz:Int),v11=.int .i64 jz∧Aside0 (spec_LastBusBy.l0 kq a1 a2 a3 jz jc jd jb ja=some (r1,r2,r3))∧Aside0 (kq≤kj4)∧Aside0 (w'.heap[j6q]?=some (.cells #[.int .i64 jc,.int .i64 jd,.int .i64 jb,(.slice jg ja.length jh)] 26 (0,0)))∧Aside0 (Below w.heap.size w w'))
  case atStart=>exact ⟨(wrap64 (jb - 1)),rt_,H',⟨Nat.le_refl _⟩,⟨blk_to jo⟩,⟨below_to1 HB jx.out⟩⟩
  clear H'
  try clear c1
  try clear c2
  try clear p2
  try clear c5
  try clear p6
  try clear c8
  try clear c14
  try clear j3s
  try clear j3t
  try clear j3u
  try clear j3v
  try clear j1j
  try clear j1k
  try clear j1l
  try clear j1m
  try clear j1r
  try clear j1s
  try clear j1t
  try clear j1u
  try clear j3w
  try clear j3x
  try clear j3y
  try clear j3z
  try clear j1n
  try clear j1o
  try clear j1p
  try clear j1q
  try clear j1v
  try clear j1w
  try clear j1x
  try clear j1y
  try clear p2
  obtain ⟨jz,rfl,HA,HK2,jo,HB⟩:=hrel
  cases gk with
  | zero=>exact absurd HA.out (by simp [spec_LastBusBy.l0])
  | succ k2 =>
   have H:=HA.out
   clear HA
   simp only [spec_LastBusBy.l0] at H
   by_cases c16:jz≥0
   rotate_left
   ·rw [if_neg c16] at H
    have j6r:=decide_eq_false c16
    clear c16
    simp only [Option.some.injEq,Prod.mk.injEq] at H
    obtain ⟨rfl,rfl,rfl⟩:=H
    go_wp2
    go_ret3
    exact ⟨rtE_,below_to1 HB jx.out⟩
   rw [if_pos c16] at H
   have j6r:=decide_eq_true c16
   clear c16
   obtain ⟨j4i,A17,H⟩:=bs_ H
   (try dsimp only at H)
   by_cases c18:j4i≤a3
   ·rw [if_pos c18] at H
    have j7l:=decide_eq_true c18
    clear c18
    obtain ⟨j6u,A19,H⟩:=bs_ H
    (try dsimp only at H)
    simp only [Option.some.injEq,Prod.mk.injEq] at H
    obtain ⟨rfl,rfl,rfl⟩:=H
    obtain ⟨j5h,j5i,j5j,j5k,j5l,j5m,j5n,j5o⟩:=blk4_ jo
    go_wp2_with (first|((with_reducible refine gate_callee (f:=49) rfl ?_);refine gl_ (some 32) Tryz.func49 #[.agg #[.int .i64 jc,.int .i64 jd,.int .i64 jb,.slice jg ja.length jh],.int .i64 jz,.int .i64 a2] ?_;(with_reducible refine (spec_buTime.calls jc jd jb _ _ ja jz a2 j4i _ ?side1 ji.out A17.out).mono ?_);(case side1=>exact cb_ je HB);rintro e w21 ⟨rfl,hb⟩;refine ⟨_,rfl,?_⟩;replace jo:=bb_ jo hb;replace HB:=ai_ (below_step (below_to1 HB jx.out) hb);clear hb;obtain ⟨j5p,j5q,j5r,j5s,j5t,j5u,j5v,j5w⟩:=blk4_ jo)|((with_reducible refine gate_callee (f:=49) rfl ?_);refine gl_ (some 39) Tryz.func49 #[.agg #[.int .i64 jc,.int .i64 jd,.int .i64 jb,.slice jg ja.length jh],.int .i64 jz,.int .i64 a1] ?_;(with_reducible refine (spec_buTime.calls jc jd jb _ _ ja jz a1 j6u _ ?side1 ji.out A19.out).mono ?_);(case side1=>exact cb_ je HB);rintro e w23 ⟨rfl,hb⟩;refine ⟨_,rfl,?_⟩;replace jo:=bb_ jo hb;replace HB:=ai_ (below_step (below_to1 HB jx.out) hb);clear hb))
    go_ret3
    exact ⟨rtE_,below_to1 HB jx.out⟩
   ·rw [if_neg c18] at H
    have j7l:=decide_eq_false c18
    clear c18
    have H':=ai_ H
    clear H
    obtain ⟨j7p,j7q,j7r,j7s,j7t,j7u,j7v,j7w⟩:=blk4_ jo
    go_wp2_with (first|((with_reducible refine gate_callee (f:=49) rfl ?_);refine gl_ (some 32) Tryz.func49 #[.agg #[.int .i64 jc,.int .i64 jd,.int .i64 jb,.slice jg ja.length jh],.int .i64 jz,.int .i64 a2] ?_;(with_reducible refine (spec_buTime.calls jc jd jb _ _ ja jz a2 j4i _ ?side1 ji.out A17.out).mono ?_);(case side1=>exact cb_ je HB);rintro e w25 ⟨rfl,hb⟩;refine ⟨_,rfl,?_⟩;replace jo:=bb_ jo hb;replace HB:=ai_ (below_step (below_to1 HB jx.out) hb);clear hb))
    go_roundg k2
    case measure=>have:=HJ4.out;have:=HK2.out;omega
    case rel=>exact ⟨(wrap64 (jz - 1)),rt_,H',⟨by have:=HJ4.out;have:=HK2.out;omega⟩,⟨blk_to jo⟩,⟨below_to1 HB jx.out⟩⟩
def impl_RideFor.f (k:Nat) (jc:Int) (jd:Int) (jb:Int) (ja:List Int) (a1:Int) (a2:Int):Option (Int × Bool):=(impl_hasStops.f k jc jd jb ja (([a1,a2]:List Int))).bind fun j4j=>(if j4j=true then (if a1≥a2 then (some (0,false)) else (if 0≤a2 then (if a2 < (ja.length:Int) then (if 0≤a1 then (if a1 < (ja.length:Int) then (some (wrap64 ((rd ja a2) - (rd ja a1)),true)) else (none)) else (none)) else (none)) else (none))) else (some (0,false)))
theorem impl_RideFor.calls (k:Nat) (jc:Int) (jd:Int) (jb:Int) (jg:Option Addr) (jh:Nat) (ja:List Int) (a1:Int) (a2:Int) (r1:Int) (r2:Bool) (w:World) (hr0_3:Kd.C Ki_ w jg ja.length ja) (hc0_3:ja.length≤jh) (h:impl_RideFor.f k jc jd jb ja a1 a2=some (r1,r2)) :
  Calls Tryz.prog 26 #[.agg #[.int .i64 jc,.int .i64 jd,.int .i64 jb,.slice jg ja.length jh],.int .i64 a1,.int .i64 a2] w fun e w'=>e=.returned (.tuple #[.int .i64 r1,.bool r2])∧Below w.heap.size w w':=by
 have hu26:=Tryz.underlying26
 have je:=ai_ hr0_3
 have ji:=ai_ hc0_3
 clear hr0_3 hc0_3
 have HB:=ai_ (Below.refl w.heap.size w)
 have H:=h
 unfold impl_RideFor.f at H
 clear h
 obtain ⟨j2r,hy427⟩:∃ y_:List Int,y_=(([a1,a2]:List Int)):=⟨_,rfl⟩
 replace H:((impl_hasStops.f k jc jd jb ja j2r).bind fun j4j=>(if j4j=true then (if a1≥a2 then (some (0,false)) else (if 0≤a2 then (if a2 < (ja.length:Int) then (if 0≤a1 then (if a1 < (ja.length:Int) then (some (wrap64 ((rd ja a2) - (rd ja a1)),true)) else (none)) else (none)) else (none)) else (none))) else (some (0,false))))=some (r1,r2):=by first|(rw [hy427];with_reducible exact H)|(have H2_:=(Option.bind_some _ _).symm.trans H;rw [hy427];with_reducible exact H2_)|(have H2_:=(Option.bind_some _ _).symm.trans H;with_reducible exact H2_)|with_reducible exact H|(rw [hy427];exact H)|exact H
 have jy:=ai_ hy427
 clear hy427
 obtain ⟨j4j,A4,H⟩:=bs_ H
 (try dsimp only at H)
 by_cases c5:j4j=true
 rotate_left
 ·replace c5:=Bool.eq_false_iff.mpr c5
  subst c5
  rw [if_neg ft_] at H
  simp only [Option.some.injEq,Prod.mk.injEq] at H
  obtain ⟨rfl,rfl⟩:=H
  go_enter Tryz.func26,Tryz.ntmps26
  go_wp2_with (first|((with_reducible refine gate_dst (N:=3) rfl ?_);refine bxe_ #[.int .i64 jc,.int .i64 jd,.int .i64 jb,.slice jg ja.length jh] 26 ?_;intro j3k hg w24 hbox hb;have jj:=ai_ (hbox);have j3l:=ai_ (gb_ hg (below_size (below_to HB)));have jk:=ai_ (gb_ hg (below_size (below_to HB)));replace HB:=ai_ (below_step (below_to HB) hb);clear hb hbox hg;obtain ⟨j4a,j4b,j4c,j4d,j4e,j4f,j4g,j4h⟩:=blk4_ jj)|((with_reducible refine gate_dst (N:=11) rfl ?_);refine Kd.R_lit Ki_ _ 3 ?hg (N:=11) ?hd (xs:=([a1,a2]:List Int)) (inner:=[.int .i64 a1,.int .i64 a2]) (ok:=fun _=>True) (okp:=fun _=>True) ?hr ?hp (fun _ hk=>hk) trivial (Below.refl _ _) (Nat.le_refl _) (by simp) ?_;(case hd=>rfl);(case hg=>rfl);(case hr=>first|(go_simp;done)|(go_simp;rfl));(case hp=>exact (Reps.one (show Kd.M Ki_ _ _ _ a1 [.int .i64 a1] from rfl) (Reps.one (show Kd.M Ki_ _ _ _ a2 [.int .i64 a2] from rfl) (Reps.none _ _))));intro j4k w26 j2h hb hg_ hnew_;clear hg_ hnew_;(first|rw [← jy.out] at j2h|(simp only [Int.reduceToNat] at j2h;rw [← jy.out] at j2h));have jf:=ai_ (Kd.R_lower j2h (below_size (below_to1 HB jk.out)));replace jj:=bb_ jj hb;replace HB:=ai_ (below_step (below_to1 HB jk.out) hb);clear hb j2h;obtain ⟨Ao28,co28,eo28⟩:=Kd.R_slice jf.out;subst eo28)|(go_at_call 43;(with_reducible refine (impl_hasStops.calls k jc jd jb _ _ ja _ _ j2r false _ ?side1 ji.out ?side3 ?side4 A4.out).mono ?_);(case side1=>exact cb_ je HB);(case side3=>exact cR_ jf);(case side4=>exact (Kd.R_reads' jf.out).2.1);rintro e w29 ⟨rfl,hb⟩;replace jf:=rb_ jf hb;replace jj:=bb_ jj hb;replace HB:=ai_ (below_step (below_to1 HB jk.out) hb);clear hb))
  repeat (go_quiet (first|((with_reducible refine gate_dst (N:=3) rfl ?_);refine bxe_ #[.int .i64 jc,.int .i64 jd,.int .i64 jb,.slice jg ja.length jh] 26 ?_;intro j3k hg w24 hbox hb;have jj:=ai_ (hbox);have j3l:=ai_ (gb_ hg (below_size (below_to HB)));have jk:=ai_ (gb_ hg (below_size (below_to HB)));replace HB:=ai_ (below_step (below_to HB) hb);clear hb hbox hg;obtain ⟨j4a,j4b,j4c,j4d,j4e,j4f,j4g,j4h⟩:=blk4_ jj)|((with_reducible refine gate_dst (N:=11) rfl ?_);refine Kd.R_lit Ki_ _ 3 ?hg (N:=11) ?hd (xs:=([a1,a2]:List Int)) (inner:=[.int .i64 a1,.int .i64 a2]) (ok:=fun _=>True) (okp:=fun _=>True) ?hr ?hp (fun _ hk=>hk) trivial (Below.refl _ _) (Nat.le_refl _) (by simp) ?_;(case hd=>rfl);(case hg=>rfl);(case hr=>first|(go_simp;done)|(go_simp;rfl));(case hp=>exact (Reps.one (show Kd.M Ki_ _ _ _ a1 [.int .i64 a1] from rfl) (Reps.one (show Kd.M Ki_ _ _ _ a2 [.int .i64 a2] from rfl) (Reps.none _ _))));intro j4k w26 j2h hb hg_ hnew_;clear hg_ hnew_;(first|rw [← jy.out] at j2h|(simp only [Int.reduceToNat] at j2h;rw [← jy.out] at j2h));have jf:=ai_ (Kd.R_lower j2h (below_size (below_to1 HB jk.out)));replace jj:=bb_ jj hb;replace HB:=ai_ (below_step (below_to1 HB jk.out) hb);clear hb j2h;obtain ⟨Ao28,co28,eo28⟩:=Kd.R_slice jf.out;subst eo28)|(go_at_call 43;(with_reducible refine (impl_hasStops.calls k jc jd jb _ _ ja _ _ j2r false _ ?side1 ji.out ?side3 ?side4 A4.out).mono ?_);(case side1=>exact cb_ je HB);(case side3=>exact cR_ jf);(case side4=>exact (Kd.R_reads' jf.out).2.1);rintro e w29 ⟨rfl,hb⟩;replace jf:=rb_ jf hb;replace jj:=bb_ jj hb;replace HB:=ai_ (below_step (below_to1 HB jk.out) hb);clear hb));try go_wp2_with (first|(go_at_call 43;(with_reducible refine (impl_hasStops.calls k jc jd jb _ _ ja _ _ j2r false _ ?side1 ji.out ?side3 ?side4 A4.out).mono ?_);(case side1=>exact cb_ je HB);(case side3=>exact cR_ jf);(case side4=>exact (Kd.R_reads' jf.out).2.1);rintro e w29 ⟨rfl,hb⟩;replace jf:=rb_ jf hb;replace jj:=bb_ jj hb;replace HB:=ai_ (below_step (below_to1 HB jk.out) hb);clear hb)))
  go_ret2
  exact ⟨rtE_,below_to1 HB jk.out⟩
 subst c5
 rw [if_pos rfl] at H
 by_cases c6:a1≥a2
 ·rw [if_pos c6] at H
  have j5x:=decide_eq_true c6
  clear c6
  simp only [Option.some.injEq,Prod.mk.injEq] at H
  obtain ⟨rfl,rfl⟩:=H
  go_enter Tryz.func26,Tryz.ntmps26
  go_wp2_with (first|((with_reducible refine gate_dst (N:=3) rfl ?_);refine bxe_ #[.int .i64 jc,.int .i64 jd,.int .i64 jb,.slice jg ja.length jh] 26 ?_;intro j3k hg w7 hbox hb;have jj:=ai_ (hbox);have j3l:=ai_ (gb_ hg (below_size (below_to HB)));have jk:=ai_ (gb_ hg (below_size (below_to HB)));replace HB:=ai_ (below_step (below_to HB) hb);clear hb hbox hg;obtain ⟨j4l,j4m,j4n,j4o,j4p,j4q,j4r,j4s⟩:=blk4_ jj)|((with_reducible refine gate_dst (N:=11) rfl ?_);refine Kd.R_lit Ki_ _ 3 ?hg (N:=11) ?hd (xs:=([a1,a2]:List Int)) (inner:=[.int .i64 a1,.int .i64 a2]) (ok:=fun _=>True) (okp:=fun _=>True) ?hr ?hp (fun _ hk=>hk) trivial (Below.refl _ _) (Nat.le_refl _) (by simp) ?_;(case hd=>rfl);(case hg=>rfl);(case hr=>first|(go_simp;done)|(go_simp;rfl));(case hp=>exact (Reps.one (show Kd.M Ki_ _ _ _ a1 [.int .i64 a1] from rfl) (Reps.one (show Kd.M Ki_ _ _ _ a2 [.int .i64 a2] from rfl) (Reps.none _ _))));intro j4k w9 j2i hb hg_ hnew_;clear hg_ hnew_;(first|rw [← jy.out] at j2i|(simp only [Int.reduceToNat] at j2i;rw [← jy.out] at j2i));have jf:=ai_ (Kd.R_lower j2i (below_size (below_to1 HB jk.out)));replace jj:=bb_ jj hb;replace HB:=ai_ (below_step (below_to1 HB jk.out) hb);clear hb j2i;obtain ⟨Ao11,co11,eo11⟩:=Kd.R_slice jf.out;subst eo11)|(go_at_call 43;(with_reducible refine (impl_hasStops.calls k jc jd jb _ _ ja _ _ j2r true _ ?side1 ji.out ?side3 ?side4 A4.out).mono ?_);(case side1=>exact cb_ je HB);(case side3=>exact cR_ jf);(case side4=>exact (Kd.R_reads' jf.out).2.1);rintro e w12 ⟨rfl,hb⟩;replace jf:=rb_ jf hb;replace jj:=bb_ jj hb;replace HB:=ai_ (below_step (below_to1 HB jk.out) hb);clear hb))
  repeat (go_quiet (first|((with_reducible refine gate_dst (N:=3) rfl ?_);refine bxe_ #[.int .i64 jc,.int .i64 jd,.int .i64 jb,.slice jg ja.length jh] 26 ?_;intro j3k hg w7 hbox hb;have jj:=ai_ (hbox);have j3l:=ai_ (gb_ hg (below_size (below_to HB)));have jk:=ai_ (gb_ hg (below_size (below_to HB)));replace HB:=ai_ (below_step (below_to HB) hb);clear hb hbox hg;obtain ⟨j4l,j4m,j4n,j4o,j4p,j4q,j4r,j4s⟩:=blk4_ jj)|((with_reducible refine gate_dst (N:=11) rfl ?_);refine Kd.R_lit Ki_ _ 3 ?hg (N:=11) ?hd (xs:=([a1,a2]:List Int)) (inner:=[.int .i64 a1,.int .i64 a2]) (ok:=fun _=>True) (okp:=fun _=>True) ?hr ?hp (fun _ hk=>hk) trivial (Below.refl _ _) (Nat.le_refl _) (by simp) ?_;(case hd=>rfl);(case hg=>rfl);(case hr=>first|(go_simp;done)|(go_simp;rfl));(case hp=>exact (Reps.one (show Kd.M Ki_ _ _ _ a1 [.int .i64 a1] from rfl) (Reps.one (show Kd.M Ki_ _ _ _ a2 [.int .i64 a2] from rfl) (Reps.none _ _))));intro j4k w9 j2i hb hg_ hnew_;clear hg_ hnew_;(first|rw [← jy.out] at j2i|(simp only [Int.reduceToNat] at j2i;rw [← jy.out] at j2i));have jf:=ai_ (Kd.R_lower j2i (below_size (below_to1 HB jk.out)));replace jj:=bb_ jj hb;replace HB:=ai_ (below_step (below_to1 HB jk.out) hb);clear hb j2i;obtain ⟨Ao11,co11,eo11⟩:=Kd.R_slice jf.out;subst eo11)|(go_at_call 43;(with_reducible refine (impl_hasStops.calls k jc jd jb _ _ ja _ _ j2r true _ ?side1 ji.out ?side3 ?side4 A4.out).mono ?_);(case side1=>exact cb_ je HB);(case side3=>exact cR_ jf);(case side4=>exact (Kd.R_reads' jf.out).2.1);rintro e w12 ⟨rfl,hb⟩;replace jf:=rb_ jf hb;replace jj:=bb_ jj hb;replace HB:=ai_ (below_step (below_to1 HB jk.out) hb);clear hb));try go_wp2_with (first|(go_at_call 43;(with_reducible refine (impl_hasStops.calls k jc jd jb _ _ ja _ _ j2r true _ ?side1 ji.out ?side3 ?side4 A4.out).mono ?_);(case side1=>exact cb_ je HB);(case side3=>exact cR_ jf);(case side4=>exact (Kd.R_reads' jf.out).2.1);rintro e w12 ⟨rfl,hb⟩;replace jf:=rb_ jf hb;replace jj:=bb_ jj hb;replace HB:=ai_ (below_step (below_to1 HB jk.out) hb);clear hb)))
  go_ret2
  exact ⟨rtE_,below_to1 HB jk.out⟩
 rw [if_neg c6] at H
 have j5x:=decide_eq_false c6
 clear c6
 by_cases c13:0≤a2
 rotate_left
 ·rw [if_neg c13] at H
  cases H
 rw [if_pos c13] at H
 have j8z:=decide_eq_true c13
 clear c13
 by_cases c14:a2 < (ja.length:Int)
 rotate_left
 ·rw [if_neg c14] at H
  cases H
 rw [if_pos c14] at H
 have j9a:=decide_eq_true c14
 clear c14
 by_cases c15:0≤a1
 ·rw [if_pos c15] at H
  have j9b:=decide_eq_true c15
  clear c15
  by_cases c16:a1 < (ja.length:Int)
  ·rw [if_pos c16] at H
   have j6r:=decide_eq_true c16
   clear c16
   simp only [Option.some.injEq,Prod.mk.injEq] at H
   obtain ⟨rfl,rfl⟩:=H
   go_enter Tryz.func26,Tryz.ntmps26
   go_wp2_with (first|((with_reducible refine gate_dst (N:=3) rfl ?_);refine bxe_ #[.int .i64 jc,.int .i64 jd,.int .i64 jb,.slice jg ja.length jh] 26 ?_;intro j3k hg w17 hbox hb;have jj:=ai_ (hbox);have j3l:=ai_ (gb_ hg (below_size (below_to HB)));have jk:=ai_ (gb_ hg (below_size (below_to HB)));replace HB:=ai_ (below_step (below_to HB) hb);clear hb hbox hg;obtain ⟨j1z,j2a,j2b,j2c,j2d,j2e,j2f,j2g⟩:=blk4_ jj)|((with_reducible refine gate_dst (N:=11) rfl ?_);refine Kd.R_lit Ki_ _ 3 ?hg (N:=11) ?hd (xs:=([a1,a2]:List Int)) (inner:=[.int .i64 a1,.int .i64 a2]) (ok:=fun _=>True) (okp:=fun _=>True) ?hr ?hp (fun _ hk=>hk) trivial (Below.refl _ _) (Nat.le_refl _) (by simp) ?_;(case hd=>rfl);(case hg=>rfl);(case hr=>first|(go_simp;done)|(go_simp;rfl));(case hp=>exact (Reps.one (show Kd.M Ki_ _ _ _ a1 [.int .i64 a1] from rfl) (Reps.one (show Kd.M Ki_ _ _ _ a2 [.int .i64 a2] from rfl) (Reps.none _ _))));intro j4k w19 j1a hb hg_ hnew_;clear hg_ hnew_;(first|rw [← jy.out] at j1a|(simp only [Int.reduceToNat] at j1a;rw [← jy.out] at j1a));have jf:=ai_ (Kd.R_lower j1a (below_size (below_to1 HB jk.out)));replace jj:=bb_ jj hb;replace HB:=ai_ (below_step (below_to1 HB jk.out) hb);clear hb j1a;obtain ⟨Ao21,co21,eo21⟩:=Kd.R_slice jf.out;subst eo21)|(go_at_call 43;(with_reducible refine (impl_hasStops.calls k jc jd jb _ _ ja _ _ j2r true _ ?side1 ji.out ?side3 ?side4 A4.out).mono ?_);(case side1=>exact cb_ je HB);(case side3=>exact cR_ jf);(case side4=>exact (Kd.R_reads' jf.out).2.1);rintro e w22 ⟨rfl,hb⟩;replace jf:=rb_ jf hb;replace jj:=bb_ jj hb;replace HB:=ai_ (below_step (below_to1 HB jk.out) hb);clear hb;obtain ⟨j2t,j2u,j2v,j2w,j2x,j2y,j2z,j3a⟩:=blk4_ jj;have j2j:0≤(a2:Int):=of_decide_eq_true (by first|(with_reducible assumption)|assumption);have j2k:a2 < (ja.length:Int):=of_decide_eq_true (by first|(with_reducible assumption)|assumption);obtain ⟨j3m,e431,jr⟩:=Kd.at_int je.out a2 j2j j2k;cases e431;replace jr:=(HB.out.cell (World.block_lt_of_cell? w _ jr)).trans jr;replace j2j:=eq_true j2j;replace j2k:=eq_true j2k;have j2l:0≤(a1:Int):=of_decide_eq_true (by first|(with_reducible assumption)|assumption);have j2m:a1 < (ja.length:Int):=of_decide_eq_true (by first|(with_reducible assumption)|assumption);obtain ⟨j3n,e432,js⟩:=Kd.at_int je.out a1 j2l j2m;obtain rfl:j3m=j3n:=(by injection e432);replace js:=(HB.out.cell (World.block_lt_of_cell? w _ js)).trans js;replace j2l:=eq_true j2l;replace j2m:=eq_true j2m))
   repeat (go_quiet (first|((with_reducible refine gate_dst (N:=3) rfl ?_);refine bxe_ #[.int .i64 jc,.int .i64 jd,.int .i64 jb,.slice jg ja.length jh] 26 ?_;intro j3k hg w17 hbox hb;have jj:=ai_ (hbox);have j3l:=ai_ (gb_ hg (below_size (below_to HB)));have jk:=ai_ (gb_ hg (below_size (below_to HB)));replace HB:=ai_ (below_step (below_to HB) hb);clear hb hbox hg;obtain ⟨j1z,j2a,j2b,j2c,j2d,j2e,j2f,j2g⟩:=blk4_ jj)|((with_reducible refine gate_dst (N:=11) rfl ?_);refine Kd.R_lit Ki_ _ 3 ?hg (N:=11) ?hd (xs:=([a1,a2]:List Int)) (inner:=[.int .i64 a1,.int .i64 a2]) (ok:=fun _=>True) (okp:=fun _=>True) ?hr ?hp (fun _ hk=>hk) trivial (Below.refl _ _) (Nat.le_refl _) (by simp) ?_;(case hd=>rfl);(case hg=>rfl);(case hr=>first|(go_simp;done)|(go_simp;rfl));(case hp=>exact (Reps.one (show Kd.M Ki_ _ _ _ a1 [.int .i64 a1] from rfl) (Reps.one (show Kd.M Ki_ _ _ _ a2 [.int .i64 a2] from rfl) (Reps.none _ _))));intro j4k w19 j1a hb hg_ hnew_;clear hg_ hnew_;(first|rw [← jy.out] at j1a|(simp only [Int.reduceToNat] at j1a;rw [← jy.out] at j1a));have jf:=ai_ (Kd.R_lower j1a (below_size (below_to1 HB jk.out)));replace jj:=bb_ jj hb;replace HB:=ai_ (below_step (below_to1 HB jk.out) hb);clear hb j1a;obtain ⟨Ao21,co21,eo21⟩:=Kd.R_slice jf.out;subst eo21)|(go_at_call 43;(with_reducible refine (impl_hasStops.calls k jc jd jb _ _ ja _ _ j2r true _ ?side1 ji.out ?side3 ?side4 A4.out).mono ?_);(case side1=>exact cb_ je HB);(case side3=>exact cR_ jf);(case side4=>exact (Kd.R_reads' jf.out).2.1);rintro e w22 ⟨rfl,hb⟩;replace jf:=rb_ jf hb;replace jj:=bb_ jj hb;replace HB:=ai_ (below_step (below_to1 HB jk.out) hb);clear hb;obtain ⟨j2t,j2u,j2v,j2w,j2x,j2y,j2z,j3a⟩:=blk4_ jj;have j2j:0≤(a2:Int):=of_decide_eq_true (by first|(with_reducible assumption)|assumption);have j2k:a2 < (ja.length:Int):=of_decide_eq_true (by first|(with_reducible assumption)|assumption);obtain ⟨j3m,e431,jr⟩:=Kd.at_int je.out a2 j2j j2k;cases e431;replace jr:=(HB.out.cell (World.block_lt_of_cell? w _ jr)).trans jr;replace j2j:=eq_true j2j;replace j2k:=eq_true j2k;have j2l:0≤(a1:Int):=of_decide_eq_true (by first|(with_reducible assumption)|assumption);have j2m:a1 < (ja.length:Int):=of_decide_eq_true (by first|(with_reducible assumption)|assumption);obtain ⟨j3n,e432,js⟩:=Kd.at_int je.out a1 j2l j2m;obtain rfl:j3m=j3n:=(by injection e432);replace js:=(HB.out.cell (World.block_lt_of_cell? w _ js)).trans js;replace j2l:=eq_true j2l;replace j2m:=eq_true j2m));try go_wp2_with (first|(go_at_call 43;(with_reducible refine (impl_hasStops.calls k jc jd jb _ _ ja _ _ j2r true _ ?side1 ji.out ?side3 ?side4 A4.out).mono ?_);(case side1=>exact cb_ je HB);(case side3=>exact cR_ jf);(case side4=>exact (Kd.R_reads' jf.out).2.1);rintro e w22 ⟨rfl,hb⟩;replace jf:=rb_ jf hb;replace jj:=bb_ jj hb;replace HB:=ai_ (below_step (below_to1 HB jk.out) hb);clear hb;obtain ⟨j2t,j2u,j2v,j2w,j2x,j2y,j2z,j3a⟩:=blk4_ jj;have j2j:0≤(a2:Int):=of_decide_eq_true (by first|(with_reducible assumption)|assumption);have j2k:a2 < (ja.length:Int):=of_decide_eq_true (by first|(with_reducible assumption)|assumption);obtain ⟨j3m,e431,jr⟩:=Kd.at_int je.out a2 j2j j2k;cases e431;replace jr:=(HB.out.cell (World.block_lt_of_cell? w _ jr)).trans jr;replace j2j:=eq_true j2j;replace j2k:=eq_true j2k;have j2l:0≤(a1:Int):=of_decide_eq_true (by first|(with_reducible assumption)|assumption);have j2m:a1 < (ja.length:Int):=of_decide_eq_true (by first|(with_reducible assumption)|assumption);obtain ⟨j3n,e432,js⟩:=Kd.at_int je.out a1 j2l j2m;obtain rfl:j3m=j3n:=(by injection e432);replace js:=(HB.out.cell (World.block_lt_of_cell? w _ js)).trans js;replace j2l:=eq_true j2l;replace j2m:=eq_true j2m)))
   go_ret2
   exact ⟨rtE_,below_to1 HB jk.out⟩
  ·rw [if_neg c16] at H
   cases H
 ·rw [if_neg c15] at H
  cases H
def spec_RideFor.f (k:Nat) (jc:Int) (jd:Int) (jb:Int) (ja:List Int) (a1:Int) (a2:Int):Option (Int × Bool):=(spec_buRide.f k jc jd jb ja a1 a2).bind fun j6w=>(if j6w=true then (if 0≤a2 then (if a2 < (ja.length:Int) then (if 0≤a1 then (if a1 < (ja.length:Int) then (some (wrap64 ((rd ja a2) - (rd ja a1)),true)) else (none)) else (none)) else (none)) else (none)) else (some (0,false)))
theorem spec_RideFor.calls (k:Nat) (jc:Int) (jd:Int) (jb:Int) (jg:Option Addr) (jh:Nat) (ja:List Int) (a1:Int) (a2:Int) (r1:Int) (r2:Bool) (w:World) (hr0_3:Kd.C Ki_ w jg ja.length ja) (hc0_3:ja.length≤jh) (h:spec_RideFor.f k jc jd jb ja a1 a2=some (r1,r2)) :
  Calls Tryz.prog 27 #[.agg #[.int .i64 jc,.int .i64 jd,.int .i64 jb,.slice jg ja.length jh],.int .i64 a1,.int .i64 a2] w fun e w'=>e=.returned (.tuple #[.int .i64 r1,.bool r2])∧Below w.heap.size w w':=by
 have hu26:=Tryz.underlying26
 have je:=ai_ hr0_3
 have ji:=ai_ hc0_3
 clear hr0_3 hc0_3
 have HB:=ai_ (Below.refl w.heap.size w)
 have H:=h
 unfold spec_RideFor.f at H
 clear h
 obtain ⟨j6w,A4,H⟩:=bs_ H
 (try dsimp only at H)
 by_cases c5:j6w=true
 rotate_left
 ·replace c5:=Bool.eq_false_iff.mpr c5
  subst c5
  rw [if_neg ft_] at H
  simp only [Option.some.injEq,Prod.mk.injEq] at H
  obtain ⟨rfl,rfl⟩:=H
  go_enter Tryz.func27,Tryz.ntmps27
  go_wp2_with (first|((with_reducible refine gate_dst (N:=3) rfl ?_);refine bxe_ #[.int .i64 jc,.int .i64 jd,.int .i64 jb,.slice jg ja.length jh] 26 ?_;intro j4t hg w14 hbox hb;have jp:=ai_ (hbox);have j4u:=ai_ (gb_ hg (below_size (below_to HB)));have j1b:=ai_ (gb_ hg (below_size (below_to HB)));replace HB:=ai_ (below_step (below_to HB) hb);clear hb hbox hg;obtain ⟨j1r,j1s,j1t,j1u,j1v,j1w,j1x,j1y⟩:=blk4_ jp)|(go_at_call 59;(with_reducible refine (spec_buRide.calls k jc jd jb _ _ ja a1 a2 false _ ?side1 ji.out A4.out).mono ?_);(case side1=>exact cb_ je HB);rintro e w16 ⟨rfl,hb⟩;replace jp:=bb_ jp hb;replace HB:=ai_ (below_step (below_to1 HB j1b.out) hb);clear hb))
  repeat (go_quiet (first|((with_reducible refine gate_dst (N:=3) rfl ?_);refine bxe_ #[.int .i64 jc,.int .i64 jd,.int .i64 jb,.slice jg ja.length jh] 26 ?_;intro j4t hg w14 hbox hb;have jp:=ai_ (hbox);have j4u:=ai_ (gb_ hg (below_size (below_to HB)));have j1b:=ai_ (gb_ hg (below_size (below_to HB)));replace HB:=ai_ (below_step (below_to HB) hb);clear hb hbox hg;obtain ⟨j1r,j1s,j1t,j1u,j1v,j1w,j1x,j1y⟩:=blk4_ jp)|(go_at_call 59;(with_reducible refine (spec_buRide.calls k jc jd jb _ _ ja a1 a2 false _ ?side1 ji.out A4.out).mono ?_);(case side1=>exact cb_ je HB);rintro e w16 ⟨rfl,hb⟩;replace jp:=bb_ jp hb;replace HB:=ai_ (below_step (below_to1 HB j1b.out) hb);clear hb));try go_wp2_with (first|(go_at_call 59;(with_reducible refine (spec_buRide.calls k jc jd jb _ _ ja a1 a2 false _ ?side1 ji.out A4.out).mono ?_);(case side1=>exact cb_ je HB);rintro e w16 ⟨rfl,hb⟩;replace jp:=bb_ jp hb;replace HB:=ai_ (below_step (below_to1 HB j1b.out) hb);clear hb)))
  go_ret2
  exact ⟨rtE_,below_to1 HB j1b.out⟩
 subst c5
 rw [if_pos rfl] at H
 by_cases c6:0≤a2
 rotate_left
 ·rw [if_neg c6] at H
  cases H
 rw [if_pos c6] at H
 have j5x:=decide_eq_true c6
 clear c6
 by_cases c7:a2 < (ja.length:Int)
 rotate_left
 ·rw [if_neg c7] at H
  cases H
 rw [if_pos c7] at H
 have j5y:=decide_eq_true c7
 clear c7
 by_cases c8:0≤a1
 ·rw [if_pos c8] at H
  have j9c:=decide_eq_true c8
  clear c8
  by_cases c9:a1 < (ja.length:Int)
  ·rw [if_pos c9] at H
   have j9d:=decide_eq_true c9
   clear c9
   simp only [Option.some.injEq,Prod.mk.injEq] at H
   obtain ⟨rfl,rfl⟩:=H
   go_enter Tryz.func27,Tryz.ntmps27
   go_wp2_with (first|((with_reducible refine gate_dst (N:=3) rfl ?_);refine bxe_ #[.int .i64 jc,.int .i64 jd,.int .i64 jb,.slice jg ja.length jh] 26 ?_;intro j4t hg w10 hbox hb;have jp:=ai_ (hbox);have j4u:=ai_ (gb_ hg (below_size (below_to HB)));have j1b:=ai_ (gb_ hg (below_size (below_to HB)));replace HB:=ai_ (below_step (below_to HB) hb);clear hb hbox hg;obtain ⟨j5z,j6a,j6b,j6c,j6d,j6e,j6f,j6g⟩:=blk4_ jp)|(go_at_call 59;(with_reducible refine (spec_buRide.calls k jc jd jb _ _ ja a1 a2 true _ ?side1 ji.out A4.out).mono ?_);(case side1=>exact cb_ je HB);rintro e w12 ⟨rfl,hb⟩;replace jp:=bb_ jp hb;replace HB:=ai_ (below_step (below_to1 HB j1b.out) hb);clear hb;obtain ⟨j3b,j3c,j3d,j3e,j3f,j3g,j3h,j3i⟩:=blk4_ jp;have j2n:0≤(a2:Int):=of_decide_eq_true (by first|(with_reducible assumption)|assumption);have j2o:a2 < (ja.length:Int):=of_decide_eq_true (by first|(with_reducible assumption)|assumption);obtain ⟨j3o,e435,jt⟩:=Kd.at_int je.out a2 j2n j2o;cases e435;replace jt:=(HB.out.cell (World.block_lt_of_cell? w _ jt)).trans jt;replace j2n:=eq_true j2n;replace j2o:=eq_true j2o;have j2p:0≤(a1:Int):=of_decide_eq_true (by first|(with_reducible assumption)|assumption);have j2q:a1 < (ja.length:Int):=of_decide_eq_true (by first|(with_reducible assumption)|assumption);obtain ⟨j3p,e436,ju⟩:=Kd.at_int je.out a1 j2p j2q;obtain rfl:j3o=j3p:=(by injection e436);replace ju:=(HB.out.cell (World.block_lt_of_cell? w _ ju)).trans ju;replace j2p:=eq_true j2p;replace j2q:=eq_true j2q))
   repeat (go_quiet (first|((with_reducible refine gate_dst (N:=3) rfl ?_);refine bxe_ #[.int .i64 jc,.int .i64 jd,.int .i64 jb,.slice jg ja.length jh] 26 ?_;intro j4t hg w10 hbox hb;have jp:=ai_ (hbox);have j4u:=ai_ (gb_ hg (below_size (below_to HB)));have j1b:=ai_ (gb_ hg (below_size (below_to HB)));replace HB:=ai_ (below_step (below_to HB) hb);clear hb hbox hg;obtain ⟨j5z,j6a,j6b,j6c,j6d,j6e,j6f,j6g⟩:=blk4_ jp)|(go_at_call 59;(with_reducible refine (spec_buRide.calls k jc jd jb _ _ ja a1 a2 true _ ?side1 ji.out A4.out).mono ?_);(case side1=>exact cb_ je HB);rintro e w12 ⟨rfl,hb⟩;replace jp:=bb_ jp hb;replace HB:=ai_ (below_step (below_to1 HB j1b.out) hb);clear hb;obtain ⟨j3b,j3c,j3d,j3e,j3f,j3g,j3h,j3i⟩:=blk4_ jp;have j2n:0≤(a2:Int):=of_decide_eq_true (by first|(with_reducible assumption)|assumption);have j2o:a2 < (ja.length:Int):=of_decide_eq_true (by first|(with_reducible assumption)|assumption);obtain ⟨j3o,e435,jt⟩:=Kd.at_int je.out a2 j2n j2o;cases e435;replace jt:=(HB.out.cell (World.block_lt_of_cell? w _ jt)).trans jt;replace j2n:=eq_true j2n;replace j2o:=eq_true j2o;have j2p:0≤(a1:Int):=of_decide_eq_true (by first|(with_reducible assumption)|assumption);have j2q:a1 < (ja.length:Int):=of_decide_eq_true (by first|(with_reducible assumption)|assumption);obtain ⟨j3p,e436,ju⟩:=Kd.at_int je.out a1 j2p j2q;obtain rfl:j3o=j3p:=(by injection e436);replace ju:=(HB.out.cell (World.block_lt_of_cell? w _ ju)).trans ju;replace j2p:=eq_true j2p;replace j2q:=eq_true j2q));try go_wp2_with (first|(go_at_call 59;(with_reducible refine (spec_buRide.calls k jc jd jb _ _ ja a1 a2 true _ ?side1 ji.out A4.out).mono ?_);(case side1=>exact cb_ je HB);rintro e w12 ⟨rfl,hb⟩;replace jp:=bb_ jp hb;replace HB:=ai_ (below_step (below_to1 HB j1b.out) hb);clear hb;obtain ⟨j3b,j3c,j3d,j3e,j3f,j3g,j3h,j3i⟩:=blk4_ jp;have j2n:0≤(a2:Int):=of_decide_eq_true (by first|(with_reducible assumption)|assumption);have j2o:a2 < (ja.length:Int):=of_decide_eq_true (by first|(with_reducible assumption)|assumption);obtain ⟨j3o,e435,jt⟩:=Kd.at_int je.out a2 j2n j2o;cases e435;replace jt:=(HB.out.cell (World.block_lt_of_cell? w _ jt)).trans jt;replace j2n:=eq_true j2n;replace j2o:=eq_true j2o;have j2p:0≤(a1:Int):=of_decide_eq_true (by first|(with_reducible assumption)|assumption);have j2q:a1 < (ja.length:Int):=of_decide_eq_true (by first|(with_reducible assumption)|assumption);obtain ⟨j3p,e436,ju⟩:=Kd.at_int je.out a1 j2p j2q;obtain rfl:j3o=j3p:=(by injection e436);replace ju:=(HB.out.cell (World.block_lt_of_cell? w _ ju)).trans ju;replace j2p:=eq_true j2p;replace j2q:=eq_true j2q)))
   go_ret2
   exact ⟨rtE_,below_to1 HB j1b.out⟩
  ·rw [if_neg c9] at H
   cases H
 ·rw [if_neg c8] at H
  cases H
def impl_arriveAt.f (jc:Int) (jd:Int) (jb:Int) (ja:List Int) (a1:Int) (a2:Int) (a3:Int):Option (Int × Bool):=(impl_nextBus.f jc jd jb ja a1 a3).bind fun bt438=>(if bt438.2.2=true then (if a1≥a2 then (some (0,false)) else ((impl_timeAt.f jc jd jb ja bt438.1 a2).bind fun j6x=>(some (j6x,true)))) else (some (0,false)))
theorem impl_arriveAt.calls (jc:Int) (jd:Int) (jb:Int) (jg:Option Addr) (jh:Nat) (ja:List Int) (a1:Int) (a2:Int) (a3:Int) (r1:Int) (r2:Bool) (w:World) (hr0_3:Kd.C Ki_ w jg ja.length ja) (hc0_3:ja.length≤jh) (h:impl_arriveAt.f jc jd jb ja a1 a2 a3=some (r1,r2)) :
  Calls Tryz.prog 60 #[.agg #[.int .i64 jc,.int .i64 jd,.int .i64 jb,.slice jg ja.length jh],.int .i64 a1,.int .i64 a2,.int .i64 a3] w fun e w'=>e=.returned (.tuple #[.int .i64 r1,.bool r2])∧Below w.heap.size w w':=by
 have hu26:=Tryz.underlying26
 have je:=ai_ hr0_3
 have ji:=ai_ hc0_3
 clear hr0_3 hc0_3
 have HB:=ai_ (Below.refl w.heap.size w)
 have H:=h
 unfold impl_arriveAt.f at H
 clear h
 obtain ⟨⟨j4v,j6y,j8v⟩,A5,H⟩:=bs_ H
 (try dsimp only at H)
 by_cases c6:j8v=true
 rotate_left
 ·replace c6:=Bool.eq_false_iff.mpr c6
  subst c6
  rw [if_neg ft_] at H
  simp only [Option.some.injEq,Prod.mk.injEq] at H
  obtain ⟨rfl,rfl⟩:=H
  go_enter Tryz.func60,Tryz.ntmps60
  go_wp2_with (first|((with_reducible refine gate_dst (N:=4) rfl ?_);refine bxe_ #[.int .i64 jc,.int .i64 jd,.int .i64 jb,.slice jg ja.length jh] 26 ?_;intro j6s hg w17 hbox hb;have jw:=ai_ (hbox);have j6t:=ai_ (gb_ hg (below_size (below_to HB)));have j1h:=ai_ (gb_ hg (below_size (below_to HB)));replace HB:=ai_ (below_step (below_to HB) hb);clear hb hbox hg;obtain ⟨j1z,j2a,j2b,j2c,j2d,j2e,j2f,j2g⟩:=blk4_ jw)|((with_reducible refine gate_callee (f:=45) rfl ?_);refine gl_ (some 17) Tryz.func45 #[.agg #[.int .i64 jc,.int .i64 jd,.int .i64 jb,.slice jg ja.length jh],.int .i64 a1,.int .i64 a3] ?_;(with_reducible refine (impl_nextBus.calls jc jd jb _ _ ja a1 a3 j4v j6y false _ ?side1 ji.out A5.out).mono ?_);(case side1=>exact cb_ je HB);rintro e w19 ⟨rfl,hb⟩;refine ⟨_,rfl,?_⟩;replace jw:=bb_ jw hb;replace HB:=ai_ (below_step (below_to1 HB j1h.out) hb);clear hb))
  go_ret2
  exact ⟨rtE_,below_to1 HB j1h.out⟩
 subst c6
 rw [if_pos rfl] at H
 by_cases c7:a1≥a2
 ·rw [if_pos c7] at H
  have j5y:=decide_eq_true c7
  clear c7
  simp only [Option.some.injEq,Prod.mk.injEq] at H
  obtain ⟨rfl,rfl⟩:=H
  go_enter Tryz.func60,Tryz.ntmps60
  go_wp2_with (first|((with_reducible refine gate_dst (N:=4) rfl ?_);refine bxe_ #[.int .i64 jc,.int .i64 jd,.int .i64 jb,.slice jg ja.length jh] 26 ?_;intro j6s hg w8 hbox hb;have jw:=ai_ (hbox);have j6t:=ai_ (gb_ hg (below_size (below_to HB)));have j1h:=ai_ (gb_ hg (below_size (below_to HB)));replace HB:=ai_ (below_step (below_to HB) hb);clear hb hbox hg;obtain ⟨j6z,j7a,j7b,j7c,j7d,j7e,j7f,j7g⟩:=blk4_ jw)|((with_reducible refine gate_callee (f:=45) rfl ?_);refine gl_ (some 17) Tryz.func45 #[.agg #[.int .i64 jc,.int .i64 jd,.int .i64 jb,.slice jg ja.length jh],.int .i64 a1,.int .i64 a3] ?_;(with_reducible refine (impl_nextBus.calls jc jd jb _ _ ja a1 a3 j4v j6y true _ ?side1 ji.out A5.out).mono ?_);(case side1=>exact cb_ je HB);rintro e w10 ⟨rfl,hb⟩;refine ⟨_,rfl,?_⟩;replace jw:=bb_ jw hb;replace HB:=ai_ (below_step (below_to1 HB j1h.out) hb);clear hb))
  go_ret2
  exact ⟨rtE_,below_to1 HB j1h.out⟩
 ·rw [if_neg c7] at H
  have j5y:=decide_eq_false c7
  clear c7
  obtain ⟨j6x,A11,H⟩:=bs_ H
  (try dsimp only at H)
  simp only [Option.some.injEq,Prod.mk.injEq] at H
  obtain ⟨rfl,rfl⟩:=H
  go_enter Tryz.func60,Tryz.ntmps60
  go_wp2_with (first|((with_reducible refine gate_dst (N:=4) rfl ?_);refine bxe_ #[.int .i64 jc,.int .i64 jd,.int .i64 jb,.slice jg ja.length jh] 26 ?_;intro j6s hg w12 hbox hb;have jw:=ai_ (hbox);have j6t:=ai_ (gb_ hg (below_size (below_to HB)));have j1h:=ai_ (gb_ hg (below_size (below_to HB)));replace HB:=ai_ (below_step (below_to HB) hb);clear hb hbox hg;obtain ⟨j3b,j3c,j3d,j3e,j3f,j3g,j3h,j3i⟩:=blk4_ jw)|((with_reducible refine gate_callee (f:=45) rfl ?_);refine gl_ (some 17) Tryz.func45 #[.agg #[.int .i64 jc,.int .i64 jd,.int .i64 jb,.slice jg ja.length jh],.int .i64 a1,.int .i64 a3] ?_;(with_reducible refine (impl_nextBus.calls jc jd jb _ _ ja a1 a3 j4v j6y true _ ?side1 ji.out A5.out).mono ?_);(case side1=>exact cb_ je HB);rintro e w14 ⟨rfl,hb⟩;refine ⟨_,rfl,?_⟩;replace jw:=bb_ jw hb;replace HB:=ai_ (below_step (below_to1 HB j1h.out) hb);clear hb;obtain ⟨j1r,j1s,j1t,j1u,j1v,j1w,j1x,j1y⟩:=blk4_ jw)|((with_reducible refine gate_callee (f:=51) rfl ?_);refine gl_ (some 31) Tryz.func51 #[.agg #[.int .i64 jc,.int .i64 jd,.int .i64 jb,.slice jg ja.length jh],.int .i64 j4v,.int .i64 a2] ?_;(with_reducible refine (impl_timeAt.calls jc jd jb _ _ ja j4v a2 j6x _ ?side1 ji.out A11.out).mono ?_);(case side1=>exact cb_ je HB);rintro e w16 ⟨rfl,hb⟩;refine ⟨_,rfl,?_⟩;replace jw:=bb_ jw hb;replace HB:=ai_ (below_step (below_to1 HB j1h.out) hb);clear hb))
  go_ret2
  exact ⟨rtE_,below_to1 HB j1h.out⟩
def impl_ArriveAt.f (k:Nat) (jc:Int) (jd:Int) (jb:Int) (ja:List Int) (a1:Int) (a2:Int) (a3:Int):Option (Int × Bool):=(impl_hasStops.f k jc jd jb ja (([a1,a2]:List Int))).bind fun j4w=>(if j4w=true then (if a1≥a2 then (some (0,false)) else ((impl_isMinute.f a3).bind fun j4x=>(if j4x=true then ((impl_arriveAt.f jc jd jb ja a1 a2 a3).bind fun bt448=>(some (bt448.1,bt448.2))) else (some (0,false))))) else (some (0,false)))
theorem impl_ArriveAt.calls (k:Nat) (jc:Int) (jd:Int) (jb:Int) (jg:Option Addr) (jh:Nat) (ja:List Int) (a1:Int) (a2:Int) (a3:Int) (r1:Int) (r2:Bool) (w:World) (hr0_3:Kd.C Ki_ w jg ja.length ja) (hc0_3:ja.length≤jh) (h:impl_ArriveAt.f k jc jd jb ja a1 a2 a3=some (r1,r2)) :
  Calls Tryz.prog 28 #[.agg #[.int .i64 jc,.int .i64 jd,.int .i64 jb,.slice jg ja.length jh],.int .i64 a1,.int .i64 a2,.int .i64 a3] w fun e w'=>e=.returned (.tuple #[.int .i64 r1,.bool r2])∧Below w.heap.size w w':=by
 have hu26:=Tryz.underlying26
 have je:=ai_ hr0_3
 have ji:=ai_ hc0_3
 clear hr0_3 hc0_3
 have HB:=ai_ (Below.refl w.heap.size w)
 have H:=h
 unfold impl_ArriveAt.f at H
 clear h
 obtain ⟨j3j,hy443⟩:∃ y_:List Int,y_=(([a1,a2]:List Int)):=⟨_,rfl⟩
 replace H:((impl_hasStops.f k jc jd jb ja j3j).bind fun j4w=>(if j4w=true then (if a1≥a2 then (some (0,false)) else ((impl_isMinute.f a3).bind fun j4x=>(if j4x=true then ((impl_arriveAt.f jc jd jb ja a1 a2 a3).bind fun bt448=>(some (bt448.1,bt448.2))) else (some (0,false))))) else (some (0,false))))=some (r1,r2):=by first|(rw [hy443];with_reducible exact H)|(have H2_:=(Option.bind_some _ _).symm.trans H;rw [hy443];with_reducible exact H2_)|(have H2_:=(Option.bind_some _ _).symm.trans H;with_reducible exact H2_)|with_reducible exact H|(rw [hy443];exact H)|exact H
 have j1i:=ai_ hy443
 clear hy443
 obtain ⟨j4w,A5,H⟩:=bs_ H
 (try dsimp only at H)
 by_cases c6:j4w=true
 rotate_left
 ·replace c6:=Bool.eq_false_iff.mpr c6
  subst c6
  rw [if_neg ft_] at H
  simp only [Option.some.injEq,Prod.mk.injEq] at H
  obtain ⟨rfl,rfl⟩:=H
  go_enter Tryz.func28,Tryz.ntmps28
  go_wp2_with (first|((with_reducible refine gate_dst (N:=4) rfl ?_);refine bxe_ #[.int .i64 jc,.int .i64 jd,.int .i64 jb,.slice jg ja.length jh] 26 ?_;intro j4y hg w31 hbox hb;have jl:=ai_ (hbox);have j4z:=ai_ (gb_ hg (below_size (below_to HB)));have jq:=ai_ (gb_ hg (below_size (below_to HB)));replace HB:=ai_ (below_step (below_to HB) hb);clear hb hbox hg;obtain ⟨j7x,j7y,j7z,j8a,j8b,j8c,j8d,j8e⟩:=blk4_ jl)|((with_reducible refine gate_dst (N:=13) rfl ?_);refine Kd.R_lit Ki_ _ 3 ?hg (N:=13) ?hd (xs:=([a1,a2]:List Int)) (inner:=[.int .i64 a1,.int .i64 a2]) (ok:=fun _=>True) (okp:=fun _=>True) ?hr ?hp (fun _ hk=>hk) trivial (Below.refl _ _) (Nat.le_refl _) (by simp) ?_;(case hd=>rfl);(case hg=>rfl);(case hr=>first|(go_simp;done)|(go_simp;rfl));(case hp=>exact (Reps.one (show Kd.M Ki_ _ _ _ a1 [.int .i64 a1] from rfl) (Reps.one (show Kd.M Ki_ _ _ _ a2 [.int .i64 a2] from rfl) (Reps.none _ _))));intro j7h w33 j5a hb hg_ hnew_;clear hg_ hnew_;(first|rw [← j1i.out] at j5a|(simp only [Int.reduceToNat] at j5a;rw [← j1i.out] at j5a));have jm:=ai_ (Kd.R_lower j5a (below_size (below_to1 HB jq.out)));replace jl:=bb_ jl hb;replace HB:=ai_ (below_step (below_to1 HB jq.out) hb);clear hb j5a;obtain ⟨Ao35,co35,eo35⟩:=Kd.R_slice jm.out;subst eo35)|((with_reducible refine gate_callee (f:=43) rfl ?_);refine gl_ (some 14) Tryz.func43 #[.agg #[.int .i64 jc,.int .i64 jd,.int .i64 jb,.slice jg ja.length jh],.slice Ao35 j3j.length co35] ?_;(with_reducible refine (impl_hasStops.calls k jc jd jb _ _ ja _ _ j3j false _ ?side1 ji.out ?side3 ?side4 A5.out).mono ?_);(case side1=>exact cb_ je HB);(case side3=>exact cR_ jm);(case side4=>exact (Kd.R_reads' jm.out).2.1);rintro e w36 ⟨rfl,hb⟩;refine ⟨_,rfl,?_⟩;replace jm:=rb_ jm hb;replace jl:=bb_ jl hb;replace HB:=ai_ (below_step (below_to1 HB jq.out) hb);clear hb))
  go_ret2
  exact ⟨rtE_,below_to1 HB jq.out⟩
 subst c6
 rw [if_pos rfl] at H
 by_cases c7:a1≥a2
 ·rw [if_pos c7] at H
  have j5y:=decide_eq_true c7
  clear c7
  simp only [Option.some.injEq,Prod.mk.injEq] at H
  obtain ⟨rfl,rfl⟩:=H
  go_enter Tryz.func28,Tryz.ntmps28
  go_wp2_with (first|((with_reducible refine gate_dst (N:=4) rfl ?_);refine bxe_ #[.int .i64 jc,.int .i64 jd,.int .i64 jb,.slice jg ja.length jh] 26 ?_;intro j4y hg w8 hbox hb;have jl:=ai_ (hbox);have j4z:=ai_ (gb_ hg (below_size (below_to HB)));have jq:=ai_ (gb_ hg (below_size (below_to HB)));replace HB:=ai_ (below_step (below_to HB) hb);clear hb hbox hg;obtain ⟨j6z,j7a,j7b,j7c,j7d,j7e,j7f,j7g⟩:=blk4_ jl)|((with_reducible refine gate_dst (N:=13) rfl ?_);refine Kd.R_lit Ki_ _ 3 ?hg (N:=13) ?hd (xs:=([a1,a2]:List Int)) (inner:=[.int .i64 a1,.int .i64 a2]) (ok:=fun _=>True) (okp:=fun _=>True) ?hr ?hp (fun _ hk=>hk) trivial (Below.refl _ _) (Nat.le_refl _) (by simp) ?_;(case hd=>rfl);(case hg=>rfl);(case hr=>first|(go_simp;done)|(go_simp;rfl));(case hp=>exact (Reps.one (show Kd.M Ki_ _ _ _ a1 [.int .i64 a1] from rfl) (Reps.one (show Kd.M Ki_ _ _ _ a2 [.int .i64 a2] from rfl) (Reps.none _ _))));intro j7h w10 j5b hb hg_ hnew_;clear hg_ hnew_;(first|rw [← j1i.out] at j5b|(simp only [Int.reduceToNat] at j5b;rw [← j1i.out] at j5b));have jm:=ai_ (Kd.R_lower j5b (below_size (below_to1 HB jq.out)));replace jl:=bb_ jl hb;replace HB:=ai_ (below_step (below_to1 HB jq.out) hb);clear hb j5b;obtain ⟨Ao12,co12,eo12⟩:=Kd.R_slice jm.out;subst eo12)|((with_reducible refine gate_callee (f:=43) rfl ?_);refine gl_ (some 14) Tryz.func43 #[.agg #[.int .i64 jc,.int .i64 jd,.int .i64 jb,.slice jg ja.length jh],.slice Ao12 j3j.length co12] ?_;(with_reducible refine (impl_hasStops.calls k jc jd jb _ _ ja _ _ j3j true _ ?side1 ji.out ?side3 ?side4 A5.out).mono ?_);(case side1=>exact cb_ je HB);(case side3=>exact cR_ jm);(case side4=>exact (Kd.R_reads' jm.out).2.1);rintro e w13 ⟨rfl,hb⟩;refine ⟨_,rfl,?_⟩;replace jm:=rb_ jm hb;replace jl:=bb_ jl hb;replace HB:=ai_ (below_step (below_to1 HB jq.out) hb);clear hb))
  go_ret2
  exact ⟨rtE_,below_to1 HB jq.out⟩
 rw [if_neg c7] at H
 have j5y:=decide_eq_false c7
 clear c7
 obtain ⟨j4x,A14,H⟩:=bs_ H
 (try dsimp only at H)
 by_cases c15:j4x=true
 ·subst c15
  rw [if_pos rfl] at H
  obtain ⟨⟨j8w,j8x⟩,A16,H⟩:=bs_ H
  (try dsimp only at H)
  simp only [Option.some.injEq,Prod.mk.injEq] at H
  obtain ⟨rfl,rfl⟩:=H
  go_enter Tryz.func28,Tryz.ntmps28
  go_wp2_with (first|((with_reducible refine gate_dst (N:=4) rfl ?_);refine bxe_ #[.int .i64 jc,.int .i64 jd,.int .i64 jb,.slice jg ja.length jh] 26 ?_;intro j4y hg w17 hbox hb;have jl:=ai_ (hbox);have j4z:=ai_ (gb_ hg (below_size (below_to HB)));have jq:=ai_ (gb_ hg (below_size (below_to HB)));replace HB:=ai_ (below_step (below_to HB) hb);clear hb hbox hg;obtain ⟨j1z,j2a,j2b,j2c,j2d,j2e,j2f,j2g⟩:=blk4_ jl)|((with_reducible refine gate_dst (N:=13) rfl ?_);refine Kd.R_lit Ki_ _ 3 ?hg (N:=13) ?hd (xs:=([a1,a2]:List Int)) (inner:=[.int .i64 a1,.int .i64 a2]) (ok:=fun _=>True) (okp:=fun _=>True) ?hr ?hp (fun _ hk=>hk) trivial (Below.refl _ _) (Nat.le_refl _) (by simp) ?_;(case hd=>rfl);(case hg=>rfl);(case hr=>first|(go_simp;done)|(go_simp;rfl));(case hp=>exact (Reps.one (show Kd.M Ki_ _ _ _ a1 [.int .i64 a1] from rfl) (Reps.one (show Kd.M Ki_ _ _ _ a2 [.int .i64 a2] from rfl) (Reps.none _ _))));intro j7h w19 j1a hb hg_ hnew_;clear hg_ hnew_;(first|rw [← j1i.out] at j1a|(simp only [Int.reduceToNat] at j1a;rw [← j1i.out] at j1a));have jm:=ai_ (Kd.R_lower j1a (below_size (below_to1 HB jq.out)));replace jl:=bb_ jl hb;replace HB:=ai_ (below_step (below_to1 HB jq.out) hb);clear hb j1a;obtain ⟨Ao21,co21,eo21⟩:=Kd.R_slice jm.out;subst eo21)|((with_reducible refine gate_callee (f:=43) rfl ?_);refine gl_ (some 14) Tryz.func43 #[.agg #[.int .i64 jc,.int .i64 jd,.int .i64 jb,.slice jg ja.length jh],.slice Ao21 j3j.length co21] ?_;(with_reducible refine (impl_hasStops.calls k jc jd jb _ _ ja _ _ j3j true _ ?side1 ji.out ?side3 ?side4 A5.out).mono ?_);(case side1=>exact cb_ je HB);(case side3=>exact cR_ jm);(case side4=>exact (Kd.R_reads' jm.out).2.1);rintro e w22 ⟨rfl,hb⟩;refine ⟨_,rfl,?_⟩;replace jm:=rb_ jm hb;replace jl:=bb_ jl hb;replace HB:=ai_ (below_step (below_to1 HB jq.out) hb);clear hb)|(go_at_call 44;(with_reducible refine (impl_isMinute.calls a3 true _ A14.out).mono ?_);rintro e w' ⟨rfl,⟨nd,rfl⟩⟩;obtain ⟨j2t,j2u,j2v,j2w,j2x,j2y,j2z,j3a⟩:=blk4_ jl)|((with_reducible refine gate_callee (f:=60) rfl ?_);refine gl_ (some 30) Tryz.func60 #[.agg #[.int .i64 jc,.int .i64 jd,.int .i64 jb,.slice jg ja.length jh],.int .i64 a1,.int .i64 a2,.int .i64 a3] ?_;(with_reducible refine (impl_arriveAt.calls jc jd jb _ _ ja a1 a2 a3 j8w j8x _ ?side1 ji.out A16.out).mono ?_);(case side1=>repeat (first|exact (Kd.C_below je.out (below_to1 HB jq.out))|(with_reducible refine Kd.C_alloc ?_ _)|(with_reducible refine Kd.C_drewN ?_ _)|(with_reducible refine Kd.C_drew ?_)));rintro e w24 ⟨rfl,hb⟩;refine ⟨_,rfl,?_⟩;replace jm:=rb_ jm hb;replace jl:=bb_ jl hb;replace HB:=ai_ (below_step (below_to1 HB jq.out) hb);clear hb))
  go_ret2
  exact ⟨rtE_,below_to1 HB jq.out⟩
 ·replace c15:=Bool.eq_false_iff.mpr c15
  subst c15
  rw [if_neg ft_] at H
  simp only [Option.some.injEq,Prod.mk.injEq] at H
  obtain ⟨rfl,rfl⟩:=H
  go_enter Tryz.func28,Tryz.ntmps28
  go_wp2_with (first|((with_reducible refine gate_dst (N:=4) rfl ?_);refine bxe_ #[.int .i64 jc,.int .i64 jd,.int .i64 jb,.slice jg ja.length jh] 26 ?_;intro j4y hg w25 hbox hb;have jl:=ai_ (hbox);have j4z:=ai_ (gb_ hg (below_size (below_to HB)));have jq:=ai_ (gb_ hg (below_size (below_to HB)));replace HB:=ai_ (below_step (below_to HB) hb);clear hb hbox hg;obtain ⟨j8f,j8g,j8h,j8i,j8j,j8k,j8l,j8m⟩:=blk4_ jl)|((with_reducible refine gate_dst (N:=13) rfl ?_);refine Kd.R_lit Ki_ _ 3 ?hg (N:=13) ?hd (xs:=([a1,a2]:List Int)) (inner:=[.int .i64 a1,.int .i64 a2]) (ok:=fun _=>True) (okp:=fun _=>True) ?hr ?hp (fun _ hk=>hk) trivial (Below.refl _ _) (Nat.le_refl _) (by simp) ?_;(case hd=>rfl);(case hg=>rfl);(case hr=>first|(go_simp;done)|(go_simp;rfl));(case hp=>exact (Reps.one (show Kd.M Ki_ _ _ _ a1 [.int .i64 a1] from rfl) (Reps.one (show Kd.M Ki_ _ _ _ a2 [.int .i64 a2] from rfl) (Reps.none _ _))));intro j7h w27 j5c hb hg_ hnew_;clear hg_ hnew_;(first|rw [← j1i.out] at j5c|(simp only [Int.reduceToNat] at j5c;rw [← j1i.out] at j5c));have jm:=ai_ (Kd.R_lower j5c (below_size (below_to1 HB jq.out)));replace jl:=bb_ jl hb;replace HB:=ai_ (below_step (below_to1 HB jq.out) hb);clear hb j5c;obtain ⟨Ao29,co29,eo29⟩:=Kd.R_slice jm.out;subst eo29)|((with_reducible refine gate_callee (f:=43) rfl ?_);refine gl_ (some 14) Tryz.func43 #[.agg #[.int .i64 jc,.int .i64 jd,.int .i64 jb,.slice jg ja.length jh],.slice Ao29 j3j.length co29] ?_;(with_reducible refine (impl_hasStops.calls k jc jd jb _ _ ja _ _ j3j true _ ?side1 ji.out ?side3 ?side4 A5.out).mono ?_);(case side1=>exact cb_ je HB);(case side3=>exact cR_ jm);(case side4=>exact (Kd.R_reads' jm.out).2.1);rintro e w30 ⟨rfl,hb⟩;refine ⟨_,rfl,?_⟩;replace jm:=rb_ jm hb;replace jl:=bb_ jl hb;replace HB:=ai_ (below_step (below_to1 HB jq.out) hb);clear hb)|(go_at_call 44;(with_reducible refine (impl_isMinute.calls a3 false _ A14.out).mono ?_);rintro e w' ⟨rfl,⟨nd,rfl⟩⟩))
  go_ret2
  exact ⟨rtE_,below_to1 HB jq.out⟩
def spec_buArrive.f (k:Nat) (jc:Int) (jd:Int) (jb:Int) (ja:List Int) (a1:Int) (a2:Int) (a3:Int):Option (Int):=(spec_buNext.f k jc jd jb ja a1 a3).bind fun j3q=>(if j3q < 0 then (some (-1)) else ((spec_buTime.f jc jd jb ja j3q a2).bind fun j6h=>(some j6h)))
theorem spec_buArrive.calls (k:Nat) (jc:Int) (jd:Int) (jb:Int) (jg:Option Addr) (jh:Nat) (ja:List Int) (a1:Int) (a2:Int) (a3:Int) (r:Int) (w:World) (hr0_3:Kd.C Ki_ w jg ja.length ja) (hc0_3:ja.length≤jh) (h:spec_buArrive.f k jc jd jb ja a1 a2 a3=some r) :
  Calls Tryz.prog 61 #[.agg #[.int .i64 jc,.int .i64 jd,.int .i64 jb,.slice jg ja.length jh],.int .i64 a1,.int .i64 a2,.int .i64 a3] w fun e w'=>e=.returned (.int .i64 r)∧Below w.heap.size w w':=by
 have hu26:=Tryz.underlying26
 have je:=ai_ hr0_3
 have ji:=ai_ hc0_3
 clear hr0_3 hc0_3
 have HB:=ai_ (Below.refl w.heap.size w)
 have H:=h
 unfold spec_buArrive.f at H
 clear h
 obtain ⟨j3q,A5,H⟩:=bs_ H
 (try dsimp only at H)
 by_cases c6:j3q < 0
 ·rw [if_pos c6] at H
  have j5x:=decide_eq_true c6
  clear c6
  obtain rfl:=Option.some.inj H
  go_enter Tryz.func61,Tryz.ntmps61
  go_wp2_with (first|((with_reducible refine gate_dst (N:=4) rfl ?_);refine bxe_ #[.int .i64 jc,.int .i64 jd,.int .i64 jb,.slice jg ja.length jh] 26 ?_;intro j7m hg w7 hbox hb;have j1d:=ai_ (hbox);have j7n:=ai_ (gb_ hg (below_size (below_to HB)));have j2s:=ai_ (gb_ hg (below_size (below_to HB)));replace HB:=ai_ (below_step (below_to HB) hb);clear hb hbox hg;obtain ⟨j4l,j4m,j4n,j4o,j4p,j4q,j4r,j4s⟩:=blk4_ j1d)|((with_reducible refine gate_callee (f:=48) rfl ?_);refine gl_ (some 13) Tryz.func48 #[.agg #[.int .i64 jc,.int .i64 jd,.int .i64 jb,.slice jg ja.length jh],.int .i64 a1,.int .i64 a3] ?_;(with_reducible refine (spec_buNext.calls k jc jd jb _ _ ja a1 a3 j3q _ ?side1 ji.out A5.out).mono ?_);(case side1=>exact cb_ je HB);rintro e w9 ⟨rfl,hb⟩;refine ⟨_,rfl,?_⟩;replace j1d:=bb_ j1d hb;replace HB:=ai_ (below_step (below_to1 HB j2s.out) hb);clear hb))
  go_ret
  exact ⟨rtE_,below_to1 HB j2s.out⟩
 ·rw [if_neg c6] at H
  have j5x:=decide_eq_false c6
  clear c6
  replace H:=Option.bind_eq_some_iff.mp H
  obtain ⟨j6h,A100,H⟩:=H
  replace H:(some j6h)=some r:=H
  have A10:=ai_ A100
  clear A100
  obtain rfl:=Option.some.inj H
  go_enter Tryz.func61,Tryz.ntmps61
  go_wp2_with (first|((with_reducible refine gate_dst (N:=4) rfl ?_);refine bxe_ #[.int .i64 jc,.int .i64 jd,.int .i64 jb,.slice jg ja.length jh] 26 ?_;intro j7m hg w11 hbox hb;have j1d:=ai_ (hbox);have j7n:=ai_ (gb_ hg (below_size (below_to HB)));have j2s:=ai_ (gb_ hg (below_size (below_to HB)));replace HB:=ai_ (below_step (below_to HB) hb);clear hb hbox hg;obtain ⟨j1j,j1k,j1l,j1m,j1n,j1o,j1p,j1q⟩:=blk4_ j1d)|((with_reducible refine gate_callee (f:=48) rfl ?_);refine gl_ (some 13) Tryz.func48 #[.agg #[.int .i64 jc,.int .i64 jd,.int .i64 jb,.slice jg ja.length jh],.int .i64 a1,.int .i64 a3] ?_;(with_reducible refine (spec_buNext.calls k jc jd jb _ _ ja a1 a3 j3q _ ?side1 ji.out A5.out).mono ?_);(case side1=>exact cb_ je HB);rintro e w13 ⟨rfl,hb⟩;refine ⟨_,rfl,?_⟩;replace j1d:=bb_ j1d hb;replace HB:=ai_ (below_step (below_to1 HB j2s.out) hb);clear hb;obtain ⟨j6i,j6j,j6k,j6l,j6m,j6n,j6o,j6p⟩:=blk4_ j1d)|((with_reducible refine gate_callee (f:=49) rfl ?_);refine gl_ (some 19) Tryz.func49 #[.agg #[.int .i64 jc,.int .i64 jd,.int .i64 jb,.slice jg ja.length jh],.int .i64 j3q,.int .i64 a2] ?_;(with_reducible refine (spec_buTime.calls jc jd jb _ _ ja j3q a2 j6h _ ?side1 ji.out A10.out).mono ?_);(case side1=>exact cb_ je HB);rintro e w15 ⟨rfl,hb⟩;refine ⟨_,rfl,?_⟩;replace j1d:=bb_ j1d hb;replace HB:=ai_ (below_step (below_to1 HB j2s.out) hb);clear hb))
  go_ret
  exact ⟨rtE_,below_to1 HB j2s.out⟩
def spec_ArriveAt.f (k:Nat) (jc:Int) (jd:Int) (jb:Int) (ja:List Int) (a1:Int) (a2:Int) (a3:Int):Option (Int × Bool):=(spec_buRide.f k jc jd jb ja a1 a2).bind fun j7i=>(if j7i=true then ((spec_buMinute.f a3).bind fun j7j=>(if j7j=true then ((spec_buNext.f k jc jd jb ja a1 a3).bind fun j5d=>(if j5d < 0 then (some (0,false)) else ((spec_buArrive.f k jc jd jb ja a1 a2 a3).bind fun j7k=>(some (j7k,true))))) else (some (0,false)))) else (some (0,false)))
theorem spec_ArriveAt.calls (k:Nat) (jc:Int) (jd:Int) (jb:Int) (jg:Option Addr) (jh:Nat) (ja:List Int) (a1:Int) (a2:Int) (a3:Int) (r1:Int) (r2:Bool) (w:World) (hr0_3:Kd.C Ki_ w jg ja.length ja) (hc0_3:ja.length≤jh) (h:spec_ArriveAt.f k jc jd jb ja a1 a2 a3=some (r1,r2)) :
  Calls Tryz.prog 29 #[.agg #[.int .i64 jc,.int .i64 jd,.int .i64 jb,.slice jg ja.length jh],.int .i64 a1,.int .i64 a2,.int .i64 a3] w fun e w'=>e=.returned (.tuple #[.int .i64 r1,.bool r2])∧Below w.heap.size w w':=by
 have hu26:=Tryz.underlying26
 have je:=ai_ hr0_3
 have ji:=ai_ hc0_3
 clear hr0_3 hc0_3
 have HB:=ai_ (Below.refl w.heap.size w)
 have H:=h
 unfold spec_ArriveAt.f at H
 clear h
 obtain ⟨j7i,A5,H⟩:=bs_ H
 (try dsimp only at H)
 by_cases c6:j7i=true
 rotate_left
 ·replace c6:=Bool.eq_false_iff.mpr c6
  subst c6
  rw [if_neg ft_] at H
  simp only [Option.some.injEq,Prod.mk.injEq] at H
  obtain ⟨rfl,rfl⟩:=H
  go_enter Tryz.func29,Tryz.ntmps29
  go_wp2_with (first|((with_reducible refine gate_dst (N:=4) rfl ?_);refine bxe_ #[.int .i64 jc,.int .i64 jd,.int .i64 jb,.slice jg ja.length jh] 26 ?_;intro j5e hg w27 hbox hb;have jn:=ai_ (hbox);have j5f:=ai_ (gb_ hg (below_size (below_to HB)));have jv:=ai_ (gb_ hg (below_size (below_to HB)));replace HB:=ai_ (below_step (below_to HB) hb);clear hb hbox hg;obtain ⟨j8n,j8o,j8p,j8q,j8r,j8s,j8t,j8u⟩:=blk4_ jn)|((with_reducible refine gate_callee (f:=59) rfl ?_);refine gl_ (some 13) Tryz.func59 #[.agg #[.int .i64 jc,.int .i64 jd,.int .i64 jb,.slice jg ja.length jh],.int .i64 a1,.int .i64 a2] ?_;(with_reducible refine (spec_buRide.calls k jc jd jb _ _ ja a1 a2 false _ ?side1 ji.out A5.out).mono ?_);(case side1=>exact cb_ je HB);rintro e w29 ⟨rfl,hb⟩;refine ⟨_,rfl,?_⟩;replace jn:=bb_ jn hb;replace HB:=ai_ (below_step (below_to1 HB jv.out) hb);clear hb))
  go_ret2
  exact ⟨rtE_,below_to1 HB jv.out⟩
 subst c6
 rw [if_pos rfl] at H
 obtain ⟨j7j,A7,H⟩:=bs_ H
 (try dsimp only at H)
 by_cases c8:j7j=true
 rotate_left
 ·replace c8:=Bool.eq_false_iff.mpr c8
  subst c8
  rw [if_neg ft_] at H
  simp only [Option.some.injEq,Prod.mk.injEq] at H
  obtain ⟨rfl,rfl⟩:=H
  go_enter Tryz.func29,Tryz.ntmps29
  go_wp2_with (first|((with_reducible refine gate_dst (N:=4) rfl ?_);refine bxe_ #[.int .i64 jc,.int .i64 jd,.int .i64 jb,.slice jg ja.length jh] 26 ?_;intro j5e hg w24 hbox hb;have jn:=ai_ (hbox);have j5f:=ai_ (gb_ hg (below_size (below_to HB)));have jv:=ai_ (gb_ hg (below_size (below_to HB)));replace HB:=ai_ (below_step (below_to HB) hb);clear hb hbox hg;obtain ⟨j4a,j4b,j4c,j4d,j4e,j4f,j4g,j4h⟩:=blk4_ jn)|((with_reducible refine gate_callee (f:=59) rfl ?_);refine gl_ (some 13) Tryz.func59 #[.agg #[.int .i64 jc,.int .i64 jd,.int .i64 jb,.slice jg ja.length jh],.int .i64 a1,.int .i64 a2] ?_;(with_reducible refine (spec_buRide.calls k jc jd jb _ _ ja a1 a2 true _ ?side1 ji.out A5.out).mono ?_);(case side1=>exact cb_ je HB);rintro e w26 ⟨rfl,hb⟩;refine ⟨_,rfl,?_⟩;replace jn:=bb_ jn hb;replace HB:=ai_ (below_step (below_to1 HB jv.out) hb);clear hb)|(go_at_call 47;(with_reducible refine (spec_buMinute.calls a3 false _ A7.out).mono ?_);rintro e w' ⟨rfl,⟨nd,rfl⟩⟩))
  go_ret2
  exact ⟨rtE_,below_to1 HB jv.out⟩
 subst c8
 rw [if_pos rfl] at H
 obtain ⟨j5d,A9,H⟩:=bs_ H
 (try dsimp only at H)
 by_cases c10:j5d < 0
 ·rw [if_pos c10] at H
  have j7o:=decide_eq_true c10
  clear c10
  simp only [Option.some.injEq,Prod.mk.injEq] at H
  obtain ⟨rfl,rfl⟩:=H
  go_enter Tryz.func29,Tryz.ntmps29
  go_wp2_with (first|((with_reducible refine gate_dst (N:=4) rfl ?_);refine bxe_ #[.int .i64 jc,.int .i64 jd,.int .i64 jb,.slice jg ja.length jh] 26 ?_;intro j5e hg w11 hbox hb;have jn:=ai_ (hbox);have j5f:=ai_ (gb_ hg (below_size (below_to HB)));have jv:=ai_ (gb_ hg (below_size (below_to HB)));replace HB:=ai_ (below_step (below_to HB) hb);clear hb hbox hg;obtain ⟨j1j,j1k,j1l,j1m,j1n,j1o,j1p,j1q⟩:=blk4_ jn)|((with_reducible refine gate_callee (f:=59) rfl ?_);refine gl_ (some 13) Tryz.func59 #[.agg #[.int .i64 jc,.int .i64 jd,.int .i64 jb,.slice jg ja.length jh],.int .i64 a1,.int .i64 a2] ?_;(with_reducible refine (spec_buRide.calls k jc jd jb _ _ ja a1 a2 true _ ?side1 ji.out A5.out).mono ?_);(case side1=>exact cb_ je HB);rintro e w13 ⟨rfl,hb⟩;refine ⟨_,rfl,?_⟩;replace jn:=bb_ jn hb;replace HB:=ai_ (below_step (below_to1 HB jv.out) hb);clear hb)|(go_at_call 47;(with_reducible refine (spec_buMinute.calls a3 true _ A7.out).mono ?_);rintro e w' ⟨rfl,⟨nd,rfl⟩⟩;obtain ⟨j6i,j6j,j6k,j6l,j6m,j6n,j6o,j6p⟩:=blk4_ jn)|(go_at_call 48;(with_reducible refine (spec_buNext.calls k jc jd jb _ _ ja a1 a3 j5d _ ?side1 ji.out A9.out).mono ?_);(case side1=>repeat (first|exact (Kd.C_below je.out (below_to1 HB jv.out))|(with_reducible refine Kd.C_alloc ?_ _)|(with_reducible refine Kd.C_drewN ?_ _)|(with_reducible refine Kd.C_drew ?_)));rintro e w15 ⟨rfl,hb⟩;replace jn:=bb_ jn hb;replace HB:=ai_ (below_step (below_to1 HB jv.out) hb);clear hb))
  go_ret2
  exact ⟨rtE_,below_to1 HB jv.out⟩
 ·rw [if_neg c10] at H
  have j7o:=decide_eq_false c10
  clear c10
  obtain ⟨j7k,A16,H⟩:=bs_ H
  (try dsimp only at H)
  simp only [Option.some.injEq,Prod.mk.injEq] at H
  obtain ⟨rfl,rfl⟩:=H
  go_enter Tryz.func29,Tryz.ntmps29
  go_wp2_with (first|((with_reducible refine gate_dst (N:=4) rfl ?_);refine bxe_ #[.int .i64 jc,.int .i64 jd,.int .i64 jb,.slice jg ja.length jh] 26 ?_;intro j5e hg w17 hbox hb;have jn:=ai_ (hbox);have j5f:=ai_ (gb_ hg (below_size (below_to HB)));have jv:=ai_ (gb_ hg (below_size (below_to HB)));replace HB:=ai_ (below_step (below_to HB) hb);clear hb hbox hg;obtain ⟨j1z,j2a,j2b,j2c,j2d,j2e,j2f,j2g⟩:=blk4_ jn)|((with_reducible refine gate_callee (f:=59) rfl ?_);refine gl_ (some 13) Tryz.func59 #[.agg #[.int .i64 jc,.int .i64 jd,.int .i64 jb,.slice jg ja.length jh],.int .i64 a1,.int .i64 a2] ?_;(with_reducible refine (spec_buRide.calls k jc jd jb _ _ ja a1 a2 true _ ?side1 ji.out A5.out).mono ?_);(case side1=>exact cb_ je HB);rintro e w19 ⟨rfl,hb⟩;refine ⟨_,rfl,?_⟩;replace jn:=bb_ jn hb;replace HB:=ai_ (below_step (below_to1 HB jv.out) hb);clear hb)|(go_at_call 47;(with_reducible refine (spec_buMinute.calls a3 true _ A7.out).mono ?_);rintro e w' ⟨rfl,⟨nd,rfl⟩⟩;obtain ⟨j5h,j5i,j5j,j5k,j5l,j5m,j5n,j5o⟩:=blk4_ jn)|(go_at_call 48;(with_reducible refine (spec_buNext.calls k jc jd jb _ _ ja a1 a3 j5d _ ?side1 ji.out A9.out).mono ?_);(case side1=>repeat (first|exact (Kd.C_below je.out (below_to1 HB jv.out))|(with_reducible refine Kd.C_alloc ?_ _)|(with_reducible refine Kd.C_drewN ?_ _)|(with_reducible refine Kd.C_drew ?_)));rintro e w21 ⟨rfl,hb⟩;replace jn:=bb_ jn hb;replace HB:=ai_ (below_step (below_to1 HB jv.out) hb);clear hb;obtain ⟨j5p,j5q,j5r,j5s,j5t,j5u,j5v,j5w⟩:=blk4_ jn)|((with_reducible refine gate_callee (f:=61) rfl ?_);refine gl_ (some 31) Tryz.func61 #[.agg #[.int .i64 jc,.int .i64 jd,.int .i64 jb,.slice jg ja.length jh],.int .i64 a1,.int .i64 a2,.int .i64 a3] ?_;(with_reducible refine (spec_buArrive.calls k jc jd jb _ _ ja a1 a2 a3 j7k _ ?side1 ji.out A16.out).mono ?_);(case side1=>exact cb_ je HB);rintro e w23 ⟨rfl,hb⟩;refine ⟨_,rfl,?_⟩;replace jn:=bb_ jn hb;replace HB:=ai_ (below_step (below_to1 HB jv.out) hb);clear hb))
  go_ret2
  exact ⟨rtE_,below_to1 HB jv.out⟩
end Go.Proofs.YthdnodmidbcgpaaGreatDoor.QR
