import Derived.Test.YthdnodmidbcgpaaGreatDoorQRx3
import Derived.Test.YthdnodmidbcgpaaGreatDoorXParse
namespace Go.Proofs.YthdnodmidbcgpaaGreatDoor.QR
open Go.Proofs.YthdnodmidbcgpaaGreatDoor.X Go.RowKit Go.Proofs.YthdnodmidbcgpaaGreatDoorW.PrintWords Go.Proofs.YthdnodmidbcgpaaGreatDoorW.PrintLast Go.Proofs.YthdnodmidbcgpaaGreatDoorW.PrintMore
set_option maxHeartbeats 8000000
set_option maxRecDepth 100000
attribute [local go_sem] max2_int min2_int max_two min_two max_three min_three max_four min_four
set_option linter.unusedVariables false
set_option linter.unusedSimpArgs false
mutual
def impl_WhereIsBus.j0:Nat→Int→Int→Bool→Int→Int→Int→List Int→Option (Int × Bool × Bool)
 | 0,_,_,_,_,_,_,_=>none
 | k+1,x1,x2,x25,ji,jj,jk,jc=>if x25=true then (some (0,false,false)) else ((impl_timeAt.f ji jj jk jc x1 0).bind fun j3w=>(if x2 < j3w then (impl_WhereIsBus.j1 k x1 x2 (wrap64 ((jc.length:Int) - 1)) true ji jj jk jc) else ((impl_timeAt.f ji jj jk jc x1 (wrap64 ((jc.length:Int) - 1))).bind fun j4a=>(impl_WhereIsBus.j1 k x1 x2 (wrap64 ((jc.length:Int) - 1)) (decide (x2 > j4a)) ji jj jk jc))))
def impl_WhereIsBus.j1:Nat→Int→Int→Int→Bool→Int→Int→Int→List Int→Option (Int × Bool × Bool)
 | 0,_,_,_,_,_,_,_,_=>none
 | k+1,x1,x2,x9,x42,ji,jj,jk,jc=>if x42=true then (some (0,false,false)) else (impl_WhereIsBus.l0 k x1 x2 x9 ji jj jk jc)
def impl_WhereIsBus.l0:Nat→Int→Int→Int→Int→Int→Int→List Int→Option (Int × Bool × Bool)
 | 0,_,_,_,_,_,_,_=>none
 | k+1,x1,x2,x9,ji,jj,jk,jc=>(impl_timeAt.f ji jj jk jc x1 x9).bind fun j3x=>(if j3x > x2 then (impl_WhereIsBus.l0 k x1 x2 (wrap64 (x9 - 1)) ji jj jk jc) else ((impl_timeAt.f ji jj jk jc x1 x9).bind fun j4f=>(some (x9,(j4f == x2),true))))
end
def impl_WhereIsBus.f (k:Nat) (je:Int) (jf:Int) (jd:Int) (jb:List Int) (a1:Int) (a2:Int):Option (Int × Bool × Bool):=(impl_hasStops.f k je jf jd jb ([]:List Int)).bind fun j4g=>(if j4g=true then ((impl_within.f a1 0 (wrap64 (jd - 1))).bind fun j4h=>(if j4h=true then ((impl_isMinute.f a2).bind fun j4b=>(impl_WhereIsBus.j0 k a1 a2 (!j4b) je jf jd jb)) else (impl_WhereIsBus.j0 k a1 a2 true je jf jd jb))) else (impl_WhereIsBus.j0 k a1 a2 true je jf jd jb))
theorem impl_WhereIsBus.calls (k:Nat) (je:Int) (jf:Int) (jd:Int) (jm:Option Addr) (jn:Nat) (jb:List Int) (a1:Int) (a2:Int) (r1:Int) (r2:Bool) (r3:Bool) (w:World) (hr0_3:Kd.C Ki_ w jm jb.length jb) (hc0_3:jb.length≤jn) (h:impl_WhereIsBus.f k je jf jd jb a1 a2=some (r1,r2,r3)) :
  Calls Tryz.prog 19 #[.agg #[.int .i64 je,.int .i64 jf,.int .i64 jd,.slice jm jb.length jn],.int .i64 a1,.int .i64 a2] w fun e w'=>e=.returned (.tuple #[.int .i64 r1,.bool r2,.bool r3])∧Below w.heap.size w w':=by
 have hu26:=Tryz.underlying26
 have jo:=ai_ hr0_3
 have jp:=ai_ hc0_3
 clear hr0_3 hc0_3
 have HB:=ai_ (Below.refl w.heap.size w)
 have H:=h
 unfold impl_WhereIsBus.f at H
 clear h
 have HC4:=ai_ H
 clear H
 go_enter Tryz.func19,Tryz.ntmps19
 go_upto_region 1 with (first|((with_reducible refine gate_dst (N:=3) rfl ?_);refine bxe_ #[.int .i64 je,.int .i64 jf,.int .i64 jd,.slice jm jb.length jn] 26 ?_;intro j3y hg w5 hbox hb;have ja:=ai_ (hbox);have j5r:=ai_ (gb_ hg (below_size (below_to HB)));have jg:=ai_ (gb_ hg (below_size (below_to HB)));replace HB:=ai_ (below_step (below_to HB) hb);clear hb hbox hg))
 (try simp only [Act.put,List.setIfInBounds_toArray,List.set_cons_zero,List.set_cons_succ])
 go_cut [25] (fun v25 wc => ∃ (kq:Nat) (j2o:Bool),v25=.bool j2o∧Aside0 (impl_WhereIsBus.j0 kq a1 a2 j2o je jf jd jb=some (r1,r2,r3))∧Aside0 (kq≤k)∧Aside0 (wc.heap[j3y]?=some (.cells #[.int .i64 je,.int .i64 jf,.int .i64 jd,(.slice jm jb.length jn)] 26 (0,0)))∧Aside0 (Below w.heap.size w wc))
 case first =>
  have H:=HC4.out
  clear HC4
  obtain ⟨j4g,A6,H⟩:=bs_ H
  (try dsimp only at H)
  by_cases c7:j4g=true
  rotate_left
  ·replace c7:=Bool.eq_false_iff.mpr c7
   subst c7
   rw [if_neg ft_] at H
   have H':=ai_ H
   clear H
   obtain ⟨ju,jv,jw,jx,jy,jz,j1a,j1b⟩:=blk4_ ja
   go_wp2_with (first|((with_reducible refine gate_callee (f:=43) rfl ?_);refine gl_ (some 11) Tryz.func43 #[.agg #[.int .i64 je,.int .i64 jf,.int .i64 jd,.slice jm jb.length jn],.slice none 0 0] ?_;(refine (impl_hasStops.calls k je jf jd _ _ jb _ _ ([]:List Int) false _ ?side1 ?side2 ?side3 ?side4 A6.out).mono ?_);(case side1=>exact cb_ jo HB);(case side2=>exact jp.out);(case side3=>exact Kd.C_nil _ _);(case side4=>exact Nat.le_refl _);rintro e w18 ⟨rfl,hb⟩;refine ⟨_,rfl,?_⟩;replace ja:=bb_ ja hb;replace HB:=ai_ (below_step (below_to1 HB jg.out) hb);clear hb))
   go_meet
   case rel=>exact ⟨_,(true),rt_,H',⟨by first|omega|exact Nat.le_refl _⟩,⟨blk_to ja⟩,⟨below_to1 HB jg.out⟩⟩
  subst c7
  rw [if_pos rfl] at H
  obtain ⟨j4h,A8,H⟩:=bs_ H
  (try dsimp only at H)
  by_cases c9:j4h=true
  rotate_left
  ·replace c9:=Bool.eq_false_iff.mpr c9
   subst c9
   rw [if_neg ft_] at H
   have H':=ai_ H
   clear H
   obtain ⟨j1c,j1d,j1e,j1f,j1g,j1h,j1i,j1j⟩:=blk4_ ja
   go_wp2_with (first|((with_reducible refine gate_callee (f:=43) rfl ?_);refine gl_ (some 11) Tryz.func43 #[.agg #[.int .i64 je,.int .i64 jf,.int .i64 jd,.slice jm jb.length jn],.slice none 0 0] ?_;(refine (impl_hasStops.calls k je jf jd _ _ jb _ _ ([]:List Int) true _ ?side1 ?side2 ?side3 ?side4 A6.out).mono ?_);(case side1=>exact cb_ jo HB);(case side2=>exact jp.out);(case side3=>exact Kd.C_nil _ _);(case side4=>exact Nat.le_refl _);rintro e w15 ⟨rfl,hb⟩;refine ⟨_,rfl,?_⟩;replace ja:=bb_ ja hb;replace HB:=ai_ (below_step (below_to1 HB jg.out) hb);clear hb;obtain ⟨j1k,j1l,j1m,j1n,j1o,j1p,j1q,j1r⟩:=blk4_ ja)|(go_at_call 50;(with_reducible refine (impl_within.calls a1 0 (wrap64 (jd - 1)) false _ A8.out).mono ?_);rintro e w' ⟨rfl,⟨nd,rfl⟩⟩))
   go_meet
   case rel=>exact ⟨_,(true),rt_,H',⟨by first|omega|exact Nat.le_refl _⟩,⟨blk_to ja⟩,⟨below_to1 HB jg.out⟩⟩
  subst c9
  rw [if_pos rfl] at H
  obtain ⟨j4b,A10,H⟩:=bs_ H
  (try dsimp only at H)
  have H':=ai_ H
  clear H
  obtain ⟨j1s,j1t,j1u,j1v,j1w,j1x,j1y,j1z⟩:=blk4_ ja
  go_wp2_with (first|((with_reducible refine gate_callee (f:=43) rfl ?_);refine gl_ (some 11) Tryz.func43 #[.agg #[.int .i64 je,.int .i64 jf,.int .i64 jd,.slice jm jb.length jn],.slice none 0 0] ?_;(refine (impl_hasStops.calls k je jf jd _ _ jb _ _ ([]:List Int) true _ ?side1 ?side2 ?side3 ?side4 A6.out).mono ?_);(case side1=>exact cb_ jo HB);(case side2=>exact jp.out);(case side3=>exact Kd.C_nil _ _);(case side4=>exact Nat.le_refl _);rintro e w12 ⟨rfl,hb⟩;refine ⟨_,rfl,?_⟩;replace ja:=bb_ ja hb;replace HB:=ai_ (below_step (below_to1 HB jg.out) hb);clear hb;obtain ⟨j2a,j2b,j2c,j2d,j2e,j2f,j2g,j2h⟩:=blk4_ ja)|(go_at_call 50;(with_reducible refine (impl_within.calls a1 0 (wrap64 (jd - 1)) true _ A8.out).mono ?_);rintro e w' ⟨rfl,⟨nd,rfl⟩⟩)|(go_at_call 44;(with_reducible refine (impl_isMinute.calls a2 j4b _ A10.out).mono ?_);rintro e w' ⟨rfl,⟨nd,rfl⟩⟩))
  go_meet
  case rel=>exact ⟨_,(!j4b),rt_,H',⟨by first|omega|exact Nat.le_refl _⟩,⟨blk_to ja⟩,⟨below_to1 HB jg.out⟩⟩
 clear HC4
 try clear c1
 try clear p2
 try clear c4
 try clear p6
 try clear c7
 try clear c9
 try clear j1s
 try clear j1t
 try clear j1u
 try clear j1v
 try clear j2a
 try clear j2b
 try clear j2c
 try clear j2d
 try clear j1c
 try clear j1d
 try clear j1e
 try clear j1f
 try clear j1k
 try clear j1l
 try clear j1m
 try clear j1n
 try clear ju
 try clear jv
 try clear jw
 try clear jx
 try clear j1w
 try clear j1x
 try clear j1y
 try clear j1z
 try clear j2e
 try clear j2f
 try clear j2g
 try clear j2h
 try clear j1g
 try clear j1h
 try clear j1i
 try clear j1j
 try clear j1o
 try clear j1p
 try clear j1q
 try clear j1r
 try clear jy
 try clear jz
 try clear j1a
 try clear j1b
 obtain ⟨kq,j2o,rfl,HA,HJ3,ja,HB⟩:=hcut
 cases kq with
 | zero=>exact absurd HA.out (by simp [impl_WhereIsBus.j0])
 | succ kj3 =>
  have H:=HA.out
  clear HA
  simp only [impl_WhereIsBus.j0] at H
  by_cases c19:j2o=true
  ·subst c19
   rw [if_pos rfl] at H
   simp only [Option.some.injEq,Prod.mk.injEq] at H
   obtain ⟨rfl,rfl,rfl⟩:=H
   go_wp2
   go_ret3
   exact ⟨rtE_,below_to1 HB jg.out⟩
  replace c19:=Bool.eq_false_iff.mpr c19
  subst c19
  rw [if_neg ft_] at H
  have HC20:=ai_ H
  clear H
  obtain ⟨j2p,j2q,j2r,j2s,j2t,j2u,j2v,j2w⟩:=blk4_ ja
  go_upto_region 4 with (fail)
  go_cut [42] (fun v42 wc => ∃ (kq:Nat) (j2i:Bool),v42=.bool j2i∧Aside0 (impl_WhereIsBus.j1 kq a1 a2 (wrap64 ((jb.length:Int) - 1)) j2i je jf jd jb=some (r1,r2,r3))∧Aside0 (kq≤kj3)∧Aside0 (wc.heap[j3y]?=some (.cells #[.int .i64 je,.int .i64 jf,.int .i64 jd,(.slice jm jb.length jn)] 26 (0,0)))∧Aside0 (Below w.heap.size w wc))
  case first =>
   have H:=HC20.out
   clear HC20
   obtain ⟨j3w,A22,H⟩:=bs_ H
   (try dsimp only at H)
   by_cases c23:a2 < j3w
   ·rw [if_pos c23] at H
    have js:=decide_eq_true c23
    clear c23
    (first|rw [js]|(simp only [i64_w,i32_w];rw [js])|skip)
    have H':=ai_ H
    clear H
    obtain ⟨j2x,j2y,j2z,j3a,j3b,j3c,j3d,j3e⟩:=blk4_ ja
    go_wp2_with (first|((with_reducible refine gate_callee (f:=51) rfl ?_);refine gl_ (some 33) Tryz.func51 #[.agg #[.int .i64 je,.int .i64 jf,.int .i64 jd,.slice jm jb.length jn],.int .i64 a1,.int .i64 0] ?_;(with_reducible refine (impl_timeAt.calls je jf jd _ _ jb a1 0 j3w _ ?side1 jp.out A22.out).mono ?_);(case side1=>exact cb_ jo HB);rintro e w25 ⟨rfl,hb⟩;refine ⟨_,rfl,?_⟩;replace ja:=bb_ ja hb;replace HB:=ai_ (below_step (below_to1 HB jg.out) hb);clear hb))
    go_meet
    case rel=>exact ⟨_,(true),rt_,H',⟨by have:=HJ3.out;first|omega|exact Nat.le_refl _⟩,⟨blk_to ja⟩,⟨below_to1 HB jg.out⟩⟩
   rw [if_neg c23] at H
   have js:=decide_eq_false c23
   clear c23
   (first|rw [js]|(simp only [i64_w,i32_w];rw [js])|skip)
   obtain ⟨j4a,A26,H⟩:=bs_ H
   (try dsimp only at H)
   have H':=ai_ H
   clear H
   obtain ⟨j3f,j3g,j3h,j3i,j3j,j3k,j3l,j3m⟩:=blk4_ ja
   go_wp2_with (first|((with_reducible refine gate_callee (f:=51) rfl ?_);refine gl_ (some 33) Tryz.func51 #[.agg #[.int .i64 je,.int .i64 jf,.int .i64 jd,.slice jm jb.length jn],.int .i64 a1,.int .i64 0] ?_;(with_reducible refine (impl_timeAt.calls je jf jd _ _ jb a1 0 j3w _ ?side1 jp.out A22.out).mono ?_);(case side1=>exact cb_ jo HB);rintro e w28 ⟨rfl,hb⟩;refine ⟨_,rfl,?_⟩;replace ja:=bb_ ja hb;replace HB:=ai_ (below_step (below_to1 HB jg.out) hb);clear hb;obtain ⟨j3n,j3o,j3p,j3q,j3r,j3s,j3t,j3u⟩:=blk4_ ja)|(go_at_call 51;(with_reducible refine (impl_timeAt.calls je jf jd _ _ jb a1 (wrap64 ((jb.length:Int) - 1)) j4a _ ?side1 jp.out A26.out).mono ?_);(case side1=>exact cb_ jo HB);rintro e w30 ⟨rfl,hb⟩;replace ja:=bb_ ja hb;replace HB:=ai_ (below_step (below_to1 HB jg.out) hb);clear hb))
   go_meet
   case rel=>exact ⟨_,(decide (a2 > j4a)),rt_,H',⟨by have:=HJ3.out;first|omega|exact Nat.le_refl _⟩,⟨blk_to ja⟩,⟨below_to1 HB jg.out⟩⟩
  clear HC20
  try clear c1
  try clear c2
  try clear p2
  try clear c4
  try clear c5
  try clear p6
  try clear c7
  try clear c9
  try clear c19
  try clear c23
  try clear js
  try clear j1s
  try clear j1t
  try clear j1u
  try clear j1v
  try clear j2a
  try clear j2b
  try clear j2c
  try clear j2d
  try clear j1c
  try clear j1d
  try clear j1e
  try clear j1f
  try clear j1k
  try clear j1l
  try clear j1m
  try clear j1n
  try clear ju
  try clear jv
  try clear jw
  try clear jx
  try clear j2p
  try clear j2q
  try clear j2r
  try clear j2s
  try clear j2x
  try clear j2y
  try clear j2z
  try clear j3a
  try clear j3f
  try clear j3g
  try clear j3h
  try clear j3i
  try clear j3n
  try clear j3o
  try clear j3p
  try clear j3q
  try clear j1w
  try clear j1x
  try clear j1y
  try clear j1z
  try clear j2e
  try clear j2f
  try clear j2g
  try clear j2h
  try clear j1g
  try clear j1h
  try clear j1i
  try clear j1j
  try clear j1o
  try clear j1p
  try clear j1q
  try clear j1r
  try clear jy
  try clear jz
  try clear j1a
  try clear j1b
  try clear j2t
  try clear j2u
  try clear j2v
  try clear j2w
  try clear j3b
  try clear j3c
  try clear j3d
  try clear j3e
  try clear j3j
  try clear j3k
  try clear j3l
  try clear j3m
  try clear j3r
  try clear j3s
  try clear j3t
  try clear j3u
  try clear p2
  try clear p6
  obtain ⟨kq,j2i,rfl,HA,HJ19,ja,HB⟩:=hcut
  cases kq with
  | zero=>exact absurd HA.out (by simp [impl_WhereIsBus.j1])
  | succ kj19 =>
   have H:=HA.out
   clear HA
   simp only [impl_WhereIsBus.j1] at H
   by_cases c31:j2i=true
   ·subst c31
    rw [if_pos rfl] at H
    simp only [Option.some.injEq,Prod.mk.injEq] at H
    obtain ⟨rfl,rfl,rfl⟩:=H
    go_wp2
    go_ret3
    exact ⟨rtE_,below_to1 HB jg.out⟩
   replace c31:=Bool.eq_false_iff.mpr c31
   subst c31
   rw [if_neg ft_] at H
   have H':=ai_ H
   clear H
   go_wp2
   go_loopg [9] kj19 (fun kq v9 w' => ∃ (jt:Int),v9=.int .i64 jt∧Aside0 (impl_WhereIsBus.l0 kq a1 a2 jt je jf jd jb=some (r1,r2,r3))∧Aside0 (kq≤kj19)∧Aside0 (w'.heap[j3y]?=some (.cells #[.int .i64 je,.int .i64 jf,.int .i64 jd,(.slice jm jb.length jn)] 26 (0,0)))∧Aside0 (Below w.heap.size w w'))
   case atStart=>exact ⟨((wrap64 ((jb.length:Int) - 1))),rt_,H',⟨Nat.le_refl _⟩,⟨blk_to ja⟩,⟨below_to1 HB jg.out⟩⟩
   clear H'
   try clear c1
   try clear c2
   try clear p2
   try clear c3
   try clear c4
   try clear c5
   try clear p6
   try clear c7
   try clear c9
   try clear c19
   try clear c23
   try clear js
   try clear c31
   try clear j1s
   try clear j1t
   try clear j1u
   try clear j1v
   try clear j2a
   try clear j2b
   try clear j2c
   try clear j2d
   try clear j1c
   try clear j1d
   try clear j1e
   try clear j1f
   try clear j1k
   try clear j1l
   try clear j1m
   try clear j1n
   try clear ju
   try clear jv
   try clear jw
   try clear jx
   try clear j2p
   try clear j2q
   try clear j2r
   try clear j2s
   try clear j2x
   try clear j2y
   try clear j2z
   try clear j3a
   try clear j3f
   try clear j3g
   try clear j3h
   try clear j3i
   try clear j3n
   try clear j3o
   try clear j3p
   try clear j3q
   try clear j1w
   try clear j1x
   try clear j1y
   try clear j1z
   try clear j2e
   try clear j2f
   try clear j2g
   try clear j2h
   try clear j1g
   try clear j1h
   try clear j1i
   try clear j1j
   try clear j1o
   try clear j1p
   try clear j1q
   try clear j1r
   try clear jy
   try clear jz
   try clear j1a
   try clear j1b
   try clear j2t
   try clear j2u
   try clear j2v
   try clear j2w
   try clear j3b
   try clear j3c
   try clear j3d
   try clear j3e
   try clear j3j
   try clear j3k
   try clear j3l
   try clear j3m
   try clear j3r
   try clear j3s
   try clear j3t
   try clear j3u
   try clear p2
   try clear p6
   obtain ⟨jt,rfl,HA,HK3,ja,HB⟩:=hrel
   cases gk with
   | zero=>exact absurd HA.out (by simp [impl_WhereIsBus.l0])
   | succ k3 =>
    have H:=HA.out
    clear HA
    simp only [impl_WhereIsBus.l0] at H
    obtain ⟨j3x,A32,H⟩:=bs_ H
    (try dsimp only at H)
    by_cases c33:j3x > a2
    ·rw [if_pos c33] at H
     have j4j:=decide_eq_true c33
     clear c33
     have H':=ai_ H
     clear H
     obtain ⟨j4q,j4r,j4s,j4t,j4u,j4v,j4w,j4x⟩:=blk4_ ja
     go_wp2_with (first|((with_reducible refine gate_callee (f:=51) rfl ?_);refine gl_ (some 46) Tryz.func51 #[.agg #[.int .i64 je,.int .i64 jf,.int .i64 jd,.slice jm jb.length jn],.int .i64 a1,.int .i64 jt] ?_;(with_reducible refine (impl_timeAt.calls je jf jd _ _ jb a1 jt j3x _ ?side1 jp.out A32.out).mono ?_);(case side1=>exact cb_ jo HB);rintro e w35 ⟨rfl,hb⟩;refine ⟨_,rfl,?_⟩;replace ja:=bb_ ja hb;replace HB:=ai_ (below_step (below_to1 HB jg.out) hb);clear hb))
     go_roundg k3
     case measure=>have:=HJ3.out;have:=HJ19.out;have:=HK3.out;omega
     case rel=>exact ⟨(wrap64 (jt - 1)),rt_,H',⟨by have:=HJ3.out;have:=HJ19.out;have:=HK3.out;omega⟩,⟨blk_to ja⟩,⟨below_to1 HB jg.out⟩⟩
    ·rw [if_neg c33] at H
     have j4j:=decide_eq_false c33
     clear c33
     obtain ⟨j4f,A36,H⟩:=bs_ H
     (try dsimp only at H)
     simp only [Option.some.injEq,Prod.mk.injEq] at H
     obtain ⟨rfl,rfl,rfl⟩:=H
     obtain ⟨j4y,j4z,j5a,j5b,j5c,j5d,j5e,j5f⟩:=blk4_ ja
     go_wp2_with (first|((with_reducible refine gate_callee (f:=51) rfl ?_);refine gl_ (some 46) Tryz.func51 #[.agg #[.int .i64 je,.int .i64 jf,.int .i64 jd,.slice jm jb.length jn],.int .i64 a1,.int .i64 jt] ?_;(with_reducible refine (impl_timeAt.calls je jf jd _ _ jb a1 jt j3x _ ?side1 jp.out A32.out).mono ?_);(case side1=>exact cb_ jo HB);rintro e w38 ⟨rfl,hb⟩;refine ⟨_,rfl,?_⟩;replace ja:=bb_ ja hb;replace HB:=ai_ (below_step (below_to1 HB jg.out) hb);clear hb;obtain ⟨j5g,j5h,j5i,j5j,j5k,j5l,j5m,j5n⟩:=blk4_ ja)|((with_reducible refine gate_callee (f:=51) rfl ?_);refine gl_ (some 55) Tryz.func51 #[.agg #[.int .i64 je,.int .i64 jf,.int .i64 jd,.slice jm jb.length jn],.int .i64 a1,.int .i64 jt] ?_;(with_reducible refine (impl_timeAt.calls je jf jd _ _ jb a1 jt j4f _ ?side1 jp.out A36.out).mono ?_);(case side1=>exact cb_ jo HB);rintro e w40 ⟨rfl,hb⟩;refine ⟨_,rfl,?_⟩;replace ja:=bb_ ja hb;replace HB:=ai_ (below_step (below_to1 HB jg.out) hb);clear hb))
     go_ret3
     exact ⟨rtE_,below_to1 HB jg.out⟩
def laws_qHas.l0:Nat→Int→List Int→Int→Int→Option (Bool)
 | 0,_,_,_,_=>none
 | k+1,x1,x7,x8,x9=>if x9 < x8 then (if 0≤x9 then (if x9 < (x7.length:Int) then (if (rd x7 x9)=x1 then (some true) else (laws_qHas.l0 k x1 x7 x8 (wrap64 (x9+1)))) else (none)) else (none)) else (some false)
def laws_qHas.f (k:Nat) (l0:List Int) (a1:Int):Option (Bool):=laws_qHas.l0 k a1 l0 (l0.length:Int) 0
theorem laws_qHas.calls (k:Nat) (A0:Option Addr) (c0:Nat) (l0:List Int) (a1:Int) (r:Bool) (w:World) (hr0:Kd.C Ki_ w A0 l0.length l0) (hc0:l0.length≤c0) (h:laws_qHas.f k l0 a1=some r) :
  Calls Tryz.prog 20 #[.slice A0 l0.length c0,.int .i64 a1] w fun e w'=>e=.returned (.bool r)∧Drawn0 w w':=by
 have HR0:=ai_ hr0
 have HC0:=ai_ hc0
 clear hr0 hc0
 have H:(laws_qHas.l0 k a1 l0 (l0.length:Int) 0)=some r:=h
 clear h
 have H':=ai_ H
 clear H
 go_enter Tryz.func20,Tryz.ntmps20
 go_wp2
 go_loopg [9] k (fun kq v9 w' => ∃ (jq:Int),v9=.int .i64 jq∧Aside0 (laws_qHas.l0 kq a1 l0 (l0.length:Int) jq=some r)∧Aside0 (kq≤k)∧Drawn0 w w')
 case atStart=>exact ⟨(0),rt_,H',⟨Nat.le_refl _⟩,d0_⟩
 clear H'
 try clear c2
 try clear p2
 obtain ⟨jq,rfl,HA,HK1,⟨m1,rfl⟩⟩:=hrel
 cases gk with
 | zero=>exact absurd HA.out (by simp [laws_qHas.l0])
 | succ k1 =>
  have H:=HA.out
  clear HA
  simp only [laws_qHas.l0] at H
  by_cases c3:jq < (l0.length:Int)
  rotate_left
  ·rw [if_neg c3] at H
   have j5o:=decide_eq_false c3
   clear c3
   obtain rfl:=Option.some.inj H
   go_wp2
   go_ret
   exact ⟨rt_,d0_⟩
  rw [if_pos c3] at H
  have j5o:=decide_eq_true c3
  clear c3
  by_cases c4:0≤jq
  rotate_left
  ·rw [if_neg c4] at H
   cases H
  rw [if_pos c4] at H
  have j5s:=decide_eq_true c4
  clear c4
  by_cases c5:jq < (l0.length:Int)
  rotate_left
  ·rw [if_neg c5] at H
   cases H
  rw [if_pos c5] at H
  have j5t:=decide_eq_true c5
  clear c5
  by_cases c6:(rd l0 jq)=a1
  ·rw [if_pos c6] at H
   have j4i:=beq_iff_eq.mpr c6
   have j5p:=bne_eq_false_iff_eq.mpr c6
   clear c6
   obtain rfl:=Option.some.inj H
   have j2k:0≤(jq:Int):=odt_
   have j2l:jq < (l0.length:Int):=odt_
   obtain ⟨j4k,e351,j4c⟩:=Kd.at_int HR0.out jq j2k j2l
   cases e351
   replace j2k:=eq_true j2k
   replace j2l:=eq_true j2l
   go_wp2
   go_ret
   exact ⟨rt_,d0_⟩
  ·rw [if_neg c6] at H
   have j4i:=beq_eq_false_iff_ne.mpr c6
   have j5p:=bne_iff_ne.mpr c6
   have H':=ai_ H
   clear H
   have j2k:0≤(jq:Int):=odt_
   have j2l:jq < (l0.length:Int):=odt_
   obtain ⟨j4k,e351,j4c⟩:=Kd.at_int HR0.out jq j2k j2l
   cases e351
   replace j2k:=eq_true j2k
   replace j2l:=eq_true j2l
   go_wp2
   go_roundg k1
   case measure=>have:=HK1.out;omega
   case rel=>exact ⟨(wrap64 (jq+1)),rt_,H',⟨by have:=HK1.out;omega⟩,d0_⟩
def strings_Cut.f (a0:ByteArray) (a1:ByteArray):Option (ByteArray × ByteArray × Bool):=if a0.size < 4294967281 then some ((⟨(Lib.cut a0.data.toList a1.data.toList).1.toArray⟩:ByteArray),(⟨(Lib.cut a0.data.toList a1.data.toList).2.1.toArray⟩:ByteArray),(Lib.cut a0.data.toList a1.data.toList).2.2) else none
theorem strings_Cut.calls (a0:ByteArray) (a1:ByteArray) (r1:ByteArray) (r2:ByteArray) (r3:Bool) (w:World) (h:strings_Cut.f a0 a1=some (r1,r2,r3)) (hT_:Go.Proofs.YthdnodmidbcgpaaGreatDoor.XText.T2 w) :
  Calls Tryz.prog 56 #[.string a0,.string a1] w fun e w'=>e=.returned (.tuple #[.string r1,.string r2,.bool r3])∧Below w.heap.size w w':=by
 unfold strings_Cut.f at h
 by_cases c:a0.size < 4294967281
 ·rw [if_pos c] at h
  have h:=Option.some.inj h
  simp only [Prod.mk.injEq] at h
  obtain ⟨rfl,rfl,rfl⟩:=h
  exact Go.Proofs.YthdnodmidbcgpaaGreatDoor.XText.cut_calls a0 a1 w c hT_
 ·rw [if_neg c] at h
  cases h
def strings_Split.f (a0:ByteArray) (a1:ByteArray):Option (List ByteArray):=if a0.size < 4294967281∧1≤a1.size then some (Lib.splitB a1 0 (Lib.countB a0 a1) a0) else none
theorem strings_Split.calls (a0:ByteArray) (a1:ByteArray) (r:List ByteArray) (w:World) (h:strings_Split.f a0 a1=some r) (hT_:Go.Proofs.YthdnodmidbcgpaaGreatDoor.XText.T2 w) :
  Calls Tryz.prog 77 #[.string a0,.string a1] w fun e w' => ∃ Ab:Value,e=.returned (Ab)∧Kd.R Kd.string 9 w' w.heap.size (fun _=>True) Ab r∧Below w.heap.size w w':=by
 unfold strings_Split.f at h
 by_cases c:a0.size < 4294967281∧1≤a1.size
 ·rw [if_pos c] at h
  obtain rfl:=Option.some.inj h
  exact Go.Proofs.YthdnodmidbcgpaaGreatDoor.XText.split_calls a0 a1 w c.1 c.2 hT_
 ·rw [if_neg c] at h
  cases h
def impl_readNumber.f (a0:ByteArray):Option (Int × Bool):=if a0.size≤281474976710656 then some (((Go.Proofs.YthdnodmidbcgpaaGreatDoor.XText.rdNum a0).1,(Go.Proofs.YthdnodmidbcgpaaGreatDoor.XText.rdNum a0).2)) else none
theorem impl_readNumber.calls (a0:ByteArray) (r1:Int) (r2:Bool) (w:World) (h:impl_readNumber.f a0=some (r1,r2)) (hT_:Go.Proofs.YthdnodmidbcgpaaGreatDoor.XText.T2 w) :
  Calls Tryz.prog 78 #[.string a0] w fun e w'=>e=.returned (.tuple #[.int .i64 r1,.bool r2])∧Below w.heap.size w w':=by
 unfold impl_readNumber.f at h
 by_cases c:a0.size≤281474976710656
 ·rw [if_pos c] at h
  have h:=Option.some.inj h
  simp only [Prod.mk.injEq] at h
  obtain ⟨rfl,rfl⟩:=h
  exact Go.Proofs.YthdnodmidbcgpaaGreatDoor.XText.readNumber_calls a0 w c hT_
 ·rw [if_neg c] at h
  cases h
def impl_readNumbers.l0:Nat→List Int→List ByteArray→Int→Int→Option (List Int × Bool)
 | 0,_,_,_,_=>none
 | k+1,x6,x13,x14,x15=>if x15 < x14 then (if 0≤x15 then (if x15 < (x13.length:Int) then ((impl_readNumber.f (rdOf ByteArray.empty x13 x15)).bind fun bt356=>(if bt356.2=true then (if x6.length < 17592186044416 then (impl_readNumbers.l0 k (x6 ++ [bt356.1]) x13 x14 (wrap64 (x15+1))) else (none)) else (some (([]:List Int),false)))) else (none)) else (none)) else (some (x6,true))
def impl_readNumbers.f (k:Nat) (a0:ByteArray) (a1:ByteArray):Option (List Int × Bool):=(strings_Split.f a0 a1).bind fun jl=>(impl_readNumbers.l0 k ([]:List Int) jl (jl.length:Int) 0)
theorem impl_readNumbers.calls (k:Nat) (a0:ByteArray) (a1:ByteArray) (r1:List Int) (r2:Bool) (w:World) (h:impl_readNumbers.f k a0 a1=some (r1,r2)) (hT_:Go.Proofs.YthdnodmidbcgpaaGreatDoor.XText.T2 w) :
  Calls Tryz.prog 57 #[.string a0,.string a1] w fun e w' => ∃ Ab:Value,e=.returned (.tuple #[Ab,.bool r2])∧Kd.R Ki_ 3 w' w.heap.size (fun _=>True) Ab r1∧Below w.heap.size w w':=by
 have HTab_:=ai_ hT_
 clear hT_
 have HB:=ai_ (Below.refl w.heap.size w)
 have H:=h
 unfold impl_readNumbers.f at H
 clear h
 obtain ⟨jl,A3,H⟩:=bs_ H
 (try dsimp only at H)
 have H':=ai_ H
 clear H
 go_enter Tryz.func57,Tryz.ntmps57
 go_wp2_with (first|((with_reducible refine gate_callee (f:=77) rfl ?_);refine gl_ (some 13) Tryz.func77 #[.string a0,.string a1] ?_;(with_reducible refine (strings_Split.calls a0 a1 jl _ A3.out ?sidet).mono ?_);(case sidet=>refine Go.Proofs.YthdnodmidbcgpaaGreatDoor.XText.T2.on (w:=w) HTab_.out ?_;repeat (first|(with_reducible first|exact HB.out|exact Below.refl _ _|apply below_alloc|apply pw_below_drewN|apply below_drew1)|exact HB.out|exact Below.refl _ _));rintro e w4 ⟨j5u,rfl,ho0,hb⟩;refine ⟨_,rfl,?_⟩;have j4e:=ai_ (Kd.R_lower ho0 (below_size (below_to HB)));replace HB:=ai_ (below_step (below_to HB) hb);clear hb;(try clear ho0);obtain ⟨Ao5,co5,eo5⟩:=Kd.R_slice j4e.out;subst eo5))
 go_loopg [6,15] k (fun kq v6 v15 w' => ∃ (j3v:List Int) (jh:Int),v15=.int .i64 jh∧Aside0 (impl_readNumbers.l0 kq j3v jl (jl.length:Int) jh=some (r1,r2))∧Aside0 (kq≤k)∧Aside0 (Kd.R Ki_ 3 w' w.heap.size (fun _=>True) v6 j3v)∧Aside0 (Kd.R Kd.string 9 w' w.heap.size (fun _=>True) (.slice Ao5 jl.length co5) jl)∧Aside0 (Below w.heap.size w w'))
 case atStart=>exact ⟨(([]:List Int)),(0),rt_,H',⟨Nat.le_refl _⟩,⟨by first|exact Kd.R_nil _ _ _ _ _|exact Kd.N_nil _ _ _ _ _|exact Kd.V_nil _ _ _ _ _|exact Kd.Q_nil _ _ _ _ _|exact Kd.S_nil _ _ _ _ _⟩,⟨kd_to j4e⟩,⟨below_to HB⟩⟩
 clear H'
 try clear p2
 try clear c5
 obtain ⟨j3v,jh,rfl,HA,HK1,j2j,jr,HB⟩:=hrel
 cases gk with
 | zero=>exact absurd HA.out (by simp [impl_readNumbers.l0])
 | succ k1 =>
  have H:=HA.out
  clear HA
  simp only [impl_readNumbers.l0] at H
  by_cases c6:jh < (jl.length:Int)
  rotate_left
  ·rw [if_neg c6] at H
   have j4i:=decide_eq_false c6
   clear c6
   simp only [Option.some.injEq,Prod.mk.injEq] at H
   obtain ⟨rfl,rfl⟩:=H
   go_wp2
   go_ret2
   exact ⟨_,rtE_,kd_to j2j,below_to HB⟩
  rw [if_pos c6] at H
  have j4i:=decide_eq_true c6
  clear c6
  by_cases c7:0≤jh
  rotate_left
  ·rw [if_neg c7] at H
   cases H
  rw [if_pos c7] at H
  have j5v:=decide_eq_true c7
  clear c7
  by_cases c8:jh < (jl.length:Int)
  rotate_left
  ·rw [if_neg c8] at H
   cases H
  rw [if_pos c8] at H
  have j5w:=decide_eq_true c8
  clear c8
  obtain ⟨⟨j3z,j5q⟩,A9,H⟩:=bs_ H
  (try dsimp only at H)
  by_cases c10:j5q=true
  rotate_left
  ·replace c10:=Bool.eq_false_iff.mpr c10
   subst c10
   rw [if_neg ft_] at H
   simp only [Option.some.injEq,Prod.mk.injEq] at H
   obtain ⟨rfl,rfl⟩:=H
   have j2m:0≤(jh:Int):=odt_
   have j2n:jh < (jl.length:Int):=odt_
   obtain ⟨j4l,e355,j4d⟩:=Kd.at_string (Kd.R_reads' jr.out).2.2 jh j2m j2n
   cases e355
   replace j2m:=eq_true j2m
   replace j2n:=eq_true j2n
   go_wp2_with (first|((with_reducible refine gate_callee (f:=78) rfl ?_);refine gl_ (some 21) Tryz.func78 #[.string (rdOf ByteArray.empty jl jh)] ?_;(with_reducible refine (impl_readNumber.calls (rdOf ByteArray.empty jl jh) j3z false _ A9.out ?sidet).mono ?_);(case sidet=>refine Go.Proofs.YthdnodmidbcgpaaGreatDoor.XText.T2.on (w:=w) HTab_.out ?_;repeat (first|(with_reducible first|exact HB.out|exact Below.refl _ _|apply below_alloc|apply pw_below_drewN|apply below_drew1)|exact HB.out|exact Below.refl _ _));rintro e w14 ⟨rfl,hb⟩;refine ⟨_,rfl,?_⟩;replace j2j:=rb_ j2j hb;replace jr:=rb_ jr hb;replace HB:=ai_ (below_step (below_to HB) hb);clear hb))
   go_ret2
   exact ⟨_,rtE_,by first|exact Kd.R_nil _ _ _ _ _|exact Kd.N_nil _ _ _ _ _|exact Kd.V_nil _ _ _ _ _|exact Kd.Q_nil _ _ _ _ _|exact Kd.S_nil _ _ _ _ _,below_to HB⟩
  subst c10
  rw [if_pos rfl] at H
  by_cases c11:j3v.length < 17592186044416
  ·rw [if_pos c11] at H
   have j4m:=ai_ c11
   clear c11
   obtain ⟨j4n,hy358⟩:∃ y_:List Int,y_=(j3v ++ [j3z]):=⟨_,rfl⟩
   replace H:(impl_readNumbers.l0 k1 j4n jl (jl.length:Int) (wrap64 (jh+1)))=some (r1,r2):=by first|(rw [hy358];with_reducible exact H)|(have H2_:=(Option.bind_some _ _).symm.trans H;rw [hy358];with_reducible exact H2_)|(have H2_:=(Option.bind_some _ _).symm.trans H;with_reducible exact H2_)|with_reducible exact H|(rw [hy358];exact H)|exact H
   have j4o:=ai_ hy358
   clear hy358
   have H':=ai_ H
   clear H
   have j2m:0≤(jh:Int):=odt_
   have j2n:jh < (jl.length:Int):=odt_
   obtain ⟨j4l,e355,j4d⟩:=Kd.at_string (Kd.R_reads' jr.out).2.2 jh j2m j2n
   cases e355
   replace j2m:=eq_true j2m
   replace j2n:=eq_true j2n
   go_wp2_with (first|((with_reducible refine gate_callee (f:=78) rfl ?_);refine gl_ (some 21) Tryz.func78 #[.string (rdOf ByteArray.empty jl jh)] ?_;(with_reducible refine (impl_readNumber.calls (rdOf ByteArray.empty jl jh) j3z true _ A9.out ?sidet).mono ?_);(case sidet=>refine Go.Proofs.YthdnodmidbcgpaaGreatDoor.XText.T2.on (w:=w) HTab_.out ?_;repeat (first|(with_reducible first|exact HB.out|exact Below.refl _ _|apply below_alloc|apply pw_below_drewN|apply below_drew1)|exact HB.out|exact Below.refl _ _));rintro e w12 ⟨rfl,hb⟩;refine ⟨_,rfl,?_⟩;replace j2j:=rb_ j2j hb;replace jr:=rb_ jr hb;replace HB:=ai_ (below_step (below_to HB) hb);clear hb)|((with_reducible refine gate_builtin (b:=.append) (xs:=#[.tmp 26,.tmp 28]) rfl ?_);at_builtin;refine Kd.R_append Ki_ (w0:=w) w.heap.size rfl (.tmp 26) (.tmp 28) 24 3 (.int .i64 0) 8 rfl Tryz.underlying24 info3 rfl (by decide) (by omega) u6 j3v j3z [.int .i64 j3z] (fun _=>True) (fun _=>False) rfl rfl ?aP (fun _ hk=>hk.elim) ?aF ?aO ?aB ?aS ?aL ?_;(case aP=>exact rfl);(case aB=>exact (below_to HB));(case aF=>exact (fun _ _=>trivial));(case aO=>exact (kd_to j2j));(case aS=>exact (below_size (below_to HB)));(case aL=>have:=j4m.out;omega);intro j5x w13 ho hb hg hat;rw [← j4o.out] at ho;replace jr:=ai_ (Kd.R_over' (kd_to jr) (Kd.R_typed (kd_to j2j)) (by decide) hg);replace HB:=ai_ (hb);have j4p:=ai_ (ho);clear j2j;clear ho hb hg hat))
   go_roundg k1
   case measure=>have:=HK1.out;omega
   case rel=>exact ⟨(j4n),(wrap64 (jh+1)),rt_,H',⟨by have:=HK1.out;omega⟩,⟨kd_to j4p⟩,⟨kd_to jr⟩,⟨below_to HB⟩⟩
  ·rw [if_neg c11] at H
   cases H
end Go.Proofs.YthdnodmidbcgpaaGreatDoor.QR
