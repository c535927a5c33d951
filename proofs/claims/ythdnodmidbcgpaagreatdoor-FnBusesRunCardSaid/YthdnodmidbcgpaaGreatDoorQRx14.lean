import Derived.Test.YthdnodmidbcgpaaGreatDoorQRx4
import Derived.Test.YthdnodmidbcgpaaGreatDoorQRx13
namespace Go.Proofs.YthdnodmidbcgpaaGreatDoor.QR
open Go.Proofs.YthdnodmidbcgpaaGreatDoor.X Go.RowKit Go.Proofs.YthdnodmidbcgpaaGreatDoorW.PrintWords Go.Proofs.YthdnodmidbcgpaaGreatDoorW.PrintLast Go.Proofs.YthdnodmidbcgpaaGreatDoorW.PrintMore
set_option maxHeartbeats 8000000
set_option maxRecDepth 100000
attribute [local go_sem] max2_int min2_int max_two min_two max_three min_three max_four min_four
set_option linter.unusedVariables false
set_option linter.unusedSimpArgs false
mutual
def impl_MeanWait.j0:Nat→Int→Int→Int→Bool→Int→Int→Int→List Int→Option (Int × Int × Bool)
 | 0,_,_,_,_,_,_,_,_=>none
 | k+1,x1,x2,x3,x35,j1c,j1d,j1e,j1f=>if x35=true then (some (0,0,false)) else (impl_MeanWait.l0 k x1 x2 x3 0 x2 j1c j1d j1e j1f)
def impl_MeanWait.l0:Nat→Int→Int→Int→Int→Int→Int→Int→Int→List Int→Option (Int × Int × Bool)
 | 0,_,_,_,_,_,_,_,_,_=>none
 | k+1,x1,x2,x3,x11,x12,j1c,j1d,j1e,j1f=>if x12 < x3 then ((impl_nextBus.f j1c j1d j1e j1f x1 x12).bind fun bt493=>(if bt493.2.2=true then (impl_MeanWait.l0 k x1 x2 x3 (wrap64 (x11+(wrap64 (bt493.2.1 - x12)))) (wrap64 (x12+1)) j1c j1d j1e j1f) else (some (0,0,false)))) else ((impl_fraction.f k x11 (wrap64 (x3 - x2))).bind fun bt496=>(some (bt496.1,bt496.2.1,bt496.2.2)))
end
def impl_MeanWait.f (k:Nat) (jb:Int) (jc:Int) (jd:Int) (ja:List Int) (a1:Int) (a2:Int) (a3:Int):Option (Int × Int × Bool):=(impl_hasStops.f k jb jc jd ja (([a1]:List Int))).bind fun j3i=>(if j3i=true then ((impl_isMinute.f a2).bind fun j3j=>(if j3j=true then ((impl_isMinute.f a3).bind fun j3k=>(if j3k=true then (impl_MeanWait.j0 k a1 a2 a3 (decide (a2≥a3)) jb jc jd ja) else (impl_MeanWait.j0 k a1 a2 a3 true jb jc jd ja))) else (impl_MeanWait.j0 k a1 a2 a3 true jb jc jd ja))) else (impl_MeanWait.j0 k a1 a2 a3 true jb jc jd ja))
theorem impl_MeanWait.calls (k:Nat) (jb:Int) (jc:Int) (jd:Int) (jk:Option Addr) (jl:Nat) (ja:List Int) (a1:Int) (a2:Int) (a3:Int) (r1:Int) (r2:Int) (r3:Bool) (w:World) (hr0_3:Kd.C Ki_ w jk ja.length ja) (hc0_3:ja.length≤jl) (h:impl_MeanWait.f k jb jc jd ja a1 a2 a3=some (r1,r2,r3)) :
  Calls Tryz.prog 31 #[.agg #[.int .i64 jb,.int .i64 jc,.int .i64 jd,.slice jk ja.length jl],.int .i64 a1,.int .i64 a2,.int .i64 a3] w fun e w'=>e=.returned (.tuple #[.int .i64 r1,.int .i64 r2,.bool r3])∧Below w.heap.size w w':=by
 have hu26:=Tryz.underlying26
 have jm:=ai_ hr0_3
 have jn:=ai_ hc0_3
 clear hr0_3 hc0_3
 have HB:=ai_ (Below.refl w.heap.size w)
 have H:=h
 unfold impl_MeanWait.f at H
 clear h
 have HC5:=ai_ H
 clear H
 go_enter Tryz.func31,Tryz.ntmps31
 go_upto_region 1 with (first|((with_reducible refine gate_dst (N:=4) rfl ?_);refine bxe_ #[.int .i64 jb,.int .i64 jc,.int .i64 jd,.slice jk ja.length jl] 26 ?_;intro j3r hg w6 hbox hb;have je:=ai_ (hbox);have j5r:=ai_ (gb_ hg (below_size (below_to HB)));have jg:=ai_ (gb_ hg (below_size (below_to HB)));replace HB:=ai_ (below_step (below_to HB) hb);clear hb hbox hg))
 (try simp only [Act.put,List.setIfInBounds_toArray,List.set_cons_zero,List.set_cons_succ])
 go_cut [35] (fun v35 wc => ∃ (kq:Nat) (j1s:Bool),v35=.bool j1s∧Aside0 (impl_MeanWait.j0 kq a1 a2 a3 j1s jb jc jd ja=some (r1,r2,r3))∧Aside0 (kq≤k)∧Aside0 (wc.heap[j3r]?=some (.cells #[.int .i64 jb,.int .i64 jc,.int .i64 jd,(.slice jk ja.length jl)] 26 (0,0)))∧Aside0 (Below w.heap.size w wc))
 case first =>
  have H:=HC5.out
  clear HC5
  obtain ⟨j1g,hy487⟩:∃ y_:List Int,y_=(([a1]:List Int)):=⟨_,rfl⟩
  replace H:((impl_hasStops.f k jb jc jd ja j1g).bind fun j3i=>(if j3i=true then ((impl_isMinute.f a2).bind fun j3j=>(if j3j=true then ((impl_isMinute.f a3).bind fun j3k=>(if j3k=true then (impl_MeanWait.j0 k a1 a2 a3 (decide (a2≥a3)) jb jc jd ja) else (impl_MeanWait.j0 k a1 a2 a3 true jb jc jd ja))) else (impl_MeanWait.j0 k a1 a2 a3 true jb jc jd ja))) else (impl_MeanWait.j0 k a1 a2 a3 true jb jc jd ja)))=some (r1,r2,r3):=by first|(rw [hy487];with_reducible exact H)|(have H2_:=(Option.bind_some _ _).symm.trans H;rw [hy487];with_reducible exact H2_)|(have H2_:=(Option.bind_some _ _).symm.trans H;with_reducible exact H2_)|with_reducible exact H|(rw [hy487];exact H)|exact H
  have j1b:=ai_ hy487
  clear hy487
  obtain ⟨j3i,A7,H⟩:=bs_ H
  (try dsimp only at H)
  by_cases c8:j3i=true
  rotate_left
  ·replace c8:=Bool.eq_false_iff.mpr c8
   subst c8
   rw [if_neg ft_] at H
   have H':=ai_ H
   clear H
   obtain ⟨j1h,j1i,j1j,j1k,j1l,j1m,j1n,j1o⟩:=blk4_ je
   go_wp2_with (first|((with_reducible refine gate_dst (N:=18) rfl ?_);refine Kd.R_lit Ki_ _ 3 ?hg (N:=18) ?hd (xs:=([a1]:List Int)) (inner:=[.int .i64 a1]) (ok:=fun _=>True) (okp:=fun _=>True) ?hr ?hp (fun _ hk=>hk) trivial (Below.refl _ _) (Nat.le_refl _) (by simp) ?_;(case hd=>rfl);(case hg=>rfl);(case hr=>first|(go_simp;done)|(go_simp;rfl));(case hp=>exact (Reps.one (show Kd.M Ki_ _ _ _ a1 [.int .i64 a1] from rfl) (Reps.none _ _)));intro j3t w29 j3l hb hg_ hnew_;clear hg_ hnew_;(first|rw [← j1b.out] at j3l|(simp only [Int.reduceToNat] at j3l;rw [← j1b.out] at j3l));have jh:=ai_ (Kd.R_lower j3l (below_size (below_to1 HB jg.out)));replace je:=bb_ je hb;replace HB:=ai_ (below_step (below_to1 HB jg.out) hb);clear hb j3l;obtain ⟨Ao31,co31,eo31⟩:=Kd.R_slice jh.out;subst eo31)|((with_reducible refine gate_callee (f:=43) rfl ?_);refine gl_ (some 19) Tryz.func43 #[.agg #[.int .i64 jb,.int .i64 jc,.int .i64 jd,.slice jk ja.length jl],.slice Ao31 j1g.length co31] ?_;(with_reducible refine (impl_hasStops.calls k jb jc jd _ _ ja _ _ j1g false _ ?side1 jn.out ?side3 ?side4 A7.out).mono ?_);(case side1=>exact cb_ jm HB);(case side3=>exact cR_ jh);(case side4=>exact (Kd.R_reads' jh.out).2.1);rintro e w32 ⟨rfl,hb⟩;refine ⟨_,rfl,?_⟩;replace jh:=rb_ jh hb;replace je:=bb_ je hb;replace HB:=ai_ (below_step (below_to1 HB jg.out) hb);clear hb))
   go_meet
   case rel=>exact ⟨_,(true),rt_,H',⟨by first|omega|exact Nat.le_refl _⟩,⟨blk_to je⟩,⟨below_to1 HB jg.out⟩⟩
  subst c8
  rw [if_pos rfl] at H
  obtain ⟨j3j,A9,H⟩:=bs_ H
  (try dsimp only at H)
  by_cases c10:j3j=true
  rotate_left
  ·replace c10:=Bool.eq_false_iff.mpr c10
   subst c10
   rw [if_neg ft_] at H
   have H':=ai_ H
   clear H
   obtain ⟨j1t,j1u,j1v,j1w,j1x,j1y,j1z,j2a⟩:=blk4_ je
   go_wp2_with (first|((with_reducible refine gate_dst (N:=18) rfl ?_);refine Kd.R_lit Ki_ _ 3 ?hg (N:=18) ?hd (xs:=([a1]:List Int)) (inner:=[.int .i64 a1]) (ok:=fun _=>True) (okp:=fun _=>True) ?hr ?hp (fun _ hk=>hk) trivial (Below.refl _ _) (Nat.le_refl _) (by simp) ?_;(case hd=>rfl);(case hg=>rfl);(case hr=>first|(go_simp;done)|(go_simp;rfl));(case hp=>exact (Reps.one (show Kd.M Ki_ _ _ _ a1 [.int .i64 a1] from rfl) (Reps.none _ _)));intro j3t w24 j3m hb hg_ hnew_;clear hg_ hnew_;(first|rw [← j1b.out] at j3m|(simp only [Int.reduceToNat] at j3m;rw [← j1b.out] at j3m));have jh:=ai_ (Kd.R_lower j3m (below_size (below_to1 HB jg.out)));replace je:=bb_ je hb;replace HB:=ai_ (below_step (below_to1 HB jg.out) hb);clear hb j3m;obtain ⟨Ao26,co26,eo26⟩:=Kd.R_slice jh.out;subst eo26)|((with_reducible refine gate_callee (f:=43) rfl ?_);refine gl_ (some 19) Tryz.func43 #[.agg #[.int .i64 jb,.int .i64 jc,.int .i64 jd,.slice jk ja.length jl],.slice Ao26 j1g.length co26] ?_;(with_reducible refine (impl_hasStops.calls k jb jc jd _ _ ja _ _ j1g true _ ?side1 jn.out ?side3 ?side4 A7.out).mono ?_);(case side1=>exact cb_ jm HB);(case side3=>exact cR_ jh);(case side4=>exact (Kd.R_reads' jh.out).2.1);rintro e w27 ⟨rfl,hb⟩;refine ⟨_,rfl,?_⟩;replace jh:=rb_ jh hb;replace je:=bb_ je hb;replace HB:=ai_ (below_step (below_to1 HB jg.out) hb);clear hb)|(go_at_call 44;(with_reducible refine (impl_isMinute.calls a2 false _ A9.out).mono ?_);rintro e w' ⟨rfl,⟨nd,rfl⟩⟩))
   go_meet
   case rel=>exact ⟨_,(true),rt_,H',⟨by first|omega|exact Nat.le_refl _⟩,⟨blk_to je⟩,⟨below_to1 HB jg.out⟩⟩
  subst c10
  rw [if_pos rfl] at H
  obtain ⟨j3k,A11,H⟩:=bs_ H
  (try dsimp only at H)
  by_cases c12:j3k=true
  ·subst c12
   rw [if_pos rfl] at H
   have H':=ai_ H
   clear H
   obtain ⟨jp,jq,jr,js,jt,ju,jv,jw⟩:=blk4_ je
   go_wp2_with (first|((with_reducible refine gate_dst (N:=18) rfl ?_);refine Kd.R_lit Ki_ _ 3 ?hg (N:=18) ?hd (xs:=([a1]:List Int)) (inner:=[.int .i64 a1]) (ok:=fun _=>True) (okp:=fun _=>True) ?hr ?hp (fun _ hk=>hk) trivial (Below.refl _ _) (Nat.le_refl _) (by simp) ?_;(case hd=>rfl);(case hg=>rfl);(case hr=>first|(go_simp;done)|(go_simp;rfl));(case hp=>exact (Reps.one (show Kd.M Ki_ _ _ _ a1 [.int .i64 a1] from rfl) (Reps.none _ _)));intro j3t w14 j3n hb hg_ hnew_;clear hg_ hnew_;(first|rw [← j1b.out] at j3n|(simp only [Int.reduceToNat] at j3n;rw [← j1b.out] at j3n));have jh:=ai_ (Kd.R_lower j3n (below_size (below_to1 HB jg.out)));replace je:=bb_ je hb;replace HB:=ai_ (below_step (below_to1 HB jg.out) hb);clear hb j3n;obtain ⟨Ao16,co16,eo16⟩:=Kd.R_slice jh.out;subst eo16)|((with_reducible refine gate_callee (f:=43) rfl ?_);refine gl_ (some 19) Tryz.func43 #[.agg #[.int .i64 jb,.int .i64 jc,.int .i64 jd,.slice jk ja.length jl],.slice Ao16 j1g.length co16] ?_;(with_reducible refine (impl_hasStops.calls k jb jc jd _ _ ja _ _ j1g true _ ?side1 jn.out ?side3 ?side4 A7.out).mono ?_);(case side1=>exact cb_ jm HB);(case side3=>exact cR_ jh);(case side4=>exact (Kd.R_reads' jh.out).2.1);rintro e w17 ⟨rfl,hb⟩;refine ⟨_,rfl,?_⟩;replace jh:=rb_ jh hb;replace je:=bb_ je hb;replace HB:=ai_ (below_step (below_to1 HB jg.out) hb);clear hb)|(go_at_call 44;(with_reducible refine (impl_isMinute.calls a2 true _ A9.out).mono ?_);rintro e w' ⟨rfl,⟨nd,rfl⟩⟩)|(go_at_call 44;(with_reducible refine (impl_isMinute.calls a3 true _ A11.out).mono ?_);rintro e w' ⟨rfl,⟨nd,rfl⟩⟩))
   go_meet
   case rel=>exact ⟨_,(decide (a2≥a3)),rt_,H',⟨by first|omega|exact Nat.le_refl _⟩,⟨blk_to je⟩,⟨below_to1 HB jg.out⟩⟩
  ·replace c12:=Bool.eq_false_iff.mpr c12
   subst c12
   rw [if_neg ft_] at H
   have H':=ai_ H
   clear H
   obtain ⟨j2b,j2c,j2d,j2e,j2f,j2g,j2h,j2i⟩:=blk4_ je
   go_wp2_with (first|((with_reducible refine gate_dst (N:=18) rfl ?_);refine Kd.R_lit Ki_ _ 3 ?hg (N:=18) ?hd (xs:=([a1]:List Int)) (inner:=[.int .i64 a1]) (ok:=fun _=>True) (okp:=fun _=>True) ?hr ?hp (fun _ hk=>hk) trivial (Below.refl _ _) (Nat.le_refl _) (by simp) ?_;(case hd=>rfl);(case hg=>rfl);(case hr=>first|(go_simp;done)|(go_simp;rfl));(case hp=>exact (Reps.one (show Kd.M Ki_ _ _ _ a1 [.int .i64 a1] from rfl) (Reps.none _ _)));intro j3t w19 j3o hb hg_ hnew_;clear hg_ hnew_;(first|rw [← j1b.out] at j3o|(simp only [Int.reduceToNat] at j3o;rw [← j1b.out] at j3o));have jh:=ai_ (Kd.R_lower j3o (below_size (below_to1 HB jg.out)));replace je:=bb_ je hb;replace HB:=ai_ (below_step (below_to1 HB jg.out) hb);clear hb j3o;obtain ⟨Ao21,co21,eo21⟩:=Kd.R_slice jh.out;subst eo21)|((with_reducible refine gate_callee (f:=43) rfl ?_);refine gl_ (some 19) Tryz.func43 #[.agg #[.int .i64 jb,.int .i64 jc,.int .i64 jd,.slice jk ja.length jl],.slice Ao21 j1g.length co21] ?_;(with_reducible refine (impl_hasStops.calls k jb jc jd _ _ ja _ _ j1g true _ ?side1 jn.out ?side3 ?side4 A7.out).mono ?_);(case side1=>exact cb_ jm HB);(case side3=>exact cR_ jh);(case side4=>exact (Kd.R_reads' jh.out).2.1);rintro e w22 ⟨rfl,hb⟩;refine ⟨_,rfl,?_⟩;replace jh:=rb_ jh hb;replace je:=bb_ je hb;replace HB:=ai_ (below_step (below_to1 HB jg.out) hb);clear hb)|(go_at_call 44;(with_reducible refine (impl_isMinute.calls a2 true _ A9.out).mono ?_);rintro e w' ⟨rfl,⟨nd,rfl⟩⟩)|(go_at_call 44;(with_reducible refine (impl_isMinute.calls a3 false _ A11.out).mono ?_);rintro e w' ⟨rfl,⟨nd,rfl⟩⟩))
   go_meet
   case rel=>exact ⟨_,(true),rt_,H',⟨by first|omega|exact Nat.le_refl _⟩,⟨blk_to je⟩,⟨below_to1 HB jg.out⟩⟩
 clear HC5
 try clear c1
 try clear p2
 try clear c3
 try clear c4
 try clear c8
 try clear c10
 try clear c12
 try clear c31
 try clear jp
 try clear jq
 try clear jr
 try clear js
 try clear j2b
 try clear j2c
 try clear j2d
 try clear j2e
 try clear j1t
 try clear j1u
 try clear j1v
 try clear j1w
 try clear j1h
 try clear j1i
 try clear j1j
 try clear j1k
 try clear jt
 try clear ju
 try clear jv
 try clear jw
 try clear j2f
 try clear j2g
 try clear j2h
 try clear j2i
 try clear j1x
 try clear j1y
 try clear j1z
 try clear j2a
 try clear j1l
 try clear j1m
 try clear j1n
 try clear j1o
 obtain ⟨kq,j1s,rfl,HA,HJ4,je,HB⟩:=hcut
 cases kq with
 | zero=>exact absurd HA.out (by simp [impl_MeanWait.j0])
 | succ kj4 =>
  have H:=HA.out
  clear HA
  simp only [impl_MeanWait.j0] at H
  by_cases c33:j1s=true
  ·subst c33
   rw [if_pos rfl] at H
   simp only [Option.some.injEq,Prod.mk.injEq] at H
   obtain ⟨rfl,rfl,rfl⟩:=H
   go_wp2
   go_ret3
   exact ⟨rtE_,below_to1 HB jg.out⟩
  replace c33:=Bool.eq_false_iff.mpr c33
  subst c33
  rw [if_neg ft_] at H
  have H':=ai_ H
  clear H
  go_wp2
  go_loopg [11,12] kj4 (fun kq v11 v12 w' => ∃ (jo:Int) (ji:Int),v11=.int .i64 jo∧v12=.int .i64 ji∧Aside0 (impl_MeanWait.l0 kq a1 a2 a3 jo ji jb jc jd ja=some (r1,r2,r3))∧Aside0 (kq≤kj4)∧Aside0 (w'.heap[j3r]?=some (.cells #[.int .i64 jb,.int .i64 jc,.int .i64 jd,(.slice jk ja.length jl)] 26 (0,0)))∧Aside0 (Below w.heap.size w w'))
  case atStart=>exact ⟨(0),(a2),rt_,rt_,H',⟨Nat.le_refl _⟩,⟨blk_to je⟩,⟨below_to1 HB jg.out⟩⟩
  clear H'
  try clear c1
  try clear p2
  try clear c3
  try clear c4
  try clear c8
  try clear c10
  try clear c12
  try clear c31
  try clear c33
  try clear jp
  try clear jq
  try clear jr
  try clear js
  try clear j2b
  try clear j2c
  try clear j2d
  try clear j2e
  try clear j1t
  try clear j1u
  try clear j1v
  try clear j1w
  try clear j1h
  try clear j1i
  try clear j1j
  try clear j1k
  try clear jt
  try clear ju
  try clear jv
  try clear jw
  try clear j2f
  try clear j2g
  try clear j2h
  try clear j2i
  try clear j1x
  try clear j1y
  try clear j1z
  try clear j2a
  try clear j1l
  try clear j1m
  try clear j1n
  try clear j1o
  try clear p2
  obtain ⟨jo,ji,rfl,rfl,HA,HK2,je,HB⟩:=hrel
  cases gk with
  | zero=>exact absurd HA.out (by simp [impl_MeanWait.l0])
  | succ k2 =>
   have H:=HA.out
   clear HA
   simp only [impl_MeanWait.l0] at H
   by_cases c34:ji < a3
   rotate_left
   ·rw [if_neg c34] at H
    have j3y:=decide_eq_false c34
    clear c34
    obtain ⟨⟨j5i,j5j,j5k⟩,A41,H⟩:=bs_ H
    (try dsimp only at H)
    simp only [Option.some.injEq,Prod.mk.injEq] at H
    obtain ⟨rfl,rfl,rfl⟩:=H
    go_wp2_with (first|((with_reducible refine gate_callee (f:=62) rfl ?_);refine gl_ (some 61) Tryz.func62 #[.int .i64 jo,.int .i64 (wrap64 (a3 - a2))] ?_;(with_reducible refine (impl_fraction.calls k2 jo (wrap64 (a3 - a2)) j5i j5j j5k _ A41.out).mono ?_);rintro e w42 ⟨rfl,hb⟩;refine ⟨_,rfl,?_⟩;replace je:=bb_ je hb;replace HB:=ai_ (below_step (below_to1 HB jg.out) hb);clear hb))
    go_ret3
    exact ⟨rtE_,below_to1 HB jg.out⟩
   rw [if_pos c34] at H
   have j3y:=decide_eq_true c34
   clear c34
   obtain ⟨⟨j3z,j3u,j5l⟩,A35,H⟩:=bs_ H
   (try dsimp only at H)
   by_cases c36:j5l=true
   ·subst c36
    rw [if_pos rfl] at H
    have H':=ai_ H
    clear H
    obtain ⟨j4c,j4d,j4e,j4f,j4g,j4h,j4i,j4j⟩:=blk4_ je
    go_wp2_with (first|((with_reducible refine gate_callee (f:=45) rfl ?_);refine gl_ (some 46) Tryz.func45 #[.agg #[.int .i64 jb,.int .i64 jc,.int .i64 jd,.slice jk ja.length jl],.int .i64 a1,.int .i64 ji] ?_;(with_reducible refine (impl_nextBus.calls jb jc jd _ _ ja a1 ji j3z j3u true _ ?side1 jn.out A35.out).mono ?_);(case side1=>exact cb_ jm HB);rintro e w38 ⟨rfl,hb⟩;refine ⟨_,rfl,?_⟩;replace je:=bb_ je hb;replace HB:=ai_ (below_step (below_to1 HB jg.out) hb);clear hb))
    go_roundg k2
    case measure=>have:=HJ4.out;have:=HK2.out;omega
    case rel=>exact ⟨(wrap64 (jo+(wrap64 (j3u - ji)))),(wrap64 (ji+1)),rt_,rt_,H',⟨by have:=HJ4.out;have:=HK2.out;omega⟩,⟨blk_to je⟩,⟨below_to1 HB jg.out⟩⟩
   ·replace c36:=Bool.eq_false_iff.mpr c36
    subst c36
    rw [if_neg ft_] at H
    simp only [Option.some.injEq,Prod.mk.injEq] at H
    obtain ⟨rfl,rfl,rfl⟩:=H
    obtain ⟨j4k,j4l,j4m,j4n,j4o,j4p,j4q,j4r⟩:=blk4_ je
    go_wp2_with (first|((with_reducible refine gate_callee (f:=45) rfl ?_);refine gl_ (some 46) Tryz.func45 #[.agg #[.int .i64 jb,.int .i64 jc,.int .i64 jd,.slice jk ja.length jl],.int .i64 a1,.int .i64 ji] ?_;(with_reducible refine (impl_nextBus.calls jb jc jd _ _ ja a1 ji j3z j3u false _ ?side1 jn.out A35.out).mono ?_);(case side1=>exact cb_ jm HB);rintro e w40 ⟨rfl,hb⟩;refine ⟨_,rfl,?_⟩;replace je:=bb_ je hb;replace HB:=ai_ (below_step (below_to1 HB jg.out) hb);clear hb))
    go_ret3
    exact ⟨rtE_,below_to1 HB jg.out⟩
def spec_trCommon.l0:Nat→Int→Int→Option (Int)
 | 0,_,_=>none
 | k+1,x0,x1=>if x1 > 0 then (if x1=0 then (none) else (spec_trCommon.l0 k x1 (Int.tmod x0 x1))) else (some x0)
def spec_trCommon.f (k:Nat) (a0:Int) (a1:Int):Option (Int):=spec_trCommon.l0 k a0 a1
theorem spec_trCommon.calls (k:Nat) (a0:Int) (a1:Int) (r:Int) (w:World) (h:spec_trCommon.f k a0 a1=some r) :
  Calls Tryz.prog 81 #[.int .i64 a0,.int .i64 a1] w fun e w'=>e=.returned (.int .i64 r)∧Drawn0 w w':=by
 have H:(spec_trCommon.l0 k a0 a1)=some r:=h
 clear h
 have H':=ai_ H
 clear H
 go_enter Tryz.func81,Tryz.ntmps81
 go_wp2
 repeat (go_quiet (fail);try go_wp2)
 go_loopg [0,1] k (fun kq v0 v1 w' => ∃ (j3p:Int) (j1r:Int),v0=.int .i64 j3p∧v1=.int .i64 j1r∧Aside0 (spec_trCommon.l0 kq j3p j1r=some r)∧Aside0 (kq≤k)∧Drawn0 w w')
 case atStart=>exact ⟨(a0),(a1),rt_,rt_,H',⟨Nat.le_refl _⟩,d0_⟩
 clear H'
 try clear p2
 obtain ⟨j3p,j1r,rfl,rfl,HA,HK1,⟨m1,rfl⟩⟩:=hrel
 cases gk with
 | zero=>exact absurd HA.out (by simp [spec_trCommon.l0])
 | succ k1 =>
  have H:=HA.out
  clear HA
  simp only [spec_trCommon.l0] at H
  by_cases c3:j1r > 0
  ·rw [if_pos c3] at H
   have j5m:=decide_eq_true c3
   clear c3
   by_cases c4:j1r=0
   ·rw [if_pos c4] at H
    cases H
   ·rw [if_neg c4] at H
    have j5n:=beq_eq_false_iff_ne.mpr c4
    have j5o:=bne_iff_ne.mpr c4
    have H':=ai_ H
    clear H
    go_wp2
    repeat (go_quiet (fail);try go_wp2)
    go_roundg k1
    case measure=>have:=HK1.out;omega
    case rel=>exact ⟨(j1r),(Int.tmod j3p j1r),rt_,rt_,H',⟨by have:=HK1.out;omega⟩,d0_⟩
  ·rw [if_neg c3] at H
   have j5m:=decide_eq_false c3
   clear c3
   obtain rfl:=Option.some.inj H
   go_wp2
   repeat (go_quiet (fail);try go_wp2)
   go_ret
   exact ⟨rt_,d0_⟩
def spec_tiLow.f (k:Nat) (a0:Int) (a1:Int):Option (Int × Int):=(spec_trCommon.f k a0 a1).bind fun j1p=>(if j1p=0 then (none) else (some (wrap64 (Int.tdiv a0 j1p),wrap64 (Int.tdiv a1 j1p))))
theorem spec_tiLow.calls (k:Nat) (a0:Int) (a1:Int) (r1:Int) (r2:Int) (w:World) (h:spec_tiLow.f k a0 a1=some (r1,r2)) :
  Calls Tryz.prog 63 #[.int .i64 a0,.int .i64 a1] w fun e w'=>e=.returned (.tuple #[.int .i64 r1,.int .i64 r2])∧Drawn0 w w':=by
 have H:=h
 unfold spec_tiLow.f at H
 clear h
 obtain ⟨j1p,A3,H⟩:=bs_ H
 (try dsimp only at H)
 by_cases c4:j1p=0
 ·rw [if_pos c4] at H
  cases H
 ·rw [if_neg c4] at H
  have j5n:=beq_eq_false_iff_ne.mpr c4
  have j5o:=bne_iff_ne.mpr c4
  simp only [Option.some.injEq,Prod.mk.injEq] at H
  obtain ⟨rfl,rfl⟩:=H
  go_enter Tryz.func63,Tryz.ntmps63
  go_wp2_with (first|(go_at_call 81;(with_reducible refine (spec_trCommon.calls k a0 a1 j1p _ A3.out).mono ?_);rintro e w' ⟨rfl,⟨nd,rfl⟩⟩;(try first|exact ⟨rfl,_,World.drewN_drewN _ _ _⟩|exact ⟨rfl,_,Eq.trans (World.drewN_drewN _ _ _) (congrArg (World.drewN _) (Nat.add_assoc _ _ _))⟩)))
  repeat (go_quiet (first|(go_at_call 81;(with_reducible refine (spec_trCommon.calls k a0 a1 j1p _ A3.out).mono ?_);rintro e w' ⟨rfl,⟨nd,rfl⟩⟩;(try first|exact ⟨rfl,_,World.drewN_drewN _ _ _⟩|exact ⟨rfl,_,Eq.trans (World.drewN_drewN _ _ _) (congrArg (World.drewN _) (Nat.add_assoc _ _ _))⟩)));try go_wp2_with (first|(go_at_call 81;(with_reducible refine (spec_trCommon.calls k a0 a1 j1p _ A3.out).mono ?_);rintro e w' ⟨rfl,⟨nd,rfl⟩⟩;(try first|exact ⟨rfl,_,World.drewN_drewN _ _ _⟩|exact ⟨rfl,_,Eq.trans (World.drewN_drewN _ _ _) (congrArg (World.drewN _) (Nat.add_assoc _ _ _))⟩))))
  go_ret2
  exact ⟨rt_,d0_⟩
mutual
def spec_MeanWait.j0:Nat→Int→Int→Int→Bool→Int→Int→Int→List Int→Option (Int × Int × Bool)
 | 0,_,_,_,_,_,_,_,_=>none
 | k+1,x1,x2,x3,x34,jx,jy,jz,j1a=>if x34=true then (some (0,0,false)) else (spec_MeanWait.l0 k x1 x2 x3 0 x2 jx jy jz j1a)
def spec_MeanWait.l0:Nat→Int→Int→Int→Int→Int→Int→Int→Int→List Int→Option (Int × Int × Bool)
 | 0,_,_,_,_,_,_,_,_,_=>none
 | k+1,x1,x2,x3,x11,x12,jx,jy,jz,j1a=>if x12 < x3 then ((spec_buNext.f k jx jy jz j1a x1 x12).bind fun j1q=>(if j1q < 0 then (some (0,0,false)) else ((spec_buTime.f jx jy jz j1a j1q x1).bind fun j3q=>(spec_MeanWait.l0 k x1 x2 x3 (wrap64 (x11+(wrap64 (j3q - x12)))) (wrap64 (x12+1)) jx jy jz j1a)))) else ((spec_tiLow.f k x11 (wrap64 (x3 - x2))).bind fun bt504=>(some (bt504.1,bt504.2,true)))
end
def spec_MeanWait.f (k:Nat) (jb:Int) (jc:Int) (jd:Int) (ja:List Int) (a1:Int) (a2:Int) (a3:Int):Option (Int × Int × Bool):=(spec_buStop.f k jb jc jd ja a1).bind fun j3v=>(if j3v=true then ((spec_buMinute.f a2).bind fun j3w=>(if j3w=true then ((spec_buMinute.f a3).bind fun j3x=>(if j3x=true then (spec_MeanWait.j0 k a1 a2 a3 (decide (a2≥a3)) jb jc jd ja) else (spec_MeanWait.j0 k a1 a2 a3 true jb jc jd ja))) else (spec_MeanWait.j0 k a1 a2 a3 true jb jc jd ja))) else (spec_MeanWait.j0 k a1 a2 a3 true jb jc jd ja))
theorem spec_MeanWait.calls (k:Nat) (jb:Int) (jc:Int) (jd:Int) (jk:Option Addr) (jl:Nat) (ja:List Int) (a1:Int) (a2:Int) (a3:Int) (r1:Int) (r2:Int) (r3:Bool) (w:World) (hr0_3:Kd.C Ki_ w jk ja.length ja) (hc0_3:ja.length≤jl) (h:spec_MeanWait.f k jb jc jd ja a1 a2 a3=some (r1,r2,r3)) :
  Calls Tryz.prog 32 #[.agg #[.int .i64 jb,.int .i64 jc,.int .i64 jd,.slice jk ja.length jl],.int .i64 a1,.int .i64 a2,.int .i64 a3] w fun e w'=>e=.returned (.tuple #[.int .i64 r1,.int .i64 r2,.bool r3])∧Below w.heap.size w w':=by
 have hu26:=Tryz.underlying26
 have jm:=ai_ hr0_3
 have jn:=ai_ hc0_3
 clear hr0_3 hc0_3
 have HB:=ai_ (Below.refl w.heap.size w)
 have H:=h
 unfold spec_MeanWait.f at H
 clear h
 have HC5:=ai_ H
 clear H
 go_enter Tryz.func32,Tryz.ntmps32
 go_upto_region 1 with (first|((with_reducible refine gate_dst (N:=4) rfl ?_);refine bxe_ #[.int .i64 jb,.int .i64 jc,.int .i64 jd,.slice jk ja.length jl] 26 ?_;intro j3s hg w6 hbox hb;have jf:=ai_ (hbox);have j5s:=ai_ (gb_ hg (below_size (below_to HB)));have jj:=ai_ (gb_ hg (below_size (below_to HB)));replace HB:=ai_ (below_step (below_to HB) hb);clear hb hbox hg))
 (try simp only [Act.put,List.setIfInBounds_toArray,List.set_cons_zero,List.set_cons_succ])
 go_cut [34] (fun v34 wc => ∃ (kq:Nat) (j2j:Bool),v34=.bool j2j∧Aside0 (spec_MeanWait.j0 kq a1 a2 a3 j2j jb jc jd ja=some (r1,r2,r3))∧Aside0 (kq≤k)∧Aside0 (wc.heap[j3s]?=some (.cells #[.int .i64 jb,.int .i64 jc,.int .i64 jd,(.slice jk ja.length jl)] 26 (0,0)))∧Aside0 (Below w.heap.size w wc))
 case first =>
  have H:=HC5.out
  clear HC5
  obtain ⟨j3v,A7,H⟩:=bs_ H
  (try dsimp only at H)
  by_cases c8:j3v=true
  rotate_left
  ·replace c8:=Bool.eq_false_iff.mpr c8
   subst c8
   rw [if_neg ft_] at H
   have H':=ai_ H
   clear H
   obtain ⟨j2k,j2l,j2m,j2n,j2o,j2p,j2q,j2r⟩:=blk4_ jf
   go_wp2_with (first|((with_reducible refine gate_callee (f:=46) rfl ?_);refine gl_ (some 18) Tryz.func46 #[.agg #[.int .i64 jb,.int .i64 jc,.int .i64 jd,.slice jk ja.length jl],.int .i64 a1] ?_;(with_reducible refine (spec_buStop.calls k jb jc jd _ _ ja a1 false _ ?side1 jn.out A7.out).mono ?_);(case side1=>exact cb_ jm HB);rintro e w20 ⟨rfl,hb⟩;refine ⟨_,rfl,?_⟩;replace jf:=bb_ jf hb;replace HB:=ai_ (below_step (below_to1 HB jj.out) hb);clear hb))
   go_meet
   case rel=>exact ⟨_,(true),rt_,H',⟨by first|omega|exact Nat.le_refl _⟩,⟨blk_to jf⟩,⟨below_to1 HB jj.out⟩⟩
  subst c8
  rw [if_pos rfl] at H
  obtain ⟨j3w,A9,H⟩:=bs_ H
  (try dsimp only at H)
  by_cases c10:j3w=true
  rotate_left
  ·replace c10:=Bool.eq_false_iff.mpr c10
   subst c10
   rw [if_neg ft_] at H
   have H':=ai_ H
   clear H
   obtain ⟨j2s,j2t,j2u,j2v,j2w,j2x,j2y,j2z⟩:=blk4_ jf
   go_wp2_with (first|((with_reducible refine gate_callee (f:=46) rfl ?_);refine gl_ (some 18) Tryz.func46 #[.agg #[.int .i64 jb,.int .i64 jc,.int .i64 jd,.slice jk ja.length jl],.int .i64 a1] ?_;(with_reducible refine (spec_buStop.calls k jb jc jd _ _ ja a1 true _ ?side1 jn.out A7.out).mono ?_);(case side1=>exact cb_ jm HB);rintro e w18 ⟨rfl,hb⟩;refine ⟨_,rfl,?_⟩;replace jf:=bb_ jf hb;replace HB:=ai_ (below_step (below_to1 HB jj.out) hb);clear hb)|(go_at_call 47;(with_reducible refine (spec_buMinute.calls a2 false _ A9.out).mono ?_);rintro e w' ⟨rfl,⟨nd,rfl⟩⟩))
   go_meet
   case rel=>exact ⟨_,(true),rt_,H',⟨by first|omega|exact Nat.le_refl _⟩,⟨blk_to jf⟩,⟨below_to1 HB jj.out⟩⟩
  subst c10
  rw [if_pos rfl] at H
  obtain ⟨j3x,A11,H⟩:=bs_ H
  (try dsimp only at H)
  by_cases c12:j3x=true
  ·subst c12
   rw [if_pos rfl] at H
   have H':=ai_ H
   clear H
   obtain ⟨jp,jq,jr,js,jt,ju,jv,jw⟩:=blk4_ jf
   go_wp2_with (first|((with_reducible refine gate_callee (f:=46) rfl ?_);refine gl_ (some 18) Tryz.func46 #[.agg #[.int .i64 jb,.int .i64 jc,.int .i64 jd,.slice jk ja.length jl],.int .i64 a1] ?_;(with_reducible refine (spec_buStop.calls k jb jc jd _ _ ja a1 true _ ?side1 jn.out A7.out).mono ?_);(case side1=>exact cb_ jm HB);rintro e w14 ⟨rfl,hb⟩;refine ⟨_,rfl,?_⟩;replace jf:=bb_ jf hb;replace HB:=ai_ (below_step (below_to1 HB jj.out) hb);clear hb)|(go_at_call 47;(with_reducible refine (spec_buMinute.calls a2 true _ A9.out).mono ?_);rintro e w' ⟨rfl,⟨nd,rfl⟩⟩)|(go_at_call 47;(with_reducible refine (spec_buMinute.calls a3 true _ A11.out).mono ?_);rintro e w' ⟨rfl,⟨nd,rfl⟩⟩))
   go_meet
   case rel=>exact ⟨_,(decide (a2≥a3)),rt_,H',⟨by first|omega|exact Nat.le_refl _⟩,⟨blk_to jf⟩,⟨below_to1 HB jj.out⟩⟩
  ·replace c12:=Bool.eq_false_iff.mpr c12
   subst c12
   rw [if_neg ft_] at H
   have H':=ai_ H
   clear H
   obtain ⟨j3a,j3b,j3c,j3d,j3e,j3f,j3g,j3h⟩:=blk4_ jf
   go_wp2_with (first|((with_reducible refine gate_callee (f:=46) rfl ?_);refine gl_ (some 18) Tryz.func46 #[.agg #[.int .i64 jb,.int .i64 jc,.int .i64 jd,.slice jk ja.length jl],.int .i64 a1] ?_;(with_reducible refine (spec_buStop.calls k jb jc jd _ _ ja a1 true _ ?side1 jn.out A7.out).mono ?_);(case side1=>exact cb_ jm HB);rintro e w16 ⟨rfl,hb⟩;refine ⟨_,rfl,?_⟩;replace jf:=bb_ jf hb;replace HB:=ai_ (below_step (below_to1 HB jj.out) hb);clear hb)|(go_at_call 47;(with_reducible refine (spec_buMinute.calls a2 true _ A9.out).mono ?_);rintro e w' ⟨rfl,⟨nd,rfl⟩⟩)|(go_at_call 47;(with_reducible refine (spec_buMinute.calls a3 false _ A11.out).mono ?_);rintro e w' ⟨rfl,⟨nd,rfl⟩⟩))
   go_meet
   case rel=>exact ⟨_,(true),rt_,H',⟨by first|omega|exact Nat.le_refl _⟩,⟨blk_to jf⟩,⟨below_to1 HB jj.out⟩⟩
 clear HC5
 try clear c1
 try clear p2
 try clear c3
 try clear c4
 try clear c8
 try clear c10
 try clear c12
 try clear jp
 try clear jq
 try clear jr
 try clear js
 try clear j3a
 try clear j3b
 try clear j3c
 try clear j3d
 try clear j2s
 try clear j2t
 try clear j2u
 try clear j2v
 try clear j2k
 try clear j2l
 try clear j2m
 try clear j2n
 try clear jt
 try clear ju
 try clear jv
 try clear jw
 try clear j3e
 try clear j3f
 try clear j3g
 try clear j3h
 try clear j2w
 try clear j2x
 try clear j2y
 try clear j2z
 try clear j2o
 try clear j2p
 try clear j2q
 try clear j2r
 obtain ⟨kq,j2j,rfl,HA,HJ4,jf,HB⟩:=hcut
 cases kq with
 | zero=>exact absurd HA.out (by simp [spec_MeanWait.j0])
 | succ kj4 =>
  have H:=HA.out
  clear HA
  simp only [spec_MeanWait.j0] at H
  by_cases c21:j2j=true
  ·subst c21
   rw [if_pos rfl] at H
   simp only [Option.some.injEq,Prod.mk.injEq] at H
   obtain ⟨rfl,rfl,rfl⟩:=H
   go_wp2
   go_ret3
   exact ⟨rtE_,below_to1 HB jj.out⟩
  replace c21:=Bool.eq_false_iff.mpr c21
  subst c21
  rw [if_neg ft_] at H
  have H':=ai_ H
  clear H
  go_wp2
  go_loopg [11,12] kj4 (fun kq v11 v12 w' => ∃ (jo:Int) (ji:Int),v11=.int .i64 jo∧v12=.int .i64 ji∧Aside0 (spec_MeanWait.l0 kq a1 a2 a3 jo ji jb jc jd ja=some (r1,r2,r3))∧Aside0 (kq≤kj4)∧Aside0 (w'.heap[j3s]?=some (.cells #[.int .i64 jb,.int .i64 jc,.int .i64 jd,(.slice jk ja.length jl)] 26 (0,0)))∧Aside0 (Below w.heap.size w w'))
  case atStart=>exact ⟨(0),(a2),rt_,rt_,H',⟨Nat.le_refl _⟩,⟨blk_to jf⟩,⟨below_to1 HB jj.out⟩⟩
  clear H'
  try clear c1
  try clear c2
  try clear p2
  try clear c3
  try clear c4
  try clear c8
  try clear c10
  try clear c12
  try clear c21
  try clear jp
  try clear jq
  try clear jr
  try clear js
  try clear j3a
  try clear j3b
  try clear j3c
  try clear j3d
  try clear j2s
  try clear j2t
  try clear j2u
  try clear j2v
  try clear j2k
  try clear j2l
  try clear j2m
  try clear j2n
  try clear jt
  try clear ju
  try clear jv
  try clear jw
  try clear j3e
  try clear j3f
  try clear j3g
  try clear j3h
  try clear j2w
  try clear j2x
  try clear j2y
  try clear j2z
  try clear j2o
  try clear j2p
  try clear j2q
  try clear j2r
  try clear p2
  obtain ⟨jo,ji,rfl,rfl,HA,HK2,jf,HB⟩:=hrel
  cases gk with
  | zero=>exact absurd HA.out (by simp [spec_MeanWait.l0])
  | succ k2 =>
   have H:=HA.out
   clear HA
   simp only [spec_MeanWait.l0] at H
   by_cases c22:ji < a3
   rotate_left
   ·rw [if_neg c22] at H
    have j4a:=decide_eq_false c22
    clear c22
    obtain ⟨⟨j5p,j5q⟩,A32,H⟩:=bs_ H
    (try dsimp only at H)
    simp only [Option.some.injEq,Prod.mk.injEq] at H
    obtain ⟨rfl,rfl,rfl⟩:=H
    go_wp2_with (first|((with_reducible refine gate_callee (f:=63) rfl ?_);refine gl_ (some 60) Tryz.func63 #[.int .i64 jo,.int .i64 (wrap64 (a3 - a2))] ?_;(with_reducible refine (spec_tiLow.calls k2 jo (wrap64 (a3 - a2)) j5p j5q _ A32.out).mono ?_);rintro e w' ⟨rfl,⟨nd,rfl⟩⟩;refine ⟨_,rfl,?_⟩))
    go_ret3
    exact ⟨rtE_,below_to1 HB jj.out⟩
   rw [if_pos c22] at H
   have j4a:=decide_eq_true c22
   clear c22
   obtain ⟨j1q,A23,H⟩:=bs_ H
   (try dsimp only at H)
   by_cases c24:j1q < 0
   ·rw [if_pos c24] at H
    have j4b:=decide_eq_true c24
    clear c24
    simp only [Option.some.injEq,Prod.mk.injEq] at H
    obtain ⟨rfl,rfl,rfl⟩:=H
    obtain ⟨j4s,j4t,j4u,j4v,j4w,j4x,j4y,j4z⟩:=blk4_ jf
    go_wp2_with (first|((with_reducible refine gate_callee (f:=48) rfl ?_);refine gl_ (some 44) Tryz.func48 #[.agg #[.int .i64 jb,.int .i64 jc,.int .i64 jd,.slice jk ja.length jl],.int .i64 a1,.int .i64 ji] ?_;(with_reducible refine (spec_buNext.calls k2 jb jc jd _ _ ja a1 ji j1q _ ?side1 jn.out A23.out).mono ?_);(case side1=>exact cb_ jm HB);rintro e w26 ⟨rfl,hb⟩;refine ⟨_,rfl,?_⟩;replace jf:=bb_ jf hb;replace HB:=ai_ (below_step (below_to1 HB jj.out) hb);clear hb))
    go_ret3
    exact ⟨rtE_,below_to1 HB jj.out⟩
   ·rw [if_neg c24] at H
    have j4b:=decide_eq_false c24
    clear c24
    obtain ⟨j3q,A27,H⟩:=bs_ H
    (try dsimp only at H)
    have H':=ai_ H
    clear H
    obtain ⟨j1h,j1i,j1j,j1k,j1l,j1m,j1n,j1o⟩:=blk4_ jf
    go_wp2_with (first|((with_reducible refine gate_callee (f:=48) rfl ?_);refine gl_ (some 44) Tryz.func48 #[.agg #[.int .i64 jb,.int .i64 jc,.int .i64 jd,.slice jk ja.length jl],.int .i64 a1,.int .i64 ji] ?_;(with_reducible refine (spec_buNext.calls k2 jb jc jd _ _ ja a1 ji j1q _ ?side1 jn.out A23.out).mono ?_);(case side1=>exact cb_ jm HB);rintro e w29 ⟨rfl,hb⟩;refine ⟨_,rfl,?_⟩;replace jf:=bb_ jf hb;replace HB:=ai_ (below_step (below_to1 HB jj.out) hb);clear hb;obtain ⟨j5a,j5b,j5c,j5d,j5e,j5f,j5g,j5h⟩:=blk4_ jf)|((with_reducible refine gate_callee (f:=49) rfl ?_);refine gl_ (some 51) Tryz.func49 #[.agg #[.int .i64 jb,.int .i64 jc,.int .i64 jd,.slice jk ja.length jl],.int .i64 j1q,.int .i64 a1] ?_;(with_reducible refine (spec_buTime.calls jb jc jd _ _ ja j1q a1 j3q _ ?side1 jn.out A27.out).mono ?_);(case side1=>exact cb_ jm HB);rintro e w31 ⟨rfl,hb⟩;refine ⟨_,rfl,?_⟩;replace jf:=bb_ jf hb;replace HB:=ai_ (below_step (below_to1 HB jj.out) hb);clear hb))
    go_roundg k2
    case measure=>have:=HJ4.out;have:=HK2.out;omega
    case rel=>exact ⟨(wrap64 (jo+(wrap64 (j3q - ji)))),(wrap64 (ji+1)),rt_,rt_,H',⟨by have:=HJ4.out;have:=HK2.out;omega⟩,⟨blk_to jf⟩,⟨below_to1 HB jj.out⟩⟩
end Go.Proofs.YthdnodmidbcgpaaGreatDoor.QR
