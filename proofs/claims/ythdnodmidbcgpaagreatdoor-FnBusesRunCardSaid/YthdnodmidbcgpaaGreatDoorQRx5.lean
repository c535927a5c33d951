import Derived.Test.YthdnodmidbcgpaaGreatDoorQRx4
namespace Go.Proofs.YthdnodmidbcgpaaGreatDoor.QR
open Go.Proofs.YthdnodmidbcgpaaGreatDoor.X Go.RowKit Go.Proofs.YthdnodmidbcgpaaGreatDoorW.PrintWords Go.Proofs.YthdnodmidbcgpaaGreatDoorW.PrintLast Go.Proofs.YthdnodmidbcgpaaGreatDoorW.PrintMore
set_option maxHeartbeats 8000000
set_option maxRecDepth 100000
attribute [local go_sem] max2_int min2_int max_two min_two max_three min_three max_four min_four
set_option linter.unusedVariables false
set_option linter.unusedSimpArgs false
def impl_WaitFor.j0:Nat→Int→Int→Bool→Int→Int→Int→List Int→Option (Int × Bool)
 | 0,_,_,_,_,_,_,_=>none
 | k+1,x1,x2,x20,j1x,j1y,j1z,j2a=>if x20=true then (some (0,false)) else ((impl_nextBus.f j1x j1y j1z j2a x1 x2).bind fun bt273=>(if bt273.2.2=true then (some (wrap64 (bt273.2.1 - x2),true)) else (some (0,false))))
def impl_WaitFor.f (k:Nat) (jd:Int) (je:Int) (jc:Int) (jb:List Int) (a1:Int) (a2:Int):Option (Int × Bool):=(impl_hasStops.f k jd je jc jb (([a1]:List Int))).bind fun j1l=>(if j1l=true then ((impl_isMinute.f a2).bind fun j1k=>(impl_WaitFor.j0 k a1 a2 (!j1k) jd je jc jb)) else (impl_WaitFor.j0 k a1 a2 true jd je jc jb))
theorem impl_WaitFor.calls (k:Nat) (jd:Int) (je:Int) (jc:Int) (jf:Option Addr) (jg:Nat) (jb:List Int) (a1:Int) (a2:Int) (r1:Int) (r2:Bool) (w:World) (hr0_3:Kd.C Ki_ w jf jb.length jb) (hc0_3:jb.length≤jg) (h:impl_WaitFor.f k jd je jc jb a1 a2=some (r1,r2)) :
  Calls Tryz.prog 8 #[.agg #[.int .i64 jd,.int .i64 je,.int .i64 jc,.slice jf jb.length jg],.int .i64 a1,.int .i64 a2] w fun e w'=>e=.returned (.tuple #[.int .i64 r1,.bool r2])∧Below w.heap.size w w':=by
 have hu26:=Tryz.underlying26
 have jl:=ai_ hr0_3
 have jm:=ai_ hc0_3
 clear hr0_3 hc0_3
 have HB:=ai_ (Below.refl w.heap.size w)
 have H:=h
 unfold impl_WaitFor.f at H
 clear h
 have HC4:=ai_ H
 clear H
 go_enter Tryz.func8,Tryz.ntmps8
 go_upto_region 1 with (first|((with_reducible refine gate_dst (N:=3) rfl ?_);refine bxe_ #[.int .i64 jd,.int .i64 je,.int .i64 jc,.slice jf jb.length jg] 26 ?_;intro j3c hg w5 hbox hb;have jh:=ai_ (hbox);have j4p:=ai_ (gb_ hg (below_size (below_to HB)));have jn:=ai_ (gb_ hg (below_size (below_to HB)));replace HB:=ai_ (below_step (below_to HB) hb);clear hb hbox hg))
 (try simp only [Act.put,List.setIfInBounds_toArray,List.set_cons_zero,List.set_cons_succ])
 go_cut [20] (fun v20 wc => ∃ (kq:Nat) (j1h:Bool),v20=.bool j1h∧Aside0 (impl_WaitFor.j0 kq a1 a2 j1h jd je jc jb=some (r1,r2))∧Aside0 (kq≤k)∧Aside0 (wc.heap[j3c]?=some (.cells #[.int .i64 jd,.int .i64 je,.int .i64 jc,(.slice jf jb.length jg)] 26 (0,0)))∧Aside0 (Below w.heap.size w wc))
 case first =>
  have H:=HC4.out
  clear HC4
  obtain ⟨j1m,hy268⟩:∃ y_:List Int,y_=(([a1]:List Int)):=⟨_,rfl⟩
  replace H:((impl_hasStops.f k jd je jc jb j1m).bind fun j1l=>(if j1l=true then ((impl_isMinute.f a2).bind fun j1k=>(impl_WaitFor.j0 k a1 a2 (!j1k) jd je jc jb)) else (impl_WaitFor.j0 k a1 a2 true jd je jc jb)))=some (r1,r2):=by first|(rw [hy268];with_reducible exact H)|(have H2_:=(Option.bind_some _ _).symm.trans H;rw [hy268];with_reducible exact H2_)|(have H2_:=(Option.bind_some _ _).symm.trans H;with_reducible exact H2_)|with_reducible exact H|(rw [hy268];exact H)|exact H
  have j1i:=ai_ hy268
  clear hy268
  obtain ⟨j1l,A6,H⟩:=bs_ H
  (try dsimp only at H)
  by_cases c7:j1l=true
  rotate_left
  ·replace c7:=Bool.eq_false_iff.mpr c7
   subst c7
   rw [if_neg ft_] at H
   have H':=ai_ H
   clear H
   obtain ⟨j2b,j2c,j2d,j2e,j2f,j2g,j2h,j2i⟩:=blk4_ jh
   go_wp2_with (first|((with_reducible refine gate_dst (N:=13) rfl ?_);refine Kd.R_lit Ki_ _ 3 ?hg (N:=13) ?hd (xs:=([a1]:List Int)) (inner:=[.int .i64 a1]) (ok:=fun _=>True) (okp:=fun _=>True) ?hr ?hp (fun _ hk=>hk) trivial (Below.refl _ _) (Nat.le_refl _) (by simp) ?_;(case hd=>rfl);(case hg=>rfl);(case hr=>first|(go_simp;done)|(go_simp;rfl));(case hp=>exact (Reps.one (show Kd.M Ki_ _ _ _ a1 [.int .i64 a1] from rfl) (Reps.none _ _)));intro j4e w15 j1n hb hg_ hnew_;clear hg_ hnew_;(first|rw [← j1i.out] at j1n|(simp only [Int.reduceToNat] at j1n;rw [← j1i.out] at j1n));have jq:=ai_ (Kd.R_lower j1n (below_size (below_to1 HB jn.out)));replace jh:=bb_ jh hb;replace HB:=ai_ (below_step (below_to1 HB jn.out) hb);clear hb j1n;obtain ⟨Ao17,co17,eo17⟩:=Kd.R_slice jq.out;subst eo17)|((with_reducible refine gate_callee (f:=43) rfl ?_);refine gl_ (some 14) Tryz.func43 #[.agg #[.int .i64 jd,.int .i64 je,.int .i64 jc,.slice jf jb.length jg],.slice Ao17 j1m.length co17] ?_;(with_reducible refine (impl_hasStops.calls k jd je jc _ _ jb _ _ j1m false _ ?side1 jm.out ?side3 ?side4 A6.out).mono ?_);(case side1=>exact cb_ jl HB);(case side3=>exact cR_ jq);(case side4=>exact (Kd.R_reads' jq.out).2.1);rintro e w18 ⟨rfl,hb⟩;refine ⟨_,rfl,?_⟩;replace jq:=rb_ jq hb;replace jh:=bb_ jh hb;replace HB:=ai_ (below_step (below_to1 HB jn.out) hb);clear hb))
   go_meet
   case rel=>exact ⟨_,(true),rt_,H',⟨by first|omega|exact Nat.le_refl _⟩,⟨blk_to jh⟩,⟨below_to1 HB jn.out⟩⟩
  subst c7
  rw [if_pos rfl] at H
  obtain ⟨j1k,A8,H⟩:=bs_ H
  (try dsimp only at H)
  have H':=ai_ H
  clear H
  obtain ⟨j2s,j2t,j2u,j2v,j2w,j2x,j2y,j2z⟩:=blk4_ jh
  go_wp2_with (first|((with_reducible refine gate_dst (N:=13) rfl ?_);refine Kd.R_lit Ki_ _ 3 ?hg (N:=13) ?hd (xs:=([a1]:List Int)) (inner:=[.int .i64 a1]) (ok:=fun _=>True) (okp:=fun _=>True) ?hr ?hp (fun _ hk=>hk) trivial (Below.refl _ _) (Nat.le_refl _) (by simp) ?_;(case hd=>rfl);(case hg=>rfl);(case hr=>first|(go_simp;done)|(go_simp;rfl));(case hp=>exact (Reps.one (show Kd.M Ki_ _ _ _ a1 [.int .i64 a1] from rfl) (Reps.none _ _)));intro j4e w10 j1o hb hg_ hnew_;clear hg_ hnew_;(first|rw [← j1i.out] at j1o|(simp only [Int.reduceToNat] at j1o;rw [← j1i.out] at j1o));have jq:=ai_ (Kd.R_lower j1o (below_size (below_to1 HB jn.out)));replace jh:=bb_ jh hb;replace HB:=ai_ (below_step (below_to1 HB jn.out) hb);clear hb j1o;obtain ⟨Ao12,co12,eo12⟩:=Kd.R_slice jq.out;subst eo12)|((with_reducible refine gate_callee (f:=43) rfl ?_);refine gl_ (some 14) Tryz.func43 #[.agg #[.int .i64 jd,.int .i64 je,.int .i64 jc,.slice jf jb.length jg],.slice Ao12 j1m.length co12] ?_;(with_reducible refine (impl_hasStops.calls k jd je jc _ _ jb _ _ j1m true _ ?side1 jm.out ?side3 ?side4 A6.out).mono ?_);(case side1=>exact cb_ jl HB);(case side3=>exact cR_ jq);(case side4=>exact (Kd.R_reads' jq.out).2.1);rintro e w13 ⟨rfl,hb⟩;refine ⟨_,rfl,?_⟩;replace jq:=rb_ jq hb;replace jh:=bb_ jh hb;replace HB:=ai_ (below_step (below_to1 HB jn.out) hb);clear hb)|(go_at_call 44;(with_reducible refine (impl_isMinute.calls a2 j1k _ A8.out).mono ?_);rintro e w' ⟨rfl,⟨nd,rfl⟩⟩))
  go_meet
  case rel=>exact ⟨_,(!j1k),rt_,H',⟨by first|omega|exact Nat.le_refl _⟩,⟨blk_to jh⟩,⟨below_to1 HB jn.out⟩⟩
 clear HC4
 try clear p2
 try clear c4
 try clear c7
 try clear c8
 try clear j2b
 try clear j2c
 try clear j2d
 try clear j2e
 try clear j2s
 try clear j2t
 try clear j2u
 try clear j2v
 try clear j2f
 try clear j2g
 try clear j2h
 try clear j2i
 try clear j2w
 try clear j2x
 try clear j2y
 try clear j2z
 obtain ⟨kq,j1h,rfl,HA,HJ3,jh,HB⟩:=hcut
 cases kq with
 | zero=>exact absurd HA.out (by simp [impl_WaitFor.j0])
 | succ kj3 =>
  have H:=HA.out
  clear HA
  simp only [impl_WaitFor.j0] at H
  by_cases c19:j1h=true
  ·subst c19
   rw [if_pos rfl] at H
   simp only [Option.some.injEq,Prod.mk.injEq] at H
   obtain ⟨rfl,rfl⟩:=H
   go_wp2
   go_ret2
   exact ⟨rtE_,below_to1 HB jn.out⟩
  replace c19:=Bool.eq_false_iff.mpr c19
  subst c19
  rw [if_neg ft_] at H
  obtain ⟨⟨j3d,j3e,j4f⟩,A20,H⟩:=bs_ H
  (try dsimp only at H)
  by_cases c21:j4f=true
  ·subst c21
   rw [if_pos rfl] at H
   simp only [Option.some.injEq,Prod.mk.injEq] at H
   obtain ⟨rfl,rfl⟩:=H
   obtain ⟨j3o,j3p,j3q,j3r,j3s,j3t,j3u,j3v⟩:=blk4_ jh
   go_wp2_with (first|((with_reducible refine gate_callee (f:=45) rfl ?_);refine gl_ (some 25) Tryz.func45 #[.agg #[.int .i64 jd,.int .i64 je,.int .i64 jc,.slice jf jb.length jg],.int .i64 a1,.int .i64 a2] ?_;(with_reducible refine (impl_nextBus.calls jd je jc _ _ jb a1 a2 j3d j3e true _ ?side1 jm.out A20.out).mono ?_);(case side1=>exact cb_ jl HB);rintro e w23 ⟨rfl,hb⟩;refine ⟨_,rfl,?_⟩;replace jh:=bb_ jh hb;replace HB:=ai_ (below_step (below_to1 HB jn.out) hb);clear hb))
   go_ret2
   exact ⟨rtE_,below_to1 HB jn.out⟩
  ·replace c21:=Bool.eq_false_iff.mpr c21
   subst c21
   rw [if_neg ft_] at H
   simp only [Option.some.injEq,Prod.mk.injEq] at H
   obtain ⟨rfl,rfl⟩:=H
   obtain ⟨j3w,j3x,j3y,j3z,j4a,j4b,j4c,j4d⟩:=blk4_ jh
   go_wp2_with (first|((with_reducible refine gate_callee (f:=45) rfl ?_);refine gl_ (some 25) Tryz.func45 #[.agg #[.int .i64 jd,.int .i64 je,.int .i64 jc,.slice jf jb.length jg],.int .i64 a1,.int .i64 a2] ?_;(with_reducible refine (impl_nextBus.calls jd je jc _ _ jb a1 a2 j3d j3e false _ ?side1 jm.out A20.out).mono ?_);(case side1=>exact cb_ jl HB);rintro e w25 ⟨rfl,hb⟩;refine ⟨_,rfl,?_⟩;replace jh:=bb_ jh hb;replace HB:=ai_ (below_step (below_to1 HB jn.out) hb);clear hb))
   go_ret2
   exact ⟨rtE_,below_to1 HB jn.out⟩
def spec_WaitFor.f (k:Nat) (jd:Int) (je:Int) (jc:Int) (jb:List Int) (a1:Int) (a2:Int):Option (Int × Bool):=(spec_NextBus.f k jd je jc jb a1 a2).bind fun bt277=>(if bt277.2.2=true then (some (wrap64 (bt277.2.1 - a2),true)) else (some (0,false)))
theorem spec_WaitFor.calls (k:Nat) (jd:Int) (je:Int) (jc:Int) (jf:Option Addr) (jg:Nat) (jb:List Int) (a1:Int) (a2:Int) (r1:Int) (r2:Bool) (w:World) (hr0_3:Kd.C Ki_ w jf jb.length jb) (hc0_3:jb.length≤jg) (h:spec_WaitFor.f k jd je jc jb a1 a2=some (r1,r2)) :
  Calls Tryz.prog 9 #[.agg #[.int .i64 jd,.int .i64 je,.int .i64 jc,.slice jf jb.length jg],.int .i64 a1,.int .i64 a2] w fun e w'=>e=.returned (.tuple #[.int .i64 r1,.bool r2])∧Below w.heap.size w w':=by
 have hu26:=Tryz.underlying26
 have jl:=ai_ hr0_3
 have jm:=ai_ hc0_3
 clear hr0_3 hc0_3
 have HB:=ai_ (Below.refl w.heap.size w)
 have H:=h
 unfold spec_WaitFor.f at H
 clear h
 obtain ⟨⟨j3f,j3g,j4g⟩,A4,H⟩:=bs_ H
 (try dsimp only at H)
 by_cases c5:j4g=true
 ·subst c5
  rw [if_pos rfl] at H
  simp only [Option.some.injEq,Prod.mk.injEq] at H
  obtain ⟨rfl,rfl⟩:=H
  go_enter Tryz.func9,Tryz.ntmps9
  go_wp2_with (first|((with_reducible refine gate_dst (N:=3) rfl ?_);refine bxe_ #[.int .i64 jd,.int .i64 je,.int .i64 jc,.slice jf jb.length jg] 26 ?_;intro j3h hg w6 hbox hb;have ju:=ai_ (hbox);have j3i:=ai_ (gb_ hg (below_size (below_to HB)));have j1d:=ai_ (gb_ hg (below_size (below_to HB)));replace HB:=ai_ (below_step (below_to HB) hb);clear hb hbox hg;obtain ⟨j4h,j4i,j4j,j4k,j4l,j4m,j4n,j4o⟩:=blk4_ ju)|((with_reducible refine gate_callee (f:=7) rfl ?_);refine gl_ (some 15) Tryz.func7 #[.agg #[.int .i64 jd,.int .i64 je,.int .i64 jc,.slice jf jb.length jg],.int .i64 a1,.int .i64 a2] ?_;(with_reducible refine (spec_NextBus.calls k jd je jc _ _ jb a1 a2 j3f j3g true _ ?side1 jm.out A4.out).mono ?_);(case side1=>exact cb_ jl HB);rintro e w8 ⟨rfl,hb⟩;refine ⟨_,rfl,?_⟩;replace ju:=bb_ ju hb;replace HB:=ai_ (below_step (below_to1 HB j1d.out) hb);clear hb))
  go_ret2
  exact ⟨rtE_,below_to1 HB j1d.out⟩
 ·replace c5:=Bool.eq_false_iff.mpr c5
  subst c5
  rw [if_neg ft_] at H
  simp only [Option.some.injEq,Prod.mk.injEq] at H
  obtain ⟨rfl,rfl⟩:=H
  go_enter Tryz.func9,Tryz.ntmps9
  go_wp2_with (first|((with_reducible refine gate_dst (N:=3) rfl ?_);refine bxe_ #[.int .i64 jd,.int .i64 je,.int .i64 jc,.slice jf jb.length jg] 26 ?_;intro j3h hg w9 hbox hb;have ju:=ai_ (hbox);have j3i:=ai_ (gb_ hg (below_size (below_to HB)));have j1d:=ai_ (gb_ hg (below_size (below_to HB)));replace HB:=ai_ (below_step (below_to HB) hb);clear hb hbox hg;obtain ⟨jv,jw,jx,jy,jz,j1a,j1b,j1c⟩:=blk4_ ju)|((with_reducible refine gate_callee (f:=7) rfl ?_);refine gl_ (some 15) Tryz.func7 #[.agg #[.int .i64 jd,.int .i64 je,.int .i64 jc,.slice jf jb.length jg],.int .i64 a1,.int .i64 a2] ?_;(with_reducible refine (spec_NextBus.calls k jd je jc _ _ jb a1 a2 j3f j3g false _ ?side1 jm.out A4.out).mono ?_);(case side1=>exact cb_ jl HB);rintro e w11 ⟨rfl,hb⟩;refine ⟨_,rfl,?_⟩;replace ju:=bb_ ju hb;replace HB:=ai_ (below_step (below_to1 HB j1d.out) hb);clear hb))
  go_ret2
  exact ⟨rtE_,below_to1 HB j1d.out⟩
mutual
def impl_BusesOnWay.j0:Nat→Int→Bool→Int→Int→Int→List Int→Option (List Int × Bool)
 | 0,_,_,_,_,_,_=>none
 | k+1,x1,x15,js,jt,jo,jp=>if x15=true then (some (([]:List Int),false)) else (impl_BusesOnWay.l0 k x1 ([]:List Int) jo 0 js jt jo jp)
def impl_BusesOnWay.l0:Nat→Int→List Int→Int→Int→Int→Int→Int→List Int→Option (List Int × Bool)
 | 0,_,_,_,_,_,_,_,_=>none
 | k+1,x1,x6,x17,x18,js,jt,jo,jp=>if x18 < x17 then ((impl_timeAt.f js jt jo jp x18 0).bind fun j1e=>((impl_timeAt.f js jt jo jp x18 (wrap64 ((jp.length:Int) - 1))).bind fun j1f=>((impl_within.f x1 j1e j1f).bind fun j3a=>(if j3a=true then (if x6.length < 17592186044416 then (impl_BusesOnWay.l0 k x1 (x6 ++ [x18]) x17 (wrap64 (x18+1)) js jt jo jp) else (none)) else (impl_BusesOnWay.l0 k x1 x6 x17 (wrap64 (x18+1)) js jt jo jp))))) else (some (x6,true))
end
def impl_BusesOnWay.f (k:Nat) (jd:Int) (je:Int) (jc:Int) (jb:List Int) (a1:Int):Option (List Int × Bool):=(impl_hasStops.f k jd je jc jb ([]:List Int)).bind fun j3b=>(if j3b=true then ((impl_isMinute.f a1).bind fun j2j=>(impl_BusesOnWay.j0 k a1 (!j2j) jd je jc jb)) else (impl_BusesOnWay.j0 k a1 true jd je jc jb))
def impl_BusesOnWay.T7:Bool × List (List Nat × List Nat):=(true,[([],[]),([],[]),([],[]),([1,2],[1,2]),([],[]),([],[]),([],[]),([6],[6]),([7],[7]),([8],[8]),([4,5,9,3],[4,5,9]),([0,3,10,10],[0,3,10])])
def impl_BusesOnWay.B7:List Nat:=[0,0,0,6,0,0,0,64,192,448,1022,2047]
theorem impl_BusesOnWay.tab7:rtab .any (opsOf Tryz.f10 7)=impl_BusesOnWay.T7:=by kernel_rfl
theorem impl_BusesOnWay.bits7:waitsOk impl_BusesOnWay.T7.2 impl_BusesOnWay.B7=true:=by kernel_rfl
theorem impl_BusesOnWay.calls (k:Nat) (jd:Int) (je:Int) (jc:Int) (jf:Option Addr) (jg:Nat) (jb:List Int) (a1:Int) (r1:List Int) (r2:Bool) (w:World) (hr0_3:Kd.C Ki_ w jf jb.length jb) (hc0_3:jb.length≤jg) (h:impl_BusesOnWay.f k jd je jc jb a1=some (r1,r2)) :
  Calls Tryz.prog 10 #[.agg #[.int .i64 jd,.int .i64 je,.int .i64 jc,.slice jf jb.length jg],.int .i64 a1] w fun e w' => ∃ Ab:Value,e=.returned (.tuple #[Ab,.bool r2])∧Kd.R Ki_ 3 w' w.heap.size (fun _=>True) Ab r1∧Below w.heap.size w w':=by
 have hu26:=Tryz.underlying26
 have jl:=ai_ hr0_3
 have jm:=ai_ hc0_3
 clear hr0_3 hc0_3
 have HB:=ai_ (Below.refl w.heap.size w)
 have H:=h
 unfold impl_BusesOnWay.f at H
 clear h
 have HC3:=ai_ H
 clear H
 go_enter Tryz.func10,Tryz.ntmps10
 go_upto_region 1 with (first|((with_reducible refine gate_dst (N:=2) rfl ?_);refine bxe_ #[.int .i64 jd,.int .i64 je,.int .i64 jc,.slice jf jb.length jg] 26 ?_;intro jr hg w4 hbox hb;have ja:=ai_ (hbox);have j4q:=ai_ (gb_ hg (below_size (below_to HB)));have jk:=ai_ (gb_ hg (below_size (below_to HB)));replace HB:=ai_ (below_step (below_to HB) hb);clear hb hbox hg))
 (try simp only [Act.put,List.setIfInBounds_toArray,List.set_cons_zero,List.set_cons_succ])
 go_cut [15] (fun v15 wc => ∃ (kq:Nat) (j1j:Bool),v15=.bool j1j∧Aside0 (impl_BusesOnWay.j0 kq a1 j1j jd je jc jb=some (r1,r2))∧Aside0 (kq≤k)∧Aside0 (wc.heap[jr]?=some (.cells #[.int .i64 jd,.int .i64 je,.int .i64 jc,(.slice jf jb.length jg)] 26 (0,0)))∧Aside0 (Below w.heap.size w wc))
 case first =>
  have H:=HC3.out
  clear HC3
  obtain ⟨j3b,A5,H⟩:=bs_ H
  (try dsimp only at H)
  by_cases c6:j3b=true
  rotate_left
  ·replace c6:=Bool.eq_false_iff.mpr c6
   subst c6
   rw [if_neg ft_] at H
   have H':=ai_ H
   clear H
   obtain ⟨jv,jw,jx,jy,jz,j1a,j1b,j1c⟩:=blk4_ ja
   go_wp2_with (first|((with_reducible refine gate_callee (f:=43) rfl ?_);refine gl_ (some 9) Tryz.func43 #[.agg #[.int .i64 jd,.int .i64 je,.int .i64 jc,.slice jf jb.length jg],.slice none 0 0] ?_;(refine (impl_hasStops.calls k jd je jc _ _ jb _ _ ([]:List Int) false _ ?side1 ?side2 ?side3 ?side4 A5.out).mono ?_);(case side1=>exact cb_ jl HB);(case side2=>exact jm.out);(case side3=>exact Kd.C_nil _ _);(case side4=>exact Nat.le_refl _);rintro e w11 ⟨rfl,hb⟩;refine ⟨_,rfl,?_⟩;replace ja:=bb_ ja hb;replace HB:=ai_ (below_step (below_to1 HB jk.out) hb);clear hb))
   go_meet
   case rel=>exact ⟨_,(true),rt_,H',⟨by first|omega|exact Nat.le_refl _⟩,⟨blk_to ja⟩,⟨below_to1 HB jk.out⟩⟩
  subst c6
  rw [if_pos rfl] at H
  obtain ⟨j2j,A7,H⟩:=bs_ H
  (try dsimp only at H)
  have H':=ai_ H
  clear H
  obtain ⟨j1p,j1q,j1r,j1s,j1t,j1u,j1v,j1w⟩:=blk4_ ja
  go_wp2_with (first|((with_reducible refine gate_callee (f:=43) rfl ?_);refine gl_ (some 9) Tryz.func43 #[.agg #[.int .i64 jd,.int .i64 je,.int .i64 jc,.slice jf jb.length jg],.slice none 0 0] ?_;(refine (impl_hasStops.calls k jd je jc _ _ jb _ _ ([]:List Int) true _ ?side1 ?side2 ?side3 ?side4 A5.out).mono ?_);(case side1=>exact cb_ jl HB);(case side2=>exact jm.out);(case side3=>exact Kd.C_nil _ _);(case side4=>exact Nat.le_refl _);rintro e w9 ⟨rfl,hb⟩;refine ⟨_,rfl,?_⟩;replace ja:=bb_ ja hb;replace HB:=ai_ (below_step (below_to1 HB jk.out) hb);clear hb)|(go_at_call 44;(with_reducible refine (impl_isMinute.calls a1 j2j _ A7.out).mono ?_);rintro e w' ⟨rfl,⟨nd,rfl⟩⟩))
  go_meet
  case rel=>exact ⟨_,(!j2j),rt_,H',⟨by first|omega|exact Nat.le_refl _⟩,⟨blk_to ja⟩,⟨below_to1 HB jk.out⟩⟩
 clear HC3
 try clear c1
 try clear p2
 try clear c4
 try clear c6
 try clear c10
 try clear jv
 try clear jw
 try clear jx
 try clear jy
 try clear j1p
 try clear j1q
 try clear j1r
 try clear j1s
 try clear jz
 try clear j1a
 try clear j1b
 try clear j1c
 try clear j1t
 try clear j1u
 try clear j1v
 try clear j1w
 obtain ⟨kq,j1j,rfl,HA,HJ2,ja,HB⟩:=hcut
 cases kq with
 | zero=>exact absurd HA.out (by simp [impl_BusesOnWay.j0])
 | succ kj2 =>
  have H:=HA.out
  clear HA
  simp only [impl_BusesOnWay.j0] at H
  by_cases c12:j1j=true
  ·subst c12
   rw [if_pos rfl] at H
   simp only [Option.some.injEq,Prod.mk.injEq] at H
   obtain ⟨rfl,rfl⟩:=H
   go_wp2
   go_ret2
   exact ⟨_,rtE_,by first|exact Kd.R_nil _ _ _ _ _|exact Kd.N_nil _ _ _ _ _|exact Kd.V_nil _ _ _ _ _|exact Kd.Q_nil _ _ _ _ _|exact Kd.S_nil _ _ _ _ _,below_to1 HB jk.out⟩
  replace c12:=Bool.eq_false_iff.mpr c12
  subst c12
  rw [if_neg ft_] at H
  have H':=ai_ H
  clear H
  obtain ⟨j2k,j2l,j2m,j2n,j2o,j2p,j2q,j2r⟩:=blk4_ ja
  go_wp2
  go_loopg [6,18] kj2 (fun kq v6 v18 w' => ∃ (j1g:List Int) (ji:Int),v18=.int .i64 ji∧Aside0 (impl_BusesOnWay.l0 kq a1 j1g jc ji jd je jc jb=some (r1,r2))∧Aside0 (kq≤kj2)∧Aside0 (Kd.R Ki_ 3 w' w.heap.size (fun _=>True) v6 j1g)∧Aside0 (w'.heap[jr]?=some (.cells #[.int .i64 jd,.int .i64 je,.int .i64 jc,(.slice jf jb.length jg)] 26 (0,0)))∧Aside0 (Below w.heap.size w w'))
  case atStart=>exact ⟨(([]:List Int)),(0),rt_,H',⟨Nat.le_refl _⟩,⟨by first|exact Kd.R_nil _ _ _ _ _|exact Kd.N_nil _ _ _ _ _|exact Kd.V_nil _ _ _ _ _|exact Kd.Q_nil _ _ _ _ _|exact Kd.S_nil _ _ _ _ _⟩,⟨blk_to ja⟩,⟨below_to1 HB jk.out⟩⟩
  clear H'
  try clear c1
  try clear p2
  try clear c4
  try clear c6
  try clear c10
  try clear c12
  try clear jv
  try clear jw
  try clear jx
  try clear jy
  try clear j2k
  try clear j2l
  try clear j2m
  try clear j2n
  try clear j1p
  try clear j1q
  try clear j1r
  try clear j1s
  try clear jz
  try clear j1a
  try clear j1b
  try clear j1c
  try clear j2o
  try clear j2p
  try clear j2q
  try clear j2r
  try clear j1t
  try clear j1u
  try clear j1v
  try clear j1w
  try clear p2
  obtain ⟨j1g,ji,rfl,HA,HK2,jj,ja,HB⟩:=hrel
  cases gk with
  | zero=>exact absurd HA.out (by simp [impl_BusesOnWay.l0])
  | succ k2 =>
   have H:=HA.out
   clear HA
   simp only [impl_BusesOnWay.l0] at H
   by_cases c14:ji < jc
   rotate_left
   ·rw [if_neg c14] at H
    have j3j:=decide_eq_false c14
    clear c14
    simp only [Option.some.injEq,Prod.mk.injEq] at H
    obtain ⟨rfl,rfl⟩:=H
    go_wp2
    go_ret2
    exact ⟨_,rtE_,kd_to jj,below_to1 HB jk.out⟩
   rw [if_pos c14] at H
   have j3j:=decide_eq_true c14
   clear c14
   obtain ⟨j1e,A15,H⟩:=bs_ H
   (try dsimp only at H)
   obtain ⟨j1f,A16,H⟩:=bs_ H
   (try dsimp only at H)
   obtain ⟨j3a,A17,H⟩:=bs_ H
   (try dsimp only at H)
   by_cases c18:j3a=true
   rotate_left
   ·replace c18:=Bool.eq_false_iff.mpr c18
    subst c18
    rw [if_neg ft_] at H
    have H':=ai_ H
    clear H
    try go_wp2
    have n0_:=ai_ (Kd.R_drew jj.out)
    have n1_:=ai_ (blk_drew ja.out)
    have n2_:=ai_ (below_drew1 HB.out)
    clear jj
    clear ja
    clear HB
    have jj:=n0_
    have ja:=n1_
    have HB:=n2_
    clear n0_ n1_ n2_
    refine start_ (n:=12) (S:=fun w'=>w'.cell? ⟨jr,0,none⟩=some (.int .i64 jd)∧w'.cell? ⟨jr,1,none⟩=some (.int .i64 je)∧w'.cell? ⟨jr,2,none⟩=some (.int .i64 jc)∧w'.cell? ⟨jr,3,none⟩=some (.slice jf jb.length jg)) (ds:=[]) #[false,false,false,false,false,false,false,false,false,false,false,false] (by kernel_rfl) rfl rfl ⟨(blk_cell ja.out 0).trans rfl,(blk_cell ja.out 1).trans rfl,(blk_cell ja.out 2).trans rfl,(blk_cell ja.out 3).trans rfl⟩ (fun hHeld=>?_);refine with_tabW impl_BusesOnWay.tab7 impl_BusesOnWay.bits7 (fun HT_ HW_=>?_)
    generalize wr.drew=w24 at jj ja HB hHeld ⊢
    refine purS_ (i:=0) (N:=some 21) (fl_ 12 1) HT_.out ?_
    refine purS_ (i:=2) (N:=some 23) #[true,false,true,false,false,false,false,false,false,false,false,false] HT_.out ?_
    refine purS_ (i:=5) (N:=some 26) #[true,false,true,false,false,true,false,false,false,false,false,false] HT_.out ?_
    refine purS_ (i:=6) (N:=some 27) #[true,false,true,false,false,true,true,false,false,false,false,false] HT_.out ?_
    refine take_ (i:=1) (N:=some 22) (v:=?_) (a':=?_) #[true,true,true,false,false,true,true,false,false,false,false,false] rfl rfl (take_ofW HT_.out HW_.out (by kernel_rfl)) (fun _ _ _ h=>h) (Or.inl ⟨by rfl,?_⟩) hHeld ?_ ?_
    rotate_left
    ·rintro w' ⟨s0,s1,s2,s3⟩
     go_simp
     with_reducible rfl
    rotate_left
    ·simp only [Act.put,List.setIfInBounds_toArray,List.set_cons_zero,List.set_cons_succ,i64_w,i32_w]
     rfl
    refine take_ (i:=4) (N:=some 25) (v:=?_) (a':=?_) #[true,true,true,false,true,true,true,false,false,false,false,false] rfl rfl (take_ofW HT_.out HW_.out (by kernel_rfl)) (fun _ _ _ h=>h) (Or.inl ⟨by rfl,?_⟩) hHeld ?_ ?_
    rotate_left
    ·rintro w' ⟨s0,s1,s2,s3⟩
     go_simp
     with_reducible rfl
    rotate_left
    ·simp only [Act.put,List.setIfInBounds_toArray,List.set_cons_zero,List.set_cons_succ,i64_w,i32_w]
     rfl
    refine take_ (i:=7) (N:=some 28) (v:=?_) (a':=?_) #[true,true,true,false,true,true,true,true,false,false,false,false] rfl rfl (take_ofW HT_.out HW_.out (by kernel_rfl)) (fun _ _ _ h=>h) (Or.inl ⟨by rfl,?_⟩) hHeld ?_ ?_
    rotate_left
    ·rintro w' ⟨s0,s1,s2,s3⟩
     go_simp
     with_reducible rfl
    rotate_left
    ·simp only [Act.put,List.setIfInBounds_toArray,List.set_cons_zero,List.set_cons_succ,i64_w,i32_w]
     rfl
    refine purS_ (i:=8) (N:=some 29) #[true,true,true,false,true,true,true,true,true,false,false,false] HT_.out ?_
    refine purS_ (i:=9) (N:=some 30) #[true,true,true,false,true,true,true,true,true,true,false,false] HT_.out ?_
    refine one_ (i:=3) (N:=some 24) #[true,true,true,true,true,true,true,true,true,true,false,false] rfl rfl (one_of HT_.out (by kernel_rfl)) (by decide) (fun K hK=>?_)
    refine goes_ Tryz.func51 (by kernel_rfl) rfl #[.agg #[.int .i64 jd,.int .i64 je,.int .i64 jc,.slice jf jb.length jg],.int .i64 ji,.int .i64 0] (by rfl) rfl rfl am_ ?_
    with_reducible refine (impl_timeAt.calls jd je jc _ _ jb ji 0 j1e _ ?side1 ?side2 A15.out).mono ?_
    (case side1=>exact cb_ jl HB)
    (case side2=>exact jm.out)
    rintro e w25 ⟨rfl,hb⟩
    refine ⟨_,rfl,?_⟩
    have n0_:=rb_ jj hb
    have n1_:=bb_ ja hb
    have n2_:=ai_ (below_step (below_to1 HB jk.out) hb)
    clear jj
    clear ja
    clear HB
    have jj:=n0_
    have ja:=n1_
    have HB:=n2_
    clear n0_ n1_ n2_
    (try clear hb)
    (try clear hb2)
    (try clear hk)
    (try clear hi)
    refine hK.out _ _ ⟨(blk_cell ja.out 0).trans rfl,(blk_cell ja.out 1).trans rfl,(blk_cell ja.out 2).trans rfl,(blk_cell ja.out 3).trans rfl⟩ (fun hHeld=>?_)
    clear hK K
    refine norm_ (a':=?_) ?_ ?_
    rotate_left
    ·show Act.put _ (some 24) _=_
     simp only [Act.put,List.setIfInBounds_toArray,List.set_cons_zero,List.set_cons_succ,i64_w,i32_w]
     rfl
    refine one_ (i:=10) (N:=some 31) #[true,true,true,true,true,true,true,true,true,true,true,false] rfl rfl (one_of HT_.out (by kernel_rfl)) (by decide) (fun K hK=>?_)
    refine goes_ Tryz.func51 (by kernel_rfl) rfl #[.agg #[.int .i64 jd,.int .i64 je,.int .i64 jc,.slice jf jb.length jg],.int .i64 ji,.int .i64 (wrap64 ((jb.length:Int) - 1))] (by rfl) rfl rfl am_ ?_
    with_reducible refine (impl_timeAt.calls jd je jc _ _ jb ji (wrap64 ((jb.length:Int) - 1)) j1f _ ?side1 ?side2 A16.out).mono ?_
    (case side1=>exact cb_ jl HB)
    (case side2=>exact jm.out)
    rintro e w26 ⟨rfl,hb⟩
    refine ⟨_,rfl,?_⟩
    have n0_:=rb_ jj hb
    have n1_:=bb_ ja hb
    have n2_:=ai_ (below_step (below_to1 HB jk.out) hb)
    clear jj
    clear ja
    clear HB
    have jj:=n0_
    have ja:=n1_
    have HB:=n2_
    clear n0_ n1_ n2_
    (try clear hb)
    (try clear hb2)
    (try clear hk)
    (try clear hi)
    refine hK.out _ _ ⟨(blk_cell ja.out 0).trans rfl,(blk_cell ja.out 1).trans rfl,(blk_cell ja.out 2).trans rfl,(blk_cell ja.out 3).trans rfl⟩ (fun hHeld=>?_)
    clear hK K
    refine norm_ (a':=?_) ?_ ?_
    rotate_left
    ·show Act.put _ (some 31) _=_
     simp only [Act.put,List.setIfInBounds_toArray,List.set_cons_zero,List.set_cons_succ,i64_w,i32_w]
     rfl
    refine one_ (i:=11) (N:=some 32) #[true,true,true,true,true,true,true,true,true,true,true,true] rfl rfl (one_of HT_.out (by kernel_rfl)) (by decide) (fun K hK=>?_)
    refine goes_ Tryz.func50 (by kernel_rfl) rfl #[.int .i64 a1,.int .i64 j1e,.int .i64 j1f] (by rfl) rfl rfl am_ ?_
    with_reducible refine (impl_within.calls a1 j1e j1f false _ A17.out).mono ?_
    rintro e w' ⟨rfl,⟨nd,rfl⟩⟩
    refine ⟨_,rfl,?_⟩
    refine hK.out _ _ ⟨(blk_cell ja.out 0).trans rfl,(blk_cell ja.out 1).trans rfl,(blk_cell ja.out 2).trans rfl,(blk_cell ja.out 3).trans rfl⟩ (fun hHeld=>?_)
    clear hK K
    refine norm_ (a':=?_) ?_ ?_
    rotate_left
    ·show Act.put _ (some 32) _=_
     simp only [Act.put,List.setIfInBounds_toArray,List.set_cons_zero,List.set_cons_succ,i64_w,i32_w]
     rfl
    refine done_ (done_of HT_.out (by kernel_rfl)) ?_
    try go_wp2
    go_roundg k2
    case measure=>have:=HJ2.out;have:=HK2.out;omega
    case rel=>exact ⟨(j1g),(wrap64 (ji+1)),rt_,H',⟨by have:=HJ2.out;have:=HK2.out;omega⟩,⟨kd_to jj⟩,⟨blk_to ja⟩,⟨below_to1 HB jk.out⟩⟩
   subst c18
   rw [if_pos rfl] at H
   by_cases c19:j1g.length < 17592186044416
   rotate_left
   ·rw [if_neg c19] at H
    cases H
   rw [if_pos c19] at H
   have j3k:=ai_ c19
   clear c19
   obtain ⟨j3l,hy286⟩:∃ y_:List Int,y_=(j1g ++ [ji]):=⟨_,rfl⟩
   replace H:(impl_BusesOnWay.l0 k2 a1 j3l jc (wrap64 (ji+1)) jd je jc jb)=some (r1,r2):=by first|(rw [hy286];with_reducible exact H)|(have H2_:=(Option.bind_some _ _).symm.trans H;rw [hy286];with_reducible exact H2_)|(have H2_:=(Option.bind_some _ _).symm.trans H;with_reducible exact H2_)|with_reducible exact H|(rw [hy286];exact H)|exact H
   have j3m:=ai_ hy286
   clear hy286
   have H':=ai_ H
   clear H
   try go_wp2
   have n0_:=ai_ (Kd.R_drew jj.out)
   have n1_:=ai_ (blk_drew ja.out)
   have n2_:=ai_ (below_drew1 HB.out)
   clear jj
   clear ja
   clear HB
   have jj:=n0_
   have ja:=n1_
   have HB:=n2_
   clear n0_ n1_ n2_
   refine start_ (n:=12) (S:=fun w'=>w'.cell? ⟨jr,0,none⟩=some (.int .i64 jd)∧w'.cell? ⟨jr,1,none⟩=some (.int .i64 je)∧w'.cell? ⟨jr,2,none⟩=some (.int .i64 jc)∧w'.cell? ⟨jr,3,none⟩=some (.slice jf jb.length jg)) (ds:=[]) #[false,false,false,false,false,false,false,false,false,false,false,false] (by kernel_rfl) rfl rfl ⟨(blk_cell ja.out 0).trans rfl,(blk_cell ja.out 1).trans rfl,(blk_cell ja.out 2).trans rfl,(blk_cell ja.out 3).trans rfl⟩ (fun hHeld=>?_);refine with_tabW impl_BusesOnWay.tab7 impl_BusesOnWay.bits7 (fun HT_ HW_=>?_)
   generalize wr.drew=w20 at jj ja HB hHeld ⊢
   refine purS_ (i:=0) (N:=some 21) (fl_ 12 1) HT_.out ?_
   refine purS_ (i:=2) (N:=some 23) #[true,false,true,false,false,false,false,false,false,false,false,false] HT_.out ?_
   refine purS_ (i:=5) (N:=some 26) #[true,false,true,false,false,true,false,false,false,false,false,false] HT_.out ?_
   refine purS_ (i:=6) (N:=some 27) #[true,false,true,false,false,true,true,false,false,false,false,false] HT_.out ?_
   refine take_ (i:=1) (N:=some 22) (v:=?_) (a':=?_) #[true,true,true,false,false,true,true,false,false,false,false,false] rfl rfl (take_ofW HT_.out HW_.out (by kernel_rfl)) (fun _ _ _ h=>h) (Or.inl ⟨by rfl,?_⟩) hHeld ?_ ?_
   rotate_left
   ·rintro w' ⟨s0,s1,s2,s3⟩
    go_simp
    with_reducible rfl
   rotate_left
   ·simp only [Act.put,List.setIfInBounds_toArray,List.set_cons_zero,List.set_cons_succ,i64_w,i32_w]
    rfl
   refine take_ (i:=4) (N:=some 25) (v:=?_) (a':=?_) #[true,true,true,false,true,true,true,false,false,false,false,false] rfl rfl (take_ofW HT_.out HW_.out (by kernel_rfl)) (fun _ _ _ h=>h) (Or.inl ⟨by rfl,?_⟩) hHeld ?_ ?_
   rotate_left
   ·rintro w' ⟨s0,s1,s2,s3⟩
    go_simp
    with_reducible rfl
   rotate_left
   ·simp only [Act.put,List.setIfInBounds_toArray,List.set_cons_zero,List.set_cons_succ,i64_w,i32_w]
    rfl
   refine take_ (i:=7) (N:=some 28) (v:=?_) (a':=?_) #[true,true,true,false,true,true,true,true,false,false,false,false] rfl rfl (take_ofW HT_.out HW_.out (by kernel_rfl)) (fun _ _ _ h=>h) (Or.inl ⟨by rfl,?_⟩) hHeld ?_ ?_
   rotate_left
   ·rintro w' ⟨s0,s1,s2,s3⟩
    go_simp
    with_reducible rfl
   rotate_left
   ·simp only [Act.put,List.setIfInBounds_toArray,List.set_cons_zero,List.set_cons_succ,i64_w,i32_w]
    rfl
   refine purS_ (i:=8) (N:=some 29) #[true,true,true,false,true,true,true,true,true,false,false,false] HT_.out ?_
   refine purS_ (i:=9) (N:=some 30) #[true,true,true,false,true,true,true,true,true,true,false,false] HT_.out ?_
   refine one_ (i:=3) (N:=some 24) #[true,true,true,true,true,true,true,true,true,true,false,false] rfl rfl (one_of HT_.out (by kernel_rfl)) (by decide) (fun K hK=>?_)
   refine goes_ Tryz.func51 (by kernel_rfl) rfl #[.agg #[.int .i64 jd,.int .i64 je,.int .i64 jc,.slice jf jb.length jg],.int .i64 ji,.int .i64 0] (by rfl) rfl rfl am_ ?_
   with_reducible refine (impl_timeAt.calls jd je jc _ _ jb ji 0 j1e _ ?side1 ?side2 A15.out).mono ?_
   (case side1=>exact cb_ jl HB)
   (case side2=>exact jm.out)
   rintro e w21 ⟨rfl,hb⟩
   refine ⟨_,rfl,?_⟩
   have n0_:=rb_ jj hb
   have n1_:=bb_ ja hb
   have n2_:=ai_ (below_step (below_to1 HB jk.out) hb)
   clear jj
   clear ja
   clear HB
   have jj:=n0_
   have ja:=n1_
   have HB:=n2_
   clear n0_ n1_ n2_
   (try clear hb)
   (try clear hb2)
   (try clear hk)
   (try clear hi)
   refine hK.out _ _ ⟨(blk_cell ja.out 0).trans rfl,(blk_cell ja.out 1).trans rfl,(blk_cell ja.out 2).trans rfl,(blk_cell ja.out 3).trans rfl⟩ (fun hHeld=>?_)
   clear hK K
   refine norm_ (a':=?_) ?_ ?_
   rotate_left
   ·show Act.put _ (some 24) _=_
    simp only [Act.put,List.setIfInBounds_toArray,List.set_cons_zero,List.set_cons_succ,i64_w,i32_w]
    rfl
   refine one_ (i:=10) (N:=some 31) #[true,true,true,true,true,true,true,true,true,true,true,false] rfl rfl (one_of HT_.out (by kernel_rfl)) (by decide) (fun K hK=>?_)
   refine goes_ Tryz.func51 (by kernel_rfl) rfl #[.agg #[.int .i64 jd,.int .i64 je,.int .i64 jc,.slice jf jb.length jg],.int .i64 ji,.int .i64 (wrap64 ((jb.length:Int) - 1))] (by rfl) rfl rfl am_ ?_
   with_reducible refine (impl_timeAt.calls jd je jc _ _ jb ji (wrap64 ((jb.length:Int) - 1)) j1f _ ?side1 ?side2 A16.out).mono ?_
   (case side1=>exact cb_ jl HB)
   (case side2=>exact jm.out)
   rintro e w22 ⟨rfl,hb⟩
   refine ⟨_,rfl,?_⟩
   have n0_:=rb_ jj hb
   have n1_:=bb_ ja hb
   have n2_:=ai_ (below_step (below_to1 HB jk.out) hb)
   clear jj
   clear ja
   clear HB
   have jj:=n0_
   have ja:=n1_
   have HB:=n2_
   clear n0_ n1_ n2_
   (try clear hb)
   (try clear hb2)
   (try clear hk)
   (try clear hi)
   refine hK.out _ _ ⟨(blk_cell ja.out 0).trans rfl,(blk_cell ja.out 1).trans rfl,(blk_cell ja.out 2).trans rfl,(blk_cell ja.out 3).trans rfl⟩ (fun hHeld=>?_)
   clear hK K
   refine norm_ (a':=?_) ?_ ?_
   rotate_left
   ·show Act.put _ (some 31) _=_
    simp only [Act.put,List.setIfInBounds_toArray,List.set_cons_zero,List.set_cons_succ,i64_w,i32_w]
    rfl
   refine one_ (i:=11) (N:=some 32) #[true,true,true,true,true,true,true,true,true,true,true,true] rfl rfl (one_of HT_.out (by kernel_rfl)) (by decide) (fun K hK=>?_)
   refine goes_ Tryz.func50 (by kernel_rfl) rfl #[.int .i64 a1,.int .i64 j1e,.int .i64 j1f] (by rfl) rfl rfl am_ ?_
   with_reducible refine (impl_within.calls a1 j1e j1f true _ A17.out).mono ?_
   rintro e w' ⟨rfl,⟨nd,rfl⟩⟩
   refine ⟨_,rfl,?_⟩
   refine hK.out _ _ ⟨(blk_cell ja.out 0).trans rfl,(blk_cell ja.out 1).trans rfl,(blk_cell ja.out 2).trans rfl,(blk_cell ja.out 3).trans rfl⟩ (fun hHeld=>?_)
   clear hK K
   refine norm_ (a':=?_) ?_ ?_
   rotate_left
   ·show Act.put _ (some 32) _=_
    simp only [Act.put,List.setIfInBounds_toArray,List.set_cons_zero,List.set_cons_succ,i64_w,i32_w]
    rfl
   refine done_ (done_of HT_.out (by kernel_rfl)) ?_
   try go_wp2_with (first|((with_reducible refine gate_builtin (b:=.append) (xs:=#[.tmp 33,.tmp 35]) rfl ?_);at_builtin;refine Kd.R_append Ki_ (w0:=w) w.heap.size rfl (.tmp 33) (.tmp 35) 24 3 (.int .i64 0) 8 rfl Tryz.underlying24 info3 rfl (by decide) (by omega) u6 j1g ji [.int .i64 ji] (fun _=>True) (fun _=>False) rfl rfl ?aP (fun _ hk=>hk.elim) ?aF ?aO ?aB ?aS ?aL ?_;(case aP=>exact rfl);(case aB=>exact (below_to1 HB jk.out));(case aF=>exact (fun _ _=>trivial));(case aO=>exact (kd_to jj));(case aS=>exact (below_size (below_to1 HB jk.out)));(case aL=>have:=j3k.out;omega);intro j4r w23 ho hb hg hat;rw [← j3m.out] at ho;replace ja:=ai_ (blk_grown (g:=jr) (o:=.cells #[.int .i64 jd,.int .i64 je,.int .i64 jc,.slice jf jb.length jg] 26 (0,0)) (blk_to ja) hg (Kd.R_ne jj.out ja.out (by decide)));replace HB:=ai_ (hb);have j3n:=ai_ (ho);clear jj;clear ho hb hg hat))
   go_roundg k2
   case measure=>have:=HJ2.out;have:=HK2.out;omega
   case rel=>exact ⟨(j3l),(wrap64 (ji+1)),rt_,H',⟨by have:=HJ2.out;have:=HK2.out;omega⟩,⟨kd_to j3n⟩,⟨blk_to ja⟩,⟨below_to1 HB jk.out⟩⟩
end Go.Proofs.YthdnodmidbcgpaaGreatDoor.QR
