import Derived.Test.YthdnodmidbcgpaaGreatDoorQRx4
namespace Go.Proofs.YthdnodmidbcgpaaGreatDoor.QR
open Go.Proofs.YthdnodmidbcgpaaGreatDoor.X Go.RowKit Go.Proofs.YthdnodmidbcgpaaGreatDoorW.PrintWords Go.Proofs.YthdnodmidbcgpaaGreatDoorW.PrintLast Go.Proofs.YthdnodmidbcgpaaGreatDoorW.PrintMore
set_option maxHeartbeats 8000000
set_option maxRecDepth 100000
attribute [local go_sem] max2_int min2_int max_two min_two max_three min_three max_four min_four
set_option linter.unusedVariables false
set_option linter.unusedSimpArgs false
def laws_qSame.l0:Nat→List Int→List Int→Int→Int→Option (Bool)
 | 0,_,_,_,_=>none
 | k+1,x0,x1,x12,x13=>if x13 < x12 then (if 0≤x13 then (if x13 < (x0.length:Int) then (if x13 < (x1.length:Int) then (if (rd x0 x13)=(rd x1 x13) then (laws_qSame.l0 k x0 x1 x12 (wrap64 (x13+1))) else (some false)) else (none)) else (none)) else (none)) else (some true)
def laws_qSame.f (k:Nat) (l0:List Int) (l1:List Int):Option (Bool):=if (l0.length:Int)=(l1.length:Int) then (laws_qSame.l0 k l0 l1 (l0.length:Int) 0) else (some false)
theorem laws_qSame.calls (k:Nat) (A0:Option Addr) (c0:Nat) (l0:List Int) (A1:Option Addr) (c1:Nat) (l1:List Int) (r:Bool) (w:World) (hr0:Kd.C Ki_ w A0 l0.length l0) (hc0:l0.length≤c0) (hr1:Kd.C Ki_ w A1 l1.length l1) (hc1:l1.length≤c1) (h:laws_qSame.f k l0 l1=some r) :
  Calls Tryz.prog 14 #[.slice A0 l0.length c0,.slice A1 l1.length c1] w fun e w'=>e=.returned (.bool r)∧Drawn0 w w':=by
 have HR0:=ai_ hr0
 have HC0:=ai_ hc0
 clear hr0 hc0
 have HR1:=ai_ hr1
 have HC1:=ai_ hc1
 clear hr1 hc1
 have H:=h
 unfold laws_qSame.f at H
 clear h
 by_cases c3:(l0.length:Int)=(l1.length:Int)
 rotate_left
 ·rw [if_neg c3] at H
  have j1q:=beq_eq_false_iff_ne.mpr c3
  have j1r:=bne_iff_ne.mpr c3
  have j1s:(l0.length == l1.length)=false:=by first|simpa using c3|(simp at c3 ⊢;omega)
  obtain rfl:=Option.some.inj H
  go_enter Tryz.func14,Tryz.ntmps14
  go_wp2
  repeat (go_quiet (fail);try go_wp2)
  go_ret
  exact ⟨rt_,d0_⟩
 rw [if_pos c3] at H
 have j1q:=beq_iff_eq.mpr c3
 have j1r:=bne_eq_false_iff_eq.mpr c3
 have j1s:(l0.length == l1.length)=true:=by first|simpa using c3|(simp at c3 ⊢;omega)
 clear c3
 have H':=ai_ H
 clear H
 go_enter Tryz.func14,Tryz.ntmps14
 go_wp2
 repeat (go_quiet (fail);try go_wp2)
 go_loopg [13] k (fun kq v13 w' => ∃ (ja:Int),v13=.int .i64 ja∧Aside0 (laws_qSame.l0 kq l0 l1 (l0.length:Int) ja=some r)∧Aside0 (kq≤k)∧Drawn0 w w')
 case atStart=>exact ⟨(0),rt_,H',⟨Nat.le_refl _⟩,d0_⟩
 clear H'
 try clear c1
 try clear p2
 try clear c3
 try clear j1q
 try clear j1r
 try clear j1s
 obtain ⟨ja,rfl,HA,HK1,⟨m1,rfl⟩⟩:=hrel
 cases gk with
 | zero=>exact absurd HA.out (by simp [laws_qSame.l0])
 | succ k1 =>
  have H:=HA.out
  clear HA
  simp only [laws_qSame.l0] at H
  by_cases c4:ja < (l0.length:Int)
  rotate_left
  ·rw [if_neg c4] at H
   have j1t:=decide_eq_false c4
   clear c4
   obtain rfl:=Option.some.inj H
   go_wp2
   repeat (go_quiet (fail);try go_wp2)
   go_ret
   exact ⟨rt_,d0_⟩
  rw [if_pos c4] at H
  have j1t:=decide_eq_true c4
  clear c4
  by_cases c5:0≤ja
  rotate_left
  ·rw [if_neg c5] at H
   cases H
  rw [if_pos c5] at H
  have j3m:=decide_eq_true c5
  clear c5
  by_cases c6:ja < (l0.length:Int)
  rotate_left
  ·rw [if_neg c6] at H
   cases H
  rw [if_pos c6] at H
  have j3n:=decide_eq_true c6
  clear c6
  by_cases c7:ja < (l1.length:Int)
  rotate_left
  ·rw [if_neg c7] at H
   cases H
  rw [if_pos c7] at H
  have j1u:=decide_eq_true c7
  clear c7
  by_cases c8:(rd l0 ja)=(rd l1 ja)
  ·rw [if_pos c8] at H
   have j3o:=beq_iff_eq.mpr c8
   have j3p:=bne_eq_false_iff_eq.mpr c8
   clear c8
   have H':=ai_ H
   clear H
   have jo:0≤(ja:Int):=odt_
   have jp:ja < (l0.length:Int):=odt_
   obtain ⟨j1v,e330,j1h⟩:=Kd.at_int HR0.out ja jo jp
   cases e330
   replace jo:=eq_true jo
   replace jp:=eq_true jp
   have jq:0≤(ja:Int):=odt_
   have jr:ja < (l1.length:Int):=odt_
   obtain ⟨j1w,e331,j1i⟩:=Kd.at_int HR1.out ja jq jr
   cases e331
   replace jq:=eq_true jq
   replace jr:=eq_true jr
   go_wp2
   repeat (go_quiet (fail);try go_wp2)
   go_roundg k1
   case measure=>have:=HK1.out;omega
   case rel=>exact ⟨(wrap64 (ja+1)),rt_,H',⟨by have:=HK1.out;omega⟩,d0_⟩
  ·rw [if_neg c8] at H
   have j3o:=beq_eq_false_iff_ne.mpr c8
   have j3p:=bne_iff_ne.mpr c8
   obtain rfl:=Option.some.inj H
   have jo:0≤(ja:Int):=odt_
   have jp:ja < (l0.length:Int):=odt_
   obtain ⟨j1v,e330,j1h⟩:=Kd.at_int HR0.out ja jo jp
   cases e330
   replace jo:=eq_true jo
   replace jp:=eq_true jp
   have jq:0≤(ja:Int):=odt_
   have jr:ja < (l1.length:Int):=odt_
   obtain ⟨j1w,e331,j1i⟩:=Kd.at_int HR1.out ja jq jr
   cases e331
   replace jq:=eq_true jq
   replace jr:=eq_true jr
   go_wp2
   repeat (go_quiet (fail);try go_wp2)
   go_ret
   exact ⟨rt_,d0_⟩
def spec_IsLine.f (k:Nat) (jf:Int) (jg:Int) (jd:Int) (jb:List Int):Option (Bool):=(spec_buGood.f k jf jg jd jb).bind fun j1j=>(some j1j)
theorem spec_IsLine.calls (k:Nat) (jf:Int) (jg:Int) (jd:Int) (jj:Option Addr) (jk:Nat) (jb:List Int) (r:Bool) (w:World) (hr0_3:Kd.C Ki_ w jj jb.length jb) (hc0_3:jb.length≤jk) (h:spec_IsLine.f k jf jg jd jb=some r) :
  Calls Tryz.prog 16 #[.agg #[.int .i64 jf,.int .i64 jg,.int .i64 jd,.slice jj jb.length jk]] w fun e w'=>e=.returned (.bool r)∧Below w.heap.size w w':=by
 have hu26:=Tryz.underlying26
 have jl:=ai_ hr0_3
 have jm:=ai_ hc0_3
 clear hr0_3 hc0_3
 have HB:=ai_ (Below.refl w.heap.size w)
 have H:=h
 unfold spec_IsLine.f at H
 clear h
 replace H:=Option.bind_eq_some_iff.mp H
 obtain ⟨j1j,A20,H⟩:=H
 replace H:(some j1j)=some r:=H
 have A2:=ai_ A20
 clear A20
 obtain rfl:=Option.some.inj H
 go_enter Tryz.func16,Tryz.ntmps16
 go_wp2_with (first|((with_reducible refine gate_dst (N:=1) rfl ?_);refine bxe_ #[.int .i64 jf,.int .i64 jg,.int .i64 jd,.slice jj jb.length jk] 26 ?_;intro j3z hg w3 hbox hb;have jy:=ai_ (hbox);have j4a:=ai_ (gb_ hg (below_size (below_to HB)));have j1n:=ai_ (gb_ hg (below_size (below_to HB)));replace HB:=ai_ (below_step (below_to HB) hb);clear hb hbox hg;obtain ⟨j3q,j3r,j3s,j3t,j3u,j3v,j3w,j3x⟩:=blk4_ jy)|((with_reducible refine gate_callee (f:=52) rfl ?_);refine gl_ (some 4) Tryz.func52 #[.agg #[.int .i64 jf,.int .i64 jg,.int .i64 jd,.slice jj jb.length jk]] ?_;(with_reducible refine (spec_buGood.calls k jf jg jd _ _ jb j1j _ ?side1 jm.out A2.out).mono ?_);(case side1=>exact cb_ jl HB);rintro e w5 ⟨rfl,hb⟩;refine ⟨_,rfl,?_⟩;replace jy:=bb_ jy hb;replace HB:=ai_ (below_step (below_to1 HB j1n.out) hb);clear hb))
 go_ret
 exact ⟨rtE_,below_to1 HB j1n.out⟩
def impl_TimeAtStop.f (k:Nat) (jf:Int) (jg:Int) (jd:Int) (jb:List Int) (a1:Int) (a2:Int):Option (Int × Bool):=(impl_hasStops.f k jf jg jd jb (([a2]:List Int))).bind fun jz=>(if jz=true then ((impl_within.f a1 0 (wrap64 (jd - 1))).bind fun j1a=>(if j1a=true then ((impl_timeAt.f jf jg jd jb a1 a2).bind fun j1b=>(some (j1b,true))) else (some (0,false)))) else (some (0,false)))
theorem impl_TimeAtStop.calls (k:Nat) (jf:Int) (jg:Int) (jd:Int) (jj:Option Addr) (jk:Nat) (jb:List Int) (a1:Int) (a2:Int) (r1:Int) (r2:Bool) (w:World) (hr0_3:Kd.C Ki_ w jj jb.length jb) (hc0_3:jb.length≤jk) (h:impl_TimeAtStop.f k jf jg jd jb a1 a2=some (r1,r2)) :
  Calls Tryz.prog 17 #[.agg #[.int .i64 jf,.int .i64 jg,.int .i64 jd,.slice jj jb.length jk],.int .i64 a1,.int .i64 a2] w fun e w'=>e=.returned (.tuple #[.int .i64 r1,.bool r2])∧Below w.heap.size w w':=by
 have hu26:=Tryz.underlying26
 have jl:=ai_ hr0_3
 have jm:=ai_ hc0_3
 clear hr0_3 hc0_3
 have HB:=ai_ (Below.refl w.heap.size w)
 have H:=h
 unfold impl_TimeAtStop.f at H
 clear h
 obtain ⟨js,hy335⟩:∃ y_:List Int,y_=(([a2]:List Int)):=⟨_,rfl⟩
 replace H:((impl_hasStops.f k jf jg jd jb js).bind fun jz=>(if jz=true then ((impl_within.f a1 0 (wrap64 (jd - 1))).bind fun j1a=>(if j1a=true then ((impl_timeAt.f jf jg jd jb a1 a2).bind fun j1b=>(some (j1b,true))) else (some (0,false)))) else (some (0,false))))=some (r1,r2):=by first|(rw [hy335];with_reducible exact H)|(have H2_:=(Option.bind_some _ _).symm.trans H;rw [hy335];with_reducible exact H2_)|(have H2_:=(Option.bind_some _ _).symm.trans H;with_reducible exact H2_)|with_reducible exact H|(rw [hy335];exact H)|exact H
 have jn:=ai_ hy335
 clear hy335
 obtain ⟨jz,A4,H⟩:=bs_ H
 (try dsimp only at H)
 by_cases c5:jz=true
 rotate_left
 ·replace c5:=Bool.eq_false_iff.mpr c5
  subst c5
  rw [if_neg ft_] at H
  simp only [Option.some.injEq,Prod.mk.injEq] at H
  obtain ⟨rfl,rfl⟩:=H
  go_enter Tryz.func17,Tryz.ntmps17
  go_wp2_with (first|((with_reducible refine gate_dst (N:=3) rfl ?_);refine bxe_ #[.int .i64 jf,.int .i64 jg,.int .i64 jd,.slice jj jb.length jk] 26 ?_;intro j1o hg w24 hbox hb;have jc:=ai_ (hbox);have j1p:=ai_ (gb_ hg (below_size (below_to HB)));have jh:=ai_ (gb_ hg (below_size (below_to HB)));replace HB:=ai_ (below_step (below_to HB) hb);clear hb hbox hg;obtain ⟨j1y,j1z,j2a,j2b,j2c,j2d,j2e,j2f⟩:=blk4_ jc)|((with_reducible refine gate_dst (N:=10) rfl ?_);refine Kd.R_lit Ki_ _ 3 ?hg (N:=10) ?hd (xs:=([a2]:List Int)) (inner:=[.int .i64 a2]) (ok:=fun _=>True) (okp:=fun _=>True) ?hr ?hp (fun _ hk=>hk) trivial (Below.refl _ _) (Nat.le_refl _) (by simp) ?_;(case hd=>rfl);(case hg=>rfl);(case hr=>first|(go_simp;done)|(go_simp;rfl));(case hp=>exact (Reps.one (show Kd.M Ki_ _ _ _ a2 [.int .i64 a2] from rfl) (Reps.none _ _)));intro j1x w26 j1c hb hg_ hnew_;clear hg_ hnew_;(first|rw [← jn.out] at j1c|(simp only [Int.reduceToNat] at j1c;rw [← jn.out] at j1c));have je:=ai_ (Kd.R_lower j1c (below_size (below_to1 HB jh.out)));replace jc:=bb_ jc hb;replace HB:=ai_ (below_step (below_to1 HB jh.out) hb);clear hb j1c;obtain ⟨Ao28,co28,eo28⟩:=Kd.R_slice je.out;subst eo28)|((with_reducible refine gate_callee (f:=43) rfl ?_);refine gl_ (some 11) Tryz.func43 #[.agg #[.int .i64 jf,.int .i64 jg,.int .i64 jd,.slice jj jb.length jk],.slice Ao28 js.length co28] ?_;(with_reducible refine (impl_hasStops.calls k jf jg jd _ _ jb _ _ js false _ ?side1 jm.out ?side3 ?side4 A4.out).mono ?_);(case side1=>exact cb_ jl HB);(case side3=>exact cR_ je);(case side4=>exact (Kd.R_reads' je.out).2.1);rintro e w29 ⟨rfl,hb⟩;refine ⟨_,rfl,?_⟩;replace je:=rb_ je hb;replace jc:=bb_ jc hb;replace HB:=ai_ (below_step (below_to1 HB jh.out) hb);clear hb))
  go_ret2
  exact ⟨rtE_,below_to1 HB jh.out⟩
 subst c5
 rw [if_pos rfl] at H
 obtain ⟨j1a,A6,H⟩:=bs_ H
 (try dsimp only at H)
 by_cases c7:j1a=true
 ·subst c7
  rw [if_pos rfl] at H
  obtain ⟨j1b,A8,H⟩:=bs_ H
  (try dsimp only at H)
  simp only [Option.some.injEq,Prod.mk.injEq] at H
  obtain ⟨rfl,rfl⟩:=H
  go_enter Tryz.func17,Tryz.ntmps17
  go_wp2_with (first|((with_reducible refine gate_dst (N:=3) rfl ?_);refine bxe_ #[.int .i64 jf,.int .i64 jg,.int .i64 jd,.slice jj jb.length jk] 26 ?_;intro j1o hg w9 hbox hb;have jc:=ai_ (hbox);have j1p:=ai_ (gb_ hg (below_size (below_to HB)));have jh:=ai_ (gb_ hg (below_size (below_to HB)));replace HB:=ai_ (below_step (below_to HB) hb);clear hb hbox hg;obtain ⟨j2g,j2h,j2i,j2j,j2k,j2l,j2m,j2n⟩:=blk4_ jc)|((with_reducible refine gate_dst (N:=10) rfl ?_);refine Kd.R_lit Ki_ _ 3 ?hg (N:=10) ?hd (xs:=([a2]:List Int)) (inner:=[.int .i64 a2]) (ok:=fun _=>True) (okp:=fun _=>True) ?hr ?hp (fun _ hk=>hk) trivial (Below.refl _ _) (Nat.le_refl _) (by simp) ?_;(case hd=>rfl);(case hg=>rfl);(case hr=>first|(go_simp;done)|(go_simp;rfl));(case hp=>exact (Reps.one (show Kd.M Ki_ _ _ _ a2 [.int .i64 a2] from rfl) (Reps.none _ _)));intro j1x w11 j1d hb hg_ hnew_;clear hg_ hnew_;(first|rw [← jn.out] at j1d|(simp only [Int.reduceToNat] at j1d;rw [← jn.out] at j1d));have je:=ai_ (Kd.R_lower j1d (below_size (below_to1 HB jh.out)));replace jc:=bb_ jc hb;replace HB:=ai_ (below_step (below_to1 HB jh.out) hb);clear hb j1d;obtain ⟨Ao13,co13,eo13⟩:=Kd.R_slice je.out;subst eo13)|((with_reducible refine gate_callee (f:=43) rfl ?_);refine gl_ (some 11) Tryz.func43 #[.agg #[.int .i64 jf,.int .i64 jg,.int .i64 jd,.slice jj jb.length jk],.slice Ao13 js.length co13] ?_;(with_reducible refine (impl_hasStops.calls k jf jg jd _ _ jb _ _ js true _ ?side1 jm.out ?side3 ?side4 A4.out).mono ?_);(case side1=>exact cb_ jl HB);(case side3=>exact cR_ je);(case side4=>exact (Kd.R_reads' je.out).2.1);rintro e w14 ⟨rfl,hb⟩;refine ⟨_,rfl,?_⟩;replace je:=rb_ je hb;replace jc:=bb_ jc hb;replace HB:=ai_ (below_step (below_to1 HB jh.out) hb);clear hb;obtain ⟨j2o,j2p,j2q,j2r,j2s,j2t,j2u,j2v⟩:=blk4_ jc)|(go_at_call 50;(with_reducible refine (impl_within.calls a1 0 (wrap64 (jd - 1)) true _ A6.out).mono ?_);rintro e w' ⟨rfl,⟨nd,rfl⟩⟩)|((with_reducible refine gate_callee (f:=51) rfl ?_);refine gl_ (some 24) Tryz.func51 #[.agg #[.int .i64 jf,.int .i64 jg,.int .i64 jd,.slice jj jb.length jk],.int .i64 a1,.int .i64 a2] ?_;(with_reducible refine (impl_timeAt.calls jf jg jd _ _ jb a1 a2 j1b _ ?side1 jm.out A8.out).mono ?_);(case side1=>repeat (first|exact (Kd.C_below jl.out (below_to1 HB jh.out))|(with_reducible refine Kd.C_alloc ?_ _)|(with_reducible refine Kd.C_drewN ?_ _)|(with_reducible refine Kd.C_drew ?_)));rintro e w16 ⟨rfl,hb⟩;refine ⟨_,rfl,?_⟩;replace je:=rb_ je hb;replace jc:=bb_ jc hb;replace HB:=ai_ (below_step (below_to1 HB jh.out) hb);clear hb))
  go_ret2
  exact ⟨rtE_,below_to1 HB jh.out⟩
 ·replace c7:=Bool.eq_false_iff.mpr c7
  subst c7
  rw [if_neg ft_] at H
  simp only [Option.some.injEq,Prod.mk.injEq] at H
  obtain ⟨rfl,rfl⟩:=H
  go_enter Tryz.func17,Tryz.ntmps17
  go_wp2_with (first|((with_reducible refine gate_dst (N:=3) rfl ?_);refine bxe_ #[.int .i64 jf,.int .i64 jg,.int .i64 jd,.slice jj jb.length jk] 26 ?_;intro j1o hg w17 hbox hb;have jc:=ai_ (hbox);have j1p:=ai_ (gb_ hg (below_size (below_to HB)));have jh:=ai_ (gb_ hg (below_size (below_to HB)));replace HB:=ai_ (below_step (below_to HB) hb);clear hb hbox hg;obtain ⟨j2w,j2x,j2y,j2z,j3a,j3b,j3c,j3d⟩:=blk4_ jc)|((with_reducible refine gate_dst (N:=10) rfl ?_);refine Kd.R_lit Ki_ _ 3 ?hg (N:=10) ?hd (xs:=([a2]:List Int)) (inner:=[.int .i64 a2]) (ok:=fun _=>True) (okp:=fun _=>True) ?hr ?hp (fun _ hk=>hk) trivial (Below.refl _ _) (Nat.le_refl _) (by simp) ?_;(case hd=>rfl);(case hg=>rfl);(case hr=>first|(go_simp;done)|(go_simp;rfl));(case hp=>exact (Reps.one (show Kd.M Ki_ _ _ _ a2 [.int .i64 a2] from rfl) (Reps.none _ _)));intro j1x w19 j1e hb hg_ hnew_;clear hg_ hnew_;(first|rw [← jn.out] at j1e|(simp only [Int.reduceToNat] at j1e;rw [← jn.out] at j1e));have je:=ai_ (Kd.R_lower j1e (below_size (below_to1 HB jh.out)));replace jc:=bb_ jc hb;replace HB:=ai_ (below_step (below_to1 HB jh.out) hb);clear hb j1e;obtain ⟨Ao21,co21,eo21⟩:=Kd.R_slice je.out;subst eo21)|((with_reducible refine gate_callee (f:=43) rfl ?_);refine gl_ (some 11) Tryz.func43 #[.agg #[.int .i64 jf,.int .i64 jg,.int .i64 jd,.slice jj jb.length jk],.slice Ao21 js.length co21] ?_;(with_reducible refine (impl_hasStops.calls k jf jg jd _ _ jb _ _ js true _ ?side1 jm.out ?side3 ?side4 A4.out).mono ?_);(case side1=>exact cb_ jl HB);(case side3=>exact cR_ je);(case side4=>exact (Kd.R_reads' je.out).2.1);rintro e w22 ⟨rfl,hb⟩;refine ⟨_,rfl,?_⟩;replace je:=rb_ je hb;replace jc:=bb_ jc hb;replace HB:=ai_ (below_step (below_to1 HB jh.out) hb);clear hb;obtain ⟨j3e,j3f,j3g,j3h,j3i,j3j,j3k,j3l⟩:=blk4_ jc)|(go_at_call 50;(with_reducible refine (impl_within.calls a1 0 (wrap64 (jd - 1)) false _ A6.out).mono ?_);rintro e w' ⟨rfl,⟨nd,rfl⟩⟩))
  go_ret2
  exact ⟨rtE_,below_to1 HB jh.out⟩
def laws_qRises.l0:Nat→List Int→Int→Option (Bool)
 | 0,_,_=>none
 | k+1,x0,x3=>if x3 < (x0.length:Int) then (if 0≤(wrap64 (x3 - 1)) then (if (wrap64 (x3 - 1)) < (x0.length:Int) then (if 0≤x3 then (if (rd x0 (wrap64 (x3 - 1)))≥(rd x0 x3) then (some false) else (laws_qRises.l0 k x0 (wrap64 (x3+1)))) else (none)) else (none)) else (none)) else (some true)
def laws_qRises.f (k:Nat) (l0:List Int):Option (Bool):=laws_qRises.l0 k l0 1
theorem laws_qRises.calls (k:Nat) (A0:Option Addr) (c0:Nat) (l0:List Int) (r:Bool) (w:World) (hr0:Kd.C Ki_ w A0 l0.length l0) (hc0:l0.length≤c0) (h:laws_qRises.f k l0=some r) :
  Calls Tryz.prog 18 #[.slice A0 l0.length c0] w fun e w'=>e=.returned (.bool r)∧Drawn0 w w':=by
 have HR0:=ai_ hr0
 have HC0:=ai_ hc0
 clear hr0 hc0
 have H:(laws_qRises.l0 k l0 1)=some r:=h
 clear h
 have H':=ai_ H
 clear H
 go_enter Tryz.func18,Tryz.ntmps18
 go_wp2
 repeat (go_quiet (fail);try go_wp2)
 go_loopg [3] k (fun kq v3 w' => ∃ (ji:Int),v3=.int .i64 ji∧Aside0 (laws_qRises.l0 kq l0 ji=some r)∧Aside0 (kq≤k)∧Drawn0 w w')
 case atStart=>exact ⟨(1),rt_,H',⟨Nat.le_refl _⟩,d0_⟩
 clear H'
 try clear c1
 obtain ⟨ji,rfl,HA,HK1,⟨m1,rfl⟩⟩:=hrel
 cases gk with
 | zero=>exact absurd HA.out (by simp [laws_qRises.l0])
 | succ k1 =>
  have H:=HA.out
  clear HA
  simp only [laws_qRises.l0] at H
  by_cases c2:ji < (l0.length:Int)
  rotate_left
  ·rw [if_neg c2] at H
   have j3y:=decide_eq_false c2
   clear c2
   obtain rfl:=Option.some.inj H
   go_wp2
   repeat (go_quiet (fail);try go_wp2)
   go_ret
   exact ⟨rt_,d0_⟩
  rw [if_pos c2] at H
  have j3y:=decide_eq_true c2
  clear c2
  obtain ⟨jx,j1k⟩:∃ j_:Int,(wrap64 (ji - 1))=j_:=⟨_,rfl⟩
  replace H:(if 0≤(jx) then (if (jx) < (l0.length:Int) then (if 0≤ji then (if (rd l0 (jx))≥(rd l0 ji) then (some false) else (laws_qRises.l0 k1 l0 (wrap64 (ji+1)))) else (none)) else (none)) else (none))=some r:=by first|(rw [j1k] at H;exact H)|(simp only [j1k] at H ⊢;exact H)
  have j4b:(IntKind.i64.wrap (ji - 1))=jx:=(i64_w _).trans j1k
  by_cases c4:0≤(jx)
  rotate_left
  ·rw [if_neg c4] at H
   cases H
  rw [if_pos c4] at H
  have j1t:=decide_eq_true c4
  clear c4
  by_cases c5:(jx) < (l0.length:Int)
  rotate_left
  ·rw [if_neg c5] at H
   cases H
  rw [if_pos c5] at H
  have j3m:=decide_eq_true c5
  clear c5
  by_cases c6:0≤ji
  rotate_left
  ·rw [if_neg c6] at H
   cases H
  rw [if_pos c6] at H
  have j3n:=decide_eq_true c6
  clear c6
  by_cases c7:(rd l0 (jx))≥(rd l0 ji)
  ·rw [if_pos c7] at H
   have j1u:=decide_eq_true c7
   clear c7
   obtain rfl:=Option.some.inj H
   have jt:0≤((jx):Int):=odt_
   have ju:(jx) < (l0.length:Int):=odt_
   obtain ⟨j1f,e341,j1l⟩:=Kd.at_int HR0.out (jx) jt ju
   cases e341
   replace jt:=eq_true jt
   replace ju:=eq_true ju
   have jv:0≤(ji:Int):=odt_
   have jw:ji < (l0.length:Int):=odt_
   obtain ⟨j1g,e342,j1m⟩:=Kd.at_int HR0.out ji jv jw
   obtain rfl:j1f=j1g:=(by injection e342)
   replace jv:=eq_true jv
   replace jw:=eq_true jw
   go_wp2
   repeat (go_quiet (fail);try go_wp2)
   go_ret
   exact ⟨by first|rfl|(simp;done)|(simp only [← j1k] <;> (first|rfl|simp))|(simp [*];done),d0_⟩
  ·rw [if_neg c7] at H
   have j1u:=decide_eq_false c7
   clear c7
   have H':=ai_ H
   clear H
   have jt:0≤((jx):Int):=odt_
   have ju:(jx) < (l0.length:Int):=odt_
   obtain ⟨j1f,e341,j1l⟩:=Kd.at_int HR0.out (jx) jt ju
   cases e341
   replace jt:=eq_true jt
   replace ju:=eq_true ju
   have jv:0≤(ji:Int):=odt_
   have jw:ji < (l0.length:Int):=odt_
   obtain ⟨j1g,e342,j1m⟩:=Kd.at_int HR0.out ji jv jw
   obtain rfl:j1f=j1g:=(by injection e342)
   replace jv:=eq_true jv
   replace jw:=eq_true jw
   go_wp2
   repeat (go_quiet (fail);try go_wp2)
   go_roundg k1
   case measure=>have:=HK1.out;omega
   case rel=>exact ⟨(wrap64 (ji+1)),rt_,H',⟨by have:=HK1.out;omega⟩,d0_⟩
end Go.Proofs.YthdnodmidbcgpaaGreatDoor.QR
