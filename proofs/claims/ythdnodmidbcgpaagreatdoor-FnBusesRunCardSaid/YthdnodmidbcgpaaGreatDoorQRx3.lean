import Derived.Test.YthdnodmidbcgpaaGreatDoorQRx2
namespace Go.Proofs.YthdnodmidbcgpaaGreatDoor.QR
open Go.Proofs.YthdnodmidbcgpaaGreatDoor.X Go.RowKit Go.Proofs.YthdnodmidbcgpaaGreatDoorW.PrintWords Go.Proofs.YthdnodmidbcgpaaGreatDoorW.PrintLast Go.Proofs.YthdnodmidbcgpaaGreatDoorW.PrintMore
set_option maxHeartbeats 8000000
set_option maxRecDepth 100000
attribute [local go_sem] max2_int min2_int max_two min_two max_three min_three max_four min_four
set_option linter.unusedVariables false
set_option linter.unusedSimpArgs false
def impl_hasStops.f (k:Nat) (jd:Int) (jb:Int) (jc:Int) (ja:List Int) (l1:List Int):Option (Bool):=(impl_IsLine.f k jd jb jc ja).bind fun j2n=>(if j2n=true then ((impl_allWithin.f k l1 0 (wrap64 ((ja.length:Int) - 1))).bind fun j1x=>(some j1x)) else (some false))
theorem impl_hasStops.calls (k:Nat) (jd:Int) (jb:Int) (jc:Int) (jg:Option Addr) (jh:Nat) (ja:List Int) (A1:Option Addr) (c1:Nat) (l1:List Int) (r:Bool) (w:World) (hr0_3:Kd.C Ki_ w jg ja.length ja) (hc0_3:ja.length≤jh) (hr1:Kd.C Ki_ w A1 l1.length l1) (hc1:l1.length≤c1) (h:impl_hasStops.f k jd jb jc ja l1=some r) :
  Calls Tryz.prog 43 #[.agg #[.int .i64 jd,.int .i64 jb,.int .i64 jc,.slice jg ja.length jh],.slice A1 l1.length c1] w fun e w'=>e=.returned (.bool r)∧Below w.heap.size w w':=by
 have hu26:=Tryz.underlying26
 have jm:=ai_ hr0_3
 have jn:=ai_ hc0_3
 clear hr0_3 hc0_3
 have HR1:=ai_ hr1
 have HC1:=ai_ hc1
 clear hr1 hc1
 have HB:=ai_ (Below.refl w.heap.size w)
 have H:=h
 unfold impl_hasStops.f at H
 clear h
 obtain ⟨j2n,A3,H⟩:=bs_ H
 (try dsimp only at H)
 by_cases c4:j2n=true
 ·subst c4
  rw [if_pos rfl] at H
  replace H:=Option.bind_eq_some_iff.mp H
  obtain ⟨j1x,A50,H⟩:=H
  replace H:(some j1x)=some r:=H
  have A5:=ai_ A50
  clear A50
  obtain rfl:=Option.some.inj H
  go_enter Tryz.func43,Tryz.ntmps43
  go_wp2_with (first|((with_reducible refine gate_dst (N:=2) rfl ?_);(try (refine gate_guard (by rfl) ?_;dsimp only));refine bxe_ #[.int .i64 jd,.int .i64 jb,.int .i64 jc,.slice jg ja.length jh] 26 ?_;intro j2p hg w6 hbox hb;have js:=ai_ (hbox);have j2q:=ai_ (gb_ hg (below_size (below_to HB)));have jz:=ai_ (gb_ hg (below_size (below_to HB)));replace HB:=ai_ (below_step (below_to HB) hb);clear hb hbox hg;obtain ⟨j1e,j1f,j1g,j1h,j1i,j1j,j1k,j1l⟩:=blk4_ js)|((with_reducible refine gate_callee (f:=15) rfl ?_);refine gl_ (some 6) Tryz.func15 #[.agg #[.int .i64 jd,.int .i64 jb,.int .i64 jc,.slice jg ja.length jh]] ?_;(with_reducible refine (impl_IsLine.calls k jd jb jc _ _ ja true _ ?side1 jn.out A3.out).mono ?_);(case side1=>exact cb_ jm HB);rintro e w8 ⟨rfl,hb⟩;refine ⟨_,rfl,?_⟩;replace js:=bb_ js hb;replace HB:=ai_ (below_step (below_to1 HB jz.out) hb);clear hb;obtain ⟨j4j,j4k,j4l,j4m,j4n,j4o,j4p,j4q⟩:=blk4_ js)|(go_at_call 71;(with_reducible refine (impl_allWithin.calls k _ _ l1 0 (wrap64 ((ja.length:Int) - 1)) j1x _ ?side1 HC1.out A5.out).mono ?_);(case side1=>exact cb_ HR1 HB);rintro e w' ⟨rfl,⟨nd,rfl⟩⟩))
  go_ret
  exact ⟨rtE_,below_to1 HB jz.out⟩
 ·replace c4:=Bool.eq_false_iff.mpr c4
  subst c4
  rw [if_neg ft_] at H
  obtain rfl:=Option.some.inj H
  go_enter Tryz.func43,Tryz.ntmps43
  go_wp2_with (first|((with_reducible refine gate_dst (N:=2) rfl ?_);(try (refine gate_guard (by rfl) ?_;dsimp only));refine bxe_ #[.int .i64 jd,.int .i64 jb,.int .i64 jc,.slice jg ja.length jh] 26 ?_;intro j2p hg w10 hbox hb;have js:=ai_ (hbox);have j2q:=ai_ (gb_ hg (below_size (below_to HB)));have jz:=ai_ (gb_ hg (below_size (below_to HB)));replace HB:=ai_ (below_step (below_to HB) hb);clear hb hbox hg;obtain ⟨j1y,j1z,j2a,j2b,j2c,j2d,j2e,j2f⟩:=blk4_ js)|((with_reducible refine gate_callee (f:=15) rfl ?_);refine gl_ (some 6) Tryz.func15 #[.agg #[.int .i64 jd,.int .i64 jb,.int .i64 jc,.slice jg ja.length jh]] ?_;(with_reducible refine (impl_IsLine.calls k jd jb jc _ _ ja false _ ?side1 jn.out A3.out).mono ?_);(case side1=>exact cb_ jm HB);rintro e w12 ⟨rfl,hb⟩;refine ⟨_,rfl,?_⟩;replace js:=bb_ js hb;replace HB:=ai_ (below_step (below_to1 HB jz.out) hb);clear hb))
  go_ret
  exact ⟨rtE_,below_to1 HB jz.out⟩
def impl_timeAt.f (jd:Int) (jb:Int) (jc:Int) (ja:List Int) (a1:Int) (a2:Int):Option (Int):=if 0≤a2 then (if a2 < (ja.length:Int) then (some (wrap64 ((wrap64 (jd+(wrap64 (a1*jb))))+(rd ja a2)))) else (none)) else (none)
theorem impl_timeAt.calls (jd:Int) (jb:Int) (jc:Int) (jg:Option Addr) (jh:Nat) (ja:List Int) (a1:Int) (a2:Int) (r:Int) (w:World) (hr0_3:Kd.C Ki_ w jg ja.length ja) (hc0_3:ja.length≤jh) (h:impl_timeAt.f jd jb jc ja a1 a2=some r) :
  Calls Tryz.prog 51 #[.agg #[.int .i64 jd,.int .i64 jb,.int .i64 jc,.slice jg ja.length jh],.int .i64 a1,.int .i64 a2] w fun e w'=>e=.returned (.int .i64 r)∧Below w.heap.size w w':=by
 have hu26:=Tryz.underlying26
 have jm:=ai_ hr0_3
 have jn:=ai_ hc0_3
 clear hr0_3 hc0_3
 have HB:=ai_ (Below.refl w.heap.size w)
 have H:=h
 unfold impl_timeAt.f at H
 clear h
 by_cases c4:0≤a2
 ·rw [if_pos c4] at H
  have j2g:=decide_eq_true c4
  clear c4
  by_cases c5:a2 < (ja.length:Int)
  ·rw [if_pos c5] at H
   have j2r:=decide_eq_true c5
   clear c5
   obtain rfl:=Option.some.inj H
   go_enter Tryz.func51,Tryz.ntmps51
   go_wp2_with (first|((with_reducible refine gate_dst (N:=3) rfl ?_);refine bxe_ #[.int .i64 jd,.int .i64 jb,.int .i64 jc,.slice jg ja.length jh] 26 ?_;intro j2i hg w6 hbox hb;have j1a:=ai_ (hbox);have j2j:=ai_ (gb_ hg (below_size (below_to HB)));have j1p:=ai_ (gb_ hg (below_size (below_to HB)));replace HB:=ai_ (below_step (below_to HB) hb);clear hb hbox hg;obtain ⟨j1e,j1f,j1g,j1h,j1i,j1j,j1k,j1l⟩:=blk4_ j1a;have jt:0≤(a2:Int):=of_decide_eq_true (by first|(with_reducible assumption)|assumption);have ju:a2 < (ja.length:Int):=of_decide_eq_true (by first|(with_reducible assumption)|assumption);obtain ⟨j2k,e231,jj⟩:=Kd.at_int jm.out a2 jt ju;cases e231;replace jj:=(HB.out.cell (World.block_lt_of_cell? w _ jj)).trans jj;replace jt:=eq_true jt;replace ju:=eq_true ju))
   repeat (go_quiet (first|((with_reducible refine gate_dst (N:=3) rfl ?_);refine bxe_ #[.int .i64 jd,.int .i64 jb,.int .i64 jc,.slice jg ja.length jh] 26 ?_;intro j2i hg w6 hbox hb;have j1a:=ai_ (hbox);have j2j:=ai_ (gb_ hg (below_size (below_to HB)));have j1p:=ai_ (gb_ hg (below_size (below_to HB)));replace HB:=ai_ (below_step (below_to HB) hb);clear hb hbox hg;obtain ⟨j1e,j1f,j1g,j1h,j1i,j1j,j1k,j1l⟩:=blk4_ j1a;have jt:0≤(a2:Int):=of_decide_eq_true (by first|(with_reducible assumption)|assumption);have ju:a2 < (ja.length:Int):=of_decide_eq_true (by first|(with_reducible assumption)|assumption);obtain ⟨j2k,e231,jj⟩:=Kd.at_int jm.out a2 jt ju;cases e231;replace jj:=(HB.out.cell (World.block_lt_of_cell? w _ jj)).trans jj;replace jt:=eq_true jt;replace ju:=eq_true ju));try go_wp2_with (first|((with_reducible refine gate_dst (N:=3) rfl ?_);refine bxe_ #[.int .i64 jd,.int .i64 jb,.int .i64 jc,.slice jg ja.length jh] 26 ?_;intro j2i hg w6 hbox hb;have j1a:=ai_ (hbox);have j2j:=ai_ (gb_ hg (below_size (below_to HB)));have j1p:=ai_ (gb_ hg (below_size (below_to HB)));replace HB:=ai_ (below_step (below_to HB) hb);clear hb hbox hg;obtain ⟨j1e,j1f,j1g,j1h,j1i,j1j,j1k,j1l⟩:=blk4_ j1a;have jt:0≤(a2:Int):=of_decide_eq_true (by first|(with_reducible assumption)|assumption);have ju:a2 < (ja.length:Int):=of_decide_eq_true (by first|(with_reducible assumption)|assumption);obtain ⟨j2k,e231,jj⟩:=Kd.at_int jm.out a2 jt ju;cases e231;replace jj:=(HB.out.cell (World.block_lt_of_cell? w _ jj)).trans jj;replace jt:=eq_true jt;replace ju:=eq_true ju)))
   go_ret
   exact ⟨rtE_,below_to1 HB j1p.out⟩
  ·rw [if_neg c5] at H
   cases H
 ·rw [if_neg c4] at H
  cases H
def impl_nextBus.f (jd:Int) (jb:Int) (jc:Int) (ja:List Int) (a1:Int) (a2:Int):Option (Int × Int × Bool):=(impl_timeAt.f jd jb jc ja 0 a1).bind fun jx=>(if jb=0 then (none) else (if (mx 0 (wrap64 (Int.tdiv (wrap64 ((wrap64 ((wrap64 (a2 - jx))+jb)) - 1)) jb)))≥jc then (some (0,0,false)) else ((impl_timeAt.f jd jb jc ja (mx 0 (wrap64 (Int.tdiv (wrap64 ((wrap64 ((wrap64 (a2 - jx))+jb)) - 1)) jb))) a1).bind fun j1q=>(some (mx 0 (wrap64 (Int.tdiv (wrap64 ((wrap64 ((wrap64 (a2 - jx))+jb)) - 1)) jb)),j1q,true)))))
def impl_nextBus.T1:Bool × List (List Nat × List Nat):=(true,[([],[]),([],[]),([],[]),([1,2],[1,2]),([0,3],[0,3]),([],[]),([5],[5]),([4,6],[4,6]),([7],[7]),([],[]),([9],[9]),([8,10],[8,10]),([11],[11]),([12,3,0,1,2,3,4,5,6,7,8,9,10,11,12],[12])])
def impl_nextBus.B1:List Nat:=[0,0,0,6,15,0,32,127,255,0,512,2047,4095,8191]
theorem impl_nextBus.tab1:rtab .any (opsOf Tryz.f45 1)=impl_nextBus.T1:=by kernel_rfl
theorem impl_nextBus.bits1:waitsOk impl_nextBus.T1.2 impl_nextBus.B1=true:=by kernel_rfl
theorem impl_nextBus.calls (jd:Int) (jb:Int) (jc:Int) (jg:Option Addr) (jh:Nat) (ja:List Int) (a1:Int) (a2:Int) (r1:Int) (r2:Int) (r3:Bool) (w:World) (hr0_3:Kd.C Ki_ w jg ja.length ja) (hc0_3:ja.length≤jh) (h:impl_nextBus.f jd jb jc ja a1 a2=some (r1,r2,r3)) :
  Calls Tryz.prog 45 #[.agg #[.int .i64 jd,.int .i64 jb,.int .i64 jc,.slice jg ja.length jh],.int .i64 a1,.int .i64 a2] w fun e w'=>e=.returned (.tuple #[.int .i64 r1,.int .i64 r2,.bool r3])∧Below w.heap.size w w':=by
 have hu26:=Tryz.underlying26
 have jm:=ai_ hr0_3
 have jn:=ai_ hc0_3
 clear hr0_3 hc0_3
 have HB:=ai_ (Below.refl w.heap.size w)
 have H:=h
 unfold impl_nextBus.f at H
 clear h
 obtain ⟨jx,A4,H⟩:=bs_ H
 (try dsimp only at H)
 by_cases c5:jb=0
 ·rw [if_pos c5] at H
  cases H
 rw [if_neg c5] at H
 have j2r:=beq_eq_false_iff_ne.mpr c5
 have j4z:=bne_iff_ne.mpr c5
 obtain ⟨ji6,j1b⟩:∃ j_:Int,(mx 0 (wrap64 (Int.tdiv (wrap64 ((wrap64 ((wrap64 (a2 - jx))+jb)) - 1)) jb)))=j_:=⟨_,rfl⟩
 replace H:(if (ji6)≥jc then (some (0,0,false)) else ((impl_timeAt.f jd jb jc ja (ji6) a1).bind fun j1q=>(some (ji6,j1q,true))))=some (r1,r2,r3):=by first|(rw [j1b] at H;exact H)|(simp only [j1b] at H ⊢;exact H)
 (try rw [j1b] at A4)
 (try (have hji6l:0≤ji6:=by (rw [← j1b];unfold mx;(repeat' split) <;> omega)))
 (try (have hji6m:0≤ji6:=by omega))
 have hji6_:(if 0 < (wrap64 (Int.tdiv (wrap64 ((wrap64 ((wrap64 (a2 - jx))+jb)) - 1)) jb)) then (wrap64 (Int.tdiv (wrap64 ((wrap64 ((wrap64 (a2 - jx))+jb)) - 1)) jb)) else 0)=ji6:=j1b
 by_cases c7:(ji6)≥jc
 ·rw [if_pos c7] at H
  have j4r:=decide_eq_true c7
  clear c7
  simp only [Option.some.injEq,Prod.mk.injEq] at H
  obtain ⟨rfl,rfl,rfl⟩:=H
  go_enter Tryz.func45,Tryz.ntmps45
  try go_wp2_with (first|((with_reducible refine gate_dst (N:=3) rfl ?_);refine bxe_ #[.int .i64 jd,.int .i64 jb,.int .i64 jc,.slice jg ja.length jh] 26 ?_;intro jq hg w8 hbox hb;have je:=ai_ (hbox);have j2s:=ai_ (gb_ hg (below_size (below_to HB)));have jv:=ai_ (gb_ hg (below_size (below_to HB)));replace HB:=ai_ (below_step (below_to HB) hb);clear hb hbox hg))
  have n0_:=ai_ (blk_drew je.out)
  have n1_:=ai_ (below_drew1 HB.out)
  clear je
  clear HB
  have je:=n0_
  have HB:=n1_
  clear n0_ n1_
  refine start_ (n:=14) (S:=fun w'=>w'.cell? ⟨jq,0,none⟩=some (.int .i64 jd)∧w'.cell? ⟨jq,1,none⟩=some (.int .i64 jb)∧w'.cell? ⟨jq,2,none⟩=some (.int .i64 jc)∧w'.cell? ⟨jq,3,none⟩=some (.slice jg ja.length jh)) (ds:=[]) (fr_ [0,14]) (by kernel_rfl) rfl rfl ⟨(blk_cell je.out 0).trans rfl,(blk_cell je.out 1).trans rfl,(blk_cell je.out 2).trans rfl,(blk_cell je.out 3).trans rfl⟩ (fun hHeld=>?_);refine with_tabW impl_nextBus.tab1 impl_nextBus.bits1 (fun HT_ HW_=>?_)
  generalize w8.drew=w9 at je HB hHeld ⊢
  refine purS_ (i:=0) (N:=some 10) (fl_ 14 1) HT_.out ?_
  refine purS_ (i:=2) (N:=some 12) (fr_ [1,1,1,11]) HT_.out ?_
  refine purS_ (i:=5) (N:=some 15) (fr_ [1,1,1,2,1,8]) HT_.out ?_
  refine purS_ (i:=9) (N:=some 19) (fr_ [1,1,1,2,1,3,1,4]) HT_.out ?_
  refine take_ (i:=1) (N:=some 11) (v:=?_) (a':=?_) (fr_ [3,2,1,3,1,4]) rfl rfl (take_ofW HT_.out HW_.out (by kernel_rfl)) (fun _ _ _ h=>h) (Or.inl ⟨by rfl,?_⟩) hHeld ?_ ?_
  rotate_left
  ·rintro w' ⟨s0,s1,s2,s3⟩
   go_simp
   with_reducible rfl
  rotate_left
  ·simp only [Act.put,List.setIfInBounds_toArray,List.set_cons_zero,List.set_cons_succ,i64_w,i32_w]
   rfl
  refine take_ (i:=6) (N:=some 16) (v:=?_) (a':=?_) (fr_ [3,2,2,2,1,4]) rfl rfl (take_ofW HT_.out HW_.out (by kernel_rfl)) (fun _ _ _ h=>h) (Or.inl ⟨by rfl,?_⟩) hHeld ?_ ?_
  rotate_left
  ·rintro w' ⟨s0,s1,s2,s3⟩
   go_simp
   with_reducible rfl
  rotate_left
  ·simp only [Act.put,List.setIfInBounds_toArray,List.set_cons_zero,List.set_cons_succ,i64_w,i32_w]
   rfl
  refine take_ (i:=10) (N:=some 20) (v:=?_) (a':=?_) (fr_ [3,2,2,2,2,3]) rfl rfl (take_ofW HT_.out HW_.out (by kernel_rfl)) (fun _ _ _ h=>h) (Or.inl ⟨by rfl,?_⟩) hHeld ?_ ?_
  rotate_left
  ·rintro w' ⟨s0,s1,s2,s3⟩
   go_simp
   with_reducible rfl
  rotate_left
  ·simp only [Act.put,List.setIfInBounds_toArray,List.set_cons_zero,List.set_cons_succ,i64_w,i32_w]
   rfl
  refine one_ (i:=3) (N:=some 13) (fr_ [4,1,2,2,2,3]) rfl rfl (one_of HT_.out (by kernel_rfl)) (by decide) (fun K hK=>?_)
  refine goes_ Tryz.func51 (by kernel_rfl) rfl #[.agg #[.int .i64 jd,.int .i64 jb,.int .i64 jc,.slice jg ja.length jh],.int .i64 0,.int .i64 a1] (by rfl) rfl rfl am_ ?_
  with_reducible refine (impl_timeAt.calls jd jb jc _ _ ja 0 a1 jx _ ?side1 ?side2 A4.out).mono ?_
  (case side1=>exact cb_ jm HB)
  (case side2=>exact jn.out)
  rintro e w10 ⟨rfl,hb⟩
  refine ⟨_,rfl,?_⟩
  have n0_:=bb_ je hb
  have n1_:=ai_ (below_step (below_to1 HB jv.out) hb)
  clear je
  clear HB
  have je:=n0_
  have HB:=n1_
  clear n0_ n1_
  (try clear hb)
  (try clear hb2)
  (try clear hk)
  (try clear hi)
  refine hK.out _ _ ⟨(blk_cell je.out 0).trans rfl,(blk_cell je.out 1).trans rfl,(blk_cell je.out 2).trans rfl,(blk_cell je.out 3).trans rfl⟩ (fun hHeld=>?_)
  clear hK K
  refine norm_ (a':=?_) ?_ ?_
  rotate_left
  ·show Act.put _ (some 13) _=_
   simp only [Act.put,List.setIfInBounds_toArray,List.set_cons_zero,List.set_cons_succ,i64_w,i32_w]
   rfl
  refine purS_ (i:=4) (N:=some 14) (fr_ [7,2,2,3]) HT_.out ?_
  refine purS_ (i:=7) (N:=some 17) (fr_ [8,1,2,3]) HT_.out ?_
  refine purS_ (i:=8) (N:=some 18) (fl_ 14 11) HT_.out ?_
  refine purS_ (i:=11) (N:=some 21) (fl_ 14 12) HT_.out ?_
  refine purS_ (i:=12) (N:=some 22) (fl_ 14 13) HT_.out ?_
  refine purS_ (i:=13) (N:=some 9) (fl_ 14 14) HT_.out ?_
  refine done_ (done_of HT_.out (by kernel_rfl)) ?_
  obtain ⟨j1y,j1z,j2a,j2b,j2c,j2d,j2e,j2f⟩:=blk4_ je
  try go_wp2
  go_ret3
  exact ⟨by first|rfl|(simp [errW_none,errW_some] <;> rfl)|(simp only [← j1b];first|rfl|(simp [errW_none,errW_some] <;> rfl))|(simp [*,errW_none,errW_some] <;> rfl),below_to1 HB jv.out⟩
 rw [if_neg c7] at H
 have j4r:=decide_eq_false c7
 clear c7
 obtain ⟨j1q,A12,H⟩:=bs_ H
 (try dsimp only at H)
 simp only [Option.some.injEq,Prod.mk.injEq] at H
 obtain ⟨rfl,rfl,rfl⟩:=H
 go_enter Tryz.func45,Tryz.ntmps45
 try go_wp2_with (first|((with_reducible refine gate_dst (N:=3) rfl ?_);refine bxe_ #[.int .i64 jd,.int .i64 jb,.int .i64 jc,.slice jg ja.length jh] 26 ?_;intro jq hg w13 hbox hb;have je:=ai_ (hbox);have j2s:=ai_ (gb_ hg (below_size (below_to HB)));have jv:=ai_ (gb_ hg (below_size (below_to HB)));replace HB:=ai_ (below_step (below_to HB) hb);clear hb hbox hg))
 have n0_:=ai_ (blk_drew je.out)
 have n1_:=ai_ (below_drew1 HB.out)
 clear je
 clear HB
 have je:=n0_
 have HB:=n1_
 clear n0_ n1_
 refine start_ (n:=14) (S:=fun w'=>w'.cell? ⟨jq,0,none⟩=some (.int .i64 jd)∧w'.cell? ⟨jq,1,none⟩=some (.int .i64 jb)∧w'.cell? ⟨jq,2,none⟩=some (.int .i64 jc)∧w'.cell? ⟨jq,3,none⟩=some (.slice jg ja.length jh)) (ds:=[]) (fr_ [0,14]) (by kernel_rfl) rfl rfl ⟨(blk_cell je.out 0).trans rfl,(blk_cell je.out 1).trans rfl,(blk_cell je.out 2).trans rfl,(blk_cell je.out 3).trans rfl⟩ (fun hHeld=>?_);refine with_tabW impl_nextBus.tab1 impl_nextBus.bits1 (fun HT_ HW_=>?_)
 generalize w13.drew=w14 at je HB hHeld ⊢
 refine purS_ (i:=0) (N:=some 10) (fl_ 14 1) HT_.out ?_
 refine purS_ (i:=2) (N:=some 12) (fr_ [1,1,1,11]) HT_.out ?_
 refine purS_ (i:=5) (N:=some 15) (fr_ [1,1,1,2,1,8]) HT_.out ?_
 refine purS_ (i:=9) (N:=some 19) (fr_ [1,1,1,2,1,3,1,4]) HT_.out ?_
 refine take_ (i:=1) (N:=some 11) (v:=?_) (a':=?_) (fr_ [3,2,1,3,1,4]) rfl rfl (take_ofW HT_.out HW_.out (by kernel_rfl)) (fun _ _ _ h=>h) (Or.inl ⟨by rfl,?_⟩) hHeld ?_ ?_
 rotate_left
 ·rintro w' ⟨s0,s1,s2,s3⟩
  go_simp
  with_reducible rfl
 rotate_left
 ·simp only [Act.put,List.setIfInBounds_toArray,List.set_cons_zero,List.set_cons_succ,i64_w,i32_w]
  rfl
 refine take_ (i:=6) (N:=some 16) (v:=?_) (a':=?_) (fr_ [3,2,2,2,1,4]) rfl rfl (take_ofW HT_.out HW_.out (by kernel_rfl)) (fun _ _ _ h=>h) (Or.inl ⟨by rfl,?_⟩) hHeld ?_ ?_
 rotate_left
 ·rintro w' ⟨s0,s1,s2,s3⟩
  go_simp
  with_reducible rfl
 rotate_left
 ·simp only [Act.put,List.setIfInBounds_toArray,List.set_cons_zero,List.set_cons_succ,i64_w,i32_w]
  rfl
 refine take_ (i:=10) (N:=some 20) (v:=?_) (a':=?_) (fr_ [3,2,2,2,2,3]) rfl rfl (take_ofW HT_.out HW_.out (by kernel_rfl)) (fun _ _ _ h=>h) (Or.inl ⟨by rfl,?_⟩) hHeld ?_ ?_
 rotate_left
 ·rintro w' ⟨s0,s1,s2,s3⟩
  go_simp
  with_reducible rfl
 rotate_left
 ·simp only [Act.put,List.setIfInBounds_toArray,List.set_cons_zero,List.set_cons_succ,i64_w,i32_w]
  rfl
 refine one_ (i:=3) (N:=some 13) (fr_ [4,1,2,2,2,3]) rfl rfl (one_of HT_.out (by kernel_rfl)) (by decide) (fun K hK=>?_)
 refine goes_ Tryz.func51 (by kernel_rfl) rfl #[.agg #[.int .i64 jd,.int .i64 jb,.int .i64 jc,.slice jg ja.length jh],.int .i64 0,.int .i64 a1] (by rfl) rfl rfl am_ ?_
 with_reducible refine (impl_timeAt.calls jd jb jc _ _ ja 0 a1 jx _ ?side1 ?side2 A4.out).mono ?_
 (case side1=>exact cb_ jm HB)
 (case side2=>exact jn.out)
 rintro e w15 ⟨rfl,hb⟩
 refine ⟨_,rfl,?_⟩
 have n0_:=bb_ je hb
 have n1_:=ai_ (below_step (below_to1 HB jv.out) hb)
 clear je
 clear HB
 have je:=n0_
 have HB:=n1_
 clear n0_ n1_
 (try clear hb)
 (try clear hb2)
 (try clear hk)
 (try clear hi)
 refine hK.out _ _ ⟨(blk_cell je.out 0).trans rfl,(blk_cell je.out 1).trans rfl,(blk_cell je.out 2).trans rfl,(blk_cell je.out 3).trans rfl⟩ (fun hHeld=>?_)
 clear hK K
 refine norm_ (a':=?_) ?_ ?_
 rotate_left
 ·show Act.put _ (some 13) _=_
  simp only [Act.put,List.setIfInBounds_toArray,List.set_cons_zero,List.set_cons_succ,i64_w,i32_w]
  rfl
 refine purS_ (i:=4) (N:=some 14) (fr_ [7,2,2,3]) HT_.out ?_
 refine purS_ (i:=7) (N:=some 17) (fr_ [8,1,2,3]) HT_.out ?_
 refine purS_ (i:=8) (N:=some 18) (fl_ 14 11) HT_.out ?_
 refine purS_ (i:=11) (N:=some 21) (fl_ 14 12) HT_.out ?_
 refine purS_ (i:=12) (N:=some 22) (fl_ 14 13) HT_.out ?_
 refine purS_ (i:=13) (N:=some 9) (fl_ 14 14) HT_.out ?_
 refine done_ (done_of HT_.out (by kernel_rfl)) ?_
 obtain ⟨j2v,j2w,j2x,j2y,j2z,j3a,j3b,j3c⟩:=blk4_ je
 try go_wp2_with (first|((with_reducible refine gate_callee (f:=51) rfl ?_);refine goesL_ (some 31) rfl rfl Tryz.func51 (by kernel_rfl) rfl #[.agg #[.int .i64 jd,.int .i64 jb,.int .i64 jc,.slice jg ja.length jh],.int .i64 ji6,.int .i64 a1] rfl (by (try simp only [List.map_toArray,List.map_cons,List.map_nil]);first|done|(simp only [j1b];rfl)|rfl|(simp only [List.length_drop,List.length_take];rfl)) ?_;(with_reducible refine (impl_timeAt.calls jd jb jc _ _ ja ji6 a1 j1q _ ?side1 jn.out A12.out).mono ?_);(case side1=>exact cb_ jm HB);rintro e w17 ⟨rfl,hb⟩;refine ⟨_,rfl,?_⟩;replace je:=bb_ je hb;replace HB:=ai_ (below_step (below_to1 HB jv.out) hb);clear hb))
 go_ret3
 exact ⟨by first|rfl|(simp [errW_none,errW_some] <;> rfl)|(simp only [← j1b];first|rfl|(simp [errW_none,errW_some] <;> rfl))|(simp [*,errW_none,errW_some] <;> rfl),below_to1 HB jv.out⟩
def impl_NextBus.f (k:Nat) (jd:Int) (jb:Int) (jc:Int) (ja:List Int) (a1:Int) (a2:Int):Option (Int × Int × Bool):=(impl_hasStops.f k jd jb jc ja (([a1]:List Int))).bind fun j1r=>(if j1r=true then ((impl_isMinute.f a2).bind fun j1s=>(if j1s=true then ((impl_nextBus.f jd jb jc ja a1 a2).bind fun bt241=>(some (bt241.1,bt241.2.1,bt241.2.2))) else (some (0,0,false)))) else (some (0,0,false)))
theorem impl_NextBus.calls (k:Nat) (jd:Int) (jb:Int) (jc:Int) (jg:Option Addr) (jh:Nat) (ja:List Int) (a1:Int) (a2:Int) (r1:Int) (r2:Int) (r3:Bool) (w:World) (hr0_3:Kd.C Ki_ w jg ja.length ja) (hc0_3:ja.length≤jh) (h:impl_NextBus.f k jd jb jc ja a1 a2=some (r1,r2,r3)) :
  Calls Tryz.prog 6 #[.agg #[.int .i64 jd,.int .i64 jb,.int .i64 jc,.slice jg ja.length jh],.int .i64 a1,.int .i64 a2] w fun e w'=>e=.returned (.tuple #[.int .i64 r1,.int .i64 r2,.bool r3])∧Below w.heap.size w w':=by
 have hu26:=Tryz.underlying26
 have jm:=ai_ hr0_3
 have jn:=ai_ hc0_3
 clear hr0_3 hc0_3
 have HB:=ai_ (Below.refl w.heap.size w)
 have H:=h
 unfold impl_NextBus.f at H
 clear h
 obtain ⟨j1m,hy236⟩:∃ y_:List Int,y_=(([a1]:List Int)):=⟨_,rfl⟩
 replace H:((impl_hasStops.f k jd jb jc ja j1m).bind fun j1r=>(if j1r=true then ((impl_isMinute.f a2).bind fun j1s=>(if j1s=true then ((impl_nextBus.f jd jb jc ja a1 a2).bind fun bt241=>(some (bt241.1,bt241.2.1,bt241.2.2))) else (some (0,0,false)))) else (some (0,0,false))))=some (r1,r2,r3):=by first|(rw [hy236];with_reducible exact H)|(have H2_:=(Option.bind_some _ _).symm.trans H;rw [hy236];with_reducible exact H2_)|(have H2_:=(Option.bind_some _ _).symm.trans H;with_reducible exact H2_)|with_reducible exact H|(rw [hy236];exact H)|exact H
 have jw:=ai_ hy236
 clear hy236
 obtain ⟨j1r,A4,H⟩:=bs_ H
 (try dsimp only at H)
 by_cases c5:j1r=true
 rotate_left
 ·replace c5:=Bool.eq_false_iff.mpr c5
  subst c5
  rw [if_neg ft_] at H
  simp only [Option.some.injEq,Prod.mk.injEq] at H
  obtain ⟨rfl,rfl,rfl⟩:=H
  go_enter Tryz.func6,Tryz.ntmps6
  go_wp2_with (first|((with_reducible refine gate_dst (N:=3) rfl ?_);refine bxe_ #[.int .i64 jd,.int .i64 jb,.int .i64 jc,.slice jg ja.length jh] 26 ?_;intro j2l hg w23 hbox hb;have ji:=ai_ (hbox);have j2m:=ai_ (gb_ hg (below_size (below_to HB)));have jl:=ai_ (gb_ hg (below_size (below_to HB)));replace HB:=ai_ (below_step (below_to HB) hb);clear hb hbox hg;obtain ⟨j3d,j3e,j3f,j3g,j3h,j3i,j3j,j3k⟩:=blk4_ ji)|((with_reducible refine gate_dst (N:=11) rfl ?_);refine Kd.R_lit Ki_ _ 3 ?hg (N:=11) ?hd (xs:=([a1]:List Int)) (inner:=[.int .i64 a1]) (ok:=fun _=>True) (okp:=fun _=>True) ?hr ?hp (fun _ hk=>hk) trivial (Below.refl _ _) (Nat.le_refl _) (by simp) ?_;(case hd=>rfl);(case hg=>rfl);(case hr=>first|(go_simp;done)|(go_simp;rfl));(case hp=>exact (Reps.one (show Kd.M Ki_ _ _ _ a1 [.int .i64 a1] from rfl) (Reps.none _ _)));intro j2t w25 j1t hb hg_ hnew_;clear hg_ hnew_;(first|rw [← jw.out] at j1t|(simp only [Int.reduceToNat] at j1t;rw [← jw.out] at j1t));have jk:=ai_ (Kd.R_lower j1t (below_size (below_to1 HB jl.out)));replace ji:=bb_ ji hb;replace HB:=ai_ (below_step (below_to1 HB jl.out) hb);clear hb j1t;obtain ⟨Ao27,co27,eo27⟩:=Kd.R_slice jk.out;subst eo27)|((with_reducible refine gate_callee (f:=43) rfl ?_);refine gl_ (some 12) Tryz.func43 #[.agg #[.int .i64 jd,.int .i64 jb,.int .i64 jc,.slice jg ja.length jh],.slice Ao27 j1m.length co27] ?_;(with_reducible refine (impl_hasStops.calls k jd jb jc _ _ ja _ _ j1m false _ ?side1 jn.out ?side3 ?side4 A4.out).mono ?_);(case side1=>exact cb_ jm HB);(case side3=>exact cR_ jk);(case side4=>exact (Kd.R_reads' jk.out).2.1);rintro e w28 ⟨rfl,hb⟩;refine ⟨_,rfl,?_⟩;replace jk:=rb_ jk hb;replace ji:=bb_ ji hb;replace HB:=ai_ (below_step (below_to1 HB jl.out) hb);clear hb))
  go_ret3
  exact ⟨rtE_,below_to1 HB jl.out⟩
 subst c5
 rw [if_pos rfl] at H
 obtain ⟨j1s,A6,H⟩:=bs_ H
 (try dsimp only at H)
 by_cases c7:j1s=true
 ·subst c7
  rw [if_pos rfl] at H
  obtain ⟨⟨j4s,j4t,j4u⟩,A8,H⟩:=bs_ H
  (try dsimp only at H)
  simp only [Option.some.injEq,Prod.mk.injEq] at H
  obtain ⟨rfl,rfl,rfl⟩:=H
  go_enter Tryz.func6,Tryz.ntmps6
  go_wp2_with (first|((with_reducible refine gate_dst (N:=3) rfl ?_);refine bxe_ #[.int .i64 jd,.int .i64 jb,.int .i64 jc,.slice jg ja.length jh] 26 ?_;intro j2l hg w9 hbox hb;have ji:=ai_ (hbox);have j2m:=ai_ (gb_ hg (below_size (below_to HB)));have jl:=ai_ (gb_ hg (below_size (below_to HB)));replace HB:=ai_ (below_step (below_to HB) hb);clear hb hbox hg;obtain ⟨j3l,j3m,j3n,j3o,j3p,j3q,j3r,j3s⟩:=blk4_ ji)|((with_reducible refine gate_dst (N:=11) rfl ?_);refine Kd.R_lit Ki_ _ 3 ?hg (N:=11) ?hd (xs:=([a1]:List Int)) (inner:=[.int .i64 a1]) (ok:=fun _=>True) (okp:=fun _=>True) ?hr ?hp (fun _ hk=>hk) trivial (Below.refl _ _) (Nat.le_refl _) (by simp) ?_;(case hd=>rfl);(case hg=>rfl);(case hr=>first|(go_simp;done)|(go_simp;rfl));(case hp=>exact (Reps.one (show Kd.M Ki_ _ _ _ a1 [.int .i64 a1] from rfl) (Reps.none _ _)));intro j2t w11 j1u hb hg_ hnew_;clear hg_ hnew_;(first|rw [← jw.out] at j1u|(simp only [Int.reduceToNat] at j1u;rw [← jw.out] at j1u));have jk:=ai_ (Kd.R_lower j1u (below_size (below_to1 HB jl.out)));replace ji:=bb_ ji hb;replace HB:=ai_ (below_step (below_to1 HB jl.out) hb);clear hb j1u;obtain ⟨Ao13,co13,eo13⟩:=Kd.R_slice jk.out;subst eo13)|((with_reducible refine gate_callee (f:=43) rfl ?_);refine gl_ (some 12) Tryz.func43 #[.agg #[.int .i64 jd,.int .i64 jb,.int .i64 jc,.slice jg ja.length jh],.slice Ao13 j1m.length co13] ?_;(with_reducible refine (impl_hasStops.calls k jd jb jc _ _ ja _ _ j1m true _ ?side1 jn.out ?side3 ?side4 A4.out).mono ?_);(case side1=>exact cb_ jm HB);(case side3=>exact cR_ jk);(case side4=>exact (Kd.R_reads' jk.out).2.1);rintro e w14 ⟨rfl,hb⟩;refine ⟨_,rfl,?_⟩;replace jk:=rb_ jk hb;replace ji:=bb_ ji hb;replace HB:=ai_ (below_step (below_to1 HB jl.out) hb);clear hb)|(go_at_call 44;(with_reducible refine (impl_isMinute.calls a2 true _ A6.out).mono ?_);rintro e w' ⟨rfl,⟨nd,rfl⟩⟩;obtain ⟨j3t,j3u,j3v,j3w,j3x,j3y,j3z,j4a⟩:=blk4_ ji)|((with_reducible refine gate_callee (f:=45) rfl ?_);refine gl_ (some 22) Tryz.func45 #[.agg #[.int .i64 jd,.int .i64 jb,.int .i64 jc,.slice jg ja.length jh],.int .i64 a1,.int .i64 a2] ?_;(with_reducible refine (impl_nextBus.calls jd jb jc _ _ ja a1 a2 j4s j4t j4u _ ?side1 jn.out A8.out).mono ?_);(case side1=>repeat (first|exact (Kd.C_below jm.out (below_to1 HB jl.out))|(with_reducible refine Kd.C_alloc ?_ _)|(with_reducible refine Kd.C_drewN ?_ _)|(with_reducible refine Kd.C_drew ?_)));rintro e w16 ⟨rfl,hb⟩;refine ⟨_,rfl,?_⟩;replace jk:=rb_ jk hb;replace ji:=bb_ ji hb;replace HB:=ai_ (below_step (below_to1 HB jl.out) hb);clear hb))
  go_ret3
  exact ⟨rtE_,below_to1 HB jl.out⟩
 ·replace c7:=Bool.eq_false_iff.mpr c7
  subst c7
  rw [if_neg ft_] at H
  simp only [Option.some.injEq,Prod.mk.injEq] at H
  obtain ⟨rfl,rfl,rfl⟩:=H
  go_enter Tryz.func6,Tryz.ntmps6
  go_wp2_with (first|((with_reducible refine gate_dst (N:=3) rfl ?_);refine bxe_ #[.int .i64 jd,.int .i64 jb,.int .i64 jc,.slice jg ja.length jh] 26 ?_;intro j2l hg w17 hbox hb;have ji:=ai_ (hbox);have j2m:=ai_ (gb_ hg (below_size (below_to HB)));have jl:=ai_ (gb_ hg (below_size (below_to HB)));replace HB:=ai_ (below_step (below_to HB) hb);clear hb hbox hg;obtain ⟨j4b,j4c,j4d,j4e,j4f,j4g,j4h,j4i⟩:=blk4_ ji)|((with_reducible refine gate_dst (N:=11) rfl ?_);refine Kd.R_lit Ki_ _ 3 ?hg (N:=11) ?hd (xs:=([a1]:List Int)) (inner:=[.int .i64 a1]) (ok:=fun _=>True) (okp:=fun _=>True) ?hr ?hp (fun _ hk=>hk) trivial (Below.refl _ _) (Nat.le_refl _) (by simp) ?_;(case hd=>rfl);(case hg=>rfl);(case hr=>first|(go_simp;done)|(go_simp;rfl));(case hp=>exact (Reps.one (show Kd.M Ki_ _ _ _ a1 [.int .i64 a1] from rfl) (Reps.none _ _)));intro j2t w19 j1v hb hg_ hnew_;clear hg_ hnew_;(first|rw [← jw.out] at j1v|(simp only [Int.reduceToNat] at j1v;rw [← jw.out] at j1v));have jk:=ai_ (Kd.R_lower j1v (below_size (below_to1 HB jl.out)));replace ji:=bb_ ji hb;replace HB:=ai_ (below_step (below_to1 HB jl.out) hb);clear hb j1v;obtain ⟨Ao21,co21,eo21⟩:=Kd.R_slice jk.out;subst eo21)|((with_reducible refine gate_callee (f:=43) rfl ?_);refine gl_ (some 12) Tryz.func43 #[.agg #[.int .i64 jd,.int .i64 jb,.int .i64 jc,.slice jg ja.length jh],.slice Ao21 j1m.length co21] ?_;(with_reducible refine (impl_hasStops.calls k jd jb jc _ _ ja _ _ j1m true _ ?side1 jn.out ?side3 ?side4 A4.out).mono ?_);(case side1=>exact cb_ jm HB);(case side3=>exact cR_ jk);(case side4=>exact (Kd.R_reads' jk.out).2.1);rintro e w22 ⟨rfl,hb⟩;refine ⟨_,rfl,?_⟩;replace jk:=rb_ jk hb;replace ji:=bb_ ji hb;replace HB:=ai_ (below_step (below_to1 HB jl.out) hb);clear hb)|(go_at_call 44;(with_reducible refine (impl_isMinute.calls a2 false _ A6.out).mono ?_);rintro e w' ⟨rfl,⟨nd,rfl⟩⟩))
  go_ret3
  exact ⟨rtE_,below_to1 HB jl.out⟩
def spec_l1In.f (a0:Int) (a1:Int) (a2:Int):Option (Bool):=if a0≥a1 then (some (decide (a0≤a2))) else (some false)
theorem spec_l1In.calls (a0:Int) (a1:Int) (a2:Int) (r:Bool) (w:World) (h:spec_l1In.f a0 a1 a2=some r) :
  Calls Tryz.prog 64 #[.int .i64 a0,.int .i64 a1,.int .i64 a2] w fun e w'=>e=.returned (.bool r)∧Drawn0 w w':=by
 have H:=h
 unfold spec_l1In.f at H
 clear h
 by_cases c4:a0≥a1
 ·rw [if_pos c4] at H
  have j2g:=decide_eq_true c4
  clear c4
  obtain rfl:=Option.some.inj H
  go_enter Tryz.func64,Tryz.ntmps64
  go_wp2
  go_ret
  exact ⟨rt_,d0_⟩
 ·rw [if_neg c4] at H
  have j2g:=decide_eq_false c4
  clear c4
  obtain rfl:=Option.some.inj H
  go_enter Tryz.func64,Tryz.ntmps64
  go_wp2
  go_ret
  exact ⟨rt_,d0_⟩
def spec_l1Rising.l0:Nat→List Int→Int→Int→List Int→Int→Int→Option (Bool)
 | 0,_,_,_,_,_,_=>none
 | k+1,x0,x1,x2,x9,x10,x11=>if x11 < x10 then (if 0≤x11 then (if x11 < (x9.length:Int) then ((spec_l1In.f (rd x9 x11) x1 x2).bind fun j2o=>(if j2o=true then (if x11 > 0 then (if 0≤(wrap64 (x11 - 1)) then (if (wrap64 (x11 - 1)) < (x0.length:Int) then (if (rd x0 (wrap64 (x11 - 1)))≥(rd x9 x11) then (some false) else (spec_l1Rising.l0 k x0 x1 x2 x9 x10 (wrap64 (x11+1)))) else (none)) else (none)) else (spec_l1Rising.l0 k x0 x1 x2 x9 x10 (wrap64 (x11+1)))) else (some false))) else (none)) else (none)) else (some true)
def spec_l1Rising.f (k:Nat) (l0:List Int) (a1:Int) (a2:Int):Option (Bool):=spec_l1Rising.l0 k l0 a1 a2 l0 (l0.length:Int) 0
theorem spec_l1Rising.calls (k:Nat) (A0:Option Addr) (c0:Nat) (l0:List Int) (a1:Int) (a2:Int) (r:Bool) (w:World) (hr0:Kd.C Ki_ w A0 l0.length l0) (hc0:l0.length≤c0) (h:spec_l1Rising.f k l0 a1 a2=some r) :
  Calls Tryz.prog 72 #[.slice A0 l0.length c0,.int .i64 a1,.int .i64 a2] w fun e w'=>e=.returned (.bool r)∧Drawn0 w w':=by
 have HR0:=ai_ hr0
 have HC0:=ai_ hc0
 clear hr0 hc0
 have H:=h
 unfold spec_l1Rising.f at H
 clear h
 have H':=ai_ H
 clear H
 go_enter Tryz.func72,Tryz.ntmps72
 go_wp2
 go_loopg [11] k (fun kq v11 w' => ∃ (jf:Int),v11=.int .i64 jf∧Aside0 (spec_l1Rising.l0 kq l0 a1 a2 l0 (l0.length:Int) jf=some r)∧Aside0 (kq≤k)∧Drawn0 w w')
 case atStart=>exact ⟨(0),rt_,H',⟨Nat.le_refl _⟩,d0_⟩
 clear H'
 try clear p2
 obtain ⟨jf,rfl,HA,HK1,⟨m1,rfl⟩⟩:=hrel
 cases gk with
 | zero=>exact absurd HA.out (by simp [spec_l1Rising.l0])
 | succ k1 =>
  have H:=HA.out
  clear HA
  simp only [spec_l1Rising.l0] at H
  by_cases c4:jf < (l0.length:Int)
  rotate_left
  ·rw [if_neg c4] at H
   have j2g:=decide_eq_false c4
   clear c4
   obtain rfl:=Option.some.inj H
   go_wp2
   go_ret
   exact ⟨rt_,d0_⟩
  rw [if_pos c4] at H
  have j2g:=decide_eq_true c4
  clear c4
  by_cases c5:0≤jf
  rotate_left
  ·rw [if_neg c5] at H
   cases H
  rw [if_pos c5] at H
  have j2r:=decide_eq_true c5
  clear c5
  by_cases c6:jf < (l0.length:Int)
  rotate_left
  ·rw [if_neg c6] at H
   cases H
  rw [if_pos c6] at H
  have j5a:=decide_eq_true c6
  clear c6
  obtain ⟨j2o,A7,H⟩:=bs_ H
  (try dsimp only at H)
  by_cases c8:j2o=true
  rotate_left
  ·replace c8:=Bool.eq_false_iff.mpr c8
   subst c8
   rw [if_neg ft_] at H
   obtain rfl:=Option.some.inj H
   have jo:0≤(jf:Int):=odt_
   have jp:jf < (l0.length:Int):=odt_
   obtain ⟨j1c,e244,jy⟩:=Kd.at_int HR0.out jf jo jp
   cases e244
   replace jo:=eq_true jo
   replace jp:=eq_true jp
   go_wp2_with (first|((with_reducible refine gate_callee (f:=64) rfl ?_);refine gl_ (some 19) Tryz.func64 #[.int .i64 (rd l0 jf),.int .i64 a1,.int .i64 a2] ?_;(with_reducible refine (spec_l1In.calls (rd l0 jf) a1 a2 false _ A7.out).mono ?_);rintro e w' ⟨rfl,⟨nd,rfl⟩⟩;refine ⟨_,rfl,?_⟩))
   go_ret
   exact ⟨rt_,d0_⟩
  subst c8
  rw [if_pos rfl] at H
  by_cases c9:jf > 0
  rotate_left
  ·rw [if_neg c9] at H
   have j4v:=decide_eq_false c9
   clear c9
   have H':=ai_ H
   clear H
   have jo:0≤(jf:Int):=odt_
   have jp:jf < (l0.length:Int):=odt_
   obtain ⟨j1c,e244,jy⟩:=Kd.at_int HR0.out jf jo jp
   cases e244
   replace jo:=eq_true jo
   replace jp:=eq_true jp
   go_wp2_with (first|((with_reducible refine gate_callee (f:=64) rfl ?_);refine gl_ (some 19) Tryz.func64 #[.int .i64 (rd l0 jf),.int .i64 a1,.int .i64 a2] ?_;(with_reducible refine (spec_l1In.calls (rd l0 jf) a1 a2 true _ A7.out).mono ?_);rintro e w' ⟨rfl,⟨nd,rfl⟩⟩;refine ⟨_,rfl,?_⟩))
   go_roundg k1
   case measure=>have:=HK1.out;omega
   case rel=>exact ⟨(wrap64 (jf+1)),rt_,H',⟨by have:=HK1.out;omega⟩,d0_⟩
  rw [if_pos c9] at H
  have j4v:=decide_eq_true c9
  clear c9
  obtain ⟨jr,j1d⟩:∃ j_:Int,(wrap64 (jf - 1))=j_:=⟨_,rfl⟩
  replace H:(if 0≤(jr) then (if (jr) < (l0.length:Int) then (if (rd l0 (jr))≥(rd l0 jf) then (some false) else (spec_l1Rising.l0 k1 l0 a1 a2 l0 (l0.length:Int) (wrap64 (jf+1)))) else (none)) else (none))=some r:=by first|(rw [j1d] at H;exact H)|(simp only [j1d] at H ⊢;exact H)
  (try rw [j1d] at A7)
  have j4w:(IntKind.i64.wrap (jf - 1))=jr:=(i64_w _).trans j1d
  by_cases c11:0≤(jr)
  rotate_left
  ·rw [if_neg c11] at H
   cases H
  rw [if_pos c11] at H
  have j4x:=decide_eq_true c11
  clear c11
  by_cases c12:(jr) < (l0.length:Int)
  rotate_left
  ·rw [if_neg c12] at H
   cases H
  rw [if_pos c12] at H
  have j4y:=decide_eq_true c12
  clear c12
  by_cases c13:(rd l0 (jr))≥(rd l0 jf)
  ·rw [if_pos c13] at H
   have j2u:=decide_eq_true c13
   clear c13
   obtain rfl:=Option.some.inj H
   have jo:0≤(jf:Int):=odt_
   have jp:jf < (l0.length:Int):=odt_
   obtain ⟨j1c,e244,jy⟩:=Kd.at_int HR0.out jf jo jp
   cases e244
   replace jo:=eq_true jo
   replace jp:=eq_true jp
   go_wp2_with (first|((with_reducible refine gate_callee (f:=64) rfl ?_);refine gl_ (some 19) Tryz.func64 #[.int .i64 (rd l0 jf),.int .i64 a1,.int .i64 a2] ?_;(with_reducible refine (spec_l1In.calls (rd l0 jf) a1 a2 true _ A7.out).mono ?_);rintro e w' ⟨rfl,⟨nd,rfl⟩⟩;refine ⟨_,rfl,?_⟩;have j1n:0≤((jr):Int):=of_decide_eq_true (by first|(with_reducible assumption)|assumption);have j1o:(jr) < (l0.length:Int):=of_decide_eq_true (by first|(with_reducible assumption)|assumption);obtain ⟨j1w,e246,j2h⟩:=Kd.at_int HR0.out (jr) j1n j1o;obtain rfl:j1c=j1w:=(by injection e246);replace j1n:=eq_true j1n;replace j1o:=eq_true j1o))
   go_ret
   exact ⟨by first|rfl|(simp;done)|(simp only [← j1d] <;> (first|rfl|simp))|(simp [*];done),d0_⟩
  ·rw [if_neg c13] at H
   have j2u:=decide_eq_false c13
   clear c13
   have H':=ai_ H
   clear H
   have jo:0≤(jf:Int):=odt_
   have jp:jf < (l0.length:Int):=odt_
   obtain ⟨j1c,e244,jy⟩:=Kd.at_int HR0.out jf jo jp
   cases e244
   replace jo:=eq_true jo
   replace jp:=eq_true jp
   go_wp2_with (first|((with_reducible refine gate_callee (f:=64) rfl ?_);refine gl_ (some 19) Tryz.func64 #[.int .i64 (rd l0 jf),.int .i64 a1,.int .i64 a2] ?_;(with_reducible refine (spec_l1In.calls (rd l0 jf) a1 a2 true _ A7.out).mono ?_);rintro e w' ⟨rfl,⟨nd,rfl⟩⟩;refine ⟨_,rfl,?_⟩;have j1n:0≤((jr):Int):=of_decide_eq_true (by first|(with_reducible assumption)|assumption);have j1o:(jr) < (l0.length:Int):=of_decide_eq_true (by first|(with_reducible assumption)|assumption);obtain ⟨j1w,e246,j2h⟩:=Kd.at_int HR0.out (jr) j1n j1o;obtain rfl:j1c=j1w:=(by injection e246);replace j1n:=eq_true j1n;replace j1o:=eq_true j1o))
   go_roundg k1
   case measure=>have:=HK1.out;omega
   case rel=>exact ⟨(wrap64 (jf+1)),rt_,H',⟨by have:=HK1.out;omega⟩,d0_⟩
end Go.Proofs.YthdnodmidbcgpaaGreatDoor.QR
