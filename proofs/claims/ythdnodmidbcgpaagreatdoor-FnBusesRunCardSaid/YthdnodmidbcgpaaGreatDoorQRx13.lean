import Derived.Test.YthdnodmidbcgpaaGreatDoorQRx2
namespace Go.Proofs.YthdnodmidbcgpaaGreatDoor.QR
open Go.Proofs.YthdnodmidbcgpaaGreatDoor.X Go.RowKit Go.Proofs.YthdnodmidbcgpaaGreatDoorW.PrintWords Go.Proofs.YthdnodmidbcgpaaGreatDoorW.PrintLast Go.Proofs.YthdnodmidbcgpaaGreatDoorW.PrintMore
set_option maxHeartbeats 8000000
set_option maxRecDepth 100000
attribute [local go_sem] max2_int min2_int max_two min_two max_three min_three max_four min_four
set_option linter.unusedVariables false
set_option linter.unusedSimpArgs false
def spec_DrawMeanWait.i.f (k:Nat) (l0:List Int) (jy:List Int) (j1s:Int) (j1t:Int):Option (Int × Int × Int × List Int × Int × Int × Int × Int × Int):=(spec_l1Cur_line.f k jy j1s j1t).bind fun bt459=>((spec_l1Cur_minute.f jy bt459.2.2.2.2.1 bt459.2.2.2.2.2).bind fun bt467=>((spec_l1Cur_stop.f jy bt467.2.1 bt467.2.2).bind fun bt471=>((spec_l1Cur_pick.f jy bt471.2.1 bt471.2.2 30).bind fun bt474=>((spec_l1Cur_pick.f jy bt474.2.1 bt474.2.2 9).bind fun bt477=>(some (bt459.1,bt459.2.1,bt459.2.2.1,bt459.2.2.2.1,bt471.1,bt467.1,wrap64 ((wrap64 (bt467.1+bt474.1)) - (wrap64 (Int.tdiv bt477.1 8))),bt477.2.1,bt477.2.2))))))
def spec_DrawMeanWait.T3:Bool × List (List Nat × List Nat):=(true,[([],[]),([],[]),([1],[1]),([],[]),([],[]),([],[]),([5,2],[5]),([4,6],[4,6]),([],[]),([8,6],[8]),([9],[9]),([7,10],[7,10]),([0,9,0],[0]),([2,12,0,1,2,12],[2]),([3,13,0,1,2,3,12,13],[3]),([11,14,0,1,2,3,4,5,6,7,8,9,10,11,12,13,14],[11])])
def spec_DrawMeanWait.B3:List Nat:=[0,0,2,0,0,0,38,118,0,358,870,2038,871,4967,13167,32767]
theorem spec_DrawMeanWait.tab3:rtab .any (opsOf Tryz.f30 3)=spec_DrawMeanWait.T3:=by kernel_rfl
theorem spec_DrawMeanWait.bits3:waitsOk spec_DrawMeanWait.T3.2 spec_DrawMeanWait.B3=true:=by kernel_rfl
def spec_DrawMeanWait.f (k:Nat) (l0:List Int):Option (Int × Int × Int × List Int × Int × Int × Int):=(spec_DrawMeanWait.i.f k l0 l0 0 0).bind fun b=>some (b.1,b.2.1,b.2.2.1,b.2.2.2.1,b.2.2.2.2.1,b.2.2.2.2.2.1,b.2.2.2.2.2.2.1)
theorem spec_DrawMeanWait.calls (k:Nat) (A0:Option Addr) (c0:Nat) (l0:List Int) (r1:Int) (r2:Int) (r3:Int) (r4:List Int) (r5:Int) (r6:Int) (r7:Int) (wz_:World) (hr0:Kd.C (Kd.int .u8) wz_ A0 l0.length l0) (hc0:l0.length≤c0) (h:spec_DrawMeanWait.f k l0=some (r1,r2,r3,r4,r5,r6,r7)) :
  Calls Tryz.prog 30 #[.slice A0 l0.length c0] wz_ fun e w' => ∃ Aa:Value,e=.returned (.tuple #[.agg #[.int .i64 r1,.int .i64 r2,.int .i64 r3,Aa],.int .i64 r5,.int .i64 r6,.int .i64 r7])∧Kd.R Ki_ 3 w' wz_.heap.size (fun _=>True) Aa r4∧Below wz_.heap.size wz_ w':=by
 obtain ⟨b_,hb0_,h⟩:=Option.bind_eq_some_iff.mp h
 obtain ⟨r1z_,r2z_,r3z_,r4z_,r5z_,r6z_,r7z_,r8,r9⟩:=b_
 simp only [Option.some.injEq,Prod.mk.injEq] at h
 obtain ⟨hq0_,hq1_,hq2_,hq3_,hq4_,hq5_,hq6_⟩:=h
 obtain rfl:=hq0_.symm
 obtain rfl:=hq1_.symm
 obtain rfl:=hq2_.symm
 obtain rfl:=hq3_.symm
 obtain rfl:=hq4_.symm
 obtain rfl:=hq5_.symm
 obtain rfl:=hq6_.symm
 suffices hh_:∀ (w0 w wq:World) (g jc:Nat),w0=wz_→w=wz_→jc=wz_.heap.size→g=wz_.heap.size+1→wq=(wz_.alloc (.cells #[.int .i64 0,.int .i64 0,.int .i64 0,.slice none 0 0] 26 (0,0))).alloc (.cells #[.slice A0 l0.length c0,.int .i64 0,.int .u64 0] 55 (0,0))→Calls Tryz.prog 30 #[.slice A0 l0.length c0] wz_ fun e w' => ∃ Aa:Value,e=.returned (.tuple #[.agg #[.int .i64 r1,.int .i64 r2,.int .i64 r3,Aa],.int .i64 r5,.int .i64 r6,.int .i64 r7])∧Kd.R Ki_ 3 w' w.heap.size (fun _=>True) Aa r4∧IsS55 w0 w' g l0 r8 r9∧Below w0.heap.size w0 w'∧KeepBut w w' g none by
  refine (hh_ wz_ wz_ _ _ _ rfl rfl rfl rfl rfl).mono ?_
  rintro e w' ⟨Aa,he_,hr0_,_,hb_,_⟩
  exact ⟨Aa,he_,hr0_,hb_⟩
 intro w0 w wq g jc HW0_ HWW_ HGgb458_ HG_ HW_
 have hB1_:Below wz_.heap.size wz_ (wz_.alloc (.cells #[.int .i64 0,.int .i64 0,.int .i64 0,.slice none 0 0] 26 (0,0))):=(below_alloc (Below.refl _ _) _)
 have hs1_:(wz_.alloc (.cells #[.int .i64 0,.int .i64 0,.int .i64 0,.slice none 0 0] 26 (0,0))).heap.size=g:=by rw [HG_];exact (Array.size_push ..)
 have hI:IsS55 w0 wq g l0 0 0:=by rw [HW_,HW0_,← hs1_];exact IsS55.new _ _ _ c0 _ _ _ hB1_ hr0
 have hB:Below w0.heap.size w0 wq:=by rw [HW0_,HW_];exact below_alloc hB1_ _
 have hBw_:Below w.heap.size w wq:=by rw [HWW_,HW_];exact below_alloc hB1_ _
 have hle_:w0.heap.size≤w.heap.size:=by rw [HW0_,HWW_];exact Nat.le_refl _
 have jd:=ai_ (show wq.heap[jc]?=some (.cells #[.int .i64 0,.int .i64 0,.int .i64 0,.slice none 0 0] 26 (0,0)) from by rw [HW_,HGgb458_];exact blk_alloc ((by have h_:=blk_new wz_ (.cells #[.int .i64 0,.int .i64 0,.int .i64 0,.slice none 0 0] 26 (0,0));rw [show wz_.heap.size=wz_.heap.size from rfl] at h_;exact h_)) _)
 have jj:=ai_ (show w.heap.size≤jc by rw [HWW_,HGgb458_];omega)
 have jo:=ai_ (show w0.heap.size≤jc by rw [HW0_,HGgb458_];omega)
 have jf:=ai_ (show g≠jc by rw [HG_,HGgb458_];omega)
 have jk:=ai_ (show jc≠g by rw [HG_,HGgb458_];omega)
 have hr0':Kd.C (Kd.int .u8) w A0 l0.length l0:=by rw [HWW_];exact hr0
 clear hr0
 have hr0:=hr0'
 clear hr0'
 have HWZ:=ai_ HW_
 have HGZ:=ai_ HG_
 have HGZgb458:=ai_ HGgb458_
 clear HW_ HG_ HW0_ HWW_ HGgb458_ hs1_ hB1_
 have h:=hb0_
 clear hb0_
 have hu26:=Tryz.underlying26
 have HR0:=ai_ hr0
 have HC0:=ai_ hc0
 clear hr0 hc0
 have HI1:=ai_ hI
 have HK:=ai_ (KeepBut.of_below hBw_ g none)
 have HL:=ai_ hle_
 clear hI
 have HW0:=ai_ hle_
 have HB:=ai_ hB
 clear hB
 have H:=h
 unfold spec_DrawMeanWait.f at H
 clear h
 obtain ⟨⟨jl,jm,jp,jn,j1e,j1f⟩,A3,H⟩:=bs_ H
 (try dsimp only at H)
 obtain ⟨⟨j1u,j1c,j1d⟩,A4,H⟩:=bs_ H
 (try dsimp only at H)
 obtain ⟨⟨j1v,j1g,j1h⟩,A5,H⟩:=bs_ H
 (try dsimp only at H)
 obtain ⟨⟨j1w,j1i,j1j⟩,A6,H⟩:=bs_ H
 (try dsimp only at H)
 obtain ⟨⟨j1x,j1y,j1z⟩,A7,H⟩:=bs_ H
 (try dsimp only at H)
 simp only [Option.some.injEq,Prod.mk.injEq] at H
 obtain ⟨rfl,rfl,rfl,rfl,rfl,rfl,rfl,rfl,rfl⟩:=H
 go_enter Tryz.func30,Tryz.ntmps30
 go_upto_region 2 with (fail)
 rw [← HWZ.out,← HGZ.out,← HGZgb458.out]
 try go_wp2_with (first|((with_reducible refine gate_dst (N:=2) rfl ?_);refine bxe_ #[.int .i64 0,.int .i64 0,.int .i64 0,.slice none 0 0] 26 ?_;intro jc hg w8 hbox hb;replace HB:=ai_ (below_step (below_to1 HB (IsS55.ge HI1.out)) hb);have jd:=ai_ (hbox);have jj:=ai_ (gb_ hg (keep_size (keep_to HK)));replace HK:=ai_ (KeepBut.trans (keep_to HK) (KeepBut.of_below hb g none) (.inl rfl));have jo:=ai_ (Nat.le_trans HW0.out jj.out);have jf:=ai_ (ne_ hg (IsS55.lt (IsS55.to HI1)));replace HI1:=ai_ (IsS55.below (IsS55.to HI1) hb);have jk:=ai_ jf.out.symm;clear hb hbox hg)|((with_reducible refine gate_callee (f:=40) rfl ?_);refine gl_ (some 13) Tryz.func40 #[.pointer (some ⟨g,0,none⟩)] ?_;(with_reducible refine (spec_l1Cur_line.calls k g l0 0 0 jl jm jp jn j1e j1f w0 _ ?side1 ?side2 A3.out).mono ?_);(case side1=>exact IsS55.tg1 HI1 jf);(case side2=>exact below_to2 HB (IsS55.ge HI1.out) jo.out);rintro e w9 ⟨j2j,rfl,ho0,hi,hb,hk⟩;refine ⟨_,rfl,?_⟩;replace jd:=ai_ (KeepBut.blk hk (blk_to jd) jk.out (by simp));have jh:=ai_ (Kd.R_lower ho0 (keep_size (w:=w) (g:=g) (row:=none) (keep_f1 HK jj)));replace HK:=ai_ (KeepBut.trans (keep_f1 HK jj) hk (.inl rfl));replace HB:=ai_ (hb);replace HI1:=ai_ (hi);clear hb hk hi;(try clear ho0))|((with_reducible refine gate_callee (f:=42) rfl ?_);refine gl_ (some 15) Tryz.func42 #[.pointer (some ⟨g,0,none⟩)] ?_;(with_reducible refine (spec_l1Cur_minute.calls g l0 j1e j1f j1u j1c j1d w0 _ ?side1 ?side2 A4.out).mono ?_);(case side1=>exact IsS55.tg1 HI1 jf);(case side2=>exact below_to2 HB (IsS55.ge HI1.out) jo.out);rintro e w10 ⟨rfl,hi,hb,hk⟩;refine ⟨_,rfl,?_⟩;replace jd:=ai_ (KeepBut.blk hk (blk_to jd) jk.out (by simp));replace jh:=ai_ (Kd.R_mono (Kd.R_keep (IsS55.apart (IsS55.to1 HI1 jf) (kd_to jh) (by decide)) hk (fun _ h=>h.2)) (fun _ h=>h.1));replace HK:=ai_ (KeepBut.trans (keep_f1 HK jj) hk (.inl rfl));replace HB:=ai_ (hb);replace HI1:=ai_ (hi);clear hb hk hi)|((with_reducible refine gate_dst (N:=7) rfl ?_);refine bxe_ #[.int .i64 0,.int .i64 0,.int .i64 0,.slice none 0 0] 26 ?_;intro jb hg w11 hbox hb;replace jh:=rb_ jh hb;replace HB:=ai_ (below_step (below_to2 HB (IsS55.ge HI1.out) jo.out) hb);have je:=ai_ (hbox);have jr:=ai_ (gb_ hg (keep_size (keep_f1 HK jj)));replace HK:=ai_ (KeepBut.trans (keep_f1 HK jj) (KeepBut.of_below hb g none) (.inl rfl));have js:=ai_ (Nat.le_trans HW0.out jr.out);have jg:=ai_ (ne_ hg (blk_lt (blk_to jd)));replace jd:=bb_ jd hb;have ja:=ai_ jg.out.symm;have ji:=ai_ (ne_ hg (IsS55.lt (IsS55.to1 HI1 jf)));replace HI1:=ai_ (IsS55.below (IsS55.tg1 HI1 jf) hb);have jq:=ai_ ji.out.symm;clear hb hbox hg;have j2d:=ja.out;have j2e:=jg.out;have j2f:=jq.out;have j2g:=ji.out;obtain ⟨j1k,j1l,j1m,j1n,j1o,j1p,j1q,j1r⟩:=blk4_ je;obtain ⟨Ao15,co15,eo15⟩:=Kd.R_slice jh.out;subst eo15))
 have n0_:Aside0 (Kd.R Ki_ 3 ((((w11.setCell ⟨jb,0,none⟩ (.int .i64 jl)).setCell ⟨jb,1,none⟩ (.int .i64 jm)).setCell ⟨jb,2,none⟩ (.int .i64 jp)).setCell ⟨jb,3,none⟩ (.slice Ao15 jn.length co15)) w.heap.size (fun _=>True) (.slice Ao15 jn.length co15) jn):=⟨by (with_reducible repeat (first|apply Kd.R_alloc|apply Kd.R_drewN|apply Kd.R_drew));exact Kd.R_mono (Kd.R_far (p:=⟨jb,3,none⟩) (Kd.R_far (p:=⟨jb,2,none⟩) (Kd.R_far (p:=⟨jb,1,none⟩) (Kd.R_far (p:=⟨jb,0,none⟩) (Kd.R_types jh.out je.out (by decide)) (fun _ hk=>hk.2) (.int .i64 jl)) (fun _ hk=>hk.2) (.int .i64 jm)) (fun _ hk=>hk.2) (.int .i64 jp)) (fun _ hk=>hk.2) (.slice Ao15 jn.length co15)) (fun _ hk=>trivial)⟩
 have n1_:Aside0 (((((w11.setCell ⟨jb,0,none⟩ (.int .i64 jl)).setCell ⟨jb,1,none⟩ (.int .i64 jm)).setCell ⟨jb,2,none⟩ (.int .i64 jp)).setCell ⟨jb,3,none⟩ (.slice Ao15 jn.length co15)).heap[jc]?=some (.cells #[.int .i64 0,.int .i64 0,.int .i64 0,.slice none 0 0] 26 (0,0))):=⟨by (with_reducible repeat (first|refine blk_drewN ?_ _|refine blk_drew ?_|refine blk_alloc ?_ _));refine blk_far ?_ jg.out _;(with_reducible repeat (first|refine blk_drewN ?_ _|refine blk_drew ?_|refine blk_alloc ?_ _));refine blk_far ?_ jg.out _;(with_reducible repeat (first|refine blk_drewN ?_ _|refine blk_drew ?_|refine blk_alloc ?_ _));refine blk_far ?_ jg.out _;(with_reducible repeat (first|refine blk_drewN ?_ _|refine blk_drew ?_|refine blk_alloc ?_ _));refine blk_far ?_ jg.out _;(with_reducible repeat (first|refine blk_drewN ?_ _|refine blk_drew ?_|refine blk_alloc ?_ _));exact jd.out⟩
 have n2_:Aside0 (((((w11.setCell ⟨jb,0,none⟩ (.int .i64 jl)).setCell ⟨jb,1,none⟩ (.int .i64 jm)).setCell ⟨jb,2,none⟩ (.int .i64 jp)).setCell ⟨jb,3,none⟩ (.slice Ao15 jn.length co15)).heap[jb]?=some (.cells #[.int .i64 jl,.int .i64 jm,.int .i64 jp,.slice Ao15 jn.length co15] 26 (0,0))):=⟨by (with_reducible repeat (first|refine blk_drewN ?_ _|refine blk_drew ?_|refine blk_alloc ?_ _));refine blk_put (cs:=#[.int .i64 jl,.int .i64 jm,.int .i64 jp,.slice none 0 0]) ?_ 3 _ rfl;(with_reducible repeat (first|refine blk_drewN ?_ _|refine blk_drew ?_|refine blk_alloc ?_ _));refine blk_put (cs:=#[.int .i64 jl,.int .i64 jm,.int .i64 0,.slice none 0 0]) ?_ 2 _ rfl;(with_reducible repeat (first|refine blk_drewN ?_ _|refine blk_drew ?_|refine blk_alloc ?_ _));refine blk_put (cs:=#[.int .i64 jl,.int .i64 0,.int .i64 0,.slice none 0 0]) ?_ 1 _ rfl;(with_reducible repeat (first|refine blk_drewN ?_ _|refine blk_drew ?_|refine blk_alloc ?_ _));refine blk_put (cs:=#[.int .i64 0,.int .i64 0,.int .i64 0,.slice none 0 0]) ?_ 0 _ rfl;(with_reducible repeat (first|refine blk_drewN ?_ _|refine blk_drew ?_|refine blk_alloc ?_ _));exact je.out⟩
 have n3_:Aside0 (IsS55 w0 ((((w11.setCell ⟨jb,0,none⟩ (.int .i64 jl)).setCell ⟨jb,1,none⟩ (.int .i64 jm)).setCell ⟨jb,2,none⟩ (.int .i64 jp)).setCell ⟨jb,3,none⟩ (.slice Ao15 jn.length co15)) g l0 j1c j1d):=⟨IsS55.tg2 HI1 jf ji⟩
 have n4_:Aside0 (KeepBut w ((((w11.setCell ⟨jb,0,none⟩ (.int .i64 jl)).setCell ⟨jb,1,none⟩ (.int .i64 jm)).setCell ⟨jb,2,none⟩ (.int .i64 jp)).setCell ⟨jb,3,none⟩ (.slice Ao15 jn.length co15)) g none):=⟨keep_f2 HK jj jr⟩
 have n5_:Aside0 (Below w0.heap.size w0 ((((w11.setCell ⟨jb,0,none⟩ (.int .i64 jl)).setCell ⟨jb,1,none⟩ (.int .i64 jm)).setCell ⟨jb,2,none⟩ (.int .i64 jp)).setCell ⟨jb,3,none⟩ (.slice Ao15 jn.length co15))):=⟨below_to3 HB (IsS55.ge HI1.out) jo.out js.out⟩
 (try clear jh)
 (try clear jd)
 (try clear je)
 (try clear HI1)
 (try clear HK)
 (try clear HB)
 generalize ((((w11.setCell ⟨jb,0,none⟩ (.int .i64 jl)).setCell ⟨jb,1,none⟩ (.int .i64 jm)).setCell ⟨jb,2,none⟩ (.int .i64 jp)).setCell ⟨jb,3,none⟩ (.slice Ao15 jn.length co15))=w16 at n0_ n1_ n2_ n3_ n4_ n5_ ⊢
 have jh:=n0_
 have jd:=n1_
 have je:=n2_
 have HI1:=n3_
 have HK:=n4_
 have HB:=n5_
 clear n0_ n1_ n2_ n3_ n4_ n5_
 have n0_:=ai_ (Kd.R_drew jh.out)
 have n1_:=ai_ (blk_drew jd.out)
 have n2_:=ai_ (blk_drew je.out)
 have n3_:=ai_ (IsS55.drew HI1.out)
 have n4_:=ai_ (keep_drew HK.out)
 have n5_:=ai_ (below_drew1 HB.out)
 clear jh
 clear jd
 clear je
 clear HI1
 clear HK
 clear HB
 have jh:=n0_
 have jd:=n1_
 have je:=n2_
 have HI1:=n3_
 have HK:=n4_
 have HB:=n5_
 clear n0_ n1_ n2_ n3_ n4_ n5_
 refine start_ (n:=16) (S:=fun w'=>w'.cell? ⟨jb,0,none⟩=some (.int .i64 jl)∧w'.cell? ⟨jb,1,none⟩=some (.int .i64 jm)∧w'.cell? ⟨jb,2,none⟩=some (.int .i64 jp)∧w'.cell? ⟨jb,3,none⟩=some (.slice Ao15 jn.length co15)) (ds:=[]) (fr_ [0,16]) (by kernel_rfl) rfl rfl ⟨(blk_cell je.out 0).trans rfl,(blk_cell je.out 1).trans rfl,(blk_cell je.out 2).trans rfl,(blk_cell je.out 3).trans rfl⟩ (fun hHeld=>?_);refine with_tabW spec_DrawMeanWait.tab3 spec_DrawMeanWait.bits3 (fun HT_ HW_=>?_)
 generalize w16.drew=w17 at jh jd je HI1 HK HB hHeld ⊢
 refine purS_ (i:=1) (N:=some 17) (fr_ [0,1,1,14]) HT_.out ?_
 refine purS_ (i:=3) (N:=some 19) (fr_ [0,1,1,1,1,12]) HT_.out ?_
 refine purS_ (i:=4) (N:=some 20) (fr_ [0,1,1,1,2,11]) HT_.out ?_
 refine purS_ (i:=5) (N:=some 21) (fr_ [0,1,1,1,3,10]) HT_.out ?_
 refine purS_ (i:=8) (N:=some 24) (fr_ [0,1,1,1,3,2,1,7]) HT_.out ?_
 refine take_ (i:=0) (N:=some 16) (v:=?_) (a':=?_) (fr_ [2,1,3,2,1,7]) rfl rfl (take_ofW HT_.out HW_.out (by kernel_rfl)) (fun _ _ _ h=>h) (Or.inl ⟨by rfl,?_⟩) hHeld ?_ ?_
 rotate_left
 ·rintro w' ⟨s0,s1,s2,s3⟩
  go_simp
  with_reducible rfl
 rotate_left
 ·simp only [Act.put,List.setIfInBounds_toArray,List.set_cons_zero,List.set_cons_succ,i64_w,i32_w]
  rfl
 refine one_ (i:=2) (N:=some 18) (fr_ [6,2,1,7]) rfl rfl (one_of HT_.out (by kernel_rfl)) (by decide) (fun K hK=>?_)
 refine goes_ Tryz.func41 (by kernel_rfl) rfl #[.pointer (some ⟨g,0,none⟩)] (by rfl) rfl rfl am_ ?_
 with_reducible refine (spec_l1Cur_stop.calls g l0 j1c j1d j1v j1g j1h w0 _ ?side1 ?side2 A5.out).mono ?_
 (case side1=>exact IsS55.tg2 HI1 jf ji)
 (case side2=>exact below_to3 HB (IsS55.ge HI1.out) jo.out js.out)
 rintro e w18 ⟨rfl,hi,hb,hk⟩
 refine ⟨_,rfl,?_⟩
 have n0_:=ai_ (KeepBut.blk hk (blk_to jd) jk.out (by simp))
 have n1_:=ai_ (Kd.R_mono (Kd.R_keep (IsS55.apart (IsS55.to2 HI1 jf ji) (kd_to jh) (by decide)) hk (fun _ h=>h.2)) (fun _ h=>h.1))
 have n2_:=ai_ (KeepBut.blk hk (blk_to je) jq.out (by simp))
 have n3_:=ai_ (KeepBut.trans (keep_f2 HK jj jr) hk (.inl rfl))
 have n4_:=ai_ (hb)
 have n5_:=ai_ (hi)
 clear jd
 clear jh
 clear je
 clear HK
 clear HB
 clear HI1
 have jd:=n0_
 have jh:=n1_
 have je:=n2_
 have HK:=n3_
 have HB:=n4_
 have HI1:=n5_
 clear n0_ n1_ n2_ n3_ n4_ n5_
 (try clear hb)
 (try clear hb2)
 (try clear hk)
 (try clear hi)
 refine hK.out _ _ ⟨(blk_cell je.out 0).trans rfl,(blk_cell je.out 1).trans rfl,(blk_cell je.out 2).trans rfl,(blk_cell je.out 3).trans rfl⟩ (fun hHeld=>?_)
 clear hK K
 refine norm_ (a':=?_) ?_ ?_
 rotate_left
 ·show Act.put _ (some 18) _=_
  simp only [Act.put,List.setIfInBounds_toArray,List.set_cons_zero,List.set_cons_succ,i64_w,i32_w]
  rfl
 refine one_ (i:=6) (N:=some 22) (fr_ [7,1,1,7]) rfl rfl (one_of HT_.out (by kernel_rfl)) (by decide) (fun K hK=>?_)
 refine goes_ Tryz.func58 (by kernel_rfl) rfl #[.pointer (some ⟨g,0,none⟩),.int .i64 30] (by rfl) rfl rfl am_ ?_
 with_reducible refine (spec_l1Cur_pick.calls g l0 j1g j1h 30 j1w j1i j1j w0 _ ?side1 ?side2 A6.out).mono ?_
 (case side1=>exact IsS55.tg2 HI1 jf ji)
 (case side2=>exact below_to3 HB (IsS55.ge HI1.out) jo.out js.out)
 rintro e w19 ⟨rfl,hi,hb,hk⟩
 refine ⟨_,rfl,?_⟩
 have n0_:=ai_ (KeepBut.blk hk (blk_to jd) jk.out (by simp))
 have n1_:=ai_ (Kd.R_mono (Kd.R_keep (IsS55.apart (IsS55.to2 HI1 jf ji) (kd_to jh) (by decide)) hk (fun _ h=>h.2)) (fun _ h=>h.1))
 have n2_:=ai_ (KeepBut.blk hk (blk_to je) jq.out (by simp))
 have n3_:=ai_ (KeepBut.trans (keep_f2 HK jj jr) hk (.inl rfl))
 have n4_:=ai_ (hb)
 have n5_:=ai_ (hi)
 clear jd
 clear jh
 clear je
 clear HK
 clear HB
 clear HI1
 have jd:=n0_
 have jh:=n1_
 have je:=n2_
 have HK:=n3_
 have HB:=n4_
 have HI1:=n5_
 clear n0_ n1_ n2_ n3_ n4_ n5_
 (try clear hb)
 (try clear hb2)
 (try clear hk)
 (try clear hi)
 refine hK.out _ _ ⟨(blk_cell je.out 0).trans rfl,(blk_cell je.out 1).trans rfl,(blk_cell je.out 2).trans rfl,(blk_cell je.out 3).trans rfl⟩ (fun hHeld=>?_)
 clear hK K
 refine norm_ (a':=?_) ?_ ?_
 rotate_left
 ·show Act.put _ (some 22) _=_
  simp only [Act.put,List.setIfInBounds_toArray,List.set_cons_zero,List.set_cons_succ,i64_w,i32_w]
  rfl
 refine purS_ (i:=7) (N:=some 23) (fl_ 16 9) HT_.out ?_
 refine one_ (i:=9) (N:=some 25) (fr_ [10,6]) rfl rfl (one_of HT_.out (by kernel_rfl)) (by decide) (fun K hK=>?_)
 refine goes_ Tryz.func58 (by kernel_rfl) rfl #[.pointer (some ⟨g,0,none⟩),.int .i64 9] (by rfl) rfl rfl am_ ?_
 with_reducible refine (spec_l1Cur_pick.calls g l0 j1i j1j 9 j1x j1y j1z w0 _ ?side1 ?side2 A7.out).mono ?_
 (case side1=>exact IsS55.tg2 HI1 jf ji)
 (case side2=>exact below_to3 HB (IsS55.ge HI1.out) jo.out js.out)
 rintro e w20 ⟨rfl,hi,hb,hk⟩
 refine ⟨_,rfl,?_⟩
 have n0_:=ai_ (KeepBut.blk hk (blk_to jd) jk.out (by simp))
 have n1_:=ai_ (Kd.R_mono (Kd.R_keep (IsS55.apart (IsS55.to2 HI1 jf ji) (kd_to jh) (by decide)) hk (fun _ h=>h.2)) (fun _ h=>h.1))
 have n2_:=ai_ (KeepBut.blk hk (blk_to je) jq.out (by simp))
 have n3_:=ai_ (KeepBut.trans (keep_f2 HK jj jr) hk (.inl rfl))
 have n4_:=ai_ (hb)
 have n5_:=ai_ (hi)
 clear jd
 clear jh
 clear je
 clear HK
 clear HB
 clear HI1
 have jd:=n0_
 have jh:=n1_
 have je:=n2_
 have HK:=n3_
 have HB:=n4_
 have HI1:=n5_
 clear n0_ n1_ n2_ n3_ n4_ n5_
 (try clear hb)
 (try clear hb2)
 (try clear hk)
 (try clear hi)
 refine hK.out _ _ ⟨(blk_cell je.out 0).trans rfl,(blk_cell je.out 1).trans rfl,(blk_cell je.out 2).trans rfl,(blk_cell je.out 3).trans rfl⟩ (fun hHeld=>?_)
 clear hK K
 refine norm_ (a':=?_) ?_ ?_
 rotate_left
 ·show Act.put _ (some 25) _=_
  simp only [Act.put,List.setIfInBounds_toArray,List.set_cons_zero,List.set_cons_succ,i64_w,i32_w]
  rfl
 refine purS_ (i:=10) (N:=some 26) (fl_ 16 11) HT_.out ?_
 refine purS_ (i:=11) (N:=some 27) (fl_ 16 12) HT_.out ?_
 refine one_ (i:=12) (N:=none) (fr_ [13,3]) rfl rfl (one_of HT_.out (by kernel_rfl)) (by decide) (fun K hK=>?_)
 have hs21:w20.cell? ⟨jc,0,none⟩=some (.int .i64 0):=(blk_cell jd.out 0).trans rfl
 have hfs21:=blk_frozen jd.out 0
 have hns21_1:=ja.out
 have hms21_1:=jg.out
 have hs22:w20.cell? ⟨jc,1,none⟩=some (.int .i64 0):=(blk_cell jd.out 1).trans rfl
 have hfs22:=blk_frozen jd.out 1
 have hns22_1:=ja.out
 have hms22_1:=jg.out
 have hs23:w20.cell? ⟨jc,2,none⟩=some (.int .i64 0):=(blk_cell jd.out 2).trans rfl
 have hfs23:=blk_frozen jd.out 2
 have hns23_1:=ja.out
 have hms23_1:=jg.out
 have hs24:w20.cell? ⟨jc,3,none⟩=some (.slice none 0 0):=(blk_cell jd.out 3).trans rfl
 have hfs24:=blk_frozen jd.out 3
 have hns24_1:=ja.out
 have hms24_1:=jg.out
 refine skip_ (w1:=?_) (by rfl) rfl ?_ ?_
 rotate_left
 ·go_simp
  rfl
 refine hK.out _ _ ⟨((cell_far (p:=⟨jc,_,none⟩) ja.out _).trans (((cell_far (p:=⟨jc,_,none⟩) ja.out _).trans (((cell_far (p:=⟨jc,_,none⟩) ja.out _).trans (((cell_far (p:=⟨jc,_,none⟩) ja.out _).trans (hHeld.1)))))))),((cell_far (p:=⟨jc,_,none⟩) ja.out _).trans (((cell_far (p:=⟨jc,_,none⟩) ja.out _).trans (((cell_far (p:=⟨jc,_,none⟩) ja.out _).trans (((cell_far (p:=⟨jc,_,none⟩) ja.out _).trans (hHeld.2.1)))))))),((cell_far (p:=⟨jc,_,none⟩) ja.out _).trans (((cell_far (p:=⟨jc,_,none⟩) ja.out _).trans (((cell_far (p:=⟨jc,_,none⟩) ja.out _).trans (((cell_far (p:=⟨jc,_,none⟩) ja.out _).trans (hHeld.2.2.1)))))))),((cell_far (p:=⟨jc,_,none⟩) ja.out _).trans (((cell_far (p:=⟨jc,_,none⟩) ja.out _).trans (((cell_far (p:=⟨jc,_,none⟩) ja.out _).trans (((cell_far (p:=⟨jc,_,none⟩) ja.out _).trans (hHeld.2.2.2))))))))⟩ (fun hHeld=>?_)
 clear hK K
 refine purS_ (i:=13) (N:=some 3) (fl_ 16 14) HT_.out ?_
 refine purS_ (i:=14) (N:=some 4) (fl_ 16 15) HT_.out ?_
 refine purS_ (i:=15) (N:=some 5) (fl_ 16 16) HT_.out ?_
 refine done_ (done_of HT_.out (by kernel_rfl)) ?_
 try go_wp2
 refine bodyPost_ret (results_list (rs:=[.cell 2 26,.tmp 3,.tmp 4,.tmp 5]) rfl (by simp) (.cell jc 26 #[.int .i64 jl,.int .i64 jm,.int .i64 jp,.slice Ao15 jn.length co15] (0,0) _ rfl (bput4 jd) Tryz.underlying26 rfl (by kernel_rfl) (.tmp (.tmp (.tmp .nil))))) rfl ?_
 exact ⟨_,rtE_,by (with_reducible repeat (first|apply Kd.R_alloc|apply Kd.R_drewN|apply Kd.R_drew));exact Kd.R_mono (Kd.R_far (p:=⟨jc,3,none⟩) (Kd.R_far (p:=⟨jc,2,none⟩) (Kd.R_far (p:=⟨jc,1,none⟩) (Kd.R_far (p:=⟨jc,0,none⟩) (Kd.R_types jh.out jd.out (by decide)) (fun _ hk=>hk.2) (.int .i64 jl)) (fun _ hk=>hk.2) (.int .i64 jm)) (fun _ hk=>hk.2) (.int .i64 jp)) (fun _ hk=>hk.2) (.slice Ao15 jn.length co15)) (fun _ hk=>trivial),IsS55.tg2 HI1 jf ji,below_to3 HB (IsS55.ge HI1.out) jo.out js.out,keep_f2 HK jj jr⟩
def impl_divisorOf.l0:Nat→Int→Int→Option (Int)
 | 0,_,_=>none
 | k+1,x0,x1=>if x1 > 0 then (if x1=0 then (none) else (impl_divisorOf.l0 k x1 (Int.tmod x0 x1))) else (some x0)
def impl_divisorOf.f (k:Nat) (a0:Int) (a1:Int):Option (Int):=impl_divisorOf.l0 k a0 a1
theorem impl_divisorOf.calls (k:Nat) (a0:Int) (a1:Int) (r:Int) (w:World) (h:impl_divisorOf.f k a0 a1=some r) :
  Calls Tryz.prog 89 #[.int .i64 a0,.int .i64 a1] w fun e w'=>e=.returned (.int .i64 r)∧Drawn0 w w':=by
 have H:(impl_divisorOf.l0 k a0 a1)=some r:=h
 clear h
 have H':=ai_ H
 clear H
 go_enter Tryz.func89,Tryz.ntmps89
 go_wp2
 repeat (go_quiet (fail);try go_wp2)
 go_loopg [0,1] k (fun kq v0 v1 w' => ∃ (j1a:Int) (jv:Int),v0=.int .i64 j1a∧v1=.int .i64 jv∧Aside0 (impl_divisorOf.l0 kq j1a jv=some r)∧Aside0 (kq≤k)∧Drawn0 w w')
 case atStart=>exact ⟨(a0),(a1),rt_,rt_,H',⟨Nat.le_refl _⟩,d0_⟩
 clear H'
 try clear p2
 obtain ⟨j1a,jv,rfl,rfl,HA,HK1,⟨m1,rfl⟩⟩:=hrel
 cases gk with
 | zero=>exact absurd HA.out (by simp [impl_divisorOf.l0])
 | succ k1 =>
  have H:=HA.out
  clear HA
  simp only [impl_divisorOf.l0] at H
  by_cases c3:jv > 0
  ·rw [if_pos c3] at H
   have jz:=decide_eq_true c3
   clear c3
   by_cases c4:jv=0
   ·rw [if_pos c4] at H
    cases H
   ·rw [if_neg c4] at H
    have j2k:=beq_eq_false_iff_ne.mpr c4
    have j2l:=bne_iff_ne.mpr c4
    have H':=ai_ H
    clear H
    go_wp2
    repeat (go_quiet (fail);try go_wp2)
    go_roundg k1
    case measure=>have:=HK1.out;omega
    case rel=>exact ⟨(jv),(Int.tmod j1a jv),rt_,rt_,H',⟨by have:=HK1.out;omega⟩,d0_⟩
  ·rw [if_neg c3] at H
   have jz:=decide_eq_false c3
   clear c3
   obtain rfl:=Option.some.inj H
   go_wp2
   repeat (go_quiet (fail);try go_wp2)
   go_ret
   exact ⟨rt_,d0_⟩
def impl_absOf.f (a0:Int):Option (Int):=some (mx a0 (wrap64 (-a0)))
theorem impl_absOf.calls (a0:Int) (r:Int) (w:World) (h:impl_absOf.f a0=some r) :
  Calls Tryz.prog 90 #[.int .i64 a0] w fun e w'=>e=.returned (.int .i64 r)∧Below w.heap.size w w':=by
 have HB:=ai_ (Below.refl w.heap.size w)
 have H:(some (mx a0 (wrap64 (-a0))))=some r:=h
 clear h
 obtain ⟨ji2,j1b⟩:∃ j_:Int,(mx a0 (wrap64 (-a0)))=j_:=⟨_,rfl⟩
 replace H:(some ji2)=some r:=by first|(rw [j1b] at H;exact H)|(simp only [j1b] at H ⊢;exact H)
 have hji2_:(if a0 < (wrap64 (-a0)) then (wrap64 (-a0)) else a0)=ji2:=j1b
 obtain rfl:=Option.some.inj H
 go_enter Tryz.func90,Tryz.ntmps90
 go_wp2
 go_ret
 exact ⟨by first|rfl|(simp [errW_none,errW_some] <;> rfl)|(simp only [← j1b];first|rfl|(simp [errW_none,errW_some] <;> rfl))|(simp [*,errW_none,errW_some] <;> rfl),below_to HB⟩
def impl_lowest.f (k:Nat) (a0:Int) (a1:Int):Option (Int × Int):=if a1 < 0 then ((impl_absOf.f (wrap64 (-a0))).bind fun jw=>((impl_divisorOf.f k (wrap64 (-a1)) jw).bind fun jt=>(if jt=0 then (none) else (some (wrap64 (Int.tdiv (wrap64 (-a0)) jt),wrap64 (Int.tdiv (wrap64 (-a1)) jt)))))) else ((impl_absOf.f a0).bind fun jx=>((impl_divisorOf.f k a1 jx).bind fun ju=>(if ju=0 then (none) else (some (wrap64 (Int.tdiv a0 ju),wrap64 (Int.tdiv a1 ju))))))
theorem impl_lowest.calls (k:Nat) (a0:Int) (a1:Int) (r1:Int) (r2:Int) (w:World) (h:impl_lowest.f k a0 a1=some (r1,r2)) :
  Calls Tryz.prog 80 #[.int .i64 a0,.int .i64 a1] w fun e w'=>e=.returned (.tuple #[.int .i64 r1,.int .i64 r2])∧Below w.heap.size w w':=by
 have HB:=ai_ (Below.refl w.heap.size w)
 have H:=h
 unfold impl_lowest.f at H
 clear h
 by_cases c3:a1 < 0
 rotate_left
 ·rw [if_neg c3] at H
  have jz:=decide_eq_false c3
  clear c3
  obtain ⟨jx,A8,H⟩:=bs_ H
  (try dsimp only at H)
  obtain ⟨ju,A9,H⟩:=bs_ H
  (try dsimp only at H)
  by_cases c10:ju=0
  ·rw [if_pos c10] at H
   cases H
  ·rw [if_neg c10] at H
   have j2h:=beq_eq_false_iff_ne.mpr c10
   have j2i:=bne_iff_ne.mpr c10
   simp only [Option.some.injEq,Prod.mk.injEq] at H
   obtain ⟨rfl,rfl⟩:=H
   go_enter Tryz.func80,Tryz.ntmps80
   go_wp2_with (first|(go_at_call 90;(with_reducible refine (impl_absOf.calls a0 jx _ A8.out).mono ?_);rintro e w11 ⟨rfl,hb⟩;replace HB:=ai_ (below_step (below_to HB) hb);clear hb)|(go_at_call 89;(with_reducible refine (impl_divisorOf.calls k a1 jx ju _ A9.out).mono ?_);rintro e w' ⟨rfl,⟨nd,rfl⟩⟩;(try first|exact ⟨rfl,_,World.drewN_drewN _ _ _⟩|exact ⟨rfl,_,Eq.trans (World.drewN_drewN _ _ _) (congrArg (World.drewN _) (Nat.add_assoc _ _ _))⟩)))
   repeat (go_quiet (first|(go_at_call 90;(with_reducible refine (impl_absOf.calls a0 jx _ A8.out).mono ?_);rintro e w11 ⟨rfl,hb⟩;replace HB:=ai_ (below_step (below_to HB) hb);clear hb)|(go_at_call 89;(with_reducible refine (impl_divisorOf.calls k a1 jx ju _ A9.out).mono ?_);rintro e w' ⟨rfl,⟨nd,rfl⟩⟩;(try first|exact ⟨rfl,_,World.drewN_drewN _ _ _⟩|exact ⟨rfl,_,Eq.trans (World.drewN_drewN _ _ _) (congrArg (World.drewN _) (Nat.add_assoc _ _ _))⟩)));try go_wp2_with (first|(go_at_call 89;(with_reducible refine (impl_divisorOf.calls k a1 jx ju _ A9.out).mono ?_);rintro e w' ⟨rfl,⟨nd,rfl⟩⟩;(try first|exact ⟨rfl,_,World.drewN_drewN _ _ _⟩|exact ⟨rfl,_,Eq.trans (World.drewN_drewN _ _ _) (congrArg (World.drewN _) (Nat.add_assoc _ _ _))⟩))))
   go_ret2
   exact ⟨rtE_,below_to HB⟩
 rw [if_pos c3] at H
 have jz:=decide_eq_true c3
 clear c3
 obtain ⟨jw,A4,H⟩:=bs_ H
 (try dsimp only at H)
 obtain ⟨jt,A5,H⟩:=bs_ H
 (try dsimp only at H)
 by_cases c6:jt=0
 ·rw [if_pos c6] at H
  cases H
 ·rw [if_neg c6] at H
  have j2m:=beq_eq_false_iff_ne.mpr c6
  have j2n:=bne_iff_ne.mpr c6
  simp only [Option.some.injEq,Prod.mk.injEq] at H
  obtain ⟨rfl,rfl⟩:=H
  go_enter Tryz.func80,Tryz.ntmps80
  go_wp2_with (first|(go_at_call 90;(with_reducible refine (impl_absOf.calls (wrap64 (-a0)) jw _ A4.out).mono ?_);rintro e w7 ⟨rfl,hb⟩;replace HB:=ai_ (below_step (below_to HB) hb);clear hb)|(go_at_call 89;(with_reducible refine (impl_divisorOf.calls k (wrap64 (-a1)) jw jt _ A5.out).mono ?_);rintro e w' ⟨rfl,⟨nd,rfl⟩⟩;(try first|exact ⟨rfl,_,World.drewN_drewN _ _ _⟩|exact ⟨rfl,_,Eq.trans (World.drewN_drewN _ _ _) (congrArg (World.drewN _) (Nat.add_assoc _ _ _))⟩)))
  repeat (go_quiet (first|(go_at_call 90;(with_reducible refine (impl_absOf.calls (wrap64 (-a0)) jw _ A4.out).mono ?_);rintro e w7 ⟨rfl,hb⟩;replace HB:=ai_ (below_step (below_to HB) hb);clear hb)|(go_at_call 89;(with_reducible refine (impl_divisorOf.calls k (wrap64 (-a1)) jw jt _ A5.out).mono ?_);rintro e w' ⟨rfl,⟨nd,rfl⟩⟩;(try first|exact ⟨rfl,_,World.drewN_drewN _ _ _⟩|exact ⟨rfl,_,Eq.trans (World.drewN_drewN _ _ _) (congrArg (World.drewN _) (Nat.add_assoc _ _ _))⟩)));try go_wp2_with (first|(go_at_call 89;(with_reducible refine (impl_divisorOf.calls k (wrap64 (-a1)) jw jt _ A5.out).mono ?_);rintro e w' ⟨rfl,⟨nd,rfl⟩⟩;(try first|exact ⟨rfl,_,World.drewN_drewN _ _ _⟩|exact ⟨rfl,_,Eq.trans (World.drewN_drewN _ _ _) (congrArg (World.drewN _) (Nat.add_assoc _ _ _))⟩))))
  go_ret2
  exact ⟨rtE_,below_to HB⟩
def impl_fraction.f (k:Nat) (a0:Int) (a1:Int):Option (Int × Int × Bool):=if a1=0 then (some (0,0,false)) else ((impl_lowest.f k a0 a1).bind fun bt484=>(some (bt484.1,bt484.2,true)))
theorem impl_fraction.calls (k:Nat) (a0:Int) (a1:Int) (r1:Int) (r2:Int) (r3:Bool) (w:World) (h:impl_fraction.f k a0 a1=some (r1,r2,r3)) :
  Calls Tryz.prog 62 #[.int .i64 a0,.int .i64 a1] w fun e w'=>e=.returned (.tuple #[.int .i64 r1,.int .i64 r2,.bool r3])∧Below w.heap.size w w':=by
 have HB:=ai_ (Below.refl w.heap.size w)
 have H:=h
 unfold impl_fraction.f at H
 clear h
 by_cases c3:a1=0
 ·rw [if_pos c3] at H
  have jz:=beq_iff_eq.mpr c3
  have j2a:=bne_eq_false_iff_eq.mpr c3
  clear c3
  simp only [Option.some.injEq,Prod.mk.injEq] at H
  obtain ⟨rfl,rfl,rfl⟩:=H
  go_enter Tryz.func62,Tryz.ntmps62
  go_wp2
  go_ret3
  exact ⟨rtE_,below_to HB⟩
 ·rw [if_neg c3] at H
  have jz:=beq_eq_false_iff_ne.mpr c3
  have j2a:=bne_iff_ne.mpr c3
  obtain ⟨⟨j2b,j2c⟩,A4,H⟩:=bs_ H
  (try dsimp only at H)
  simp only [Option.some.injEq,Prod.mk.injEq] at H
  obtain ⟨rfl,rfl,rfl⟩:=H
  go_enter Tryz.func62,Tryz.ntmps62
  go_wp2_with (first|((with_reducible refine gate_callee (f:=80) rfl ?_);refine gl_ (some 12) Tryz.func80 #[.int .i64 a0,.int .i64 a1] ?_;(with_reducible refine (impl_lowest.calls k a0 a1 j2b j2c _ A4.out).mono ?_);rintro e w5 ⟨rfl,hb⟩;refine ⟨_,rfl,?_⟩;replace HB:=ai_ (below_step (below_to HB) hb);clear hb))
  go_ret3
  exact ⟨rtE_,below_to HB⟩
end Go.Proofs.YthdnodmidbcgpaaGreatDoor.QR
