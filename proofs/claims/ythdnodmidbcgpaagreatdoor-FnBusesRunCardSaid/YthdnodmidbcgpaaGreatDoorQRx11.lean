import Derived.Test.YthdnodmidbcgpaaGreatDoorQRx8
namespace Go.Proofs.YthdnodmidbcgpaaGreatDoor.QR
open Go.Proofs.YthdnodmidbcgpaaGreatDoor.X Go.RowKit Go.Proofs.YthdnodmidbcgpaaGreatDoorW.PrintWords Go.Proofs.YthdnodmidbcgpaaGreatDoorW.PrintLast Go.Proofs.YthdnodmidbcgpaaGreatDoorW.PrintMore
set_option maxHeartbeats 8000000
set_option maxRecDepth 100000
attribute [local go_sem] max2_int min2_int max_two min_two max_three min_three max_four min_four
set_option linter.unusedVariables false
set_option linter.unusedSimpArgs false
def laws_qLine.f (k:Nat) (je:Int) (jc:Int) (jd:Int) (jb:List Int) (j1f:Int) (j1g:Int) (j1h:Int) (jz:List Int):Option (Bool):=if je=j1f then (if jc=j1g then (if jd=j1h then ((laws_qSame.f k jb jz).bind fun j2v=>(some j2v)) else (some false)) else (some false)) else (some false)
theorem laws_qLine.calls (k:Nat) (je:Int) (jc:Int) (jd:Int) (jl:Option Addr) (jm:Nat) (jb:List Int) (j1f:Int) (j1g:Int) (j1h:Int) (j2e:Option Addr) (j2f:Nat) (jz:List Int) (r:Bool) (w:World) (hr0_3:Kd.C Ki_ w jl jb.length jb) (hc0_3:jb.length≤jm) (hr1_3:Kd.C Ki_ w j2e jz.length jz) (hc1_3:jz.length≤j2f) (h:laws_qLine.f k je jc jd jb j1f j1g j1h jz=some r) :
  Calls Tryz.prog 22 #[.agg #[.int .i64 je,.int .i64 jc,.int .i64 jd,.slice jl jb.length jm],.agg #[.int .i64 j1f,.int .i64 j1g,.int .i64 j1h,.slice j2e jz.length j2f]] w fun e w'=>e=.returned (.bool r)∧Below w.heap.size w w':=by
 have hu26:=Tryz.underlying26
 have jp:=ai_ hr0_3
 have jq:=ai_ hc0_3
 clear hr0_3 hc0_3
 have j5b:=ai_ hr1_3
 have j5c:=ai_ hc1_3
 clear hr1_3 hc1_3
 have HB:=ai_ (Below.refl w.heap.size w)
 have H:=h
 unfold laws_qLine.f at H
 clear h
 by_cases c3:je=j1f
 rotate_left
 ·rw [if_neg c3] at H
  have j7j:=beq_eq_false_iff_ne.mpr c3
  have j7k:=bne_iff_ne.mpr c3
  obtain rfl:=Option.some.inj H
  go_enter Tryz.func22,Tryz.ntmps22
  go_wp2_with (first|((with_reducible refine gate_dst (N:=2) rfl ?_);refine bxe_ #[.int .i64 je,.int .i64 jc,.int .i64 jd,.slice jl jb.length jm] 26 ?_;intro j2i hg w22 hbox hb;have jj:=ai_ (hbox);have j2j:=ai_ (gb_ hg (below_size (below_to HB)));have jk:=ai_ (gb_ hg (below_size (below_to HB)));replace HB:=ai_ (below_step (below_to HB) hb);clear hb hbox hg)|((with_reducible refine gate_dst (N:=3) rfl ?_);refine bxe_ #[.int .i64 j1f,.int .i64 j1g,.int .i64 j1h,.slice j2e jz.length j2f] 26 ?_;intro j2k hg w23 hbox hb;have j1b:=ai_ (hbox);have j2l:=ai_ (gb_ hg (below_size (below_to1 HB jk.out)));have j1c:=ai_ (gb_ hg (below_size (below_to1 HB jk.out)));replace HB:=ai_ (below_step (below_to1 HB jk.out) hb);have jf:=ai_ (ne_ hg (blk_lt (blk_to jj)));replace jj:=bb_ jj hb;have jn:=ai_ jf.out.symm;clear hb hbox hg;have j8f:=jf.out;have j8g:=jn.out;obtain ⟨j1l,j1m,j1n,j1o,j1p,j1q,j1r,j1s⟩:=blk4_ jj;obtain ⟨j5n,j5o,j5p,j5q,j5r,j5s,j5t,j5u⟩:=blk4_ j1b))
  go_ret
  exact ⟨rtE_,below_to2 HB jk.out j1c.out⟩
 rw [if_pos c3] at H
 have j7j:=beq_iff_eq.mpr c3
 have j7k:=bne_eq_false_iff_eq.mpr c3
 clear c3
 by_cases c4:jc=j1g
 rotate_left
 ·rw [if_neg c4] at H
  have j7l:=beq_eq_false_iff_ne.mpr c4
  have j7m:=bne_iff_ne.mpr c4
  obtain rfl:=Option.some.inj H
  go_enter Tryz.func22,Tryz.ntmps22
  go_wp2_with (first|((with_reducible refine gate_dst (N:=2) rfl ?_);refine bxe_ #[.int .i64 je,.int .i64 jc,.int .i64 jd,.slice jl jb.length jm] 26 ?_;intro j2i hg w17 hbox hb;have jj:=ai_ (hbox);have j2j:=ai_ (gb_ hg (below_size (below_to HB)));have jk:=ai_ (gb_ hg (below_size (below_to HB)));replace HB:=ai_ (below_step (below_to HB) hb);clear hb hbox hg)|((with_reducible refine gate_dst (N:=3) rfl ?_);refine bxe_ #[.int .i64 j1f,.int .i64 j1g,.int .i64 j1h,.slice j2e jz.length j2f] 26 ?_;intro j2k hg w18 hbox hb;have j1b:=ai_ (hbox);have j2l:=ai_ (gb_ hg (below_size (below_to1 HB jk.out)));have j1c:=ai_ (gb_ hg (below_size (below_to1 HB jk.out)));replace HB:=ai_ (below_step (below_to1 HB jk.out) hb);have jf:=ai_ (ne_ hg (blk_lt (blk_to jj)));replace jj:=bb_ jj hb;have jn:=ai_ jf.out.symm;clear hb hbox hg;have j8h:=jf.out;have j8i:=jn.out;obtain ⟨j5v,j5w,j5x,j5y,j5z,j6a,j6b,j6c⟩:=blk4_ jj;obtain ⟨j6d,j6e,j6f,j6g,j6h,j6i,j6j,j6k⟩:=blk4_ j1b))
  go_ret
  exact ⟨rtE_,below_to2 HB jk.out j1c.out⟩
 rw [if_pos c4] at H
 have j7l:=beq_iff_eq.mpr c4
 have j7m:=bne_eq_false_iff_eq.mpr c4
 clear c4
 by_cases c5:jd=j1h
 ·rw [if_pos c5] at H
  have j7n:=beq_iff_eq.mpr c5
  have j7o:=bne_eq_false_iff_eq.mpr c5
  clear c5
  replace H:=Option.bind_eq_some_iff.mp H
  obtain ⟨j2v,A60,H⟩:=H
  replace H:(some j2v)=some r:=H
  have A6:=ai_ A60
  clear A60
  obtain rfl:=Option.some.inj H
  go_enter Tryz.func22,Tryz.ntmps22
  go_wp2_with (first|((with_reducible refine gate_dst (N:=2) rfl ?_);refine bxe_ #[.int .i64 je,.int .i64 jc,.int .i64 jd,.slice jl jb.length jm] 26 ?_;intro j2i hg w7 hbox hb;have jj:=ai_ (hbox);have j2j:=ai_ (gb_ hg (below_size (below_to HB)));have jk:=ai_ (gb_ hg (below_size (below_to HB)));replace HB:=ai_ (below_step (below_to HB) hb);clear hb hbox hg)|((with_reducible refine gate_dst (N:=3) rfl ?_);refine bxe_ #[.int .i64 j1f,.int .i64 j1g,.int .i64 j1h,.slice j2e jz.length j2f] 26 ?_;intro j2k hg w8 hbox hb;have j1b:=ai_ (hbox);have j2l:=ai_ (gb_ hg (below_size (below_to1 HB jk.out)));have j1c:=ai_ (gb_ hg (below_size (below_to1 HB jk.out)));replace HB:=ai_ (below_step (below_to1 HB jk.out) hb);have jf:=ai_ (ne_ hg (blk_lt (blk_to jj)));replace jj:=bb_ jj hb;have jn:=ai_ jf.out.symm;clear hb hbox hg;have j8m:=jf.out;have j8n:=jn.out;obtain ⟨j1t,j1u,j1v,j1w,j1x,j1y,j1z,j2a⟩:=blk4_ jj;obtain ⟨j2w,j2x,j2y,j2z,j3a,j3b,j3c,j3d⟩:=blk4_ j1b)|(go_at_call 14;(with_reducible refine (laws_qSame.calls k _ _ jb _ _ jz j2v _ ?side1 jq.out ?side3 j5c.out A6.out).mono ?_);(case side1=>exact cb_ jp HB);(case side3=>exact cb_ j5b HB);rintro e w' ⟨rfl,⟨nd,rfl⟩⟩))
  go_ret
  exact ⟨rtE_,below_to2 HB jk.out j1c.out⟩
 ·rw [if_neg c5] at H
  have j7n:=beq_eq_false_iff_ne.mpr c5
  have j7o:=bne_iff_ne.mpr c5
  obtain rfl:=Option.some.inj H
  go_enter Tryz.func22,Tryz.ntmps22
  go_wp2_with (first|((with_reducible refine gate_dst (N:=2) rfl ?_);refine bxe_ #[.int .i64 je,.int .i64 jc,.int .i64 jd,.slice jl jb.length jm] 26 ?_;intro j2i hg w12 hbox hb;have jj:=ai_ (hbox);have j2j:=ai_ (gb_ hg (below_size (below_to HB)));have jk:=ai_ (gb_ hg (below_size (below_to HB)));replace HB:=ai_ (below_step (below_to HB) hb);clear hb hbox hg)|((with_reducible refine gate_dst (N:=3) rfl ?_);refine bxe_ #[.int .i64 j1f,.int .i64 j1g,.int .i64 j1h,.slice j2e jz.length j2f] 26 ?_;intro j2k hg w13 hbox hb;have j1b:=ai_ (hbox);have j2l:=ai_ (gb_ hg (below_size (below_to1 HB jk.out)));have j1c:=ai_ (gb_ hg (below_size (below_to1 HB jk.out)));replace HB:=ai_ (below_step (below_to1 HB jk.out) hb);have jf:=ai_ (ne_ hg (blk_lt (blk_to jj)));replace jj:=bb_ jj hb;have jn:=ai_ jf.out.symm;clear hb hbox hg;have j5d:=jf.out;have j5e:=jn.out;obtain ⟨j3e,j3f,j3g,j3h,j3i,j3j,j3k,j3l⟩:=blk4_ jj;obtain ⟨j3m,j3n,j3o,j3p,j3q,j3r,j3s,j3t⟩:=blk4_ j1b))
  go_ret
  exact ⟨rtE_,below_to2 HB jk.out j1c.out⟩
def spec_DrawLastBusBy.i.f (k:Nat) (l0:List Int) (j2m:List Int) (j7p:Int) (j7q:Int):Option (Int × Int × Int × List Int × Int × Int × Int × Int × Int):=(spec_l1Cur_stop.f j2m j7p j7q).bind fun bt389=>((spec_l1Cur_line.f k j2m bt389.2.1 bt389.2.2).bind fun bt392=>((spec_l1Cur_pick.f j2m bt392.2.2.2.2.1 bt392.2.2.2.2.2 3).bind fun bt400=>((spec_l1Cur_pick.f j2m bt400.2.1 bt400.2.2 2).bind fun bt403=>((spec_l1Cur_minute.f j2m bt403.2.1 bt403.2.2).bind fun bt406=>(some (bt392.1,bt392.2.1,bt392.2.2.1,bt392.2.2.2.1,bt389.1,wrap64 ((wrap64 (bt389.1+bt400.1))+bt403.1),bt406.1,bt406.2.1,bt406.2.2))))))
def spec_DrawLastBusBy.f (k:Nat) (l0:List Int):Option (Int × Int × Int × List Int × Int × Int × Int):=(spec_DrawLastBusBy.i.f k l0 l0 0 0).bind fun b=>some (b.1,b.2.1,b.2.2.1,b.2.2.2.1,b.2.2.2.2.1,b.2.2.2.2.2.1,b.2.2.2.2.2.2.1)
theorem spec_DrawLastBusBy.calls (k:Nat) (A0:Option Addr) (c0:Nat) (l0:List Int) (r1:Int) (r2:Int) (r3:Int) (r4:List Int) (r5:Int) (r6:Int) (r7:Int) (wz_:World) (hr0:Kd.C (Kd.int .u8) wz_ A0 l0.length l0) (hc0:l0.length≤c0) (h:spec_DrawLastBusBy.f k l0=some (r1,r2,r3,r4,r5,r6,r7)) :
  Calls Tryz.prog 23 #[.slice A0 l0.length c0] wz_ fun e w' => ∃ Aa:Value,e=.returned (.tuple #[.agg #[.int .i64 r1,.int .i64 r2,.int .i64 r3,Aa],.int .i64 r5,.int .i64 r6,.int .i64 r7])∧Kd.R Ki_ 3 w' wz_.heap.size (fun _=>True) Aa r4∧Below wz_.heap.size wz_ w':=by
 obtain ⟨b_,hb0_,h⟩:=Option.bind_eq_some_iff.mp h
 obtain ⟨r1z_,r2z_,r3z_,r4z_,r5z_,r6z_,r7z_,r8,r9⟩:=b_
 simp only [Option.some.injEq,Prod.mk.injEq] at h
 obtain ⟨hq0_,hq1_,hq2_,hq3_,hq4_,hq5_,hq6_⟩:=h
 obtain rfl:=hq0_.symm
 obtain rfl:=hq1_.symm
 obtain rfl:=hq2_.symm
 obtain rfl:=hq3_.symm
 obtain rfl:=hq4_.symm
 obtain rfl:=hq5_.symm
 obtain rfl:=hq6_.symm
 suffices hh_:∀ (w0 w wq:World) (g js:Nat),w0=wz_→w=wz_→js=wz_.heap.size→g=wz_.heap.size+1→wq=(wz_.alloc (.cells #[.int .i64 0,.int .i64 0,.int .i64 0,.slice none 0 0] 26 (0,0))).alloc (.cells #[.slice A0 l0.length c0,.int .i64 0,.int .u64 0] 55 (0,0))→Calls Tryz.prog 23 #[.slice A0 l0.length c0] wz_ fun e w' => ∃ Aa:Value,e=.returned (.tuple #[.agg #[.int .i64 r1,.int .i64 r2,.int .i64 r3,Aa],.int .i64 r5,.int .i64 r6,.int .i64 r7])∧Kd.R Ki_ 3 w' w.heap.size (fun _=>True) Aa r4∧IsS55 w0 w' g l0 r8 r9∧Below w0.heap.size w0 w'∧KeepBut w w' g none by
  refine (hh_ wz_ wz_ _ _ _ rfl rfl rfl rfl rfl).mono ?_
  rintro e w' ⟨Aa,he_,hr0_,_,hb_,_⟩
  exact ⟨Aa,he_,hr0_,hb_⟩
 intro w0 w wq g js HW0_ HWW_ HGgb388_ HG_ HW_
 have hB1_:Below wz_.heap.size wz_ (wz_.alloc (.cells #[.int .i64 0,.int .i64 0,.int .i64 0,.slice none 0 0] 26 (0,0))):=(below_alloc (Below.refl _ _) _)
 have hs1_:(wz_.alloc (.cells #[.int .i64 0,.int .i64 0,.int .i64 0,.slice none 0 0] 26 (0,0))).heap.size=g:=by rw [HG_];exact (Array.size_push ..)
 have hI:IsS55 w0 wq g l0 0 0:=by rw [HW_,HW0_,← hs1_];exact IsS55.new _ _ _ c0 _ _ _ hB1_ hr0
 have hB:Below w0.heap.size w0 wq:=by rw [HW0_,HW_];exact below_alloc hB1_ _
 have hBw_:Below w.heap.size w wq:=by rw [HWW_,HW_];exact below_alloc hB1_ _
 have hle_:w0.heap.size≤w.heap.size:=by rw [HW0_,HWW_];exact Nat.le_refl _
 have jr:=ai_ (show wq.heap[js]?=some (.cells #[.int .i64 0,.int .i64 0,.int .i64 0,.slice none 0 0] 26 (0,0)) from by rw [HW_,HGgb388_];exact blk_alloc ((by have h_:=blk_new wz_ (.cells #[.int .i64 0,.int .i64 0,.int .i64 0,.slice none 0 0] 26 (0,0));rw [show wz_.heap.size=wz_.heap.size from rfl] at h_;exact h_)) _)
 have jv:=ai_ (show w.heap.size≤js by rw [HWW_,HGgb388_];omega)
 have j1d:=ai_ (show w0.heap.size≤js by rw [HW0_,HGgb388_];omega)
 have ji:=ai_ (show g≠js by rw [HG_,HGgb388_];omega)
 have jt:=ai_ (show js≠g by rw [HG_,HGgb388_];omega)
 have hr0':Kd.C (Kd.int .u8) w A0 l0.length l0:=by rw [HWW_];exact hr0
 clear hr0
 have hr0:=hr0'
 clear hr0'
 have HWZ:=ai_ HW_
 have HGZ:=ai_ HG_
 have HGZgb388:=ai_ HGgb388_
 clear HW_ HG_ HW0_ HWW_ HGgb388_ hs1_ hB1_
 have h:=hb0_
 clear hb0_
 have hu26:=Tryz.underlying26
 have HR0:=ai_ hr0
 have HC0:=ai_ hc0
 clear hr0 hc0
 have HI1:=ai_ hI
 have HK:=ai_ (KeepBut.of_below hBw_ g none)
 have HL:=ai_ hle_
 clear hI
 have HW0:=ai_ hle_
 have HB:=ai_ hB
 clear hB
 have H:=h
 unfold spec_DrawLastBusBy.f at H
 clear h
 obtain ⟨⟨j7r,j5f,j5g⟩,A3,H⟩:=bs_ H
 (try dsimp only at H)
 obtain ⟨⟨j4u,j4v,j4w,j4x,j5h,j5i⟩,A4,H⟩:=bs_ H
 (try dsimp only at H)
 obtain ⟨⟨j7s,j5j,j5k⟩,A5,H⟩:=bs_ H
 (try dsimp only at H)
 obtain ⟨⟨j7t,j5l,j5m⟩,A6,H⟩:=bs_ H
 (try dsimp only at H)
 obtain ⟨⟨j7u,j7v,j7w⟩,A7,H⟩:=bs_ H
 (try dsimp only at H)
 simp only [Option.some.injEq,Prod.mk.injEq] at H
 obtain ⟨rfl,rfl,rfl,rfl,rfl,rfl,rfl,rfl,rfl⟩:=H
 go_enter Tryz.func23,Tryz.ntmps23
 go_upto_region 2 with (fail)
 rw [← HWZ.out,← HGZ.out,← HGZgb388.out]
 go_wp2_with (first|((with_reducible refine gate_dst (N:=2) rfl ?_);refine bxe_ #[.int .i64 0,.int .i64 0,.int .i64 0,.slice none 0 0] 26 ?_;intro js hg w8 hbox hb;replace HB:=ai_ (below_step (below_to1 HB (IsS55.ge HI1.out)) hb);have jr:=ai_ (hbox);have jv:=ai_ (gb_ hg (keep_size (keep_to HK)));replace HK:=ai_ (KeepBut.trans (keep_to HK) (KeepBut.of_below hb g none) (.inl rfl));have j1d:=ai_ (Nat.le_trans HW0.out jv.out);have ji:=ai_ (ne_ hg (IsS55.lt (IsS55.to HI1)));replace HI1:=ai_ (IsS55.below (IsS55.to HI1) hb);have jt:=ai_ ji.out.symm;clear hb hbox hg)|((with_reducible refine gate_callee (f:=41) rfl ?_);refine gl_ (some 12) Tryz.func41 #[.pointer (some ⟨g,0,none⟩)] ?_;(with_reducible refine (spec_l1Cur_stop.calls g l0 0 0 j7r j5f j5g w0 _ ?side1 ?side2 A3.out).mono ?_);(case side1=>exact IsS55.tg1 HI1 ji);(case side2=>exact below_to2 HB (IsS55.ge HI1.out) j1d.out);rintro e w9 ⟨rfl,hi,hb,hk⟩;refine ⟨_,rfl,?_⟩;replace jr:=ai_ (KeepBut.blk hk (blk_to jr) jt.out (by simp));replace HK:=ai_ (KeepBut.trans (keep_f1 HK jv) hk (.inl rfl));replace HB:=ai_ (hb);replace HI1:=ai_ (hi);clear hb hk hi)|((with_reducible refine gate_callee (f:=40) rfl ?_);refine gl_ (some 14) Tryz.func40 #[.pointer (some ⟨g,0,none⟩)] ?_;(with_reducible refine (spec_l1Cur_line.calls k g l0 j5f j5g j4u j4v j4w j4x j5h j5i w0 _ ?side1 ?side2 A4.out).mono ?_);(case side1=>exact IsS55.tg1 HI1 ji);(case side2=>exact below_to2 HB (IsS55.ge HI1.out) j1d.out);rintro e w10 ⟨j8o,rfl,ho0,hi,hb,hk⟩;refine ⟨_,rfl,?_⟩;replace jr:=ai_ (KeepBut.blk hk (blk_to jr) jt.out (by simp));have jx:=ai_ (Kd.R_lower ho0 (keep_size (w:=w) (g:=g) (row:=none) (keep_f1 HK jv)));replace HK:=ai_ (KeepBut.trans (keep_f1 HK jv) hk (.inl rfl));replace HB:=ai_ (hb);replace HI1:=ai_ (hi);clear hb hk hi;(try clear ho0))|((with_reducible refine gate_callee (f:=58) rfl ?_);refine gl_ (some 18) Tryz.func58 #[.pointer (some ⟨g,0,none⟩),.int .i64 3] ?_;(with_reducible refine (spec_l1Cur_pick.calls g l0 j5h j5i 3 j7s j5j j5k w0 _ ?side1 ?side2 A5.out).mono ?_);(case side1=>exact IsS55.tg1 HI1 ji);(case side2=>exact below_to2 HB (IsS55.ge HI1.out) j1d.out);rintro e w11 ⟨rfl,hi,hb,hk⟩;refine ⟨_,rfl,?_⟩;replace jr:=ai_ (KeepBut.blk hk (blk_to jr) jt.out (by simp));replace jx:=ai_ (Kd.R_mono (Kd.R_keep (IsS55.apart (IsS55.to1 HI1 ji) (kd_to jx) (by decide)) hk (fun _ h=>h.2)) (fun _ h=>h.1));replace HK:=ai_ (KeepBut.trans (keep_f1 HK jv) hk (.inl rfl));replace HB:=ai_ (hb);replace HI1:=ai_ (hi);clear hb hk hi)|((with_reducible refine gate_callee (f:=58) rfl ?_);refine gl_ (some 21) Tryz.func58 #[.pointer (some ⟨g,0,none⟩),.int .i64 2] ?_;(with_reducible refine (spec_l1Cur_pick.calls g l0 j5j j5k 2 j7t j5l j5m w0 _ ?side1 ?side2 A6.out).mono ?_);(case side1=>exact IsS55.tg1 HI1 ji);(case side2=>exact below_to2 HB (IsS55.ge HI1.out) j1d.out);rintro e w12 ⟨rfl,hi,hb,hk⟩;refine ⟨_,rfl,?_⟩;replace jr:=ai_ (KeepBut.blk hk (blk_to jr) jt.out (by simp));replace jx:=ai_ (Kd.R_mono (Kd.R_keep (IsS55.apart (IsS55.to1 HI1 ji) (kd_to jx) (by decide)) hk (fun _ h=>h.2)) (fun _ h=>h.1));replace HK:=ai_ (KeepBut.trans (keep_f1 HK jv) hk (.inl rfl));replace HB:=ai_ (hb);replace HI1:=ai_ (hi);clear hb hk hi)|((with_reducible refine gate_callee (f:=42) rfl ?_);refine gl_ (some 24) Tryz.func42 #[.pointer (some ⟨g,0,none⟩)] ?_;(with_reducible refine (spec_l1Cur_minute.calls g l0 j5l j5m j7u j7v j7w w0 _ ?side1 ?side2 A7.out).mono ?_);(case side1=>exact IsS55.tg1 HI1 ji);(case side2=>exact below_to2 HB (IsS55.ge HI1.out) j1d.out);rintro e w13 ⟨rfl,hi,hb,hk⟩;refine ⟨_,rfl,?_⟩;replace jr:=ai_ (KeepBut.blk hk (blk_to jr) jt.out (by simp));replace jx:=ai_ (Kd.R_mono (Kd.R_keep (IsS55.apart (IsS55.to1 HI1 ji) (kd_to jx) (by decide)) hk (fun _ h=>h.2)) (fun _ h=>h.1));replace HK:=ai_ (KeepBut.trans (keep_f1 HK jv) hk (.inl rfl));replace HB:=ai_ (hb);replace HI1:=ai_ (hi);clear hb hk hi;have j5d:=jt.out;have j5e:=ji.out;obtain ⟨j3e,j3f,j3g,j3h,j3i,j3j,j3k,j3l⟩:=blk4_ jr;obtain ⟨Ao16,co16,eo16⟩:=Kd.R_slice jx.out;subst eo16))
 refine bodyPost_ret (results_list (rs:=[.cell 2 26,.tmp 3,.tmp 4,.tmp 5]) rfl (by simp) (.cell js 26 #[.int .i64 j4u,.int .i64 j4v,.int .i64 j4w,.slice Ao16 j4x.length co16] (0,0) _ rfl (bput4 jr) Tryz.underlying26 rfl (by kernel_rfl) (.tmp (.tmp (.tmp .nil))))) rfl ?_
 exact ⟨_,rtE_,by (with_reducible repeat (first|apply Kd.R_alloc|apply Kd.R_drewN|apply Kd.R_drew));exact Kd.R_mono (Kd.R_far (p:=⟨js,3,none⟩) (Kd.R_far (p:=⟨js,2,none⟩) (Kd.R_far (p:=⟨js,1,none⟩) (Kd.R_far (p:=⟨js,0,none⟩) (Kd.R_types jx.out jr.out (by decide)) (fun _ hk=>hk.2) (.int .i64 j4u)) (fun _ hk=>hk.2) (.int .i64 j4v)) (fun _ hk=>hk.2) (.int .i64 j4w)) (fun _ hk=>hk.2) (.slice Ao16 j4x.length co16)) (fun _ hk=>trivial),IsS55.tg1 HI1 ji,below_to2 HB (IsS55.ge HI1.out) j1d.out,keep_f1 HK jv⟩
def impl_LastBusBy.j0:Nat→Int→Int→Int→Bool→Int→Int→Int→List Int→Option (Int × Int × Bool)
 | 0,_,_,_,_,_,_,_,_=>none
 | k+1,x1,x2,x3,x34,j2b,jw,j1a,j2c=>if x34=true then (some (0,0,false)) else ((impl_timeAt.f j2b jw j1a j2c 0 x2).bind fun j1k=>(if jw=0 then (none) else ((impl_timeAt.f j2b jw j1a j2c (mn (wrap64 (j1a - 1)) (wrap64 (Int.tdiv (wrap64 (x3 - j1k)) jw))) x1).bind fun j2n=>(some (mn (wrap64 (j1a - 1)) (wrap64 (Int.tdiv (wrap64 (x3 - j1k)) jw)),j2n,true)))))
def impl_LastBusBy.f (k:Nat) (je:Int) (jc:Int) (jd:Int) (jb:List Int) (a1:Int) (a2:Int) (a3:Int):Option (Int × Int × Bool):=(impl_hasStops.f k je jc jd jb (([a1,a2]:List Int))).bind fun j2o=>(if j2o=true then (if a1≥a2 then (impl_LastBusBy.j0 k a1 a2 a3 true je jc jd jb) else ((impl_isMinute.f a3).bind fun j2p=>(if j2p=true then ((impl_timeAt.f je jc jd jb 0 a2).bind fun j2g=>(impl_LastBusBy.j0 k a1 a2 a3 (decide (j2g > a3)) je jc jd jb)) else (impl_LastBusBy.j0 k a1 a2 a3 true je jc jd jb)))) else (impl_LastBusBy.j0 k a1 a2 a3 true je jc jd jb))
def impl_LastBusBy.T3:Bool × List (List Nat × List Nat):=(true,[([],[]),([0],[0]),([1],[1]),([],[]),([],[]),([],[]),([4,5],[4,5]),([3,6],[3,6]),([],[]),([8],[8]),([7,9],[7,9]),([2,10],[2,10]),([11,6,0,1,2,3,4,5,6,7,8,9,10,11],[11])])
def impl_LastBusBy.B3:List Nat:=[0,1,3,0,0,0,48,120,0,256,1016,2047,4095]
theorem impl_LastBusBy.tab3:rtab .any (opsOf Tryz.f24 3)=impl_LastBusBy.T3:=by kernel_rfl
theorem impl_LastBusBy.bits3:waitsOk impl_LastBusBy.T3.2 impl_LastBusBy.B3=true:=by kernel_rfl
theorem impl_LastBusBy.calls (k:Nat) (je:Int) (jc:Int) (jd:Int) (jl:Option Addr) (jm:Nat) (jb:List Int) (a1:Int) (a2:Int) (a3:Int) (r1:Int) (r2:Int) (r3:Bool) (w:World) (hr0_3:Kd.C Ki_ w jl jb.length jb) (hc0_3:jb.length≤jm) (h:impl_LastBusBy.f k je jc jd jb a1 a2 a3=some (r1,r2,r3)) :
  Calls Tryz.prog 24 #[.agg #[.int .i64 je,.int .i64 jc,.int .i64 jd,.slice jl jb.length jm],.int .i64 a1,.int .i64 a2,.int .i64 a3] w fun e w'=>e=.returned (.tuple #[.int .i64 r1,.int .i64 r2,.bool r3])∧Below w.heap.size w w':=by
 have hu26:=Tryz.underlying26
 have jp:=ai_ hr0_3
 have jq:=ai_ hc0_3
 clear hr0_3 hc0_3
 have HB:=ai_ (Below.refl w.heap.size w)
 have H:=h
 unfold impl_LastBusBy.f at H
 clear h
 have HC5:=ai_ H
 clear H
 go_enter Tryz.func24,Tryz.ntmps24
 go_upto_region 1 with (first|((with_reducible refine gate_dst (N:=4) rfl ?_);refine bxe_ #[.int .i64 je,.int .i64 jc,.int .i64 jd,.slice jl jb.length jm] 26 ?_;intro j1j hg w6 hbox hb;have ja:=ai_ (hbox);have j8j:=ai_ (gb_ hg (below_size (below_to HB)));have jh:=ai_ (gb_ hg (below_size (below_to HB)));replace HB:=ai_ (below_step (below_to HB) hb);clear hb hbox hg))
 (try simp only [Act.put,List.setIfInBounds_toArray,List.set_cons_zero,List.set_cons_succ])
 go_cut [34] (fun v34 wc => ∃ (kq:Nat) (j2d:Bool),v34=.bool j2d∧Aside0 (impl_LastBusBy.j0 kq a1 a2 a3 j2d je jc jd jb=some (r1,r2,r3))∧Aside0 (kq≤k)∧Aside0 (wc.heap[j1j]?=some (.cells #[.int .i64 je,.int .i64 jc,.int .i64 jd,(.slice jl jb.length jm)] 26 (0,0)))∧Aside0 (Below w.heap.size w wc))
 case first =>
  have H:=HC5.out
  clear HC5
  obtain ⟨j1i,hy410⟩:∃ y_:List Int,y_=(([a1,a2]:List Int)):=⟨_,rfl⟩
  replace H:((impl_hasStops.f k je jc jd jb j1i).bind fun j2o=>(if j2o=true then (if a1≥a2 then (impl_LastBusBy.j0 k a1 a2 a3 true je jc jd jb) else ((impl_isMinute.f a3).bind fun j2p=>(if j2p=true then ((impl_timeAt.f je jc jd jb 0 a2).bind fun j2g=>(impl_LastBusBy.j0 k a1 a2 a3 (decide (j2g > a3)) je jc jd jb)) else (impl_LastBusBy.j0 k a1 a2 a3 true je jc jd jb)))) else (impl_LastBusBy.j0 k a1 a2 a3 true je jc jd jb)))=some (r1,r2,r3):=by first|(rw [hy410];with_reducible exact H)|(have H2_:=(Option.bind_some _ _).symm.trans H;rw [hy410];with_reducible exact H2_)|(have H2_:=(Option.bind_some _ _).symm.trans H;with_reducible exact H2_)|with_reducible exact H|(rw [hy410];exact H)|exact H
  have jy:=ai_ hy410
  clear hy410
  obtain ⟨j2o,A7,H⟩:=bs_ H
  (try dsimp only at H)
  by_cases c8:j2o=true
  rotate_left
  ·replace c8:=Bool.eq_false_iff.mpr c8
   subst c8
   rw [if_neg ft_] at H
   have H':=ai_ H
   clear H
   obtain ⟨j3u,j3v,j3w,j3x,j3y,j3z,j4a,j4b⟩:=blk4_ ja
   go_wp2_with (first|((with_reducible refine gate_dst (N:=15) rfl ?_);refine Kd.R_lit Ki_ _ 3 ?hg (N:=15) ?hd (xs:=([a1,a2]:List Int)) (inner:=[.int .i64 a1,.int .i64 a2]) (ok:=fun _=>True) (okp:=fun _=>True) ?hr ?hp (fun _ hk=>hk) trivial (Below.refl _ _) (Nat.le_refl _) (by simp) ?_;(case hd=>rfl);(case hg=>rfl);(case hr=>first|(go_simp;done)|(go_simp;rfl));(case hp=>exact (Reps.one (show Kd.M Ki_ _ _ _ a1 [.int .i64 a1] from rfl) (Reps.one (show Kd.M Ki_ _ _ _ a2 [.int .i64 a2] from rfl) (Reps.none _ _))));intro j4y w31 j2q hb hg_ hnew_;clear hg_ hnew_;(first|rw [← jy.out] at j2q|(simp only [Int.reduceToNat] at j2q;rw [← jy.out] at j2q));have jg:=ai_ (Kd.R_lower j2q (below_size (below_to1 HB jh.out)));replace ja:=bb_ ja hb;replace HB:=ai_ (below_step (below_to1 HB jh.out) hb);clear hb j2q;obtain ⟨Ao33,co33,eo33⟩:=Kd.R_slice jg.out;subst eo33)|((with_reducible refine gate_callee (f:=43) rfl ?_);refine gl_ (some 16) Tryz.func43 #[.agg #[.int .i64 je,.int .i64 jc,.int .i64 jd,.slice jl jb.length jm],.slice Ao33 j1i.length co33] ?_;(with_reducible refine (impl_hasStops.calls k je jc jd _ _ jb _ _ j1i false _ ?side1 jq.out ?side3 ?side4 A7.out).mono ?_);(case side1=>exact cb_ jp HB);(case side3=>exact cR_ jg);(case side4=>exact (Kd.R_reads' jg.out).2.1);rintro e w34 ⟨rfl,hb⟩;refine ⟨_,rfl,?_⟩;replace jg:=rb_ jg hb;replace ja:=bb_ ja hb;replace HB:=ai_ (below_step (below_to1 HB jh.out) hb);clear hb))
   go_meet
   case rel=>exact ⟨_,(true),rt_,H',⟨by first|omega|exact Nat.le_refl _⟩,⟨blk_to ja⟩,⟨below_to1 HB jh.out⟩⟩
  subst c8
  rw [if_pos rfl] at H
  by_cases c9:a1≥a2
  ·rw [if_pos c9] at H
   have j2h:=decide_eq_true c9
   clear c9
   (first|rw [j2h]|(simp only [i64_w,i32_w];rw [j2h])|skip)
   have H':=ai_ H
   clear H
   obtain ⟨j1t,j1u,j1v,j1w,j1x,j1y,j1z,j2a⟩:=blk4_ ja
   go_wp2_with (first|((with_reducible refine gate_dst (N:=15) rfl ?_);refine Kd.R_lit Ki_ _ 3 ?hg (N:=15) ?hd (xs:=([a1,a2]:List Int)) (inner:=[.int .i64 a1,.int .i64 a2]) (ok:=fun _=>True) (okp:=fun _=>True) ?hr ?hp (fun _ hk=>hk) trivial (Below.refl _ _) (Nat.le_refl _) (by simp) ?_;(case hd=>rfl);(case hg=>rfl);(case hr=>first|(go_simp;done)|(go_simp;rfl));(case hp=>exact (Reps.one (show Kd.M Ki_ _ _ _ a1 [.int .i64 a1] from rfl) (Reps.one (show Kd.M Ki_ _ _ _ a2 [.int .i64 a2] from rfl) (Reps.none _ _))));intro j4y w11 j2r hb hg_ hnew_;clear hg_ hnew_;(first|rw [← jy.out] at j2r|(simp only [Int.reduceToNat] at j2r;rw [← jy.out] at j2r));have jg:=ai_ (Kd.R_lower j2r (below_size (below_to1 HB jh.out)));replace ja:=bb_ ja hb;replace HB:=ai_ (below_step (below_to1 HB jh.out) hb);clear hb j2r;obtain ⟨Ao13,co13,eo13⟩:=Kd.R_slice jg.out;subst eo13)|((with_reducible refine gate_callee (f:=43) rfl ?_);refine gl_ (some 16) Tryz.func43 #[.agg #[.int .i64 je,.int .i64 jc,.int .i64 jd,.slice jl jb.length jm],.slice Ao13 j1i.length co13] ?_;(with_reducible refine (impl_hasStops.calls k je jc jd _ _ jb _ _ j1i true _ ?side1 jq.out ?side3 ?side4 A7.out).mono ?_);(case side1=>exact cb_ jp HB);(case side3=>exact cR_ jg);(case side4=>exact (Kd.R_reads' jg.out).2.1);rintro e w14 ⟨rfl,hb⟩;refine ⟨_,rfl,?_⟩;replace jg:=rb_ jg hb;replace ja:=bb_ ja hb;replace HB:=ai_ (below_step (below_to1 HB jh.out) hb);clear hb))
   go_meet
   case rel=>exact ⟨_,(true),rt_,H',⟨by first|omega|exact Nat.le_refl _⟩,⟨blk_to ja⟩,⟨below_to1 HB jh.out⟩⟩
  rw [if_neg c9] at H
  have j2h:=decide_eq_false c9
  clear c9
  (first|rw [j2h]|(simp only [i64_w,i32_w];rw [j2h])|skip)
  obtain ⟨j2p,A15,H⟩:=bs_ H
  (try dsimp only at H)
  by_cases c16:j2p=true
  ·subst c16
   rw [if_pos rfl] at H
   obtain ⟨j2g,A17,H⟩:=bs_ H
   (try dsimp only at H)
   have H':=ai_ H
   clear H
   obtain ⟨j4c,j4d,j4e,j4f,j4g,j4h,j4i,j4j⟩:=blk4_ ja
   go_wp2_with (first|((with_reducible refine gate_dst (N:=15) rfl ?_);refine Kd.R_lit Ki_ _ 3 ?hg (N:=15) ?hd (xs:=([a1,a2]:List Int)) (inner:=[.int .i64 a1,.int .i64 a2]) (ok:=fun _=>True) (okp:=fun _=>True) ?hr ?hp (fun _ hk=>hk) trivial (Below.refl _ _) (Nat.le_refl _) (by simp) ?_;(case hd=>rfl);(case hg=>rfl);(case hr=>first|(go_simp;done)|(go_simp;rfl));(case hp=>exact (Reps.one (show Kd.M Ki_ _ _ _ a1 [.int .i64 a1] from rfl) (Reps.one (show Kd.M Ki_ _ _ _ a2 [.int .i64 a2] from rfl) (Reps.none _ _))));intro j4y w19 j2s hb hg_ hnew_;clear hg_ hnew_;(first|rw [← jy.out] at j2s|(simp only [Int.reduceToNat] at j2s;rw [← jy.out] at j2s));have jg:=ai_ (Kd.R_lower j2s (below_size (below_to1 HB jh.out)));replace ja:=bb_ ja hb;replace HB:=ai_ (below_step (below_to1 HB jh.out) hb);clear hb j2s;obtain ⟨Ao21,co21,eo21⟩:=Kd.R_slice jg.out;subst eo21)|((with_reducible refine gate_callee (f:=43) rfl ?_);refine gl_ (some 16) Tryz.func43 #[.agg #[.int .i64 je,.int .i64 jc,.int .i64 jd,.slice jl jb.length jm],.slice Ao21 j1i.length co21] ?_;(with_reducible refine (impl_hasStops.calls k je jc jd _ _ jb _ _ j1i true _ ?side1 jq.out ?side3 ?side4 A7.out).mono ?_);(case side1=>exact cb_ jp HB);(case side3=>exact cR_ jg);(case side4=>exact (Kd.R_reads' jg.out).2.1);rintro e w22 ⟨rfl,hb⟩;refine ⟨_,rfl,?_⟩;replace jg:=rb_ jg hb;replace ja:=bb_ ja hb;replace HB:=ai_ (below_step (below_to1 HB jh.out) hb);clear hb)|(go_at_call 44;(with_reducible refine (impl_isMinute.calls a3 true _ A15.out).mono ?_);rintro e w' ⟨rfl,⟨nd,rfl⟩⟩;obtain ⟨j4k,j4l,j4m,j4n,j4o,j4p,j4q,j4r⟩:=blk4_ ja)|(go_at_call 51;(with_reducible refine (impl_timeAt.calls je jc jd _ _ jb 0 a2 j2g _ ?side1 jq.out A17.out).mono ?_);(case side1=>repeat (first|exact (Kd.C_below jp.out (below_to1 HB jh.out))|(with_reducible refine Kd.C_alloc ?_ _)|(with_reducible refine Kd.C_drewN ?_ _)|(with_reducible refine Kd.C_drew ?_)));rintro e w24 ⟨rfl,hb⟩;replace jg:=rb_ jg hb;replace ja:=bb_ ja hb;replace HB:=ai_ (below_step (below_to1 HB jh.out) hb);clear hb))
   go_meet
   case rel=>exact ⟨_,(decide (j2g > a3)),rt_,H',⟨by first|omega|exact Nat.le_refl _⟩,⟨blk_to ja⟩,⟨below_to1 HB jh.out⟩⟩
  ·replace c16:=Bool.eq_false_iff.mpr c16
   subst c16
   rw [if_neg ft_] at H
   have H':=ai_ H
   clear H
   obtain ⟨j1l,j1m,j1n,j1o,j1p,j1q,j1r,j1s⟩:=blk4_ ja
   go_wp2_with (first|((with_reducible refine gate_dst (N:=15) rfl ?_);refine Kd.R_lit Ki_ _ 3 ?hg (N:=15) ?hd (xs:=([a1,a2]:List Int)) (inner:=[.int .i64 a1,.int .i64 a2]) (ok:=fun _=>True) (okp:=fun _=>True) ?hr ?hp (fun _ hk=>hk) trivial (Below.refl _ _) (Nat.le_refl _) (by simp) ?_;(case hd=>rfl);(case hg=>rfl);(case hr=>first|(go_simp;done)|(go_simp;rfl));(case hp=>exact (Reps.one (show Kd.M Ki_ _ _ _ a1 [.int .i64 a1] from rfl) (Reps.one (show Kd.M Ki_ _ _ _ a2 [.int .i64 a2] from rfl) (Reps.none _ _))));intro j4y w26 j2t hb hg_ hnew_;clear hg_ hnew_;(first|rw [← jy.out] at j2t|(simp only [Int.reduceToNat] at j2t;rw [← jy.out] at j2t));have jg:=ai_ (Kd.R_lower j2t (below_size (below_to1 HB jh.out)));replace ja:=bb_ ja hb;replace HB:=ai_ (below_step (below_to1 HB jh.out) hb);clear hb j2t;obtain ⟨Ao28,co28,eo28⟩:=Kd.R_slice jg.out;subst eo28)|((with_reducible refine gate_callee (f:=43) rfl ?_);refine gl_ (some 16) Tryz.func43 #[.agg #[.int .i64 je,.int .i64 jc,.int .i64 jd,.slice jl jb.length jm],.slice Ao28 j1i.length co28] ?_;(with_reducible refine (impl_hasStops.calls k je jc jd _ _ jb _ _ j1i true _ ?side1 jq.out ?side3 ?side4 A7.out).mono ?_);(case side1=>exact cb_ jp HB);(case side3=>exact cR_ jg);(case side4=>exact (Kd.R_reads' jg.out).2.1);rintro e w29 ⟨rfl,hb⟩;refine ⟨_,rfl,?_⟩;replace jg:=rb_ jg hb;replace ja:=bb_ ja hb;replace HB:=ai_ (below_step (below_to1 HB jh.out) hb);clear hb)|(go_at_call 44;(with_reducible refine (impl_isMinute.calls a3 false _ A15.out).mono ?_);rintro e w' ⟨rfl,⟨nd,rfl⟩⟩))
   go_meet
   case rel=>exact ⟨_,(true),rt_,H',⟨by first|omega|exact Nat.le_refl _⟩,⟨blk_to ja⟩,⟨below_to1 HB jh.out⟩⟩
 clear HC5
 try clear c1
 try clear c2
 try clear p2
 try clear c4
 try clear c8
 try clear c9
 try clear j2h
 try clear c16
 try clear c24
 try clear j1t
 try clear j1u
 try clear j1v
 try clear j1w
 try clear j4c
 try clear j4d
 try clear j4e
 try clear j4f
 try clear j4k
 try clear j4l
 try clear j4m
 try clear j4n
 try clear j1l
 try clear j1m
 try clear j1n
 try clear j1o
 try clear j3u
 try clear j3v
 try clear j3w
 try clear j3x
 try clear j1x
 try clear j1y
 try clear j1z
 try clear j2a
 try clear j4g
 try clear j4h
 try clear j4i
 try clear j4j
 try clear j4o
 try clear j4p
 try clear j4q
 try clear j4r
 try clear j1p
 try clear j1q
 try clear j1r
 try clear j1s
 try clear j3y
 try clear j3z
 try clear j4a
 try clear j4b
 obtain ⟨kq,j2d,rfl,HA,HJ4,ja,HB⟩:=hcut
 cases kq with
 | zero=>exact absurd HA.out (by simp [impl_LastBusBy.j0])
 | succ kj4 =>
  have H:=HA.out
  clear HA
  simp only [impl_LastBusBy.j0] at H
  by_cases c35:j2d=true
  ·subst c35
   rw [if_pos rfl] at H
   simp only [Option.some.injEq,Prod.mk.injEq] at H
   obtain ⟨rfl,rfl,rfl⟩:=H
   go_wp2
   go_ret3
   exact ⟨rtE_,below_to1 HB jh.out⟩
  replace c35:=Bool.eq_false_iff.mpr c35
  subst c35
  rw [if_neg ft_] at H
  obtain ⟨j1k,A36,H⟩:=bs_ H
  (try dsimp only at H)
  by_cases c37:jc=0
  ·rw [if_pos c37] at H
   cases H
  rw [if_neg c37] at H
  have j8k:=beq_eq_false_iff_ne.mpr c37
  have j8l:=bne_iff_ne.mpr c37
  obtain ⟨j2u,j1e⟩:∃ j_:Int,(mn (wrap64 (jd - 1)) (wrap64 (Int.tdiv (wrap64 (a3 - j1k)) jc)))=j_:=⟨_,rfl⟩
  replace H:((impl_timeAt.f je jc jd jb (j2u) a1).bind fun j2n=>(some (j2u,j2n,true)))=some (r1,r2,r3):=by first|(rw [j1e] at H;exact H)|(simp only [j1e] at H ⊢;exact H)
  (try rw [j1e] at A36)
  have hji38_:(if (wrap64 (Int.tdiv (wrap64 (a3 - j1k)) jc)) < (wrap64 (jd - 1)) then (wrap64 (Int.tdiv (wrap64 (a3 - j1k)) jc)) else (wrap64 (jd - 1)))=j2u:=j1e
  obtain ⟨j2n,A39,H⟩:=bs_ H
  (try dsimp only at H)
  simp only [Option.some.injEq,Prod.mk.injEq] at H
  obtain ⟨rfl,rfl,rfl⟩:=H
  try go_wp2
  have n0_:=ai_ (blk_drew ja.out)
  have n1_:=ai_ (below_drew1 HB.out)
  clear ja
  clear HB
  have ja:=n0_
  have HB:=n1_
  clear n0_ n1_
  refine start_ (n:=13) (S:=fun w'=>w'.cell? ⟨j1j,0,none⟩=some (.int .i64 je)∧w'.cell? ⟨j1j,1,none⟩=some (.int .i64 jc)∧w'.cell? ⟨j1j,2,none⟩=some (.int .i64 jd)∧w'.cell? ⟨j1j,3,none⟩=some (.slice jl jb.length jm)) (ds:=[]) (fr_ [0,13]) (by kernel_rfl) rfl rfl ⟨(blk_cell ja.out 0).trans rfl,(blk_cell ja.out 1).trans rfl,(blk_cell ja.out 2).trans rfl,(blk_cell ja.out 3).trans rfl⟩ (fun hHeld=>?_);refine with_tabW impl_LastBusBy.tab3 impl_LastBusBy.bits3 (fun HT_ HW_=>?_)
  generalize wc.drew=w40 at ja HB hHeld ⊢
  refine purS_ (i:=0) (N:=some 35) (fl_ 13 1) HT_.out ?_
  refine purS_ (i:=3) (N:=some 38) (fr_ [1,2,1,9]) HT_.out ?_
  refine purS_ (i:=5) (N:=some 40) (fr_ [1,2,1,1,1,7]) HT_.out ?_
  refine purS_ (i:=8) (N:=some 43) (fr_ [1,2,1,1,1,2,1,4]) HT_.out ?_
  refine take_ (i:=1) (N:=some 36) (v:=?_) (a':=?_) (fr_ [2,1,1,1,1,2,1,4]) rfl rfl (take_ofW HT_.out HW_.out (by kernel_rfl)) (fun _ _ _ h=>h) (Or.inl ⟨by rfl,?_⟩) hHeld ?_ ?_
  rotate_left
  ·rintro w' ⟨s0,s1,s2,s3⟩
   go_simp
   with_reducible rfl
  rotate_left
  ·simp only [Act.put,List.setIfInBounds_toArray,List.set_cons_zero,List.set_cons_succ,i64_w,i32_w]
   rfl
  refine purS_ (i:=2) (N:=some 37) (fr_ [4,1,1,2,1,4]) HT_.out ?_
  refine take_ (i:=4) (N:=some 39) (v:=?_) (a':=?_) (fr_ [6,2,1,4]) rfl rfl (take_ofW HT_.out HW_.out (by kernel_rfl)) (fun _ _ _ h=>h) (Or.inl ⟨by rfl,?_⟩) hHeld ?_ ?_
  rotate_left
  ·rintro w' ⟨s0,s1,s2,s3⟩
   go_simp
   with_reducible rfl
  rotate_left
  ·simp only [Act.put,List.setIfInBounds_toArray,List.set_cons_zero,List.set_cons_succ,i64_w,i32_w]
   rfl
  refine take_ (i:=9) (N:=some 44) (v:=?_) (a':=?_) (fr_ [6,2,2,3]) rfl rfl (take_ofW HT_.out HW_.out (by kernel_rfl)) (fun _ _ _ h=>h) (Or.inl ⟨by rfl,?_⟩) hHeld ?_ ?_
  rotate_left
  ·rintro w' ⟨s0,s1,s2,s3⟩
   go_simp
   with_reducible rfl
  rotate_left
  ·simp only [Act.put,List.setIfInBounds_toArray,List.set_cons_zero,List.set_cons_succ,i64_w,i32_w]
   rfl
  refine one_ (i:=6) (N:=some 41) (fr_ [7,1,2,3]) rfl rfl (one_of HT_.out (by kernel_rfl)) (by decide) (fun K hK=>?_)
  refine goes_ Tryz.func51 (by kernel_rfl) rfl #[.agg #[.int .i64 je,.int .i64 jc,.int .i64 jd,.slice jl jb.length jm],.int .i64 0,.int .i64 a2] (by rfl) rfl rfl am_ ?_
  with_reducible refine (impl_timeAt.calls je jc jd _ _ jb 0 a2 j1k _ ?side1 ?side2 A36.out).mono ?_
  (case side1=>exact cb_ jp HB)
  (case side2=>exact jq.out)
  rintro e w41 ⟨rfl,hb⟩
  refine ⟨_,rfl,?_⟩
  have n0_:=bb_ ja hb
  have n1_:=ai_ (below_step (below_to1 HB jh.out) hb)
  clear ja
  clear HB
  have ja:=n0_
  have HB:=n1_
  clear n0_ n1_
  (try clear hb)
  (try clear hb2)
  (try clear hk)
  (try clear hi)
  refine hK.out _ _ ⟨(blk_cell ja.out 0).trans rfl,(blk_cell ja.out 1).trans rfl,(blk_cell ja.out 2).trans rfl,(blk_cell ja.out 3).trans rfl⟩ (fun hHeld=>?_)
  clear hK K
  refine norm_ (a':=?_) ?_ ?_
  rotate_left
  ·show Act.put _ (some 41) _=_
   simp only [Act.put,List.setIfInBounds_toArray,List.set_cons_zero,List.set_cons_succ,i64_w,i32_w]
   rfl
  refine purS_ (i:=7) (N:=some 42) (fl_ 13 10) HT_.out ?_
  refine purS_ (i:=10) (N:=some 45) (fl_ 13 11) HT_.out ?_
  refine purS_ (i:=11) (N:=some 46) (fl_ 13 12) HT_.out ?_
  refine purS_ (i:=12) (N:=some 11) (fl_ 13 13) HT_.out ?_
  refine done_ (done_of HT_.out (by kernel_rfl)) ?_
  obtain ⟨j6l,j6m,j6n,j6o,j6p,j6q,j6r,j6s⟩:=blk4_ ja
  try go_wp2_with (first|((with_reducible refine gate_callee (f:=51) rfl ?_);refine goesL_ (some 51) rfl rfl Tryz.func51 (by kernel_rfl) rfl #[.agg #[.int .i64 je,.int .i64 jc,.int .i64 jd,.slice jl jb.length jm],.int .i64 j2u,.int .i64 a1] rfl (by (try simp only [List.map_toArray,List.map_cons,List.map_nil]);first|done|(simp only [j1e];rfl)|rfl|(simp only [List.length_drop,List.length_take];rfl)) ?_;(with_reducible refine (impl_timeAt.calls je jc jd _ _ jb j2u a1 j2n _ ?side1 jq.out A39.out).mono ?_);(case side1=>exact cb_ jp HB);rintro e w43 ⟨rfl,hb⟩;refine ⟨_,rfl,?_⟩;replace ja:=bb_ ja hb;replace HB:=ai_ (below_step (below_to1 HB jh.out) hb);clear hb))
  go_ret3
  exact ⟨by first|rfl|(simp [errW_none,errW_some] <;> rfl)|(simp only [← j1e];first|rfl|(simp [errW_none,errW_some] <;> rfl))|(simp [*,errW_none,errW_some] <;> rfl),below_to1 HB jh.out⟩
def spec_buRide.f (k:Nat) (je:Int) (jc:Int) (jd:Int) (jb:List Int) (a1:Int) (a2:Int):Option (Bool):=(spec_buStop.f k je jc jd jb a1).bind fun j4z=>(if j4z=true then ((spec_buStop.f k je jc jd jb a2).bind fun j5a=>(if j5a=true then (some (decide (a1 < a2))) else (some false))) else (some false))
theorem spec_buRide.calls (k:Nat) (je:Int) (jc:Int) (jd:Int) (jl:Option Addr) (jm:Nat) (jb:List Int) (a1:Int) (a2:Int) (r:Bool) (w:World) (hr0_3:Kd.C Ki_ w jl jb.length jb) (hc0_3:jb.length≤jm) (h:spec_buRide.f k je jc jd jb a1 a2=some r) :
  Calls Tryz.prog 59 #[.agg #[.int .i64 je,.int .i64 jc,.int .i64 jd,.slice jl jb.length jm],.int .i64 a1,.int .i64 a2] w fun e w'=>e=.returned (.bool r)∧Below w.heap.size w w':=by
 have hu26:=Tryz.underlying26
 have jp:=ai_ hr0_3
 have jq:=ai_ hc0_3
 clear hr0_3 hc0_3
 have HB:=ai_ (Below.refl w.heap.size w)
 have H:=h
 unfold spec_buRide.f at H
 clear h
 obtain ⟨j4z,A4,H⟩:=bs_ H
 (try dsimp only at H)
 by_cases c5:j4z=true
 rotate_left
 ·replace c5:=Bool.eq_false_iff.mpr c5
  subst c5
  rw [if_neg ft_] at H
  obtain rfl:=Option.some.inj H
  go_enter Tryz.func59,Tryz.ntmps59
  go_wp2_with (first|((with_reducible refine gate_dst (N:=3) rfl ?_);refine bxe_ #[.int .i64 je,.int .i64 jc,.int .i64 jd,.slice jl jb.length jm] 26 ?_;intro j4s hg w18 hbox hb;have jo:=ai_ (hbox);have j4t:=ai_ (gb_ hg (below_size (below_to HB)));have ju:=ai_ (gb_ hg (below_size (below_to HB)));replace HB:=ai_ (below_step (below_to HB) hb);clear hb hbox hg;obtain ⟨j6t,j6u,j6v,j6w,j6x,j6y,j6z,j7a⟩:=blk4_ jo)|((with_reducible refine gate_callee (f:=46) rfl ?_);refine gl_ (some 9) Tryz.func46 #[.agg #[.int .i64 je,.int .i64 jc,.int .i64 jd,.slice jl jb.length jm],.int .i64 a1] ?_;(with_reducible refine (spec_buStop.calls k je jc jd _ _ jb a1 false _ ?side1 jq.out A4.out).mono ?_);(case side1=>exact cb_ jp HB);rintro e w20 ⟨rfl,hb⟩;refine ⟨_,rfl,?_⟩;replace jo:=bb_ jo hb;replace HB:=ai_ (below_step (below_to1 HB ju.out) hb);clear hb))
  go_ret
  exact ⟨rtE_,below_to1 HB ju.out⟩
 subst c5
 rw [if_pos rfl] at H
 obtain ⟨j5a,A6,H⟩:=bs_ H
 (try dsimp only at H)
 by_cases c7:j5a=true
 ·subst c7
  rw [if_pos rfl] at H
  obtain rfl:=Option.some.inj H
  go_enter Tryz.func59,Tryz.ntmps59
  go_wp2_with (first|((with_reducible refine gate_dst (N:=3) rfl ?_);refine bxe_ #[.int .i64 je,.int .i64 jc,.int .i64 jd,.slice jl jb.length jm] 26 ?_;intro j4s hg w8 hbox hb;have jo:=ai_ (hbox);have j4t:=ai_ (gb_ hg (below_size (below_to HB)));have ju:=ai_ (gb_ hg (below_size (below_to HB)));replace HB:=ai_ (below_step (below_to HB) hb);clear hb hbox hg;obtain ⟨j7x,j7y,j7z,j8a,j8b,j8c,j8d,j8e⟩:=blk4_ jo)|((with_reducible refine gate_callee (f:=46) rfl ?_);refine gl_ (some 9) Tryz.func46 #[.agg #[.int .i64 je,.int .i64 jc,.int .i64 jd,.slice jl jb.length jm],.int .i64 a1] ?_;(with_reducible refine (spec_buStop.calls k je jc jd _ _ jb a1 true _ ?side1 jq.out A4.out).mono ?_);(case side1=>exact cb_ jp HB);rintro e w10 ⟨rfl,hb⟩;refine ⟨_,rfl,?_⟩;replace jo:=bb_ jo hb;replace HB:=ai_ (below_step (below_to1 HB ju.out) hb);clear hb;obtain ⟨j2w,j2x,j2y,j2z,j3a,j3b,j3c,j3d⟩:=blk4_ jo)|(go_at_call 46;(with_reducible refine (spec_buStop.calls k je jc jd _ _ jb a2 true _ ?side1 jq.out A6.out).mono ?_);(case side1=>exact cb_ jp HB);rintro e w12 ⟨rfl,hb⟩;replace jo:=bb_ jo hb;replace HB:=ai_ (below_step (below_to1 HB ju.out) hb);clear hb))
  go_ret
  exact ⟨rtE_,below_to1 HB ju.out⟩
 ·replace c7:=Bool.eq_false_iff.mpr c7
  subst c7
  rw [if_neg ft_] at H
  obtain rfl:=Option.some.inj H
  go_enter Tryz.func59,Tryz.ntmps59
  go_wp2_with (first|((with_reducible refine gate_dst (N:=3) rfl ?_);refine bxe_ #[.int .i64 je,.int .i64 jc,.int .i64 jd,.slice jl jb.length jm] 26 ?_;intro j4s hg w13 hbox hb;have jo:=ai_ (hbox);have j4t:=ai_ (gb_ hg (below_size (below_to HB)));have ju:=ai_ (gb_ hg (below_size (below_to HB)));replace HB:=ai_ (below_step (below_to HB) hb);clear hb hbox hg;obtain ⟨j7b,j7c,j7d,j7e,j7f,j7g,j7h,j7i⟩:=blk4_ jo)|((with_reducible refine gate_callee (f:=46) rfl ?_);refine gl_ (some 9) Tryz.func46 #[.agg #[.int .i64 je,.int .i64 jc,.int .i64 jd,.slice jl jb.length jm],.int .i64 a1] ?_;(with_reducible refine (spec_buStop.calls k je jc jd _ _ jb a1 true _ ?side1 jq.out A4.out).mono ?_);(case side1=>exact cb_ jp HB);rintro e w15 ⟨rfl,hb⟩;refine ⟨_,rfl,?_⟩;replace jo:=bb_ jo hb;replace HB:=ai_ (below_step (below_to1 HB ju.out) hb);clear hb;obtain ⟨j3m,j3n,j3o,j3p,j3q,j3r,j3s,j3t⟩:=blk4_ jo)|(go_at_call 46;(with_reducible refine (spec_buStop.calls k je jc jd _ _ jb a2 false _ ?side1 jq.out A6.out).mono ?_);(case side1=>exact cb_ jp HB);rintro e w17 ⟨rfl,hb⟩;replace jo:=bb_ jo hb;replace HB:=ai_ (below_step (below_to1 HB ju.out) hb);clear hb))
  go_ret
  exact ⟨rtE_,below_to1 HB ju.out⟩
end Go.Proofs.YthdnodmidbcgpaaGreatDoor.QR
