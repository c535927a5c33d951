import Derived.Test.YthdnodmidbcgpaaGreatDoorQRx4
namespace Go.Proofs.YthdnodmidbcgpaaGreatDoor.QR
open Go.Proofs.YthdnodmidbcgpaaGreatDoor.X Go.RowKit Go.Proofs.YthdnodmidbcgpaaGreatDoorW.PrintWords Go.Proofs.YthdnodmidbcgpaaGreatDoorW.PrintLast Go.Proofs.YthdnodmidbcgpaaGreatDoorW.PrintMore
set_option maxHeartbeats 8000000
set_option maxRecDepth 100000
attribute [local go_sem] max2_int min2_int max_two min_two max_three min_three max_four min_four
set_option linter.unusedVariables false
set_option linter.unusedSimpArgs false
def spec_DrawWhereIsBus.i.f (k:Nat) (l0:List Int) (j1w:List Int) (j4k:Int) (j4l:Int):Option (Int × Int × Int × List Int × Int × Int × Int × Int):=(spec_l1Cur_line.f k j1w j4k j4l).bind fun bt509=>((spec_l1Cur_pick.f j1w bt509.2.2.2.2.1 bt509.2.2.2.2.2 6).bind fun bt517=>((spec_l1Cur_pick.f j1w bt517.2.1 bt517.2.2 9).bind fun bt520=>((spec_l1Cur_minute.f j1w bt520.2.1 bt520.2.2).bind fun bt523=>(some (bt509.1,bt509.2.1,bt509.2.2.1,bt509.2.2.2.1,wrap64 (bt517.1 - (wrap64 (Int.tdiv bt520.1 8))),bt523.1,bt523.2.1,bt523.2.2)))))
def spec_DrawWhereIsBus.f (k:Nat) (l0:List Int):Option (Int × Int × Int × List Int × Int × Int):=(spec_DrawWhereIsBus.i.f k l0 l0 0 0).bind fun b=>some (b.1,b.2.1,b.2.2.1,b.2.2.2.1,b.2.2.2.2.1,b.2.2.2.2.2.1)
theorem spec_DrawWhereIsBus.calls (k:Nat) (A0:Option Addr) (c0:Nat) (l0:List Int) (r1:Int) (r2:Int) (r3:Int) (r4:List Int) (r5:Int) (r6:Int) (wz_:World) (hr0:Kd.C (Kd.int .u8) wz_ A0 l0.length l0) (hc0:l0.length≤c0) (h:spec_DrawWhereIsBus.f k l0=some (r1,r2,r3,r4,r5,r6)) :
  Calls Tryz.prog 33 #[.slice A0 l0.length c0] wz_ fun e w' => ∃ Aa:Value,e=.returned (.tuple #[.agg #[.int .i64 r1,.int .i64 r2,.int .i64 r3,Aa],.int .i64 r5,.int .i64 r6])∧Kd.R Ki_ 3 w' wz_.heap.size (fun _=>True) Aa r4∧Below wz_.heap.size wz_ w':=by
 obtain ⟨b_,hb0_,h⟩:=Option.bind_eq_some_iff.mp h
 obtain ⟨r1z_,r2z_,r3z_,r4z_,r5z_,r6z_,r7,r8⟩:=b_
 simp only [Option.some.injEq,Prod.mk.injEq] at h
 obtain ⟨hq0_,hq1_,hq2_,hq3_,hq4_,hq5_⟩:=h
 obtain rfl:=hq0_.symm
 obtain rfl:=hq1_.symm
 obtain rfl:=hq2_.symm
 obtain rfl:=hq3_.symm
 obtain rfl:=hq4_.symm
 obtain rfl:=hq5_.symm
 suffices hh_:∀ (w0 w wq:World) (g jr:Nat),w0=wz_→w=wz_→jr=wz_.heap.size→g=wz_.heap.size+1→wq=(wz_.alloc (.cells #[.int .i64 0,.int .i64 0,.int .i64 0,.slice none 0 0] 26 (0,0))).alloc (.cells #[.slice A0 l0.length c0,.int .i64 0,.int .u64 0] 55 (0,0))→Calls Tryz.prog 33 #[.slice A0 l0.length c0] wz_ fun e w' => ∃ Aa:Value,e=.returned (.tuple #[.agg #[.int .i64 r1,.int .i64 r2,.int .i64 r3,Aa],.int .i64 r5,.int .i64 r6])∧Kd.R Ki_ 3 w' w.heap.size (fun _=>True) Aa r4∧IsS55 w0 w' g l0 r7 r8∧Below w0.heap.size w0 w'∧KeepBut w w' g none by
  refine (hh_ wz_ wz_ _ _ _ rfl rfl rfl rfl rfl).mono ?_
  rintro e w' ⟨Aa,he_,hr0_,_,hb_,_⟩
  exact ⟨Aa,he_,hr0_,hb_⟩
 intro w0 w wq g jr HW0_ HWW_ HGgb508_ HG_ HW_
 have hB1_:Below wz_.heap.size wz_ (wz_.alloc (.cells #[.int .i64 0,.int .i64 0,.int .i64 0,.slice none 0 0] 26 (0,0))):=(below_alloc (Below.refl _ _) _)
 have hs1_:(wz_.alloc (.cells #[.int .i64 0,.int .i64 0,.int .i64 0,.slice none 0 0] 26 (0,0))).heap.size=g:=by rw [HG_];exact (Array.size_push ..)
 have hI:IsS55 w0 wq g l0 0 0:=by rw [HW_,HW0_,← hs1_];exact IsS55.new _ _ _ c0 _ _ _ hB1_ hr0
 have hB:Below w0.heap.size w0 wq:=by rw [HW0_,HW_];exact below_alloc hB1_ _
 have hBw_:Below w.heap.size w wq:=by rw [HWW_,HW_];exact below_alloc hB1_ _
 have hle_:w0.heap.size≤w.heap.size:=by rw [HW0_,HWW_];exact Nat.le_refl _
 have jt:=ai_ (show wq.heap[jr]?=some (.cells #[.int .i64 0,.int .i64 0,.int .i64 0,.slice none 0 0] 26 (0,0)) from by rw [HW_,HGgb508_];exact blk_alloc ((by have h_:=blk_new wz_ (.cells #[.int .i64 0,.int .i64 0,.int .i64 0,.slice none 0 0] 26 (0,0));rw [show wz_.heap.size=wz_.heap.size from rfl] at h_;exact h_)) _)
 have j1h:=ai_ (show w.heap.size≤jr by rw [HWW_,HGgb508_];omega)
 have j1u:=ai_ (show w0.heap.size≤jr by rw [HW0_,HGgb508_];omega)
 have jh:=ai_ (show g≠jr by rw [HG_,HGgb508_];omega)
 have jv:=ai_ (show jr≠g by rw [HG_,HGgb508_];omega)
 have hr0':Kd.C (Kd.int .u8) w A0 l0.length l0:=by rw [HWW_];exact hr0
 clear hr0
 have hr0:=hr0'
 clear hr0'
 have HWZ:=ai_ HW_
 have HGZ:=ai_ HG_
 have HGZgb508:=ai_ HGgb508_
 clear HW_ HG_ HW0_ HWW_ HGgb508_ hs1_ hB1_
 have h:=hb0_
 clear hb0_
 have hu26:=Tryz.underlying26
 have HR0:=ai_ hr0
 have HC0:=ai_ hc0
 clear hr0 hc0
 have HI1:=ai_ hI
 have HK:=ai_ (KeepBut.of_below hBw_ g none)
 have HL:=ai_ hle_
 clear hI
 have HW0:=ai_ hle_
 have HB:=ai_ hB
 clear hB
 have H:=h
 unfold spec_DrawWhereIsBus.f at H
 clear h
 obtain ⟨⟨j4m,j4n,j4o,j4p,j5a,j5b⟩,A3,H⟩:=bs_ H
 (try dsimp only at H)
 obtain ⟨⟨j7u,j5c,j5d⟩,A4,H⟩:=bs_ H
 (try dsimp only at H)
 obtain ⟨⟨j7v,j5e,j5f⟩,A5,H⟩:=bs_ H
 (try dsimp only at H)
 obtain ⟨⟨j7w,j7x,j7y⟩,A6,H⟩:=bs_ H
 (try dsimp only at H)
 simp only [Option.some.injEq,Prod.mk.injEq] at H
 obtain ⟨rfl,rfl,rfl,rfl,rfl,rfl,rfl,rfl⟩:=H
 go_enter Tryz.func33,Tryz.ntmps33
 go_upto_region 2 with (fail)
 rw [← HWZ.out,← HGZ.out,← HGZgb508.out]
 go_wp2_with (first|((with_reducible refine gate_dst (N:=2) rfl ?_);refine bxe_ #[.int .i64 0,.int .i64 0,.int .i64 0,.slice none 0 0] 26 ?_;intro jr hg w7 hbox hb;replace HB:=ai_ (below_step (below_to1 HB (IsS55.ge HI1.out)) hb);have jt:=ai_ (hbox);have j1h:=ai_ (gb_ hg (keep_size (keep_to HK)));replace HK:=ai_ (KeepBut.trans (keep_to HK) (KeepBut.of_below hb g none) (.inl rfl));have j1u:=ai_ (Nat.le_trans HW0.out j1h.out);have jh:=ai_ (ne_ hg (IsS55.lt (IsS55.to HI1)));replace HI1:=ai_ (IsS55.below (IsS55.to HI1) hb);have jv:=ai_ jh.out.symm;clear hb hbox hg)|((with_reducible refine gate_callee (f:=40) rfl ?_);refine gl_ (some 10) Tryz.func40 #[.pointer (some ⟨g,0,none⟩)] ?_;(with_reducible refine (spec_l1Cur_line.calls k g l0 0 0 j4m j4n j4o j4p j5a j5b w0 _ ?side1 ?side2 A3.out).mono ?_);(case side1=>exact IsS55.tg1 HI1 jh);(case side2=>exact below_to2 HB (IsS55.ge HI1.out) j1u.out);rintro e w8 ⟨j8f,rfl,ho0,hi,hb,hk⟩;refine ⟨_,rfl,?_⟩;replace jt:=ai_ (KeepBut.blk hk (blk_to jt) jv.out (by simp));have j1i:=ai_ (Kd.R_lower ho0 (keep_size (w:=w) (g:=g) (row:=none) (keep_f1 HK j1h)));replace HK:=ai_ (KeepBut.trans (keep_f1 HK j1h) hk (.inl rfl));replace HB:=ai_ (hb);replace HI1:=ai_ (hi);clear hb hk hi;(try clear ho0))|((with_reducible refine gate_callee (f:=58) rfl ?_);refine gl_ (some 12) Tryz.func58 #[.pointer (some ⟨g,0,none⟩),.int .i64 6] ?_;(with_reducible refine (spec_l1Cur_pick.calls g l0 j5a j5b 6 j7u j5c j5d w0 _ ?side1 ?side2 A4.out).mono ?_);(case side1=>exact IsS55.tg1 HI1 jh);(case side2=>exact below_to2 HB (IsS55.ge HI1.out) j1u.out);rintro e w9 ⟨rfl,hi,hb,hk⟩;refine ⟨_,rfl,?_⟩;replace jt:=ai_ (KeepBut.blk hk (blk_to jt) jv.out (by simp));replace j1i:=ai_ (Kd.R_mono (Kd.R_keep (IsS55.apart (IsS55.to1 HI1 jh) (kd_to j1i) (by decide)) hk (fun _ h=>h.2)) (fun _ h=>h.1));replace HK:=ai_ (KeepBut.trans (keep_f1 HK j1h) hk (.inl rfl));replace HB:=ai_ (hb);replace HI1:=ai_ (hi);clear hb hk hi)|((with_reducible refine gate_callee (f:=58) rfl ?_);refine gl_ (some 14) Tryz.func58 #[.pointer (some ⟨g,0,none⟩),.int .i64 9] ?_;(with_reducible refine (spec_l1Cur_pick.calls g l0 j5c j5d 9 j7v j5e j5f w0 _ ?side1 ?side2 A5.out).mono ?_);(case side1=>exact IsS55.tg1 HI1 jh);(case side2=>exact below_to2 HB (IsS55.ge HI1.out) j1u.out);rintro e w10 ⟨rfl,hi,hb,hk⟩;refine ⟨_,rfl,?_⟩;replace jt:=ai_ (KeepBut.blk hk (blk_to jt) jv.out (by simp));replace j1i:=ai_ (Kd.R_mono (Kd.R_keep (IsS55.apart (IsS55.to1 HI1 jh) (kd_to j1i) (by decide)) hk (fun _ h=>h.2)) (fun _ h=>h.1));replace HK:=ai_ (KeepBut.trans (keep_f1 HK j1h) hk (.inl rfl));replace HB:=ai_ (hb);replace HI1:=ai_ (hi);clear hb hk hi)|((with_reducible refine gate_callee (f:=42) rfl ?_);refine gl_ (some 18) Tryz.func42 #[.pointer (some ⟨g,0,none⟩)] ?_;(with_reducible refine (spec_l1Cur_minute.calls g l0 j5e j5f j7w j7x j7y w0 _ ?side1 ?side2 A6.out).mono ?_);(case side1=>exact IsS55.tg1 HI1 jh);(case side2=>exact below_to2 HB (IsS55.ge HI1.out) j1u.out);rintro e w11 ⟨rfl,hi,hb,hk⟩;refine ⟨_,rfl,?_⟩;replace jt:=ai_ (KeepBut.blk hk (blk_to jt) jv.out (by simp));replace j1i:=ai_ (Kd.R_mono (Kd.R_keep (IsS55.apart (IsS55.to1 HI1 jh) (kd_to j1i) (by decide)) hk (fun _ h=>h.2)) (fun _ h=>h.1));replace HK:=ai_ (KeepBut.trans (keep_f1 HK j1h) hk (.inl rfl));replace HB:=ai_ (hb);replace HI1:=ai_ (hi);clear hb hk hi;have j5g:=jv.out;have j5h:=jh.out;obtain ⟨jy,jz,j1a,j1b,j1c,j1d,j1e,j1f⟩:=blk4_ jt;obtain ⟨Ao14,co14,eo14⟩:=Kd.R_slice j1i.out;subst eo14))
 refine bodyPost_ret (results_ctt rfl _ _ jr 26 #[.int .i64 j4m,.int .i64 j4n,.int .i64 j4o,.slice Ao14 j4p.length co14] (0,0) _ rfl (bput4 jt) Tryz.underlying26 rfl (by kernel_rfl)) rfl ?_
 exact ⟨_,rtE_,by (with_reducible repeat (first|apply Kd.R_alloc|apply Kd.R_drewN|apply Kd.R_drew));exact Kd.R_mono (Kd.R_far (p:=⟨jr,3,none⟩) (Kd.R_far (p:=⟨jr,2,none⟩) (Kd.R_far (p:=⟨jr,1,none⟩) (Kd.R_far (p:=⟨jr,0,none⟩) (Kd.R_types j1i.out jt.out (by decide)) (fun _ hk=>hk.2) (.int .i64 j4m)) (fun _ hk=>hk.2) (.int .i64 j4n)) (fun _ hk=>hk.2) (.int .i64 j4o)) (fun _ hk=>hk.2) (.slice Ao14 j4p.length co14)) (fun _ hk=>trivial),IsS55.tg1 HI1 jh,below_to2 HB (IsS55.ge HI1.out) j1u.out,keep_f1 HK j1h⟩
mutual
def spec_WhereIsBus.j0:Nat→Int→Int→Bool→Int→Int→Int→List Int→Option (Int × Bool × Bool)
 | 0,_,_,_,_,_,_,_=>none
 | k+1,x1,x2,x27,jj,jk,jl,jf=>if x27=true then (some (0,false,false)) else ((spec_buTime.f jj jk jl jf x1 0).bind fun j4e=>(if x2 < j4e then (spec_WhereIsBus.j1 k x1 x2 (wrap64 ((jf.length:Int) - 1)) true jj jk jl jf) else ((spec_buTime.f jj jk jl jf x1 (wrap64 ((jf.length:Int) - 1))).bind fun j4g=>(spec_WhereIsBus.j1 k x1 x2 (wrap64 ((jf.length:Int) - 1)) (decide (x2 > j4g)) jj jk jl jf))))
def spec_WhereIsBus.j1:Nat→Int→Int→Int→Bool→Int→Int→Int→List Int→Option (Int × Bool × Bool)
 | 0,_,_,_,_,_,_,_,_=>none
 | k+1,x1,x2,x9,x44,jj,jk,jl,jf=>if x44=true then (some (0,false,false)) else (spec_WhereIsBus.l0 k x1 x2 x9 jj jk jl jf)
def spec_WhereIsBus.l0:Nat→Int→Int→Int→Int→Int→Int→List Int→Option (Int × Bool × Bool)
 | 0,_,_,_,_,_,_,_=>none
 | k+1,x1,x2,x10,jj,jk,jl,jf=>if x10 > 0 then ((spec_buTime.f jj jk jl jf x1 x10).bind fun j4d=>(if j4d≤x2 then (some (x10,(j4d == x2),true)) else (spec_WhereIsBus.l0 k x1 x2 (wrap64 (x10 - 1)) jj jk jl jf))) else ((spec_buTime.f jj jk jl jf x1 0).bind fun j4q=>(some (0,(j4q == x2),true)))
end
def spec_WhereIsBus.f (k:Nat) (jd:Int) (je:Int) (jc:Int) (jb:List Int) (a1:Int) (a2:Int):Option (Int × Bool × Bool):=(spec_buGood.f k jd je jc jb).bind fun j4r=>(if j4r=true then ((spec_l1In.f a1 0 (wrap64 (jc - 1))).bind fun j4s=>(if j4s=true then ((spec_buMinute.f a2).bind fun j4h=>(spec_WhereIsBus.j0 k a1 a2 (!j4h) jd je jc jb)) else (spec_WhereIsBus.j0 k a1 a2 true jd je jc jb))) else (spec_WhereIsBus.j0 k a1 a2 true jd je jc jb))
theorem spec_WhereIsBus.calls (k:Nat) (jd:Int) (je:Int) (jc:Int) (jm:Option Addr) (jn:Nat) (jb:List Int) (a1:Int) (a2:Int) (r1:Int) (r2:Bool) (r3:Bool) (w:World) (hr0_3:Kd.C Ki_ w jm jb.length jb) (hc0_3:jb.length≤jn) (h:spec_WhereIsBus.f k jd je jc jb a1 a2=some (r1,r2,r3)) :
  Calls Tryz.prog 34 #[.agg #[.int .i64 jd,.int .i64 je,.int .i64 jc,.slice jm jb.length jn],.int .i64 a1,.int .i64 a2] w fun e w'=>e=.returned (.tuple #[.int .i64 r1,.bool r2,.bool r3])∧Below w.heap.size w w':=by
 have hu26:=Tryz.underlying26
 have jp:=ai_ hr0_3
 have jq:=ai_ hc0_3
 clear hr0_3 hc0_3
 have HB:=ai_ (Below.refl w.heap.size w)
 have H:=h
 unfold spec_WhereIsBus.f at H
 clear h
 have HC4:=ai_ H
 clear H
 go_enter Tryz.func34,Tryz.ntmps34
 go_upto_region 1 with (first|((with_reducible refine gate_dst (N:=3) rfl ?_);refine bxe_ #[.int .i64 jd,.int .i64 je,.int .i64 jc,.slice jm jb.length jn] 26 ?_;intro j4f hg w5 hbox hb;have ja:=ai_ (hbox);have j8e:=ai_ (gb_ hg (below_size (below_to HB)));have jg:=ai_ (gb_ hg (below_size (below_to HB)));replace HB:=ai_ (below_step (below_to HB) hb);clear hb hbox hg))
 (try simp only [Act.put,List.setIfInBounds_toArray,List.set_cons_zero,List.set_cons_succ])
 go_cut [27] (fun v27 wc => ∃ (kq:Nat) (j2w:Bool),v27=.bool j2w∧Aside0 (spec_WhereIsBus.j0 kq a1 a2 j2w jd je jc jb=some (r1,r2,r3))∧Aside0 (kq≤k)∧Aside0 (wc.heap[j4f]?=some (.cells #[.int .i64 jd,.int .i64 je,.int .i64 jc,(.slice jm jb.length jn)] 26 (0,0)))∧Aside0 (Below w.heap.size w wc))
 case first =>
  have H:=HC4.out
  clear HC4
  obtain ⟨j4r,A6,H⟩:=bs_ H
  (try dsimp only at H)
  by_cases c7:j4r=true
  rotate_left
  ·replace c7:=Bool.eq_false_iff.mpr c7
   subst c7
   rw [if_neg ft_] at H
   have H':=ai_ H
   clear H
   obtain ⟨j1l,j1m,j1n,j1o,j1p,j1q,j1r,j1s⟩:=blk4_ ja
   go_wp2_with (first|((with_reducible refine gate_callee (f:=52) rfl ?_);refine gl_ (some 13) Tryz.func52 #[.agg #[.int .i64 jd,.int .i64 je,.int .i64 jc,.slice jm jb.length jn]] ?_;(with_reducible refine (spec_buGood.calls k jd je jc _ _ jb false _ ?side1 jq.out A6.out).mono ?_);(case side1=>exact cb_ jp HB);rintro e w18 ⟨rfl,hb⟩;refine ⟨_,rfl,?_⟩;replace ja:=bb_ ja hb;replace HB:=ai_ (below_step (below_to1 HB jg.out) hb);clear hb))
   go_meet
   case rel=>exact ⟨_,(true),rt_,H',⟨by first|omega|exact Nat.le_refl _⟩,⟨blk_to ja⟩,⟨below_to1 HB jg.out⟩⟩
  subst c7
  rw [if_pos rfl] at H
  obtain ⟨j4s,A8,H⟩:=bs_ H
  (try dsimp only at H)
  by_cases c9:j4s=true
  rotate_left
  ·replace c9:=Bool.eq_false_iff.mpr c9
   subst c9
   rw [if_neg ft_] at H
   have H':=ai_ H
   clear H
   obtain ⟨j1x,j1y,j1z,j2a,j2b,j2c,j2d,j2e⟩:=blk4_ ja
   go_wp2_with (first|((with_reducible refine gate_callee (f:=52) rfl ?_);refine gl_ (some 13) Tryz.func52 #[.agg #[.int .i64 jd,.int .i64 je,.int .i64 jc,.slice jm jb.length jn]] ?_;(with_reducible refine (spec_buGood.calls k jd je jc _ _ jb true _ ?side1 jq.out A6.out).mono ?_);(case side1=>exact cb_ jp HB);rintro e w15 ⟨rfl,hb⟩;refine ⟨_,rfl,?_⟩;replace ja:=bb_ ja hb;replace HB:=ai_ (below_step (below_to1 HB jg.out) hb);clear hb;obtain ⟨j2f,j2g,j2h,j2i,j2j,j2k,j2l,j2m⟩:=blk4_ ja)|(go_at_call 64;(with_reducible refine (spec_l1In.calls a1 0 (wrap64 (jc - 1)) false _ A8.out).mono ?_);rintro e w' ⟨rfl,⟨nd,rfl⟩⟩))
   go_meet
   case rel=>exact ⟨_,(true),rt_,H',⟨by first|omega|exact Nat.le_refl _⟩,⟨blk_to ja⟩,⟨below_to1 HB jg.out⟩⟩
  subst c9
  rw [if_pos rfl] at H
  obtain ⟨j4h,A10,H⟩:=bs_ H
  (try dsimp only at H)
  have H':=ai_ H
  clear H
  obtain ⟨j2n,j2o,j2p,j2q,j2r,j2s,j2t,j2u⟩:=blk4_ ja
  go_wp2_with (first|((with_reducible refine gate_callee (f:=52) rfl ?_);refine gl_ (some 13) Tryz.func52 #[.agg #[.int .i64 jd,.int .i64 je,.int .i64 jc,.slice jm jb.length jn]] ?_;(with_reducible refine (spec_buGood.calls k jd je jc _ _ jb true _ ?side1 jq.out A6.out).mono ?_);(case side1=>exact cb_ jp HB);rintro e w12 ⟨rfl,hb⟩;refine ⟨_,rfl,?_⟩;replace ja:=bb_ ja hb;replace HB:=ai_ (below_step (below_to1 HB jg.out) hb);clear hb;obtain ⟨jy,jz,j1a,j1b,j1c,j1d,j1e,j1f⟩:=blk4_ ja)|(go_at_call 64;(with_reducible refine (spec_l1In.calls a1 0 (wrap64 (jc - 1)) true _ A8.out).mono ?_);rintro e w' ⟨rfl,⟨nd,rfl⟩⟩)|(go_at_call 47;(with_reducible refine (spec_buMinute.calls a2 j4h _ A10.out).mono ?_);rintro e w' ⟨rfl,⟨nd,rfl⟩⟩))
  go_meet
  case rel=>exact ⟨_,(!j4h),rt_,H',⟨by first|omega|exact Nat.le_refl _⟩,⟨blk_to ja⟩,⟨below_to1 HB jg.out⟩⟩
 clear HC4
 try clear p2
 try clear c3
 try clear c5
 try clear p6
 try clear c7
 try clear c9
 try clear j2n
 try clear j2o
 try clear j2p
 try clear j2q
 try clear jy
 try clear jz
 try clear j1a
 try clear j1b
 try clear j1x
 try clear j1y
 try clear j1z
 try clear j2a
 try clear j2f
 try clear j2g
 try clear j2h
 try clear j2i
 try clear j1l
 try clear j1m
 try clear j1n
 try clear j1o
 try clear j2r
 try clear j2s
 try clear j2t
 try clear j2u
 try clear j1c
 try clear j1d
 try clear j1e
 try clear j1f
 try clear j2b
 try clear j2c
 try clear j2d
 try clear j2e
 try clear j2j
 try clear j2k
 try clear j2l
 try clear j2m
 try clear j1p
 try clear j1q
 try clear j1r
 try clear j1s
 obtain ⟨kq,j2w,rfl,HA,HJ3,ja,HB⟩:=hcut
 cases kq with
 | zero=>exact absurd HA.out (by simp [spec_WhereIsBus.j0])
 | succ kj3 =>
  have H:=HA.out
  clear HA
  simp only [spec_WhereIsBus.j0] at H
  by_cases c19:j2w=true
  ·subst c19
   rw [if_pos rfl] at H
   simp only [Option.some.injEq,Prod.mk.injEq] at H
   obtain ⟨rfl,rfl,rfl⟩:=H
   go_wp2
   go_ret3
   exact ⟨rtE_,below_to1 HB jg.out⟩
  replace c19:=Bool.eq_false_iff.mpr c19
  subst c19
  rw [if_neg ft_] at H
  have HC20:=ai_ H
  clear H
  obtain ⟨j2x,j2y,j2z,j3a,j3b,j3c,j3d,j3e⟩:=blk4_ ja
  go_upto_region 4 with (fail)
  go_cut [44] (fun v44 wc => ∃ (kq:Nat) (j2v:Bool),v44=.bool j2v∧Aside0 (spec_WhereIsBus.j1 kq a1 a2 (wrap64 ((jb.length:Int) - 1)) j2v jd je jc jb=some (r1,r2,r3))∧Aside0 (kq≤kj3)∧Aside0 (wc.heap[j4f]?=some (.cells #[.int .i64 jd,.int .i64 je,.int .i64 jc,(.slice jm jb.length jn)] 26 (0,0)))∧Aside0 (Below w.heap.size w wc))
  case first =>
   have H:=HC20.out
   clear HC20
   obtain ⟨j4e,A22,H⟩:=bs_ H
   (try dsimp only at H)
   by_cases c23:a2 < j4e
   ·rw [if_pos c23] at H
    have j1t:=decide_eq_true c23
    clear c23
    (first|rw [j1t]|(simp only [i64_w,i32_w];rw [j1t])|skip)
    have H':=ai_ H
    clear H
    obtain ⟨j3f,j3g,j3h,j3i,j3j,j3k,j3l,j3m⟩:=blk4_ ja
    go_wp2_with (first|((with_reducible refine gate_callee (f:=49) rfl ?_);refine gl_ (some 35) Tryz.func49 #[.agg #[.int .i64 jd,.int .i64 je,.int .i64 jc,.slice jm jb.length jn],.int .i64 a1,.int .i64 0] ?_;(with_reducible refine (spec_buTime.calls jd je jc _ _ jb a1 0 j4e _ ?side1 jq.out A22.out).mono ?_);(case side1=>exact cb_ jp HB);rintro e w25 ⟨rfl,hb⟩;refine ⟨_,rfl,?_⟩;replace ja:=bb_ ja hb;replace HB:=ai_ (below_step (below_to1 HB jg.out) hb);clear hb))
    go_meet
    case rel=>exact ⟨_,(true),rt_,H',⟨by have:=HJ3.out;first|omega|exact Nat.le_refl _⟩,⟨blk_to ja⟩,⟨below_to1 HB jg.out⟩⟩
   rw [if_neg c23] at H
   have j1t:=decide_eq_false c23
   clear c23
   (first|rw [j1t]|(simp only [i64_w,i32_w];rw [j1t])|skip)
   obtain ⟨j4g,A26,H⟩:=bs_ H
   (try dsimp only at H)
   have H':=ai_ H
   clear H
   obtain ⟨j3n,j3o,j3p,j3q,j3r,j3s,j3t,j3u⟩:=blk4_ ja
   go_wp2_with (first|((with_reducible refine gate_callee (f:=49) rfl ?_);refine gl_ (some 35) Tryz.func49 #[.agg #[.int .i64 jd,.int .i64 je,.int .i64 jc,.slice jm jb.length jn],.int .i64 a1,.int .i64 0] ?_;(with_reducible refine (spec_buTime.calls jd je jc _ _ jb a1 0 j4e _ ?side1 jq.out A22.out).mono ?_);(case side1=>exact cb_ jp HB);rintro e w28 ⟨rfl,hb⟩;refine ⟨_,rfl,?_⟩;replace ja:=bb_ ja hb;replace HB:=ai_ (below_step (below_to1 HB jg.out) hb);clear hb;obtain ⟨j3v,j3w,j3x,j3y,j3z,j4a,j4b,j4c⟩:=blk4_ ja)|(go_at_call 49;(with_reducible refine (spec_buTime.calls jd je jc _ _ jb a1 (wrap64 ((jb.length:Int) - 1)) j4g _ ?side1 jq.out A26.out).mono ?_);(case side1=>exact cb_ jp HB);rintro e w30 ⟨rfl,hb⟩;replace ja:=bb_ ja hb;replace HB:=ai_ (below_step (below_to1 HB jg.out) hb);clear hb))
   go_meet
   case rel=>exact ⟨_,(decide (a2 > j4g)),rt_,H',⟨by have:=HJ3.out;first|omega|exact Nat.le_refl _⟩,⟨blk_to ja⟩,⟨below_to1 HB jg.out⟩⟩
  clear HC20
  try clear c1
  try clear c2
  try clear p2
  try clear c3
  try clear c4
  try clear c5
  try clear p6
  try clear c7
  try clear c9
  try clear c19
  try clear c23
  try clear j1t
  try clear j2n
  try clear j2o
  try clear j2p
  try clear j2q
  try clear jy
  try clear jz
  try clear j1a
  try clear j1b
  try clear j1x
  try clear j1y
  try clear j1z
  try clear j2a
  try clear j2f
  try clear j2g
  try clear j2h
  try clear j2i
  try clear j1l
  try clear j1m
  try clear j1n
  try clear j1o
  try clear j2x
  try clear j2y
  try clear j2z
  try clear j3a
  try clear j3f
  try clear j3g
  try clear j3h
  try clear j3i
  try clear j3n
  try clear j3o
  try clear j3p
  try clear j3q
  try clear j3v
  try clear j3w
  try clear j3x
  try clear j3y
  try clear j2r
  try clear j2s
  try clear j2t
  try clear j2u
  try clear j1c
  try clear j1d
  try clear j1e
  try clear j1f
  try clear j2b
  try clear j2c
  try clear j2d
  try clear j2e
  try clear j2j
  try clear j2k
  try clear j2l
  try clear j2m
  try clear j1p
  try clear j1q
  try clear j1r
  try clear j1s
  try clear j3b
  try clear j3c
  try clear j3d
  try clear j3e
  try clear j3j
  try clear j3k
  try clear j3l
  try clear j3m
  try clear j3r
  try clear j3s
  try clear j3t
  try clear j3u
  try clear j3z
  try clear j4a
  try clear j4b
  try clear j4c
  try clear p2
  try clear p6
  obtain ⟨kq,j2v,rfl,HA,HJ19,ja,HB⟩:=hcut
  cases kq with
  | zero=>exact absurd HA.out (by simp [spec_WhereIsBus.j1])
  | succ kj19 =>
   have H:=HA.out
   clear HA
   simp only [spec_WhereIsBus.j1] at H
   by_cases c31:j2v=true
   ·subst c31
    rw [if_pos rfl] at H
    simp only [Option.some.injEq,Prod.mk.injEq] at H
    obtain ⟨rfl,rfl,rfl⟩:=H
    go_wp2
    go_ret3
    exact ⟨rtE_,below_to1 HB jg.out⟩
   replace c31:=Bool.eq_false_iff.mpr c31
   subst c31
   rw [if_neg ft_] at H
   have H':=ai_ H
   clear H
   go_wp2
   go_loopg [10] kj19 (fun kq v10 w' => ∃ (j1g:Int),v10=.int .i64 j1g∧Aside0 (spec_WhereIsBus.l0 kq a1 a2 j1g jd je jc jb=some (r1,r2,r3))∧Aside0 (kq≤kj19)∧Aside0 (w'.heap[j4f]?=some (.cells #[.int .i64 jd,.int .i64 je,.int .i64 jc,(.slice jm jb.length jn)] 26 (0,0)))∧Aside0 (Below w.heap.size w w'))
   case atStart=>exact ⟨((wrap64 ((jb.length:Int) - 1))),rt_,H',⟨Nat.le_refl _⟩,⟨blk_to ja⟩,⟨below_to1 HB jg.out⟩⟩
   clear H'
   try clear c1
   try clear c2
   try clear p2
   try clear c3
   try clear c4
   try clear c5
   try clear p6
   try clear c7
   try clear c9
   try clear c19
   try clear c23
   try clear j1t
   try clear c31
   try clear j2n
   try clear j2o
   try clear j2p
   try clear j2q
   try clear jy
   try clear jz
   try clear j1a
   try clear j1b
   try clear j1x
   try clear j1y
   try clear j1z
   try clear j2a
   try clear j2f
   try clear j2g
   try clear j2h
   try clear j2i
   try clear j1l
   try clear j1m
   try clear j1n
   try clear j1o
   try clear j2x
   try clear j2y
   try clear j2z
   try clear j3a
   try clear j3f
   try clear j3g
   try clear j3h
   try clear j3i
   try clear j3n
   try clear j3o
   try clear j3p
   try clear j3q
   try clear j3v
   try clear j3w
   try clear j3x
   try clear j3y
   try clear j2r
   try clear j2s
   try clear j2t
   try clear j2u
   try clear j1c
   try clear j1d
   try clear j1e
   try clear j1f
   try clear j2b
   try clear j2c
   try clear j2d
   try clear j2e
   try clear j2j
   try clear j2k
   try clear j2l
   try clear j2m
   try clear j1p
   try clear j1q
   try clear j1r
   try clear j1s
   try clear j3b
   try clear j3c
   try clear j3d
   try clear j3e
   try clear j3j
   try clear j3k
   try clear j3l
   try clear j3m
   try clear j3r
   try clear j3s
   try clear j3t
   try clear j3u
   try clear j3z
   try clear j4a
   try clear j4b
   try clear j4c
   try clear p2
   try clear p6
   obtain ⟨j1g,rfl,HA,HK3,ja,HB⟩:=hrel
   cases gk with
   | zero=>exact absurd HA.out (by simp [spec_WhereIsBus.l0])
   | succ k3 =>
    have H:=HA.out
    clear HA
    simp only [spec_WhereIsBus.l0] at H
    by_cases c32:j1g > 0
    rotate_left
    ·rw [if_neg c32] at H
     have j5i:=decide_eq_false c32
     clear c32
     obtain ⟨j4q,A39,H⟩:=bs_ H
     (try dsimp only at H)
     simp only [Option.some.injEq,Prod.mk.injEq] at H
     obtain ⟨rfl,rfl,rfl⟩:=H
     obtain ⟨j5q,j5r,j5s,j5t,j5u,j5v,j5w,j5x⟩:=blk4_ ja
     go_wp2_with (first|((with_reducible refine gate_callee (f:=49) rfl ?_);refine gl_ (some 63) Tryz.func49 #[.agg #[.int .i64 jd,.int .i64 je,.int .i64 jc,.slice jm jb.length jn],.int .i64 a1,.int .i64 0] ?_;(with_reducible refine (spec_buTime.calls jd je jc _ _ jb a1 0 j4q _ ?side1 jq.out A39.out).mono ?_);(case side1=>exact cb_ jp HB);rintro e w41 ⟨rfl,hb⟩;refine ⟨_,rfl,?_⟩;replace ja:=bb_ ja hb;replace HB:=ai_ (below_step (below_to1 HB jg.out) hb);clear hb))
     go_ret3
     exact ⟨rtE_,below_to1 HB jg.out⟩
    rw [if_pos c32] at H
    have j5i:=decide_eq_true c32
    clear c32
    obtain ⟨j4d,A33,H⟩:=bs_ H
    (try dsimp only at H)
    by_cases c34:j4d≤a2
    ·rw [if_pos c34] at H
     have j5j:=decide_eq_true c34
     clear c34
     simp only [Option.some.injEq,Prod.mk.injEq] at H
     obtain ⟨rfl,rfl,rfl⟩:=H
     obtain ⟨j5y,j5z,j6a,j6b,j6c,j6d,j6e,j6f⟩:=blk4_ ja
     go_wp2_with (first|((with_reducible refine gate_callee (f:=49) rfl ?_);refine gl_ (some 53) Tryz.func49 #[.agg #[.int .i64 jd,.int .i64 je,.int .i64 jc,.slice jm jb.length jn],.int .i64 a1,.int .i64 j1g] ?_;(with_reducible refine (spec_buTime.calls jd je jc _ _ jb a1 j1g j4d _ ?side1 jq.out A33.out).mono ?_);(case side1=>exact cb_ jp HB);rintro e w36 ⟨rfl,hb⟩;refine ⟨_,rfl,?_⟩;replace ja:=bb_ ja hb;replace HB:=ai_ (below_step (below_to1 HB jg.out) hb);clear hb))
     go_ret3
     exact ⟨rtE_,below_to1 HB jg.out⟩
    ·rw [if_neg c34] at H
     have j5j:=decide_eq_false c34
     clear c34
     have H':=ai_ H
     clear H
     obtain ⟨j6g,j6h,j6i,j6j,j6k,j6l,j6m,j6n⟩:=blk4_ ja
     go_wp2_with (first|((with_reducible refine gate_callee (f:=49) rfl ?_);refine gl_ (some 53) Tryz.func49 #[.agg #[.int .i64 jd,.int .i64 je,.int .i64 jc,.slice jm jb.length jn],.int .i64 a1,.int .i64 j1g] ?_;(with_reducible refine (spec_buTime.calls jd je jc _ _ jb a1 j1g j4d _ ?side1 jq.out A33.out).mono ?_);(case side1=>exact cb_ jp HB);rintro e w38 ⟨rfl,hb⟩;refine ⟨_,rfl,?_⟩;replace ja:=bb_ ja hb;replace HB:=ai_ (below_step (below_to1 HB jg.out) hb);clear hb))
     go_roundg k3
     case measure=>have:=HJ3.out;have:=HJ19.out;have:=HK3.out;omega
     case rel=>exact ⟨(wrap64 (j1g - 1)),rt_,H',⟨by have:=HJ3.out;have:=HJ19.out;have:=HK3.out;omega⟩,⟨blk_to ja⟩,⟨below_to1 HB jg.out⟩⟩
def spec_DrawTimeAtStop.i.f (k:Nat) (l0:List Int) (j1w:List Int) (j4k:Int) (j4l:Int):Option (Int × Int × Int × List Int × Int × Int × Int × Int):=(spec_l1Cur_line.f k j1w j4k j4l).bind fun bt535=>((spec_l1Cur_pick.f j1w bt535.2.2.2.2.1 bt535.2.2.2.2.2 6).bind fun bt543=>((spec_l1Cur_pick.f j1w bt543.2.1 bt543.2.2 9).bind fun bt546=>((spec_l1Cur_stop.f j1w bt546.2.1 bt546.2.2).bind fun bt549=>(some (bt535.1,bt535.2.1,bt535.2.2.1,bt535.2.2.2.1,wrap64 (bt543.1 - (wrap64 (Int.tdiv bt546.1 8))),bt549.1,bt549.2.1,bt549.2.2)))))
def spec_DrawTimeAtStop.f (k:Nat) (l0:List Int):Option (Int × Int × Int × List Int × Int × Int):=(spec_DrawTimeAtStop.i.f k l0 l0 0 0).bind fun b=>some (b.1,b.2.1,b.2.2.1,b.2.2.2.1,b.2.2.2.2.1,b.2.2.2.2.2.1)
theorem spec_DrawTimeAtStop.calls (k:Nat) (A0:Option Addr) (c0:Nat) (l0:List Int) (r1:Int) (r2:Int) (r3:Int) (r4:List Int) (r5:Int) (r6:Int) (wz_:World) (hr0:Kd.C (Kd.int .u8) wz_ A0 l0.length l0) (hc0:l0.length≤c0) (h:spec_DrawTimeAtStop.f k l0=some (r1,r2,r3,r4,r5,r6)) :
  Calls Tryz.prog 35 #[.slice A0 l0.length c0] wz_ fun e w' => ∃ Aa:Value,e=.returned (.tuple #[.agg #[.int .i64 r1,.int .i64 r2,.int .i64 r3,Aa],.int .i64 r5,.int .i64 r6])∧Kd.R Ki_ 3 w' wz_.heap.size (fun _=>True) Aa r4∧Below wz_.heap.size wz_ w':=by
 obtain ⟨b_,hb0_,h⟩:=Option.bind_eq_some_iff.mp h
 obtain ⟨r1z_,r2z_,r3z_,r4z_,r5z_,r6z_,r7,r8⟩:=b_
 simp only [Option.some.injEq,Prod.mk.injEq] at h
 obtain ⟨hq0_,hq1_,hq2_,hq3_,hq4_,hq5_⟩:=h
 obtain rfl:=hq0_.symm
 obtain rfl:=hq1_.symm
 obtain rfl:=hq2_.symm
 obtain rfl:=hq3_.symm
 obtain rfl:=hq4_.symm
 obtain rfl:=hq5_.symm
 suffices hh_:∀ (w0 w wq:World) (g js:Nat),w0=wz_→w=wz_→js=wz_.heap.size→g=wz_.heap.size+1→wq=(wz_.alloc (.cells #[.int .i64 0,.int .i64 0,.int .i64 0,.slice none 0 0] 26 (0,0))).alloc (.cells #[.slice A0 l0.length c0,.int .i64 0,.int .u64 0] 55 (0,0))→Calls Tryz.prog 35 #[.slice A0 l0.length c0] wz_ fun e w' => ∃ Aa:Value,e=.returned (.tuple #[.agg #[.int .i64 r1,.int .i64 r2,.int .i64 r3,Aa],.int .i64 r5,.int .i64 r6])∧Kd.R Ki_ 3 w' w.heap.size (fun _=>True) Aa r4∧IsS55 w0 w' g l0 r7 r8∧Below w0.heap.size w0 w'∧KeepBut w w' g none by
  refine (hh_ wz_ wz_ _ _ _ rfl rfl rfl rfl rfl).mono ?_
  rintro e w' ⟨Aa,he_,hr0_,_,hb_,_⟩
  exact ⟨Aa,he_,hr0_,hb_⟩
 intro w0 w wq g js HW0_ HWW_ HGgb534_ HG_ HW_
 have hB1_:Below wz_.heap.size wz_ (wz_.alloc (.cells #[.int .i64 0,.int .i64 0,.int .i64 0,.slice none 0 0] 26 (0,0))):=(below_alloc (Below.refl _ _) _)
 have hs1_:(wz_.alloc (.cells #[.int .i64 0,.int .i64 0,.int .i64 0,.slice none 0 0] 26 (0,0))).heap.size=g:=by rw [HG_];exact (Array.size_push ..)
 have hI:IsS55 w0 wq g l0 0 0:=by rw [HW_,HW0_,← hs1_];exact IsS55.new _ _ _ c0 _ _ _ hB1_ hr0
 have hB:Below w0.heap.size w0 wq:=by rw [HW0_,HW_];exact below_alloc hB1_ _
 have hBw_:Below w.heap.size w wq:=by rw [HWW_,HW_];exact below_alloc hB1_ _
 have hle_:w0.heap.size≤w.heap.size:=by rw [HW0_,HWW_];exact Nat.le_refl _
 have ju:=ai_ (show wq.heap[js]?=some (.cells #[.int .i64 0,.int .i64 0,.int .i64 0,.slice none 0 0] 26 (0,0)) from by rw [HW_,HGgb534_];exact blk_alloc ((by have h_:=blk_new wz_ (.cells #[.int .i64 0,.int .i64 0,.int .i64 0,.slice none 0 0] 26 (0,0));rw [show wz_.heap.size=wz_.heap.size from rfl] at h_;exact h_)) _)
 have j1j:=ai_ (show w.heap.size≤js by rw [HWW_,HGgb534_];omega)
 have j1v:=ai_ (show w0.heap.size≤js by rw [HW0_,HGgb534_];omega)
 have ji:=ai_ (show g≠js by rw [HG_,HGgb534_];omega)
 have jw:=ai_ (show js≠g by rw [HG_,HGgb534_];omega)
 have hr0':Kd.C (Kd.int .u8) w A0 l0.length l0:=by rw [HWW_];exact hr0
 clear hr0
 have hr0:=hr0'
 clear hr0'
 have HWZ:=ai_ HW_
 have HGZ:=ai_ HG_
 have HGZgb534:=ai_ HGgb534_
 clear HW_ HG_ HW0_ HWW_ HGgb534_ hs1_ hB1_
 have h:=hb0_
 clear hb0_
 have hu26:=Tryz.underlying26
 have HR0:=ai_ hr0
 have HC0:=ai_ hc0
 clear hr0 hc0
 have HI1:=ai_ hI
 have HK:=ai_ (KeepBut.of_below hBw_ g none)
 have HL:=ai_ hle_
 clear hI
 have HW0:=ai_ hle_
 have HB:=ai_ hB
 clear hB
 have H:=h
 unfold spec_DrawTimeAtStop.f at H
 clear h
 obtain ⟨⟨j4t,j4u,j4v,j4w,j5k,j5l⟩,A3,H⟩:=bs_ H
 (try dsimp only at H)
 obtain ⟨⟨j7z,j5m,j5n⟩,A4,H⟩:=bs_ H
 (try dsimp only at H)
 obtain ⟨⟨j8a,j5o,j5p⟩,A5,H⟩:=bs_ H
 (try dsimp only at H)
 obtain ⟨⟨j8b,j8c,j8d⟩,A6,H⟩:=bs_ H
 (try dsimp only at H)
 simp only [Option.some.injEq,Prod.mk.injEq] at H
 obtain ⟨rfl,rfl,rfl,rfl,rfl,rfl,rfl,rfl⟩:=H
 go_enter Tryz.func35,Tryz.ntmps35
 go_upto_region 2 with (fail)
 rw [← HWZ.out,← HGZ.out,← HGZgb534.out]
 go_wp2_with (first|((with_reducible refine gate_dst (N:=2) rfl ?_);refine bxe_ #[.int .i64 0,.int .i64 0,.int .i64 0,.slice none 0 0] 26 ?_;intro js hg w7 hbox hb;replace HB:=ai_ (below_step (below_to1 HB (IsS55.ge HI1.out)) hb);have ju:=ai_ (hbox);have j1j:=ai_ (gb_ hg (keep_size (keep_to HK)));replace HK:=ai_ (KeepBut.trans (keep_to HK) (KeepBut.of_below hb g none) (.inl rfl));have j1v:=ai_ (Nat.le_trans HW0.out j1j.out);have ji:=ai_ (ne_ hg (IsS55.lt (IsS55.to HI1)));replace HI1:=ai_ (IsS55.below (IsS55.to HI1) hb);have jw:=ai_ ji.out.symm;clear hb hbox hg)|((with_reducible refine gate_callee (f:=40) rfl ?_);refine gl_ (some 10) Tryz.func40 #[.pointer (some ⟨g,0,none⟩)] ?_;(with_reducible refine (spec_l1Cur_line.calls k g l0 0 0 j4t j4u j4v j4w j5k j5l w0 _ ?side1 ?side2 A3.out).mono ?_);(case side1=>exact IsS55.tg1 HI1 ji);(case side2=>exact below_to2 HB (IsS55.ge HI1.out) j1v.out);rintro e w8 ⟨j8g,rfl,ho0,hi,hb,hk⟩;refine ⟨_,rfl,?_⟩;replace ju:=ai_ (KeepBut.blk hk (blk_to ju) jw.out (by simp));have j1k:=ai_ (Kd.R_lower ho0 (keep_size (w:=w) (g:=g) (row:=none) (keep_f1 HK j1j)));replace HK:=ai_ (KeepBut.trans (keep_f1 HK j1j) hk (.inl rfl));replace HB:=ai_ (hb);replace HI1:=ai_ (hi);clear hb hk hi;(try clear ho0))|((with_reducible refine gate_callee (f:=58) rfl ?_);refine gl_ (some 12) Tryz.func58 #[.pointer (some ⟨g,0,none⟩),.int .i64 6] ?_;(with_reducible refine (spec_l1Cur_pick.calls g l0 j5k j5l 6 j7z j5m j5n w0 _ ?side1 ?side2 A4.out).mono ?_);(case side1=>exact IsS55.tg1 HI1 ji);(case side2=>exact below_to2 HB (IsS55.ge HI1.out) j1v.out);rintro e w9 ⟨rfl,hi,hb,hk⟩;refine ⟨_,rfl,?_⟩;replace ju:=ai_ (KeepBut.blk hk (blk_to ju) jw.out (by simp));replace j1k:=ai_ (Kd.R_mono (Kd.R_keep (IsS55.apart (IsS55.to1 HI1 ji) (kd_to j1k) (by decide)) hk (fun _ h=>h.2)) (fun _ h=>h.1));replace HK:=ai_ (KeepBut.trans (keep_f1 HK j1j) hk (.inl rfl));replace HB:=ai_ (hb);replace HI1:=ai_ (hi);clear hb hk hi)|((with_reducible refine gate_callee (f:=58) rfl ?_);refine gl_ (some 14) Tryz.func58 #[.pointer (some ⟨g,0,none⟩),.int .i64 9] ?_;(with_reducible refine (spec_l1Cur_pick.calls g l0 j5m j5n 9 j8a j5o j5p w0 _ ?side1 ?side2 A5.out).mono ?_);(case side1=>exact IsS55.tg1 HI1 ji);(case side2=>exact below_to2 HB (IsS55.ge HI1.out) j1v.out);rintro e w10 ⟨rfl,hi,hb,hk⟩;refine ⟨_,rfl,?_⟩;replace ju:=ai_ (KeepBut.blk hk (blk_to ju) jw.out (by simp));replace j1k:=ai_ (Kd.R_mono (Kd.R_keep (IsS55.apart (IsS55.to1 HI1 ji) (kd_to j1k) (by decide)) hk (fun _ h=>h.2)) (fun _ h=>h.1));replace HK:=ai_ (KeepBut.trans (keep_f1 HK j1j) hk (.inl rfl));replace HB:=ai_ (hb);replace HI1:=ai_ (hi);clear hb hk hi)|((with_reducible refine gate_callee (f:=41) rfl ?_);refine gl_ (some 18) Tryz.func41 #[.pointer (some ⟨g,0,none⟩)] ?_;(with_reducible refine (spec_l1Cur_stop.calls g l0 j5o j5p j8b j8c j8d w0 _ ?side1 ?side2 A6.out).mono ?_);(case side1=>exact IsS55.tg1 HI1 ji);(case side2=>exact below_to2 HB (IsS55.ge HI1.out) j1v.out);rintro e w11 ⟨rfl,hi,hb,hk⟩;refine ⟨_,rfl,?_⟩;replace ju:=ai_ (KeepBut.blk hk (blk_to ju) jw.out (by simp));replace j1k:=ai_ (Kd.R_mono (Kd.R_keep (IsS55.apart (IsS55.to1 HI1 ji) (kd_to j1k) (by decide)) hk (fun _ h=>h.2)) (fun _ h=>h.1));replace HK:=ai_ (KeepBut.trans (keep_f1 HK j1j) hk (.inl rfl));replace HB:=ai_ (hb);replace HI1:=ai_ (hi);clear hb hk hi;have j5g:=jw.out;have j5h:=ji.out;obtain ⟨jy,jz,j1a,j1b,j1c,j1d,j1e,j1f⟩:=blk4_ ju;obtain ⟨Ao14,co14,eo14⟩:=Kd.R_slice j1k.out;subst eo14))
 refine bodyPost_ret (results_ctt rfl _ _ js 26 #[.int .i64 j4t,.int .i64 j4u,.int .i64 j4v,.slice Ao14 j4w.length co14] (0,0) _ rfl (bput4 ju) Tryz.underlying26 rfl (by kernel_rfl)) rfl ?_
 exact ⟨_,rtE_,by (with_reducible repeat (first|apply Kd.R_alloc|apply Kd.R_drewN|apply Kd.R_drew));exact Kd.R_mono (Kd.R_far (p:=⟨js,3,none⟩) (Kd.R_far (p:=⟨js,2,none⟩) (Kd.R_far (p:=⟨js,1,none⟩) (Kd.R_far (p:=⟨js,0,none⟩) (Kd.R_types j1k.out ju.out (by decide)) (fun _ hk=>hk.2) (.int .i64 j4t)) (fun _ hk=>hk.2) (.int .i64 j4u)) (fun _ hk=>hk.2) (.int .i64 j4v)) (fun _ hk=>hk.2) (.slice Ao14 j4w.length co14)) (fun _ hk=>trivial),IsS55.tg1 HI1 ji,below_to2 HB (IsS55.ge HI1.out) j1v.out,keep_f1 HK j1j⟩
def spec_TimeAtStop.f (k:Nat) (jd:Int) (je:Int) (jc:Int) (jb:List Int) (a1:Int) (a2:Int):Option (Int × Bool):=(spec_buStop.f k jd je jc jb a2).bind fun j4x=>(if j4x=true then ((spec_l1In.f a1 0 (wrap64 (jc - 1))).bind fun j4y=>(if j4y=true then ((spec_buTime.f jd je jc jb a1 a2).bind fun j4z=>(some (j4z,true))) else (some (0,false)))) else (some (0,false)))
theorem spec_TimeAtStop.calls (k:Nat) (jd:Int) (je:Int) (jc:Int) (jm:Option Addr) (jn:Nat) (jb:List Int) (a1:Int) (a2:Int) (r1:Int) (r2:Bool) (w:World) (hr0_3:Kd.C Ki_ w jm jb.length jb) (hc0_3:jb.length≤jn) (h:spec_TimeAtStop.f k jd je jc jb a1 a2=some (r1,r2)) :
  Calls Tryz.prog 36 #[.agg #[.int .i64 jd,.int .i64 je,.int .i64 jc,.slice jm jb.length jn],.int .i64 a1,.int .i64 a2] w fun e w'=>e=.returned (.tuple #[.int .i64 r1,.bool r2])∧Below w.heap.size w w':=by
 have hu26:=Tryz.underlying26
 have jp:=ai_ hr0_3
 have jq:=ai_ hc0_3
 clear hr0_3 hc0_3
 have HB:=ai_ (Below.refl w.heap.size w)
 have H:=h
 unfold spec_TimeAtStop.f at H
 clear h
 obtain ⟨j4x,A4,H⟩:=bs_ H
 (try dsimp only at H)
 by_cases c5:j4x=true
 rotate_left
 ·replace c5:=Bool.eq_false_iff.mpr c5
  subst c5
  rw [if_neg ft_] at H
  simp only [Option.some.injEq,Prod.mk.injEq] at H
  obtain ⟨rfl,rfl⟩:=H
  go_enter Tryz.func36,Tryz.ntmps36
  go_wp2_with (first|((with_reducible refine gate_dst (N:=3) rfl ?_);refine bxe_ #[.int .i64 jd,.int .i64 je,.int .i64 jc,.slice jm jb.length jn] 26 ?_;intro j4i hg w18 hbox hb;have jo:=ai_ (hbox);have j4j:=ai_ (gb_ hg (below_size (below_to HB)));have jx:=ai_ (gb_ hg (below_size (below_to HB)));replace HB:=ai_ (below_step (below_to HB) hb);clear hb hbox hg;obtain ⟨j6o,j6p,j6q,j6r,j6s,j6t,j6u,j6v⟩:=blk4_ jo)|((with_reducible refine gate_callee (f:=46) rfl ?_);refine gl_ (some 10) Tryz.func46 #[.agg #[.int .i64 jd,.int .i64 je,.int .i64 jc,.slice jm jb.length jn],.int .i64 a2] ?_;(with_reducible refine (spec_buStop.calls k jd je jc _ _ jb a2 false _ ?side1 jq.out A4.out).mono ?_);(case side1=>exact cb_ jp HB);rintro e w20 ⟨rfl,hb⟩;refine ⟨_,rfl,?_⟩;replace jo:=bb_ jo hb;replace HB:=ai_ (below_step (below_to1 HB jx.out) hb);clear hb))
  go_ret2
  exact ⟨rtE_,below_to1 HB jx.out⟩
 subst c5
 rw [if_pos rfl] at H
 obtain ⟨j4y,A6,H⟩:=bs_ H
 (try dsimp only at H)
 by_cases c7:j4y=true
 ·subst c7
  rw [if_pos rfl] at H
  obtain ⟨j4z,A8,H⟩:=bs_ H
  (try dsimp only at H)
  simp only [Option.some.injEq,Prod.mk.injEq] at H
  obtain ⟨rfl,rfl⟩:=H
  go_enter Tryz.func36,Tryz.ntmps36
  go_wp2_with (first|((with_reducible refine gate_dst (N:=3) rfl ?_);refine bxe_ #[.int .i64 jd,.int .i64 je,.int .i64 jc,.slice jm jb.length jn] 26 ?_;intro j4i hg w9 hbox hb;have jo:=ai_ (hbox);have j4j:=ai_ (gb_ hg (below_size (below_to HB)));have jx:=ai_ (gb_ hg (below_size (below_to HB)));replace HB:=ai_ (below_step (below_to HB) hb);clear hb hbox hg;obtain ⟨j6w,j6x,j6y,j6z,j7a,j7b,j7c,j7d⟩:=blk4_ jo)|((with_reducible refine gate_callee (f:=46) rfl ?_);refine gl_ (some 10) Tryz.func46 #[.agg #[.int .i64 jd,.int .i64 je,.int .i64 jc,.slice jm jb.length jn],.int .i64 a2] ?_;(with_reducible refine (spec_buStop.calls k jd je jc _ _ jb a2 true _ ?side1 jq.out A4.out).mono ?_);(case side1=>exact cb_ jp HB);rintro e w11 ⟨rfl,hb⟩;refine ⟨_,rfl,?_⟩;replace jo:=bb_ jo hb;replace HB:=ai_ (below_step (below_to1 HB jx.out) hb);clear hb;obtain ⟨j7e,j7f,j7g,j7h,j7i,j7j,j7k,j7l⟩:=blk4_ jo)|(go_at_call 64;(with_reducible refine (spec_l1In.calls a1 0 (wrap64 (jc - 1)) true _ A6.out).mono ?_);rintro e w' ⟨rfl,⟨nd,rfl⟩⟩)|((with_reducible refine gate_callee (f:=49) rfl ?_);refine gl_ (some 23) Tryz.func49 #[.agg #[.int .i64 jd,.int .i64 je,.int .i64 jc,.slice jm jb.length jn],.int .i64 a1,.int .i64 a2] ?_;(with_reducible refine (spec_buTime.calls jd je jc _ _ jb a1 a2 j4z _ ?side1 jq.out A8.out).mono ?_);(case side1=>repeat (first|exact (Kd.C_below jp.out (below_to1 HB jx.out))|(with_reducible refine Kd.C_alloc ?_ _)|(with_reducible refine Kd.C_drewN ?_ _)|(with_reducible refine Kd.C_drew ?_)));rintro e w13 ⟨rfl,hb⟩;refine ⟨_,rfl,?_⟩;replace jo:=bb_ jo hb;replace HB:=ai_ (below_step (below_to1 HB jx.out) hb);clear hb))
  go_ret2
  exact ⟨rtE_,below_to1 HB jx.out⟩
 ·replace c7:=Bool.eq_false_iff.mpr c7
  subst c7
  rw [if_neg ft_] at H
  simp only [Option.some.injEq,Prod.mk.injEq] at H
  obtain ⟨rfl,rfl⟩:=H
  go_enter Tryz.func36,Tryz.ntmps36
  go_wp2_with (first|((with_reducible refine gate_dst (N:=3) rfl ?_);refine bxe_ #[.int .i64 jd,.int .i64 je,.int .i64 jc,.slice jm jb.length jn] 26 ?_;intro j4i hg w14 hbox hb;have jo:=ai_ (hbox);have j4j:=ai_ (gb_ hg (below_size (below_to HB)));have jx:=ai_ (gb_ hg (below_size (below_to HB)));replace HB:=ai_ (below_step (below_to HB) hb);clear hb hbox hg;obtain ⟨j7m,j7n,j7o,j7p,j7q,j7r,j7s,j7t⟩:=blk4_ jo)|((with_reducible refine gate_callee (f:=46) rfl ?_);refine gl_ (some 10) Tryz.func46 #[.agg #[.int .i64 jd,.int .i64 je,.int .i64 jc,.slice jm jb.length jn],.int .i64 a2] ?_;(with_reducible refine (spec_buStop.calls k jd je jc _ _ jb a2 true _ ?side1 jq.out A4.out).mono ?_);(case side1=>exact cb_ jp HB);rintro e w16 ⟨rfl,hb⟩;refine ⟨_,rfl,?_⟩;replace jo:=bb_ jo hb;replace HB:=ai_ (below_step (below_to1 HB jx.out) hb);clear hb;obtain ⟨j1l,j1m,j1n,j1o,j1p,j1q,j1r,j1s⟩:=blk4_ jo)|(go_at_call 64;(with_reducible refine (spec_l1In.calls a1 0 (wrap64 (jc - 1)) false _ A6.out).mono ?_);rintro e w' ⟨rfl,⟨nd,rfl⟩⟩))
  go_ret2
  exact ⟨rtE_,below_to1 HB jx.out⟩
end Go.Proofs.YthdnodmidbcgpaaGreatDoor.QR
