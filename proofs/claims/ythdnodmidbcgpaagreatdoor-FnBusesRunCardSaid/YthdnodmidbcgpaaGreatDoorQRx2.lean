import Derived.Test.YthdnodmidbcgpaaGreatDoorQRx1
namespace Go.Proofs.YthdnodmidbcgpaaGreatDoor.QR
open Go.Proofs.YthdnodmidbcgpaaGreatDoor.X Go.RowKit Go.Proofs.YthdnodmidbcgpaaGreatDoorW.PrintWords Go.Proofs.YthdnodmidbcgpaaGreatDoorW.PrintLast Go.Proofs.YthdnodmidbcgpaaGreatDoorW.PrintMore
set_option maxHeartbeats 8000000
set_option maxRecDepth 100000
attribute [local go_sem] max2_int min2_int max_two min_two max_three min_three max_four min_four
set_option linter.unusedVariables false
set_option linter.unusedSimpArgs false
def spec_l1Cur_stop.f (jc:List Int) (jj:Int) (jk:Int):Option (Int × Int × Int):=(spec_l1Cur_pick.f jc jj jk 4).bind fun bt178=>((spec_l1Cur_pick.f jc bt178.2.1 bt178.2.2 9).bind fun bt181=>(some (wrap64 (bt178.1 - (wrap64 (Int.tdiv bt181.1 8))),bt181.2.1,bt181.2.2)))
theorem spec_l1Cur_stop.calls (g:Nat) (jc:List Int) (jj:Int) (jk:Int) (r1:Int) (r2:Int) (r3:Int) (w0 w:World) (hI:IsS55 w0 w g jc jj jk) (hB:Below w0.heap.size w0 w) (h:spec_l1Cur_stop.f jc jj jk=some (r1,r2,r3)) :
  Calls Tryz.prog 41 #[.pointer (some ⟨g,0,none⟩)] w fun e w'=>e=.returned (.int .i64 r1)∧IsS55 w0 w' g jc r2 r3∧Below w0.heap.size w0 w'∧KeepBut w w' g none:=by
 have HI0:=ai_ hI
 have HK:=ai_ (KeepBut.refl w g none)
 have HL:=ai_ hB.size
 clear hI
 have HW0:=ai_ hB.size
 have HB:=ai_ hB
 clear hB
 have H:=h
 unfold spec_l1Cur_stop.f at H
 clear h
 obtain ⟨⟨j5l,j3r,j3s⟩,A2,H⟩:=bs_ H
 (try dsimp only at H)
 obtain ⟨⟨j5m,j5n,j5o⟩,A3,H⟩:=bs_ H
 (try dsimp only at H)
 simp only [Option.some.injEq,Prod.mk.injEq] at H
 obtain ⟨rfl,rfl,rfl⟩:=H
 go_enter Tryz.func41,Tryz.ntmps41
 go_wp2_with (first|((with_reducible refine gate_callee (f:=58) rfl ?_);refine gl_ (some 4) Tryz.func58 #[.pointer (some ⟨g,0,none⟩),.int .i64 4] ?_;(with_reducible refine (spec_l1Cur_pick.calls g jc jj jk 4 j5l j3r j3s w0 _ ?side1 ?side2 A2.out).mono ?_);(case side1=>exact IsS55.to HI0);(case side2=>exact below_to1 HB (IsS55.ge HI0.out));rintro e w4 ⟨rfl,hi,hb,hk⟩;refine ⟨_,rfl,?_⟩;replace HK:=ai_ (KeepBut.trans (keep_to HK) hk (.inl rfl));replace HB:=ai_ (hb);replace HI0:=ai_ (hi);clear hb hk hi)|((with_reducible refine gate_callee (f:=58) rfl ?_);refine gl_ (some 6) Tryz.func58 #[.pointer (some ⟨g,0,none⟩),.int .i64 9] ?_;(with_reducible refine (spec_l1Cur_pick.calls g jc j3r j3s 9 j5m j5n j5o w0 _ ?side1 ?side2 A3.out).mono ?_);(case side1=>exact IsS55.to HI0);(case side2=>exact below_to1 HB (IsS55.ge HI0.out));rintro e w5 ⟨rfl,hi,hb,hk⟩;refine ⟨_,rfl,?_⟩;replace HK:=ai_ (KeepBut.trans (keep_to HK) hk (.inl rfl));replace HB:=ai_ (hb);replace HI0:=ai_ (hi);clear hb hk hi))
 go_ret
 exact ⟨rtE_,IsS55.tg HI0,below_to1 HB (IsS55.ge HI0.out),by repeat (first|(with_reducible first|exact HK.out|apply KeepBut.set_|apply keep_drewN|apply keep_drew|apply keep_alloc)|exact HK.out)⟩
def spec_l1Cur_one.f (jc:List Int) (jj:Int) (jk:Int) (a1:Int):Option (Bool × Int × Int):=(spec_l1Cur_pick.f jc jj jk a1).bind fun bt184=>(some ((bt184.1 == 0),bt184.2.1,bt184.2.2))
theorem spec_l1Cur_one.calls (g:Nat) (jc:List Int) (jj:Int) (jk:Int) (a1:Int) (r1:Bool) (r2:Int) (r3:Int) (w0 w:World) (hI:IsS55 w0 w g jc jj jk) (hB:Below w0.heap.size w0 w) (h:spec_l1Cur_one.f jc jj jk a1=some (r1,r2,r3)) :
  Calls Tryz.prog 66 #[.pointer (some ⟨g,0,none⟩),.int .i64 a1] w fun e w'=>e=.returned (.bool r1)∧IsS55 w0 w' g jc r2 r3∧Below w0.heap.size w0 w'∧KeepBut w w' g none:=by
 have HI0:=ai_ hI
 have HK:=ai_ (KeepBut.refl w g none)
 have HL:=ai_ hB.size
 clear hI
 have HW0:=ai_ hB.size
 have HB:=ai_ hB
 clear hB
 have H:=h
 unfold spec_l1Cur_one.f at H
 clear h
 obtain ⟨⟨j5p,j5q,j5r⟩,A3,H⟩:=bs_ H
 (try dsimp only at H)
 simp only [Option.some.injEq,Prod.mk.injEq] at H
 obtain ⟨rfl,rfl,rfl⟩:=H
 go_enter Tryz.func66,Tryz.ntmps66
 go_wp2_with (first|((with_reducible refine gate_callee (f:=58) rfl ?_);refine gl_ (some 7) Tryz.func58 #[.pointer (some ⟨g,0,none⟩),.int .i64 a1] ?_;(with_reducible refine (spec_l1Cur_pick.calls g jc jj jk a1 j5p j5q j5r w0 _ ?side1 ?side2 A3.out).mono ?_);(case side1=>exact IsS55.to HI0);(case side2=>exact below_to1 HB (IsS55.ge HI0.out));rintro e w4 ⟨rfl,hi,hb,hk⟩;refine ⟨_,rfl,?_⟩;replace HK:=ai_ (KeepBut.trans (keep_to HK) hk (.inl rfl));replace HB:=ai_ (hb);replace HI0:=ai_ (hi);clear hb hk hi))
 go_ret
 exact ⟨rtE_,IsS55.tg HI0,below_to1 HB (IsS55.ge HI0.out),by repeat (first|(with_reducible first|exact HK.out|apply KeepBut.set_|apply keep_drewN|apply keep_drew|apply keep_alloc)|exact HK.out)⟩
def spec_l1Cur_minute.f (jc:List Int) (jj:Int) (jk:Int):Option (Int × Int × Int):=(spec_l1Cur_one.f jc jj jk 10).bind fun bt187=>(if bt187.1=true then ((spec_l1Cur_among.f jc bt187.2.1 bt187.2.2 (([(-1),0,1,2000,2001,4611686018427387904]:List Int))).bind fun bt193=>(some (bt193.1,bt193.2.1,bt193.2.2))) else ((spec_l1Cur_pick.f jc bt187.2.1 bt187.2.2 120).bind fun bt196=>(some (bt196.1,bt196.2.1,bt196.2.2))))
theorem spec_l1Cur_minute.calls (g:Nat) (jc:List Int) (jj:Int) (jk:Int) (r1:Int) (r2:Int) (r3:Int) (w0 w:World) (hI:IsS55 w0 w g jc jj jk) (hB:Below w0.heap.size w0 w) (h:spec_l1Cur_minute.f jc jj jk=some (r1,r2,r3)) :
  Calls Tryz.prog 42 #[.pointer (some ⟨g,0,none⟩)] w fun e w'=>e=.returned (.int .i64 r1)∧IsS55 w0 w' g jc r2 r3∧Below w0.heap.size w0 w'∧KeepBut w w' g none:=by
 have HI0:=ai_ hI
 have HK:=ai_ (KeepBut.refl w g none)
 have HL:=ai_ hB.size
 clear hI
 have HW0:=ai_ hB.size
 have HB:=ai_ hB
 clear hB
 have H:=h
 unfold spec_l1Cur_minute.f at H
 clear h
 obtain ⟨⟨j5s,j1q,j1r⟩,A2,H⟩:=bs_ H
 (try dsimp only at H)
 by_cases c3:j5s=true
 ·subst c3
  rw [if_pos rfl] at H
  obtain ⟨j3d,hy190⟩:∃ y_:List Int,y_=(([(-1),0,1,2000,2001,4611686018427387904]:List Int)):=⟨_,rfl⟩
  replace H:((spec_l1Cur_among.f jc j1q j1r j3d).bind fun bt193=>(some (bt193.1,bt193.2.1,bt193.2.2)))=some (r1,r2,r3):=by first|(rw [hy190];with_reducible exact H)|(have H2_:=(Option.bind_some _ _).symm.trans H;rw [hy190];with_reducible exact H2_)|(have H2_:=(Option.bind_some _ _).symm.trans H;with_reducible exact H2_)|with_reducible exact H|(rw [hy190];exact H)|exact H
  have j3b:=ai_ hy190
  clear hy190
  obtain ⟨⟨j5t,j5u,j5v⟩,A4,H⟩:=bs_ H
  (try dsimp only at H)
  simp only [Option.some.injEq,Prod.mk.injEq] at H
  obtain ⟨rfl,rfl,rfl⟩:=H
  go_enter Tryz.func42,Tryz.ntmps42
  go_wp2_with (first|((with_reducible refine gate_callee (f:=66) rfl ?_);refine gl_ (some 4) Tryz.func66 #[.pointer (some ⟨g,0,none⟩),.int .i64 10] ?_;(with_reducible refine (spec_l1Cur_one.calls g jc jj jk 10 true j1q j1r w0 _ ?side1 ?side2 A2.out).mono ?_);(case side1=>exact IsS55.to HI0);(case side2=>exact below_to1 HB (IsS55.ge HI0.out));rintro e w5 ⟨rfl,hi,hb,hk⟩;refine ⟨_,rfl,?_⟩;replace HK:=ai_ (KeepBut.trans (keep_to HK) hk (.inl rfl));replace HB:=ai_ (hb);replace HI0:=ai_ (hi);clear hb hk hi)|((with_reducible refine gate_dst (N:=6) rfl ?_);refine Kd.R_lit Ki_ _ 3 ?hg (N:=6) ?hd (xs:=([(-1),0,1,2000,2001,4611686018427387904]:List Int)) (inner:=[.int .i64 (-1),.int .i64 0,.int .i64 1,.int .i64 2000,.int .i64 2001,.int .i64 4611686018427387904]) (ok:=fun _=>True) (okp:=fun _=>True) ?hr ?hp (fun _ hk=>hk) trivial (Below.refl _ _) (Nat.le_refl _) (by simp) ?_;(case hd=>rfl);(case hg=>rfl);(case hr=>first|(go_simp;done)|(go_simp;rfl));(case hp=>exact (Reps.one (show Kd.M Ki_ _ _ _ (-1) [.int .i64 (-1)] from rfl) (Reps.one (show Kd.M Ki_ _ _ _ 0 [.int .i64 0] from rfl) (Reps.one (show Kd.M Ki_ _ _ _ 1 [.int .i64 1] from rfl) (Reps.one (show Kd.M Ki_ _ _ _ 2000 [.int .i64 2000] from rfl) (Reps.one (show Kd.M Ki_ _ _ _ 2001 [.int .i64 2001] from rfl) (Reps.one (show Kd.M Ki_ _ _ _ 4611686018427387904 [.int .i64 4611686018427387904] from rfl) (Reps.none _ _))))))));intro j6s w6 ho7 hb hg_ hnew_;clear hg_ hnew_;(first|rw [← j3b.out] at ho7|(simp only [Int.reduceToNat] at ho7;rw [← j3b.out] at ho7));have ju:=ai_ (Kd.R_lower ho7 (keep_size (w:=w) (g:=g) (row:=none) (keep_to HK)));replace HK:=ai_ (KeepBut.trans (keep_to HK) (KeepBut.of_below hb g none) (.inl rfl));replace HB:=ai_ (below_step (below_to1 HB (IsS55.ge HI0.out)) hb);replace HI0:=ai_ (IsS55.below (IsS55.to HI0) hb);clear hb ho7;obtain ⟨Ao8,co8,eo8⟩:=Kd.R_slice ju.out;subst eo8)|((with_reducible refine gate_callee (f:=70) rfl ?_);refine gl_ (some 7) Tryz.func70 #[.pointer (some ⟨g,0,none⟩),.slice Ao8 j3d.length co8] ?_;(with_reducible refine (spec_l1Cur_among.calls g jc j1q j1r _ _ j3d j5t j5u j5v w0 _ ?side1 ?side2 ?side3 ?side4 ?side5 A4.out).mono ?_);(case side1=>exact IsS55.to HI0);(case side2=>exact below_to1 HB (IsS55.ge HI0.out));(case side3=>exact cR_ ju);(case side4=>exact (Kd.R_reads' ju.out).2.1);(case side5=>exact far_slice (IsS55.own_ne HI0.out ju.out (by decide)));rintro e w9 ⟨rfl,hi,hb,hk⟩;refine ⟨_,rfl,?_⟩;replace ju:=ai_ (Kd.R_mono (Kd.R_keep (IsS55.apart (IsS55.to HI0) (kd_to ju) (by decide)) hk (fun _ h=>h.2)) (fun _ h=>h.1));replace HK:=ai_ (KeepBut.trans (keep_to HK) hk (.inl rfl));replace HB:=ai_ (hb);replace HI0:=ai_ (hi);clear hb hk hi))
  go_ret
  exact ⟨rtE_,IsS55.tg HI0,below_to1 HB (IsS55.ge HI0.out),by repeat (first|(with_reducible first|exact HK.out|apply KeepBut.set_|apply keep_drewN|apply keep_drew|apply keep_alloc)|exact HK.out)⟩
 ·replace c3:=Bool.eq_false_iff.mpr c3
  subst c3
  rw [if_neg ft_] at H
  obtain ⟨⟨j5w,j5x,j5y⟩,A10,H⟩:=bs_ H
  (try dsimp only at H)
  simp only [Option.some.injEq,Prod.mk.injEq] at H
  obtain ⟨rfl,rfl,rfl⟩:=H
  go_enter Tryz.func42,Tryz.ntmps42
  go_wp2_with (first|((with_reducible refine gate_callee (f:=66) rfl ?_);refine gl_ (some 4) Tryz.func66 #[.pointer (some ⟨g,0,none⟩),.int .i64 10] ?_;(with_reducible refine (spec_l1Cur_one.calls g jc jj jk 10 false j1q j1r w0 _ ?side1 ?side2 A2.out).mono ?_);(case side1=>exact IsS55.to HI0);(case side2=>exact below_to1 HB (IsS55.ge HI0.out));rintro e w11 ⟨rfl,hi,hb,hk⟩;refine ⟨_,rfl,?_⟩;replace HK:=ai_ (KeepBut.trans (keep_to HK) hk (.inl rfl));replace HB:=ai_ (hb);replace HI0:=ai_ (hi);clear hb hk hi)|((with_reducible refine gate_callee (f:=58) rfl ?_);refine gl_ (some 9) Tryz.func58 #[.pointer (some ⟨g,0,none⟩),.int .i64 120] ?_;(with_reducible refine (spec_l1Cur_pick.calls g jc j1q j1r 120 j5w j5x j5y w0 _ ?side1 ?side2 A10.out).mono ?_);(case side1=>exact IsS55.to HI0);(case side2=>exact below_to1 HB (IsS55.ge HI0.out));rintro e w12 ⟨rfl,hi,hb,hk⟩;refine ⟨_,rfl,?_⟩;replace HK:=ai_ (KeepBut.trans (keep_to HK) hk (.inl rfl));replace HB:=ai_ (hb);replace HI0:=ai_ (hi);clear hb hk hi))
  go_ret
  exact ⟨rtE_,IsS55.tg HI0,below_to1 HB (IsS55.ge HI0.out),by repeat (first|(with_reducible first|exact HK.out|apply KeepBut.set_|apply keep_drewN|apply keep_drew|apply keep_alloc)|exact HK.out)⟩
def spec_DrawNextBus.i.f (k:Nat) (l0:List Int) (j3e:List Int) (j5z:Int) (j6a:Int):Option (Int × Int × Int × List Int × Int × Int × Int × Int):=(spec_l1Cur_line.f k j3e j5z j6a).bind fun bt200=>((spec_l1Cur_stop.f j3e bt200.2.2.2.2.1 bt200.2.2.2.2.2).bind fun bt208=>((spec_l1Cur_minute.f j3e bt208.2.1 bt208.2.2).bind fun bt211=>(some (bt200.1,bt200.2.1,bt200.2.2.1,bt200.2.2.2.1,bt208.1,bt211.1,bt211.2.1,bt211.2.2))))
def spec_DrawNextBus.f (k:Nat) (l0:List Int):Option (Int × Int × Int × List Int × Int × Int):=(spec_DrawNextBus.i.f k l0 l0 0 0).bind fun b=>some (b.1,b.2.1,b.2.2.1,b.2.2.2.1,b.2.2.2.2.1,b.2.2.2.2.2.1)
theorem spec_DrawNextBus.calls (k:Nat) (A0:Option Addr) (c0:Nat) (l0:List Int) (r1:Int) (r2:Int) (r3:Int) (r4:List Int) (r5:Int) (r6:Int) (wz_:World) (hr0:Kd.C (Kd.int .u8) wz_ A0 l0.length l0) (hc0:l0.length≤c0) (h:spec_DrawNextBus.f k l0=some (r1,r2,r3,r4,r5,r6)) :
  Calls Tryz.prog 5 #[.slice A0 l0.length c0] wz_ fun e w' => ∃ Aa:Value,e=.returned (.tuple #[.agg #[.int .i64 r1,.int .i64 r2,.int .i64 r3,Aa],.int .i64 r5,.int .i64 r6])∧Kd.R Ki_ 3 w' wz_.heap.size (fun _=>True) Aa r4∧Below wz_.heap.size wz_ w':=by
 obtain ⟨b_,hb0_,h⟩:=Option.bind_eq_some_iff.mp h
 obtain ⟨r1z_,r2z_,r3z_,r4z_,r5z_,r6z_,r7,r8⟩:=b_
 simp only [Option.some.injEq,Prod.mk.injEq] at h
 obtain ⟨hq0_,hq1_,hq2_,hq3_,hq4_,hq5_⟩:=h
 obtain rfl:=hq0_.symm
 obtain rfl:=hq1_.symm
 obtain rfl:=hq2_.symm
 obtain rfl:=hq3_.symm
 obtain rfl:=hq4_.symm
 obtain rfl:=hq5_.symm
 suffices hh_:∀ (w0 w wq:World) (g jh:Nat),w0=wz_→w=wz_→jh=wz_.heap.size→g=wz_.heap.size+1→wq=(wz_.alloc (.cells #[.int .i64 0,.int .i64 0,.int .i64 0,.slice none 0 0] 26 (0,0))).alloc (.cells #[.slice A0 l0.length c0,.int .i64 0,.int .u64 0] 55 (0,0))→Calls Tryz.prog 5 #[.slice A0 l0.length c0] wz_ fun e w' => ∃ Aa:Value,e=.returned (.tuple #[.agg #[.int .i64 r1,.int .i64 r2,.int .i64 r3,Aa],.int .i64 r5,.int .i64 r6])∧Kd.R Ki_ 3 w' w.heap.size (fun _=>True) Aa r4∧IsS55 w0 w' g l0 r7 r8∧Below w0.heap.size w0 w'∧KeepBut w w' g none by
  refine (hh_ wz_ wz_ _ _ _ rfl rfl rfl rfl rfl).mono ?_
  rintro e w' ⟨Aa,he_,hr0_,_,hb_,_⟩
  exact ⟨Aa,he_,hr0_,hb_⟩
 intro w0 w wq g jh HW0_ HWW_ HGgb199_ HG_ HW_
 have hB1_:Below wz_.heap.size wz_ (wz_.alloc (.cells #[.int .i64 0,.int .i64 0,.int .i64 0,.slice none 0 0] 26 (0,0))):=(below_alloc (Below.refl _ _) _)
 have hs1_:(wz_.alloc (.cells #[.int .i64 0,.int .i64 0,.int .i64 0,.slice none 0 0] 26 (0,0))).heap.size=g:=by rw [HG_];exact (Array.size_push ..)
 have hI:IsS55 w0 wq g l0 0 0:=by rw [HW_,HW0_,← hs1_];exact IsS55.new _ _ _ c0 _ _ _ hB1_ hr0
 have hB:Below w0.heap.size w0 wq:=by rw [HW0_,HW_];exact below_alloc hB1_ _
 have hBw_:Below w.heap.size w wq:=by rw [HWW_,HW_];exact below_alloc hB1_ _
 have hle_:w0.heap.size≤w.heap.size:=by rw [HW0_,HWW_];exact Nat.le_refl _
 have jo:=ai_ (show wq.heap[jh]?=some (.cells #[.int .i64 0,.int .i64 0,.int .i64 0,.slice none 0 0] 26 (0,0)) from by rw [HW_,HGgb199_];exact blk_alloc ((by have h_:=blk_new wz_ (.cells #[.int .i64 0,.int .i64 0,.int .i64 0,.slice none 0 0] 26 (0,0));rw [show wz_.heap.size=wz_.heap.size from rfl] at h_;exact h_)) _)
 have jr:=ai_ (show w.heap.size≤jh by rw [HWW_,HGgb199_];omega)
 have j1a:=ai_ (show w0.heap.size≤jh by rw [HW0_,HGgb199_];omega)
 have je:=ai_ (show g≠jh by rw [HG_,HGgb199_];omega)
 have jq:=ai_ (show jh≠g by rw [HG_,HGgb199_];omega)
 have hr0':Kd.C (Kd.int .u8) w A0 l0.length l0:=by rw [HWW_];exact hr0
 clear hr0
 have hr0:=hr0'
 clear hr0'
 have HWZ:=ai_ HW_
 have HGZ:=ai_ HG_
 have HGZgb199:=ai_ HGgb199_
 clear HW_ HG_ HW0_ HWW_ HGgb199_ hs1_ hB1_
 have h:=hb0_
 clear hb0_
 have hu26:=Tryz.underlying26
 have HR0:=ai_ hr0
 have HC0:=ai_ hc0
 clear hr0 hc0
 have HI1:=ai_ hI
 have HK:=ai_ (KeepBut.of_below hBw_ g none)
 have HL:=ai_ hle_
 clear hI
 have HW0:=ai_ hle_
 have HB:=ai_ hB
 clear hB
 have H:=h
 unfold spec_DrawNextBus.f at H
 clear h
 obtain ⟨⟨j3f,j3g,j3h,j3i,j3t,j3u⟩,A3,H⟩:=bs_ H
 (try dsimp only at H)
 obtain ⟨⟨j6b,j3v,j3w⟩,A4,H⟩:=bs_ H
 (try dsimp only at H)
 obtain ⟨⟨j6c,j6d,j6e⟩,A5,H⟩:=bs_ H
 (try dsimp only at H)
 simp only [Option.some.injEq,Prod.mk.injEq] at H
 obtain ⟨rfl,rfl,rfl,rfl,rfl,rfl,rfl,rfl⟩:=H
 go_enter Tryz.func5,Tryz.ntmps5
 go_upto_region 2 with (fail)
 rw [← HWZ.out,← HGZ.out,← HGZgb199.out]
 go_wp2_with (first|((with_reducible refine gate_dst (N:=2) rfl ?_);refine bxe_ #[.int .i64 0,.int .i64 0,.int .i64 0,.slice none 0 0] 26 ?_;intro jh hg w6 hbox hb;replace HB:=ai_ (below_step (below_to1 HB (IsS55.ge HI1.out)) hb);have jo:=ai_ (hbox);have jr:=ai_ (gb_ hg (keep_size (keep_to HK)));replace HK:=ai_ (KeepBut.trans (keep_to HK) (KeepBut.of_below hb g none) (.inl rfl));have j1a:=ai_ (Nat.le_trans HW0.out jr.out);have je:=ai_ (ne_ hg (IsS55.lt (IsS55.to HI1)));replace HI1:=ai_ (IsS55.below (IsS55.to HI1) hb);have jq:=ai_ je.out.symm;clear hb hbox hg)|((with_reducible refine gate_callee (f:=40) rfl ?_);refine gl_ (some 10) Tryz.func40 #[.pointer (some ⟨g,0,none⟩)] ?_;(with_reducible refine (spec_l1Cur_line.calls k g l0 0 0 j3f j3g j3h j3i j3t j3u w0 _ ?side1 ?side2 A3.out).mono ?_);(case side1=>exact IsS55.tg1 HI1 je);(case side2=>exact below_to2 HB (IsS55.ge HI1.out) j1a.out);rintro e w7 ⟨j6t,rfl,ho0,hi,hb,hk⟩;refine ⟨_,rfl,?_⟩;replace jo:=ai_ (KeepBut.blk hk (blk_to jo) jq.out (by simp));have jv:=ai_ (Kd.R_lower ho0 (keep_size (w:=w) (g:=g) (row:=none) (keep_f1 HK jr)));replace HK:=ai_ (KeepBut.trans (keep_f1 HK jr) hk (.inl rfl));replace HB:=ai_ (hb);replace HI1:=ai_ (hi);clear hb hk hi;(try clear ho0))|((with_reducible refine gate_callee (f:=41) rfl ?_);refine gl_ (some 12) Tryz.func41 #[.pointer (some ⟨g,0,none⟩)] ?_;(with_reducible refine (spec_l1Cur_stop.calls g l0 j3t j3u j6b j3v j3w w0 _ ?side1 ?side2 A4.out).mono ?_);(case side1=>exact IsS55.tg1 HI1 je);(case side2=>exact below_to2 HB (IsS55.ge HI1.out) j1a.out);rintro e w8 ⟨rfl,hi,hb,hk⟩;refine ⟨_,rfl,?_⟩;replace jo:=ai_ (KeepBut.blk hk (blk_to jo) jq.out (by simp));replace jv:=ai_ (Kd.R_mono (Kd.R_keep (IsS55.apart (IsS55.to1 HI1 je) (kd_to jv) (by decide)) hk (fun _ h=>h.2)) (fun _ h=>h.1));replace HK:=ai_ (KeepBut.trans (keep_f1 HK jr) hk (.inl rfl));replace HB:=ai_ (hb);replace HI1:=ai_ (hi);clear hb hk hi)|((with_reducible refine gate_callee (f:=42) rfl ?_);refine gl_ (some 14) Tryz.func42 #[.pointer (some ⟨g,0,none⟩)] ?_;(with_reducible refine (spec_l1Cur_minute.calls g l0 j3v j3w j6c j6d j6e w0 _ ?side1 ?side2 A5.out).mono ?_);(case side1=>exact IsS55.tg1 HI1 je);(case side2=>exact below_to2 HB (IsS55.ge HI1.out) j1a.out);rintro e w9 ⟨rfl,hi,hb,hk⟩;refine ⟨_,rfl,?_⟩;replace jo:=ai_ (KeepBut.blk hk (blk_to jo) jq.out (by simp));replace jv:=ai_ (Kd.R_mono (Kd.R_keep (IsS55.apart (IsS55.to1 HI1 je) (kd_to jv) (by decide)) hk (fun _ h=>h.2)) (fun _ h=>h.1));replace HK:=ai_ (KeepBut.trans (keep_f1 HK jr) hk (.inl rfl));replace HB:=ai_ (hb);replace HI1:=ai_ (hi);clear hb hk hi;have j6k:=jq.out;have j6l:=je.out;obtain ⟨j1h,j1i,j1j,j1k,j1l,j1m,j1n,j1o⟩:=blk4_ jo;obtain ⟨Ao12,co12,eo12⟩:=Kd.R_slice jv.out;subst eo12))
 refine bodyPost_ret (results_ctt rfl _ _ jh 26 #[.int .i64 j3f,.int .i64 j3g,.int .i64 j3h,.slice Ao12 j3i.length co12] (0,0) _ rfl (bput4 jo) Tryz.underlying26 rfl (by kernel_rfl)) rfl ?_
 exact ⟨_,rtE_,by (with_reducible repeat (first|apply Kd.R_alloc|apply Kd.R_drewN|apply Kd.R_drew));exact Kd.R_mono (Kd.R_far (p:=⟨jh,3,none⟩) (Kd.R_far (p:=⟨jh,2,none⟩) (Kd.R_far (p:=⟨jh,1,none⟩) (Kd.R_far (p:=⟨jh,0,none⟩) (Kd.R_types jv.out jo.out (by decide)) (fun _ hk=>hk.2) (.int .i64 j3f)) (fun _ hk=>hk.2) (.int .i64 j3g)) (fun _ hk=>hk.2) (.int .i64 j3h)) (fun _ hk=>hk.2) (.slice Ao12 j3i.length co12)) (fun _ hk=>trivial),IsS55.tg1 HI1 je,below_to2 HB (IsS55.ge HI1.out) j1a.out,keep_f1 HK jr⟩
def impl_within.f (a0:Int) (a1:Int) (a2:Int):Option (Bool):=if a0≥a1 then (some (decide (a0≤a2))) else (some false)
theorem impl_within.calls (a0:Int) (a1:Int) (a2:Int) (r:Bool) (w:World) (h:impl_within.f a0 a1 a2=some r) :
  Calls Tryz.prog 50 #[.int .i64 a0,.int .i64 a1,.int .i64 a2] w fun e w'=>e=.returned (.bool r)∧Drawn0 w w':=by
 have H:=h
 unfold impl_within.f at H
 clear h
 by_cases c4:a0≥a1
 ·rw [if_pos c4] at H
  have j1v:=decide_eq_true c4
  clear c4
  obtain rfl:=Option.some.inj H
  go_enter Tryz.func50,Tryz.ntmps50
  go_wp2
  go_ret
  exact ⟨rt_,d0_⟩
 ·rw [if_neg c4] at H
  have j1v:=decide_eq_false c4
  clear c4
  obtain rfl:=Option.some.inj H
  go_enter Tryz.func50,Tryz.ntmps50
  go_wp2
  go_ret
  exact ⟨rt_,d0_⟩
def impl_isMinute.f (a0:Int):Option (Bool):=(impl_within.f a0 0 2000).bind fun j1w=>(some j1w)
theorem impl_isMinute.calls (a0:Int) (r:Bool) (w:World) (h:impl_isMinute.f a0=some r) :
  Calls Tryz.prog 44 #[.int .i64 a0] w fun e w'=>e=.returned (.bool r)∧Drawn0 w w':=by
 have H:=h
 unfold impl_isMinute.f at H
 clear h
 replace H:=Option.bind_eq_some_iff.mp H
 obtain ⟨j1w,A20,H⟩:=H
 replace H:(some j1w)=some r:=H
 have A2:=ai_ A20
 clear A20
 obtain rfl:=Option.some.inj H
 go_enter Tryz.func44,Tryz.ntmps44
 go_wp2_with (first|((with_reducible refine gate_callee (f:=50) rfl ?_);refine gl_ (some 4) Tryz.func50 #[.int .i64 a0,.int .i64 0,.int .i64 2000] ?_;(with_reducible refine (impl_within.calls a0 0 2000 j1w _ A2.out).mono ?_);rintro e w' ⟨rfl,⟨nd,rfl⟩⟩;refine ⟨_,rfl,?_⟩))
 go_ret
 exact ⟨rt_,d0_⟩
def impl_increasing.l0:Nat→List Int→Int→Option (Bool)
 | 0,_,_=>none
 | k+1,x0,x3=>if x3 < (x0.length:Int) then (if 0≤(wrap64 (x3 - 1)) then (if (wrap64 (x3 - 1)) < (x0.length:Int) then (if 0≤x3 then (if (rd x0 (wrap64 (x3 - 1)))≥(rd x0 x3) then (some false) else (impl_increasing.l0 k x0 (wrap64 (x3+1)))) else (none)) else (none)) else (none)) else (some true)
def impl_increasing.f (k:Nat) (l0:List Int):Option (Bool):=impl_increasing.l0 k l0 1
theorem impl_increasing.calls (k:Nat) (A0:Option Addr) (c0:Nat) (l0:List Int) (r:Bool) (w:World) (hr0:Kd.C Ki_ w A0 l0.length l0) (hc0:l0.length≤c0) (h:impl_increasing.f k l0=some r) :
  Calls Tryz.prog 55 #[.slice A0 l0.length c0] w fun e w'=>e=.returned (.bool r)∧Drawn0 w w':=by
 have HR0:=ai_ hr0
 have HC0:=ai_ hc0
 clear hr0 hc0
 have H:(impl_increasing.l0 k l0 1)=some r:=h
 clear h
 have H':=ai_ H
 clear H
 go_enter Tryz.func55,Tryz.ntmps55
 go_wp2
 repeat (go_quiet (fail);try go_wp2)
 go_loopg [3] k (fun kq v3 w' => ∃ (jl:Int),v3=.int .i64 jl∧Aside0 (impl_increasing.l0 kq l0 jl=some r)∧Aside0 (kq≤k)∧Drawn0 w w')
 case atStart=>exact ⟨(1),rt_,H',⟨Nat.le_refl _⟩,d0_⟩
 clear H'
 obtain ⟨jl,rfl,HA,HK1,⟨m1,rfl⟩⟩:=hrel
 cases gk with
 | zero=>exact absurd HA.out (by simp [impl_increasing.l0])
 | succ k1 =>
  have H:=HA.out
  clear HA
  simp only [impl_increasing.l0] at H
  by_cases c2:jl < (l0.length:Int)
  rotate_left
  ·rw [if_neg c2] at H
   have j6f:=decide_eq_false c2
   clear c2
   obtain rfl:=Option.some.inj H
   go_wp2
   repeat (go_quiet (fail);try go_wp2)
   go_ret
   exact ⟨rt_,d0_⟩
  rw [if_pos c2] at H
  have j6f:=decide_eq_true c2
  clear c2
  obtain ⟨ji3,j1x⟩:∃ j_:Int,(wrap64 (jl - 1))=j_:=⟨_,rfl⟩
  replace H:(if 0≤(ji3) then (if (ji3) < (l0.length:Int) then (if 0≤jl then (if (rd l0 (ji3))≥(rd l0 jl) then (some false) else (impl_increasing.l0 k1 l0 (wrap64 (jl+1)))) else (none)) else (none)) else (none))=some r:=by first|(rw [j1x] at H;exact H)|(simp only [j1x] at H ⊢;exact H)
  have j6m:(IntKind.i64.wrap (jl - 1))=ji3:=(i64_w _).trans j1x
  by_cases c4:0≤(ji3)
  rotate_left
  ·rw [if_neg c4] at H
   cases H
  rw [if_pos c4] at H
  have j1v:=decide_eq_true c4
  clear c4
  by_cases c5:(ji3) < (l0.length:Int)
  rotate_left
  ·rw [if_neg c5] at H
   cases H
  rw [if_pos c5] at H
  have j6g:=decide_eq_true c5
  clear c5
  by_cases c6:0≤jl
  rotate_left
  ·rw [if_neg c6] at H
   cases H
  rw [if_pos c6] at H
  have j6h:=decide_eq_true c6
  clear c6
  by_cases c7:(rd l0 (ji3))≥(rd l0 jl)
  ·rw [if_pos c7] at H
   have j6i:=decide_eq_true c7
   clear c7
   obtain rfl:=Option.some.inj H
   have j1b:0≤((ji3):Int):=odt_
   have j1c:(ji3) < (l0.length:Int):=odt_
   obtain ⟨j1s,e215,j1y⟩:=Kd.at_int HR0.out (ji3) j1b j1c
   cases e215
   replace j1b:=eq_true j1b
   replace j1c:=eq_true j1c
   have j1d:0≤(jl:Int):=odt_
   have j1e:jl < (l0.length:Int):=odt_
   obtain ⟨j1t,e216,j1z⟩:=Kd.at_int HR0.out jl j1d j1e
   obtain rfl:j1s=j1t:=(by injection e216)
   replace j1d:=eq_true j1d
   replace j1e:=eq_true j1e
   go_wp2
   repeat (go_quiet (fail);try go_wp2)
   go_ret
   exact ⟨by first|rfl|(simp;done)|(simp only [← j1x] <;> (first|rfl|simp))|(simp [*];done),d0_⟩
  ·rw [if_neg c7] at H
   have j6i:=decide_eq_false c7
   clear c7
   have H':=ai_ H
   clear H
   have j1b:0≤((ji3):Int):=odt_
   have j1c:(ji3) < (l0.length:Int):=odt_
   obtain ⟨j1s,e215,j1y⟩:=Kd.at_int HR0.out (ji3) j1b j1c
   cases e215
   replace j1b:=eq_true j1b
   replace j1c:=eq_true j1c
   have j1d:0≤(jl:Int):=odt_
   have j1e:jl < (l0.length:Int):=odt_
   obtain ⟨j1t,e216,j1z⟩:=Kd.at_int HR0.out jl j1d j1e
   obtain rfl:j1s=j1t:=(by injection e216)
   replace j1d:=eq_true j1d
   replace j1e:=eq_true j1e
   go_wp2
   repeat (go_quiet (fail);try go_wp2)
   go_roundg k1
   case measure=>have:=HK1.out;omega
   case rel=>exact ⟨(wrap64 (jl+1)),rt_,H',⟨by have:=HK1.out;omega⟩,d0_⟩
def impl_IsLine.j0:Nat→Bool→Int→Int→Int→List Int→Option (Bool)
 | 0,_,_,_,_,_=>none
 | k+1,x30,j4c,j4d,j4e,jf=>if x30=true then (some false) else ((impl_within.f (jf.length:Int) 2 12).bind fun j3j=>(if j3j=true then (if 0 < (jf.length:Int) then (if (rd jf 0)=0 then ((impl_increasing.f k jf).bind fun j3k=>(if j3k=true then (if 0≤(wrap64 ((jf.length:Int) - 1)) then (if (wrap64 ((jf.length:Int) - 1)) < (jf.length:Int) then (some (decide ((rd jf (wrap64 ((jf.length:Int) - 1)))≤500))) else (none)) else (none)) else (some false))) else (some false)) else (none)) else (some false)))
def impl_IsLine.f (k:Nat) (jg:Int) (jn:Int) (jp:Int) (jb:List Int):Option (Bool):=(impl_isMinute.f jg).bind fun j3l=>(if j3l=true then ((impl_within.f jn 1 2000).bind fun j3m=>(if j3m=true then ((impl_within.f jp 1 60).bind fun j3n=>(if j3n=true then (impl_IsLine.j0 k (decide ((wrap64 (jg+(wrap64 ((wrap64 (jp - 1))*jn)))) > 2000)) jg jn jp jb) else (impl_IsLine.j0 k true jg jn jp jb))) else (impl_IsLine.j0 k true jg jn jp jb))) else (impl_IsLine.j0 k true jg jn jp jb))
theorem impl_IsLine.calls (k:Nat) (jg:Int) (jn:Int) (jp:Int) (j2a:Option Addr) (j2b:Nat) (jb:List Int) (r:Bool) (w:World) (hr0_3:Kd.C Ki_ w j2a jb.length jb) (hc0_3:jb.length≤j2b) (h:impl_IsLine.f k jg jn jp jb=some r) :
  Calls Tryz.prog 15 #[.agg #[.int .i64 jg,.int .i64 jn,.int .i64 jp,.slice j2a jb.length j2b]] w fun e w'=>e=.returned (.bool r)∧Below w.heap.size w w':=by
 have hu26:=Tryz.underlying26
 have jw:=ai_ hr0_3
 have j3c:=ai_ hc0_3
 clear hr0_3 hc0_3
 have HB:=ai_ (Below.refl w.heap.size w)
 have H:=h
 unfold impl_IsLine.f at H
 clear h
 have HC2:=ai_ H
 clear H
 go_enter Tryz.func15,Tryz.ntmps15
 go_upto_region 1 with (first|((with_reducible refine gate_dst (N:=1) rfl ?_);(try (refine gate_guard (by rfl) ?_;dsimp only));refine bxe_ #[.int .i64 jg,.int .i64 jn,.int .i64 jp,.slice j2a jb.length j2b] 26 ?_;intro j3x hg w3 hbox hb;have ji:=ai_ (hbox);have j6n:=ai_ (gb_ hg (below_size (below_to HB)));have jm:=ai_ (gb_ hg (below_size (below_to HB)));replace HB:=ai_ (below_step (below_to HB) hb);clear hb hbox hg))
 (try simp only [Act.put,List.setIfInBounds_toArray,List.set_cons_zero,List.set_cons_succ])
 go_cut [30] (fun v30 wc => ∃ (kq:Nat) (j1p:Bool),v30=.bool j1p∧Aside0 (impl_IsLine.j0 kq j1p jg jn jp jb=some r)∧Aside0 (kq≤k)∧Aside0 (wc.heap[j3x]?=some (.cells #[.int .i64 jg,.int .i64 jn,.int .i64 jp,(.slice j2a jb.length j2b)] 26 (0,0)))∧Aside0 (Below w.heap.size w wc))
 case first =>
  have H:=HC2.out
  clear HC2
  obtain ⟨j3l,A4,H⟩:=bs_ H
  (try dsimp only at H)
  by_cases c5:j3l=true
  rotate_left
  ·replace c5:=Bool.eq_false_iff.mpr c5
   subst c5
   rw [if_neg ft_] at H
   have H':=ai_ H
   clear H
   obtain ⟨j2c,j2d,j2e,j2f,j2g,j2h,j2i,j2j⟩:=blk4_ ji
   go_wp2_with (first|((with_reducible refine gate_callee (f:=44) rfl ?_);refine gl_ (some 5) Tryz.func44 #[.int .i64 jg] ?_;(with_reducible refine (impl_isMinute.calls jg false _ A4.out).mono ?_);rintro e w' ⟨rfl,⟨nd,rfl⟩⟩;refine ⟨_,rfl,?_⟩))
   go_meet
   case rel=>exact ⟨_,(true),rt_,H',⟨by first|omega|exact Nat.le_refl _⟩,⟨blk_to ji⟩,⟨below_to1 HB jm.out⟩⟩
  subst c5
  rw [if_pos rfl] at H
  obtain ⟨j3m,A6,H⟩:=bs_ H
  (try dsimp only at H)
  by_cases c7:j3m=true
  rotate_left
  ·replace c7:=Bool.eq_false_iff.mpr c7
   subst c7
   rw [if_neg ft_] at H
   have H':=ai_ H
   clear H
   obtain ⟨j2k,j2l,j2m,j2n,j2o,j2p,j2q,j2r⟩:=blk4_ ji
   go_wp2_with (first|((with_reducible refine gate_callee (f:=44) rfl ?_);refine gl_ (some 5) Tryz.func44 #[.int .i64 jg] ?_;(with_reducible refine (impl_isMinute.calls jg true _ A4.out).mono ?_);rintro e w' ⟨rfl,⟨nd,rfl⟩⟩;refine ⟨_,rfl,?_⟩)|(go_at_call 50;(with_reducible refine (impl_within.calls jn 1 2000 false _ A6.out).mono ?_);rintro e w' ⟨rfl,⟨nd,rfl⟩⟩))
   go_meet
   case rel=>exact ⟨_,(true),rt_,H',⟨by first|omega|exact Nat.le_refl _⟩,⟨blk_to ji⟩,⟨below_to1 HB jm.out⟩⟩
  subst c7
  rw [if_pos rfl] at H
  obtain ⟨j3n,A8,H⟩:=bs_ H
  (try dsimp only at H)
  by_cases c9:j3n=true
  ·subst c9
   rw [if_pos rfl] at H
   have H':=ai_ H
   clear H
   obtain ⟨j2s,j2t,j2u,j2v,j2w,j2x,j2y,j2z⟩:=blk4_ ji
   go_wp2_with (first|((with_reducible refine gate_callee (f:=44) rfl ?_);refine gl_ (some 5) Tryz.func44 #[.int .i64 jg] ?_;(with_reducible refine (impl_isMinute.calls jg true _ A4.out).mono ?_);rintro e w' ⟨rfl,⟨nd,rfl⟩⟩;refine ⟨_,rfl,?_⟩)|(go_at_call 50;(with_reducible refine (impl_within.calls jn 1 2000 true _ A6.out).mono ?_);rintro e w' ⟨rfl,⟨nd,rfl⟩⟩)|(go_at_call 50;(with_reducible refine (impl_within.calls jp 1 60 true _ A8.out).mono ?_);rintro e w' ⟨rfl,⟨nd,rfl⟩⟩))
   go_meet
   case rel=>exact ⟨_,(decide ((wrap64 (jg+(wrap64 ((wrap64 (jp - 1))*jn)))) > 2000)),rt_,H',⟨by first|omega|exact Nat.le_refl _⟩,⟨blk_to ji⟩,⟨below_to1 HB jm.out⟩⟩
  ·replace c9:=Bool.eq_false_iff.mpr c9
   subst c9
   rw [if_neg ft_] at H
   have H':=ai_ H
   clear H
   obtain ⟨j1h,j1i,j1j,j1k,j1l,j1m,j1n,j1o⟩:=blk4_ ji
   go_wp2_with (first|((with_reducible refine gate_callee (f:=44) rfl ?_);refine gl_ (some 5) Tryz.func44 #[.int .i64 jg] ?_;(with_reducible refine (impl_isMinute.calls jg true _ A4.out).mono ?_);rintro e w' ⟨rfl,⟨nd,rfl⟩⟩;refine ⟨_,rfl,?_⟩)|(go_at_call 50;(with_reducible refine (impl_within.calls jn 1 2000 true _ A6.out).mono ?_);rintro e w' ⟨rfl,⟨nd,rfl⟩⟩)|(go_at_call 50;(with_reducible refine (impl_within.calls jp 1 60 false _ A8.out).mono ?_);rintro e w' ⟨rfl,⟨nd,rfl⟩⟩))
   go_meet
   case rel=>exact ⟨_,(true),rt_,H',⟨by first|omega|exact Nat.le_refl _⟩,⟨blk_to ji⟩,⟨below_to1 HB jm.out⟩⟩
 clear HC2
 try clear c1
 try clear p2
 try clear c4
 try clear c5
 try clear p6
 try clear c7
 try clear c9
 try clear j2s
 try clear j2t
 try clear j2u
 try clear j2v
 try clear j1h
 try clear j1i
 try clear j1j
 try clear j1k
 try clear j2k
 try clear j2l
 try clear j2m
 try clear j2n
 try clear j2c
 try clear j2d
 try clear j2e
 try clear j2f
 try clear j2w
 try clear j2x
 try clear j2y
 try clear j2z
 try clear j1l
 try clear j1m
 try clear j1n
 try clear j1o
 try clear j2o
 try clear j2p
 try clear j2q
 try clear j2r
 try clear j2g
 try clear j2h
 try clear j2i
 try clear j2j
 obtain ⟨kq,j1p,rfl,HA,HJ1,ji,HB⟩:=hcut
 cases kq with
 | zero=>exact absurd HA.out (by simp [impl_IsLine.j0])
 | succ kj1 =>
  have H:=HA.out
  clear HA
  simp only [impl_IsLine.j0] at H
  by_cases c14:j1p=true
  ·subst c14
   rw [if_pos rfl] at H
   obtain rfl:=Option.some.inj H
   go_wp2
   go_ret
   exact ⟨rtE_,below_to1 HB jm.out⟩
  replace c14:=Bool.eq_false_iff.mpr c14
  subst c14
  rw [if_neg ft_] at H
  obtain ⟨j3j,A15,H⟩:=bs_ H
  (try dsimp only at H)
  by_cases c16:j3j=true
  rotate_left
  ·replace c16:=Bool.eq_false_iff.mpr c16
   subst c16
   rw [if_neg ft_] at H
   obtain rfl:=Option.some.inj H
   obtain ⟨j4f,j4g,j4h,j4i,j4j,j4k,j4l,j4m⟩:=blk4_ ji
   go_wp2_with (first|((with_reducible refine gate_callee (f:=50) rfl ?_);refine gl_ (some 34) Tryz.func50 #[.int .i64 (jb.length:Int),.int .i64 2,.int .i64 12] ?_;(with_reducible refine (impl_within.calls (jb.length:Int) 2 12 false _ A15.out).mono ?_);rintro e w' ⟨rfl,⟨nd,rfl⟩⟩;refine ⟨_,rfl,?_⟩))
   go_ret
   exact ⟨rtE_,below_to1 HB jm.out⟩
  subst c16
  rw [if_pos rfl] at H
  by_cases c17:0 < (jb.length:Int)
  rotate_left
  ·rw [if_neg c17] at H
   cases H
  rw [if_pos c17] at H
  have j6o:=decide_eq_true c17
  have j6p:decide (0 < jb.length)=true:=decide_eq_true (by omega)
  clear c17
  by_cases c18:(rd jb 0)=0
  rotate_left
  ·rw [if_neg c18] at H
   have j3y:=beq_eq_false_iff_ne.mpr c18
   have j3z:=bne_iff_ne.mpr c18
   obtain rfl:=Option.some.inj H
   obtain ⟨j4n,j4o,j4p,j4q,j4r,j4s,j4t,j4u⟩:=blk4_ ji
   go_wp2_with (first|((with_reducible refine gate_callee (f:=50) rfl ?_);refine gl_ (some 34) Tryz.func50 #[.int .i64 (jb.length:Int),.int .i64 2,.int .i64 12] ?_;(with_reducible refine (impl_within.calls (jb.length:Int) 2 12 true _ A15.out).mono ?_);rintro e w' ⟨rfl,⟨nd,rfl⟩⟩;refine ⟨_,rfl,?_⟩;have js:0≤(0:Int):=(by omega);have jt:0 < (jb.length:Int):=of_decide_eq_true (by first|(with_reducible assumption)|assumption);obtain ⟨j1u,e222,ja⟩:=Kd.at_int jw.out 0 js jt;cases e222;have qi222:(0 < jb.length)=True:=eq_true (by omega);(try rw [show ((0:Int)).toNat=0 from rfl] at ja);(try rw [Addr.add_zero'] at ja);replace ja:=(HB.out.cell (World.block_lt_of_cell? w _ ja)).trans ja;replace js:=eq_true js;replace jt:=eq_true jt))
   go_ret
   exact ⟨rtE_,below_to1 HB jm.out⟩
  rw [if_pos c18] at H
  have j3y:=beq_iff_eq.mpr c18
  have j3z:=bne_eq_false_iff_eq.mpr c18
  clear c18
  obtain ⟨j3k,A19,H⟩:=bs_ H
  (try dsimp only at H)
  by_cases c20:j3k=true
  rotate_left
  ·replace c20:=Bool.eq_false_iff.mpr c20
   subst c20
   rw [if_neg ft_] at H
   obtain rfl:=Option.some.inj H
   obtain ⟨j4v,j4w,j4x,j4y,j4z,j5a,j5b,j5c⟩:=blk4_ ji
   go_wp2_with (first|((with_reducible refine gate_callee (f:=50) rfl ?_);refine gl_ (some 34) Tryz.func50 #[.int .i64 (jb.length:Int),.int .i64 2,.int .i64 12] ?_;(with_reducible refine (impl_within.calls (jb.length:Int) 2 12 true _ A15.out).mono ?_);rintro e w' ⟨rfl,⟨nd,rfl⟩⟩;refine ⟨_,rfl,?_⟩;have js:0≤(0:Int):=(by omega);have jt:0 < (jb.length:Int):=of_decide_eq_true (by first|(with_reducible assumption)|assumption);obtain ⟨j1u,e222,ja⟩:=Kd.at_int jw.out 0 js jt;cases e222;have qi222:(0 < jb.length)=True:=eq_true (by omega);(try rw [show ((0:Int)).toNat=0 from rfl] at ja);(try rw [Addr.add_zero'] at ja);replace ja:=(HB.out.cell (World.block_lt_of_cell? w _ ja)).trans ja;replace js:=eq_true js;replace jt:=eq_true jt)|(go_at_call 55;(with_reducible refine (impl_increasing.calls kj1 _ _ jb false _ ?side1 j3c.out A19.out).mono ?_);(case side1=>repeat (first|exact (Kd.C_below jw.out (below_to1 HB jm.out))|(with_reducible refine Kd.C_alloc ?_ _)|(with_reducible refine Kd.C_drewN ?_ _)|(with_reducible refine Kd.C_drew ?_)));rintro e w' ⟨rfl,⟨nd,rfl⟩⟩))
   go_ret
   exact ⟨rtE_,below_to1 HB jm.out⟩
  subst c20
  rw [if_pos rfl] at H
  obtain ⟨jy,jx⟩:∃ j_:Int,(wrap64 ((jb.length:Int) - 1))=j_:=⟨_,rfl⟩
  replace H:(if 0≤(jy) then (if (jy) < (jb.length:Int) then (some (decide ((rd jb (jy))≤500))) else (none)) else (none))=some r:=by first|(rw [jx] at H;exact H)|(simp only [jx] at H ⊢;exact H)
  (try rw [jx] at A15)
  (try rw [jx] at A19)
  have j6j:(IntKind.i64.wrap ((jb.length:Int) - 1))=jy:=(i64_w _).trans jx
  by_cases c22:0≤(jy)
  ·rw [if_pos c22] at H
   have j6q:=decide_eq_true c22
   clear c22
   by_cases c23:(jy) < (jb.length:Int)
   ·rw [if_pos c23] at H
    have j6r:=decide_eq_true c23
    clear c23
    obtain rfl:=Option.some.inj H
    obtain ⟨j5d,j5e,j5f,j5g,j5h,j5i,j5j,j5k⟩:=blk4_ ji
    go_wp2_with (first|((with_reducible refine gate_callee (f:=50) rfl ?_);refine gl_ (some 34) Tryz.func50 #[.int .i64 (jb.length:Int),.int .i64 2,.int .i64 12] ?_;(with_reducible refine (impl_within.calls (jb.length:Int) 2 12 true _ A15.out).mono ?_);rintro e w' ⟨rfl,⟨nd,rfl⟩⟩;refine ⟨_,rfl,?_⟩;have js:0≤(0:Int):=(by omega);have jt:0 < (jb.length:Int):=of_decide_eq_true (by first|(with_reducible assumption)|assumption);obtain ⟨j1u,e222,ja⟩:=Kd.at_int jw.out 0 js jt;cases e222;have qi222:(0 < jb.length)=True:=eq_true (by omega);(try rw [show ((0:Int)).toNat=0 from rfl] at ja);(try rw [Addr.add_zero'] at ja);replace ja:=(HB.out.cell (World.block_lt_of_cell? w _ ja)).trans ja;replace js:=eq_true js;replace jt:=eq_true jt)|(go_at_call 55;(with_reducible refine (impl_increasing.calls kj1 _ _ jb true _ ?side1 j3c.out A19.out).mono ?_);(case side1=>repeat (first|exact (Kd.C_below jw.out (below_to1 HB jm.out))|(with_reducible refine Kd.C_alloc ?_ _)|(with_reducible refine Kd.C_drewN ?_ _)|(with_reducible refine Kd.C_drew ?_)));rintro e w' ⟨rfl,⟨nd,rfl⟩⟩;have j3o:0≤((jy):Int):=of_decide_eq_true (by first|(with_reducible assumption)|assumption);have j3p:(jy) < (jb.length:Int):=of_decide_eq_true (by first|(with_reducible assumption)|assumption);obtain ⟨j4a,e224,jz⟩:=Kd.at_int jw.out (jy) j3o j3p;obtain rfl:j1u=j4a:=(by injection e224);replace jz:=(HB.out.cell (World.block_lt_of_cell? w _ jz)).trans jz;replace j3o:=eq_true j3o;replace j3p:=eq_true j3p))
    go_ret
    exact ⟨by first|rfl|(simp [errW_none,errW_some] <;> rfl)|(simp only [← jx];first|rfl|(simp [errW_none,errW_some] <;> rfl))|(simp [*,errW_none,errW_some] <;> rfl),below_to1 HB jm.out⟩
   ·rw [if_neg c23] at H
    cases H
  ·rw [if_neg c22] at H
   cases H
def impl_allWithin.l0:Nat→Int→Int→List Int→Int→Int→Option (Bool)
 | 0,_,_,_,_,_=>none
 | k+1,x1,x2,x9,x10,x11=>if x11 < x10 then (if 0≤x11 then (if x11 < (x9.length:Int) then ((impl_within.f (rd x9 x11) x1 x2).bind fun j3q=>(if j3q=true then (impl_allWithin.l0 k x1 x2 x9 x10 (wrap64 (x11+1))) else (some false))) else (none)) else (none)) else (some true)
def impl_allWithin.f (k:Nat) (l0:List Int) (a1:Int) (a2:Int):Option (Bool):=impl_allWithin.l0 k a1 a2 l0 (l0.length:Int) 0
theorem impl_allWithin.calls (k:Nat) (A0:Option Addr) (c0:Nat) (l0:List Int) (a1:Int) (a2:Int) (r:Bool) (w:World) (hr0:Kd.C Ki_ w A0 l0.length l0) (hc0:l0.length≤c0) (h:impl_allWithin.f k l0 a1 a2=some r) :
  Calls Tryz.prog 71 #[.slice A0 l0.length c0,.int .i64 a1,.int .i64 a2] w fun e w'=>e=.returned (.bool r)∧Drawn0 w w':=by
 have HR0:=ai_ hr0
 have HC0:=ai_ hc0
 clear hr0 hc0
 have H:(impl_allWithin.l0 k a1 a2 l0 (l0.length:Int) 0)=some r:=h
 clear h
 have H':=ai_ H
 clear H
 go_enter Tryz.func71,Tryz.ntmps71
 go_wp2
 go_loopg [11] k (fun kq v11 w' => ∃ (jd:Int),v11=.int .i64 jd∧Aside0 (impl_allWithin.l0 kq a1 a2 l0 (l0.length:Int) jd=some r)∧Aside0 (kq≤k)∧Drawn0 w w')
 case atStart=>exact ⟨(0),rt_,H',⟨Nat.le_refl _⟩,d0_⟩
 clear H'
 try clear p2
 obtain ⟨jd,rfl,HA,HK1,⟨m1,rfl⟩⟩:=hrel
 cases gk with
 | zero=>exact absurd HA.out (by simp [impl_allWithin.l0])
 | succ k1 =>
  have H:=HA.out
  clear HA
  simp only [impl_allWithin.l0] at H
  by_cases c4:jd < (l0.length:Int)
  rotate_left
  ·rw [if_neg c4] at H
   have j1v:=decide_eq_false c4
   clear c4
   obtain rfl:=Option.some.inj H
   go_wp2
   go_ret
   exact ⟨rt_,d0_⟩
  rw [if_pos c4] at H
  have j1v:=decide_eq_true c4
  clear c4
  by_cases c5:0≤jd
  rotate_left
  ·rw [if_neg c5] at H
   cases H
  rw [if_pos c5] at H
  have j6g:=decide_eq_true c5
  clear c5
  by_cases c6:jd < (l0.length:Int)
  rotate_left
  ·rw [if_neg c6] at H
   cases H
  rw [if_pos c6] at H
  have j6h:=decide_eq_true c6
  clear c6
  obtain ⟨j3q,A7,H⟩:=bs_ H
  (try dsimp only at H)
  by_cases c8:j3q=true
  ·subst c8
   rw [if_pos rfl] at H
   have H':=ai_ H
   clear H
   have j1f:0≤(jd:Int):=odt_
   have j1g:jd < (l0.length:Int):=odt_
   obtain ⟨j4b,e225,j3a⟩:=Kd.at_int HR0.out jd j1f j1g
   cases e225
   replace j1f:=eq_true j1f
   replace j1g:=eq_true j1g
   go_wp2_with (first|((with_reducible refine gate_callee (f:=50) rfl ?_);refine gl_ (some 18) Tryz.func50 #[.int .i64 (rd l0 jd),.int .i64 a1,.int .i64 a2] ?_;(with_reducible refine (impl_within.calls (rd l0 jd) a1 a2 true _ A7.out).mono ?_);rintro e w' ⟨rfl,⟨nd,rfl⟩⟩;refine ⟨_,rfl,?_⟩))
   go_roundg k1
   case measure=>have:=HK1.out;omega
   case rel=>exact ⟨(wrap64 (jd+1)),rt_,H',⟨by have:=HK1.out;omega⟩,d0_⟩
  ·replace c8:=Bool.eq_false_iff.mpr c8
   subst c8
   rw [if_neg ft_] at H
   obtain rfl:=Option.some.inj H
   have j1f:0≤(jd:Int):=odt_
   have j1g:jd < (l0.length:Int):=odt_
   obtain ⟨j4b,e225,j3a⟩:=Kd.at_int HR0.out jd j1f j1g
   cases e225
   replace j1f:=eq_true j1f
   replace j1g:=eq_true j1g
   go_wp2_with (first|((with_reducible refine gate_callee (f:=50) rfl ?_);refine gl_ (some 18) Tryz.func50 #[.int .i64 (rd l0 jd),.int .i64 a1,.int .i64 a2] ?_;(with_reducible refine (impl_within.calls (rd l0 jd) a1 a2 false _ A7.out).mono ?_);rintro e w' ⟨rfl,⟨nd,rfl⟩⟩;refine ⟨_,rfl,?_⟩))
   go_ret
   exact ⟨rt_,d0_⟩
end Go.Proofs.YthdnodmidbcgpaaGreatDoor.QR
