import Derived.Test.YthdnodmidbcgpaaQEx17s1
namespace Go.Proofs.Ythdnodmidbcgpaa.QE
open Go.Proofs.Ythdnodmidbcgpaa.X Go.RowKit Go.Proofs.YthdnodmidbcgpaaW.PrintWords Go.Proofs.YthdnodmidbcgpaaW.PrintLast Go.Proofs.YthdnodmidbcgpaaW.PrintMore
attribute [local go_sem] max2_int min2_int max_two min_two max_three min_three max_four min_four
set_option linter.unusedVariables false
set_option linter.unusedSimpArgs false
set_option maxHeartbeats 8000000 in
set_option maxRecDepth 100000 in
theorem lw_.calls (k:Nat) (A0:Option Addr) (c0:Nat) (l0:List Int) (A1:Option Addr) (c1:Nat) (l1:List Int) (r:Bool) (w:World) (hr0:Kd.C (Kd.int .u8) w A0 l0.length l0) (hc0:l0.length≤c0) (hr1:Kd.C (Kd.int .u8) w A1 l1.length l1) (hc1:l1.length≤c1) (h:lw_.f k l0 l1=some r) (hR_:r=true) :
  Calls Try.prog 4 #[.slice A0 l0.length c0,.slice A1 l1.length c1] w fun e w'=>e=.returned (.bool r)∧Below w.heap.size w w':=by
 have HR_:=ai_ hR_;clear hR_;have hu30:=Try.underlying30;have HR0:=ai_ hr0;have HC0:=ai_ hc0;clear hr0 hc0;have HR1:=ai_ hr1;have HC1:=ai_ hc1;clear hr1 hc1;have HB:=ai_ (Below.refl w.heap.size w);have H:=h
 unfold lw_.f at H
 clear h;obtain ⟨j4u,A3,H⟩:=bs_ H;(try dsimp only at H)
 by_cases c4:j4u=true
 ·subst c4
  rw [if_pos rfl] at H;obtain rfl:=Option.some.inj H;go_enter Try.func4,Try.ntmps4
  go_wp2_with (first|((with_reducible refine gc_ 18 rfl ?_);refine gl_ (some 83) Try.func18 #[.slice A0 l0.length c0,.slice A1 l1.length c1] ?_;(with_reducible refine (laws_big.calls _ _ l0 _ _ l1 true _ ?side1 HC0.out ?side3 HC1.out A3.out).mono ?_);(case side1=>exact c_to HR0);(case side3=>exact c_to HR1);rintro e w' ⟨rfl,⟨nd,rfl⟩⟩;refine ⟨_,rfl,?_⟩))
  go_ret;exact ⟨rtE_,below_to HB⟩
 replace c4:=Bool.eq_false_iff.mpr c4;subst c4;rw [if_neg ft_] at H;obtain ⟨⟨jx,jy,jz,jq,j1m,j1a,j1b,j1c,jr,j1n,jg,j1o⟩,A5,H⟩:=bs_ H;(try dsimp only at H);obtain ⟨⟨j2h,j2e,j1t⟩,A6,H⟩:=bs_ H;(try dsimp only at H);obtain ⟨⟨j4l,j4m,j2c⟩,A7,H⟩:=bs_ H;(try dsimp only at H);have HC8:=ai_ H;clear H;go_enter Try.func4,Try.ntmps4
 go_upto_region 6 with (first|((with_reducible refine gc_ 18 rfl ?_);refine gl_ (some 83) Try.func18 #[.slice A0 l0.length c0,.slice A1 l1.length c1] ?_;(with_reducible refine (laws_big.calls _ _ l0 _ _ l1 false _ ?side1 HC0.out ?side3 HC1.out A3.out).mono ?_);(case side1=>exact c_to HR0);(case side3=>exact c_to HR1);rintro e w' ⟨rfl,⟨nd,rfl⟩⟩;refine ⟨_,rfl,?_⟩)|((with_reducible refine gc_ 19 rfl ?_);refine gl_ (some 86) Try.func19 #[.slice A0 l0.length c0] ?_;(with_reducible refine (spec_DrawBestChange.calls k _ _ l0 jx jy jz jq j1m j1a j1b j1c jr j1n jg j1o _ ?side1 HC0.out A5.out).mono ?_);(case side1=>exact c_to HR0);rintro e w9 ⟨j4n,j4f,j4o,rfl,ho0,ho1,ho2,hb⟩;refine ⟨_,rfl,?_⟩;replace ho0:=Kd.R_mono (ok':=fun k_=>some k_≠(j4f:Value).ownBlock) ho0 (fun _ h_=>h_.2);replace ho1:=Kd.R_mono (ok':=fun k_=>some k_≠(j4n:Value).ownBlock) ho1 (fun _ h_=>h_.2);have jt:=ai_ (Kd.R_lower ho0 (below_size (below_to HB)));have ju:=ai_ (Kd.R_lower ho1 (below_size (below_to HB)));have j1f:=ai_ (Kd.N_lower (Kd.N_mono (ok':=fun k_=>some k_≠(j4n:Value).ownBlock∧some k_≠(j4f:Value).ownBlock) ho2 (fun k_ hk_=>⟨hk_.2.1,hk_.2.2⟩)) (below_size (below_to HB)));replace HB:=ai_ (below_step (below_to HB) hb);(try clear hb);(try clear ho0);(try clear ho1);(try clear ho2))|((with_reducible refine gd_ 5 rfl ?_);(try (refine gate_guard (by rfl) ?_;dsimp only));refine bxe_ #[.int .i64 0,.int .i64 0,.int .i64 0,.slice none 0 0] 30 ?_;intro jn hg w10 hbox hb;replace jt:=rb_ jt hb;replace ju:=rb_ ju hb;replace j1f:=ai_ (Kd.N_below (Kd.N_elderB (kn_ j1f) jn (Nat.le_of_eq hg.symm)) hb);have jd:=ai_ (hbox);have j5b:=ai_ (gb_ hg (below_size (below_to HB)));have js:=ai_ (gb_ hg (below_size (below_to HB)));replace HB:=ai_ (below_step (below_to HB) hb);clear hb hbox hg)|((with_reducible refine gd_ 7 rfl ?_);(try (refine gate_guard (by rfl) ?_;dsimp only));refine bxe_ #[.int .i64 0,.int .i64 0,.int .i64 0,.slice none 0 0] 30 ?_;intro jo hg w11 hbox hb;replace jt:=rb_ jt hb;replace ju:=rb_ ju hb;replace j1f:=ai_ (Kd.N_below (Kd.N_elderB (kn_ j1f) jo (Nat.le_of_eq hg.symm)) hb);have je:=ai_ (hbox);have j5c:=ai_ (gb_ hg (below_size (below_to1 HB js.out)));have jv:=ai_ (gb_ hg (below_size (below_to1 HB js.out)));replace HB:=ai_ (below_step (below_to1 HB js.out) hb);have j1s:=ai_ (ne_ hg (blk_lt (blk_to jd)));replace jd:=bb_ jd hb;have j2a:=ai_ j1s.out.symm;clear hb hbox hg;have j4p:=j1s.out;have j4q:=j2a.out;obtain ⟨j2i,j2j,j2k,j2l,j2m,j2n,j2o,j2p⟩:=blk4_ jd;obtain ⟨Ao14,co14,eo14⟩:=Kd.R_slice jt.out;subst eo14)|((with_reducible refine gate_store (t:=30) (p:=5) rfl ?_);refine store_event (t:=30) (p:=5) (v:=?vo_w15) (w1:=((((w11.setCell ⟨jn,0,none⟩ (.int .i64 jx)).setCell ⟨jn,1,none⟩ (.int .i64 jy)).setCell ⟨jn,2,none⟩ (.int .i64 jz)).setCell ⟨jn,3,none⟩ (.slice Ao14 jq.length co14))) ?hg ?ho ?hn ?hr ?_;(case ho=>rfl);(case hg=>rfl);(case hn=>rfl);(case hr=>first|(go_simp;done)|(go_simp;rfl));intro w15 hw;have n0_:Aside0 (Kd.R Ki_ 3 w15 w.heap.size (fun k_=>some k_≠(j4f:Value).ownBlock) (.slice Ao14 jq.length co14) jq):=⟨(by rw [hw];exact (rtf_ jt jd))⟩;have n1_:Aside0 (Kd.R Ki_ 3 w15 w.heap.size (fun k_=>nb_ k_ Ao14 jq co14) j4f jr):=⟨(by rw [hw];exact (rtf_ ju jd))⟩;have n2_:Aside0 (Kd.N (Kd.slice 3 Ki_) 22 w15 w.heap.size (fun k_=>nb_ k_ Ao14 jq co14∧some k_≠(j4f:Value).ownBlock∧k_≠jn∧k_≠jo) j4o jg):=⟨(by rw [hw];exact (by (with_reducible repeat (first|apply Kd.N_alloc|apply Kd.N_drewN|apply Kd.N_drew));exact Kd.N_mono (Kd.N_far (p:=⟨jn,3,none⟩) (Kd.N_far (p:=⟨jn,2,none⟩) (Kd.N_far (p:=⟨jn,1,none⟩) (Kd.N_far (p:=⟨jn,0,none⟩) (Kd.N_mono j1f.out (fun k_ hk=>(⟨hk,hk.1.2⟩:_∧k_≠jn))) (fun _ hk=>hk.2) (.int .i64 jx)) (fun _ hk=>hk.2) (.int .i64 jy)) (fun _ hk=>hk.2) (.int .i64 jz)) (fun _ hk=>hk.2) (.slice Ao14 jq.length co14)) (fun _ hk=>⟨hk.1.1.1.1,⟨hk.1.1.1.2,⟨hk.1.1.2,hk.1.2⟩⟩⟩)))⟩;have n3_:B4_ w15 jn jx jy jz Ao14 jq co14 30:=⟨(by rw [hw];exact (bput4 jd))⟩;have n4_:Aside0 (w15.heap[jo]?=some (.cells #[.int .i64 0,.int .i64 0,.int .i64 0,.slice none 0 0] 30 (0,0))):=⟨(by rw [hw];exact (blk_f1 je j2a))⟩;have n5_:Aside0 (Below w.heap.size w w15):=⟨(by rw [hw];exact (below_to2 HB js.out jv.out))⟩;clear hw;clear jt;clear ju;clear j1f;clear jd;clear je;clear HB;have jt:=n0_;have ju:=n1_;have j1f:=n2_;have jd:=n3_;have je:=n4_;have HB:=n5_;clear n0_ n1_ n2_ n3_ n4_ n5_;obtain ⟨j2q,j2r,j2s,j2t,j2u,j2v,j2w,j2x⟩:=blk4_ je;obtain ⟨Ao17,co17,eo17⟩:=Kd.R_slice ju.out;subst eo17)|((with_reducible refine gate_store (t:=30) (p:=7) rfl ?_);refine store_event (t:=30) (p:=7) (v:=?vo_w18) (w1:=((((w15.setCell ⟨jo,0,none⟩ (.int .i64 j1a)).setCell ⟨jo,1,none⟩ (.int .i64 j1b)).setCell ⟨jo,2,none⟩ (.int .i64 j1c)).setCell ⟨jo,3,none⟩ (.slice Ao17 jr.length co17))) ?hg ?ho ?hn ?hr ?_;(case ho=>rfl);(case hg=>rfl);(case hn=>rfl);(case hr=>first|(go_simp;done)|(go_simp;rfl));intro w18 hw;have n0_:Aside0 (Kd.R Ki_ 3 w18 w.heap.size (fun k_=>nb_ k_ Ao17 jr co17) (.slice Ao14 jq.length co14) jq):=⟨(by rw [hw];exact (rtf_ jt je))⟩;have n1_:Aside0 (Kd.R Ki_ 3 w18 w.heap.size (fun k_=>nb_ k_ Ao14 jq co14) (.slice Ao17 jr.length co17) jr):=⟨(by rw [hw];exact (rtf_ ju je))⟩;have n2_:Aside0 (Kd.N (Kd.slice 3 Ki_) 22 w18 w.heap.size (fun k_=>n2_ k_ Ao14 jq co14 Ao17 jr co17 (k_≠jn∧k_≠jo)) j4o jg):=⟨(by rw [hw];exact (by (with_reducible repeat (first|apply Kd.N_alloc|apply Kd.N_drewN|apply Kd.N_drew));exact Kd.N_mono (Kd.N_far (p:=⟨jo,3,none⟩) (Kd.N_far (p:=⟨jo,2,none⟩) (Kd.N_far (p:=⟨jo,1,none⟩) (Kd.N_far (p:=⟨jo,0,none⟩) (Kd.N_mono j1f.out (fun k_ hk=>(⟨hk,hk.2.2.2⟩:_∧k_≠jo))) (fun _ hk=>hk.2) (.int .i64 j1a)) (fun _ hk=>hk.2) (.int .i64 j1b)) (fun _ hk=>hk.2) (.int .i64 j1c)) (fun _ hk=>hk.2) (.slice Ao17 jr.length co17)) (fun _ hk=>⟨hk.1.1,⟨hk.1.2.1,⟨hk.1.2.2.1,hk.1.2.2.2⟩⟩⟩)))⟩;have n3_:B4_ w18 jn jx jy jz Ao14 jq co14 30:=⟨(by rw [hw];exact (blk_f1 jd j1s))⟩;have n4_:B4_ w18 jo j1a j1b j1c Ao17 jr co17 30:=⟨(by rw [hw];exact (bput4 je))⟩;have n5_:Aside0 (Below w.heap.size w w18):=⟨(by rw [hw];exact (below_to2 HB js.out jv.out))⟩;clear hw;clear jt;clear ju;clear j1f;clear jd;clear je;clear HB;have jt:=n0_;have ju:=n1_;have j1f:=n2_;have jd:=n3_;have je:=n4_;have HB:=n5_;clear n0_ n1_ n2_ n3_ n4_ n5_;obtain ⟨j2y,j2z,j3a,j3b,j3c,j3d,j3e,j3f⟩:=blk4_ jd;obtain ⟨j3g,j3h,j3i,j3j,j3k,j3l,j3m,j3n⟩:=blk4_ je;obtain ⟨Ao21,co21,eo21⟩:=Kd.N_slice j1f.out;subst eo21)|((with_reducible refine gc_ 10 rfl ?_);refine gl_ (some 100) Try.func10 #[ag_ jx jy jz Ao14 jq co14,.int .i64 j1m,ag_ j1a j1b j1c Ao17 jr co17,.int .i64 j1n,.slice Ao21 jg.length co21,.int .i64 j1o] ?_;(with_reducible refine (impl_BestChange.calls k jx jy jz _ _ jq j1m j1a j1b j1c _ _ jr j1n (fun k_=>(nb_ k_ Ao14 jq co14∧(nb_ k_ Ao17 jr co17∧(k_≠jn∧k_≠jo)))) _ _ jg j1o j2h j2e j1t _ ?side1 ?side2 ?side3 ?side4 ?side5 A6.out).mono ?_);(case side1=>exact cR_ jt);(case side2=>exact (Kd.R_reads' jt.out).2.1);(case side3=>exact cR_ ju);(case side4=>exact (Kd.R_reads' ju.out).2.1);(case side5=>exact Kd.N_V (j1f.out));rintro e w22 ⟨j2f,rfl,ho0,hb⟩;refine ⟨_,rfl,?_⟩;replace j1f:=ai_ (Kd.N_elder' (kn_ j1f) (Kd.R_base ho0) hb);have j1u:=ai_ (Kd.R_lower (Kd.R_new' (Kd.R_new' (Kd.R_mono (ok':=fun k_=>True) ho0 (fun _ hk_=>trivial)) (Kd.R_lt (kd_to jt))) (Kd.R_lt (kd_to ju))) (below_size (below_to2 HB js.out jv.out)));replace jt:=ai_ (Kd.R_elder' (kd_to jt) (Kd.R_base ho0) hb);replace ju:=ai_ (Kd.R_elder' (kd_to ju) (Kd.R_base ho0) hb);replace jd:=bb_ jd hb;replace je:=bb_ je hb;replace HB:=ai_ (below_step (below_to2 HB js.out jv.out) hb);(try clear hb);(try clear ho0);obtain ⟨j3o,j3p,j3q,j3r,j3s,j3t,j3u,j3v⟩:=blk4_ jd;obtain ⟨j3w,j3x,j3y,j3z,j4a,j4b,j4c,j4d⟩:=blk4_ je)|((with_reducible refine gc_ 7 rfl ?_);refine gl_ (some 111) Try.func7 #[ag_ jx jy jz Ao14 jq co14,.int .i64 j1m,ag_ j1a j1b j1c Ao17 jr co17,.int .i64 j1n,.slice Ao21 jg.length co21,.int .i64 j1o] ?_;(with_reducible refine (spec_BestChange.calls k jx jy jz _ _ jq j1m j1a j1b j1c _ _ jr j1n _ _ jg j1o j4l j4m j2c _ ?side1 ?side2 ?side3 ?side4 ?side5 ?side6 A7.out).mono ?_);(case side1=>exact cR_ jt);(case side2=>exact (Kd.R_reads' jt.out).2.1);(case side3=>exact cR_ ju);(case side4=>exact (Kd.R_reads' ju.out).2.1);(case side5=>repeat (first|exact (Kd.N_reads' j1f.out).2.2|(with_reducible refine Kd.C_alloc ?_ _)|(with_reducible refine Kd.C_drewN ?_ _)|(with_reducible refine Kd.C_drew ?_)));(case side6=>exact (Kd.N_reads' j1f.out).2.1);rintro e w25 ⟨j5m,rfl,ho0,hb⟩;refine ⟨_,rfl,?_⟩;replace j1f:=ai_ (Kd.N_elder' (kn_ j1f) (Kd.R_base ho0) hb);have j4g:=ai_ (Kd.R_lower (Kd.R_new' (Kd.R_new' (Kd.R_new' ho0 (Kd.R_lt (kd_to jt))) (Kd.R_lt (kd_to ju))) (Kd.R_lt (kd_to j1u))) (below_size (below_to2 HB js.out jv.out)));replace jt:=ai_ (Kd.R_elder' (kd_to jt) (Kd.R_base ho0) hb);replace ju:=ai_ (Kd.R_elder' (kd_to ju) (Kd.R_base ho0) hb);replace j1u:=ai_ (Kd.R_elder' (kd_to j1u) (Kd.R_base ho0) hb);replace jd:=bb_ jd hb;replace je:=bb_ je hb;replace HB:=ai_ (below_step (below_to2 HB js.out jv.out) hb);(try clear hb);(try clear ho0)))
 (try simp only [Act.put,List.setIfInBounds_toArray,List.set_cons_zero,List.set_cons_succ])
 go_cut [128] from 100000 (fun j4v wc => ∃ (kq:Nat) (j2d:Bool),j4v=.bool j2d∧Aside0 (lw_.j0 kq l1 j1m j1n jg j1o j2h j2e j1t j2d jx jy jz jq j1a j1b j1c jr=some r)∧Aside0 (kq≤k)∧Aside0 (Kd.N (Kd.slice 3 Ki_) 22 wc w.heap.size (fun k_=>some k_≠(j2f:Value).ownBlock∧n2_ k_ Ao14 jq co14 Ao17 jr co17 (k_≠jn∧k_≠jo)) (.slice Ao21 jg.length co21) jg)∧Aside0 (Kd.R Ki_ 3 wc w.heap.size (fun k_=>e2_ k_ Ao14 jq co14 Ao17 jr co17) j2f j2h)∧Aside0 (Kd.R Ki_ 3 wc w.heap.size (fun k_=>some k_≠(j2f:Value).ownBlock∧nb_ k_ Ao17 jr co17) (.slice Ao14 jq.length co14) jq)∧Aside0 (Kd.R Ki_ 3 wc w.heap.size (fun k_=>some k_≠(j2f:Value).ownBlock∧nb_ k_ Ao14 jq co14) (.slice Ao17 jr.length co17) jr)∧B4_ wc jn jx jy jz Ao14 jq co14 30∧B4_ wc jo j1a j1b j1c Ao17 jr co17 30∧Aside0 (Below w.heap.size w wc))
 case first =>
  (try conv=>arg 2;dsimp only [List.append_eq,List.cons_append,List.nil_append]);have H:=HC8.out;clear HC8
  by_cases c26:(j1t != j2c)=true
  ·rw [if_pos c26] at H
   have j1v:(j1t != j2c)=true:=c26;(try (have j4h:decide (j1t=j2c)=false:=by simpa using c26));(try (have j4i:(j1t == j2c)=false:=by simpa using c26));(try (have j5d:¬ (j1t=j2c):=by simpa using c26));clear c26
   (first|rw [j1v]|(simp only [i64_w,i32_w];rw [j1v])|skip)
   exact absurd H (by rw [HR_.out];cases k <;> simp [lw_.j0])
  rw [if_neg c26] at H;have j1v:(j1t != j2c)=false:=by simpa using c26
  (try (have j4h:decide (j1t=j2c)=true:=by simpa using c26));(try (have j4i:(j1t == j2c)=true:=by simpa using c26));clear c26
  (first|rw [j1v]|(simp only [i64_w,i32_w];rw [j1v])|skip)
  obtain ⟨j4w,A27,H⟩:=bs_ H;(try dsimp only at H)
  by_cases c28:j4w=true
  ·subst c28
   rw [if_pos rfl] at H;have H':=ai_ H;clear H;obtain ⟨Ao29,co29,eo29⟩:=Kd.R_slice j1u.out;subst eo29;obtain ⟨Ao30,co30,eo30⟩:=Kd.R_slice j4g.out;subst eo30
   go_wp2_with (first|(go_at_call 20;(with_reducible refine (laws_qSame.calls k _ _ j2h _ _ j4l true _ ?side1 ?side2 ?side3 ?side4 A27.out).mono ?_);(case side1=>exact cR_ j1u);(case side2=>exact (Kd.R_reads' j1u.out).2.1);(case side3=>exact cR_ j4g);(case side4=>exact (Kd.R_reads' j4g.out).2.1);rintro e w' ⟨rfl,⟨nd,rfl⟩⟩))
   go_meet
   case rel=>exact ⟨_,((j2e != j4m)),rt_,H',⟨by first|omega|exact Nat.le_refl _⟩,⟨by (with_reducible repeat (first|apply Kd.N_alloc|apply Kd.N_drewN|apply Kd.N_drew));exact Kd.N_mono j1f.out (fun _ hk=>⟨hk.1.2,⟨hk.1.1.1,⟨hk.1.1.2.1,⟨hk.1.1.2.2.1,hk.1.1.2.2.2⟩⟩⟩⟩)⟩,⟨km_ j1u (fun _ hk=>⟨hk.1.1.2,hk.1.2⟩)⟩,⟨km_ jt (fun _ hk=>⟨hk.1.2,hk.1.1⟩)⟩,⟨km_ ju (fun _ hk=>⟨hk.1.2,hk.1.1⟩)⟩,⟨blk_to jd⟩,⟨blk_to je⟩,⟨below_to2 HB js.out jv.out⟩⟩
  ·replace c28:=Bool.eq_false_iff.mpr c28
   subst c28;rw [if_neg ft_] at H;exact absurd H (by rw [HR_.out];cases k <;> simp [lw_.j0])
 clear HC8;(try clear c1);(try clear c4);(try clear c26);(try clear j1v);(try clear j4h);(try clear j4i);(try clear c28);(try clear j2i j2j j2k j2l);(try clear j2q j2r j2s j2t);(try clear j2y j2z j3a j3b);(try clear j3g j3h j3i j3j);(try clear j3o j3p j3q j3r);(try clear j3w j3x j3y j3z);(try clear j2m j2n j2o j2p);(try clear j2u j2v j2w j2x);(try clear j3c j3d j3e j3f);(try clear j3k j3l j3m j3n);(try clear j3s j3t j3u j3v);(try clear j4a j4b j4c j4d);obtain ⟨kq,j2d,rfl,HA,HJ7,j4x,jp,jb,jc,jd,je,HB⟩:=hcut
 cases kq with
 | zero=>exact absurd HA.out (by simp [lw_.j0])
 | succ kj7 =>
  have H:=HA.out;clear HA;simp only [lw_.j0] at H
  by_cases c31:j2d=true
  ·subst c31
   rw [if_pos rfl] at H;exact nof_ HR_ H
  replace c31:=Bool.eq_false_iff.mpr c31;subst c31;rw [if_neg ft_] at H;have HC32:=ai_ H;clear H
  go_upto_if 129 with (fail)
  go_cut [] from 100000 (fun wc => ∃ (kq:Nat),Aside0 (lw_.j2 kq l1=some r)∧Aside0 (kq≤kj7)∧Aside0 (Below w.heap.size w wc))
  case first =>
   (try conv=>arg 2;dsimp only [List.append_eq,List.cons_append,List.nil_append]);have H:=HC32.out;clear HC32
   by_cases c33:j1t=true
   rotate_left
   ·replace c33:=Bool.eq_false_iff.mpr c33
    subst c33;rw [if_neg ft_] at H;have H':=ai_ H;clear H
    go_wp2
    go_meet
    case rel=>exact ⟨_,H',⟨by have:=HJ7.out;first|omega|exact Nat.le_refl _⟩,⟨below_to2 HB js.out jv.out⟩⟩
   subst c33;rw [if_pos rfl] at H;have H':=ai_ H;clear H
   go_wp2
   go_loopg [17,132] kj7 (fun kq v17 j4y w' => ∃ (j1w:Bool) (ja:Int),v17=.bool j1w∧j4y=.int .i64 ja∧Aside0 (lw_.l0 kq l1 j1m j1n j1o j2h j2e j1w jg (jg.length:Int) ja jx jy jz jq j1a j1b j1c jr=some r)∧Aside0 (kq≤kj7)∧Aside0 (Kd.R Ki_ 3 w' w.heap.size (fun k_=>e2_ k_ Ao14 jq co14 Ao17 jr co17) j2f j2h)∧Aside0 (Kd.N (Kd.slice 3 Ki_) 22 w' w.heap.size (fun k_=>some k_≠(j2f:Value).ownBlock∧n2_ k_ Ao14 jq co14 Ao17 jr co17 (k_≠jn∧k_≠jo)) (.slice Ao21 jg.length co21) jg)∧Aside0 (Kd.R Ki_ 3 w' w.heap.size (fun k_=>some k_≠(j2f:Value).ownBlock∧nb_ k_ Ao17 jr co17) (.slice Ao14 jq.length co14) jq)∧Aside0 (Kd.R Ki_ 3 w' w.heap.size (fun k_=>some k_≠(j2f:Value).ownBlock∧nb_ k_ Ao14 jq co14) (.slice Ao17 jr.length co17) jr)∧Aside0 (w'.heap[jn]?=some (.cells #[.int .i64 jx,.int .i64 jy,.int .i64 jz,(.slice Ao14 jq.length co14)] 30 (0,0)))∧Aside0 (w'.heap[jo]?=some (.cells #[.int .i64 j1a,.int .i64 j1b,.int .i64 j1c,(.slice Ao17 jr.length co17)] 30 (0,0)))∧Aside0 (Below w.heap.size w w'))
   case atStart=>exact ⟨(false),(0),rt_,rt_,H',⟨Nat.le_refl _⟩,⟨kd_to jp⟩,⟨kn_ j4x⟩,⟨kd_to jb⟩,⟨kd_to jc⟩,⟨blk_to jd⟩,⟨blk_to je⟩,⟨below_to2 HB js.out jv.out⟩⟩
   clear H';(try clear c1);(try clear c4);(try clear c26);(try clear j1v);(try clear j4h);(try clear j4i);(try clear c28);(try clear c31);(try clear c33);(try clear j2i j2j j2k j2l);(try clear j2q j2r j2s j2t);(try clear j2y j2z j3a j3b);(try clear j3g j3h j3i j3j);(try clear j3o j3p j3q j3r);(try clear j3w j3x j3y j3z);(try clear j2m j2n j2o j2p);(try clear j2u j2v j2w j2x);(try clear j3c j3d j3e j3f);(try clear j3k j3l j3m j3n);(try clear j3s j3t j3u j3v);(try clear j4a j4b j4c j4d);obtain ⟨j1w,ja,rfl,rfl,HA,HK2,jp,jh,jb,jc,jd,je,HB⟩:=hrel
   cases gk with
   | zero=>exact absurd HA.out (by simp [lw_.l0])
   | succ k2 =>
    have H:=HA.out;clear HA;simp only [lw_.l0] at H
    by_cases c34:ja < (jg.length:Int)
    rotate_left
    ·rw [if_neg c34] at H
     have j2b:=decide_eq_false c34;clear c34
     (first|rw [j2b]|(simp only [i64_w,i32_w];rw [j2b])|skip)
     by_cases c63:j1w=true
     ·subst c63
      rw [if_pos rfl] at H;have H':=ai_ H;clear H
      go_wp2
      go_meet
      case rel=>exact ⟨_,H',⟨by have:=HJ7.out;have:=HK2.out;first|omega|exact Nat.le_refl _⟩,⟨below_to2 HB js.out jv.out⟩⟩
     ·replace c63:=Bool.eq_false_iff.mpr c63
      subst c63;rw [if_neg ft_] at H;exact nof_ HR_ H
    rw [if_pos c34] at H;have j2b:=decide_eq_true c34;clear c34
    (first|rw [j2b]|(simp only [i64_w,i32_w];rw [j2b])|skip)
    by_cases c35:0≤ja
    rotate_left
    ·rw [if_neg c35] at H
     cases H
    rw [if_pos c35] at H;have j5e:=decide_eq_true c35;clear c35
    by_cases c36:ja < (jg.length:Int)
    rotate_left
    ·rw [if_neg c36] at H
     cases H
    rw [if_pos c36] at H;have j5f:=decide_eq_true c36;clear c36
    by_cases c37:((rd_L1 jg ja).length:Int)=3
    rotate_left
    ·rw [if_neg c37] at H
     have j4j:=beq_eq_false_iff_ne.mpr c37;have j4k:=bne_iff_ne.mpr c37;exact nof_ HR_ H
    rw [if_pos c37] at H;have j4j:=beq_iff_eq.mpr c37;have j4k:=bne_eq_false_iff_eq.mpr c37;clear c37
    by_cases c38:0 < ((rd_L1 jg ja).length:Int)
    rotate_left
    ·rw [if_neg c38] at H
     cases H
    rw [if_pos c38] at H;have j5g:=decide_eq_true c38;have j5h:decide (0 < (rd_L1 jg ja).length)=true:=decide_eq_true (by omega);clear c38
    by_cases c39:1 < ((rd_L1 jg ja).length:Int)
    rotate_left
    ·rw [if_neg c39] at H
     cases H
    rw [if_pos c39] at H;have j5i:=decide_eq_true c39;have j5j:decide (1 < (rd_L1 jg ja).length)=true:=decide_eq_true (by omega);clear c39
    by_cases c40:2 < ((rd_L1 jg ja).length:Int)
    rotate_left
    ·rw [if_neg c40] at H
     cases H
    rw [if_pos c40] at H;have j5k:=decide_eq_true c40;have j5l:decide (2 < (rd_L1 jg ja).length)=true:=decide_eq_true (by omega);clear c40;obtain ⟨⟨j4e,j1z,j4z⟩,A41,H⟩:=bs_ H;(try dsimp only at H)
    by_cases c42:j4z=true
    rotate_left
    ·replace c42:=Bool.eq_false_iff.mpr c42
     subst c42;rw [if_neg ft_] at H
     by_cases c58:j1w=true
     ·subst c58
      rw [if_pos rfl] at H;have H':=ai_ H;clear H;have j1d:0≤(ja:Int):=odt_;have j1e:ja < (jg.length:Int):=odt_;obtain ⟨j2g,j1x,j1y,e746,jw,hl746_0,hi746_0⟩:=at_L1 (Kd.N_reads' jh.out).2.2 ja j1d j1e
      cases e746
      obtain ⟨ce746,hce746,hMe746,hcc746⟩:=Kd.N_get jh.out [] ja j1d (by first|exact j1e|exact of_decide_eq_true (by first|(with_reducible assumption)|assumption)|(have e_:=(Kd.N_reads' jh.out).1;omega));obtain ⟨ua746_0,uc746_0,rfl,ul746_0,ge746_0⟩:=Kd.FK_slice_open hMe746;have hv746_0:=hcc746 0 _ rfl;rw [Nat.add_zero,show ((Kd.slice 3 Ki_)).sz=1 from rfl,Nat.mul_one] at hv746_0;replace hv746_0:=Option.some.inj (hv746_0.symm.trans jw)
      injection hv746_0 with hva_ hvn_ hvc_
      rw [hva_] at ge746_0;rw [hvc_] at ul746_0;have ji:=ai_ (show Kd.V Ki_ 3 _ w.heap.size _ _ (rd_L1 jg ja) from Kd.V_mk ul746_0 ge746_0);clear hva_ hvn_ hvc_ ge746_0 ul746_0 hcc746 hce746;have jf:=ai_ hi746_0;have j1r:=ai_ hl746_0;clear hi746_0 hl746_0;replace j1d:=eq_true j1d;replace j1e:=eq_true j1e
      try go_wp2
      replace jp:=ai_ (Kd.R_drew jp.out);replace jh:=ai_ (Kd.N_drew jh.out);replace jb:=ai_ (Kd.R_drew jb.out);replace jc:=ai_ (Kd.R_drew jc.out);replace ji:=ai_ (Kd.V_drew ji.out);replace jd:=ai_ (blk_drew jd.out);replace je:=ai_ (blk_drew je.out);replace jf:=ai_ (Kd.C_drew jf.out);replace HB:=ai_ (below_drew1 HB.out)
      have j1g:0≤(0:Int):=(by omega)
      have j1h:0 < ((rd_L1 jg ja).length:Int):=odt_;obtain ⟨jm,e747,jj⟩:=Kd.ati_ jf 0 j1g j1h
      cases e747
      have qi747:(0 < (rd_L1 jg ja).length)=True:=eq_true (by omega);(try rw [show ((0:Int)).toNat=0 from rfl] at jj);(try rw [Addr.add_zero'] at jj);replace j1g:=eq_true j1g;replace j1h:=eq_true j1h
      have j1i:0≤(1:Int):=(by omega)
      have j1j:1 < ((rd_L1 jg ja).length:Int):=odt_;obtain ⟨j1p,e748,jk⟩:=Kd.ati_ jf 1 j1i j1j
      obtain rfl:jm=j1p:=(by injection e748)
      (try simp only [show (1:Int).toNat=1 from rfl,Nat.reduceMul,Nat.reduceEqDiff,Go.Addr.add,↓reduceIte] at jk);have qi748:(1 < (rd_L1 jg ja).length)=True:=eq_true (by omega);(try rw [show ((1:Int)).toNat=1 from rfl] at jk);replace j1i:=eq_true j1i;replace j1j:=eq_true j1j
      have j1k:0≤(2:Int):=(by omega)
      have j1l:2 < ((rd_L1 jg ja).length:Int):=odt_;obtain ⟨j1q,e749,jl⟩:=Kd.ati_ jf 2 j1k j1l
      obtain rfl:jm=j1q:=(by injection e749)
      (try simp only [show (2:Int).toNat=2 from rfl,Nat.reduceMul,Nat.reduceEqDiff,Go.Addr.add,↓reduceIte] at jl);have qi749:(2 < (rd_L1 jg ja).length)=True:=eq_true (by omega);(try rw [show ((2:Int)).toNat=2 from rfl] at jl);replace j1k:=eq_true j1k;replace j1l:=eq_true j1l;refine start_ (n:=22) (S:=fun w'=>w'.cell? ⟨jn,0,none⟩=some (.int .i64 jx)∧w'.cell? ⟨jn,1,none⟩=some (.int .i64 jy)∧w'.cell? ⟨jn,2,none⟩=some (.int .i64 jz)∧w'.cell? ⟨jn,3,none⟩=some (.slice Ao14 jq.length co14)∧w'.cell? ⟨jo,0,none⟩=some (.int .i64 j1a)∧w'.cell? ⟨jo,1,none⟩=some (.int .i64 j1b)∧w'.cell? ⟨jo,2,none⟩=some (.int .i64 j1c)∧w'.cell? ⟨jo,3,none⟩=some (.slice Ao17 jr.length co17)∧w'.cell? jm=some (.int .i64 (rd (rd_L1 jg ja) 0))∧w'.cell? ⟨jm.block,jm.off+1,none⟩=some (.int .i64 (rd (rd_L1 jg ja) 1))∧w'.cell? ⟨jm.block,jm.off+2,none⟩=some (.int .i64 (rd (rd_L1 jg ja) 2))) (ds:=[]) (fr_ [0,22]) (by kernel_rfl) rfl rfl ⟨bc_ jd 0,bc_ jd 1,bc_ jd 2,bc_ jd 3,bc_ je 0,bc_ je 1,bc_ je 2,bc_ je 3,jj,jk,jl⟩ (fun hHeld=>?_);refine with_tabW lw_.tab15 lw_.bits15 (fun HT_ HW_=>?_);generalize wr.drew=w59 at jp jh jb jc ji jd je jf HB jj jk jl hHeld ⊢;refine pS_ 1 141 (fr_ [0,1,1,20]) HT_ ?_;refine pS_ 2 142 (fr_ [0,1,2,19]) HT_ ?_;refine pS_ 3 143 (fr_ [0,1,3,18]) HT_ ?_;refine pS_ 6 146 (fr_ [0,1,3,2,1,15]) HT_ ?_;refine pS_ 7 147 (fr_ [0,1,3,2,2,14]) HT_ ?_;refine pS_ 9 149 (fr_ [0,1,3,2,2,1,1,12]) HT_ ?_;refine pS_ 10 150 (fr_ [0,1,3,2,2,1,2,11]) HT_ ?_;refine pS_ 11 151 (fr_ [0,1,3,2,2,1,3,10]) HT_ ?_;refine pS_ 13 153 (fr_ [0,1,3,2,2,1,3,1,1,8]) HT_ ?_;refine tk11_ 0 140 (fr_ [4,2,2,1,3,1,1,8]) HT_ HW_ hHeld ?_;refine tk11_ 4 144 (fr_ [5,1,2,1,3,1,1,8]) HT_ HW_ hHeld ?_;refine tk11_ 5 145 (fr_ [8,1,3,1,1,8]) HT_ HW_ hHeld ?_;refine tk11_ 8 148 (fr_ [12,1,1,8]) HT_ HW_ hHeld ?_;refine tk11_ 12 152 (fr_ [14,8]) HT_ HW_ hHeld ?_;refine on_ 14 154 (fr_ [15,7]) HT_ (fun K hK=>?_);refine gs_ Try.func21 #[ag_ jx jy jz Ao14 jq co14,.int .i64 j1m,.int .i64 (rd (rd_L1 jg ja) 0),ag_ j1a j1b j1c Ao17 jr co17,.int .i64 (rd (rd_L1 jg ja) 1),.int .i64 j1n,.int .i64 (rd (rd_L1 jg ja) 2),.int .i64 j1o] ?_
      with_reducible refine (impl_ChangeAt.calls k2 jx jy jz _ _ jq j1m (rd (rd_L1 jg ja) 0) j1a j1b j1c _ _ jr (rd (rd_L1 jg ja) 1) j1n (rd (rd_L1 jg ja) 2) j1o j4e j1z false _ ?side1 ?side2 ?side3 ?side4 A41.out).mono ?_
      (case side1=>exact cR_ jb)
      (case side2=>exact (Kd.R_reads' jb.out).2.1)
      (case side3=>exact cR_ jc)
      (case side4=>exact (Kd.R_reads' jc.out).2.1)
      rintro e w60 ⟨rfl,hb⟩;have HS8_:=hc_ hb hHeld.2.2.2.2.2.2.2.2.1;have HS9_:=hc_ hb hHeld.2.2.2.2.2.2.2.2.2.1;have HS10_:=hc_ hb hHeld.2.2.2.2.2.2.2.2.2.2;refine ⟨_,rfl,?_⟩;replace jp:=rb_ jp hb;replace jh:=ai_ (Kd.N_below (kn_ jh) hb);replace jb:=rb_ jb hb;replace jc:=rb_ jc hb;replace ji:=ai_ (Kd.V_below (vd_to ji) hb);replace jd:=bb_ jd hb;replace je:=bb_ je hb;replace jf:=ai_ (cbl_ jf hb);replace HB:=ai_ (below_step (below_to2 HB js.out jv.out) hb);(try clear hb);(try clear hk);refine hK.out _ _ ⟨bc_ jd 0,bc_ jd 1,bc_ jd 2,bc_ jd 3,bc_ je 0,bc_ je 1,bc_ je 2,bc_ je 3,HS8_,HS9_,HS10_⟩ (fun hHeld=>?_);clear hK K;refine norm_ (a':=?_) ?_ ?_;rotate_left
      ·show Act.put _ (some 154) _=_
       simp only [Act.put,List.setIfInBounds_toArray,List.set_cons_zero,List.set_cons_succ,i64_w,i32_w]
       rfl
      refine pq_ 15 139 22 ?_;refine pq_ 16 155 22 ?_;refine pq_ 17 156 22 ?_;refine pq_ 18 157 22 ?_;refine pq_ 19 20 22 ?_;refine pq_ 20 21 22 ?_;refine pq_ 21 22 22 ?_;refine done_ (done_of HT_.out (by kernel_rfl)) ?_
      try go_wp2
      go_roundg k2
      case measure=>have:=HJ7.out;have:=HK2.out;omega
      case rel=>exact ⟨(true),(wrap64 (ja+1)),rt_,rt_,H',⟨by have:=HJ7.out;have:=HK2.out;omega⟩,⟨kd_to jp⟩,⟨kn_ jh⟩,⟨kd_to jb⟩,⟨kd_to jc⟩,⟨blk_to jd⟩,⟨blk_to je⟩,⟨below_to2 HB js.out jv.out⟩⟩
     replace c58:=Bool.eq_false_iff.mpr c58;subst c58;rw [if_neg ft_] at H;have H':=ai_ H;clear H;have j1d:0≤(ja:Int):=odt_;have j1e:ja < (jg.length:Int):=odt_;obtain ⟨j2g,j1x,j1y,e746,jw,hl746_0,hi746_0⟩:=at_L1 (Kd.N_reads' jh.out).2.2 ja j1d j1e
     cases e746
     obtain ⟨ce746,hce746,hMe746,hcc746⟩:=Kd.N_get jh.out [] ja j1d (by first|exact j1e|exact of_decide_eq_true (by first|(with_reducible assumption)|assumption)|(have e_:=(Kd.N_reads' jh.out).1;omega));obtain ⟨ua746_0,uc746_0,rfl,ul746_0,ge746_0⟩:=Kd.FK_slice_open hMe746;have hv746_0:=hcc746 0 _ rfl;rw [Nat.add_zero,show ((Kd.slice 3 Ki_)).sz=1 from rfl,Nat.mul_one] at hv746_0;replace hv746_0:=Option.some.inj (hv746_0.symm.trans jw)
     injection hv746_0 with hva_ hvn_ hvc_
     rw [hva_] at ge746_0;rw [hvc_] at ul746_0;have ji:=ai_ (show Kd.V Ki_ 3 _ w.heap.size _ _ (rd_L1 jg ja) from Kd.V_mk ul746_0 ge746_0);clear hva_ hvn_ hvc_ ge746_0 ul746_0 hcc746 hce746;have jf:=ai_ hi746_0;have j1r:=ai_ hl746_0;clear hi746_0 hl746_0;replace j1d:=eq_true j1d;replace j1e:=eq_true j1e
     try go_wp2
     replace jp:=ai_ (Kd.R_drew jp.out);replace jh:=ai_ (Kd.N_drew jh.out);replace jb:=ai_ (Kd.R_drew jb.out);replace jc:=ai_ (Kd.R_drew jc.out);replace ji:=ai_ (Kd.V_drew ji.out);replace jd:=ai_ (blk_drew jd.out);replace je:=ai_ (blk_drew je.out);replace jf:=ai_ (Kd.C_drew jf.out);replace HB:=ai_ (below_drew1 HB.out)
     have j1g:0≤(0:Int):=(by omega)
     have j1h:0 < ((rd_L1 jg ja).length:Int):=odt_;obtain ⟨jm,e747,jj⟩:=Kd.ati_ jf 0 j1g j1h
     cases e747
     have qi747:(0 < (rd_L1 jg ja).length)=True:=eq_true (by omega);(try rw [show ((0:Int)).toNat=0 from rfl] at jj);(try rw [Addr.add_zero'] at jj);replace j1g:=eq_true j1g;replace j1h:=eq_true j1h
     have j1i:0≤(1:Int):=(by omega)
     have j1j:1 < ((rd_L1 jg ja).length:Int):=odt_;obtain ⟨j1p,e748,jk⟩:=Kd.ati_ jf 1 j1i j1j
     obtain rfl:jm=j1p:=(by injection e748)
     (try simp only [show (1:Int).toNat=1 from rfl,Nat.reduceMul,Nat.reduceEqDiff,Go.Addr.add,↓reduceIte] at jk);have qi748:(1 < (rd_L1 jg ja).length)=True:=eq_true (by omega);(try rw [show ((1:Int)).toNat=1 from rfl] at jk);replace j1i:=eq_true j1i;replace j1j:=eq_true j1j
     have j1k:0≤(2:Int):=(by omega)
     have j1l:2 < ((rd_L1 jg ja).length:Int):=odt_;obtain ⟨j1q,e749,jl⟩:=Kd.ati_ jf 2 j1k j1l
     obtain rfl:jm=j1q:=(by injection e749)
     (try simp only [show (2:Int).toNat=2 from rfl,Nat.reduceMul,Nat.reduceEqDiff,Go.Addr.add,↓reduceIte] at jl);have qi749:(2 < (rd_L1 jg ja).length)=True:=eq_true (by omega);(try rw [show ((2:Int)).toNat=2 from rfl] at jl);replace j1k:=eq_true j1k;replace j1l:=eq_true j1l;refine start_ (n:=22) (S:=fun w'=>w'.cell? ⟨jn,0,none⟩=some (.int .i64 jx)∧w'.cell? ⟨jn,1,none⟩=some (.int .i64 jy)∧w'.cell? ⟨jn,2,none⟩=some (.int .i64 jz)∧w'.cell? ⟨jn,3,none⟩=some (.slice Ao14 jq.length co14)∧w'.cell? ⟨jo,0,none⟩=some (.int .i64 j1a)∧w'.cell? ⟨jo,1,none⟩=some (.int .i64 j1b)∧w'.cell? ⟨jo,2,none⟩=some (.int .i64 j1c)∧w'.cell? ⟨jo,3,none⟩=some (.slice Ao17 jr.length co17)∧w'.cell? jm=some (.int .i64 (rd (rd_L1 jg ja) 0))∧w'.cell? ⟨jm.block,jm.off+1,none⟩=some (.int .i64 (rd (rd_L1 jg ja) 1))∧w'.cell? ⟨jm.block,jm.off+2,none⟩=some (.int .i64 (rd (rd_L1 jg ja) 2))) (ds:=[]) (fr_ [0,22]) (by kernel_rfl) rfl rfl ⟨bc_ jd 0,bc_ jd 1,bc_ jd 2,bc_ jd 3,bc_ je 0,bc_ je 1,bc_ je 2,bc_ je 3,jj,jk,jl⟩ (fun hHeld=>?_);refine with_tabW lw_.tab15 lw_.bits15 (fun HT_ HW_=>?_);generalize wr.drew=w61 at jp jh jb jc ji jd je jf HB jj jk jl hHeld ⊢;refine pS_ 1 141 (fr_ [0,1,1,20]) HT_ ?_;refine pS_ 2 142 (fr_ [0,1,2,19]) HT_ ?_;refine pS_ 3 143 (fr_ [0,1,3,18]) HT_ ?_;refine pS_ 6 146 (fr_ [0,1,3,2,1,15]) HT_ ?_;refine pS_ 7 147 (fr_ [0,1,3,2,2,14]) HT_ ?_;refine pS_ 9 149 (fr_ [0,1,3,2,2,1,1,12]) HT_ ?_;refine pS_ 10 150 (fr_ [0,1,3,2,2,1,2,11]) HT_ ?_;refine pS_ 11 151 (fr_ [0,1,3,2,2,1,3,10]) HT_ ?_;refine pS_ 13 153 (fr_ [0,1,3,2,2,1,3,1,1,8]) HT_ ?_;refine tk11_ 0 140 (fr_ [4,2,2,1,3,1,1,8]) HT_ HW_ hHeld ?_;refine tk11_ 4 144 (fr_ [5,1,2,1,3,1,1,8]) HT_ HW_ hHeld ?_;refine tk11_ 5 145 (fr_ [8,1,3,1,1,8]) HT_ HW_ hHeld ?_;refine tk11_ 8 148 (fr_ [12,1,1,8]) HT_ HW_ hHeld ?_;refine tk11_ 12 152 (fr_ [14,8]) HT_ HW_ hHeld ?_;refine on_ 14 154 (fr_ [15,7]) HT_ (fun K hK=>?_);refine gs_ Try.func21 #[ag_ jx jy jz Ao14 jq co14,.int .i64 j1m,.int .i64 (rd (rd_L1 jg ja) 0),ag_ j1a j1b j1c Ao17 jr co17,.int .i64 (rd (rd_L1 jg ja) 1),.int .i64 j1n,.int .i64 (rd (rd_L1 jg ja) 2),.int .i64 j1o] ?_
     with_reducible refine (impl_ChangeAt.calls k2 jx jy jz _ _ jq j1m (rd (rd_L1 jg ja) 0) j1a j1b j1c _ _ jr (rd (rd_L1 jg ja) 1) j1n (rd (rd_L1 jg ja) 2) j1o j4e j1z false _ ?side1 ?side2 ?side3 ?side4 A41.out).mono ?_
     (case side1=>exact cR_ jb)
     (case side2=>exact (Kd.R_reads' jb.out).2.1)
     (case side3=>exact cR_ jc)
     (case side4=>exact (Kd.R_reads' jc.out).2.1)
     rintro e w62 ⟨rfl,hb⟩;have HS8_:=hc_ hb hHeld.2.2.2.2.2.2.2.2.1;have HS9_:=hc_ hb hHeld.2.2.2.2.2.2.2.2.2.1;have HS10_:=hc_ hb hHeld.2.2.2.2.2.2.2.2.2.2;refine ⟨_,rfl,?_⟩;replace jp:=rb_ jp hb;replace jh:=ai_ (Kd.N_below (kn_ jh) hb);replace jb:=rb_ jb hb;replace jc:=rb_ jc hb;replace ji:=ai_ (Kd.V_below (vd_to ji) hb);replace jd:=bb_ jd hb;replace je:=bb_ je hb;replace jf:=ai_ (cbl_ jf hb);replace HB:=ai_ (below_step (below_to2 HB js.out jv.out) hb);(try clear hb);(try clear hk);refine hK.out _ _ ⟨bc_ jd 0,bc_ jd 1,bc_ jd 2,bc_ jd 3,bc_ je 0,bc_ je 1,bc_ je 2,bc_ je 3,HS8_,HS9_,HS10_⟩ (fun hHeld=>?_);clear hK K;refine norm_ (a':=?_) ?_ ?_;rotate_left
     ·show Act.put _ (some 154) _=_
      simp only [Act.put,List.setIfInBounds_toArray,List.set_cons_zero,List.set_cons_succ,i64_w,i32_w]
      rfl
     refine pq_ 15 139 22 ?_;refine pq_ 16 155 22 ?_;refine pq_ 17 156 22 ?_;refine pq_ 18 157 22 ?_;refine pq_ 19 20 22 ?_;refine pq_ 20 21 22 ?_;refine pq_ 21 22 22 ?_;refine done_ (done_of HT_.out (by kernel_rfl)) ?_
     try go_wp2
     go_roundg k2
     case measure=>have:=HJ7.out;have:=HK2.out;omega
     case rel=>exact ⟨(false),(wrap64 (ja+1)),rt_,rt_,H',⟨by have:=HJ7.out;have:=HK2.out;omega⟩,⟨kd_to jp⟩,⟨kn_ jh⟩,⟨kd_to jb⟩,⟨kd_to jc⟩,⟨blk_to jd⟩,⟨blk_to je⟩,⟨below_to2 HB js.out jv.out⟩⟩
    subst c42;rw [if_pos rfl] at H
    by_cases c43:j1z < j2e
    ·rw [if_pos c43] at H
     have j4r:=decide_eq_true c43;clear c43;exact nof_ HR_ H
    rw [if_neg c43] at H;have j4r:=decide_eq_false c43;clear c43
    by_cases c44:j1z=j2e
    rotate_left
    ·rw [if_neg c44] at H
     have j4s:=beq_eq_false_iff_ne.mpr c44;have j4t:=bne_iff_ne.mpr c44
     by_cases c53:j1w=true
     ·subst c53
      rw [if_pos rfl] at H;have H':=ai_ H;clear H;have j1d:0≤(ja:Int):=odt_;have j1e:ja < (jg.length:Int):=odt_;obtain ⟨j2g,j1x,j1y,e746,jw,hl746_0,hi746_0⟩:=at_L1 (Kd.N_reads' jh.out).2.2 ja j1d j1e
      cases e746
      obtain ⟨ce746,hce746,hMe746,hcc746⟩:=Kd.N_get jh.out [] ja j1d (by first|exact j1e|exact of_decide_eq_true (by first|(with_reducible assumption)|assumption)|(have e_:=(Kd.N_reads' jh.out).1;omega));obtain ⟨ua746_0,uc746_0,rfl,ul746_0,ge746_0⟩:=Kd.FK_slice_open hMe746;have hv746_0:=hcc746 0 _ rfl;rw [Nat.add_zero,show ((Kd.slice 3 Ki_)).sz=1 from rfl,Nat.mul_one] at hv746_0;replace hv746_0:=Option.some.inj (hv746_0.symm.trans jw)
      injection hv746_0 with hva_ hvn_ hvc_
      rw [hva_] at ge746_0;rw [hvc_] at ul746_0;have ji:=ai_ (show Kd.V Ki_ 3 _ w.heap.size _ _ (rd_L1 jg ja) from Kd.V_mk ul746_0 ge746_0);clear hva_ hvn_ hvc_ ge746_0 ul746_0 hcc746 hce746;have jf:=ai_ hi746_0;have j1r:=ai_ hl746_0;clear hi746_0 hl746_0;replace j1d:=eq_true j1d;replace j1e:=eq_true j1e
      try go_wp2
      replace jp:=ai_ (Kd.R_drew jp.out);replace jh:=ai_ (Kd.N_drew jh.out);replace jb:=ai_ (Kd.R_drew jb.out);replace jc:=ai_ (Kd.R_drew jc.out);replace ji:=ai_ (Kd.V_drew ji.out);replace jd:=ai_ (blk_drew jd.out);replace je:=ai_ (blk_drew je.out);replace jf:=ai_ (Kd.C_drew jf.out);replace HB:=ai_ (below_drew1 HB.out)
      have j1g:0≤(0:Int):=(by omega)
      have j1h:0 < ((rd_L1 jg ja).length:Int):=odt_;obtain ⟨jm,e747,jj⟩:=Kd.ati_ jf 0 j1g j1h
      cases e747
      have qi747:(0 < (rd_L1 jg ja).length)=True:=eq_true (by omega);(try rw [show ((0:Int)).toNat=0 from rfl] at jj);(try rw [Addr.add_zero'] at jj);replace j1g:=eq_true j1g;replace j1h:=eq_true j1h
      have j1i:0≤(1:Int):=(by omega)
      have j1j:1 < ((rd_L1 jg ja).length:Int):=odt_;obtain ⟨j1p,e748,jk⟩:=Kd.ati_ jf 1 j1i j1j
      obtain rfl:jm=j1p:=(by injection e748)
      (try simp only [show (1:Int).toNat=1 from rfl,Nat.reduceMul,Nat.reduceEqDiff,Go.Addr.add,↓reduceIte] at jk);have qi748:(1 < (rd_L1 jg ja).length)=True:=eq_true (by omega);(try rw [show ((1:Int)).toNat=1 from rfl] at jk);replace j1i:=eq_true j1i;replace j1j:=eq_true j1j
      have j1k:0≤(2:Int):=(by omega)
      have j1l:2 < ((rd_L1 jg ja).length:Int):=odt_;obtain ⟨j1q,e749,jl⟩:=Kd.ati_ jf 2 j1k j1l
      obtain rfl:jm=j1q:=(by injection e749)
      (try simp only [show (2:Int).toNat=2 from rfl,Nat.reduceMul,Nat.reduceEqDiff,Go.Addr.add,↓reduceIte] at jl);have qi749:(2 < (rd_L1 jg ja).length)=True:=eq_true (by omega);(try rw [show ((2:Int)).toNat=2 from rfl] at jl);replace j1k:=eq_true j1k;replace j1l:=eq_true j1l;refine start_ (n:=22) (S:=fun w'=>w'.cell? ⟨jn,0,none⟩=some (.int .i64 jx)∧w'.cell? ⟨jn,1,none⟩=some (.int .i64 jy)∧w'.cell? ⟨jn,2,none⟩=some (.int .i64 jz)∧w'.cell? ⟨jn,3,none⟩=some (.slice Ao14 jq.length co14)∧w'.cell? ⟨jo,0,none⟩=some (.int .i64 j1a)∧w'.cell? ⟨jo,1,none⟩=some (.int .i64 j1b)∧w'.cell? ⟨jo,2,none⟩=some (.int .i64 j1c)∧w'.cell? ⟨jo,3,none⟩=some (.slice Ao17 jr.length co17)∧w'.cell? jm=some (.int .i64 (rd (rd_L1 jg ja) 0))∧w'.cell? ⟨jm.block,jm.off+1,none⟩=some (.int .i64 (rd (rd_L1 jg ja) 1))∧w'.cell? ⟨jm.block,jm.off+2,none⟩=some (.int .i64 (rd (rd_L1 jg ja) 2))) (ds:=[]) (fr_ [0,22]) (by kernel_rfl) rfl rfl ⟨bc_ jd 0,bc_ jd 1,bc_ jd 2,bc_ jd 3,bc_ je 0,bc_ je 1,bc_ je 2,bc_ je 3,jj,jk,jl⟩ (fun hHeld=>?_);refine with_tabW lw_.tab15 lw_.bits15 (fun HT_ HW_=>?_);generalize wr.drew=w54 at jp jh jb jc ji jd je jf HB jj jk jl hHeld ⊢;refine pS_ 1 141 (fr_ [0,1,1,20]) HT_ ?_;refine pS_ 2 142 (fr_ [0,1,2,19]) HT_ ?_;refine pS_ 3 143 (fr_ [0,1,3,18]) HT_ ?_;refine pS_ 6 146 (fr_ [0,1,3,2,1,15]) HT_ ?_;refine pS_ 7 147 (fr_ [0,1,3,2,2,14]) HT_ ?_;refine pS_ 9 149 (fr_ [0,1,3,2,2,1,1,12]) HT_ ?_;refine pS_ 10 150 (fr_ [0,1,3,2,2,1,2,11]) HT_ ?_;refine pS_ 11 151 (fr_ [0,1,3,2,2,1,3,10]) HT_ ?_;refine pS_ 13 153 (fr_ [0,1,3,2,2,1,3,1,1,8]) HT_ ?_;refine tk11_ 0 140 (fr_ [4,2,2,1,3,1,1,8]) HT_ HW_ hHeld ?_;refine tk11_ 4 144 (fr_ [5,1,2,1,3,1,1,8]) HT_ HW_ hHeld ?_;refine tk11_ 5 145 (fr_ [8,1,3,1,1,8]) HT_ HW_ hHeld ?_;refine tk11_ 8 148 (fr_ [12,1,1,8]) HT_ HW_ hHeld ?_;refine tk11_ 12 152 (fr_ [14,8]) HT_ HW_ hHeld ?_;refine on_ 14 154 (fr_ [15,7]) HT_ (fun K hK=>?_);refine gs_ Try.func21 #[ag_ jx jy jz Ao14 jq co14,.int .i64 j1m,.int .i64 (rd (rd_L1 jg ja) 0),ag_ j1a j1b j1c Ao17 jr co17,.int .i64 (rd (rd_L1 jg ja) 1),.int .i64 j1n,.int .i64 (rd (rd_L1 jg ja) 2),.int .i64 j1o] ?_
      with_reducible refine (impl_ChangeAt.calls k2 jx jy jz _ _ jq j1m (rd (rd_L1 jg ja) 0) j1a j1b j1c _ _ jr (rd (rd_L1 jg ja) 1) j1n (rd (rd_L1 jg ja) 2) j1o j4e j1z true _ ?side1 ?side2 ?side3 ?side4 A41.out).mono ?_
      (case side1=>exact cR_ jb)
      (case side2=>exact (Kd.R_reads' jb.out).2.1)
      (case side3=>exact cR_ jc)
      (case side4=>exact (Kd.R_reads' jc.out).2.1)
      rintro e w55 ⟨rfl,hb⟩;have HS8_:=hc_ hb hHeld.2.2.2.2.2.2.2.2.1;have HS9_:=hc_ hb hHeld.2.2.2.2.2.2.2.2.2.1;have HS10_:=hc_ hb hHeld.2.2.2.2.2.2.2.2.2.2;refine ⟨_,rfl,?_⟩;replace jp:=rb_ jp hb;replace jh:=ai_ (Kd.N_below (kn_ jh) hb);replace jb:=rb_ jb hb;replace jc:=rb_ jc hb;replace ji:=ai_ (Kd.V_below (vd_to ji) hb);replace jd:=bb_ jd hb;replace je:=bb_ je hb;replace jf:=ai_ (cbl_ jf hb);replace HB:=ai_ (below_step (below_to2 HB js.out jv.out) hb);(try clear hb);(try clear hk);refine hK.out _ _ ⟨bc_ jd 0,bc_ jd 1,bc_ jd 2,bc_ jd 3,bc_ je 0,bc_ je 1,bc_ je 2,bc_ je 3,HS8_,HS9_,HS10_⟩ (fun hHeld=>?_);clear hK K;refine norm_ (a':=?_) ?_ ?_;rotate_left
      ·show Act.put _ (some 154) _=_
       simp only [Act.put,List.setIfInBounds_toArray,List.set_cons_zero,List.set_cons_succ,i64_w,i32_w]
       rfl
      refine pq_ 15 139 22 ?_;refine pq_ 16 155 22 ?_;refine pq_ 17 156 22 ?_;refine pq_ 18 157 22 ?_;refine pq_ 19 20 22 ?_;refine pq_ 20 21 22 ?_;refine pq_ 21 22 22 ?_;refine done_ (done_of HT_.out (by kernel_rfl)) ?_
      try go_wp2
      go_roundg k2
      case measure=>have:=HJ7.out;have:=HK2.out;omega
      case rel=>exact ⟨(true),(wrap64 (ja+1)),rt_,rt_,H',⟨by have:=HJ7.out;have:=HK2.out;omega⟩,⟨kd_to jp⟩,⟨kn_ jh⟩,⟨kd_to jb⟩,⟨kd_to jc⟩,⟨blk_to jd⟩,⟨blk_to je⟩,⟨below_to2 HB js.out jv.out⟩⟩
     replace c53:=Bool.eq_false_iff.mpr c53;subst c53;rw [if_neg ft_] at H;have H':=ai_ H;clear H;have j1d:0≤(ja:Int):=odt_;have j1e:ja < (jg.length:Int):=odt_;obtain ⟨j2g,j1x,j1y,e746,jw,hl746_0,hi746_0⟩:=at_L1 (Kd.N_reads' jh.out).2.2 ja j1d j1e
     cases e746
     obtain ⟨ce746,hce746,hMe746,hcc746⟩:=Kd.N_get jh.out [] ja j1d (by first|exact j1e|exact of_decide_eq_true (by first|(with_reducible assumption)|assumption)|(have e_:=(Kd.N_reads' jh.out).1;omega));obtain ⟨ua746_0,uc746_0,rfl,ul746_0,ge746_0⟩:=Kd.FK_slice_open hMe746;have hv746_0:=hcc746 0 _ rfl;rw [Nat.add_zero,show ((Kd.slice 3 Ki_)).sz=1 from rfl,Nat.mul_one] at hv746_0;replace hv746_0:=Option.some.inj (hv746_0.symm.trans jw)
     injection hv746_0 with hva_ hvn_ hvc_
     rw [hva_] at ge746_0;rw [hvc_] at ul746_0;have ji:=ai_ (show Kd.V Ki_ 3 _ w.heap.size _ _ (rd_L1 jg ja) from Kd.V_mk ul746_0 ge746_0);clear hva_ hvn_ hvc_ ge746_0 ul746_0 hcc746 hce746;have jf:=ai_ hi746_0;have j1r:=ai_ hl746_0;clear hi746_0 hl746_0;replace j1d:=eq_true j1d;replace j1e:=eq_true j1e
     try go_wp2
     replace jp:=ai_ (Kd.R_drew jp.out);replace jh:=ai_ (Kd.N_drew jh.out);replace jb:=ai_ (Kd.R_drew jb.out);replace jc:=ai_ (Kd.R_drew jc.out);replace ji:=ai_ (Kd.V_drew ji.out);replace jd:=ai_ (blk_drew jd.out);replace je:=ai_ (blk_drew je.out);replace jf:=ai_ (Kd.C_drew jf.out);replace HB:=ai_ (below_drew1 HB.out)
     have j1g:0≤(0:Int):=(by omega)
     have j1h:0 < ((rd_L1 jg ja).length:Int):=odt_;obtain ⟨jm,e747,jj⟩:=Kd.ati_ jf 0 j1g j1h
     cases e747
     have qi747:(0 < (rd_L1 jg ja).length)=True:=eq_true (by omega);(try rw [show ((0:Int)).toNat=0 from rfl] at jj);(try rw [Addr.add_zero'] at jj);replace j1g:=eq_true j1g;replace j1h:=eq_true j1h
     have j1i:0≤(1:Int):=(by omega)
     have j1j:1 < ((rd_L1 jg ja).length:Int):=odt_;obtain ⟨j1p,e748,jk⟩:=Kd.ati_ jf 1 j1i j1j
     obtain rfl:jm=j1p:=(by injection e748)
     (try simp only [show (1:Int).toNat=1 from rfl,Nat.reduceMul,Nat.reduceEqDiff,Go.Addr.add,↓reduceIte] at jk);have qi748:(1 < (rd_L1 jg ja).length)=True:=eq_true (by omega);(try rw [show ((1:Int)).toNat=1 from rfl] at jk);replace j1i:=eq_true j1i;replace j1j:=eq_true j1j
     have j1k:0≤(2:Int):=(by omega)
     have j1l:2 < ((rd_L1 jg ja).length:Int):=odt_;obtain ⟨j1q,e749,jl⟩:=Kd.ati_ jf 2 j1k j1l
     obtain rfl:jm=j1q:=(by injection e749)
     (try simp only [show (2:Int).toNat=2 from rfl,Nat.reduceMul,Nat.reduceEqDiff,Go.Addr.add,↓reduceIte] at jl);have qi749:(2 < (rd_L1 jg ja).length)=True:=eq_true (by omega);(try rw [show ((2:Int)).toNat=2 from rfl] at jl);replace j1k:=eq_true j1k;replace j1l:=eq_true j1l;refine start_ (n:=22) (S:=fun w'=>w'.cell? ⟨jn,0,none⟩=some (.int .i64 jx)∧w'.cell? ⟨jn,1,none⟩=some (.int .i64 jy)∧w'.cell? ⟨jn,2,none⟩=some (.int .i64 jz)∧w'.cell? ⟨jn,3,none⟩=some (.slice Ao14 jq.length co14)∧w'.cell? ⟨jo,0,none⟩=some (.int .i64 j1a)∧w'.cell? ⟨jo,1,none⟩=some (.int .i64 j1b)∧w'.cell? ⟨jo,2,none⟩=some (.int .i64 j1c)∧w'.cell? ⟨jo,3,none⟩=some (.slice Ao17 jr.length co17)∧w'.cell? jm=some (.int .i64 (rd (rd_L1 jg ja) 0))∧w'.cell? ⟨jm.block,jm.off+1,none⟩=some (.int .i64 (rd (rd_L1 jg ja) 1))∧w'.cell? ⟨jm.block,jm.off+2,none⟩=some (.int .i64 (rd (rd_L1 jg ja) 2))) (ds:=[]) (fr_ [0,22]) (by kernel_rfl) rfl rfl ⟨bc_ jd 0,bc_ jd 1,bc_ jd 2,bc_ jd 3,bc_ je 0,bc_ je 1,bc_ je 2,bc_ je 3,jj,jk,jl⟩ (fun hHeld=>?_);refine with_tabW lw_.tab15 lw_.bits15 (fun HT_ HW_=>?_);generalize wr.drew=w56 at jp jh jb jc ji jd je jf HB jj jk jl hHeld ⊢;refine pS_ 1 141 (fr_ [0,1,1,20]) HT_ ?_;refine pS_ 2 142 (fr_ [0,1,2,19]) HT_ ?_;refine pS_ 3 143 (fr_ [0,1,3,18]) HT_ ?_;refine pS_ 6 146 (fr_ [0,1,3,2,1,15]) HT_ ?_;refine pS_ 7 147 (fr_ [0,1,3,2,2,14]) HT_ ?_;refine pS_ 9 149 (fr_ [0,1,3,2,2,1,1,12]) HT_ ?_;refine pS_ 10 150 (fr_ [0,1,3,2,2,1,2,11]) HT_ ?_;refine pS_ 11 151 (fr_ [0,1,3,2,2,1,3,10]) HT_ ?_;refine pS_ 13 153 (fr_ [0,1,3,2,2,1,3,1,1,8]) HT_ ?_;refine tk11_ 0 140 (fr_ [4,2,2,1,3,1,1,8]) HT_ HW_ hHeld ?_;refine tk11_ 4 144 (fr_ [5,1,2,1,3,1,1,8]) HT_ HW_ hHeld ?_;refine tk11_ 5 145 (fr_ [8,1,3,1,1,8]) HT_ HW_ hHeld ?_;refine tk11_ 8 148 (fr_ [12,1,1,8]) HT_ HW_ hHeld ?_;refine tk11_ 12 152 (fr_ [14,8]) HT_ HW_ hHeld ?_;refine on_ 14 154 (fr_ [15,7]) HT_ (fun K hK=>?_);refine gs_ Try.func21 #[ag_ jx jy jz Ao14 jq co14,.int .i64 j1m,.int .i64 (rd (rd_L1 jg ja) 0),ag_ j1a j1b j1c Ao17 jr co17,.int .i64 (rd (rd_L1 jg ja) 1),.int .i64 j1n,.int .i64 (rd (rd_L1 jg ja) 2),.int .i64 j1o] ?_
     with_reducible refine (impl_ChangeAt.calls k2 jx jy jz _ _ jq j1m (rd (rd_L1 jg ja) 0) j1a j1b j1c _ _ jr (rd (rd_L1 jg ja) 1) j1n (rd (rd_L1 jg ja) 2) j1o j4e j1z true _ ?side1 ?side2 ?side3 ?side4 A41.out).mono ?_
     (case side1=>exact cR_ jb)
     (case side2=>exact (Kd.R_reads' jb.out).2.1)
     (case side3=>exact cR_ jc)
     (case side4=>exact (Kd.R_reads' jc.out).2.1)
     rintro e w57 ⟨rfl,hb⟩;have HS8_:=hc_ hb hHeld.2.2.2.2.2.2.2.2.1;have HS9_:=hc_ hb hHeld.2.2.2.2.2.2.2.2.2.1;have HS10_:=hc_ hb hHeld.2.2.2.2.2.2.2.2.2.2;refine ⟨_,rfl,?_⟩;replace jp:=rb_ jp hb;replace jh:=ai_ (Kd.N_below (kn_ jh) hb);replace jb:=rb_ jb hb;replace jc:=rb_ jc hb;replace ji:=ai_ (Kd.V_below (vd_to ji) hb);replace jd:=bb_ jd hb;replace je:=bb_ je hb;replace jf:=ai_ (cbl_ jf hb);replace HB:=ai_ (below_step (below_to2 HB js.out jv.out) hb);(try clear hb);(try clear hk);refine hK.out _ _ ⟨bc_ jd 0,bc_ jd 1,bc_ jd 2,bc_ jd 3,bc_ je 0,bc_ je 1,bc_ je 2,bc_ je 3,HS8_,HS9_,HS10_⟩ (fun hHeld=>?_);clear hK K;refine norm_ (a':=?_) ?_ ?_;rotate_left
     ·show Act.put _ (some 154) _=_
      simp only [Act.put,List.setIfInBounds_toArray,List.set_cons_zero,List.set_cons_succ,i64_w,i32_w]
      rfl
     refine pq_ 15 139 22 ?_;refine pq_ 16 155 22 ?_;refine pq_ 17 156 22 ?_;refine pq_ 18 157 22 ?_;refine pq_ 19 20 22 ?_;refine pq_ 20 21 22 ?_;refine pq_ 21 22 22 ?_;refine done_ (done_of HT_.out (by kernel_rfl)) ?_
     try go_wp2
     go_roundg k2
     case measure=>have:=HJ7.out;have:=HK2.out;omega
     case rel=>exact ⟨((j1z == j2e)),(wrap64 (ja+1)),rt_,rt_,H',⟨by have:=HJ7.out;have:=HK2.out;omega⟩,⟨kd_to jp⟩,⟨kn_ jh⟩,⟨kd_to jb⟩,⟨kd_to jc⟩,⟨blk_to jd⟩,⟨blk_to je⟩,⟨below_to2 HB js.out jv.out⟩⟩
    rw [if_pos c44] at H;have j4s:=beq_iff_eq.mpr c44;have j4t:=bne_eq_false_iff_eq.mpr c44;clear c44
    by_cases c45:j1w=true
    ·subst c45
     rw [if_pos rfl] at H;have H':=ai_ H;clear H;have j1d:0≤(ja:Int):=odt_;have j1e:ja < (jg.length:Int):=odt_;obtain ⟨j2g,j1x,j1y,e746,jw,hl746_0,hi746_0⟩:=at_L1 (Kd.N_reads' jh.out).2.2 ja j1d j1e
     cases e746
     obtain ⟨ce746,hce746,hMe746,hcc746⟩:=Kd.N_get jh.out [] ja j1d (by first|exact j1e|exact of_decide_eq_true (by first|(with_reducible assumption)|assumption)|(have e_:=(Kd.N_reads' jh.out).1;omega));obtain ⟨ua746_0,uc746_0,rfl,ul746_0,ge746_0⟩:=Kd.FK_slice_open hMe746;have hv746_0:=hcc746 0 _ rfl;rw [Nat.add_zero,show ((Kd.slice 3 Ki_)).sz=1 from rfl,Nat.mul_one] at hv746_0;replace hv746_0:=Option.some.inj (hv746_0.symm.trans jw)
     injection hv746_0 with hva_ hvn_ hvc_
     rw [hva_] at ge746_0;rw [hvc_] at ul746_0;have ji:=ai_ (show Kd.V Ki_ 3 _ w.heap.size _ _ (rd_L1 jg ja) from Kd.V_mk ul746_0 ge746_0);clear hva_ hvn_ hvc_ ge746_0 ul746_0 hcc746 hce746;have jf:=ai_ hi746_0;have j1r:=ai_ hl746_0;clear hi746_0 hl746_0;replace j1d:=eq_true j1d;replace j1e:=eq_true j1e
     try go_wp2
     replace jp:=ai_ (Kd.R_drew jp.out);replace jh:=ai_ (Kd.N_drew jh.out);replace jb:=ai_ (Kd.R_drew jb.out);replace jc:=ai_ (Kd.R_drew jc.out);replace ji:=ai_ (Kd.V_drew ji.out);replace jd:=ai_ (blk_drew jd.out);replace je:=ai_ (blk_drew je.out);replace jf:=ai_ (Kd.C_drew jf.out);replace HB:=ai_ (below_drew1 HB.out)
     have j1g:0≤(0:Int):=(by omega)
     have j1h:0 < ((rd_L1 jg ja).length:Int):=odt_;obtain ⟨jm,e747,jj⟩:=Kd.ati_ jf 0 j1g j1h
     cases e747
     have qi747:(0 < (rd_L1 jg ja).length)=True:=eq_true (by omega);(try rw [show ((0:Int)).toNat=0 from rfl] at jj);(try rw [Addr.add_zero'] at jj);replace j1g:=eq_true j1g;replace j1h:=eq_true j1h
     have j1i:0≤(1:Int):=(by omega)
     have j1j:1 < ((rd_L1 jg ja).length:Int):=odt_;obtain ⟨j1p,e748,jk⟩:=Kd.ati_ jf 1 j1i j1j
     obtain rfl:jm=j1p:=(by injection e748)
     (try simp only [show (1:Int).toNat=1 from rfl,Nat.reduceMul,Nat.reduceEqDiff,Go.Addr.add,↓reduceIte] at jk);have qi748:(1 < (rd_L1 jg ja).length)=True:=eq_true (by omega);(try rw [show ((1:Int)).toNat=1 from rfl] at jk);replace j1i:=eq_true j1i;replace j1j:=eq_true j1j
     have j1k:0≤(2:Int):=(by omega)
     have j1l:2 < ((rd_L1 jg ja).length:Int):=odt_;obtain ⟨j1q,e749,jl⟩:=Kd.ati_ jf 2 j1k j1l
     obtain rfl:jm=j1q:=(by injection e749)
     (try simp only [show (2:Int).toNat=2 from rfl,Nat.reduceMul,Nat.reduceEqDiff,Go.Addr.add,↓reduceIte] at jl);have qi749:(2 < (rd_L1 jg ja).length)=True:=eq_true (by omega);(try rw [show ((2:Int)).toNat=2 from rfl] at jl);replace j1k:=eq_true j1k;replace j1l:=eq_true j1l;refine start_ (n:=22) (S:=fun w'=>w'.cell? ⟨jn,0,none⟩=some (.int .i64 jx)∧w'.cell? ⟨jn,1,none⟩=some (.int .i64 jy)∧w'.cell? ⟨jn,2,none⟩=some (.int .i64 jz)∧w'.cell? ⟨jn,3,none⟩=some (.slice Ao14 jq.length co14)∧w'.cell? ⟨jo,0,none⟩=some (.int .i64 j1a)∧w'.cell? ⟨jo,1,none⟩=some (.int .i64 j1b)∧w'.cell? ⟨jo,2,none⟩=some (.int .i64 j1c)∧w'.cell? ⟨jo,3,none⟩=some (.slice Ao17 jr.length co17)∧w'.cell? jm=some (.int .i64 (rd (rd_L1 jg ja) 0))∧w'.cell? ⟨jm.block,jm.off+1,none⟩=some (.int .i64 (rd (rd_L1 jg ja) 1))∧w'.cell? ⟨jm.block,jm.off+2,none⟩=some (.int .i64 (rd (rd_L1 jg ja) 2))) (ds:=[]) (fr_ [0,22]) (by kernel_rfl) rfl rfl ⟨bc_ jd 0,bc_ jd 1,bc_ jd 2,bc_ jd 3,bc_ je 0,bc_ je 1,bc_ je 2,bc_ je 3,jj,jk,jl⟩ (fun hHeld=>?_);refine with_tabW lw_.tab15 lw_.bits15 (fun HT_ HW_=>?_);generalize wr.drew=w46 at jp jh jb jc ji jd je jf HB jj jk jl hHeld ⊢;refine pS_ 1 141 (fr_ [0,1,1,20]) HT_ ?_;refine pS_ 2 142 (fr_ [0,1,2,19]) HT_ ?_;refine pS_ 3 143 (fr_ [0,1,3,18]) HT_ ?_;refine pS_ 6 146 (fr_ [0,1,3,2,1,15]) HT_ ?_;refine pS_ 7 147 (fr_ [0,1,3,2,2,14]) HT_ ?_;refine pS_ 9 149 (fr_ [0,1,3,2,2,1,1,12]) HT_ ?_;refine pS_ 10 150 (fr_ [0,1,3,2,2,1,2,11]) HT_ ?_;refine pS_ 11 151 (fr_ [0,1,3,2,2,1,3,10]) HT_ ?_;refine pS_ 13 153 (fr_ [0,1,3,2,2,1,3,1,1,8]) HT_ ?_;refine tk11_ 0 140 (fr_ [4,2,2,1,3,1,1,8]) HT_ HW_ hHeld ?_;refine tk11_ 4 144 (fr_ [5,1,2,1,3,1,1,8]) HT_ HW_ hHeld ?_;refine tk11_ 5 145 (fr_ [8,1,3,1,1,8]) HT_ HW_ hHeld ?_;refine tk11_ 8 148 (fr_ [12,1,1,8]) HT_ HW_ hHeld ?_;refine tk11_ 12 152 (fr_ [14,8]) HT_ HW_ hHeld ?_;refine on_ 14 154 (fr_ [15,7]) HT_ (fun K hK=>?_);refine gs_ Try.func21 #[ag_ jx jy jz Ao14 jq co14,.int .i64 j1m,.int .i64 (rd (rd_L1 jg ja) 0),ag_ j1a j1b j1c Ao17 jr co17,.int .i64 (rd (rd_L1 jg ja) 1),.int .i64 j1n,.int .i64 (rd (rd_L1 jg ja) 2),.int .i64 j1o] ?_
     with_reducible refine (impl_ChangeAt.calls k2 jx jy jz _ _ jq j1m (rd (rd_L1 jg ja) 0) j1a j1b j1c _ _ jr (rd (rd_L1 jg ja) 1) j1n (rd (rd_L1 jg ja) 2) j1o j4e j1z true _ ?side1 ?side2 ?side3 ?side4 A41.out).mono ?_
     (case side1=>exact cR_ jb)
     (case side2=>exact (Kd.R_reads' jb.out).2.1)
     (case side3=>exact cR_ jc)
     (case side4=>exact (Kd.R_reads' jc.out).2.1)
     rintro e w47 ⟨rfl,hb⟩;have HS8_:=hc_ hb hHeld.2.2.2.2.2.2.2.2.1;have HS9_:=hc_ hb hHeld.2.2.2.2.2.2.2.2.2.1;have HS10_:=hc_ hb hHeld.2.2.2.2.2.2.2.2.2.2;refine ⟨_,rfl,?_⟩;replace jp:=rb_ jp hb;replace jh:=ai_ (Kd.N_below (kn_ jh) hb);replace jb:=rb_ jb hb;replace jc:=rb_ jc hb;replace ji:=ai_ (Kd.V_below (vd_to ji) hb);replace jd:=bb_ jd hb;replace je:=bb_ je hb;replace jf:=ai_ (cbl_ jf hb);replace HB:=ai_ (below_step (below_to2 HB js.out jv.out) hb);(try clear hb);(try clear hk);refine hK.out _ _ ⟨bc_ jd 0,bc_ jd 1,bc_ jd 2,bc_ jd 3,bc_ je 0,bc_ je 1,bc_ je 2,bc_ je 3,HS8_,HS9_,HS10_⟩ (fun hHeld=>?_);clear hK K;refine norm_ (a':=?_) ?_ ?_;rotate_left
     ·show Act.put _ (some 154) _=_
      simp only [Act.put,List.setIfInBounds_toArray,List.set_cons_zero,List.set_cons_succ,i64_w,i32_w]
      rfl
     refine pq_ 15 139 22 ?_;refine pq_ 16 155 22 ?_;refine pq_ 17 156 22 ?_;refine pq_ 18 157 22 ?_;refine pq_ 19 20 22 ?_;refine pq_ 20 21 22 ?_;refine pq_ 21 22 22 ?_;refine done_ (done_of HT_.out (by kernel_rfl)) ?_
     try go_wp2
     go_roundg k2
     case measure=>have:=HJ7.out;have:=HK2.out;omega
     case rel=>exact ⟨(true),(wrap64 (ja+1)),rt_,rt_,H',⟨by have:=HJ7.out;have:=HK2.out;omega⟩,⟨kd_to jp⟩,⟨kn_ jh⟩,⟨kd_to jb⟩,⟨kd_to jc⟩,⟨blk_to jd⟩,⟨blk_to je⟩,⟨below_to2 HB js.out jv.out⟩⟩
    replace c45:=Bool.eq_false_iff.mpr c45;subst c45;rw [if_neg ft_] at H;obtain ⟨j5a,A48,H⟩:=bs_ H;(try dsimp only at H)
    by_cases c49:j5a=true
    rotate_left
    ·replace c49:=Bool.eq_false_iff.mpr c49
     subst c49;rw [if_neg ft_] at H;exact nof_ HR_ H
    subst c49;rw [if_pos rfl] at H;have H':=ai_ H;clear H;have j1d:0≤(ja:Int):=odt_;have j1e:ja < (jg.length:Int):=odt_;obtain ⟨j2g,j1x,j1y,e746,jw,hl746_0,hi746_0⟩:=at_L1 (Kd.N_reads' jh.out).2.2 ja j1d j1e
    cases e746
    obtain ⟨ce746,hce746,hMe746,hcc746⟩:=Kd.N_get jh.out [] ja j1d (by first|exact j1e|exact of_decide_eq_true (by first|(with_reducible assumption)|assumption)|(have e_:=(Kd.N_reads' jh.out).1;omega));obtain ⟨ua746_0,uc746_0,rfl,ul746_0,ge746_0⟩:=Kd.FK_slice_open hMe746;have hv746_0:=hcc746 0 _ rfl;rw [Nat.add_zero,show ((Kd.slice 3 Ki_)).sz=1 from rfl,Nat.mul_one] at hv746_0;replace hv746_0:=Option.some.inj (hv746_0.symm.trans jw)
    injection hv746_0 with hva_ hvn_ hvc_
    rw [hva_] at ge746_0;rw [hvc_] at ul746_0;have ji:=ai_ (show Kd.V Ki_ 3 _ w.heap.size _ _ (rd_L1 jg ja) from Kd.V_mk ul746_0 ge746_0);clear hva_ hvn_ hvc_ ge746_0 ul746_0 hcc746 hce746;have jf:=ai_ hi746_0;have j1r:=ai_ hl746_0;clear hi746_0 hl746_0;replace j1d:=eq_true j1d;replace j1e:=eq_true j1e
    try go_wp2
    replace jp:=ai_ (Kd.R_drew jp.out);replace jh:=ai_ (Kd.N_drew jh.out);replace jb:=ai_ (Kd.R_drew jb.out);replace jc:=ai_ (Kd.R_drew jc.out);replace ji:=ai_ (Kd.V_drew ji.out);replace jd:=ai_ (blk_drew jd.out);replace je:=ai_ (blk_drew je.out);replace jf:=ai_ (Kd.C_drew jf.out);replace HB:=ai_ (below_drew1 HB.out)
    have j1g:0≤(0:Int):=(by omega)
    have j1h:0 < ((rd_L1 jg ja).length:Int):=odt_;obtain ⟨jm,e747,jj⟩:=Kd.ati_ jf 0 j1g j1h
    cases e747
    have qi747:(0 < (rd_L1 jg ja).length)=True:=eq_true (by omega);(try rw [show ((0:Int)).toNat=0 from rfl] at jj);(try rw [Addr.add_zero'] at jj);replace j1g:=eq_true j1g;replace j1h:=eq_true j1h
    have j1i:0≤(1:Int):=(by omega)
    have j1j:1 < ((rd_L1 jg ja).length:Int):=odt_;obtain ⟨j1p,e748,jk⟩:=Kd.ati_ jf 1 j1i j1j
    obtain rfl:jm=j1p:=(by injection e748)
    (try simp only [show (1:Int).toNat=1 from rfl,Nat.reduceMul,Nat.reduceEqDiff,Go.Addr.add,↓reduceIte] at jk);have qi748:(1 < (rd_L1 jg ja).length)=True:=eq_true (by omega);(try rw [show ((1:Int)).toNat=1 from rfl] at jk);replace j1i:=eq_true j1i;replace j1j:=eq_true j1j
    have j1k:0≤(2:Int):=(by omega)
    have j1l:2 < ((rd_L1 jg ja).length:Int):=odt_;obtain ⟨j1q,e749,jl⟩:=Kd.ati_ jf 2 j1k j1l
    obtain rfl:jm=j1q:=(by injection e749)
    (try simp only [show (2:Int).toNat=2 from rfl,Nat.reduceMul,Nat.reduceEqDiff,Go.Addr.add,↓reduceIte] at jl);have qi749:(2 < (rd_L1 jg ja).length)=True:=eq_true (by omega);(try rw [show ((2:Int)).toNat=2 from rfl] at jl);replace j1k:=eq_true j1k;replace j1l:=eq_true j1l;refine start_ (n:=22) (S:=fun w'=>w'.cell? ⟨jn,0,none⟩=some (.int .i64 jx)∧w'.cell? ⟨jn,1,none⟩=some (.int .i64 jy)∧w'.cell? ⟨jn,2,none⟩=some (.int .i64 jz)∧w'.cell? ⟨jn,3,none⟩=some (.slice Ao14 jq.length co14)∧w'.cell? ⟨jo,0,none⟩=some (.int .i64 j1a)∧w'.cell? ⟨jo,1,none⟩=some (.int .i64 j1b)∧w'.cell? ⟨jo,2,none⟩=some (.int .i64 j1c)∧w'.cell? ⟨jo,3,none⟩=some (.slice Ao17 jr.length co17)∧w'.cell? jm=some (.int .i64 (rd (rd_L1 jg ja) 0))∧w'.cell? ⟨jm.block,jm.off+1,none⟩=some (.int .i64 (rd (rd_L1 jg ja) 1))∧w'.cell? ⟨jm.block,jm.off+2,none⟩=some (.int .i64 (rd (rd_L1 jg ja) 2))) (ds:=[]) (fr_ [0,22]) (by kernel_rfl) rfl rfl ⟨bc_ jd 0,bc_ jd 1,bc_ jd 2,bc_ jd 3,bc_ je 0,bc_ je 1,bc_ je 2,bc_ je 3,jj,jk,jl⟩ (fun hHeld=>?_);refine with_tabW lw_.tab15 lw_.bits15 (fun HT_ HW_=>?_);generalize wr.drew=w50 at jp jh jb jc ji jd je jf HB jj jk jl hHeld ⊢;refine pS_ 1 141 (fr_ [0,1,1,20]) HT_ ?_;refine pS_ 2 142 (fr_ [0,1,2,19]) HT_ ?_;refine pS_ 3 143 (fr_ [0,1,3,18]) HT_ ?_;refine pS_ 6 146 (fr_ [0,1,3,2,1,15]) HT_ ?_;refine pS_ 7 147 (fr_ [0,1,3,2,2,14]) HT_ ?_;refine pS_ 9 149 (fr_ [0,1,3,2,2,1,1,12]) HT_ ?_;refine pS_ 10 150 (fr_ [0,1,3,2,2,1,2,11]) HT_ ?_;refine pS_ 11 151 (fr_ [0,1,3,2,2,1,3,10]) HT_ ?_;refine pS_ 13 153 (fr_ [0,1,3,2,2,1,3,1,1,8]) HT_ ?_;refine tk11_ 0 140 (fr_ [4,2,2,1,3,1,1,8]) HT_ HW_ hHeld ?_;refine tk11_ 4 144 (fr_ [5,1,2,1,3,1,1,8]) HT_ HW_ hHeld ?_;refine tk11_ 5 145 (fr_ [8,1,3,1,1,8]) HT_ HW_ hHeld ?_;refine tk11_ 8 148 (fr_ [12,1,1,8]) HT_ HW_ hHeld ?_;refine tk11_ 12 152 (fr_ [14,8]) HT_ HW_ hHeld ?_;refine on_ 14 154 (fr_ [15,7]) HT_ (fun K hK=>?_);refine gs_ Try.func21 #[ag_ jx jy jz Ao14 jq co14,.int .i64 j1m,.int .i64 (rd (rd_L1 jg ja) 0),ag_ j1a j1b j1c Ao17 jr co17,.int .i64 (rd (rd_L1 jg ja) 1),.int .i64 j1n,.int .i64 (rd (rd_L1 jg ja) 2),.int .i64 j1o] ?_
    with_reducible refine (impl_ChangeAt.calls k2 jx jy jz _ _ jq j1m (rd (rd_L1 jg ja) 0) j1a j1b j1c _ _ jr (rd (rd_L1 jg ja) 1) j1n (rd (rd_L1 jg ja) 2) j1o j4e j1z true _ ?side1 ?side2 ?side3 ?side4 A41.out).mono ?_
    (case side1=>exact cR_ jb)
    (case side2=>exact (Kd.R_reads' jb.out).2.1)
    (case side3=>exact cR_ jc)
    (case side4=>exact (Kd.R_reads' jc.out).2.1)
    rintro e w51 ⟨rfl,hb⟩;have HS8_:=hc_ hb hHeld.2.2.2.2.2.2.2.2.1;have HS9_:=hc_ hb hHeld.2.2.2.2.2.2.2.2.2.1;have HS10_:=hc_ hb hHeld.2.2.2.2.2.2.2.2.2.2;refine ⟨_,rfl,?_⟩;replace jp:=rb_ jp hb;replace jh:=ai_ (Kd.N_below (kn_ jh) hb);replace jb:=rb_ jb hb;replace jc:=rb_ jc hb;replace ji:=ai_ (Kd.V_below (vd_to ji) hb);replace jd:=bb_ jd hb;replace je:=bb_ je hb;replace jf:=ai_ (cbl_ jf hb);replace HB:=ai_ (below_step (below_to2 HB js.out jv.out) hb);(try clear hb);(try clear hk);refine hK.out _ _ ⟨bc_ jd 0,bc_ jd 1,bc_ jd 2,bc_ jd 3,bc_ je 0,bc_ je 1,bc_ je 2,bc_ je 3,HS8_,HS9_,HS10_⟩ (fun hHeld=>?_);clear hK K;refine norm_ (a':=?_) ?_ ?_;rotate_left
    ·show Act.put _ (some 154) _=_
     simp only [Act.put,List.setIfInBounds_toArray,List.set_cons_zero,List.set_cons_succ,i64_w,i32_w]
     rfl
    refine pq_ 15 139 22 ?_;refine pq_ 16 155 22 ?_;refine pq_ 17 156 22 ?_;refine pq_ 18 157 22 ?_;refine pq_ 19 20 22 ?_;refine pq_ 20 21 22 ?_;refine pq_ 21 22 22 ?_;refine done_ (done_of HT_.out (by kernel_rfl)) ?_;obtain ⟨Ao52,co52,eo52⟩:=Kd.R_slice jp.out;subst eo52
    try go_wp2_with (first|(go_at_call 20;(with_reducible refine (laws_qSame.calls k2 _ _ (rd_L1 jg ja) _ _ j2h true _ ?side1 j1r.out ?side3 ?side4 A48.out).mono ?_);(case side1=>repeat (first|exact (by repeat (first|(with_reducible exact jf.out)|(with_reducible refine Kd.C_alloc ?_ _)|(with_reducible refine Kd.C_drewN ?_ _)|(with_reducible refine Kd.C_drew ?_)|exact jf.out))|(with_reducible refine Kd.C_alloc ?_ _)|(with_reducible refine Kd.C_drewN ?_ _)|(with_reducible refine Kd.C_drew ?_)));(case side3=>exact cR_ jp);(case side4=>exact (Kd.R_reads' jp.out).2.1);rintro e w' ⟨rfl,⟨nd,rfl⟩⟩))
    go_roundg k2
    case measure=>have:=HJ7.out;have:=HK2.out;omega
    case rel=>exact ⟨((j1z == j2e)),(wrap64 (ja+1)),rt_,rt_,H',⟨by have:=HJ7.out;have:=HK2.out;omega⟩,⟨kd_to jp⟩,⟨kn_ jh⟩,⟨kd_to jb⟩,⟨kd_to jc⟩,⟨blk_to jd⟩,⟨blk_to je⟩,⟨below_to2 HB js.out jv.out⟩⟩
  clear HC32;(try clear c4);(try clear c33);(try clear c34);(try clear j2b);(try clear c35);(try clear c36);(try clear c37);(try clear j4j);(try clear j4k);(try clear c38);(try clear c39);(try clear c40);(try clear c58);(try clear c63);(try clear jw);(try clear jj);(try clear jk);(try clear jl);(try clear j1d);(try clear j1g);(try clear j1i);(try clear j1k);(try clear j1e);(try clear j1h);(try clear j1j);(try clear j1l);obtain ⟨kq,HA,HJ31,HB⟩:=hcut
  go_step
  exact lw_.seg1 k A1 c1 l1 r w HR_ hu30 HR1 HC1 nd jn jo j4p j4q kj7 HJ7 wc u4 kq HA HJ31 HB
end Go.Proofs.Ythdnodmidbcgpaa.QE
