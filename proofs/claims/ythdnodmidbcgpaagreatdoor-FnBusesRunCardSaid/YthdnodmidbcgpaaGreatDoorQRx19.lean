import Derived.Test.YthdnodmidbcgpaaGreatDoorQRx19s1
namespace Go.Proofs.YthdnodmidbcgpaaGreatDoor.QR
open Go.Proofs.YthdnodmidbcgpaaGreatDoor.X Go.RowKit Go.Proofs.YthdnodmidbcgpaaGreatDoorW.PrintWords Go.Proofs.YthdnodmidbcgpaaGreatDoorW.PrintLast Go.Proofs.YthdnodmidbcgpaaGreatDoorW.PrintMore
attribute [local go_sem] max2_int min2_int max_two min_two max_three min_three max_four min_four
set_option linter.unusedVariables false
set_option linter.unusedSimpArgs false
set_option maxHeartbeats 8000000 in
set_option maxRecDepth 100000 in
theorem lw_.calls (k:Nat) (A0:Option Addr) (c0:Nat) (l0:List Int) (A1:Option Addr) (c1:Nat) (l1:List Int) (r:Bool) (w:World) (hr0:Kd.C (Kd.int .u8) w A0 l0.length l0) (hc0:l0.length≤c0) (hr1:Kd.C (Kd.int .u8) w A1 l1.length l1) (hc1:l1.length≤c1) (h:lw_.f k l0 l1=some r) (hR_:r=true) (hT_:Go.Proofs.YthdnodmidbcgpaaGreatDoor.XText.T2 w) :
  Calls Tryz.prog 3 #[.slice A0 l0.length c0,.slice A1 l1.length c1] w fun e w'=>e=.returned (.bool r)∧Below w.heap.size w w':=by
 have HTab_:=ai_ hT_
 clear hT_
 have HR_:=ai_ hR_
 clear hR_
 have hu26:=Tryz.underlying26
 have HR0:=ai_ hr0
 have HC0:=ai_ hc0
 clear hr0 hc0
 have HR1:=ai_ hr1
 have HC1:=ai_ hc1
 clear hr1 hc1
 have HB:=ai_ (Below.refl w.heap.size w)
 have H:=h
 unfold lw_.f at H
 clear h
 obtain ⟨j5b,A3,H⟩:=bs_ H
 (try dsimp only at H)
 by_cases c4:j5b=true
 ·subst c4
  rw [if_pos rfl] at H
  obtain rfl:=Option.some.inj H
  go_enter Tryz.func3,Tryz.ntmps3
  go_wp2_with (first|((with_reducible refine gate_callee (f:=4) rfl ?_);refine gl_ (some 101) Tryz.func4 #[.slice A0 l0.length c0,.slice A1 l1.length c1] ?_;(with_reducible refine (laws_big.calls _ _ l0 _ _ l1 true _ ?side1 HC0.out ?side3 HC1.out A3.out).mono ?_);(case side1=>exact c_to HR0);(case side3=>exact c_to HR1);rintro e w' ⟨rfl,⟨nd,rfl⟩⟩;refine ⟨_,rfl,?_⟩))
  go_ret
  exact ⟨rtE_,below_to HB⟩
 replace c4:=Bool.eq_false_iff.mpr c4
 subst c4
 rw [if_neg ft_] at H
 obtain ⟨⟨jf,jg,jh,je,jq,jn⟩,A5,H⟩:=bs_ H
 (try dsimp only at H)
 obtain ⟨⟨j1c,j1d,jl⟩,A6,H⟩:=bs_ H
 (try dsimp only at H)
 obtain ⟨⟨j1p,j1q,jv⟩,A7,H⟩:=bs_ H
 (try dsimp only at H)
 obtain ⟨⟨j1e,jm⟩,A8,H⟩:=bs_ H
 (try dsimp only at H)
 obtain ⟨⟨j1r,jw⟩,A9,H⟩:=bs_ H
 (try dsimp only at H)
 obtain ⟨⟨ju,jo⟩,A10,H⟩:=bs_ H
 (try dsimp only at H)
 obtain ⟨⟨j1a,jx⟩,A11,H⟩:=bs_ H
 (try dsimp only at H)
 obtain ⟨⟨j1f,jk⟩,A12,H⟩:=bs_ H
 (try dsimp only at H)
 obtain ⟨⟨j1s,jy⟩,A13,H⟩:=bs_ H
 (try dsimp only at H)
 have HC14:=ai_ H
 clear H
 go_enter Tryz.func3,Tryz.ntmps3
 go_upto_region 12 with (first|((with_reducible refine gate_callee (f:=4) rfl ?_);refine gl_ (some 101) Tryz.func4 #[.slice A0 l0.length c0,.slice A1 l1.length c1] ?_;(with_reducible refine (laws_big.calls _ _ l0 _ _ l1 false _ ?side1 HC0.out ?side3 HC1.out A3.out).mono ?_);(case side1=>exact c_to HR0);(case side3=>exact c_to HR1);rintro e w' ⟨rfl,⟨nd,rfl⟩⟩;refine ⟨_,rfl,?_⟩)|((with_reducible refine gate_callee (f:=5) rfl ?_);refine gl_ (some 104) Tryz.func5 #[.slice A0 l0.length c0] ?_;(with_reducible refine (spec_DrawNextBus.calls k _ _ l0 jf jg jh je jq jn _ ?side1 HC0.out A5.out).mono ?_);(case side1=>exact c_to HR0);rintro e w15 ⟨j5s,rfl,ho0,hb⟩;refine ⟨_,rfl,?_⟩;have jb:=ai_ (Kd.R_lower ho0 (below_size (below_to HB)));replace HB:=ai_ (below_step (below_to HB) hb);(try clear hb);(try clear ho0))|((with_reducible refine gate_dst (N:=5) rfl ?_);(try (refine gate_guard (by rfl) ?_;dsimp only));refine bxe_ #[.int .i64 0,.int .i64 0,.int .i64 0,.slice none 0 0] 26 ?_;intro jj hg w16 hbox hb;replace jb:=rb_ jb hb;have ja:=ai_ (hbox);have j1t:=ai_ (gb_ hg (below_size (below_to HB)));have ji:=ai_ (gb_ hg (below_size (below_to HB)));replace HB:=ai_ (below_step (below_to HB) hb);clear hb hbox hg;obtain ⟨j2p,j2q,j2r,j2s,j2t,j2u,j2v,j2w⟩:=blk4_ ja;obtain ⟨Ao18,co18,eo18⟩:=Kd.R_slice jb.out;subst eo18)|((with_reducible refine gate_callee (f:=6) rfl ?_);refine gl_ (some 112) Tryz.func6 #[.agg #[.int .i64 jf,.int .i64 jg,.int .i64 jh,.slice Ao18 je.length co18],.int .i64 jq,.int .i64 jn] ?_;(with_reducible refine (impl_NextBus.calls k jf jg jh _ _ je jq jn j1c j1d jl _ ?side1 ?side2 A6.out).mono ?_);(case side1=>refine (Kd.R_reads' (e:=3) (base:=w.heap.size) (ok:=fun k_=>True) (n:=je.length) (c:=co18) ?_).2.2;exact (rtf_ jb ja));(case side2=>exact (Kd.R_reads' jb.out).2.1);rintro e w19 ⟨rfl,hb⟩;refine ⟨_,rfl,?_⟩;replace jb:=ai_ (Kd.R_below (rtf_ jb ja) hb);replace ja:=ai_ (blk_below (g:=jj) (o:=.cells #[.int .i64 jf,.int .i64 jg,.int .i64 jh,.slice Ao18 je.length co18] 26 (0,0)) (bput4 ja) hb);replace HB:=ai_ (below_step (below_to1 HB ji.out) hb);(try clear hb);obtain ⟨j2x,j2y,j2z,j3a,j3b,j3c,j3d,j3e⟩:=blk4_ ja)|((with_reducible refine gate_callee (f:=7) rfl ?_);refine gl_ (some 120) Tryz.func7 #[.agg #[.int .i64 jf,.int .i64 jg,.int .i64 jh,.slice Ao18 je.length co18],.int .i64 jq,.int .i64 jn] ?_;(with_reducible refine (spec_NextBus.calls k jf jg jh _ _ je jq jn j1p j1q jv _ ?side1 ?side2 A7.out).mono ?_);(case side1=>exact cR_ jb);(case side2=>exact (Kd.R_reads' jb.out).2.1);rintro e w21 ⟨rfl,hb⟩;refine ⟨_,rfl,?_⟩;replace jb:=rb_ jb hb;replace ja:=bb_ ja hb;replace HB:=ai_ (below_step (below_to1 HB ji.out) hb);(try clear hb);obtain ⟨j3f,j3g,j3h,j3i,j3j,j3k,j3l,j3m⟩:=blk4_ ja)|((with_reducible refine gate_callee (f:=8) rfl ?_);refine gl_ (some 128) Tryz.func8 #[.agg #[.int .i64 jf,.int .i64 jg,.int .i64 jh,.slice Ao18 je.length co18],.int .i64 jq,.int .i64 jn] ?_;(with_reducible refine (impl_WaitFor.calls k jf jg jh _ _ je jq jn j1e jm _ ?side1 ?side2 A8.out).mono ?_);(case side1=>exact cR_ jb);(case side2=>exact (Kd.R_reads' jb.out).2.1);rintro e w23 ⟨rfl,hb⟩;refine ⟨_,rfl,?_⟩;replace jb:=rb_ jb hb;replace ja:=bb_ ja hb;replace HB:=ai_ (below_step (below_to1 HB ji.out) hb);(try clear hb);obtain ⟨j3n,j3o,j3p,j3q,j3r,j3s,j3t,j3u⟩:=blk4_ ja)|((with_reducible refine gate_callee (f:=9) rfl ?_);refine gl_ (some 135) Tryz.func9 #[.agg #[.int .i64 jf,.int .i64 jg,.int .i64 jh,.slice Ao18 je.length co18],.int .i64 jq,.int .i64 jn] ?_;(with_reducible refine (spec_WaitFor.calls k jf jg jh _ _ je jq jn j1r jw _ ?side1 ?side2 A9.out).mono ?_);(case side1=>exact cR_ jb);(case side2=>exact (Kd.R_reads' jb.out).2.1);rintro e w25 ⟨rfl,hb⟩;refine ⟨_,rfl,?_⟩;replace jb:=rb_ jb hb;replace ja:=bb_ ja hb;replace HB:=ai_ (below_step (below_to1 HB ji.out) hb);(try clear hb);obtain ⟨j3v,j3w,j3x,j3y,j3z,j4a,j4b,j4c⟩:=blk4_ ja)|((with_reducible refine gate_callee (f:=10) rfl ?_);refine gl_ (some 141) Tryz.func10 #[.agg #[.int .i64 jf,.int .i64 jg,.int .i64 jh,.slice Ao18 je.length co18],.int .i64 jn] ?_;(with_reducible refine (impl_BusesOnWay.calls k jf jg jh _ _ je jn ju jo _ ?side1 ?side2 A10.out).mono ?_);(case side1=>exact cR_ jb);(case side2=>exact (Kd.R_reads' jb.out).2.1);rintro e w27 ⟨j1o,rfl,ho0,hb⟩;refine ⟨_,rfl,?_⟩;have jc:=ai_ (Kd.R_lower (Kd.R_new' ho0 (Kd.R_lt (kd_to jb))) (below_size (below_to1 HB ji.out)));replace jb:=ai_ (Kd.R_elder' (kd_to jb) (Kd.R_base ho0) hb);replace ja:=bb_ ja hb;replace HB:=ai_ (below_step (below_to1 HB ji.out) hb);(try clear hb);(try clear ho0);obtain ⟨j4d,j4e,j4f,j4g,j4h,j4i,j4j,j4k⟩:=blk4_ ja)|((with_reducible refine gate_callee (f:=11) rfl ?_);refine gl_ (some 147) Tryz.func11 #[.agg #[.int .i64 jf,.int .i64 jg,.int .i64 jh,.slice Ao18 je.length co18],.int .i64 jn] ?_;(with_reducible refine (spec_BusesOnWay.calls k jf jg jh _ _ je jn j1a jx _ ?side1 ?side2 A11.out).mono ?_);(case side1=>exact cR_ jb);(case side2=>exact (Kd.R_reads' jb.out).2.1);rintro e w29 ⟨j5t,rfl,ho0,hb⟩;refine ⟨_,rfl,?_⟩;have jd:=ai_ (Kd.R_lower (Kd.R_new' (Kd.R_new' ho0 (Kd.R_lt (kd_to jb))) (Kd.R_lt (kd_to jc))) (below_size (below_to1 HB ji.out)));replace jb:=ai_ (Kd.R_elder' (kd_to jb) (Kd.R_base ho0) hb);replace jc:=ai_ (Kd.R_elder' (kd_to jc) (Kd.R_base ho0) hb);replace ja:=bb_ ja hb;replace HB:=ai_ (below_step (below_to1 HB ji.out) hb);(try clear hb);(try clear ho0);obtain ⟨j4l,j4m,j4n,j4o,j4p,j4q,j4r,j4s⟩:=blk4_ ja)|((with_reducible refine gate_callee (f:=12) rfl ?_);refine gl_ (some 152) Tryz.func12 #[.agg #[.int .i64 jf,.int .i64 jg,.int .i64 jh,.slice Ao18 je.length co18]] ?_;(with_reducible refine (impl_LineText.calls k jf jg jh _ _ je j1f jk _ ?side1 ?side2 A12.out ?sidet).mono ?_);(case sidet=>refine Go.Proofs.YthdnodmidbcgpaaGreatDoor.XText.T1.on (w:=w) (Go.Proofs.YthdnodmidbcgpaaGreatDoor.XText.T2.to1 HTab_.out) ?_;repeat (first|(with_reducible first|exact HB.out|exact Below.refl _ _|apply below_alloc|apply pw_below_drewN|apply below_drew1|refine below_set ?_ ji.out|refine below_set ?_ j5e.out|refine below_set ?_ j5f.out|refine below_set ?_ j5g.out|refine below_set ?_ j5h.out|refine below_set ?_ j5i.out|refine below_set ?_ j5j.out|refine below_set ?_ j5k.out)|exact HB.out|exact Below.refl _ _));(case side1=>exact cR_ jb);(case side2=>exact (Kd.R_reads' jb.out).2.1);rintro e w31 ⟨rfl,hb⟩;refine ⟨_,rfl,?_⟩;replace jb:=rb_ jb hb;replace jc:=rb_ jc hb;replace jd:=rb_ jd hb;replace ja:=bb_ ja hb;replace HB:=ai_ (below_step (below_to1 HB ji.out) hb);(try clear hb);obtain ⟨j4t,j4u,j4v,j4w,j4x,j4y,j4z,j5a⟩:=blk4_ ja)|((with_reducible refine gate_callee (f:=13) rfl ?_);refine gl_ (some 157) Tryz.func13 #[.agg #[.int .i64 jf,.int .i64 jg,.int .i64 jh,.slice Ao18 je.length co18]] ?_;(with_reducible refine (spec_LineText.calls k jf jg jh _ _ je j1s jy _ ?side1 ?side2 A13.out).mono ?_);(case side1=>exact cR_ jb);(case side2=>exact (Kd.R_reads' jb.out).2.1);rintro e w33 ⟨rfl,hb⟩;refine ⟨_,rfl,?_⟩;replace jb:=rb_ jb hb;replace jc:=rb_ jc hb;replace jd:=rb_ jd hb;replace ja:=bb_ ja hb;replace HB:=ai_ (below_step (below_to1 HB ji.out) hb);(try clear hb)))
 (try simp only [Act.put,List.setIfInBounds_toArray,List.set_cons_zero,List.set_cons_succ])
 go_cut [235] from 100000 (fun j5c wc => ∃ (kq:Nat) (jp:Bool),j5c=.bool jp∧Aside0 (lw_.j0 kq l1 jq jn j1c j1d jl j1e ju jo j1f jk jp jf jg jh je=some r)∧Aside0 (kq≤k)∧Aside0 (Kd.R Ki_ 3 wc w.heap.size (fun k_=>some k_≠((.slice Ao18 je.length co18):Value).ownBlock) j1o ju)∧Aside0 (Kd.R Ki_ 3 wc w.heap.size (fun k_=>some k_≠(j1o:Value).ownBlock) (.slice Ao18 je.length co18) je)∧Aside0 (wc.heap[jj]?=some (.cells #[.int .i64 jf,.int .i64 jg,.int .i64 jh,(.slice Ao18 je.length co18)] 26 (0,0)))∧Aside0 (Below w.heap.size w wc))
 case first =>
  (try conv=>arg 2;dsimp only [List.append_eq,List.cons_append,List.nil_append])
  have H:=HC14.out
  clear HC14
  by_cases c34:(jl != jv)=true
  ·rw [if_pos c34] at H
   have jz:(jl != jv)=true:=c34
   (try (have j1u:decide (jl=jv)=false:=by simpa using c34))
   (try (have j1v:(jl == jv)=false:=by simpa using c34))
   (try (have j5l:¬ (jl=jv):=by simpa using c34))
   clear c34
   (first|rw [jz]|(simp only [i64_w,i32_w];rw [jz])|skip)
   exact absurd H (by rw [HR_.out];cases k <;> simp [lw_.j0])
  rw [if_neg c34] at H
  have jz:(jl != jv)=false:=by simpa using c34
  (try (have j1u:decide (jl=jv)=true:=by simpa using c34))
  (try (have j1v:(jl == jv)=true:=by simpa using c34))
  clear c34
  (first|rw [jz]|(simp only [i64_w,i32_w];rw [jz])|skip)
  by_cases c35:j1c=j1p
  rotate_left
  ·rw [if_neg c35] at H
   have j1g:=beq_eq_false_iff_ne.mpr c35
   have j1h:=bne_iff_ne.mpr c35
   exact absurd H (by rw [HR_.out];cases k <;> simp [lw_.j0])
  rw [if_pos c35] at H
  have j1g:=beq_iff_eq.mpr c35
  have j1h:=bne_eq_false_iff_eq.mpr c35
  clear c35
  by_cases c36:j1d=j1q
  rotate_left
  ·rw [if_neg c36] at H
   have j1i:=beq_eq_false_iff_ne.mpr c36
   have j1j:=bne_iff_ne.mpr c36
   exact absurd H (by rw [HR_.out];cases k <;> simp [lw_.j0])
  rw [if_pos c36] at H
  have j1i:=beq_iff_eq.mpr c36
  have j1j:=bne_eq_false_iff_eq.mpr c36
  clear c36
  by_cases c37:(jm != jw)=true
  ·rw [if_pos c37] at H
   have j1w:(jm != jw)=true:=c37
   (try (have j1x:decide (jm=jw)=false:=by simpa using c37))
   (try (have j1y:(jm == jw)=false:=by simpa using c37))
   (try (have j5m:¬ (jm=jw):=by simpa using c37))
   clear c37
   exact absurd H (by rw [HR_.out];cases k <;> simp [lw_.j0])
  rw [if_neg c37] at H
  have j1w:(jm != jw)=false:=by simpa using c37
  (try (have j1x:decide (jm=jw)=true:=by simpa using c37))
  (try (have j1y:(jm == jw)=true:=by simpa using c37))
  clear c37
  by_cases c38:j1e=j1r
  rotate_left
  ·rw [if_neg c38] at H
   have j1k:=beq_eq_false_iff_ne.mpr c38
   have j1l:=bne_iff_ne.mpr c38
   exact absurd H (by rw [HR_.out];cases k <;> simp [lw_.j0])
  rw [if_pos c38] at H
  have j1k:=beq_iff_eq.mpr c38
  have j1l:=bne_eq_false_iff_eq.mpr c38
  clear c38
  by_cases c39:(jo != jx)=true
  ·rw [if_pos c39] at H
   have j1z:(jo != jx)=true:=c39
   (try (have j2a:decide (jo=jx)=false:=by simpa using c39))
   (try (have j2b:(jo == jx)=false:=by simpa using c39))
   (try (have j5n:¬ (jo=jx):=by simpa using c39))
   clear c39
   exact absurd H (by rw [HR_.out];cases k <;> simp [lw_.j0])
  rw [if_neg c39] at H
  have j1z:(jo != jx)=false:=by simpa using c39
  (try (have j2a:decide (jo=jx)=true:=by simpa using c39))
  (try (have j2b:(jo == jx)=true:=by simpa using c39))
  clear c39
  obtain ⟨j5d,A40,H⟩:=bs_ H
  (try dsimp only at H)
  by_cases c41:j5d=true
  rotate_left
  ·replace c41:=Bool.eq_false_iff.mpr c41
   subst c41
   rw [if_neg ft_] at H
   exact absurd H (by rw [HR_.out];cases k <;> simp [lw_.j0])
  subst c41
  rw [if_pos rfl] at H
  by_cases c42:(jk != jy)=true
  ·rw [if_pos c42] at H
   have j2c:(jk != jy)=true:=c42
   (try (have j2d:decide (jk=jy)=false:=by simpa using c42))
   (try (have j2e:(jk == jy)=false:=by simpa using c42))
   (try (have j5o:¬ (jk=jy):=by simpa using c42))
   clear c42
   exact absurd H (by rw [HR_.out];cases k <;> simp [lw_.j0])
  rw [if_neg c42] at H
  have j2c:(jk != jy)=false:=by simpa using c42
  (try (have j2d:decide (jk=jy)=true:=by simpa using c42))
  (try (have j2e:(jk == jy)=true:=by simpa using c42))
  clear c42
  by_cases c43:j1f.toList=j1s.toList
  rotate_left
  ·rw [if_neg c43] at H
   have j1m:=beq_eq_false_iff_ne.mpr c43
   have j1n:=bne_iff_ne.mpr c43
   exact absurd H (by rw [HR_.out];cases k <;> simp [lw_.j0])
  rw [if_pos c43] at H
  have j1m:=beq_iff_eq.mpr c43
  have j1n:=bne_eq_false_iff_eq.mpr c43
  clear c43
  by_cases c44:(jm != jl)=true
  ·rw [if_pos c44] at H
   have j2f:(jm != jl)=true:=c44
   (try (have j2g:decide (jm=jl)=false:=by simpa using c44))
   (try (have j2h:(jm == jl)=false:=by simpa using c44))
   (try (have j5p:¬ (jm=jl):=by simpa using c44))
   clear c44
   exact absurd H (by rw [HR_.out];cases k <;> simp [lw_.j0])
  rw [if_neg c44] at H
  have j2f:(jm != jl)=false:=by simpa using c44
  (try (have j2g:decide (jm=jl)=true:=by simpa using c44))
  (try (have j2h:(jm == jl)=true:=by simpa using c44))
  clear c44
  obtain ⟨jr,A45,H⟩:=bs_ H
  (try dsimp only at H)
  by_cases c46:(jk != jr)=true
  ·rw [if_pos c46] at H
   have j2i:(jk != jr)=true:=c46
   (try (have j2j:decide (jk=jr)=false:=by simpa using c46))
   (try (have j2k:(jk == jr)=false:=by simpa using c46))
   (try (have j5q:¬ (jk=jr):=by simpa using c46))
   clear c46
   exact absurd H (by rw [HR_.out];cases k <;> simp [lw_.j0])
  rw [if_neg c46] at H
  have j2i:(jk != jr)=false:=by simpa using c46
  (try (have j2j:decide (jk=jr)=true:=by simpa using c46))
  (try (have j2k:(jk == jr)=true:=by simpa using c46))
  clear c46
  obtain ⟨js,A47,H⟩:=bs_ H
  (try dsimp only at H)
  obtain ⟨jt,A48,H⟩:=bs_ H
  (try dsimp only at H)
  by_cases c49:(js != jt)=true
  ·rw [if_pos c49] at H
   have j2l:(js != jt)=true:=c49
   (try (have j2m:decide (js=jt)=false:=by simpa using c49))
   (try (have j2n:(js == jt)=false:=by simpa using c49))
   (try (have j5r:¬ (js=jt):=by simpa using c49))
   clear c49
   exact absurd H (by rw [HR_.out];cases k <;> simp [lw_.j0])
  rw [if_neg c49] at H
  have j2l:(js != jt)=false:=by simpa using c49
  (try (have j2m:decide (js=jt)=true:=by simpa using c49))
  (try (have j2n:(js == jt)=true:=by simpa using c49))
  clear c49
  by_cases c50:jl=true
  ·subst c50
   rw [if_pos rfl] at H
   by_cases c51:jo=true
   rotate_left
   ·replace c51:=Bool.eq_false_iff.mpr c51
    subst c51
    rw [if_neg ft_] at H
    exact absurd H (by rw [HR_.out];cases k <;> simp [lw_.j0])
   subst c51
   rw [if_pos rfl] at H
   have H':=ai_ H
   clear H
   try go_wp2
   have n0_:=ai_ (Kd.R_drew jb.out)
   have n1_:=ai_ (Kd.R_drew jc.out)
   have n2_:=ai_ (Kd.R_drew jd.out)
   have n3_:=ai_ (blk_drew ja.out)
   have n4_:=ai_ (below_drew1 HB.out)
   clear jb
   clear jc
   clear jd
   clear ja
   clear HB
   have jb:=n0_
   have jc:=n1_
   have jd:=n2_
   have ja:=n3_
   have HB:=n4_
   clear n0_ n1_ n2_ n3_ n4_
   obtain ⟨Ao53,co53,eo53⟩:=Kd.R_slice jc.out
   (first|subst eo53|(injection eo53 with f1_ f2_ f3_;have f4_:=f1_.symm;have f5_:=f3_.symm;clear f1_ f2_ f3_;subst f4_;subst f5_))
   obtain ⟨Ao54,co54,eo54⟩:=Kd.R_slice jd.out
   (first|subst eo54|(injection eo54 with f1_ f2_ f3_;have f4_:=f1_.symm;have f5_:=f3_.symm;clear f1_ f2_ f3_;subst f4_;subst f5_))
   refine start_ (n:=76) (S:=fun w'=>w'.cell? ⟨jj,0,none⟩=some (.int .i64 jf)∧w'.cell? ⟨jj,1,none⟩=some (.int .i64 jg)∧w'.cell? ⟨jj,2,none⟩=some (.int .i64 jh)∧w'.cell? ⟨jj,3,none⟩=some (.slice Ao18 je.length co18)) (ds:=[]) (fr_ [0,76]) (by kernel_rfl) rfl rfl ⟨(blk_cell ja.out 0).trans rfl,(blk_cell ja.out 1).trans rfl,(blk_cell ja.out 2).trans rfl,(blk_cell ja.out 3).trans rfl⟩ (fun hHeld=>?_);refine with_tabW lw_.tab12 lw_.bits12 (fun HT_ HW_=>?_)
   generalize w33.drew=w52 at jb jc jd ja HB hHeld ⊢
   refine purS_ (i:=0) (N:=some 160) (fl_ 76 1) HT_.out ?_
   refine purS_ (i:=1) (N:=some 161) (fl_ 76 2) HT_.out ?_
   refine purS_ (i:=2) (N:=some 162) (fl_ 76 3) HT_.out ?_
   refine purS_ (i:=3) (N:=some 163) (fl_ 76 4) HT_.out ?_
   refine purS_ (i:=4) (N:=some 164) (fl_ 76 5) HT_.out ?_
   refine purS_ (i:=5) (N:=some 165) (fl_ 76 6) HT_.out ?_
   refine purS_ (i:=6) (N:=some 166) (fl_ 76 7) HT_.out ?_
   refine purS_ (i:=7) (N:=some 167) (fl_ 76 8) HT_.out ?_
   refine purS_ (i:=8) (N:=some 168) (fl_ 76 9) HT_.out ?_
   refine purS_ (i:=9) (N:=some 169) (fl_ 76 10) HT_.out ?_
   refine purS_ (i:=10) (N:=some 170) (fl_ 76 11) HT_.out ?_
   refine purS_ (i:=11) (N:=some 171) (fl_ 76 12) HT_.out ?_
   refine purS_ (i:=12) (N:=some 172) (fl_ 76 13) HT_.out ?_
   refine purS_ (i:=13) (N:=some 173) (fl_ 76 14) HT_.out ?_
   refine purS_ (i:=14) (N:=some 174) (fl_ 76 15) HT_.out ?_
   refine purS_ (i:=15) (N:=some 175) (fl_ 76 16) HT_.out ?_
   refine purS_ (i:=16) (N:=some 176) (fl_ 76 17) HT_.out ?_
   refine purS_ (i:=17) (N:=some 177) (fl_ 76 18) HT_.out ?_
   refine purS_ (i:=18) (N:=some 178) (fl_ 76 19) HT_.out ?_
   refine purS_ (i:=19) (N:=some 179) (fl_ 76 20) HT_.out ?_
   refine purS_ (i:=20) (N:=some 180) (fl_ 76 21) HT_.out ?_
   refine purS_ (i:=21) (N:=some 181) (fl_ 76 22) HT_.out ?_
   refine purS_ (i:=22) (N:=some 182) (fl_ 76 23) HT_.out ?_
   refine purS_ (i:=23) (N:=some 183) (fl_ 76 24) HT_.out ?_
   refine purS_ (i:=24) (N:=some 184) (fl_ 76 25) HT_.out ?_
   refine purS_ (i:=25) (N:=some 185) (fl_ 76 26) HT_.out ?_
   refine purS_ (i:=26) (N:=some 186) (fl_ 76 27) HT_.out ?_
   refine purS_ (i:=27) (N:=some 187) (fl_ 76 28) HT_.out ?_
   refine purS_ (i:=28) (N:=some 188) (fl_ 76 29) HT_.out ?_
   refine purS_ (i:=29) (N:=some 189) (fl_ 76 30) HT_.out ?_
   refine purS_ (i:=30) (N:=some 190) (fl_ 76 31) HT_.out ?_
   refine one_ (i:=31) (N:=some 191) (fr_ [32,44]) rfl rfl (one_of HT_.out (by kernel_rfl)) (by decide) (fun K hK=>?_)
   refine goes_ Tryz.func14 (by kernel_rfl) rfl #[.slice Ao53 ju.length co53,.slice Ao54 j1a.length co54] (by rfl) rfl rfl am_ ?_
   with_reducible refine (laws_qSame.calls k _ _ ju _ _ j1a true _ ?side1 ?side2 ?side3 ?side4 A40.out).mono ?_
   (case side1=>exact cR_ jc)
   (case side2=>exact (Kd.R_reads' jc.out).2.1)
   (case side3=>exact cR_ jd)
   (case side4=>exact (Kd.R_reads' jd.out).2.1)
   rintro e w' ⟨rfl,⟨nd,rfl⟩⟩
   refine ⟨_,rfl,?_⟩
   refine hK.out _ _ ⟨(blk_cell ja.out 0).trans rfl,(blk_cell ja.out 1).trans rfl,(blk_cell ja.out 2).trans rfl,(blk_cell ja.out 3).trans rfl⟩ (fun hHeld=>?_)
   clear hK K
   refine norm_ (a':=?_) ?_ ?_
   rotate_left
   ·show Act.put _ (some 191) _=_
    simp only [Act.put,List.setIfInBounds_toArray,List.set_cons_zero,List.set_cons_succ,i64_w,i32_w]
    rfl
   refine purS_ (i:=32) (N:=some 192) (fl_ 76 33) HT_.out ?_
   refine purS_ (i:=33) (N:=some 193) (fl_ 76 34) HT_.out ?_
   refine purS_ (i:=34) (N:=some 194) (fl_ 76 35) HT_.out ?_
   refine purS_ (i:=35) (N:=some 195) (fl_ 76 36) HT_.out ?_
   refine purS_ (i:=36) (N:=some 196) (fl_ 76 37) HT_.out ?_
   refine purS_ (i:=37) (N:=some 197) (fl_ 76 38) HT_.out ?_
   refine purS_ (i:=38) (N:=some 198) (fl_ 76 39) HT_.out ?_
   refine purS_ (i:=39) (N:=some 199) (fl_ 76 40) HT_.out ?_
   refine purS_ (i:=40) (N:=some 200) (fl_ 76 41) HT_.out ?_
   refine purS_ (i:=41) (N:=some 201) (fl_ 76 42) HT_.out ?_
   refine purS_ (i:=42) (N:=some 202) (fl_ 76 43) HT_.out ?_
   refine purS_ (i:=43) (N:=some 203) (fl_ 76 44) HT_.out ?_
   refine purS_ (i:=44) (N:=some 204) (fl_ 76 45) HT_.out ?_
   refine purS_ (i:=45) (N:=some 205) (fl_ 76 46) HT_.out ?_
   refine purS_ (i:=46) (N:=some 206) (fl_ 76 47) HT_.out ?_
   refine purS_ (i:=47) (N:=some 207) (fl_ 76 48) HT_.out ?_
   refine purS_ (i:=48) (N:=some 208) (fl_ 76 49) HT_.out ?_
   refine purS_ (i:=49) (N:=some 209) (fl_ 76 50) HT_.out ?_
   refine purS_ (i:=50) (N:=some 210) (fl_ 76 51) HT_.out ?_
   refine take_ (i:=51) (N:=some 211) (v:=?_) (a':=?_) (fr_ [52,24]) rfl rfl (take_ofW HT_.out HW_.out (by kernel_rfl)) (fun _ _ _ h=>h) (Or.inl ⟨by rfl,?_⟩) hHeld ?_ ?_
   rotate_left
   ·rintro w' ⟨s0,s1,s2,s3⟩
    go_simp
    with_reducible rfl
   rotate_left
   ·simp only [Act.put,List.setIfInBounds_toArray,List.set_cons_zero,List.set_cons_succ,i64_w,i32_w]
    rfl
   refine one_ (i:=52) (N:=some 212) (fr_ [53,23]) rfl rfl (one_of HT_.out (by kernel_rfl)) (by decide) (fun K hK=>?_)
   refine goes_ Tryz.func15 (by kernel_rfl) rfl #[.agg #[.int .i64 jf,.int .i64 jg,.int .i64 jh,.slice Ao18 je.length co18]] (by rfl) rfl rfl am_ ?_
   with_reducible refine (impl_IsLine.calls k jf jg jh _ _ je jr _ ?side1 ?side2 A45.out).mono ?_
   (case side1=>exact cR_ jb)
   (case side2=>exact (Kd.R_reads' jb.out).2.1)
   rintro e w55 ⟨rfl,hb⟩
   refine ⟨_,rfl,?_⟩
   have n0_:=rb_ jb hb
   have n1_:=rb_ jc hb
   have n2_:=rb_ jd hb
   have n3_:=bb_ ja hb
   have n4_:=ai_ (below_step (below_to1 HB ji.out) hb)
   clear jb
   clear jc
   clear jd
   clear ja
   clear HB
   have jb:=n0_
   have jc:=n1_
   have jd:=n2_
   have ja:=n3_
   have HB:=n4_
   clear n0_ n1_ n2_ n3_ n4_
   (try clear hb)
   (try clear hk)
   refine hK.out _ _ ⟨(blk_cell ja.out 0).trans rfl,(blk_cell ja.out 1).trans rfl,(blk_cell ja.out 2).trans rfl,(blk_cell ja.out 3).trans rfl⟩ (fun hHeld=>?_)
   clear hK K
   refine norm_ (a':=?_) ?_ ?_
   rotate_left
   ·show Act.put _ (some 212) _=_
    simp only [Act.put,List.setIfInBounds_toArray,List.set_cons_zero,List.set_cons_succ,i64_w,i32_w]
    rfl
   refine purS_ (i:=53) (N:=some 213) (fl_ 76 54) HT_.out ?_
   refine purS_ (i:=54) (N:=some 214) (fl_ 76 55) HT_.out ?_
   refine purS_ (i:=55) (N:=some 215) (fl_ 76 56) HT_.out ?_
   refine take_ (i:=56) (N:=some 216) (v:=?_) (a':=?_) (fr_ [57,19]) rfl rfl (take_ofW HT_.out HW_.out (by kernel_rfl)) (fun _ _ _ h=>h) (Or.inl ⟨by rfl,?_⟩) hHeld ?_ ?_
   rotate_left
   ·rintro w' ⟨s0,s1,s2,s3⟩
    go_simp
    with_reducible rfl
   rotate_left
   ·simp only [Act.put,List.setIfInBounds_toArray,List.set_cons_zero,List.set_cons_succ,i64_w,i32_w]
    rfl
   refine take_ (i:=58) (N:=some 218) (v:=?_) (a':=?_) (fr_ [57,1,1,17]) rfl rfl (take_ofW HT_.out HW_.out (by kernel_rfl)) (fun _ _ _ h=>h) (Or.inl ⟨by rfl,?_⟩) hHeld ?_ ?_
   rotate_left
   ·rintro w' ⟨s0,s1,s2,s3⟩
    go_simp
    with_reducible rfl
   rotate_left
   ·simp only [Act.put,List.setIfInBounds_toArray,List.set_cons_zero,List.set_cons_succ,i64_w,i32_w]
    rfl
   refine one_ (i:=57) (N:=some 217) (fr_ [59,17]) rfl rfl (one_of HT_.out (by kernel_rfl)) (by decide) (fun K hK=>?_)
   refine goes_ Tryz.func15 (by kernel_rfl) rfl #[.agg #[.int .i64 jf,.int .i64 jg,.int .i64 jh,.slice Ao18 je.length co18]] (by rfl) rfl rfl am_ ?_
   with_reducible refine (impl_IsLine.calls k jf jg jh _ _ je js _ ?side1 ?side2 A47.out).mono ?_
   (case side1=>exact cR_ jb)
   (case side2=>exact (Kd.R_reads' jb.out).2.1)
   rintro e w56 ⟨rfl,hb⟩
   refine ⟨_,rfl,?_⟩
   have n0_:=rb_ jb hb
   have n1_:=rb_ jc hb
   have n2_:=rb_ jd hb
   have n3_:=bb_ ja hb
   have n4_:=ai_ (below_step (below_to1 HB ji.out) hb)
   clear jb
   clear jc
   clear jd
   clear ja
   clear HB
   have jb:=n0_
   have jc:=n1_
   have jd:=n2_
   have ja:=n3_
   have HB:=n4_
   clear n0_ n1_ n2_ n3_ n4_
   (try clear hb)
   (try clear hk)
   refine hK.out _ _ ⟨(blk_cell ja.out 0).trans rfl,(blk_cell ja.out 1).trans rfl,(blk_cell ja.out 2).trans rfl,(blk_cell ja.out 3).trans rfl⟩ (fun hHeld=>?_)
   clear hK K
   refine norm_ (a':=?_) ?_ ?_
   rotate_left
   ·show Act.put _ (some 217) _=_
    simp only [Act.put,List.setIfInBounds_toArray,List.set_cons_zero,List.set_cons_succ,i64_w,i32_w]
    rfl
   refine one_ (i:=59) (N:=some 219) (fr_ [60,16]) rfl rfl (one_of HT_.out (by kernel_rfl)) (by decide) (fun K hK=>?_)
   refine goes_ Tryz.func16 (by kernel_rfl) rfl #[.agg #[.int .i64 jf,.int .i64 jg,.int .i64 jh,.slice Ao18 je.length co18]] (by rfl) rfl rfl am_ ?_
   with_reducible refine (spec_IsLine.calls k jf jg jh _ _ je jt _ ?side1 ?side2 A48.out).mono ?_
   (case side1=>exact cR_ jb)
   (case side2=>exact (Kd.R_reads' jb.out).2.1)
   rintro e w57 ⟨rfl,hb⟩
   refine ⟨_,rfl,?_⟩
   have n0_:=rb_ jb hb
   have n1_:=rb_ jc hb
   have n2_:=rb_ jd hb
   have n3_:=bb_ ja hb
   have n4_:=ai_ (below_step (below_to1 HB ji.out) hb)
   clear jb
   clear jc
   clear jd
   clear ja
   clear HB
   have jb:=n0_
   have jc:=n1_
   have jd:=n2_
   have ja:=n3_
   have HB:=n4_
   clear n0_ n1_ n2_ n3_ n4_
   (try clear hb)
   (try clear hk)
   refine hK.out _ _ ⟨(blk_cell ja.out 0).trans rfl,(blk_cell ja.out 1).trans rfl,(blk_cell ja.out 2).trans rfl,(blk_cell ja.out 3).trans rfl⟩ (fun hHeld=>?_)
   clear hK K
   refine norm_ (a':=?_) ?_ ?_
   rotate_left
   ·show Act.put _ (some 219) _=_
    simp only [Act.put,List.setIfInBounds_toArray,List.set_cons_zero,List.set_cons_succ,i64_w,i32_w]
    rfl
   refine purS_ (i:=60) (N:=some 220) (fl_ 76 61) HT_.out ?_
   refine purS_ (i:=61) (N:=some 221) (fl_ 76 62) HT_.out ?_
   refine purS_ (i:=62) (N:=some 222) (fl_ 76 63) HT_.out ?_
   refine purS_ (i:=63) (N:=some 223) (fl_ 76 64) HT_.out ?_
   refine purS_ (i:=64) (N:=some 224) (fl_ 76 65) HT_.out ?_
   refine purS_ (i:=65) (N:=some 225) (fl_ 76 66) HT_.out ?_
   refine purS_ (i:=66) (N:=some 226) (fl_ 76 67) HT_.out ?_
   refine purS_ (i:=67) (N:=some 227) (fl_ 76 68) HT_.out ?_
   refine purS_ (i:=68) (N:=some 228) (fl_ 76 69) HT_.out ?_
   refine purS_ (i:=69) (N:=some 229) (fl_ 76 70) HT_.out ?_
   refine purS_ (i:=70) (N:=some 230) (fl_ 76 71) HT_.out ?_
   refine purS_ (i:=71) (N:=some 231) (fl_ 76 72) HT_.out ?_
   refine purS_ (i:=72) (N:=some 232) (fl_ 76 73) HT_.out ?_
   refine purS_ (i:=73) (N:=some 233) (fl_ 76 74) HT_.out ?_
   refine purS_ (i:=74) (N:=some 234) (fl_ 76 75) HT_.out ?_
   refine purS_ (i:=75) (N:=some 235) (fl_ 76 76) HT_.out ?_
   refine done_ (done_of HT_.out (by kernel_rfl)) ?_
   try go_wp2
   go_meet
   case rel=>exact ⟨_,(!jk),rt_,H',⟨by first|omega|exact Nat.le_refl _⟩,⟨by (with_reducible repeat (first|apply Kd.R_alloc|apply Kd.R_drewN|apply Kd.R_drew));exact Kd.R_mono jc.out (fun _ hk=>hk.1.2)⟩,⟨by (with_reducible repeat (first|apply Kd.R_alloc|apply Kd.R_drewN|apply Kd.R_drew));exact Kd.R_mono jb.out (fun _ hk=>hk.1.2)⟩,⟨blk_to ja⟩,⟨below_to1 HB ji.out⟩⟩
  replace c50:=Bool.eq_false_iff.mpr c50
  subst c50
  rw [if_neg ft_] at H
  by_cases c58:jo=true
  ·subst c58
   rw [if_pos rfl] at H
   have H':=ai_ H
   clear H
   try go_wp2
   have n0_:=ai_ (Kd.R_drew jb.out)
   have n1_:=ai_ (Kd.R_drew jc.out)
   have n2_:=ai_ (Kd.R_drew jd.out)
   have n3_:=ai_ (blk_drew ja.out)
   have n4_:=ai_ (below_drew1 HB.out)
   clear jb
   clear jc
   clear jd
   clear ja
   clear HB
   have jb:=n0_
   have jc:=n1_
   have jd:=n2_
   have ja:=n3_
   have HB:=n4_
   clear n0_ n1_ n2_ n3_ n4_
   obtain ⟨Ao60,co60,eo60⟩:=Kd.R_slice jc.out
   (first|subst eo60|(injection eo60 with f1_ f2_ f3_;have f4_:=f1_.symm;have f5_:=f3_.symm;clear f1_ f2_ f3_;subst f4_;subst f5_))
   obtain ⟨Ao61,co61,eo61⟩:=Kd.R_slice jd.out
   (first|subst eo61|(injection eo61 with f1_ f2_ f3_;have f4_:=f1_.symm;have f5_:=f3_.symm;clear f1_ f2_ f3_;subst f4_;subst f5_))
   refine start_ (n:=76) (S:=fun w'=>w'.cell? ⟨jj,0,none⟩=some (.int .i64 jf)∧w'.cell? ⟨jj,1,none⟩=some (.int .i64 jg)∧w'.cell? ⟨jj,2,none⟩=some (.int .i64 jh)∧w'.cell? ⟨jj,3,none⟩=some (.slice Ao18 je.length co18)) (ds:=[]) (fr_ [0,76]) (by kernel_rfl) rfl rfl ⟨(blk_cell ja.out 0).trans rfl,(blk_cell ja.out 1).trans rfl,(blk_cell ja.out 2).trans rfl,(blk_cell ja.out 3).trans rfl⟩ (fun hHeld=>?_);refine with_tabW lw_.tab12 lw_.bits12 (fun HT_ HW_=>?_)
   generalize w33.drew=w59 at jb jc jd ja HB hHeld ⊢
   refine purS_ (i:=0) (N:=some 160) (fl_ 76 1) HT_.out ?_
   refine purS_ (i:=1) (N:=some 161) (fl_ 76 2) HT_.out ?_
   refine purS_ (i:=2) (N:=some 162) (fl_ 76 3) HT_.out ?_
   refine purS_ (i:=3) (N:=some 163) (fl_ 76 4) HT_.out ?_
   refine purS_ (i:=4) (N:=some 164) (fl_ 76 5) HT_.out ?_
   refine purS_ (i:=5) (N:=some 165) (fl_ 76 6) HT_.out ?_
   refine purS_ (i:=6) (N:=some 166) (fl_ 76 7) HT_.out ?_
   refine purS_ (i:=7) (N:=some 167) (fl_ 76 8) HT_.out ?_
   refine purS_ (i:=8) (N:=some 168) (fl_ 76 9) HT_.out ?_
   refine purS_ (i:=9) (N:=some 169) (fl_ 76 10) HT_.out ?_
   refine purS_ (i:=10) (N:=some 170) (fl_ 76 11) HT_.out ?_
   refine purS_ (i:=11) (N:=some 171) (fl_ 76 12) HT_.out ?_
   refine purS_ (i:=12) (N:=some 172) (fl_ 76 13) HT_.out ?_
   refine purS_ (i:=13) (N:=some 173) (fl_ 76 14) HT_.out ?_
   refine purS_ (i:=14) (N:=some 174) (fl_ 76 15) HT_.out ?_
   refine purS_ (i:=15) (N:=some 175) (fl_ 76 16) HT_.out ?_
   refine purS_ (i:=16) (N:=some 176) (fl_ 76 17) HT_.out ?_
   refine purS_ (i:=17) (N:=some 177) (fl_ 76 18) HT_.out ?_
   refine purS_ (i:=18) (N:=some 178) (fl_ 76 19) HT_.out ?_
   refine purS_ (i:=19) (N:=some 179) (fl_ 76 20) HT_.out ?_
   refine purS_ (i:=20) (N:=some 180) (fl_ 76 21) HT_.out ?_
   refine purS_ (i:=21) (N:=some 181) (fl_ 76 22) HT_.out ?_
   refine purS_ (i:=22) (N:=some 182) (fl_ 76 23) HT_.out ?_
   refine purS_ (i:=23) (N:=some 183) (fl_ 76 24) HT_.out ?_
   refine purS_ (i:=24) (N:=some 184) (fl_ 76 25) HT_.out ?_
   refine purS_ (i:=25) (N:=some 185) (fl_ 76 26) HT_.out ?_
   refine purS_ (i:=26) (N:=some 186) (fl_ 76 27) HT_.out ?_
   refine purS_ (i:=27) (N:=some 187) (fl_ 76 28) HT_.out ?_
   refine purS_ (i:=28) (N:=some 188) (fl_ 76 29) HT_.out ?_
   refine purS_ (i:=29) (N:=some 189) (fl_ 76 30) HT_.out ?_
   refine purS_ (i:=30) (N:=some 190) (fl_ 76 31) HT_.out ?_
   refine one_ (i:=31) (N:=some 191) (fr_ [32,44]) rfl rfl (one_of HT_.out (by kernel_rfl)) (by decide) (fun K hK=>?_)
   refine goes_ Tryz.func14 (by kernel_rfl) rfl #[.slice Ao60 ju.length co60,.slice Ao61 j1a.length co61] (by rfl) rfl rfl am_ ?_
   with_reducible refine (laws_qSame.calls k _ _ ju _ _ j1a true _ ?side1 ?side2 ?side3 ?side4 A40.out).mono ?_
   (case side1=>exact cR_ jc)
   (case side2=>exact (Kd.R_reads' jc.out).2.1)
   (case side3=>exact cR_ jd)
   (case side4=>exact (Kd.R_reads' jd.out).2.1)
   rintro e w' ⟨rfl,⟨nd,rfl⟩⟩
   refine ⟨_,rfl,?_⟩
   refine hK.out _ _ ⟨(blk_cell ja.out 0).trans rfl,(blk_cell ja.out 1).trans rfl,(blk_cell ja.out 2).trans rfl,(blk_cell ja.out 3).trans rfl⟩ (fun hHeld=>?_)
   clear hK K
   refine norm_ (a':=?_) ?_ ?_
   rotate_left
   ·show Act.put _ (some 191) _=_
    simp only [Act.put,List.setIfInBounds_toArray,List.set_cons_zero,List.set_cons_succ,i64_w,i32_w]
    rfl
   refine purS_ (i:=32) (N:=some 192) (fl_ 76 33) HT_.out ?_
   refine purS_ (i:=33) (N:=some 193) (fl_ 76 34) HT_.out ?_
   refine purS_ (i:=34) (N:=some 194) (fl_ 76 35) HT_.out ?_
   refine purS_ (i:=35) (N:=some 195) (fl_ 76 36) HT_.out ?_
   refine purS_ (i:=36) (N:=some 196) (fl_ 76 37) HT_.out ?_
   refine purS_ (i:=37) (N:=some 197) (fl_ 76 38) HT_.out ?_
   refine purS_ (i:=38) (N:=some 198) (fl_ 76 39) HT_.out ?_
   refine purS_ (i:=39) (N:=some 199) (fl_ 76 40) HT_.out ?_
   refine purS_ (i:=40) (N:=some 200) (fl_ 76 41) HT_.out ?_
   refine purS_ (i:=41) (N:=some 201) (fl_ 76 42) HT_.out ?_
   refine purS_ (i:=42) (N:=some 202) (fl_ 76 43) HT_.out ?_
   refine purS_ (i:=43) (N:=some 203) (fl_ 76 44) HT_.out ?_
   refine purS_ (i:=44) (N:=some 204) (fl_ 76 45) HT_.out ?_
   refine purS_ (i:=45) (N:=some 205) (fl_ 76 46) HT_.out ?_
   refine purS_ (i:=46) (N:=some 206) (fl_ 76 47) HT_.out ?_
   refine purS_ (i:=47) (N:=some 207) (fl_ 76 48) HT_.out ?_
   refine purS_ (i:=48) (N:=some 208) (fl_ 76 49) HT_.out ?_
   refine purS_ (i:=49) (N:=some 209) (fl_ 76 50) HT_.out ?_
   refine purS_ (i:=50) (N:=some 210) (fl_ 76 51) HT_.out ?_
   refine take_ (i:=51) (N:=some 211) (v:=?_) (a':=?_) (fr_ [52,24]) rfl rfl (take_ofW HT_.out HW_.out (by kernel_rfl)) (fun _ _ _ h=>h) (Or.inl ⟨by rfl,?_⟩) hHeld ?_ ?_
   rotate_left
   ·rintro w' ⟨s0,s1,s2,s3⟩
    go_simp
    with_reducible rfl
   rotate_left
   ·simp only [Act.put,List.setIfInBounds_toArray,List.set_cons_zero,List.set_cons_succ,i64_w,i32_w]
    rfl
   refine one_ (i:=52) (N:=some 212) (fr_ [53,23]) rfl rfl (one_of HT_.out (by kernel_rfl)) (by decide) (fun K hK=>?_)
   refine goes_ Tryz.func15 (by kernel_rfl) rfl #[.agg #[.int .i64 jf,.int .i64 jg,.int .i64 jh,.slice Ao18 je.length co18]] (by rfl) rfl rfl am_ ?_
   with_reducible refine (impl_IsLine.calls k jf jg jh _ _ je jr _ ?side1 ?side2 A45.out).mono ?_
   (case side1=>exact cR_ jb)
   (case side2=>exact (Kd.R_reads' jb.out).2.1)
   rintro e w62 ⟨rfl,hb⟩
   refine ⟨_,rfl,?_⟩
   have n0_:=rb_ jb hb
   have n1_:=rb_ jc hb
   have n2_:=rb_ jd hb
   have n3_:=bb_ ja hb
   have n4_:=ai_ (below_step (below_to1 HB ji.out) hb)
   clear jb
   clear jc
   clear jd
   clear ja
   clear HB
   have jb:=n0_
   have jc:=n1_
   have jd:=n2_
   have ja:=n3_
   have HB:=n4_
   clear n0_ n1_ n2_ n3_ n4_
   (try clear hb)
   (try clear hk)
   refine hK.out _ _ ⟨(blk_cell ja.out 0).trans rfl,(blk_cell ja.out 1).trans rfl,(blk_cell ja.out 2).trans rfl,(blk_cell ja.out 3).trans rfl⟩ (fun hHeld=>?_)
   clear hK K
   refine norm_ (a':=?_) ?_ ?_
   rotate_left
   ·show Act.put _ (some 212) _=_
    simp only [Act.put,List.setIfInBounds_toArray,List.set_cons_zero,List.set_cons_succ,i64_w,i32_w]
    rfl
   refine purS_ (i:=53) (N:=some 213) (fl_ 76 54) HT_.out ?_
   refine purS_ (i:=54) (N:=some 214) (fl_ 76 55) HT_.out ?_
   refine purS_ (i:=55) (N:=some 215) (fl_ 76 56) HT_.out ?_
   refine take_ (i:=56) (N:=some 216) (v:=?_) (a':=?_) (fr_ [57,19]) rfl rfl (take_ofW HT_.out HW_.out (by kernel_rfl)) (fun _ _ _ h=>h) (Or.inl ⟨by rfl,?_⟩) hHeld ?_ ?_
   rotate_left
   ·rintro w' ⟨s0,s1,s2,s3⟩
    go_simp
    with_reducible rfl
   rotate_left
   ·simp only [Act.put,List.setIfInBounds_toArray,List.set_cons_zero,List.set_cons_succ,i64_w,i32_w]
    rfl
   refine take_ (i:=58) (N:=some 218) (v:=?_) (a':=?_) (fr_ [57,1,1,17]) rfl rfl (take_ofW HT_.out HW_.out (by kernel_rfl)) (fun _ _ _ h=>h) (Or.inl ⟨by rfl,?_⟩) hHeld ?_ ?_
   rotate_left
   ·rintro w' ⟨s0,s1,s2,s3⟩
    go_simp
    with_reducible rfl
   rotate_left
   ·simp only [Act.put,List.setIfInBounds_toArray,List.set_cons_zero,List.set_cons_succ,i64_w,i32_w]
    rfl
   refine one_ (i:=57) (N:=some 217) (fr_ [59,17]) rfl rfl (one_of HT_.out (by kernel_rfl)) (by decide) (fun K hK=>?_)
   refine goes_ Tryz.func15 (by kernel_rfl) rfl #[.agg #[.int .i64 jf,.int .i64 jg,.int .i64 jh,.slice Ao18 je.length co18]] (by rfl) rfl rfl am_ ?_
   with_reducible refine (impl_IsLine.calls k jf jg jh _ _ je js _ ?side1 ?side2 A47.out).mono ?_
   (case side1=>exact cR_ jb)
   (case side2=>exact (Kd.R_reads' jb.out).2.1)
   rintro e w63 ⟨rfl,hb⟩
   refine ⟨_,rfl,?_⟩
   have n0_:=rb_ jb hb
   have n1_:=rb_ jc hb
   have n2_:=rb_ jd hb
   have n3_:=bb_ ja hb
   have n4_:=ai_ (below_step (below_to1 HB ji.out) hb)
   clear jb
   clear jc
   clear jd
   clear ja
   clear HB
   have jb:=n0_
   have jc:=n1_
   have jd:=n2_
   have ja:=n3_
   have HB:=n4_
   clear n0_ n1_ n2_ n3_ n4_
   (try clear hb)
   (try clear hk)
   refine hK.out _ _ ⟨(blk_cell ja.out 0).trans rfl,(blk_cell ja.out 1).trans rfl,(blk_cell ja.out 2).trans rfl,(blk_cell ja.out 3).trans rfl⟩ (fun hHeld=>?_)
   clear hK K
   refine norm_ (a':=?_) ?_ ?_
   rotate_left
   ·show Act.put _ (some 217) _=_
    simp only [Act.put,List.setIfInBounds_toArray,List.set_cons_zero,List.set_cons_succ,i64_w,i32_w]
    rfl
   refine one_ (i:=59) (N:=some 219) (fr_ [60,16]) rfl rfl (one_of HT_.out (by kernel_rfl)) (by decide) (fun K hK=>?_)
   refine goes_ Tryz.func16 (by kernel_rfl) rfl #[.agg #[.int .i64 jf,.int .i64 jg,.int .i64 jh,.slice Ao18 je.length co18]] (by rfl) rfl rfl am_ ?_
   with_reducible refine (spec_IsLine.calls k jf jg jh _ _ je jt _ ?side1 ?side2 A48.out).mono ?_
   (case side1=>exact cR_ jb)
   (case side2=>exact (Kd.R_reads' jb.out).2.1)
   rintro e w64 ⟨rfl,hb⟩
   refine ⟨_,rfl,?_⟩
   have n0_:=rb_ jb hb
   have n1_:=rb_ jc hb
   have n2_:=rb_ jd hb
   have n3_:=bb_ ja hb
   have n4_:=ai_ (below_step (below_to1 HB ji.out) hb)
   clear jb
   clear jc
   clear jd
   clear ja
   clear HB
   have jb:=n0_
   have jc:=n1_
   have jd:=n2_
   have ja:=n3_
   have HB:=n4_
   clear n0_ n1_ n2_ n3_ n4_
   (try clear hb)
   (try clear hk)
   refine hK.out _ _ ⟨(blk_cell ja.out 0).trans rfl,(blk_cell ja.out 1).trans rfl,(blk_cell ja.out 2).trans rfl,(blk_cell ja.out 3).trans rfl⟩ (fun hHeld=>?_)
   clear hK K
   refine norm_ (a':=?_) ?_ ?_
   rotate_left
   ·show Act.put _ (some 219) _=_
    simp only [Act.put,List.setIfInBounds_toArray,List.set_cons_zero,List.set_cons_succ,i64_w,i32_w]
    rfl
   refine purS_ (i:=60) (N:=some 220) (fl_ 76 61) HT_.out ?_
   refine purS_ (i:=61) (N:=some 221) (fl_ 76 62) HT_.out ?_
   refine purS_ (i:=62) (N:=some 222) (fl_ 76 63) HT_.out ?_
   refine purS_ (i:=63) (N:=some 223) (fl_ 76 64) HT_.out ?_
   refine purS_ (i:=64) (N:=some 224) (fl_ 76 65) HT_.out ?_
   refine pure_ (i:=65) (N:=some 225) (v:=undef) (a':=?_) (fl_ 76 66) rfl rfl (any_of HT_.out (by kernel_rfl)) (fun _ _ _ h=>h) (Or.inr ⟨by rfl,rfl⟩) ?_ ?_
   rotate_left
   ·simp only [Act.put,List.setIfInBounds_toArray,List.set_cons_zero,List.set_cons_succ,i64_w,i32_w]
    rfl
   refine pure_ (i:=66) (N:=some 226) (v:=undef) (a':=?_) (fl_ 76 67) rfl rfl (any_of HT_.out (by kernel_rfl)) (fun _ _ _ h=>h) (Or.inr ⟨by rfl,rfl⟩) ?_ ?_
   rotate_left
   ·simp only [Act.put,List.setIfInBounds_toArray,List.set_cons_zero,List.set_cons_succ,i64_w,i32_w]
    rfl
   refine purS_ (i:=67) (N:=some 227) (fl_ 76 68) HT_.out ?_
   refine purS_ (i:=68) (N:=some 228) (fl_ 76 69) HT_.out ?_
   refine purS_ (i:=69) (N:=some 229) (fl_ 76 70) HT_.out ?_
   refine purS_ (i:=70) (N:=some 230) (fl_ 76 71) HT_.out ?_
   refine purS_ (i:=71) (N:=some 231) (fl_ 76 72) HT_.out ?_
   refine purS_ (i:=72) (N:=some 232) (fl_ 76 73) HT_.out ?_
   refine purS_ (i:=73) (N:=some 233) (fl_ 76 74) HT_.out ?_
   refine purS_ (i:=74) (N:=some 234) (fl_ 76 75) HT_.out ?_
   refine purS_ (i:=75) (N:=some 235) (fl_ 76 76) HT_.out ?_
   refine done_ (done_of HT_.out (by kernel_rfl)) ?_
   try go_wp2
   go_meet
   case rel=>exact ⟨_,(!jk),rt_,H',⟨by first|omega|exact Nat.le_refl _⟩,⟨by (with_reducible repeat (first|apply Kd.R_alloc|apply Kd.R_drewN|apply Kd.R_drew));exact Kd.R_mono jc.out (fun _ hk=>hk.1.2)⟩,⟨by (with_reducible repeat (first|apply Kd.R_alloc|apply Kd.R_drewN|apply Kd.R_drew));exact Kd.R_mono jb.out (fun _ hk=>hk.1.2)⟩,⟨blk_to ja⟩,⟨below_to1 HB ji.out⟩⟩
  replace c58:=Bool.eq_false_iff.mpr c58
  subst c58
  rw [if_neg ft_] at H
  have H':=ai_ H
  clear H
  try go_wp2
  have n0_:=ai_ (Kd.R_drew jb.out)
  have n1_:=ai_ (Kd.R_drew jc.out)
  have n2_:=ai_ (Kd.R_drew jd.out)
  have n3_:=ai_ (blk_drew ja.out)
  have n4_:=ai_ (below_drew1 HB.out)
  clear jb
  clear jc
  clear jd
  clear ja
  clear HB
  have jb:=n0_
  have jc:=n1_
  have jd:=n2_
  have ja:=n3_
  have HB:=n4_
  clear n0_ n1_ n2_ n3_ n4_
  obtain ⟨Ao66,co66,eo66⟩:=Kd.R_slice jc.out
  (first|subst eo66|(injection eo66 with f1_ f2_ f3_;have f4_:=f1_.symm;have f5_:=f3_.symm;clear f1_ f2_ f3_;subst f4_;subst f5_))
  obtain ⟨Ao67,co67,eo67⟩:=Kd.R_slice jd.out
  (first|subst eo67|(injection eo67 with f1_ f2_ f3_;have f4_:=f1_.symm;have f5_:=f3_.symm;clear f1_ f2_ f3_;subst f4_;subst f5_))
  refine start_ (n:=76) (S:=fun w'=>w'.cell? ⟨jj,0,none⟩=some (.int .i64 jf)∧w'.cell? ⟨jj,1,none⟩=some (.int .i64 jg)∧w'.cell? ⟨jj,2,none⟩=some (.int .i64 jh)∧w'.cell? ⟨jj,3,none⟩=some (.slice Ao18 je.length co18)) (ds:=[]) (fr_ [0,76]) (by kernel_rfl) rfl rfl ⟨(blk_cell ja.out 0).trans rfl,(blk_cell ja.out 1).trans rfl,(blk_cell ja.out 2).trans rfl,(blk_cell ja.out 3).trans rfl⟩ (fun hHeld=>?_);refine with_tabW lw_.tab12 lw_.bits12 (fun HT_ HW_=>?_)
  generalize w33.drew=w65 at jb jc jd ja HB hHeld ⊢
  refine purS_ (i:=0) (N:=some 160) (fl_ 76 1) HT_.out ?_
  refine purS_ (i:=1) (N:=some 161) (fl_ 76 2) HT_.out ?_
  refine purS_ (i:=2) (N:=some 162) (fl_ 76 3) HT_.out ?_
  refine purS_ (i:=3) (N:=some 163) (fl_ 76 4) HT_.out ?_
  refine purS_ (i:=4) (N:=some 164) (fl_ 76 5) HT_.out ?_
  refine purS_ (i:=5) (N:=some 165) (fl_ 76 6) HT_.out ?_
  refine purS_ (i:=6) (N:=some 166) (fl_ 76 7) HT_.out ?_
  refine purS_ (i:=7) (N:=some 167) (fl_ 76 8) HT_.out ?_
  refine purS_ (i:=8) (N:=some 168) (fl_ 76 9) HT_.out ?_
  refine purS_ (i:=9) (N:=some 169) (fl_ 76 10) HT_.out ?_
  refine purS_ (i:=10) (N:=some 170) (fl_ 76 11) HT_.out ?_
  refine purS_ (i:=11) (N:=some 171) (fl_ 76 12) HT_.out ?_
  refine purS_ (i:=12) (N:=some 172) (fl_ 76 13) HT_.out ?_
  refine purS_ (i:=13) (N:=some 173) (fl_ 76 14) HT_.out ?_
  refine purS_ (i:=14) (N:=some 174) (fl_ 76 15) HT_.out ?_
  refine purS_ (i:=15) (N:=some 175) (fl_ 76 16) HT_.out ?_
  refine purS_ (i:=16) (N:=some 176) (fl_ 76 17) HT_.out ?_
  refine purS_ (i:=17) (N:=some 177) (fl_ 76 18) HT_.out ?_
  refine purS_ (i:=18) (N:=some 178) (fl_ 76 19) HT_.out ?_
  refine purS_ (i:=19) (N:=some 179) (fl_ 76 20) HT_.out ?_
  refine purS_ (i:=20) (N:=some 180) (fl_ 76 21) HT_.out ?_
  refine purS_ (i:=21) (N:=some 181) (fl_ 76 22) HT_.out ?_
  refine purS_ (i:=22) (N:=some 182) (fl_ 76 23) HT_.out ?_
  refine purS_ (i:=23) (N:=some 183) (fl_ 76 24) HT_.out ?_
  refine purS_ (i:=24) (N:=some 184) (fl_ 76 25) HT_.out ?_
  refine purS_ (i:=25) (N:=some 185) (fl_ 76 26) HT_.out ?_
  refine purS_ (i:=26) (N:=some 186) (fl_ 76 27) HT_.out ?_
  refine purS_ (i:=27) (N:=some 187) (fl_ 76 28) HT_.out ?_
  refine purS_ (i:=28) (N:=some 188) (fl_ 76 29) HT_.out ?_
  refine purS_ (i:=29) (N:=some 189) (fl_ 76 30) HT_.out ?_
  refine purS_ (i:=30) (N:=some 190) (fl_ 76 31) HT_.out ?_
  refine one_ (i:=31) (N:=some 191) (fr_ [32,44]) rfl rfl (one_of HT_.out (by kernel_rfl)) (by decide) (fun K hK=>?_)
  refine goes_ Tryz.func14 (by kernel_rfl) rfl #[.slice Ao66 ju.length co66,.slice Ao67 j1a.length co67] (by rfl) rfl rfl am_ ?_
  with_reducible refine (laws_qSame.calls k _ _ ju _ _ j1a true _ ?side1 ?side2 ?side3 ?side4 A40.out).mono ?_
  (case side1=>exact cR_ jc)
  (case side2=>exact (Kd.R_reads' jc.out).2.1)
  (case side3=>exact cR_ jd)
  (case side4=>exact (Kd.R_reads' jd.out).2.1)
  rintro e w' ⟨rfl,⟨nd,rfl⟩⟩
  refine ⟨_,rfl,?_⟩
  refine hK.out _ _ ⟨(blk_cell ja.out 0).trans rfl,(blk_cell ja.out 1).trans rfl,(blk_cell ja.out 2).trans rfl,(blk_cell ja.out 3).trans rfl⟩ (fun hHeld=>?_)
  clear hK K
  refine norm_ (a':=?_) ?_ ?_
  rotate_left
  ·show Act.put _ (some 191) _=_
   simp only [Act.put,List.setIfInBounds_toArray,List.set_cons_zero,List.set_cons_succ,i64_w,i32_w]
   rfl
  refine purS_ (i:=32) (N:=some 192) (fl_ 76 33) HT_.out ?_
  refine purS_ (i:=33) (N:=some 193) (fl_ 76 34) HT_.out ?_
  refine purS_ (i:=34) (N:=some 194) (fl_ 76 35) HT_.out ?_
  refine purS_ (i:=35) (N:=some 195) (fl_ 76 36) HT_.out ?_
  refine purS_ (i:=36) (N:=some 196) (fl_ 76 37) HT_.out ?_
  refine purS_ (i:=37) (N:=some 197) (fl_ 76 38) HT_.out ?_
  refine purS_ (i:=38) (N:=some 198) (fl_ 76 39) HT_.out ?_
  refine purS_ (i:=39) (N:=some 199) (fl_ 76 40) HT_.out ?_
  refine purS_ (i:=40) (N:=some 200) (fl_ 76 41) HT_.out ?_
  refine purS_ (i:=41) (N:=some 201) (fl_ 76 42) HT_.out ?_
  refine purS_ (i:=42) (N:=some 202) (fl_ 76 43) HT_.out ?_
  refine purS_ (i:=43) (N:=some 203) (fl_ 76 44) HT_.out ?_
  refine purS_ (i:=44) (N:=some 204) (fl_ 76 45) HT_.out ?_
  refine purS_ (i:=45) (N:=some 205) (fl_ 76 46) HT_.out ?_
  refine purS_ (i:=46) (N:=some 206) (fl_ 76 47) HT_.out ?_
  refine purS_ (i:=47) (N:=some 207) (fl_ 76 48) HT_.out ?_
  refine purS_ (i:=48) (N:=some 208) (fl_ 76 49) HT_.out ?_
  refine purS_ (i:=49) (N:=some 209) (fl_ 76 50) HT_.out ?_
  refine purS_ (i:=50) (N:=some 210) (fl_ 76 51) HT_.out ?_
  refine take_ (i:=51) (N:=some 211) (v:=?_) (a':=?_) (fr_ [52,24]) rfl rfl (take_ofW HT_.out HW_.out (by kernel_rfl)) (fun _ _ _ h=>h) (Or.inl ⟨by rfl,?_⟩) hHeld ?_ ?_
  rotate_left
  ·rintro w' ⟨s0,s1,s2,s3⟩
   go_simp
   with_reducible rfl
  rotate_left
  ·simp only [Act.put,List.setIfInBounds_toArray,List.set_cons_zero,List.set_cons_succ,i64_w,i32_w]
   rfl
  refine one_ (i:=52) (N:=some 212) (fr_ [53,23]) rfl rfl (one_of HT_.out (by kernel_rfl)) (by decide) (fun K hK=>?_)
  refine goes_ Tryz.func15 (by kernel_rfl) rfl #[.agg #[.int .i64 jf,.int .i64 jg,.int .i64 jh,.slice Ao18 je.length co18]] (by rfl) rfl rfl am_ ?_
  with_reducible refine (impl_IsLine.calls k jf jg jh _ _ je jr _ ?side1 ?side2 A45.out).mono ?_
  (case side1=>exact cR_ jb)
  (case side2=>exact (Kd.R_reads' jb.out).2.1)
  rintro e w68 ⟨rfl,hb⟩
  refine ⟨_,rfl,?_⟩
  have n0_:=rb_ jb hb
  have n1_:=rb_ jc hb
  have n2_:=rb_ jd hb
  have n3_:=bb_ ja hb
  have n4_:=ai_ (below_step (below_to1 HB ji.out) hb)
  clear jb
  clear jc
  clear jd
  clear ja
  clear HB
  have jb:=n0_
  have jc:=n1_
  have jd:=n2_
  have ja:=n3_
  have HB:=n4_
  clear n0_ n1_ n2_ n3_ n4_
  (try clear hb)
  (try clear hk)
  refine hK.out _ _ ⟨(blk_cell ja.out 0).trans rfl,(blk_cell ja.out 1).trans rfl,(blk_cell ja.out 2).trans rfl,(blk_cell ja.out 3).trans rfl⟩ (fun hHeld=>?_)
  clear hK K
  refine norm_ (a':=?_) ?_ ?_
  rotate_left
  ·show Act.put _ (some 212) _=_
   simp only [Act.put,List.setIfInBounds_toArray,List.set_cons_zero,List.set_cons_succ,i64_w,i32_w]
   rfl
  refine purS_ (i:=53) (N:=some 213) (fl_ 76 54) HT_.out ?_
  refine purS_ (i:=54) (N:=some 214) (fl_ 76 55) HT_.out ?_
  refine purS_ (i:=55) (N:=some 215) (fl_ 76 56) HT_.out ?_
  refine take_ (i:=56) (N:=some 216) (v:=?_) (a':=?_) (fr_ [57,19]) rfl rfl (take_ofW HT_.out HW_.out (by kernel_rfl)) (fun _ _ _ h=>h) (Or.inl ⟨by rfl,?_⟩) hHeld ?_ ?_
  rotate_left
  ·rintro w' ⟨s0,s1,s2,s3⟩
   go_simp
   with_reducible rfl
  rotate_left
  ·simp only [Act.put,List.setIfInBounds_toArray,List.set_cons_zero,List.set_cons_succ,i64_w,i32_w]
   rfl
  refine take_ (i:=58) (N:=some 218) (v:=?_) (a':=?_) (fr_ [57,1,1,17]) rfl rfl (take_ofW HT_.out HW_.out (by kernel_rfl)) (fun _ _ _ h=>h) (Or.inl ⟨by rfl,?_⟩) hHeld ?_ ?_
  rotate_left
  ·rintro w' ⟨s0,s1,s2,s3⟩
   go_simp
   with_reducible rfl
  rotate_left
  ·simp only [Act.put,List.setIfInBounds_toArray,List.set_cons_zero,List.set_cons_succ,i64_w,i32_w]
   rfl
  refine one_ (i:=57) (N:=some 217) (fr_ [59,17]) rfl rfl (one_of HT_.out (by kernel_rfl)) (by decide) (fun K hK=>?_)
  refine goes_ Tryz.func15 (by kernel_rfl) rfl #[.agg #[.int .i64 jf,.int .i64 jg,.int .i64 jh,.slice Ao18 je.length co18]] (by rfl) rfl rfl am_ ?_
  with_reducible refine (impl_IsLine.calls k jf jg jh _ _ je js _ ?side1 ?side2 A47.out).mono ?_
  (case side1=>exact cR_ jb)
  (case side2=>exact (Kd.R_reads' jb.out).2.1)
  rintro e w69 ⟨rfl,hb⟩
  refine ⟨_,rfl,?_⟩
  have n0_:=rb_ jb hb
  have n1_:=rb_ jc hb
  have n2_:=rb_ jd hb
  have n3_:=bb_ ja hb
  have n4_:=ai_ (below_step (below_to1 HB ji.out) hb)
  clear jb
  clear jc
  clear jd
  clear ja
  clear HB
  have jb:=n0_
  have jc:=n1_
  have jd:=n2_
  have ja:=n3_
  have HB:=n4_
  clear n0_ n1_ n2_ n3_ n4_
  (try clear hb)
  (try clear hk)
  refine hK.out _ _ ⟨(blk_cell ja.out 0).trans rfl,(blk_cell ja.out 1).trans rfl,(blk_cell ja.out 2).trans rfl,(blk_cell ja.out 3).trans rfl⟩ (fun hHeld=>?_)
  clear hK K
  refine norm_ (a':=?_) ?_ ?_
  rotate_left
  ·show Act.put _ (some 217) _=_
   simp only [Act.put,List.setIfInBounds_toArray,List.set_cons_zero,List.set_cons_succ,i64_w,i32_w]
   rfl
  refine one_ (i:=59) (N:=some 219) (fr_ [60,16]) rfl rfl (one_of HT_.out (by kernel_rfl)) (by decide) (fun K hK=>?_)
  refine goes_ Tryz.func16 (by kernel_rfl) rfl #[.agg #[.int .i64 jf,.int .i64 jg,.int .i64 jh,.slice Ao18 je.length co18]] (by rfl) rfl rfl am_ ?_
  with_reducible refine (spec_IsLine.calls k jf jg jh _ _ je jt _ ?side1 ?side2 A48.out).mono ?_
  (case side1=>exact cR_ jb)
  (case side2=>exact (Kd.R_reads' jb.out).2.1)
  rintro e w70 ⟨rfl,hb⟩
  refine ⟨_,rfl,?_⟩
  have n0_:=rb_ jb hb
  have n1_:=rb_ jc hb
  have n2_:=rb_ jd hb
  have n3_:=bb_ ja hb
  have n4_:=ai_ (below_step (below_to1 HB ji.out) hb)
  clear jb
  clear jc
  clear jd
  clear ja
  clear HB
  have jb:=n0_
  have jc:=n1_
  have jd:=n2_
  have ja:=n3_
  have HB:=n4_
  clear n0_ n1_ n2_ n3_ n4_
  (try clear hb)
  (try clear hk)
  refine hK.out _ _ ⟨(blk_cell ja.out 0).trans rfl,(blk_cell ja.out 1).trans rfl,(blk_cell ja.out 2).trans rfl,(blk_cell ja.out 3).trans rfl⟩ (fun hHeld=>?_)
  clear hK K
  refine norm_ (a':=?_) ?_ ?_
  rotate_left
  ·show Act.put _ (some 219) _=_
   simp only [Act.put,List.setIfInBounds_toArray,List.set_cons_zero,List.set_cons_succ,i64_w,i32_w]
   rfl
  refine purS_ (i:=60) (N:=some 220) (fl_ 76 61) HT_.out ?_
  refine purS_ (i:=61) (N:=some 221) (fl_ 76 62) HT_.out ?_
  refine purS_ (i:=62) (N:=some 222) (fl_ 76 63) HT_.out ?_
  refine purS_ (i:=63) (N:=some 223) (fl_ 76 64) HT_.out ?_
  refine purS_ (i:=64) (N:=some 224) (fl_ 76 65) HT_.out ?_
  refine pure_ (i:=65) (N:=some 225) (v:=undef) (a':=?_) (fl_ 76 66) rfl rfl (any_of HT_.out (by kernel_rfl)) (fun _ _ _ h=>h) (Or.inr ⟨by rfl,rfl⟩) ?_ ?_
  rotate_left
  ·simp only [Act.put,List.setIfInBounds_toArray,List.set_cons_zero,List.set_cons_succ,i64_w,i32_w]
   rfl
  refine pure_ (i:=66) (N:=some 226) (v:=undef) (a':=?_) (fl_ 76 67) rfl rfl (any_of HT_.out (by kernel_rfl)) (fun _ _ _ h=>h) (Or.inr ⟨by rfl,rfl⟩) ?_ ?_
  rotate_left
  ·simp only [Act.put,List.setIfInBounds_toArray,List.set_cons_zero,List.set_cons_succ,i64_w,i32_w]
   rfl
  refine purS_ (i:=67) (N:=some 227) (fl_ 76 68) HT_.out ?_
  refine purS_ (i:=68) (N:=some 228) (fl_ 76 69) HT_.out ?_
  refine purS_ (i:=69) (N:=some 229) (fl_ 76 70) HT_.out ?_
  refine purS_ (i:=70) (N:=some 230) (fl_ 76 71) HT_.out ?_
  refine purS_ (i:=71) (N:=some 231) (fl_ 76 72) HT_.out ?_
  refine pure_ (i:=72) (N:=some 232) (v:=undef) (a':=?_) (fl_ 76 73) rfl rfl (any_of HT_.out (by kernel_rfl)) (fun _ _ _ h=>h) (Or.inr ⟨by rfl,rfl⟩) ?_ ?_
  rotate_left
  ·simp only [Act.put,List.setIfInBounds_toArray,List.set_cons_zero,List.set_cons_succ,i64_w,i32_w]
   rfl
  refine pure_ (i:=73) (N:=some 233) (v:=undef) (a':=?_) (fl_ 76 74) rfl rfl (any_of HT_.out (by kernel_rfl)) (fun _ _ _ h=>h) (Or.inr ⟨by rfl,rfl⟩) ?_ ?_
  rotate_left
  ·simp only [Act.put,List.setIfInBounds_toArray,List.set_cons_zero,List.set_cons_succ,i64_w,i32_w]
   rfl
  refine purS_ (i:=74) (N:=some 234) (fl_ 76 75) HT_.out ?_
  refine purS_ (i:=75) (N:=some 235) (fl_ 76 76) HT_.out ?_
  refine done_ (done_of HT_.out (by kernel_rfl)) ?_
  try go_wp2
  go_meet
  case rel=>exact ⟨_,(false),rt_,H',⟨by first|omega|exact Nat.le_refl _⟩,⟨by (with_reducible repeat (first|apply Kd.R_alloc|apply Kd.R_drewN|apply Kd.R_drew));exact Kd.R_mono jc.out (fun _ hk=>hk.1.2)⟩,⟨by (with_reducible repeat (first|apply Kd.R_alloc|apply Kd.R_drewN|apply Kd.R_drew));exact Kd.R_mono jb.out (fun _ hk=>hk.1.2)⟩,⟨blk_to ja⟩,⟨below_to1 HB ji.out⟩⟩
 clear HC14
 (try clear c1);(try clear c4);(try clear c35);(try clear j1g);(try clear j1h);(try clear c36);(try clear j1i);(try clear j1j);(try clear c38);(try clear j1k);(try clear j1l);(try clear c41);(try clear c43);(try clear j1m);(try clear j1n)
 obtain ⟨kq,jp,rfl,HA,HJ13,j2o,j1b,ja,HB⟩:=hcut
 cases kq with
 | zero=>exact absurd HA.out (by simp [lw_.j0])
 | succ kj13 =>
  have H:=HA.out
  clear HA
  simp only [lw_.j0] at H
  by_cases c71:jp=true
  ·subst c71
   rw [if_pos rfl] at H
   exact nof_ HR_ H
  ·replace c71:=Bool.eq_false_iff.mpr c71
   subst c71
   rw [if_neg ft_] at H
   have HC72:=ai_ H
   clear H
   go_step
   go_step
   go_step
   go_step
   go_step
   exact lw_.seg1 k l0 A1 c1 l1 r w HTab_ HR_ hu26 HR1 HC1 jf jg jh je jq jn j1c j1d jl j1e ju jo j1f jk nd jj w16 j1t ji Ao18 co18 w19 w21 w23 w25 w27 j1o w29 w31 wc j2o j1b ja HB kj13 HJ13 HC72
end Go.Proofs.YthdnodmidbcgpaaGreatDoor.QR
