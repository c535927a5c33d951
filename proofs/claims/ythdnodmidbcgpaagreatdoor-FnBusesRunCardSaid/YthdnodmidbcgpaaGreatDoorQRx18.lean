import Derived.Test.YthdnodmidbcgpaaGreatDoorQRx17
namespace Go.Proofs.YthdnodmidbcgpaaGreatDoor.QR
open Go.Proofs.YthdnodmidbcgpaaGreatDoor.X Go.RowKit Go.Proofs.YthdnodmidbcgpaaGreatDoorW.PrintWords Go.Proofs.YthdnodmidbcgpaaGreatDoorW.PrintLast Go.Proofs.YthdnodmidbcgpaaGreatDoorW.PrintMore
set_option maxHeartbeats 8000000
set_option maxRecDepth 100000
attribute [local go_sem] max2_int min2_int max_two min_two max_three min_three max_four min_four
set_option linter.unusedVariables false
set_option linter.unusedSimpArgs false
def spec_ParseLine.f (k:Nat) (a0:ByteArray):Option (Int × Int × Int × List Int × Bool):=(spec_buParse.f k a0).bind fun bt624=>(if bt624.2.2.2.2=true then (some (bt624.1,bt624.2.1,bt624.2.2.1,bt624.2.2.2.1,true)) else (some (0,0,0,([]:List Int),false)))
theorem spec_ParseLine.calls (k:Nat) (a0:ByteArray) (r1:Int) (r2:Int) (r3:Int) (r4:List Int) (r5:Bool) (w:World) (h:spec_ParseLine.f k a0=some (r1,r2,r3,r4,r5)) :
  Calls Tryz.prog 38 #[.string a0] w fun e w' => ∃ Aa:Value,e=.returned (.tuple #[.agg #[.int .i64 r1,.int .i64 r2,.int .i64 r3,Aa],.bool r5])∧Kd.R Ki_ 3 w' w.heap.size (fun _=>True) Aa r4∧Below w.heap.size w w':=by
 have hu26:=Tryz.underlying26
 have HB:=ai_ (Below.refl w.heap.size w)
 have H:=h
 unfold spec_ParseLine.f at H
 clear h
 obtain ⟨⟨jg,ji,jn,jo,j1s⟩,A2,H⟩:=bs_ H
 (try dsimp only at H)
 by_cases c3:j1s=true
 ·subst c3
  rw [if_pos rfl] at H
  simp only [Option.some.injEq,Prod.mk.injEq] at H
  obtain ⟨rfl,rfl,rfl,rfl,rfl⟩:=H
  go_enter Tryz.func38,Tryz.ntmps38
  go_wp2_with (first|((with_reducible refine gate_dst (N:=2) rfl ?_);refine bxe_ #[.int .i64 0,.int .i64 0,.int .i64 0,.slice none 0 0] 26 ?_;intro jf hg w4 hbox hb;have jb:=ai_ (hbox);have js:=ai_ (gb_ hg (below_size (below_to HB)));have jc:=ai_ (gb_ hg (below_size (below_to HB)));replace HB:=ai_ (below_step (below_to HB) hb);clear hb hbox hg)|((with_reducible refine gate_callee (f:=68) rfl ?_);refine gl_ (some 8) Tryz.func68 #[.string a0] ?_;(with_reducible refine (spec_buParse.calls k a0 jg ji jn jo true _ A2.out).mono ?_);rintro e w5 ⟨j1t,rfl,ho0,hb⟩;refine ⟨_,rfl,?_⟩;have je:=ai_ (Kd.R_lower ho0 (below_size (below_to1 HB jc.out)));replace jb:=bb_ jb hb;replace HB:=ai_ (below_step (below_to1 HB jc.out) hb);(try clear hb);(try clear ho0))|((with_reducible refine gate_dst (N:=4) rfl ?_);refine bxe_ #[.int .i64 0,.int .i64 0,.int .i64 0,.slice none 0 0] 26 ?_;intro jh hg w6 hbox hb;replace je:=rb_ je hb;have jl:=ai_ (hbox);have jt:=ai_ (gb_ hg (below_size (below_to1 HB jc.out)));have jp:=ai_ (gb_ hg (below_size (below_to1 HB jc.out)));replace HB:=ai_ (below_step (below_to1 HB jc.out) hb);have ja:=ai_ (ne_ hg (blk_lt (blk_to jb)));replace jb:=bb_ jb hb;have jd:=ai_ ja.out.symm;clear hb hbox hg;have j2f:=jd.out;have j2g:=ja.out;obtain ⟨j1u,j1v,j1w,j1x,j1y,j1z,j2a,j2b⟩:=blk4_ jl;obtain ⟨Ao9,co9,eo9⟩:=Kd.R_slice je.out;subst eo9;obtain ⟨ju,jv,jw,jx,jy,jz,j1a,j1b⟩:=blk4_ jb))
  refine bodyPost_ret (results_ct rfl _ _ jf 26 #[.int .i64 jg,.int .i64 ji,.int .i64 jn,.slice Ao9 jo.length co9] (0,0) _ rfl (by (with_reducible repeat (first|refine blk_drewN ?_ _|refine blk_drew ?_|refine blk_alloc ?_ _));refine blk_put (cs:=#[.int .i64 jg,.int .i64 ji,.int .i64 jn,.slice none 0 0]) ?_ 3 _ rfl;(with_reducible repeat (first|refine blk_drewN ?_ _|refine blk_drew ?_|refine blk_alloc ?_ _));refine blk_put (cs:=#[.int .i64 jg,.int .i64 ji,.int .i64 0,.slice none 0 0]) ?_ 2 _ rfl;(with_reducible repeat (first|refine blk_drewN ?_ _|refine blk_drew ?_|refine blk_alloc ?_ _));refine blk_put (cs:=#[.int .i64 jg,.int .i64 0,.int .i64 0,.slice none 0 0]) ?_ 1 _ rfl;(with_reducible repeat (first|refine blk_drewN ?_ _|refine blk_drew ?_|refine blk_alloc ?_ _));refine blk_put (cs:=#[.int .i64 0,.int .i64 0,.int .i64 0,.slice none 0 0]) ?_ 0 _ rfl;(with_reducible repeat (first|refine blk_drewN ?_ _|refine blk_drew ?_|refine blk_alloc ?_ _));refine blk_far ?_ ja.out _;(with_reducible repeat (first|refine blk_drewN ?_ _|refine blk_drew ?_|refine blk_alloc ?_ _));refine blk_far ?_ ja.out _;(with_reducible repeat (first|refine blk_drewN ?_ _|refine blk_drew ?_|refine blk_alloc ?_ _));refine blk_far ?_ ja.out _;(with_reducible repeat (first|refine blk_drewN ?_ _|refine blk_drew ?_|refine blk_alloc ?_ _));refine blk_far ?_ ja.out _;(with_reducible repeat (first|refine blk_drewN ?_ _|refine blk_drew ?_|refine blk_alloc ?_ _));exact jb.out) Tryz.underlying26 rfl (by kernel_rfl)) rfl ?_
  exact ⟨_,rtE_,by (with_reducible repeat (first|apply Kd.R_alloc|apply Kd.R_drewN|apply Kd.R_drew));exact Kd.R_mono (Kd.R_far (p:=⟨jf,3,none⟩) (Kd.R_far (p:=⟨jf,2,none⟩) (Kd.R_far (p:=⟨jf,1,none⟩) (Kd.R_far (p:=⟨jf,0,none⟩) (Kd.R_far (p:=⟨jh,3,none⟩) (Kd.R_far (p:=⟨jh,2,none⟩) (Kd.R_far (p:=⟨jh,1,none⟩) (Kd.R_far (p:=⟨jh,0,none⟩) (Kd.R_types (Kd.R_types je.out jl.out (by decide)) jb.out (by decide)) (fun _ hk=>hk.1.2) (.int .i64 jg)) (fun _ hk=>hk.1.2) (.int .i64 ji)) (fun _ hk=>hk.1.2) (.int .i64 jn)) (fun _ hk=>hk.1.2) (.slice Ao9 jo.length co9)) (fun _ hk=>hk.2) (.int .i64 jg)) (fun _ hk=>hk.2) (.int .i64 ji)) (fun _ hk=>hk.2) (.int .i64 jn)) (fun _ hk=>hk.2) (.slice Ao9 jo.length co9)) (fun _ hk=>trivial),below_to2 HB jc.out jp.out⟩
 ·replace c3:=Bool.eq_false_iff.mpr c3
  subst c3
  rw [if_neg ft_] at H
  simp only [Option.some.injEq,Prod.mk.injEq] at H
  obtain ⟨rfl,rfl,rfl,rfl,rfl⟩:=H
  go_enter Tryz.func38,Tryz.ntmps38
  go_wp2_with (first|((with_reducible refine gate_dst (N:=2) rfl ?_);refine bxe_ #[.int .i64 0,.int .i64 0,.int .i64 0,.slice none 0 0] 26 ?_;intro jf hg w11 hbox hb;have jb:=ai_ (hbox);have js:=ai_ (gb_ hg (below_size (below_to HB)));have jc:=ai_ (gb_ hg (below_size (below_to HB)));replace HB:=ai_ (below_step (below_to HB) hb);clear hb hbox hg)|((with_reducible refine gate_callee (f:=68) rfl ?_);refine gl_ (some 8) Tryz.func68 #[.string a0] ?_;(with_reducible refine (spec_buParse.calls k a0 jg ji jn jo false _ A2.out).mono ?_);rintro e w12 ⟨j1t,rfl,ho0,hb⟩;refine ⟨_,rfl,?_⟩;have je:=ai_ (Kd.R_lower ho0 (below_size (below_to1 HB jc.out)));replace jb:=bb_ jb hb;replace HB:=ai_ (below_step (below_to1 HB jc.out) hb);(try clear hb);(try clear ho0))|((with_reducible refine gate_dst (N:=4) rfl ?_);refine bxe_ #[.int .i64 0,.int .i64 0,.int .i64 0,.slice none 0 0] 26 ?_;intro jh hg w13 hbox hb;replace je:=rb_ je hb;have jl:=ai_ (hbox);have jt:=ai_ (gb_ hg (below_size (below_to1 HB jc.out)));have jp:=ai_ (gb_ hg (below_size (below_to1 HB jc.out)));replace HB:=ai_ (below_step (below_to1 HB jc.out) hb);have ja:=ai_ (ne_ hg (blk_lt (blk_to jb)));replace jb:=bb_ jb hb;have jd:=ai_ ja.out.symm;clear hb hbox hg;have j2d:=jd.out;have j2e:=ja.out;obtain ⟨j1c,j1d,j1e,j1f,j1g,j1h,j1i,j1j⟩:=blk4_ jl;obtain ⟨Ao16,co16,eo16⟩:=Kd.R_slice je.out;subst eo16;obtain ⟨j1k,j1l,j1m,j1n,j1o,j1p,j1q,j1r⟩:=blk4_ jb))
  refine bodyPost_ret (results_ct rfl _ _ jf 26 #[.int .i64 0,.int .i64 0,.int .i64 0,.slice none 0 0] (0,0) _ rfl (by (with_reducible repeat (first|refine blk_drewN ?_ _|refine blk_drew ?_|refine blk_alloc ?_ _));refine blk_put (cs:=#[.int .i64 0,.int .i64 0,.int .i64 0,.slice none 0 0]) ?_ 3 _ rfl;(with_reducible repeat (first|refine blk_drewN ?_ _|refine blk_drew ?_|refine blk_alloc ?_ _));refine blk_put (cs:=#[.int .i64 0,.int .i64 0,.int .i64 0,.slice none 0 0]) ?_ 2 _ rfl;(with_reducible repeat (first|refine blk_drewN ?_ _|refine blk_drew ?_|refine blk_alloc ?_ _));refine blk_put (cs:=#[.int .i64 0,.int .i64 0,.int .i64 0,.slice none 0 0]) ?_ 1 _ rfl;(with_reducible repeat (first|refine blk_drewN ?_ _|refine blk_drew ?_|refine blk_alloc ?_ _));refine blk_put (cs:=#[.int .i64 0,.int .i64 0,.int .i64 0,.slice none 0 0]) ?_ 0 _ rfl;(with_reducible repeat (first|refine blk_drewN ?_ _|refine blk_drew ?_|refine blk_alloc ?_ _));refine blk_far ?_ ja.out _;(with_reducible repeat (first|refine blk_drewN ?_ _|refine blk_drew ?_|refine blk_alloc ?_ _));refine blk_far ?_ ja.out _;(with_reducible repeat (first|refine blk_drewN ?_ _|refine blk_drew ?_|refine blk_alloc ?_ _));refine blk_far ?_ ja.out _;(with_reducible repeat (first|refine blk_drewN ?_ _|refine blk_drew ?_|refine blk_alloc ?_ _));refine blk_far ?_ ja.out _;(with_reducible repeat (first|refine blk_drewN ?_ _|refine blk_drew ?_|refine blk_alloc ?_ _));exact jb.out) Tryz.underlying26 rfl (by kernel_rfl)) rfl ?_
  exact ⟨_,rtE_,by first|exact Kd.R_nil _ _ _ _ _|exact Kd.N_nil _ _ _ _ _|exact Kd.V_nil _ _ _ _ _|exact Kd.Q_nil _ _ _ _ _|exact Kd.S_nil _ _ _ _ _,below_to2 HB jc.out jp.out⟩
mutual
def laws_qLow.j0:Nat→Int→Int→Bool→Option (Bool)
  | 0,_,_,_=>none
  | k+1,x0,x1,x12=>if x12=true then (some false) else (laws_qLow.l0 k x0 x1)
def laws_qLow.l0:Nat→Int→Int→Option (Bool)
  | 0,_,_=>none
  | k+1,x5,x6=>if x6 > 0 then (if x6=0 then (none) else (laws_qLow.l0 k x6 (Int.tmod x5 x6))) else (some (x5 == 1))
end
def laws_qLow.f (k:Nat) (a0:Int) (a1:Int):Option (Bool):=if a0 < 0 then (laws_qLow.j0 k a0 a1 true) else (laws_qLow.j0 k a0 a1 (decide (a1 < 1)))
theorem laws_qLow.calls (k:Nat) (a0:Int) (a1:Int) (r:Bool) (w:World) (h:laws_qLow.f k a0 a1=some r) :
    Calls Tryz.prog 69 #[.int .i64 a0,.int .i64 a1] w fun e w'=>e=.returned (.bool r)∧Drawn0 w w':=by
  have H:=h
  unfold laws_qLow.f at H
  clear h
  have HC3:=ai_ H
  clear H
  go_enter Tryz.func69,Tryz.ntmps69
  go_upto_region 1 with (fail)
  repeat (go_quiet (fail);go_upto_region 1 with (fail))
  go_cut [12] (fun v12 wc => ∃ (kq:Nat) (jm:Bool),v12=.bool jm∧Aside0 (laws_qLow.j0 kq a0 a1 jm=some r)∧Aside0 (kq≤k)∧Drawn0 w wc)
  case first =>
    have H:=HC3.out
    clear HC3
    by_cases c4:a0 < 0
    · rw [if_pos c4] at H
      have jj:=decide_eq_true c4
      clear c4
      (first|rw [jj]|(simp only [i64_w,i32_w];rw [jj])|skip)
      have H':=ai_ H
      clear H
      go_wp2
      repeat (go_quiet (fail);try go_wp2)
      go_meet
      case rel=>exact ⟨_,(true),rt_,H',⟨by first|omega|exact Nat.le_refl _⟩,d0_⟩
    · rw [if_neg c4] at H
      have jj:=decide_eq_false c4
      clear c4
      (first|rw [jj]|(simp only [i64_w,i32_w];rw [jj])|skip)
      have H':=ai_ H
      clear H
      go_wp2
      repeat (go_quiet (fail);try go_wp2)
      go_meet
      case rel=>exact ⟨_,(decide (a1 < 1)),rt_,H',⟨by first|omega|exact Nat.le_refl _⟩,d0_⟩
  clear HC3
  try clear p2
  try clear c4
  try clear jj
  obtain ⟨kq,jm,rfl,HA,HJ2,⟨mc2,rfl⟩⟩:=hcut
  cases kq with
  | zero=>exact absurd HA.out (by simp [laws_qLow.j0])
  | succ kj2 =>
    have H:=HA.out
    clear HA
    simp only [laws_qLow.j0] at H
    by_cases c5:jm=true
    · subst c5
      rw [if_pos rfl] at H
      obtain rfl:=Option.some.inj H
      go_wp2
      repeat (go_quiet (fail);try go_wp2)
      go_ret
      exact ⟨rt_,d0_⟩
    replace c5:=Bool.eq_false_iff.mpr c5
    subst c5
    rw [if_neg ft_] at H
    have H':=ai_ H
    clear H
    go_wp2
    repeat (go_quiet (fail);try go_wp2)
    go_loopg [5,6] kj2 (fun kq v5 v6 w' => ∃ (jq:Int) (jk:Int),v5=.int .i64 jq∧v6=.int .i64 jk∧Aside0 (laws_qLow.l0 kq jq jk=some r)∧Aside0 (kq≤kj2)∧Drawn0 w w')
    case atStart=>exact ⟨(a0),(a1),rt_,rt_,H',⟨Nat.le_refl _⟩,d0_⟩
    clear H'
    try clear c2
    try clear p2
    try clear c4
    try clear jj
    try clear c5
    try clear p2
    obtain ⟨jq,jk,rfl,rfl,HA,HK2,⟨m2,rfl⟩⟩:=hrel
    cases gk with
    | zero=>exact absurd HA.out (by simp [laws_qLow.l0])
    | succ k2 =>
      have H:=HA.out
      clear HA
      simp only [laws_qLow.l0] at H
      by_cases c6:jk > 0
      rotate_left
      · rw [if_neg c6] at H
        have j2c:=decide_eq_false c6
        clear c6
        obtain rfl:=Option.some.inj H
        go_wp2
        repeat (go_quiet (fail);try go_wp2)
        go_ret
        exact ⟨rt_,d0_⟩
      rw [if_pos c6] at H
      have j2c:=decide_eq_true c6
      clear c6
      by_cases c7:jk=0
      · rw [if_pos c7] at H
        cases H
      · rw [if_neg c7] at H
        have j2h:=beq_eq_false_iff_ne.mpr c7
        have j2i:=bne_iff_ne.mpr c7
        have H':=ai_ H
        clear H
        go_wp2
        repeat (go_quiet (fail);try go_wp2)
        go_roundg k2
        case measure=>have:=HJ2.out;have:=HK2.out;omega
        case rel=>exact ⟨(jk),(Int.tmod jq jk),rt_,rt_,H',⟨by have:=HJ2.out;have:=HK2.out;omega⟩,d0_⟩
def laws_qIs.f (k:Nat) (a0:Int) (a1:Int) (a2:Int) (a3:Int):Option (Bool):=(laws_qLow.f k a0 a1).bind fun jr=>(if jr=true then (some ((wrap64 (a0*a3)) == (wrap64 (a2*a1)))) else (some false))
theorem laws_qIs.calls (k:Nat) (a0:Int) (a1:Int) (a2:Int) (a3:Int) (r:Bool) (w:World) (h:laws_qIs.f k a0 a1 a2 a3=some r) :
    Calls Tryz.prog 39 #[.int .i64 a0,.int .i64 a1,.int .i64 a2,.int .i64 a3] w fun e w'=>e=.returned (.bool r)∧Drawn0 w w':=by
  have H:=h
  unfold laws_qIs.f at H
  clear h
  obtain ⟨jr,A5,H⟩:=bs_ H
  (try dsimp only at H)
  by_cases c6:jr=true
  · subst c6
    rw [if_pos rfl] at H
    obtain rfl:=Option.some.inj H
    go_enter Tryz.func39,Tryz.ntmps39
    go_wp2_with (first|((with_reducible refine gate_callee (f:=69) rfl ?_);refine gl_ (some 11) Tryz.func69 #[.int .i64 a0,.int .i64 a1] ?_;(with_reducible refine (laws_qLow.calls k a0 a1 true _ A5.out).mono ?_);rintro e w' ⟨rfl,⟨nd,rfl⟩⟩;refine ⟨_,rfl,?_⟩))
    go_ret
    exact ⟨rt_,d0_⟩
  · replace c6:=Bool.eq_false_iff.mpr c6
    subst c6
    rw [if_neg ft_] at H
    obtain rfl:=Option.some.inj H
    go_enter Tryz.func39,Tryz.ntmps39
    go_wp2_with (first|((with_reducible refine gate_callee (f:=69) rfl ?_);refine gl_ (some 11) Tryz.func69 #[.int .i64 a0,.int .i64 a1] ?_;(with_reducible refine (laws_qLow.calls k a0 a1 false _ A5.out).mono ?_);rintro e w' ⟨rfl,⟨nd,rfl⟩⟩;refine ⟨_,rfl,?_⟩))
    go_ret
    exact ⟨rt_,d0_⟩
end Go.Proofs.YthdnodmidbcgpaaGreatDoor.QR
