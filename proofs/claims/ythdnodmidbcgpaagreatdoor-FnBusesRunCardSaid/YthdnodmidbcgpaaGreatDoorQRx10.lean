import Derived.Test.YthdnodmidbcgpaaGreatDoorQRx6
import Derived.Test.YthdnodmidbcgpaaGreatDoorQRx9
namespace Go.Proofs.YthdnodmidbcgpaaGreatDoor.QR
open Go.Proofs.YthdnodmidbcgpaaGreatDoor.X Go.RowKit Go.Proofs.YthdnodmidbcgpaaGreatDoorW.PrintWords Go.Proofs.YthdnodmidbcgpaaGreatDoorW.PrintLast Go.Proofs.YthdnodmidbcgpaaGreatDoorW.PrintMore
attribute [local go_sem] max2_int min2_int max_two min_two max_three min_three max_four min_four
set_option linter.unusedVariables false
set_option linter.unusedSimpArgs false
def impl_ParseLine.j0:Nat→ByteArray→List Int→List Int→Bool→Option (Int × Int × Int × List Int × Bool)
 | 0,_,_,_,_=>none
 | k+1,x0,x11,x13,x60=>if x60=true then (some (0,0,0,([]:List Int),false)) else (if 0 < (x11.length:Int) then (if 1 < (x11.length:Int) then (if 2 < (x11.length:Int) then ((impl_IsLine.f k (rd x11 0) (rd x11 1) (rd x11 2) x13).bind fun j1g=>(if j1g=true then ((impl_lineText.f k (rd x11 0) (rd x11 1) (rd x11 2) x13).bind fun j1d=>(if j1d.toList=x0.toList then (some (rd x11 0,rd x11 1,rd x11 2,x13,true)) else (some (0,0,0,([]:List Int),false)))) else (some (0,0,0,([]:List Int),false)))) else (none)) else (none)) else (none))
def impl_ParseLine.f (k:Nat) (a0:ByteArray):Option (Int × Int × Int × List Int × Bool):=(strings_Cut.f a0 (⟨#[43]⟩:ByteArray)).bind fun bt362=>((strings_Cut.f bt362.2.1 (⟨#[120]⟩:ByteArray)).bind fun bt365=>((strings_Cut.f bt365.2.1 (⟨#[58]⟩:ByteArray)).bind fun bt368=>(if bt362.1.size+1≤9223372036854775807 then (if (bt362.1 ++ (⟨#[44]⟩:ByteArray)).size+bt365.1.size≤9223372036854775807 then (if ((bt362.1 ++ (⟨#[44]⟩:ByteArray)) ++ bt365.1).size+1≤9223372036854775807 then (if (((bt362.1 ++ (⟨#[44]⟩:ByteArray)) ++ bt365.1) ++ (⟨#[44]⟩:ByteArray)).size+bt368.1.size≤9223372036854775807 then ((impl_readNumbers.f k ((((bt362.1 ++ (⟨#[44]⟩:ByteArray)) ++ bt365.1) ++ (⟨#[44]⟩:ByteArray)) ++ bt368.1) (⟨#[44]⟩:ByteArray)).bind fun bt371=>((impl_readNumbers.f k bt368.2.1 (⟨#[44]⟩:ByteArray)).bind fun bt375=>(if bt371.2=true then (if bt375.2=true then (impl_ParseLine.j0 k a0 bt371.1 bt375.1 ((bt371.1.length:Int) != 3)) else (impl_ParseLine.j0 k a0 bt371.1 bt375.1 true)) else (impl_ParseLine.j0 k a0 bt371.1 bt375.1 true)))) else (none)) else (none)) else (none)) else (none))))
def impl_ParseLine.T8:Bool × List (List Nat × List Nat):=(true,[([],[]),([0],[0]),([1],[1]),([],[]),([3],[3]),([4],[4]),([],[]),([6],[6]),([7],[7]),([],[]),([2,5,8,9],[2,5,8,9]),([],[]),([11,10,0,1,2,3,4,5,6,7,8,9,10,11],[10,11])])
def impl_ParseLine.B8:List Nat:=[0,1,3,0,8,24,0,64,192,0,1023,0,4095]
theorem impl_ParseLine.tab8:rtab .any (opsOf Tryz.f21 8)=impl_ParseLine.T8:=by kernel_rfl
theorem impl_ParseLine.bits8:waitsOk impl_ParseLine.T8.2 impl_ParseLine.B8=true:=by kernel_rfl
set_option maxHeartbeats 8000000 in
set_option maxRecDepth 100000 in
theorem impl_ParseLine.calls (k:Nat) (a0:ByteArray) (r1:Int) (r2:Int) (r3:Int) (r4:List Int) (r5:Bool) (w:World) (h:impl_ParseLine.f k a0=some (r1,r2,r3,r4,r5)) (hT_:Go.Proofs.YthdnodmidbcgpaaGreatDoor.XText.T2 w) :
  Calls Tryz.prog 21 #[.string a0] w fun e w' => ∃ Aa:Value,e=.returned (.tuple #[.agg #[.int .i64 r1,.int .i64 r2,.int .i64 r3,Aa],.bool r5])∧Kd.R Ki_ 3 w' w.heap.size (fun _=>True) Aa r4∧Below w.heap.size w w':=by
 have HTab_:=ai_ hT_
 clear hT_
 have hu26:=Tryz.underlying26
 have HB:=ai_ (Below.refl w.heap.size w)
 have H:=h
 unfold impl_ParseLine.f at H
 clear h
 obtain ⟨⟨jp,j1h,j4s⟩,A2,H⟩:=bs_ H
 (try dsimp only at H)
 obtain ⟨⟨jq,j1i,j4t⟩,A3,H⟩:=bs_ H
 (try dsimp only at H)
 obtain ⟨⟨j1c,j1j,j4u⟩,A4,H⟩:=bs_ H
 (try dsimp only at H)
 by_cases c5:jp.size+1≤9223372036854775807
 rotate_left
 ·rw [if_neg c5] at H
  cases H
 rw [if_pos c5] at H
 have j4v:=eq_true c5
 have j4w:=decide_eq_true c5
 try have j4x:(9223372036854775807 < jp.size+1)=False:=eq_false (Nat.not_lt.2 c5)
 by_cases c6:(jp ++ (⟨#[44]⟩:ByteArray)).size+jq.size≤9223372036854775807
 rotate_left
 ·rw [if_neg c6] at H
  cases H
 rw [if_pos c6] at H
 have j4y:=eq_true c6
 have j4z:=decide_eq_true c6
 try have j5a:(9223372036854775807 < (jp ++ (⟨#[44]⟩:ByteArray)).size+jq.size)=False:=eq_false (Nat.not_lt.2 c6)
 have j5u:(9223372036854775807 < jp.size+1+jq.size)=False:=eq_false (by have h_:=c6;simp only [ByteArray.size_append] at h_;have:(⟨#[44]⟩:ByteArray).size=1:=rfl;omega)
 have j5v:decide (jp.size+1+jq.size≤9223372036854775807)=true:=decide_eq_true (by have h_:=c6;simp only [ByteArray.size_append] at h_;have:(⟨#[44]⟩:ByteArray).size=1:=rfl;omega)
 by_cases c7:((jp ++ (⟨#[44]⟩:ByteArray)) ++ jq).size+1≤9223372036854775807
 rotate_left
 ·rw [if_neg c7] at H
  cases H
 rw [if_pos c7] at H
 have j5b:=eq_true c7
 have j5c:=decide_eq_true c7
 try have j5d:(9223372036854775807 < ((jp ++ (⟨#[44]⟩:ByteArray)) ++ jq).size+1)=False:=eq_false (Nat.not_lt.2 c7)
 have j5w:(9223372036854775807 < jp.size+1+jq.size+1)=False:=eq_false (by have h_:=c7;simp only [ByteArray.size_append] at h_;have:(⟨#[44]⟩:ByteArray).size=1:=rfl;omega)
 have j5x:decide (jp.size+1+jq.size+1≤9223372036854775807)=true:=decide_eq_true (by have h_:=c7;simp only [ByteArray.size_append] at h_;have:(⟨#[44]⟩:ByteArray).size=1:=rfl;omega)
 by_cases c8:(((jp ++ (⟨#[44]⟩:ByteArray)) ++ jq) ++ (⟨#[44]⟩:ByteArray)).size+j1c.size≤9223372036854775807
 rotate_left
 ·rw [if_neg c8] at H
  cases H
 rw [if_pos c8] at H
 have j5e:=eq_true c8
 have j5f:=decide_eq_true c8
 try have j5g:(9223372036854775807 < (((jp ++ (⟨#[44]⟩:ByteArray)) ++ jq) ++ (⟨#[44]⟩:ByteArray)).size+j1c.size)=False:=eq_false (Nat.not_lt.2 c8)
 have j5y:(9223372036854775807 < jp.size+1+jq.size+1+j1c.size)=False:=eq_false (by have h_:=c8;simp only [ByteArray.size_append] at h_;have:(⟨#[44]⟩:ByteArray).size=1:=rfl;omega)
 have j5z:decide (jp.size+1+jq.size+1+j1c.size≤9223372036854775807)=true:=decide_eq_true (by have h_:=c8;simp only [ByteArray.size_append] at h_;have:(⟨#[44]⟩:ByteArray).size=1:=rfl;omega)
 obtain ⟨⟨je,j1k⟩,A9,H⟩:=bs_ H
 (try dsimp only at H)
 obtain ⟨⟨jo,j1l⟩,A10,H⟩:=bs_ H
 (try dsimp only at H)
 have HC11:=ai_ H
 clear H
 go_enter Tryz.func21,Tryz.ntmps21
 go_upto_region 6 with (first|((with_reducible refine gate_dst (N:=2) rfl ?_);(try (refine gate_guard (by rfl) ?_;dsimp only));refine bxe_ #[.int .i64 0,.int .i64 0,.int .i64 0,.slice none 0 0] 26 ?_;intro jr hg w12 hbox hb;have jc:=ai_ (hbox);have j5h:=ai_ (gb_ hg (below_size (below_to HB)));have ji:=ai_ (gb_ hg (below_size (below_to HB)));replace HB:=ai_ (below_step (below_to HB) hb);clear hb hbox hg)|((with_reducible refine gate_callee (f:=56) rfl ?_);refine gl_ (some 18) Tryz.func56 #[.string a0,.string (⟨#[43]⟩:ByteArray)] ?_;(with_reducible refine (strings_Cut.calls a0 (⟨#[43]⟩:ByteArray) jp j1h j4s _ A2.out ?sidet).mono ?_);(case sidet=>refine Go.Proofs.YthdnodmidbcgpaaGreatDoor.XText.T2.on (w:=w) HTab_.out ?_;repeat (first|(with_reducible first|exact HB.out|exact Below.refl _ _|apply below_alloc|apply pw_below_drewN|apply below_drew1|refine below_set ?_ ji.out|refine below_set ?_ jn.out)|exact HB.out|exact Below.refl _ _));rintro e w13 ⟨rfl,hb⟩;refine ⟨_,rfl,?_⟩;replace jc:=bb_ jc hb;replace HB:=ai_ (below_step (below_to1 HB ji.out) hb);(try clear hb))|((with_reducible refine gate_callee (f:=56) rfl ?_);refine gl_ (some 24) Tryz.func56 #[.string j1h,.string (⟨#[120]⟩:ByteArray)] ?_;(with_reducible refine (strings_Cut.calls j1h (⟨#[120]⟩:ByteArray) jq j1i j4t _ A3.out ?sidet).mono ?_);(case sidet=>refine Go.Proofs.YthdnodmidbcgpaaGreatDoor.XText.T2.on (w:=w) HTab_.out ?_;repeat (first|(with_reducible first|exact HB.out|exact Below.refl _ _|apply below_alloc|apply pw_below_drewN|apply below_drew1|refine below_set ?_ ji.out|refine below_set ?_ jn.out)|exact HB.out|exact Below.refl _ _));rintro e w14 ⟨rfl,hb⟩;refine ⟨_,rfl,?_⟩;replace jc:=bb_ jc hb;replace HB:=ai_ (below_step (below_to1 HB ji.out) hb);(try clear hb))|((with_reducible refine gate_callee (f:=56) rfl ?_);refine gl_ (some 30) Tryz.func56 #[.string j1i,.string (⟨#[58]⟩:ByteArray)] ?_;(with_reducible refine (strings_Cut.calls j1i (⟨#[58]⟩:ByteArray) j1c j1j j4u _ A4.out ?sidet).mono ?_);(case sidet=>refine Go.Proofs.YthdnodmidbcgpaaGreatDoor.XText.T2.on (w:=w) HTab_.out ?_;repeat (first|(with_reducible first|exact HB.out|exact Below.refl _ _|apply below_alloc|apply pw_below_drewN|apply below_drew1|refine below_set ?_ ji.out|refine below_set ?_ jn.out)|exact HB.out|exact Below.refl _ _));rintro e w15 ⟨rfl,hb⟩;refine ⟨_,rfl,?_⟩;replace jc:=bb_ jc hb;replace HB:=ai_ (below_step (below_to1 HB ji.out) hb);(try clear hb))|((with_reducible refine gate_callee (f:=57) rfl ?_);refine gl_ (some 42) Tryz.func57 #[.string ((((jp ++ (⟨#[44]⟩:ByteArray)) ++ jq) ++ (⟨#[44]⟩:ByteArray)) ++ j1c),.string (⟨#[44]⟩:ByteArray)] ?_;(with_reducible refine (impl_readNumbers.calls k ((((jp ++ (⟨#[44]⟩:ByteArray)) ++ jq) ++ (⟨#[44]⟩:ByteArray)) ++ j1c) (⟨#[44]⟩:ByteArray) je j1k _ A9.out ?sidet).mono ?_);(case sidet=>refine Go.Proofs.YthdnodmidbcgpaaGreatDoor.XText.T2.on (w:=w) HTab_.out ?_;repeat (first|(with_reducible first|exact HB.out|exact Below.refl _ _|apply below_alloc|apply pw_below_drewN|apply below_drew1|refine below_set ?_ ji.out|refine below_set ?_ jn.out)|exact HB.out|exact Below.refl _ _));rintro e w16 ⟨j1m,rfl,ho0,hb⟩;refine ⟨_,rfl,?_⟩;have js:=ai_ (Kd.R_lower ho0 (below_size (below_to1 HB ji.out)));replace jc:=bb_ jc hb;replace HB:=ai_ (below_step (below_to1 HB ji.out) hb);(try clear hb);(try clear ho0))|((with_reducible refine gate_callee (f:=57) rfl ?_);refine gl_ (some 47) Tryz.func57 #[.string j1j,.string (⟨#[44]⟩:ByteArray)] ?_;(with_reducible refine (impl_readNumbers.calls k j1j (⟨#[44]⟩:ByteArray) jo j1l _ A10.out ?sidet).mono ?_);(case sidet=>refine Go.Proofs.YthdnodmidbcgpaaGreatDoor.XText.T2.on (w:=w) HTab_.out ?_;repeat (first|(with_reducible first|exact HB.out|exact Below.refl _ _|apply below_alloc|apply pw_below_drewN|apply below_drew1|refine below_set ?_ ji.out|refine below_set ?_ jn.out)|exact HB.out|exact Below.refl _ _));rintro e w17 ⟨j1n,rfl,ho0,hb⟩;refine ⟨_,rfl,?_⟩;have j1e:=ai_ (Kd.R_lower (Kd.R_new' ho0 (Kd.R_lt (kd_to js))) (below_size (below_to1 HB ji.out)));replace js:=ai_ (Kd.R_elder' (kd_to js) (Kd.R_base ho0) hb);replace jc:=bb_ jc hb;replace HB:=ai_ (below_step (below_to1 HB ji.out) hb);(try clear hb);(try clear ho0)))
 (try simp only [Act.put,List.setIfInBounds_toArray,List.set_cons_zero,List.set_cons_succ])
 go_cut [60] (fun v60 wc => ∃ (kq:Nat) (jz:Bool),v60=.bool jz∧Aside0 (impl_ParseLine.j0 kq a0 je jo jz=some (r1,r2,r3,r4,r5))∧Aside0 (kq≤k)∧Aside0 (Kd.R Ki_ 3 wc w.heap.size (fun k_=>some k_≠(j1n:Value).ownBlock) j1m je)∧Aside0 (Kd.R Ki_ 3 wc w.heap.size (fun k_=>some k_≠(j1m:Value).ownBlock) j1n jo)∧Aside0 (wc.heap[jr]?=some (.cells #[.int .i64 0,.int .i64 0,.int .i64 0,(.slice none 0 0)] 26 (0,0)))∧Aside0 (Below w.heap.size w wc))
 case first =>
  have H:=HC11.out
  clear HC11
  by_cases c18:j1k=true
  ·subst c18
   rw [if_pos rfl] at H
   by_cases c19:j1l=true
   ·subst c19
    rw [if_pos rfl] at H
    have H':=ai_ H
    clear H
    obtain ⟨Ao20,co20,eo20⟩:=Kd.R_slice js.out
    subst eo20
    go_wp2
    go_meet
    case rel=>exact ⟨_,(((je.length:Int) != 3)),rt_,H',⟨by first|omega|exact Nat.le_refl _⟩,⟨by (with_reducible repeat (first|apply Kd.R_alloc|apply Kd.R_drewN|apply Kd.R_drew));exact Kd.R_mono js.out (fun _ hk=>hk.2)⟩,⟨by (with_reducible repeat (first|apply Kd.R_alloc|apply Kd.R_drewN|apply Kd.R_drew));exact Kd.R_mono j1e.out (fun _ hk=>hk.2)⟩,⟨blk_to jc⟩,⟨below_to1 HB ji.out⟩⟩
   ·replace c19:=Bool.eq_false_iff.mpr c19
    subst c19
    rw [if_neg ft_] at H
    have H':=ai_ H
    clear H
    go_wp2
    go_meet
    case rel=>exact ⟨_,(true),rt_,H',⟨by first|omega|exact Nat.le_refl _⟩,⟨by (with_reducible repeat (first|apply Kd.R_alloc|apply Kd.R_drewN|apply Kd.R_drew));exact Kd.R_mono js.out (fun _ hk=>hk.2)⟩,⟨by (with_reducible repeat (first|apply Kd.R_alloc|apply Kd.R_drewN|apply Kd.R_drew));exact Kd.R_mono j1e.out (fun _ hk=>hk.2)⟩,⟨blk_to jc⟩,⟨below_to1 HB ji.out⟩⟩
  ·replace c18:=Bool.eq_false_iff.mpr c18
   subst c18
   rw [if_neg ft_] at H
   have H':=ai_ H
   clear H
   go_wp2
   go_meet
   case rel=>exact ⟨_,(true),rt_,H',⟨by first|omega|exact Nat.le_refl _⟩,⟨by (with_reducible repeat (first|apply Kd.R_alloc|apply Kd.R_drewN|apply Kd.R_drew));exact Kd.R_mono js.out (fun _ hk=>hk.2)⟩,⟨by (with_reducible repeat (first|apply Kd.R_alloc|apply Kd.R_drewN|apply Kd.R_drew));exact Kd.R_mono j1e.out (fun _ hk=>hk.2)⟩,⟨blk_to jc⟩,⟨below_to1 HB ji.out⟩⟩
 clear HC11
 try clear c1
 try clear c2
 try clear p2
 try clear c5
 try clear j4v
 try clear j4w
 try clear j4x
 try clear c6
 try clear j4y
 try clear j4z
 try clear j5a
 try clear c7
 try clear j5b
 try clear j5c
 try clear j5d
 try clear c8
 try clear j5e
 try clear j5f
 try clear j5g
 try clear c18
 try clear c19
 obtain ⟨kq,jz,rfl,HA,HJ10,jb,jg,jc,HB⟩:=hcut
 cases kq with
 | zero=>exact absurd HA.out (by simp [impl_ParseLine.j0])
 | succ kj10 =>
  have H:=HA.out
  clear HA
  simp only [impl_ParseLine.j0] at H
  by_cases c21:jz=true
  ·subst c21
   rw [if_pos rfl] at H
   simp only [Option.some.injEq,Prod.mk.injEq] at H
   obtain ⟨rfl,rfl,rfl,rfl,rfl⟩:=H
   obtain ⟨j1q,j1r,j1s,j1t,j1u,j1v,j1w,j1x⟩:=blk4_ jc
   go_wp2
   refine bodyPost_ret (results_ct rfl _ _ jr 26 #[.int .i64 0,.int .i64 0,.int .i64 0,.slice none 0 0] (0,0) _ rfl (bput4 jc) Tryz.underlying26 rfl (by kernel_rfl)) rfl ?_
   exact ⟨_,rtE_,by first|exact Kd.R_nil _ _ _ _ _|exact Kd.N_nil _ _ _ _ _|exact Kd.V_nil _ _ _ _ _|exact Kd.Q_nil _ _ _ _ _|exact Kd.S_nil _ _ _ _ _,below_to1 HB ji.out⟩
  replace c21:=Bool.eq_false_iff.mpr c21
  subst c21
  rw [if_neg ft_] at H
  by_cases c23:0 < (je.length:Int)
  rotate_left
  ·rw [if_neg c23] at H
   cases H
  rw [if_pos c23] at H
  have j5i:=decide_eq_true c23
  have j5j:decide (0 < je.length)=true:=decide_eq_true (by omega)
  clear c23
  by_cases c24:1 < (je.length:Int)
  rotate_left
  ·rw [if_neg c24] at H
   cases H
  rw [if_pos c24] at H
  have j5k:=decide_eq_true c24
  have j5l:decide (1 < je.length)=true:=decide_eq_true (by omega)
  clear c24
  by_cases c25:2 < (je.length:Int)
  rotate_left
  ·rw [if_neg c25] at H
   cases H
  rw [if_pos c25] at H
  have j5m:=decide_eq_true c25
  have j5n:decide (2 < je.length)=true:=decide_eq_true (by omega)
  clear c25
  obtain ⟨j1g,A26,H⟩:=bs_ H
  (try dsimp only at H)
  by_cases c27:j1g=true
  rotate_left
  ·replace c27:=Bool.eq_false_iff.mpr c27
   subst c27
   rw [if_neg ft_] at H
   simp only [Option.some.injEq,Prod.mk.injEq] at H
   obtain ⟨rfl,rfl,rfl,rfl,rfl⟩:=H
   try go_wp2
   have n0_:=ai_ (Kd.R_drew jb.out)
   have n1_:=ai_ (Kd.R_drew jg.out)
   have n2_:=ai_ (blk_drew jc.out)
   have n3_:=ai_ (below_drew1 HB.out)
   clear jb
   clear jg
   clear jc
   clear HB
   have jb:=n0_
   have jg:=n1_
   have jc:=n2_
   have HB:=n3_
   clear n0_ n1_ n2_ n3_
   obtain ⟨Ao60,co60,eo60⟩:=Kd.R_slice jb.out
   (first|subst eo60|(injection eo60 with f1_ f2_ f3_;have f4_:=f1_.symm;have f5_:=f3_.symm;clear f1_ f2_ f3_;subst f4_;subst f5_))
   have jt:0≤(0:Int):=(by omega)
   have ju:0 < (je.length:Int):=odt_
   obtain ⟨jj,e379,jk⟩:=Kd.at_int (Kd.R_reads' jb.out).2.2 0 jt ju
   cases e379
   have qi379:(0 < je.length)=True:=eq_true (by omega)
   (try rw [show ((0:Int)).toNat=0 from rfl] at jk)
   (try rw [Addr.add_zero'] at jk)
   replace jt:=eq_true jt
   replace ju:=eq_true ju
   have jv:0≤(1:Int):=(by omega)
   have jw:1 < (je.length:Int):=odt_
   obtain ⟨j1a,e380,jl⟩:=Kd.at_int (Kd.R_reads' jb.out).2.2 1 jv jw
   obtain rfl:jj=j1a:=(by injection e380)
   (try simp only [show (1:Int).toNat=1 from rfl,Nat.reduceMul,Nat.reduceEqDiff,Go.Addr.add,↓reduceIte] at jl)
   have qi380:(1 < je.length)=True:=eq_true (by omega)
   (try rw [show ((1:Int)).toNat=1 from rfl] at jl)
   replace jv:=eq_true jv
   replace jw:=eq_true jw
   have jx:0≤(2:Int):=(by omega)
   have jy:2 < (je.length:Int):=odt_
   obtain ⟨j1b,e381,jm⟩:=Kd.at_int (Kd.R_reads' jb.out).2.2 2 jx jy
   obtain rfl:jj=j1b:=(by injection e381)
   (try simp only [show (2:Int).toNat=2 from rfl,Nat.reduceMul,Nat.reduceEqDiff,Go.Addr.add,↓reduceIte] at jm)
   have qi381:(2 < je.length)=True:=eq_true (by omega)
   (try rw [show ((2:Int)).toNat=2 from rfl] at jm)
   replace jx:=eq_true jx
   replace jy:=eq_true jy
   obtain ⟨Ao61,co61,eo61⟩:=Kd.R_slice jg.out
   (first|subst eo61|(injection eo61 with f1_ f2_ f3_;have f4_:=f1_.symm;have f5_:=f3_.symm;clear f1_ f2_ f3_;subst f4_;subst f5_))
   refine start_ (n:=13) (S:=fun w'=>w'.cell? jj=some (.int .i64 (rd je 0))∧w'.cell? ⟨jj.block,jj.off+1,none⟩=some (.int .i64 (rd je 1))∧w'.cell? ⟨jj.block,jj.off+2,none⟩=some (.int .i64 (rd je 2))) (ds:=[]) (fr_ [0,13]) (by kernel_rfl) rfl rfl ⟨jk,jl,jm⟩ (fun hHeld=>?_);refine with_tabW impl_ParseLine.tab8 impl_ParseLine.bits8 (fun HT_ HW_=>?_)
   generalize wc.drew=w59 at jb jg jc HB jk jl jm hHeld ⊢
   refine purS_ (i:=0) (N:=some 62) (fl_ 13 1) HT_.out ?_
   refine purS_ (i:=1) (N:=some 63) (fl_ 13 2) HT_.out ?_
   refine purS_ (i:=3) (N:=some 65) (fr_ [2,1,1,9]) HT_.out ?_
   refine purS_ (i:=4) (N:=some 66) (fr_ [2,1,2,8]) HT_.out ?_
   refine purS_ (i:=6) (N:=some 68) (fr_ [2,1,2,1,1,6]) HT_.out ?_
   refine purS_ (i:=7) (N:=some 69) (fr_ [2,1,2,1,2,5]) HT_.out ?_
   refine purS_ (i:=9) (N:=some 71) (fr_ [2,1,2,1,2,1,1,3]) HT_.out ?_
   refine take_ (i:=2) (N:=some 64) (v:=?_) (a':=?_) (fr_ [5,1,2,1,1,3]) rfl rfl (take_ofW HT_.out HW_.out (by kernel_rfl)) (fun _ _ _ h=>h) (Or.inl ⟨by rfl,?_⟩) hHeld ?_ ?_
   rotate_left
   ·rintro w' ⟨s0,s1,s2⟩
    go_simp
    with_reducible rfl
   rotate_left
   ·simp only [Act.put,List.setIfInBounds_toArray,List.set_cons_zero,List.set_cons_succ,i64_w,i32_w]
    rfl
   refine take_ (i:=5) (N:=some 67) (v:=?_) (a':=?_) (fr_ [8,1,1,3]) rfl rfl (take_ofW HT_.out HW_.out (by kernel_rfl)) (fun _ _ _ h=>h) (Or.inl ⟨by rfl,?_⟩) hHeld ?_ ?_
   rotate_left
   ·rintro w' ⟨s0,s1,s2⟩
    go_simp
    with_reducible rfl
   rotate_left
   ·simp only [Act.put,List.setIfInBounds_toArray,List.set_cons_zero,List.set_cons_succ,i64_w,i32_w]
    rfl
   refine take_ (i:=8) (N:=some 70) (v:=?_) (a':=?_) (fr_ [10,3]) rfl rfl (take_ofW HT_.out HW_.out (by kernel_rfl)) (fun _ _ _ h=>h) (Or.inl ⟨by rfl,?_⟩) hHeld ?_ ?_
   rotate_left
   ·rintro w' ⟨s0,s1,s2⟩
    go_simp
    with_reducible rfl
   rotate_left
   ·simp only [Act.put,List.setIfInBounds_toArray,List.set_cons_zero,List.set_cons_succ,i64_w,i32_w]
    rfl
   refine purS_ (i:=10) (N:=some 72) (fl_ 13 11) HT_.out ?_
   refine one_ (i:=11) (N:=some 15) (fr_ [12,1]) rfl rfl (one_of HT_.out (by kernel_rfl)) (by decide) (fun K hK=>?_)
   refine box_step ?hg (N:=15) ?hd (cs:=#[.int .i64 0,.int .i64 0,.int .i64 0,.slice none 0 0]) (t:=26) ?hr ?_;(case hd=>rfl);(case hg=>rfl);(case hr=>first|(go_simp;done)|(go_simp;rfl))
   intro jd hg w62 hbox hb
   have HS0_:=(hb.cell (World.block_lt_of_cell? _ _ (hHeld.1))).trans (hHeld.1)
   have HS1_:=(hb.cell (World.block_lt_of_cell? _ _ (hHeld.2.1))).trans (hHeld.2.1)
   have HS2_:=(hb.cell (World.block_lt_of_cell? _ _ (hHeld.2.2))).trans (hHeld.2.2)
   have n0_:=rb_ jb hb
   have n1_:=rb_ jg hb
   have n2_:=bb_ jc hb
   have n3_:=ai_ (below_step (below_to1 HB ji.out) hb)
   have n4_:=ai_ (hbox)
   have n5_:=ai_ (gb_ hg (below_size (below_to1 HB ji.out)))
   have n6_:=ai_ (gb_ hg (below_size (below_to1 HB ji.out)))
   have n7_:=ai_ (ne_ hg (blk_lt (blk_to jc)))
   have n8_:=ai_ (ne_ hg (blk_lt (blk_to jc))).symm
   clear jb
   clear jg
   clear jc
   clear HB
   have jb:=n0_
   have jg:=n1_
   have jc:=n2_
   have HB:=n3_
   have ja:=n4_
   have j1f:=n5_
   have jn:=n6_
   have jf:=n7_
   have jh:=n8_
   clear n0_ n1_ n2_ n3_ n4_ n5_ n6_ n7_ n8_
   clear hb hbox hg
   refine hK.out _ _ ⟨HS0_,HS1_,HS2_⟩ (fun hHeld=>?_)
   clear hK K
   refine norm_ (a':=?_) ?_ ?_
   rotate_left
   ·show Act.put _ (some 15) _=_
    simp only [Act.put,List.setIfInBounds_toArray,List.set_cons_zero,List.set_cons_succ,i64_w,i32_w]
    rfl
   refine one_ (i:=12) (N:=none) (fr_ [13]) rfl rfl (one_of HT_.out (by kernel_rfl)) (by decide) (fun K hK=>?_)
   have hs63:w62.cell? ⟨jd,0,none⟩=some (.int .i64 0):=(blk_cell ja.out 0).trans rfl
   have hfs63:=blk_frozen ja.out 0
   have hns63_0:=jf.out
   have hms63_0:=jh.out
   have hs64:w62.cell? ⟨jd,1,none⟩=some (.int .i64 0):=(blk_cell ja.out 1).trans rfl
   have hfs64:=blk_frozen ja.out 1
   have hns64_0:=jf.out
   have hms64_0:=jh.out
   have hs65:w62.cell? ⟨jd,2,none⟩=some (.int .i64 0):=(blk_cell ja.out 2).trans rfl
   have hfs65:=blk_frozen ja.out 2
   have hns65_0:=jf.out
   have hms65_0:=jh.out
   have hs66:w62.cell? ⟨jd,3,none⟩=some (.slice none 0 0):=(blk_cell ja.out 3).trans rfl
   have hfs66:=blk_frozen ja.out 3
   have hns66_0:=jf.out
   have hms66_0:=jh.out
   refine skip_ (w1:=?_) (by rfl) rfl ?_ ?_
   rotate_left
   ·go_simp
    rfl
   refine hK.out _ _ ⟨((cell_far (p:=⟨jd,_,none⟩) (by first|(with_reducible exact Kd.own_blk (Kd.R_ne jb.out ja.out (by decide)))|(rw [add_block];with_reducible exact Kd.own_blk (Kd.R_ne jb.out ja.out (by decide)))|(dsimp only;with_reducible exact Kd.own_blk (Kd.R_ne jb.out ja.out (by decide)))|exact Kd.own_blk (Kd.R_ne jb.out ja.out (by decide))|(rw [add_block];exact Kd.own_blk (Kd.R_ne jb.out ja.out (by decide)))|(show (Addr.add _ _).block≠_;rw [add_block];exact Kd.own_blk (Kd.R_ne jb.out ja.out (by decide)))|(dsimp only;exact Kd.own_blk (Kd.R_ne jb.out ja.out (by decide)))) _).trans (((cell_far (p:=⟨jd,_,none⟩) (by first|(with_reducible exact Kd.own_blk (Kd.R_ne jb.out ja.out (by decide)))|(rw [add_block];with_reducible exact Kd.own_blk (Kd.R_ne jb.out ja.out (by decide)))|(dsimp only;with_reducible exact Kd.own_blk (Kd.R_ne jb.out ja.out (by decide)))|exact Kd.own_blk (Kd.R_ne jb.out ja.out (by decide))|(rw [add_block];exact Kd.own_blk (Kd.R_ne jb.out ja.out (by decide)))|(show (Addr.add _ _).block≠_;rw [add_block];exact Kd.own_blk (Kd.R_ne jb.out ja.out (by decide)))|(dsimp only;exact Kd.own_blk (Kd.R_ne jb.out ja.out (by decide)))) _).trans (((cell_far (p:=⟨jd,_,none⟩) (by first|(with_reducible exact Kd.own_blk (Kd.R_ne jb.out ja.out (by decide)))|(rw [add_block];with_reducible exact Kd.own_blk (Kd.R_ne jb.out ja.out (by decide)))|(dsimp only;with_reducible exact Kd.own_blk (Kd.R_ne jb.out ja.out (by decide)))|exact Kd.own_blk (Kd.R_ne jb.out ja.out (by decide))|(rw [add_block];exact Kd.own_blk (Kd.R_ne jb.out ja.out (by decide)))|(show (Addr.add _ _).block≠_;rw [add_block];exact Kd.own_blk (Kd.R_ne jb.out ja.out (by decide)))|(dsimp only;exact Kd.own_blk (Kd.R_ne jb.out ja.out (by decide)))) _).trans (((cell_far (p:=⟨jd,_,none⟩) (by first|(with_reducible exact Kd.own_blk (Kd.R_ne jb.out ja.out (by decide)))|(rw [add_block];with_reducible exact Kd.own_blk (Kd.R_ne jb.out ja.out (by decide)))|(dsimp only;with_reducible exact Kd.own_blk (Kd.R_ne jb.out ja.out (by decide)))|exact Kd.own_blk (Kd.R_ne jb.out ja.out (by decide))|(rw [add_block];exact Kd.own_blk (Kd.R_ne jb.out ja.out (by decide)))|(show (Addr.add _ _).block≠_;rw [add_block];exact Kd.own_blk (Kd.R_ne jb.out ja.out (by decide)))|(dsimp only;exact Kd.own_blk (Kd.R_ne jb.out ja.out (by decide)))) _).trans (hHeld.1)))))))),((cell_far (p:=⟨jd,_,none⟩) (by first|(with_reducible exact Kd.own_blk (Kd.R_ne jb.out ja.out (by decide)))|(rw [add_block];with_reducible exact Kd.own_blk (Kd.R_ne jb.out ja.out (by decide)))|(dsimp only;with_reducible exact Kd.own_blk (Kd.R_ne jb.out ja.out (by decide)))|exact Kd.own_blk (Kd.R_ne jb.out ja.out (by decide))|(rw [add_block];exact Kd.own_blk (Kd.R_ne jb.out ja.out (by decide)))|(show (Addr.add _ _).block≠_;rw [add_block];exact Kd.own_blk (Kd.R_ne jb.out ja.out (by decide)))|(dsimp only;exact Kd.own_blk (Kd.R_ne jb.out ja.out (by decide)))) _).trans (((cell_far (p:=⟨jd,_,none⟩) (by first|(with_reducible exact Kd.own_blk (Kd.R_ne jb.out ja.out (by decide)))|(rw [add_block];with_reducible exact Kd.own_blk (Kd.R_ne jb.out ja.out (by decide)))|(dsimp only;with_reducible exact Kd.own_blk (Kd.R_ne jb.out ja.out (by decide)))|exact Kd.own_blk (Kd.R_ne jb.out ja.out (by decide))|(rw [add_block];exact Kd.own_blk (Kd.R_ne jb.out ja.out (by decide)))|(show (Addr.add _ _).block≠_;rw [add_block];exact Kd.own_blk (Kd.R_ne jb.out ja.out (by decide)))|(dsimp only;exact Kd.own_blk (Kd.R_ne jb.out ja.out (by decide)))) _).trans (((cell_far (p:=⟨jd,_,none⟩) (by first|(with_reducible exact Kd.own_blk (Kd.R_ne jb.out ja.out (by decide)))|(rw [add_block];with_reducible exact Kd.own_blk (Kd.R_ne jb.out ja.out (by decide)))|(dsimp only;with_reducible exact Kd.own_blk (Kd.R_ne jb.out ja.out (by decide)))|exact Kd.own_blk (Kd.R_ne jb.out ja.out (by decide))|(rw [add_block];exact Kd.own_blk (Kd.R_ne jb.out ja.out (by decide)))|(show (Addr.add _ _).block≠_;rw [add_block];exact Kd.own_blk (Kd.R_ne jb.out ja.out (by decide)))|(dsimp only;exact Kd.own_blk (Kd.R_ne jb.out ja.out (by decide)))) _).trans (((cell_far (p:=⟨jd,_,none⟩) (by first|(with_reducible exact Kd.own_blk (Kd.R_ne jb.out ja.out (by decide)))|(rw [add_block];with_reducible exact Kd.own_blk (Kd.R_ne jb.out ja.out (by decide)))|(dsimp only;with_reducible exact Kd.own_blk (Kd.R_ne jb.out ja.out (by decide)))|exact Kd.own_blk (Kd.R_ne jb.out ja.out (by decide))|(rw [add_block];exact Kd.own_blk (Kd.R_ne jb.out ja.out (by decide)))|(show (Addr.add _ _).block≠_;rw [add_block];exact Kd.own_blk (Kd.R_ne jb.out ja.out (by decide)))|(dsimp only;exact Kd.own_blk (Kd.R_ne jb.out ja.out (by decide)))) _).trans (hHeld.2.1)))))))),((cell_far (p:=⟨jd,_,none⟩) (by first|(with_reducible exact Kd.own_blk (Kd.R_ne jb.out ja.out (by decide)))|(rw [add_block];with_reducible exact Kd.own_blk (Kd.R_ne jb.out ja.out (by decide)))|(dsimp only;with_reducible exact Kd.own_blk (Kd.R_ne jb.out ja.out (by decide)))|exact Kd.own_blk (Kd.R_ne jb.out ja.out (by decide))|(rw [add_block];exact Kd.own_blk (Kd.R_ne jb.out ja.out (by decide)))|(show (Addr.add _ _).block≠_;rw [add_block];exact Kd.own_blk (Kd.R_ne jb.out ja.out (by decide)))|(dsimp only;exact Kd.own_blk (Kd.R_ne jb.out ja.out (by decide)))) _).trans (((cell_far (p:=⟨jd,_,none⟩) (by first|(with_reducible exact Kd.own_blk (Kd.R_ne jb.out ja.out (by decide)))|(rw [add_block];with_reducible exact Kd.own_blk (Kd.R_ne jb.out ja.out (by decide)))|(dsimp only;with_reducible exact Kd.own_blk (Kd.R_ne jb.out ja.out (by decide)))|exact Kd.own_blk (Kd.R_ne jb.out ja.out (by decide))|(rw [add_block];exact Kd.own_blk (Kd.R_ne jb.out ja.out (by decide)))|(show (Addr.add _ _).block≠_;rw [add_block];exact Kd.own_blk (Kd.R_ne jb.out ja.out (by decide)))|(dsimp only;exact Kd.own_blk (Kd.R_ne jb.out ja.out (by decide)))) _).trans (((cell_far (p:=⟨jd,_,none⟩) (by first|(with_reducible exact Kd.own_blk (Kd.R_ne jb.out ja.out (by decide)))|(rw [add_block];with_reducible exact Kd.own_blk (Kd.R_ne jb.out ja.out (by decide)))|(dsimp only;with_reducible exact Kd.own_blk (Kd.R_ne jb.out ja.out (by decide)))|exact Kd.own_blk (Kd.R_ne jb.out ja.out (by decide))|(rw [add_block];exact Kd.own_blk (Kd.R_ne jb.out ja.out (by decide)))|(show (Addr.add _ _).block≠_;rw [add_block];exact Kd.own_blk (Kd.R_ne jb.out ja.out (by decide)))|(dsimp only;exact Kd.own_blk (Kd.R_ne jb.out ja.out (by decide)))) _).trans (((cell_far (p:=⟨jd,_,none⟩) (by first|(with_reducible exact Kd.own_blk (Kd.R_ne jb.out ja.out (by decide)))|(rw [add_block];with_reducible exact Kd.own_blk (Kd.R_ne jb.out ja.out (by decide)))|(dsimp only;with_reducible exact Kd.own_blk (Kd.R_ne jb.out ja.out (by decide)))|exact Kd.own_blk (Kd.R_ne jb.out ja.out (by decide))|(rw [add_block];exact Kd.own_blk (Kd.R_ne jb.out ja.out (by decide)))|(show (Addr.add _ _).block≠_;rw [add_block];exact Kd.own_blk (Kd.R_ne jb.out ja.out (by decide)))|(dsimp only;exact Kd.own_blk (Kd.R_ne jb.out ja.out (by decide)))) _).trans (hHeld.2.2))))))))⟩ (fun hHeld=>?_)
   clear hK K
   refine done_ (done_of HT_.out (by kernel_rfl)) ?_
   have j5o:=jh.out
   have j5p:=jf.out
   obtain ⟨j1y,j1z,j2a,j2b,j2c,j2d,j2e,j2f⟩:=blk4_ ja
   try go_wp2_with (first|((with_reducible refine gate_callee (f:=15) rfl ?_);refine gl_ (some 74) Tryz.func15 #[.agg #[.int .i64 (rd je 0),.int .i64 (rd je 1),.int .i64 (rd je 2),.slice Ao61 jo.length co61]] ?_;(with_reducible refine (impl_IsLine.calls kj10 (rd je 0) (rd je 1) (rd je 2) _ _ jo false _ ?side1 ?side2 A26.out).mono ?_);(case side1=>refine (Kd.R_reads' (e:=3) (base:=w.heap.size) (ok:=fun k_=>some k_≠(.slice (some jj) je.length co60:Value).ownBlock) (n:=jo.length) (c:=co61) ?_).2.2;exact (rtf_ jg ja));(case side2=>exact (Kd.R_reads' jg.out).2.1);rintro e w69 ⟨rfl,hb⟩;refine ⟨_,rfl,?_⟩;replace jb:=ai_ (Kd.R_below (rtf_ jb ja) hb);replace jg:=ai_ (Kd.R_below (rtf_ jg ja) hb);replace jc:=ai_ (blk_below (blk_f1 jc jf) hb);replace ja:=ai_ (blk_below (g:=jd) (o:=.cells #[.int .i64 (rd je 0),.int .i64 (rd je 1),.int .i64 (rd je 2),.slice Ao61 jo.length co61] 26 (0,0)) (bput4 ja) hb);replace HB:=ai_ (below_step (below_to2 HB ji.out jn.out) hb);(try clear hb);obtain ⟨j2g,j2h,j2i,j2j,j2k,j2l,j2m,j2n⟩:=blk4_ jc))
   refine bodyPost_ret (results_ct rfl _ _ jr 26 #[.int .i64 0,.int .i64 0,.int .i64 0,.slice none 0 0] (0,0) _ rfl (bput4 jc) Tryz.underlying26 rfl (by kernel_rfl)) rfl ?_
   exact ⟨_,rtE_,by first|exact Kd.R_nil _ _ _ _ _|exact Kd.N_nil _ _ _ _ _|exact Kd.V_nil _ _ _ _ _|exact Kd.Q_nil _ _ _ _ _|exact Kd.S_nil _ _ _ _ _,below_to2 HB ji.out jn.out⟩
  subst c27
  rw [if_pos rfl] at H
  obtain ⟨j1d,A28,H⟩:=bs_ H
  (try dsimp only at H)
  by_cases c29:j1d.toList=a0.toList
  rotate_left
  ·rw [if_neg c29] at H
   have j1o:=beq_eq_false_iff_ne.mpr c29
   have j1p:=bne_iff_ne.mpr c29
   simp only [Option.some.injEq,Prod.mk.injEq] at H
   obtain ⟨rfl,rfl,rfl,rfl,rfl⟩:=H
   try go_wp2
   have n0_:=ai_ (Kd.R_drew jb.out)
   have n1_:=ai_ (Kd.R_drew jg.out)
   have n2_:=ai_ (blk_drew jc.out)
   have n3_:=ai_ (below_drew1 HB.out)
   clear jb
   clear jg
   clear jc
   clear HB
   have jb:=n0_
   have jg:=n1_
   have jc:=n2_
   have HB:=n3_
   clear n0_ n1_ n2_ n3_
   obtain ⟨Ao46,co46,eo46⟩:=Kd.R_slice jb.out
   (first|subst eo46|(injection eo46 with f1_ f2_ f3_;have f4_:=f1_.symm;have f5_:=f3_.symm;clear f1_ f2_ f3_;subst f4_;subst f5_))
   have jt:0≤(0:Int):=(by omega)
   have ju:0 < (je.length:Int):=odt_
   obtain ⟨jj,e379,jk⟩:=Kd.at_int (Kd.R_reads' jb.out).2.2 0 jt ju
   cases e379
   have qi379:(0 < je.length)=True:=eq_true (by omega)
   (try rw [show ((0:Int)).toNat=0 from rfl] at jk)
   (try rw [Addr.add_zero'] at jk)
   replace jt:=eq_true jt
   replace ju:=eq_true ju
   have jv:0≤(1:Int):=(by omega)
   have jw:1 < (je.length:Int):=odt_
   obtain ⟨j1a,e380,jl⟩:=Kd.at_int (Kd.R_reads' jb.out).2.2 1 jv jw
   obtain rfl:jj=j1a:=(by injection e380)
   (try simp only [show (1:Int).toNat=1 from rfl,Nat.reduceMul,Nat.reduceEqDiff,Go.Addr.add,↓reduceIte] at jl)
   have qi380:(1 < je.length)=True:=eq_true (by omega)
   (try rw [show ((1:Int)).toNat=1 from rfl] at jl)
   replace jv:=eq_true jv
   replace jw:=eq_true jw
   have jx:0≤(2:Int):=(by omega)
   have jy:2 < (je.length:Int):=odt_
   obtain ⟨j1b,e381,jm⟩:=Kd.at_int (Kd.R_reads' jb.out).2.2 2 jx jy
   obtain rfl:jj=j1b:=(by injection e381)
   (try simp only [show (2:Int).toNat=2 from rfl,Nat.reduceMul,Nat.reduceEqDiff,Go.Addr.add,↓reduceIte] at jm)
   have qi381:(2 < je.length)=True:=eq_true (by omega)
   (try rw [show ((2:Int)).toNat=2 from rfl] at jm)
   replace jx:=eq_true jx
   replace jy:=eq_true jy
   obtain ⟨Ao47,co47,eo47⟩:=Kd.R_slice jg.out
   (first|subst eo47|(injection eo47 with f1_ f2_ f3_;have f4_:=f1_.symm;have f5_:=f3_.symm;clear f1_ f2_ f3_;subst f4_;subst f5_))
   refine start_ (n:=13) (S:=fun w'=>w'.cell? jj=some (.int .i64 (rd je 0))∧w'.cell? ⟨jj.block,jj.off+1,none⟩=some (.int .i64 (rd je 1))∧w'.cell? ⟨jj.block,jj.off+2,none⟩=some (.int .i64 (rd je 2))) (ds:=[]) (fr_ [0,13]) (by kernel_rfl) rfl rfl ⟨jk,jl,jm⟩ (fun hHeld=>?_);refine with_tabW impl_ParseLine.tab8 impl_ParseLine.bits8 (fun HT_ HW_=>?_)
   generalize wc.drew=w45 at jb jg jc HB jk jl jm hHeld ⊢
   refine purS_ (i:=0) (N:=some 62) (fl_ 13 1) HT_.out ?_
   refine purS_ (i:=1) (N:=some 63) (fl_ 13 2) HT_.out ?_
   refine purS_ (i:=3) (N:=some 65) (fr_ [2,1,1,9]) HT_.out ?_
   refine purS_ (i:=4) (N:=some 66) (fr_ [2,1,2,8]) HT_.out ?_
   refine purS_ (i:=6) (N:=some 68) (fr_ [2,1,2,1,1,6]) HT_.out ?_
   refine purS_ (i:=7) (N:=some 69) (fr_ [2,1,2,1,2,5]) HT_.out ?_
   refine purS_ (i:=9) (N:=some 71) (fr_ [2,1,2,1,2,1,1,3]) HT_.out ?_
   refine take_ (i:=2) (N:=some 64) (v:=?_) (a':=?_) (fr_ [5,1,2,1,1,3]) rfl rfl (take_ofW HT_.out HW_.out (by kernel_rfl)) (fun _ _ _ h=>h) (Or.inl ⟨by rfl,?_⟩) hHeld ?_ ?_
   rotate_left
   ·rintro w' ⟨s0,s1,s2⟩
    go_simp
    with_reducible rfl
   rotate_left
   ·simp only [Act.put,List.setIfInBounds_toArray,List.set_cons_zero,List.set_cons_succ,i64_w,i32_w]
    rfl
   refine take_ (i:=5) (N:=some 67) (v:=?_) (a':=?_) (fr_ [8,1,1,3]) rfl rfl (take_ofW HT_.out HW_.out (by kernel_rfl)) (fun _ _ _ h=>h) (Or.inl ⟨by rfl,?_⟩) hHeld ?_ ?_
   rotate_left
   ·rintro w' ⟨s0,s1,s2⟩
    go_simp
    with_reducible rfl
   rotate_left
   ·simp only [Act.put,List.setIfInBounds_toArray,List.set_cons_zero,List.set_cons_succ,i64_w,i32_w]
    rfl
   refine take_ (i:=8) (N:=some 70) (v:=?_) (a':=?_) (fr_ [10,3]) rfl rfl (take_ofW HT_.out HW_.out (by kernel_rfl)) (fun _ _ _ h=>h) (Or.inl ⟨by rfl,?_⟩) hHeld ?_ ?_
   rotate_left
   ·rintro w' ⟨s0,s1,s2⟩
    go_simp
    with_reducible rfl
   rotate_left
   ·simp only [Act.put,List.setIfInBounds_toArray,List.set_cons_zero,List.set_cons_succ,i64_w,i32_w]
    rfl
   refine purS_ (i:=10) (N:=some 72) (fl_ 13 11) HT_.out ?_
   refine one_ (i:=11) (N:=some 15) (fr_ [12,1]) rfl rfl (one_of HT_.out (by kernel_rfl)) (by decide) (fun K hK=>?_)
   refine box_step ?hg (N:=15) ?hd (cs:=#[.int .i64 0,.int .i64 0,.int .i64 0,.slice none 0 0]) (t:=26) ?hr ?_;(case hd=>rfl);(case hg=>rfl);(case hr=>first|(go_simp;done)|(go_simp;rfl))
   intro jd hg w48 hbox hb
   have HS0_:=(hb.cell (World.block_lt_of_cell? _ _ (hHeld.1))).trans (hHeld.1)
   have HS1_:=(hb.cell (World.block_lt_of_cell? _ _ (hHeld.2.1))).trans (hHeld.2.1)
   have HS2_:=(hb.cell (World.block_lt_of_cell? _ _ (hHeld.2.2))).trans (hHeld.2.2)
   have n0_:=rb_ jb hb
   have n1_:=rb_ jg hb
   have n2_:=bb_ jc hb
   have n3_:=ai_ (below_step (below_to1 HB ji.out) hb)
   have n4_:=ai_ (hbox)
   have n5_:=ai_ (gb_ hg (below_size (below_to1 HB ji.out)))
   have n6_:=ai_ (gb_ hg (below_size (below_to1 HB ji.out)))
   have n7_:=ai_ (ne_ hg (blk_lt (blk_to jc)))
   have n8_:=ai_ (ne_ hg (blk_lt (blk_to jc))).symm
   clear jb
   clear jg
   clear jc
   clear HB
   have jb:=n0_
   have jg:=n1_
   have jc:=n2_
   have HB:=n3_
   have ja:=n4_
   have j1f:=n5_
   have jn:=n6_
   have jf:=n7_
   have jh:=n8_
   clear n0_ n1_ n2_ n3_ n4_ n5_ n6_ n7_ n8_
   clear hb hbox hg
   refine hK.out _ _ ⟨HS0_,HS1_,HS2_⟩ (fun hHeld=>?_)
   clear hK K
   refine norm_ (a':=?_) ?_ ?_
   rotate_left
   ·show Act.put _ (some 15) _=_
    simp only [Act.put,List.setIfInBounds_toArray,List.set_cons_zero,List.set_cons_succ,i64_w,i32_w]
    rfl
   refine one_ (i:=12) (N:=none) (fr_ [13]) rfl rfl (one_of HT_.out (by kernel_rfl)) (by decide) (fun K hK=>?_)
   have hs49:w48.cell? ⟨jd,0,none⟩=some (.int .i64 0):=(blk_cell ja.out 0).trans rfl
   have hfs49:=blk_frozen ja.out 0
   have hns49_0:=jf.out
   have hms49_0:=jh.out
   have hs50:w48.cell? ⟨jd,1,none⟩=some (.int .i64 0):=(blk_cell ja.out 1).trans rfl
   have hfs50:=blk_frozen ja.out 1
   have hns50_0:=jf.out
   have hms50_0:=jh.out
   have hs51:w48.cell? ⟨jd,2,none⟩=some (.int .i64 0):=(blk_cell ja.out 2).trans rfl
   have hfs51:=blk_frozen ja.out 2
   have hns51_0:=jf.out
   have hms51_0:=jh.out
   have hs52:w48.cell? ⟨jd,3,none⟩=some (.slice none 0 0):=(blk_cell ja.out 3).trans rfl
   have hfs52:=blk_frozen ja.out 3
   have hns52_0:=jf.out
   have hms52_0:=jh.out
   refine skip_ (w1:=?_) (by rfl) rfl ?_ ?_
   rotate_left
   ·go_simp
    rfl
   refine hK.out _ _ ⟨((cell_far (p:=⟨jd,_,none⟩) (by first|(with_reducible exact Kd.own_blk (Kd.R_ne jb.out ja.out (by decide)))|(rw [add_block];with_reducible exact Kd.own_blk (Kd.R_ne jb.out ja.out (by decide)))|(dsimp only;with_reducible exact Kd.own_blk (Kd.R_ne jb.out ja.out (by decide)))|exact Kd.own_blk (Kd.R_ne jb.out ja.out (by decide))|(rw [add_block];exact Kd.own_blk (Kd.R_ne jb.out ja.out (by decide)))|(show (Addr.add _ _).block≠_;rw [add_block];exact Kd.own_blk (Kd.R_ne jb.out ja.out (by decide)))|(dsimp only;exact Kd.own_blk (Kd.R_ne jb.out ja.out (by decide)))) _).trans (((cell_far (p:=⟨jd,_,none⟩) (by first|(with_reducible exact Kd.own_blk (Kd.R_ne jb.out ja.out (by decide)))|(rw [add_block];with_reducible exact Kd.own_blk (Kd.R_ne jb.out ja.out (by decide)))|(dsimp only;with_reducible exact Kd.own_blk (Kd.R_ne jb.out ja.out (by decide)))|exact Kd.own_blk (Kd.R_ne jb.out ja.out (by decide))|(rw [add_block];exact Kd.own_blk (Kd.R_ne jb.out ja.out (by decide)))|(show (Addr.add _ _).block≠_;rw [add_block];exact Kd.own_blk (Kd.R_ne jb.out ja.out (by decide)))|(dsimp only;exact Kd.own_blk (Kd.R_ne jb.out ja.out (by decide)))) _).trans (((cell_far (p:=⟨jd,_,none⟩) (by first|(with_reducible exact Kd.own_blk (Kd.R_ne jb.out ja.out (by decide)))|(rw [add_block];with_reducible exact Kd.own_blk (Kd.R_ne jb.out ja.out (by decide)))|(dsimp only;with_reducible exact Kd.own_blk (Kd.R_ne jb.out ja.out (by decide)))|exact Kd.own_blk (Kd.R_ne jb.out ja.out (by decide))|(rw [add_block];exact Kd.own_blk (Kd.R_ne jb.out ja.out (by decide)))|(show (Addr.add _ _).block≠_;rw [add_block];exact Kd.own_blk (Kd.R_ne jb.out ja.out (by decide)))|(dsimp only;exact Kd.own_blk (Kd.R_ne jb.out ja.out (by decide)))) _).trans (((cell_far (p:=⟨jd,_,none⟩) (by first|(with_reducible exact Kd.own_blk (Kd.R_ne jb.out ja.out (by decide)))|(rw [add_block];with_reducible exact Kd.own_blk (Kd.R_ne jb.out ja.out (by decide)))|(dsimp only;with_reducible exact Kd.own_blk (Kd.R_ne jb.out ja.out (by decide)))|exact Kd.own_blk (Kd.R_ne jb.out ja.out (by decide))|(rw [add_block];exact Kd.own_blk (Kd.R_ne jb.out ja.out (by decide)))|(show (Addr.add _ _).block≠_;rw [add_block];exact Kd.own_blk (Kd.R_ne jb.out ja.out (by decide)))|(dsimp only;exact Kd.own_blk (Kd.R_ne jb.out ja.out (by decide)))) _).trans (hHeld.1)))))))),((cell_far (p:=⟨jd,_,none⟩) (by first|(with_reducible exact Kd.own_blk (Kd.R_ne jb.out ja.out (by decide)))|(rw [add_block];with_reducible exact Kd.own_blk (Kd.R_ne jb.out ja.out (by decide)))|(dsimp only;with_reducible exact Kd.own_blk (Kd.R_ne jb.out ja.out (by decide)))|exact Kd.own_blk (Kd.R_ne jb.out ja.out (by decide))|(rw [add_block];exact Kd.own_blk (Kd.R_ne jb.out ja.out (by decide)))|(show (Addr.add _ _).block≠_;rw [add_block];exact Kd.own_blk (Kd.R_ne jb.out ja.out (by decide)))|(dsimp only;exact Kd.own_blk (Kd.R_ne jb.out ja.out (by decide)))) _).trans (((cell_far (p:=⟨jd,_,none⟩) (by first|(with_reducible exact Kd.own_blk (Kd.R_ne jb.out ja.out (by decide)))|(rw [add_block];with_reducible exact Kd.own_blk (Kd.R_ne jb.out ja.out (by decide)))|(dsimp only;with_reducible exact Kd.own_blk (Kd.R_ne jb.out ja.out (by decide)))|exact Kd.own_blk (Kd.R_ne jb.out ja.out (by decide))|(rw [add_block];exact Kd.own_blk (Kd.R_ne jb.out ja.out (by decide)))|(show (Addr.add _ _).block≠_;rw [add_block];exact Kd.own_blk (Kd.R_ne jb.out ja.out (by decide)))|(dsimp only;exact Kd.own_blk (Kd.R_ne jb.out ja.out (by decide)))) _).trans (((cell_far (p:=⟨jd,_,none⟩) (by first|(with_reducible exact Kd.own_blk (Kd.R_ne jb.out ja.out (by decide)))|(rw [add_block];with_reducible exact Kd.own_blk (Kd.R_ne jb.out ja.out (by decide)))|(dsimp only;with_reducible exact Kd.own_blk (Kd.R_ne jb.out ja.out (by decide)))|exact Kd.own_blk (Kd.R_ne jb.out ja.out (by decide))|(rw [add_block];exact Kd.own_blk (Kd.R_ne jb.out ja.out (by decide)))|(show (Addr.add _ _).block≠_;rw [add_block];exact Kd.own_blk (Kd.R_ne jb.out ja.out (by decide)))|(dsimp only;exact Kd.own_blk (Kd.R_ne jb.out ja.out (by decide)))) _).trans (((cell_far (p:=⟨jd,_,none⟩) (by first|(with_reducible exact Kd.own_blk (Kd.R_ne jb.out ja.out (by decide)))|(rw [add_block];with_reducible exact Kd.own_blk (Kd.R_ne jb.out ja.out (by decide)))|(dsimp only;with_reducible exact Kd.own_blk (Kd.R_ne jb.out ja.out (by decide)))|exact Kd.own_blk (Kd.R_ne jb.out ja.out (by decide))|(rw [add_block];exact Kd.own_blk (Kd.R_ne jb.out ja.out (by decide)))|(show (Addr.add _ _).block≠_;rw [add_block];exact Kd.own_blk (Kd.R_ne jb.out ja.out (by decide)))|(dsimp only;exact Kd.own_blk (Kd.R_ne jb.out ja.out (by decide)))) _).trans (hHeld.2.1)))))))),((cell_far (p:=⟨jd,_,none⟩) (by first|(with_reducible exact Kd.own_blk (Kd.R_ne jb.out ja.out (by decide)))|(rw [add_block];with_reducible exact Kd.own_blk (Kd.R_ne jb.out ja.out (by decide)))|(dsimp only;with_reducible exact Kd.own_blk (Kd.R_ne jb.out ja.out (by decide)))|exact Kd.own_blk (Kd.R_ne jb.out ja.out (by decide))|(rw [add_block];exact Kd.own_blk (Kd.R_ne jb.out ja.out (by decide)))|(show (Addr.add _ _).block≠_;rw [add_block];exact Kd.own_blk (Kd.R_ne jb.out ja.out (by decide)))|(dsimp only;exact Kd.own_blk (Kd.R_ne jb.out ja.out (by decide)))) _).trans (((cell_far (p:=⟨jd,_,none⟩) (by first|(with_reducible exact Kd.own_blk (Kd.R_ne jb.out ja.out (by decide)))|(rw [add_block];with_reducible exact Kd.own_blk (Kd.R_ne jb.out ja.out (by decide)))|(dsimp only;with_reducible exact Kd.own_blk (Kd.R_ne jb.out ja.out (by decide)))|exact Kd.own_blk (Kd.R_ne jb.out ja.out (by decide))|(rw [add_block];exact Kd.own_blk (Kd.R_ne jb.out ja.out (by decide)))|(show (Addr.add _ _).block≠_;rw [add_block];exact Kd.own_blk (Kd.R_ne jb.out ja.out (by decide)))|(dsimp only;exact Kd.own_blk (Kd.R_ne jb.out ja.out (by decide)))) _).trans (((cell_far (p:=⟨jd,_,none⟩) (by first|(with_reducible exact Kd.own_blk (Kd.R_ne jb.out ja.out (by decide)))|(rw [add_block];with_reducible exact Kd.own_blk (Kd.R_ne jb.out ja.out (by decide)))|(dsimp only;with_reducible exact Kd.own_blk (Kd.R_ne jb.out ja.out (by decide)))|exact Kd.own_blk (Kd.R_ne jb.out ja.out (by decide))|(rw [add_block];exact Kd.own_blk (Kd.R_ne jb.out ja.out (by decide)))|(show (Addr.add _ _).block≠_;rw [add_block];exact Kd.own_blk (Kd.R_ne jb.out ja.out (by decide)))|(dsimp only;exact Kd.own_blk (Kd.R_ne jb.out ja.out (by decide)))) _).trans (((cell_far (p:=⟨jd,_,none⟩) (by first|(with_reducible exact Kd.own_blk (Kd.R_ne jb.out ja.out (by decide)))|(rw [add_block];with_reducible exact Kd.own_blk (Kd.R_ne jb.out ja.out (by decide)))|(dsimp only;with_reducible exact Kd.own_blk (Kd.R_ne jb.out ja.out (by decide)))|exact Kd.own_blk (Kd.R_ne jb.out ja.out (by decide))|(rw [add_block];exact Kd.own_blk (Kd.R_ne jb.out ja.out (by decide)))|(show (Addr.add _ _).block≠_;rw [add_block];exact Kd.own_blk (Kd.R_ne jb.out ja.out (by decide)))|(dsimp only;exact Kd.own_blk (Kd.R_ne jb.out ja.out (by decide)))) _).trans (hHeld.2.2))))))))⟩ (fun hHeld=>?_)
   clear hK K
   refine done_ (done_of HT_.out (by kernel_rfl)) ?_
   have j5q:=jh.out
   have j5r:=jf.out
   obtain ⟨j2o,j2p,j2q,j2r,j2s,j2t,j2u,j2v⟩:=blk4_ ja
   try go_wp2_with (first|((with_reducible refine gate_callee (f:=15) rfl ?_);refine gl_ (some 74) Tryz.func15 #[.agg #[.int .i64 (rd je 0),.int .i64 (rd je 1),.int .i64 (rd je 2),.slice Ao47 jo.length co47]] ?_;(with_reducible refine (impl_IsLine.calls kj10 (rd je 0) (rd je 1) (rd je 2) _ _ jo true _ ?side1 ?side2 A26.out).mono ?_);(case side1=>refine (Kd.R_reads' (e:=3) (base:=w.heap.size) (ok:=fun k_=>some k_≠(.slice (some jj) je.length co46:Value).ownBlock) (n:=jo.length) (c:=co47) ?_).2.2;exact (rtf_ jg ja));(case side2=>exact (Kd.R_reads' jg.out).2.1);rintro e w55 ⟨rfl,hb⟩;refine ⟨_,rfl,?_⟩;replace jb:=ai_ (Kd.R_below (rtf_ jb ja) hb);replace jg:=ai_ (Kd.R_below (rtf_ jg ja) hb);replace jc:=ai_ (blk_below (blk_f1 jc jf) hb);replace ja:=ai_ (blk_below (g:=jd) (o:=.cells #[.int .i64 (rd je 0),.int .i64 (rd je 1),.int .i64 (rd je 2),.slice Ao47 jo.length co47] 26 (0,0)) (bput4 ja) hb);replace HB:=ai_ (below_step (below_to2 HB ji.out jn.out) hb);(try clear hb);obtain ⟨j2w,j2x,j2y,j2z,j3a,j3b,j3c,j3d⟩:=blk4_ ja)|(go_at_call 53;(with_reducible refine (impl_lineText.calls kj10 (rd je 0) (rd je 1) (rd je 2) _ _ jo j1d _ ?side1 ?side2 A28.out ?sidet).mono ?_);(case sidet=>refine Go.Proofs.YthdnodmidbcgpaaGreatDoor.XText.T1.on (w:=w) (Go.Proofs.YthdnodmidbcgpaaGreatDoor.XText.T2.to1 HTab_.out) ?_;repeat (first|(with_reducible first|exact HB.out|exact Below.refl _ _|apply below_alloc|apply pw_below_drewN|apply below_drew1|refine below_set ?_ ji.out|refine below_set ?_ jn.out)|exact HB.out|exact Below.refl _ _));(case side1=>exact cR_ jg);(case side2=>exact (Kd.R_reads' jg.out).2.1);rintro e w57 ⟨rfl,hb⟩;replace jb:=rb_ jb hb;replace jg:=rb_ jg hb;replace jc:=bb_ jc hb;replace ja:=bb_ ja hb;replace HB:=ai_ (below_step (below_to2 HB ji.out jn.out) hb);(try clear hb);obtain ⟨j3e,j3f,j3g,j3h,j3i,j3j,j3k,j3l⟩:=blk4_ jc))
   refine bodyPost_ret (results_ct rfl _ _ jr 26 #[.int .i64 0,.int .i64 0,.int .i64 0,.slice none 0 0] (0,0) _ rfl (bput4 jc) Tryz.underlying26 rfl (by kernel_rfl)) rfl ?_
   exact ⟨_,rtE_,by first|exact Kd.R_nil _ _ _ _ _|exact Kd.N_nil _ _ _ _ _|exact Kd.V_nil _ _ _ _ _|exact Kd.Q_nil _ _ _ _ _|exact Kd.S_nil _ _ _ _ _,below_to2 HB ji.out jn.out⟩
  rw [if_pos c29] at H
  have j1o:=beq_iff_eq.mpr c29
  have j1p:=bne_eq_false_iff_eq.mpr c29
  clear c29
  simp only [Option.some.injEq,Prod.mk.injEq] at H
  obtain ⟨rfl,rfl,rfl,rfl,rfl⟩:=H
  try go_wp2
  have n0_:=ai_ (Kd.R_drew jb.out)
  have n1_:=ai_ (Kd.R_drew jg.out)
  have n2_:=ai_ (blk_drew jc.out)
  have n3_:=ai_ (below_drew1 HB.out)
  clear jb
  clear jg
  clear jc
  clear HB
  have jb:=n0_
  have jg:=n1_
  have jc:=n2_
  have HB:=n3_
  clear n0_ n1_ n2_ n3_
  obtain ⟨Ao31,co31,eo31⟩:=Kd.R_slice jb.out
  (first|subst eo31|(injection eo31 with f1_ f2_ f3_;have f4_:=f1_.symm;have f5_:=f3_.symm;clear f1_ f2_ f3_;subst f4_;subst f5_))
  have jt:0≤(0:Int):=(by omega)
  have ju:0 < (je.length:Int):=odt_
  obtain ⟨jj,e379,jk⟩:=Kd.at_int (Kd.R_reads' jb.out).2.2 0 jt ju
  cases e379
  have qi379:(0 < je.length)=True:=eq_true (by omega)
  (try rw [show ((0:Int)).toNat=0 from rfl] at jk)
  (try rw [Addr.add_zero'] at jk)
  replace jt:=eq_true jt
  replace ju:=eq_true ju
  have jv:0≤(1:Int):=(by omega)
  have jw:1 < (je.length:Int):=odt_
  obtain ⟨j1a,e380,jl⟩:=Kd.at_int (Kd.R_reads' jb.out).2.2 1 jv jw
  obtain rfl:jj=j1a:=(by injection e380)
  (try simp only [show (1:Int).toNat=1 from rfl,Nat.reduceMul,Nat.reduceEqDiff,Go.Addr.add,↓reduceIte] at jl)
  have qi380:(1 < je.length)=True:=eq_true (by omega)
  (try rw [show ((1:Int)).toNat=1 from rfl] at jl)
  replace jv:=eq_true jv
  replace jw:=eq_true jw
  have jx:0≤(2:Int):=(by omega)
  have jy:2 < (je.length:Int):=odt_
  obtain ⟨j1b,e381,jm⟩:=Kd.at_int (Kd.R_reads' jb.out).2.2 2 jx jy
  obtain rfl:jj=j1b:=(by injection e381)
  (try simp only [show (2:Int).toNat=2 from rfl,Nat.reduceMul,Nat.reduceEqDiff,Go.Addr.add,↓reduceIte] at jm)
  have qi381:(2 < je.length)=True:=eq_true (by omega)
  (try rw [show ((2:Int)).toNat=2 from rfl] at jm)
  replace jx:=eq_true jx
  replace jy:=eq_true jy
  obtain ⟨Ao32,co32,eo32⟩:=Kd.R_slice jg.out
  (first|subst eo32|(injection eo32 with f1_ f2_ f3_;have f4_:=f1_.symm;have f5_:=f3_.symm;clear f1_ f2_ f3_;subst f4_;subst f5_))
  refine start_ (n:=13) (S:=fun w'=>w'.cell? jj=some (.int .i64 (rd je 0))∧w'.cell? ⟨jj.block,jj.off+1,none⟩=some (.int .i64 (rd je 1))∧w'.cell? ⟨jj.block,jj.off+2,none⟩=some (.int .i64 (rd je 2))) (ds:=[]) (fr_ [0,13]) (by kernel_rfl) rfl rfl ⟨jk,jl,jm⟩ (fun hHeld=>?_);refine with_tabW impl_ParseLine.tab8 impl_ParseLine.bits8 (fun HT_ HW_=>?_)
  generalize wc.drew=w30 at jb jg jc HB jk jl jm hHeld ⊢
  refine purS_ (i:=0) (N:=some 62) (fl_ 13 1) HT_.out ?_
  refine purS_ (i:=1) (N:=some 63) (fl_ 13 2) HT_.out ?_
  refine purS_ (i:=3) (N:=some 65) (fr_ [2,1,1,9]) HT_.out ?_
  refine purS_ (i:=4) (N:=some 66) (fr_ [2,1,2,8]) HT_.out ?_
  refine purS_ (i:=6) (N:=some 68) (fr_ [2,1,2,1,1,6]) HT_.out ?_
  refine purS_ (i:=7) (N:=some 69) (fr_ [2,1,2,1,2,5]) HT_.out ?_
  refine purS_ (i:=9) (N:=some 71) (fr_ [2,1,2,1,2,1,1,3]) HT_.out ?_
  refine take_ (i:=2) (N:=some 64) (v:=?_) (a':=?_) (fr_ [5,1,2,1,1,3]) rfl rfl (take_ofW HT_.out HW_.out (by kernel_rfl)) (fun _ _ _ h=>h) (Or.inl ⟨by rfl,?_⟩) hHeld ?_ ?_
  rotate_left
  ·rintro w' ⟨s0,s1,s2⟩
   go_simp
   with_reducible rfl
  rotate_left
  ·simp only [Act.put,List.setIfInBounds_toArray,List.set_cons_zero,List.set_cons_succ,i64_w,i32_w]
   rfl
  refine take_ (i:=5) (N:=some 67) (v:=?_) (a':=?_) (fr_ [8,1,1,3]) rfl rfl (take_ofW HT_.out HW_.out (by kernel_rfl)) (fun _ _ _ h=>h) (Or.inl ⟨by rfl,?_⟩) hHeld ?_ ?_
  rotate_left
  ·rintro w' ⟨s0,s1,s2⟩
   go_simp
   with_reducible rfl
  rotate_left
  ·simp only [Act.put,List.setIfInBounds_toArray,List.set_cons_zero,List.set_cons_succ,i64_w,i32_w]
   rfl
  refine take_ (i:=8) (N:=some 70) (v:=?_) (a':=?_) (fr_ [10,3]) rfl rfl (take_ofW HT_.out HW_.out (by kernel_rfl)) (fun _ _ _ h=>h) (Or.inl ⟨by rfl,?_⟩) hHeld ?_ ?_
  rotate_left
  ·rintro w' ⟨s0,s1,s2⟩
   go_simp
   with_reducible rfl
  rotate_left
  ·simp only [Act.put,List.setIfInBounds_toArray,List.set_cons_zero,List.set_cons_succ,i64_w,i32_w]
   rfl
  refine purS_ (i:=10) (N:=some 72) (fl_ 13 11) HT_.out ?_
  refine one_ (i:=11) (N:=some 15) (fr_ [12,1]) rfl rfl (one_of HT_.out (by kernel_rfl)) (by decide) (fun K hK=>?_)
  refine box_step ?hg (N:=15) ?hd (cs:=#[.int .i64 0,.int .i64 0,.int .i64 0,.slice none 0 0]) (t:=26) ?hr ?_;(case hd=>rfl);(case hg=>rfl);(case hr=>first|(go_simp;done)|(go_simp;rfl))
  intro jd hg w33 hbox hb
  have HS0_:=(hb.cell (World.block_lt_of_cell? _ _ (hHeld.1))).trans (hHeld.1)
  have HS1_:=(hb.cell (World.block_lt_of_cell? _ _ (hHeld.2.1))).trans (hHeld.2.1)
  have HS2_:=(hb.cell (World.block_lt_of_cell? _ _ (hHeld.2.2))).trans (hHeld.2.2)
  have n0_:=rb_ jb hb
  have n1_:=rb_ jg hb
  have n2_:=bb_ jc hb
  have n3_:=ai_ (below_step (below_to1 HB ji.out) hb)
  have n4_:=ai_ (hbox)
  have n5_:=ai_ (gb_ hg (below_size (below_to1 HB ji.out)))
  have n6_:=ai_ (gb_ hg (below_size (below_to1 HB ji.out)))
  have n7_:=ai_ (ne_ hg (blk_lt (blk_to jc)))
  have n8_:=ai_ (ne_ hg (blk_lt (blk_to jc))).symm
  clear jb
  clear jg
  clear jc
  clear HB
  have jb:=n0_
  have jg:=n1_
  have jc:=n2_
  have HB:=n3_
  have ja:=n4_
  have j1f:=n5_
  have jn:=n6_
  have jf:=n7_
  have jh:=n8_
  clear n0_ n1_ n2_ n3_ n4_ n5_ n6_ n7_ n8_
  clear hb hbox hg
  refine hK.out _ _ ⟨HS0_,HS1_,HS2_⟩ (fun hHeld=>?_)
  clear hK K
  refine norm_ (a':=?_) ?_ ?_
  rotate_left
  ·show Act.put _ (some 15) _=_
   simp only [Act.put,List.setIfInBounds_toArray,List.set_cons_zero,List.set_cons_succ,i64_w,i32_w]
   rfl
  refine one_ (i:=12) (N:=none) (fr_ [13]) rfl rfl (one_of HT_.out (by kernel_rfl)) (by decide) (fun K hK=>?_)
  have hs34:w33.cell? ⟨jd,0,none⟩=some (.int .i64 0):=(blk_cell ja.out 0).trans rfl
  have hfs34:=blk_frozen ja.out 0
  have hns34_0:=jf.out
  have hms34_0:=jh.out
  have hs35:w33.cell? ⟨jd,1,none⟩=some (.int .i64 0):=(blk_cell ja.out 1).trans rfl
  have hfs35:=blk_frozen ja.out 1
  have hns35_0:=jf.out
  have hms35_0:=jh.out
  have hs36:w33.cell? ⟨jd,2,none⟩=some (.int .i64 0):=(blk_cell ja.out 2).trans rfl
  have hfs36:=blk_frozen ja.out 2
  have hns36_0:=jf.out
  have hms36_0:=jh.out
  have hs37:w33.cell? ⟨jd,3,none⟩=some (.slice none 0 0):=(blk_cell ja.out 3).trans rfl
  have hfs37:=blk_frozen ja.out 3
  have hns37_0:=jf.out
  have hms37_0:=jh.out
  refine skip_ (w1:=?_) (by rfl) rfl ?_ ?_
  rotate_left
  ·go_simp
   rfl
  refine hK.out _ _ ⟨((cell_far (p:=⟨jd,_,none⟩) (by first|(with_reducible exact Kd.own_blk (Kd.R_ne jb.out ja.out (by decide)))|(rw [add_block];with_reducible exact Kd.own_blk (Kd.R_ne jb.out ja.out (by decide)))|(dsimp only;with_reducible exact Kd.own_blk (Kd.R_ne jb.out ja.out (by decide)))|exact Kd.own_blk (Kd.R_ne jb.out ja.out (by decide))|(rw [add_block];exact Kd.own_blk (Kd.R_ne jb.out ja.out (by decide)))|(show (Addr.add _ _).block≠_;rw [add_block];exact Kd.own_blk (Kd.R_ne jb.out ja.out (by decide)))|(dsimp only;exact Kd.own_blk (Kd.R_ne jb.out ja.out (by decide)))) _).trans (((cell_far (p:=⟨jd,_,none⟩) (by first|(with_reducible exact Kd.own_blk (Kd.R_ne jb.out ja.out (by decide)))|(rw [add_block];with_reducible exact Kd.own_blk (Kd.R_ne jb.out ja.out (by decide)))|(dsimp only;with_reducible exact Kd.own_blk (Kd.R_ne jb.out ja.out (by decide)))|exact Kd.own_blk (Kd.R_ne jb.out ja.out (by decide))|(rw [add_block];exact Kd.own_blk (Kd.R_ne jb.out ja.out (by decide)))|(show (Addr.add _ _).block≠_;rw [add_block];exact Kd.own_blk (Kd.R_ne jb.out ja.out (by decide)))|(dsimp only;exact Kd.own_blk (Kd.R_ne jb.out ja.out (by decide)))) _).trans (((cell_far (p:=⟨jd,_,none⟩) (by first|(with_reducible exact Kd.own_blk (Kd.R_ne jb.out ja.out (by decide)))|(rw [add_block];with_reducible exact Kd.own_blk (Kd.R_ne jb.out ja.out (by decide)))|(dsimp only;with_reducible exact Kd.own_blk (Kd.R_ne jb.out ja.out (by decide)))|exact Kd.own_blk (Kd.R_ne jb.out ja.out (by decide))|(rw [add_block];exact Kd.own_blk (Kd.R_ne jb.out ja.out (by decide)))|(show (Addr.add _ _).block≠_;rw [add_block];exact Kd.own_blk (Kd.R_ne jb.out ja.out (by decide)))|(dsimp only;exact Kd.own_blk (Kd.R_ne jb.out ja.out (by decide)))) _).trans (((cell_far (p:=⟨jd,_,none⟩) (by first|(with_reducible exact Kd.own_blk (Kd.R_ne jb.out ja.out (by decide)))|(rw [add_block];with_reducible exact Kd.own_blk (Kd.R_ne jb.out ja.out (by decide)))|(dsimp only;with_reducible exact Kd.own_blk (Kd.R_ne jb.out ja.out (by decide)))|exact Kd.own_blk (Kd.R_ne jb.out ja.out (by decide))|(rw [add_block];exact Kd.own_blk (Kd.R_ne jb.out ja.out (by decide)))|(show (Addr.add _ _).block≠_;rw [add_block];exact Kd.own_blk (Kd.R_ne jb.out ja.out (by decide)))|(dsimp only;exact Kd.own_blk (Kd.R_ne jb.out ja.out (by decide)))) _).trans (hHeld.1)))))))),((cell_far (p:=⟨jd,_,none⟩) (by first|(with_reducible exact Kd.own_blk (Kd.R_ne jb.out ja.out (by decide)))|(rw [add_block];with_reducible exact Kd.own_blk (Kd.R_ne jb.out ja.out (by decide)))|(dsimp only;with_reducible exact Kd.own_blk (Kd.R_ne jb.out ja.out (by decide)))|exact Kd.own_blk (Kd.R_ne jb.out ja.out (by decide))|(rw [add_block];exact Kd.own_blk (Kd.R_ne jb.out ja.out (by decide)))|(show (Addr.add _ _).block≠_;rw [add_block];exact Kd.own_blk (Kd.R_ne jb.out ja.out (by decide)))|(dsimp only;exact Kd.own_blk (Kd.R_ne jb.out ja.out (by decide)))) _).trans (((cell_far (p:=⟨jd,_,none⟩) (by first|(with_reducible exact Kd.own_blk (Kd.R_ne jb.out ja.out (by decide)))|(rw [add_block];with_reducible exact Kd.own_blk (Kd.R_ne jb.out ja.out (by decide)))|(dsimp only;with_reducible exact Kd.own_blk (Kd.R_ne jb.out ja.out (by decide)))|exact Kd.own_blk (Kd.R_ne jb.out ja.out (by decide))|(rw [add_block];exact Kd.own_blk (Kd.R_ne jb.out ja.out (by decide)))|(show (Addr.add _ _).block≠_;rw [add_block];exact Kd.own_blk (Kd.R_ne jb.out ja.out (by decide)))|(dsimp only;exact Kd.own_blk (Kd.R_ne jb.out ja.out (by decide)))) _).trans (((cell_far (p:=⟨jd,_,none⟩) (by first|(with_reducible exact Kd.own_blk (Kd.R_ne jb.out ja.out (by decide)))|(rw [add_block];with_reducible exact Kd.own_blk (Kd.R_ne jb.out ja.out (by decide)))|(dsimp only;with_reducible exact Kd.own_blk (Kd.R_ne jb.out ja.out (by decide)))|exact Kd.own_blk (Kd.R_ne jb.out ja.out (by decide))|(rw [add_block];exact Kd.own_blk (Kd.R_ne jb.out ja.out (by decide)))|(show (Addr.add _ _).block≠_;rw [add_block];exact Kd.own_blk (Kd.R_ne jb.out ja.out (by decide)))|(dsimp only;exact Kd.own_blk (Kd.R_ne jb.out ja.out (by decide)))) _).trans (((cell_far (p:=⟨jd,_,none⟩) (by first|(with_reducible exact Kd.own_blk (Kd.R_ne jb.out ja.out (by decide)))|(rw [add_block];with_reducible exact Kd.own_blk (Kd.R_ne jb.out ja.out (by decide)))|(dsimp only;with_reducible exact Kd.own_blk (Kd.R_ne jb.out ja.out (by decide)))|exact Kd.own_blk (Kd.R_ne jb.out ja.out (by decide))|(rw [add_block];exact Kd.own_blk (Kd.R_ne jb.out ja.out (by decide)))|(show (Addr.add _ _).block≠_;rw [add_block];exact Kd.own_blk (Kd.R_ne jb.out ja.out (by decide)))|(dsimp only;exact Kd.own_blk (Kd.R_ne jb.out ja.out (by decide)))) _).trans (hHeld.2.1)))))))),((cell_far (p:=⟨jd,_,none⟩) (by first|(with_reducible exact Kd.own_blk (Kd.R_ne jb.out ja.out (by decide)))|(rw [add_block];with_reducible exact Kd.own_blk (Kd.R_ne jb.out ja.out (by decide)))|(dsimp only;with_reducible exact Kd.own_blk (Kd.R_ne jb.out ja.out (by decide)))|exact Kd.own_blk (Kd.R_ne jb.out ja.out (by decide))|(rw [add_block];exact Kd.own_blk (Kd.R_ne jb.out ja.out (by decide)))|(show (Addr.add _ _).block≠_;rw [add_block];exact Kd.own_blk (Kd.R_ne jb.out ja.out (by decide)))|(dsimp only;exact Kd.own_blk (Kd.R_ne jb.out ja.out (by decide)))) _).trans (((cell_far (p:=⟨jd,_,none⟩) (by first|(with_reducible exact Kd.own_blk (Kd.R_ne jb.out ja.out (by decide)))|(rw [add_block];with_reducible exact Kd.own_blk (Kd.R_ne jb.out ja.out (by decide)))|(dsimp only;with_reducible exact Kd.own_blk (Kd.R_ne jb.out ja.out (by decide)))|exact Kd.own_blk (Kd.R_ne jb.out ja.out (by decide))|(rw [add_block];exact Kd.own_blk (Kd.R_ne jb.out ja.out (by decide)))|(show (Addr.add _ _).block≠_;rw [add_block];exact Kd.own_blk (Kd.R_ne jb.out ja.out (by decide)))|(dsimp only;exact Kd.own_blk (Kd.R_ne jb.out ja.out (by decide)))) _).trans (((cell_far (p:=⟨jd,_,none⟩) (by first|(with_reducible exact Kd.own_blk (Kd.R_ne jb.out ja.out (by decide)))|(rw [add_block];with_reducible exact Kd.own_blk (Kd.R_ne jb.out ja.out (by decide)))|(dsimp only;with_reducible exact Kd.own_blk (Kd.R_ne jb.out ja.out (by decide)))|exact Kd.own_blk (Kd.R_ne jb.out ja.out (by decide))|(rw [add_block];exact Kd.own_blk (Kd.R_ne jb.out ja.out (by decide)))|(show (Addr.add _ _).block≠_;rw [add_block];exact Kd.own_blk (Kd.R_ne jb.out ja.out (by decide)))|(dsimp only;exact Kd.own_blk (Kd.R_ne jb.out ja.out (by decide)))) _).trans (((cell_far (p:=⟨jd,_,none⟩) (by first|(with_reducible exact Kd.own_blk (Kd.R_ne jb.out ja.out (by decide)))|(rw [add_block];with_reducible exact Kd.own_blk (Kd.R_ne jb.out ja.out (by decide)))|(dsimp only;with_reducible exact Kd.own_blk (Kd.R_ne jb.out ja.out (by decide)))|exact Kd.own_blk (Kd.R_ne jb.out ja.out (by decide))|(rw [add_block];exact Kd.own_blk (Kd.R_ne jb.out ja.out (by decide)))|(show (Addr.add _ _).block≠_;rw [add_block];exact Kd.own_blk (Kd.R_ne jb.out ja.out (by decide)))|(dsimp only;exact Kd.own_blk (Kd.R_ne jb.out ja.out (by decide)))) _).trans (hHeld.2.2))))))))⟩ (fun hHeld=>?_)
  clear hK K
  refine done_ (done_of HT_.out (by kernel_rfl)) ?_
  have j5s:=jh.out
  have j5t:=jf.out
  obtain ⟨j3m,j3n,j3o,j3p,j3q,j3r,j3s,j3t⟩:=blk4_ ja
  try go_wp2_with (first|((with_reducible refine gate_callee (f:=15) rfl ?_);refine gl_ (some 74) Tryz.func15 #[.agg #[.int .i64 (rd je 0),.int .i64 (rd je 1),.int .i64 (rd je 2),.slice Ao32 jo.length co32]] ?_;(with_reducible refine (impl_IsLine.calls kj10 (rd je 0) (rd je 1) (rd je 2) _ _ jo true _ ?side1 ?side2 A26.out).mono ?_);(case side1=>refine (Kd.R_reads' (e:=3) (base:=w.heap.size) (ok:=fun k_=>some k_≠(.slice (some jj) je.length co31:Value).ownBlock) (n:=jo.length) (c:=co32) ?_).2.2;exact (rtf_ jg ja));(case side2=>exact (Kd.R_reads' jg.out).2.1);rintro e w40 ⟨rfl,hb⟩;refine ⟨_,rfl,?_⟩;replace jb:=ai_ (Kd.R_below (rtf_ jb ja) hb);replace jg:=ai_ (Kd.R_below (rtf_ jg ja) hb);replace jc:=ai_ (blk_below (blk_f1 jc jf) hb);replace ja:=ai_ (blk_below (g:=jd) (o:=.cells #[.int .i64 (rd je 0),.int .i64 (rd je 1),.int .i64 (rd je 2),.slice Ao32 jo.length co32] 26 (0,0)) (bput4 ja) hb);replace HB:=ai_ (below_step (below_to2 HB ji.out jn.out) hb);(try clear hb);obtain ⟨j3u,j3v,j3w,j3x,j3y,j3z,j4a,j4b⟩:=blk4_ ja)|(go_at_call 53;(with_reducible refine (impl_lineText.calls kj10 (rd je 0) (rd je 1) (rd je 2) _ _ jo j1d _ ?side1 ?side2 A28.out ?sidet).mono ?_);(case sidet=>refine Go.Proofs.YthdnodmidbcgpaaGreatDoor.XText.T1.on (w:=w) (Go.Proofs.YthdnodmidbcgpaaGreatDoor.XText.T2.to1 HTab_.out) ?_;repeat (first|(with_reducible first|exact HB.out|exact Below.refl _ _|apply below_alloc|apply pw_below_drewN|apply below_drew1|refine below_set ?_ ji.out|refine below_set ?_ jn.out)|exact HB.out|exact Below.refl _ _));(case side1=>exact cR_ jg);(case side2=>exact (Kd.R_reads' jg.out).2.1);rintro e w42 ⟨rfl,hb⟩;replace jb:=rb_ jb hb;replace jg:=rb_ jg hb;replace jc:=bb_ jc hb;replace ja:=bb_ ja hb;replace HB:=ai_ (below_step (below_to2 HB ji.out jn.out) hb);(try clear hb);obtain ⟨j4c,j4d,j4e,j4f,j4g,j4h,j4i,j4j⟩:=blk4_ ja;obtain ⟨j4k,j4l,j4m,j4n,j4o,j4p,j4q,j4r⟩:=blk4_ jc))
  refine bodyPost_ret (results_ct rfl _ _ jr 26 #[.int .i64 (rd je 0),.int .i64 (rd je 1),.int .i64 (rd je 2),.slice Ao32 jo.length co32] (0,0) _ rfl (bput4 jc) Tryz.underlying26 rfl (by kernel_rfl)) rfl ?_
  exact ⟨_,rtE_,by (with_reducible repeat (first|apply Kd.R_alloc|apply Kd.R_drewN|apply Kd.R_drew));exact Kd.R_mono (Kd.R_far (p:=⟨jr,3,none⟩) (Kd.R_far (p:=⟨jr,2,none⟩) (Kd.R_far (p:=⟨jr,1,none⟩) (Kd.R_far (p:=⟨jr,0,none⟩) (Kd.R_types jg.out jc.out (by decide)) (fun _ hk=>hk.2) (.int .i64 (rd je 0))) (fun _ hk=>hk.2) (.int .i64 (rd je 1))) (fun _ hk=>hk.2) (.int .i64 (rd je 2))) (fun _ hk=>hk.2) (.slice Ao32 jo.length co32)) (fun _ hk=>trivial),below_to2 HB ji.out jn.out⟩
end Go.Proofs.YthdnodmidbcgpaaGreatDoor.QR
