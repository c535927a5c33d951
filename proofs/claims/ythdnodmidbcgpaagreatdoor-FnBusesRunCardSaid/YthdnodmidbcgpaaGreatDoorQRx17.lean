import Derived.Test.YthdnodmidbcgpaaGreatDoorQRx16
namespace Go.Proofs.YthdnodmidbcgpaaGreatDoor.QR
open Go.Proofs.YthdnodmidbcgpaaGreatDoor.X Go.RowKit Go.Proofs.YthdnodmidbcgpaaGreatDoorW.PrintWords Go.Proofs.YthdnodmidbcgpaaGreatDoorW.PrintLast Go.Proofs.YthdnodmidbcgpaaGreatDoorW.PrintMore
attribute [local go_sem] max2_int min2_int max_two min_two max_three min_three max_four min_four
set_option linter.unusedVariables false
set_option linter.unusedSimpArgs false
mutual
def spec_buParse.j0:Nat→ByteArray→List ByteArray→Bool→Option (Int × Int × Int × List Int × Bool)
 | 0,_,_,_=>none
 | k+1,x0,x4,x19=>if x19=true then (some (0,0,0,([]:List Int),false)) else (if 0 < (x4.length:Int) then ((spec_l1Split.f k (rdOf ByteArray.empty x4 0) 43).bind fun jo=>(if (jo.length:Int)=2 then (if 1 < (jo.length:Int) then ((spec_l1Split.f k (rdOf ByteArray.empty jo 1) 120).bind fun jm=>(if (jm.length:Int)=2 then (if 0 < (jo.length:Int) then ((spec_l1Read.f k (rdOf ByteArray.empty jo 0)).bind fun ju=>(if 0 < (jm.length:Int) then ((spec_l1Read.f k (rdOf ByteArray.empty jm 0)).bind fun jt=>(if 1 < (jm.length:Int) then ((spec_l1Read.f k (rdOf ByteArray.empty jm 1)).bind fun js=>(if 1 < (x4.length:Int) then ((spec_l1Split.f k (rdOf ByteArray.empty x4 1) 44).bind fun j1c=>(spec_buParse.l0 k x0 j1c (j1c.length:Int) 0 ju jt js ([]:List Int))) else (none))) else (none))) else (none))) else (none)) else (some (0,0,0,([]:List Int),false)))) else (none)) else (some (0,0,0,([]:List Int),false)))) else (none))
def spec_buParse.l0:Nat→ByteArray→List ByteArray→Int→Int→Int→Int→Int→List Int→Option (Int × Int × Int × List Int × Bool)
 | 0,_,_,_,_,_,_,_,_=>none
 | k+1,x0,x53,x54,x55,j1d,j1e,j1f,j1a=>if x55 < x54 then (if 0≤x55 then (if x55 < (x53.length:Int) then ((spec_l1Read.f k (rdOf ByteArray.empty x53 x55)).bind fun j1p=>(if j1a.length < 17592186044416 then (spec_buParse.l0 k x0 x53 x54 (wrap64 (x55+1)) j1d j1e j1f (j1a ++ [j1p])) else (none))) else (none)) else (none)) else ((spec_buGood.f k j1d j1e j1f j1a).bind fun j2h=>(if j2h=true then ((spec_buText.f k j1d j1e j1f j1a).bind fun j2i=>(some (j1d,j1e,j1f,j1a,(j2i.toList == x0.toList)))) else (some (j1d,j1e,j1f,j1a,false))))
end
def spec_buParse.f (k:Nat) (a0:ByteArray):Option (Int × Int × Int × List Int × Bool):=(spec_l1Split.f k a0 58).bind fun jp=>(if (a0.size:Int) > 80 then (spec_buParse.j0 k a0 jp true) else (spec_buParse.j0 k a0 jp ((jp.length:Int) != 2)))
def spec_buParse.T10:Bool × List (List Nat × List Nat):=(true,[([],[]),([0],[0]),([1],[1]),([2],[2]),([],[]),([4],[4]),([5],[5]),([6,3],[6]),([],[]),([8],[8]),([9],[9]),([10,7],[10]),([3,7,11],[3,7,11]),([],[]),([13,12,11,0,1,2,3,4,5,6,7,8,9,10,11,12,13],[12,13])])
def spec_buParse.B10:List Nat:=[0,1,3,7,0,16,48,127,0,256,768,2047,4095,0,16383]
theorem spec_buParse.tab10:rtab .any (opsOf Tryz.f68 10)=spec_buParse.T10:=by kernel_rfl
theorem spec_buParse.bits10:waitsOk spec_buParse.T10.2 spec_buParse.B10=true:=by kernel_rfl
def spec_buParse.T14:Bool × List (List Nat × List Nat):=(true,[([],[]),([0],[0]),([],[]),([2],[2]),([3],[3]),([1,4,3],[1,4]),([0,1,2,3,4,5],[]),([6,5,5,0,1,2,3,4,5],[5,6])])
def spec_buParse.B14:List Nat:=[0,1,0,4,12,31,63,127]
theorem spec_buParse.tab14:rtab .any (opsOf Tryz.f68 14)=spec_buParse.T14:=by kernel_rfl
theorem spec_buParse.bits14:waitsOk spec_buParse.T14.2 spec_buParse.B14=true:=by kernel_rfl
def spec_buParse.T16:Bool × List (List Nat × List Nat):=(true,[([],[]),([],[]),([1],[1]),([2,2],[2]),([3],[3]),([4,3,3],[3,4]),([3],[3]),([5,6,3],[3,5,6]),([3,7],[3,7]),([0,5,0],[0]),([8,9,0,1,2,3,4,5,6,7,8,9],[8])])
def spec_buParse.B16:List Nat:=[0,0,2,6,14,30,14,126,254,63,1023]
theorem spec_buParse.tab16:rtab .any (opsOf Tryz.f68 16)=spec_buParse.T16:=by kernel_rfl
theorem spec_buParse.bits16:waitsOk spec_buParse.T16.2 spec_buParse.B16=true:=by kernel_rfl
set_option maxHeartbeats 8000000 in
set_option maxRecDepth 100000 in
theorem spec_buParse.calls (k:Nat) (a0:ByteArray) (r1:Int) (r2:Int) (r3:Int) (r4:List Int) (r5:Bool) (w:World) (h:spec_buParse.f k a0=some (r1,r2,r3,r4,r5)) :
  Calls Tryz.prog 68 #[.string a0] w fun e w' => ∃ Aa:Value,e=.returned (.tuple #[.agg #[.int .i64 r1,.int .i64 r2,.int .i64 r3,Aa],.bool r5])∧Kd.R Ki_ 3 w' w.heap.size (fun _=>True) Aa r4∧Below w.heap.size w w':=by
 have hu26:=Tryz.underlying26
 have HB:=ai_ (Below.refl w.heap.size w)
 have H:=h
 unfold spec_buParse.f at H
 clear h
 obtain ⟨jp,A2,H⟩:=bs_ H
 (try dsimp only at H)
 have HC3:=ai_ H
 clear H
 go_enter Tryz.func68,Tryz.ntmps68
 go_upto_region 2 with (first|((with_reducible refine gate_dst (N:=2) rfl ?_);(try (refine gate_guard (by rfl) ?_;dsimp only));refine bxe_ #[.int .i64 0,.int .i64 0,.int .i64 0,.slice none 0 0] 26 ?_;intro je hg w4 hbox hb;have jc:=ai_ (hbox);have j4g:=ai_ (gb_ hg (below_size (below_to HB)));have jj:=ai_ (gb_ hg (below_size (below_to HB)));replace HB:=ai_ (below_step (below_to HB) hb);clear hb hbox hg)|((with_reducible refine gate_callee (f:=82) rfl ?_);refine gl_ (some 11) Tryz.func82 #[.string a0,.int .u8 58] ?_;(with_reducible refine (spec_l1Split.calls k a0 58 jp _ A2.out).mono ?_);rintro e w5 ⟨j3w,rfl,ho0,hb⟩;refine ⟨_,rfl,?_⟩;have j1r:=ai_ (Kd.R_lower ho0 (below_size (below_to1 HB jj.out)));replace jc:=bb_ jc hb;replace HB:=ai_ (below_step (below_to1 HB jj.out) hb);clear hb;(try clear ho0)))
 (try simp only [Act.put,List.setIfInBounds_toArray,List.set_cons_zero,List.set_cons_succ])
 go_cut [19] (fun v19 wc => ∃ (kq:Nat) (j1o:Bool),v19=.bool j1o∧Aside0 (spec_buParse.j0 kq a0 jp j1o=some (r1,r2,r3,r4,r5))∧Aside0 (kq≤k)∧Aside0 (Kd.R Kd.string 9 wc w.heap.size (fun _=>True) j3w jp)∧Aside0 (wc.heap[je]?=some (.cells #[.int .i64 0,.int .i64 0,.int .i64 0,(.slice none 0 0)] 26 (0,0)))∧Aside0 (Below w.heap.size w wc))
 case first =>
  have H:=HC3.out
  clear HC3
  by_cases c6:(a0.size:Int) > 80
  ·rw [if_pos c6] at H
   have j1q:=decide_eq_true c6
   have j2l:decide (80 < a0.size)=true:=decide_eq_true (by omega)
   clear c6
   (first|rw [j1q]|(simp only [i64_w,i32_w];rw [j1q])|skip)
   have H':=ai_ H
   clear H
   go_wp2
   go_meet
   case rel=>exact ⟨_,(true),rt_,H',⟨by first|omega|exact Nat.le_refl _⟩,⟨kd_to j1r⟩,⟨blk_to jc⟩,⟨below_to1 HB jj.out⟩⟩
  ·rw [if_neg c6] at H
   have j1q:=decide_eq_false c6
   have j2l:decide (80 < a0.size)=false:=decide_eq_false (by omega)
   clear c6
   (first|rw [j1q]|(simp only [i64_w,i32_w];rw [j1q])|skip)
   have H':=ai_ H
   clear H
   obtain ⟨Ao7,co7,eo7⟩:=Kd.R_slice j1r.out
   subst eo7
   go_wp2
   go_meet
   case rel=>exact ⟨_,(((jp.length:Int) != 2)),rt_,H',⟨by first|omega|exact Nat.le_refl _⟩,⟨kd_to j1r⟩,⟨blk_to jc⟩,⟨below_to1 HB jj.out⟩⟩
 clear HC3
 try clear p2
 try clear c6
 try clear j1q
 try clear j2l
 obtain ⟨kq,j1o,rfl,HA,HJ2,jl,jc,HB⟩:=hcut
 cases kq with
 | zero=>exact absurd HA.out (by simp [spec_buParse.j0])
 | succ kj2 =>
  have H:=HA.out
  clear HA
  simp only [spec_buParse.j0] at H
  by_cases c8:j1o=true
  ·subst c8
   rw [if_pos rfl] at H
   simp only [Option.some.injEq,Prod.mk.injEq] at H
   obtain ⟨rfl,rfl,rfl,rfl,rfl⟩:=H
   obtain ⟨j3x,j3y,j3z,j4a,j4b,j4c,j4d,j4e⟩:=blk4_ jc
   go_wp2
   refine bodyPost_ret (results_ct rfl _ _ je 26 #[.int .i64 0,.int .i64 0,.int .i64 0,.slice none 0 0] (0,0) _ rfl (bput4 jc) Tryz.underlying26 rfl (by kernel_rfl)) rfl ?_
   exact ⟨_,rtE_,by first|exact Kd.R_nil _ _ _ _ _|exact Kd.N_nil _ _ _ _ _|exact Kd.V_nil _ _ _ _ _|exact Kd.Q_nil _ _ _ _ _|exact Kd.S_nil _ _ _ _ _,below_to1 HB jj.out⟩
  replace c8:=Bool.eq_false_iff.mpr c8
  subst c8
  rw [if_neg ft_] at H
  by_cases c10:0 < (jp.length:Int)
  rotate_left
  ·rw [if_neg c10] at H
   cases H
  rw [if_pos c10] at H
  have j2m:=decide_eq_true c10
  have j2n:decide (0 < jp.length)=true:=decide_eq_true (by omega)
  clear c10
  obtain ⟨jo,A11,H⟩:=bs_ H
  (try dsimp only at H)
  by_cases c12:(jo.length:Int)=2
  rotate_left
  ·rw [if_neg c12] at H
   have j2b:=beq_eq_false_iff_ne.mpr c12
   have j2c:=bne_iff_ne.mpr c12
   simp only [Option.some.injEq,Prod.mk.injEq] at H
   obtain ⟨rfl,rfl,rfl,rfl,rfl⟩:=H
   obtain ⟨Ao71,co71,eo71⟩:=Kd.R_slice jl.out
   subst eo71
   have j1k:0≤(0:Int):=(by omega)
   have j1l:0 < (jp.length:Int):=odt_
   obtain ⟨jx,e597,jw⟩:=Kd.at_string (Kd.R_reads' jl.out).2.2 0 j1k j1l
   cases e597
   have qi597:(0 < jp.length)=True:=eq_true (by omega)
   (try rw [show ((0:Int)).toNat=0 from rfl] at jw)
   (try rw [Addr.add_zero'] at jw)
   replace j1k:=eq_true j1k
   replace j1l:=eq_true j1l
   go_wp2_with (first|((with_reducible refine gate_callee (f:=82) rfl ?_);refine gl_ (some 24) Tryz.func82 #[.string (rdOf ByteArray.empty jp 0),.int .u8 43] ?_;(with_reducible refine (spec_l1Split.calls kj2 (rdOf ByteArray.empty jp 0) 43 jo _ A11.out).mono ?_);rintro e w72 ⟨j2o,rfl,ho0,hb⟩;refine ⟨_,rfl,?_⟩;have jg:=ai_ (Kd.R_lower (Kd.R_new' ho0 (Kd.R_lt (kd_to jl))) (below_size (below_to1 HB jj.out)));replace jl:=ai_ (Kd.R_elder' (kd_to jl) (Kd.R_base ho0) hb);replace jc:=bb_ jc hb;replace HB:=ai_ (below_step (below_to1 HB jj.out) hb);clear hb;(try clear ho0);obtain ⟨Ao73,co73,eo73⟩:=Kd.R_slice jg.out;subst eo73;obtain ⟨j3f,j3g,j3h,j3i,j3j,j3k,j3l,j3m⟩:=blk4_ jc))
   refine bodyPost_ret (results_ct rfl _ _ je 26 #[.int .i64 0,.int .i64 0,.int .i64 0,.slice none 0 0] (0,0) _ rfl (bput4 jc) Tryz.underlying26 rfl (by kernel_rfl)) rfl ?_
   exact ⟨_,rtE_,by first|exact Kd.R_nil _ _ _ _ _|exact Kd.N_nil _ _ _ _ _|exact Kd.V_nil _ _ _ _ _|exact Kd.Q_nil _ _ _ _ _|exact Kd.S_nil _ _ _ _ _,below_to1 HB jj.out⟩
  rw [if_pos c12] at H
  have j2b:=beq_iff_eq.mpr c12
  have j2c:=bne_eq_false_iff_eq.mpr c12
  clear c12
  by_cases c13:1 < (jo.length:Int)
  rotate_left
  ·rw [if_neg c13] at H
   cases H
  rw [if_pos c13] at H
  have j2p:=decide_eq_true c13
  have j2q:decide (1 < jo.length)=true:=decide_eq_true (by omega)
  clear c13
  obtain ⟨jm,A14,H⟩:=bs_ H
  (try dsimp only at H)
  by_cases c15:(jm.length:Int)=2
  rotate_left
  ·rw [if_neg c15] at H
   have j2d:=beq_eq_false_iff_ne.mpr c15
   have j2e:=bne_iff_ne.mpr c15
   simp only [Option.some.injEq,Prod.mk.injEq] at H
   obtain ⟨rfl,rfl,rfl,rfl,rfl⟩:=H
   obtain ⟨Ao65,co65,eo65⟩:=Kd.R_slice jl.out
   subst eo65
   have j1k:0≤(0:Int):=(by omega)
   have j1l:0 < (jp.length:Int):=odt_
   obtain ⟨jx,e597,jw⟩:=Kd.at_string (Kd.R_reads' jl.out).2.2 0 j1k j1l
   cases e597
   have qi597:(0 < jp.length)=True:=eq_true (by omega)
   (try rw [show ((0:Int)).toNat=0 from rfl] at jw)
   (try rw [Addr.add_zero'] at jw)
   replace j1k:=eq_true j1k
   replace j1l:=eq_true j1l
   go_wp2_with (first|((with_reducible refine gate_callee (f:=82) rfl ?_);refine gl_ (some 24) Tryz.func82 #[.string (rdOf ByteArray.empty jp 0),.int .u8 43] ?_;(with_reducible refine (spec_l1Split.calls kj2 (rdOf ByteArray.empty jp 0) 43 jo _ A11.out).mono ?_);rintro e w66 ⟨j2o,rfl,ho0,hb⟩;refine ⟨_,rfl,?_⟩;have jg:=ai_ (Kd.R_lower (Kd.R_new' ho0 (Kd.R_lt (kd_to jl))) (below_size (below_to1 HB jj.out)));replace jl:=ai_ (Kd.R_elder' (kd_to jl) (Kd.R_base ho0) hb);replace jc:=bb_ jc hb;replace HB:=ai_ (below_step (below_to1 HB jj.out) hb);clear hb;(try clear ho0);obtain ⟨Ao67,co67,eo67⟩:=Kd.R_slice jg.out;subst eo67;have j1m:0≤(1:Int):=(by omega);have j1n:1 < (jo.length:Int):=of_decide_eq_true (by first|(with_reducible assumption)|assumption);obtain ⟨jz,e601,j1b⟩:=Kd.at_string (Kd.R_reads' jg.out).2.2 1 j1m j1n;cases e601;(try simp only [show (1:Int).toNat=1 from rfl,Nat.reduceMul,Nat.reduceEqDiff,Go.Addr.add,↓reduceIte] at j1b);have qi601:(1 < jo.length)=True:=eq_true (by omega);(try rw [show ((1:Int)).toNat=1 from rfl] at j1b);replace j1m:=eq_true j1m;replace j1n:=eq_true j1n)|((with_reducible refine gate_callee (f:=82) rfl ?_);refine gl_ (some 32) Tryz.func82 #[.string (rdOf ByteArray.empty jo 1),.int .u8 120] ?_;(with_reducible refine (spec_l1Split.calls kj2 (rdOf ByteArray.empty jo 1) 120 jm _ A14.out).mono ?_);rintro e w68 ⟨j4f,rfl,ho0,hb⟩;refine ⟨_,rfl,?_⟩;have jf:=ai_ (Kd.R_lower (Kd.R_new' (Kd.R_new' ho0 (Kd.R_lt (kd_to jl))) (Kd.R_lt (kd_to jg))) (below_size (below_to1 HB jj.out)));replace jl:=ai_ (Kd.R_elder' (kd_to jl) (Kd.R_base ho0) hb);replace jg:=ai_ (Kd.R_elder' (kd_to jg) (Kd.R_base ho0) hb);replace jc:=bb_ jc hb;replace HB:=ai_ (below_step (below_to1 HB jj.out) hb);clear hb;(try clear ho0);obtain ⟨Ao69,co69,eo69⟩:=Kd.R_slice jf.out;subst eo69;obtain ⟨j3n,j3o,j3p,j3q,j3r,j3s,j3t,j3u⟩:=blk4_ jc))
   refine bodyPost_ret (results_ct rfl _ _ je 26 #[.int .i64 0,.int .i64 0,.int .i64 0,.slice none 0 0] (0,0) _ rfl (bput4 jc) Tryz.underlying26 rfl (by kernel_rfl)) rfl ?_
   exact ⟨_,rtE_,by first|exact Kd.R_nil _ _ _ _ _|exact Kd.N_nil _ _ _ _ _|exact Kd.V_nil _ _ _ _ _|exact Kd.Q_nil _ _ _ _ _|exact Kd.S_nil _ _ _ _ _,below_to1 HB jj.out⟩
  rw [if_pos c15] at H
  have j2d:=beq_iff_eq.mpr c15
  have j2e:=bne_eq_false_iff_eq.mpr c15
  clear c15
  by_cases c16:0 < (jo.length:Int)
  rotate_left
  ·rw [if_neg c16] at H
   cases H
  rw [if_pos c16] at H
  have j2r:=decide_eq_true c16
  have j2s:decide (0 < jo.length)=true:=decide_eq_true (by omega)
  clear c16
  obtain ⟨ju,A17,H⟩:=bs_ H
  (try dsimp only at H)
  by_cases c18:0 < (jm.length:Int)
  rotate_left
  ·rw [if_neg c18] at H
   cases H
  rw [if_pos c18] at H
  have j2t:=decide_eq_true c18
  have j2u:decide (0 < jm.length)=true:=decide_eq_true (by omega)
  clear c18
  obtain ⟨jt,A19,H⟩:=bs_ H
  (try dsimp only at H)
  by_cases c20:1 < (jm.length:Int)
  rotate_left
  ·rw [if_neg c20] at H
   cases H
  rw [if_pos c20] at H
  have j2v:=decide_eq_true c20
  have j2w:decide (1 < jm.length)=true:=decide_eq_true (by omega)
  clear c20
  obtain ⟨js,A21,H⟩:=bs_ H
  (try dsimp only at H)
  by_cases c22:1 < (jp.length:Int)
  rotate_left
  ·rw [if_neg c22] at H
   cases H
  rw [if_pos c22] at H
  have j2x:=decide_eq_true c22
  have j2y:decide (1 < jp.length)=true:=decide_eq_true (by omega)
  clear c22
  obtain ⟨j1c,A23,H⟩:=bs_ H
  (try dsimp only at H)
  have H':=ai_ H
  clear H
  obtain ⟨Ao24,co24,eo24⟩:=Kd.R_slice jl.out
  subst eo24
  have j1k:0≤(0:Int):=(by omega)
  have j1l:0 < (jp.length:Int):=odt_
  obtain ⟨jx,e597,jw⟩:=Kd.at_string (Kd.R_reads' jl.out).2.2 0 j1k j1l
  cases e597
  have qi597:(0 < jp.length)=True:=eq_true (by omega)
  (try rw [show ((0:Int)).toNat=0 from rfl] at jw)
  (try rw [Addr.add_zero'] at jw)
  replace j1k:=eq_true j1k
  replace j1l:=eq_true j1l
  try go_wp2_with (first|((with_reducible refine gate_callee (f:=82) rfl ?_);refine gl_ (some 24) Tryz.func82 #[.string (rdOf ByteArray.empty jp 0),.int .u8 43] ?_;(with_reducible refine (spec_l1Split.calls kj2 (rdOf ByteArray.empty jp 0) 43 jo _ A11.out).mono ?_);rintro e w25 ⟨j2o,rfl,ho0,hb⟩;refine ⟨_,rfl,?_⟩;have jg:=ai_ (Kd.R_lower (Kd.R_new' ho0 (Kd.R_lt (kd_to jl))) (below_size (below_to1 HB jj.out)));replace jl:=ai_ (Kd.R_elder' (kd_to jl) (Kd.R_base ho0) hb);replace jc:=bb_ jc hb;replace HB:=ai_ (below_step (below_to1 HB jj.out) hb);clear hb;(try clear ho0);obtain ⟨Ao26,co26,eo26⟩:=Kd.R_slice jg.out;subst eo26;have j1m:0≤(1:Int):=(by omega);have j1n:1 < (jo.length:Int):=of_decide_eq_true (by first|(with_reducible assumption)|assumption);obtain ⟨jz,e601,j1b⟩:=Kd.at_string (Kd.R_reads' jg.out).2.2 1 j1m j1n;cases e601;(try simp only [show (1:Int).toNat=1 from rfl,Nat.reduceMul,Nat.reduceEqDiff,Go.Addr.add,↓reduceIte] at j1b);have qi601:(1 < jo.length)=True:=eq_true (by omega);(try rw [show ((1:Int)).toNat=1 from rfl] at j1b);replace j1m:=eq_true j1m;replace j1n:=eq_true j1n)|((with_reducible refine gate_callee (f:=82) rfl ?_);refine gl_ (some 32) Tryz.func82 #[.string (rdOf ByteArray.empty jo 1),.int .u8 120] ?_;(with_reducible refine (spec_l1Split.calls kj2 (rdOf ByteArray.empty jo 1) 120 jm _ A14.out).mono ?_);rintro e w27 ⟨j4f,rfl,ho0,hb⟩;refine ⟨_,rfl,?_⟩;have jf:=ai_ (Kd.R_lower (Kd.R_new' (Kd.R_new' ho0 (Kd.R_lt (kd_to jl))) (Kd.R_lt (kd_to jg))) (below_size (below_to1 HB jj.out)));replace jl:=ai_ (Kd.R_elder' (kd_to jl) (Kd.R_base ho0) hb);replace jg:=ai_ (Kd.R_elder' (kd_to jg) (Kd.R_base ho0) hb);replace jc:=bb_ jc hb;replace HB:=ai_ (below_step (below_to1 HB jj.out) hb);clear hb;(try clear ho0);obtain ⟨Ao28,co28,eo28⟩:=Kd.R_slice jf.out;subst eo28))
  have n0_:=ai_ (Kd.R_drew jl.out)
  have n1_:=ai_ (Kd.R_drew jg.out)
  have n2_:=ai_ (Kd.R_drew jf.out)
  have n3_:=ai_ (blk_drew jc.out)
  have n4_:=ai_ (below_drew1 HB.out)
  clear jl
  clear jg
  clear jf
  clear jc
  clear HB
  have jl:=n0_
  have jg:=n1_
  have jf:=n2_
  have jc:=n3_
  have HB:=n4_
  clear n0_ n1_ n2_ n3_ n4_
  have j1t:0≤(0:Int):=(by omega)
  have j1u:0 < (jo.length:Int):=odt_
  obtain ⟨j2z,e605,j1g⟩:=Kd.at_string (Kd.R_reads' jg.out).2.2 0 j1t j1u
  obtain rfl:jz=j2z:=(by injection e605)
  have qi605:(0 < jo.length)=True:=eq_true (by omega)
  (try rw [show ((0:Int)).toNat=0 from rfl] at j1g)
  (try rw [Addr.add_zero'] at j1g)
  replace j1t:=eq_true j1t
  replace j1u:=eq_true j1u
  have j1v:0≤(0:Int):=(by omega)
  have j1w:0 < (jm.length:Int):=odt_
  obtain ⟨jv,e607,j1h⟩:=Kd.at_string (Kd.R_reads' jf.out).2.2 0 j1v j1w
  cases e607
  have qi607:(0 < jm.length)=True:=eq_true (by omega)
  (try rw [show ((0:Int)).toNat=0 from rfl] at j1h)
  (try rw [Addr.add_zero'] at j1h)
  replace j1v:=eq_true j1v
  replace j1w:=eq_true j1w
  have j1x:0≤(1:Int):=(by omega)
  have j1y:1 < (jm.length:Int):=odt_
  obtain ⟨j3a,e609,j1i⟩:=Kd.at_string (Kd.R_reads' jf.out).2.2 1 j1x j1y
  obtain rfl:jv=j3a:=(by injection e609)
  (try simp only [show (1:Int).toNat=1 from rfl,Nat.reduceMul,Nat.reduceEqDiff,Go.Addr.add,↓reduceIte] at j1i)
  have qi609:(1 < jm.length)=True:=eq_true (by omega)
  (try rw [show ((1:Int)).toNat=1 from rfl] at j1i)
  replace j1x:=eq_true j1x
  replace j1y:=eq_true j1y
  refine start_ (n:=15) (S:=fun w'=>w'.cell? jz=some (.string (rdOf ByteArray.empty jo 0))∧w'.cell? jv=some (.string (rdOf ByteArray.empty jm 0))∧w'.cell? ⟨jv.block,jv.off+1,none⟩=some (.string (rdOf ByteArray.empty jm 1))) (ds:=[]) (fr_ [0,15]) (by kernel_rfl) rfl rfl ⟨j1g,j1h,j1i⟩ (fun hHeld=>?_);refine with_tabW spec_buParse.tab10 spec_buParse.bits10 (fun HT_ HW_=>?_)
  generalize w27.drew=w29 at jl jg jf jc HB j1g j1h j1i hHeld ⊢
  refine purS_ (i:=0) (N:=some 37) (fl_ 15 1) HT_.out ?_
  refine purS_ (i:=1) (N:=some 38) (fl_ 15 2) HT_.out ?_
  refine purS_ (i:=4) (N:=some 41) (fr_ [2,2,1,10]) HT_.out ?_
  refine purS_ (i:=5) (N:=some 42) (fr_ [2,2,2,9]) HT_.out ?_
  refine purS_ (i:=8) (N:=some 45) (fr_ [2,2,2,2,1,6]) HT_.out ?_
  refine purS_ (i:=9) (N:=some 46) (fr_ [2,2,2,2,2,5]) HT_.out ?_
  refine take_ (i:=2) (N:=some 39) (v:=?_) (a':=?_) (fr_ [3,1,2,2,2,5]) rfl rfl (take_ofW HT_.out HW_.out (by kernel_rfl)) (fun _ _ _ h=>h) (Or.inl ⟨by rfl,?_⟩) hHeld ?_ ?_
  rotate_left
  ·rintro w' ⟨s0,s1,s2⟩
   go_simp
   with_reducible rfl
  rotate_left
  ·simp only [Act.put,List.setIfInBounds_toArray,List.set_cons_zero,List.set_cons_succ,i64_w,i32_w]
   rfl
  refine take_ (i:=6) (N:=some 43) (v:=?_) (a':=?_) (fr_ [3,1,3,1,2,5]) rfl rfl (take_ofW HT_.out HW_.out (by kernel_rfl)) (fun _ _ _ h=>h) (Or.inl ⟨by rfl,?_⟩) hHeld ?_ ?_
  rotate_left
  ·rintro w' ⟨s0,s1,s2⟩
   go_simp
   with_reducible rfl
  rotate_left
  ·simp only [Act.put,List.setIfInBounds_toArray,List.set_cons_zero,List.set_cons_succ,i64_w,i32_w]
   rfl
  refine take_ (i:=10) (N:=some 47) (v:=?_) (a':=?_) (fr_ [3,1,3,1,3,4]) rfl rfl (take_ofW HT_.out HW_.out (by kernel_rfl)) (fun _ _ _ h=>h) (Or.inl ⟨by rfl,?_⟩) hHeld ?_ ?_
  rotate_left
  ·rintro w' ⟨s0,s1,s2⟩
   go_simp
   with_reducible rfl
  rotate_left
  ·simp only [Act.put,List.setIfInBounds_toArray,List.set_cons_zero,List.set_cons_succ,i64_w,i32_w]
   rfl
  refine join_ (σ:=Nat) 1 (fr_ [14,1]) (fun s_=>[(40,.int .i64 ju),(44,.int .i64 jt),(48,.int .i64 js),(7,.pointer (some ⟨s_,0,none⟩)),(49,.agg #[.int .i64 ju,.int .i64 jt,.int .i64 js,.slice none 0 0])]) (fun s_ w'=>(w'.cell? jz=some (.string (rdOf ByteArray.empty jo 0))∧w'.cell? jv=some (.string (rdOf ByteArray.empty jm 0))∧w'.cell? ⟨jv.block,jv.off+1,none⟩=some (.string (rdOf ByteArray.empty jm 1)))∧(Kd.R Kd.string 9 w' w.heap.size (fun k_=>some k_≠(.slice (some jv) jm.length co28:Value).ownBlock∧some k_≠(.slice (some jx) jp.length co24:Value).ownBlock) (.slice (some jz) jo.length co26) jo)∧(Kd.R Kd.string 9 w' w.heap.size (fun k_=>some k_≠(.slice (some jz) jo.length co26:Value).ownBlock∧some k_≠(.slice (some jx) jp.length co24:Value).ownBlock) (.slice (some jv) jm.length co28) jm)∧(Kd.R Kd.string 9 w' w.heap.size (fun k_=>some k_≠(.slice (some jz) jo.length co26:Value).ownBlock∧some k_≠(.slice (some jv) jm.length co28:Value).ownBlock) (.slice (some jx) jp.length co24) jp)∧(w'.heap[je]?=some (.cells #[.int .i64 0,.int .i64 0,.int .i64 0,.slice none 0 0] 26 (0,0)))∧(w'.heap[s_]?=some (.cells #[.int .i64 0,.int .i64 0,.int .i64 0,.slice none 0 0] 26 (0,0)))∧(w.heap.size≤s_)∧(w.heap.size≤s_)∧(je≠s_)∧(s_≠je)∧(Below w.heap.size w w')) ?_ ?_
  rotate_left
  ·intro hCont
   refine two_ (i:=3) (j:=13) (Ni:=some 40) (Nj:=some 7) (fr_ [7,1,3,4]) (fr_ [3,1,3,1,3,2,1,1]) rfl rfl rfl rfl (two_of HT_.out (by kernel_rfl)) (by decide) (by decide) (fun K hK=>?_) (fun K hK=>?_)
   ·skip
    refine goes_ Tryz.func83 (by kernel_rfl) rfl #[.string (rdOf ByteArray.empty jo 0)] (by rfl) rfl rfl am_ ?_
    with_reducible refine (spec_l1Read.calls kj2 (rdOf ByteArray.empty jo 0) ju _ A17.out).mono ?_
    rintro e w' ⟨rfl,⟨nd,rfl⟩⟩
    refine ⟨_,rfl,?_⟩
    refine hK.out _ _ ⟨hHeld.1,hHeld.2.1,hHeld.2.2⟩ (fun hHeld=>?_)
    clear hK K
    refine norm_ (a':=?_) ?_ ?_
    rotate_left
    ·show Act.put _ (some 40) _=_
     simp only [Act.put,List.setIfInBounds_toArray,List.set_cons_zero,List.set_cons_succ,i64_w,i32_w]
     rfl
    refine two_ (i:=7) (j:=13) (Ni:=some 44) (Nj:=some 7) (fr_ [11,4]) (fr_ [7,1,3,2,1,1]) rfl rfl rfl rfl (two_of HT_.out (by kernel_rfl)) (by decide) (by decide) (fun K hK=>?_) (fun K hK=>?_)
    ·skip
     refine goes_ Tryz.func83 (by kernel_rfl) rfl #[.string (rdOf ByteArray.empty jm 0)] (by rfl) rfl rfl am_ ?_
     with_reducible refine (spec_l1Read.calls kj2 (rdOf ByteArray.empty jm 0) jt _ A19.out).mono ?_
     rintro e w' ⟨rfl,⟨nd,rfl⟩⟩
     refine ⟨_,rfl,?_⟩
     refine hK.out _ _ ⟨hHeld.1,hHeld.2.1,hHeld.2.2⟩ (fun hHeld=>?_)
     clear hK K
     refine norm_ (a':=?_) ?_ ?_
     rotate_left
     ·show Act.put _ (some 44) _=_
      simp only [Act.put,List.setIfInBounds_toArray,List.set_cons_zero,List.set_cons_succ,i64_w,i32_w]
      rfl
     refine two_ (i:=11) (j:=13) (Ni:=some 48) (Nj:=some 7) (fr_ [12,3]) (fr_ [11,2,1,1]) rfl rfl rfl rfl (two_of HT_.out (by kernel_rfl)) (by decide) (by decide) (fun K hK=>?_) (fun K hK=>?_)
     ·skip
      refine goes_ Tryz.func83 (by kernel_rfl) rfl #[.string (rdOf ByteArray.empty jm 1)] (by rfl) rfl rfl am_ ?_
      with_reducible refine (spec_l1Read.calls kj2 (rdOf ByteArray.empty jm 1) js _ A21.out).mono ?_
      rintro e w' ⟨rfl,⟨nd,rfl⟩⟩
      refine ⟨_,rfl,?_⟩
      refine hK.out _ _ ⟨hHeld.1,hHeld.2.1,hHeld.2.2⟩ (fun hHeld=>?_)
      clear hK K
      refine norm_ (a':=?_) ?_ ?_
      rotate_left
      ·show Act.put _ (some 48) _=_
       simp only [Act.put,List.setIfInBounds_toArray,List.set_cons_zero,List.set_cons_succ,i64_w,i32_w]
       rfl
      refine purS_ (i:=12) (N:=some 49) (fl_ 15 13) HT_.out ?_
      refine one_ (i:=13) (N:=some 7) (fr_ [14,1]) rfl rfl (one_of HT_.out (by kernel_rfl)) (by decide) (fun K hK=>?_)
      refine box_step ?hg (N:=7) ?hd (cs:=#[.int .i64 0,.int .i64 0,.int .i64 0,.slice none 0 0]) (t:=26) ?hr ?_;(case hd=>rfl);(case hg=>rfl);(case hr=>first|(go_simp;done)|(go_simp;rfl))
      intro jh hg w30 hbox hb
      have HS0_:=(hb.cell (World.block_lt_of_cell? _ _ (hHeld.1))).trans (hHeld.1)
      have HS1_:=(hb.cell (World.block_lt_of_cell? _ _ (hHeld.2.1))).trans (hHeld.2.1)
      have HS2_:=(hb.cell (World.block_lt_of_cell? _ _ (hHeld.2.2))).trans (hHeld.2.2)
      have n0_:=rb_ jl hb
      have n1_:=rb_ jg hb
      have n2_:=rb_ jf hb
      have n3_:=bb_ jc hb
      have n4_:=ai_ (below_step (below_to1 HB jj.out) hb)
      have n5_:=ai_ (hbox)
      have n6_:=ai_ (gb_ hg (below_size (below_to1 HB jj.out)))
      have n7_:=ai_ (gb_ hg (below_size (below_to1 HB jj.out)))
      have n8_:=ai_ (ne_ hg (blk_lt (blk_to jc)))
      have n9_:=ai_ (ne_ hg (blk_lt (blk_to jc))).symm
      clear jl
      clear jg
      clear jf
      clear jc
      clear HB
      have jl:=n0_
      have jg:=n1_
      have jf:=n2_
      have jc:=n3_
      have HB:=n4_
      have ja:=n5_
      have j1j:=n6_
      have jq:=n7_
      have ji:=n8_
      have jb:=n9_
      clear n0_ n1_ n2_ n3_ n4_ n5_ n6_ n7_ n8_ n9_
      clear hb hbox hg
      refine hK.out _ _ ⟨HS0_,HS1_,HS2_⟩ (fun hHeld=>?_)
      clear hK K
      refine norm_ (a':=?_) ?_ ?_
      rotate_left
      ·show Act.put _ (some 7) _=_
       simp only [Act.put,List.setIfInBounds_toArray,List.set_cons_zero,List.set_cons_succ,i64_w,i32_w]
       rfl
      exact norm_ (by simp only [putAll,Act.put,List.setIfInBounds_toArray,List.set_cons_zero,List.set_cons_succ]) (hCont (jh) _ ⟨hHeld,(by (with_reducible repeat (first|apply Kd.R_alloc|apply Kd.R_drewN|apply Kd.R_drew));exact Kd.R_mono jg.out (fun _ hk=>⟨hk.2,hk.1.2⟩)),(by (with_reducible repeat (first|apply Kd.R_alloc|apply Kd.R_drewN|apply Kd.R_drew));exact Kd.R_mono jf.out (fun _ hk=>⟨hk.2,hk.1.2⟩)),(by (with_reducible repeat (first|apply Kd.R_alloc|apply Kd.R_drewN|apply Kd.R_drew));exact Kd.R_mono jl.out (fun _ hk=>⟨hk.1.2,hk.2⟩)),(blk_to jc),(blk_to ja),j1j.out,jq.out,ji.out,jb.out,(below_to2 HB jj.out jq.out)⟩)
     ·skip
      refine box_step ?hg (N:=7) ?hd (cs:=#[.int .i64 0,.int .i64 0,.int .i64 0,.slice none 0 0]) (t:=26) ?hr ?_;(case hd=>rfl);(case hg=>rfl);(case hr=>first|(go_simp;done)|(go_simp;rfl))
      intro jh hg w30 hbox hb
      have HS0_:=(hb.cell (World.block_lt_of_cell? _ _ (hHeld.1))).trans (hHeld.1)
      have HS1_:=(hb.cell (World.block_lt_of_cell? _ _ (hHeld.2.1))).trans (hHeld.2.1)
      have HS2_:=(hb.cell (World.block_lt_of_cell? _ _ (hHeld.2.2))).trans (hHeld.2.2)
      have n0_:=rb_ jl hb
      have n1_:=rb_ jg hb
      have n2_:=rb_ jf hb
      have n3_:=bb_ jc hb
      have n4_:=ai_ (below_step (below_to1 HB jj.out) hb)
      have n5_:=ai_ (hbox)
      have n6_:=ai_ (gb_ hg (below_size (below_to1 HB jj.out)))
      have n7_:=ai_ (gb_ hg (below_size (below_to1 HB jj.out)))
      have n8_:=ai_ (ne_ hg (blk_lt (blk_to jc)))
      have n9_:=ai_ (ne_ hg (blk_lt (blk_to jc))).symm
      clear jl
      clear jg
      clear jf
      clear jc
      clear HB
      have jl:=n0_
      have jg:=n1_
      have jf:=n2_
      have jc:=n3_
      have HB:=n4_
      have ja:=n5_
      have j1j:=n6_
      have jq:=n7_
      have ji:=n8_
      have jb:=n9_
      clear n0_ n1_ n2_ n3_ n4_ n5_ n6_ n7_ n8_ n9_
      clear hb hbox hg
      refine hK.out _ _ ⟨HS0_,HS1_,HS2_⟩ (fun hHeld=>?_)
      clear hK K
      refine norm_ (a':=?_) ?_ ?_
      rotate_left
      ·show Act.put _ (some 7) _=_
       simp only [Act.put,List.setIfInBounds_toArray,List.set_cons_zero,List.set_cons_succ,i64_w,i32_w]
       rfl
      refine one_ (i:=11) (N:=some 48) (fr_ [12,1,1,1]) rfl rfl (one_of HT_.out (by kernel_rfl)) (by decide) (fun K hK=>?_)
      refine goes_ Tryz.func83 (by kernel_rfl) rfl #[.string (rdOf ByteArray.empty jm 1)] (by rfl) rfl rfl am_ ?_
      with_reducible refine (spec_l1Read.calls kj2 (rdOf ByteArray.empty jm 1) js _ A21.out).mono ?_
      rintro e w' ⟨rfl,⟨nd,rfl⟩⟩
      refine ⟨_,rfl,?_⟩
      refine hK.out _ _ ⟨hHeld.1,hHeld.2.1,hHeld.2.2⟩ (fun hHeld=>?_)
      clear hK K
      refine norm_ (a':=?_) ?_ ?_
      rotate_left
      ·show Act.put _ (some 48) _=_
       simp only [Act.put,List.setIfInBounds_toArray,List.set_cons_zero,List.set_cons_succ,i64_w,i32_w]
       rfl
      refine purS_ (i:=12) (N:=some 49) (fl_ 15 14) HT_.out ?_
      exact norm_ (by simp only [putAll,Act.put,List.setIfInBounds_toArray,List.set_cons_zero,List.set_cons_succ]) (hCont (jh) _ ⟨hHeld,(by (with_reducible repeat (first|apply Kd.R_alloc|apply Kd.R_drewN|apply Kd.R_drew));exact Kd.R_mono jg.out (fun _ hk=>⟨hk.2,hk.1.2⟩)),(by (with_reducible repeat (first|apply Kd.R_alloc|apply Kd.R_drewN|apply Kd.R_drew));exact Kd.R_mono jf.out (fun _ hk=>⟨hk.2,hk.1.2⟩)),(by (with_reducible repeat (first|apply Kd.R_alloc|apply Kd.R_drewN|apply Kd.R_drew));exact Kd.R_mono jl.out (fun _ hk=>⟨hk.1.2,hk.2⟩)),(blk_to jc),(blk_to ja),j1j.out,jq.out,ji.out,jb.out,(below_to2 HB jj.out jq.out)⟩)
    ·skip
     refine box_step ?hg (N:=7) ?hd (cs:=#[.int .i64 0,.int .i64 0,.int .i64 0,.slice none 0 0]) (t:=26) ?hr ?_;(case hd=>rfl);(case hg=>rfl);(case hr=>first|(go_simp;done)|(go_simp;rfl))
     intro jh hg w30 hbox hb
     have HS0_:=(hb.cell (World.block_lt_of_cell? _ _ (hHeld.1))).trans (hHeld.1)
     have HS1_:=(hb.cell (World.block_lt_of_cell? _ _ (hHeld.2.1))).trans (hHeld.2.1)
     have HS2_:=(hb.cell (World.block_lt_of_cell? _ _ (hHeld.2.2))).trans (hHeld.2.2)
     have n0_:=rb_ jl hb
     have n1_:=rb_ jg hb
     have n2_:=rb_ jf hb
     have n3_:=bb_ jc hb
     have n4_:=ai_ (below_step (below_to1 HB jj.out) hb)
     have n5_:=ai_ (hbox)
     have n6_:=ai_ (gb_ hg (below_size (below_to1 HB jj.out)))
     have n7_:=ai_ (gb_ hg (below_size (below_to1 HB jj.out)))
     have n8_:=ai_ (ne_ hg (blk_lt (blk_to jc)))
     have n9_:=ai_ (ne_ hg (blk_lt (blk_to jc))).symm
     clear jl
     clear jg
     clear jf
     clear jc
     clear HB
     have jl:=n0_
     have jg:=n1_
     have jf:=n2_
     have jc:=n3_
     have HB:=n4_
     have ja:=n5_
     have j1j:=n6_
     have jq:=n7_
     have ji:=n8_
     have jb:=n9_
     clear n0_ n1_ n2_ n3_ n4_ n5_ n6_ n7_ n8_ n9_
     clear hb hbox hg
     refine hK.out _ _ ⟨HS0_,HS1_,HS2_⟩ (fun hHeld=>?_)
     clear hK K
     refine norm_ (a':=?_) ?_ ?_
     rotate_left
     ·show Act.put _ (some 7) _=_
      simp only [Act.put,List.setIfInBounds_toArray,List.set_cons_zero,List.set_cons_succ,i64_w,i32_w]
      rfl
     refine one_ (i:=7) (N:=some 44) (fr_ [11,2,1,1]) rfl rfl (one_of HT_.out (by kernel_rfl)) (by decide) (fun K hK=>?_)
     refine goes_ Tryz.func83 (by kernel_rfl) rfl #[.string (rdOf ByteArray.empty jm 0)] (by rfl) rfl rfl am_ ?_
     with_reducible refine (spec_l1Read.calls kj2 (rdOf ByteArray.empty jm 0) jt _ A19.out).mono ?_
     rintro e w' ⟨rfl,⟨nd,rfl⟩⟩
     refine ⟨_,rfl,?_⟩
     refine hK.out _ _ ⟨hHeld.1,hHeld.2.1,hHeld.2.2⟩ (fun hHeld=>?_)
     clear hK K
     refine norm_ (a':=?_) ?_ ?_
     rotate_left
     ·show Act.put _ (some 44) _=_
      simp only [Act.put,List.setIfInBounds_toArray,List.set_cons_zero,List.set_cons_succ,i64_w,i32_w]
      rfl
     refine one_ (i:=11) (N:=some 48) (fr_ [12,1,1,1]) rfl rfl (one_of HT_.out (by kernel_rfl)) (by decide) (fun K hK=>?_)
     refine goes_ Tryz.func83 (by kernel_rfl) rfl #[.string (rdOf ByteArray.empty jm 1)] (by rfl) rfl rfl am_ ?_
     with_reducible refine (spec_l1Read.calls kj2 (rdOf ByteArray.empty jm 1) js _ A21.out).mono ?_
     rintro e w' ⟨rfl,⟨nd,rfl⟩⟩
     refine ⟨_,rfl,?_⟩
     refine hK.out _ _ ⟨hHeld.1,hHeld.2.1,hHeld.2.2⟩ (fun hHeld=>?_)
     clear hK K
     refine norm_ (a':=?_) ?_ ?_
     rotate_left
     ·show Act.put _ (some 48) _=_
      simp only [Act.put,List.setIfInBounds_toArray,List.set_cons_zero,List.set_cons_succ,i64_w,i32_w]
      rfl
     refine purS_ (i:=12) (N:=some 49) (fl_ 15 14) HT_.out ?_
     exact norm_ (by simp only [putAll,Act.put,List.setIfInBounds_toArray,List.set_cons_zero,List.set_cons_succ]) (hCont (jh) _ ⟨hHeld,(by (with_reducible repeat (first|apply Kd.R_alloc|apply Kd.R_drewN|apply Kd.R_drew));exact Kd.R_mono jg.out (fun _ hk=>⟨hk.2,hk.1.2⟩)),(by (with_reducible repeat (first|apply Kd.R_alloc|apply Kd.R_drewN|apply Kd.R_drew));exact Kd.R_mono jf.out (fun _ hk=>⟨hk.2,hk.1.2⟩)),(by (with_reducible repeat (first|apply Kd.R_alloc|apply Kd.R_drewN|apply Kd.R_drew));exact Kd.R_mono jl.out (fun _ hk=>⟨hk.1.2,hk.2⟩)),(blk_to jc),(blk_to ja),j1j.out,jq.out,ji.out,jb.out,(below_to2 HB jj.out jq.out)⟩)
   ·skip
    refine box_step ?hg (N:=7) ?hd (cs:=#[.int .i64 0,.int .i64 0,.int .i64 0,.slice none 0 0]) (t:=26) ?hr ?_;(case hd=>rfl);(case hg=>rfl);(case hr=>first|(go_simp;done)|(go_simp;rfl))
    intro jh hg w30 hbox hb
    have HS0_:=(hb.cell (World.block_lt_of_cell? _ _ (hHeld.1))).trans (hHeld.1)
    have HS1_:=(hb.cell (World.block_lt_of_cell? _ _ (hHeld.2.1))).trans (hHeld.2.1)
    have HS2_:=(hb.cell (World.block_lt_of_cell? _ _ (hHeld.2.2))).trans (hHeld.2.2)
    have n0_:=rb_ jl hb
    have n1_:=rb_ jg hb
    have n2_:=rb_ jf hb
    have n3_:=bb_ jc hb
    have n4_:=ai_ (below_step (below_to1 HB jj.out) hb)
    have n5_:=ai_ (hbox)
    have n6_:=ai_ (gb_ hg (below_size (below_to1 HB jj.out)))
    have n7_:=ai_ (gb_ hg (below_size (below_to1 HB jj.out)))
    have n8_:=ai_ (ne_ hg (blk_lt (blk_to jc)))
    have n9_:=ai_ (ne_ hg (blk_lt (blk_to jc))).symm
    clear jl
    clear jg
    clear jf
    clear jc
    clear HB
    have jl:=n0_
    have jg:=n1_
    have jf:=n2_
    have jc:=n3_
    have HB:=n4_
    have ja:=n5_
    have j1j:=n6_
    have jq:=n7_
    have ji:=n8_
    have jb:=n9_
    clear n0_ n1_ n2_ n3_ n4_ n5_ n6_ n7_ n8_ n9_
    clear hb hbox hg
    refine hK.out _ _ ⟨HS0_,HS1_,HS2_⟩ (fun hHeld=>?_)
    clear hK K
    refine norm_ (a':=?_) ?_ ?_
    rotate_left
    ·show Act.put _ (some 7) _=_
     simp only [Act.put,List.setIfInBounds_toArray,List.set_cons_zero,List.set_cons_succ,i64_w,i32_w]
     rfl
    refine one_ (i:=3) (N:=some 40) (fr_ [7,1,3,2,1,1]) rfl rfl (one_of HT_.out (by kernel_rfl)) (by decide) (fun K hK=>?_)
    refine goes_ Tryz.func83 (by kernel_rfl) rfl #[.string (rdOf ByteArray.empty jo 0)] (by rfl) rfl rfl am_ ?_
    with_reducible refine (spec_l1Read.calls kj2 (rdOf ByteArray.empty jo 0) ju _ A17.out).mono ?_
    rintro e w' ⟨rfl,⟨nd,rfl⟩⟩
    refine ⟨_,rfl,?_⟩
    refine hK.out _ _ ⟨hHeld.1,hHeld.2.1,hHeld.2.2⟩ (fun hHeld=>?_)
    clear hK K
    refine norm_ (a':=?_) ?_ ?_
    rotate_left
    ·show Act.put _ (some 40) _=_
     simp only [Act.put,List.setIfInBounds_toArray,List.set_cons_zero,List.set_cons_succ,i64_w,i32_w]
     rfl
    refine one_ (i:=7) (N:=some 44) (fr_ [11,2,1,1]) rfl rfl (one_of HT_.out (by kernel_rfl)) (by decide) (fun K hK=>?_)
    refine goes_ Tryz.func83 (by kernel_rfl) rfl #[.string (rdOf ByteArray.empty jm 0)] (by rfl) rfl rfl am_ ?_
    with_reducible refine (spec_l1Read.calls kj2 (rdOf ByteArray.empty jm 0) jt _ A19.out).mono ?_
    rintro e w' ⟨rfl,⟨nd,rfl⟩⟩
    refine ⟨_,rfl,?_⟩
    refine hK.out _ _ ⟨hHeld.1,hHeld.2.1,hHeld.2.2⟩ (fun hHeld=>?_)
    clear hK K
    refine norm_ (a':=?_) ?_ ?_
    rotate_left
    ·show Act.put _ (some 44) _=_
     simp only [Act.put,List.setIfInBounds_toArray,List.set_cons_zero,List.set_cons_succ,i64_w,i32_w]
     rfl
    refine one_ (i:=11) (N:=some 48) (fr_ [12,1,1,1]) rfl rfl (one_of HT_.out (by kernel_rfl)) (by decide) (fun K hK=>?_)
    refine goes_ Tryz.func83 (by kernel_rfl) rfl #[.string (rdOf ByteArray.empty jm 1)] (by rfl) rfl rfl am_ ?_
    with_reducible refine (spec_l1Read.calls kj2 (rdOf ByteArray.empty jm 1) js _ A21.out).mono ?_
    rintro e w' ⟨rfl,⟨nd,rfl⟩⟩
    refine ⟨_,rfl,?_⟩
    refine hK.out _ _ ⟨hHeld.1,hHeld.2.1,hHeld.2.2⟩ (fun hHeld=>?_)
    clear hK K
    refine norm_ (a':=?_) ?_ ?_
    rotate_left
    ·show Act.put _ (some 48) _=_
     simp only [Act.put,List.setIfInBounds_toArray,List.set_cons_zero,List.set_cons_succ,i64_w,i32_w]
     rfl
    refine purS_ (i:=12) (N:=some 49) (fl_ 15 14) HT_.out ?_
    exact norm_ (by simp only [putAll,Act.put,List.setIfInBounds_toArray,List.set_cons_zero,List.set_cons_succ]) (hCont (jh) _ ⟨hHeld,(by (with_reducible repeat (first|apply Kd.R_alloc|apply Kd.R_drewN|apply Kd.R_drew));exact Kd.R_mono jg.out (fun _ hk=>⟨hk.2,hk.1.2⟩)),(by (with_reducible repeat (first|apply Kd.R_alloc|apply Kd.R_drewN|apply Kd.R_drew));exact Kd.R_mono jf.out (fun _ hk=>⟨hk.2,hk.1.2⟩)),(by (with_reducible repeat (first|apply Kd.R_alloc|apply Kd.R_drewN|apply Kd.R_drew));exact Kd.R_mono jl.out (fun _ hk=>⟨hk.1.2,hk.2⟩)),(blk_to jc),(blk_to ja),j1j.out,jq.out,ji.out,jb.out,(below_to2 HB jj.out jq.out)⟩)
  rintro jh w31 ⟨hS_,h0_,h1_,h2_,h3_,h4_,h5_,h6_,h7_,h8_,h9_⟩
  have n0_:Aside0 (Kd.R Kd.string 9 w31 w.heap.size (fun k_=>some k_≠(.slice (some jv) jm.length co28:Value).ownBlock∧some k_≠(.slice (some jx) jp.length co24:Value).ownBlock) (.slice (some jz) jo.length co26) jo):=⟨h0_⟩
  have n1_:Aside0 (Kd.R Kd.string 9 w31 w.heap.size (fun k_=>some k_≠(.slice (some jz) jo.length co26:Value).ownBlock∧some k_≠(.slice (some jx) jp.length co24:Value).ownBlock) (.slice (some jv) jm.length co28) jm):=⟨h1_⟩
  have n2_:Aside0 (Kd.R Kd.string 9 w31 w.heap.size (fun k_=>some k_≠(.slice (some jz) jo.length co26:Value).ownBlock∧some k_≠(.slice (some jv) jm.length co28:Value).ownBlock) (.slice (some jx) jp.length co24) jp):=⟨h2_⟩
  have n3_:Aside0 (w31.heap[je]?=some (.cells #[.int .i64 0,.int .i64 0,.int .i64 0,.slice none 0 0] 26 (0,0))):=⟨h3_⟩
  have n4_:Aside0 (w31.heap[jh]?=some (.cells #[.int .i64 0,.int .i64 0,.int .i64 0,.slice none 0 0] 26 (0,0))):=⟨h4_⟩
  have n5_:Aside0 (w.heap.size≤jh):=⟨h5_⟩
  have n6_:Aside0 (w.heap.size≤jh):=⟨h6_⟩
  have n7_:Aside0 (je≠jh):=⟨h7_⟩
  have n8_:Aside0 (jh≠je):=⟨h8_⟩
  have n9_:Aside0 (Below w.heap.size w w31):=⟨h9_⟩
  clear jl
  clear jg
  clear jf
  clear jc
  clear HB
  clear h0_ h1_ h2_ h3_ h4_ h5_ h6_ h7_ h8_ h9_
  have jg:=n0_
  have jf:=n1_
  have jl:=n2_
  have jc:=n3_
  have ja:=n4_
  have j1j:=n5_
  have jq:=n6_
  have ji:=n7_
  have jb:=n8_
  have HB:=n9_
  clear n0_ n1_ n2_ n3_ n4_ n5_ n6_ n7_ n8_ n9_
  have hHeld:w31.cell? jz=some (.string (rdOf ByteArray.empty jo 0))∧w31.cell? jv=some (.string (rdOf ByteArray.empty jm 0))∧w31.cell? ⟨jv.block,jv.off+1,none⟩=some (.string (rdOf ByteArray.empty jm 1)):=hS_
  refine norm_ (a':=?_) ?_ ?_
  rotate_left
  ·simp only [putAll,Act.put,List.setIfInBounds_toArray,List.set_cons_zero,List.set_cons_succ]
   rfl
  refine one_ (i:=14) (N:=none) (fr_ [15]) rfl rfl (one_of HT_.out (by kernel_rfl)) (by decide) (fun K hK=>?_)
  have hs32:w31.cell? ⟨jh,0,none⟩=some (.int .i64 0):=(blk_cell ja.out 0).trans rfl
  have hfs32:=blk_frozen ja.out 0
  have hns32_0:=ji.out
  have hms32_0:=jb.out
  have hs33:w31.cell? ⟨jh,1,none⟩=some (.int .i64 0):=(blk_cell ja.out 1).trans rfl
  have hfs33:=blk_frozen ja.out 1
  have hns33_0:=ji.out
  have hms33_0:=jb.out
  have hs34:w31.cell? ⟨jh,2,none⟩=some (.int .i64 0):=(blk_cell ja.out 2).trans rfl
  have hfs34:=blk_frozen ja.out 2
  have hns34_0:=ji.out
  have hms34_0:=jb.out
  have hs35:w31.cell? ⟨jh,3,none⟩=some (.slice none 0 0):=(blk_cell ja.out 3).trans rfl
  have hfs35:=blk_frozen ja.out 3
  have hns35_0:=ji.out
  have hms35_0:=jb.out
  refine skip_ (w1:=?_) (by rfl) rfl ?_ ?_
  rotate_left
  ·go_simp
   rfl
  refine hK.out _ _ ⟨((cell_far (p:=⟨jh,_,none⟩) (by first|exact Kd.own_blk (Kd.R_ne jg.out ja.out (by decide))|(rw [add_block];exact Kd.own_blk (Kd.R_ne jg.out ja.out (by decide)))|(show (Addr.add _ _).block≠_;rw [add_block];exact Kd.own_blk (Kd.R_ne jg.out ja.out (by decide)))|(dsimp only;exact Kd.own_blk (Kd.R_ne jg.out ja.out (by decide)))) _).trans (((cell_far (p:=⟨jh,_,none⟩) (by first|exact Kd.own_blk (Kd.R_ne jg.out ja.out (by decide))|(rw [add_block];exact Kd.own_blk (Kd.R_ne jg.out ja.out (by decide)))|(show (Addr.add _ _).block≠_;rw [add_block];exact Kd.own_blk (Kd.R_ne jg.out ja.out (by decide)))|(dsimp only;exact Kd.own_blk (Kd.R_ne jg.out ja.out (by decide)))) _).trans (((cell_far (p:=⟨jh,_,none⟩) (by first|exact Kd.own_blk (Kd.R_ne jg.out ja.out (by decide))|(rw [add_block];exact Kd.own_blk (Kd.R_ne jg.out ja.out (by decide)))|(show (Addr.add _ _).block≠_;rw [add_block];exact Kd.own_blk (Kd.R_ne jg.out ja.out (by decide)))|(dsimp only;exact Kd.own_blk (Kd.R_ne jg.out ja.out (by decide)))) _).trans (((cell_far (p:=⟨jh,_,none⟩) (by first|exact Kd.own_blk (Kd.R_ne jg.out ja.out (by decide))|(rw [add_block];exact Kd.own_blk (Kd.R_ne jg.out ja.out (by decide)))|(show (Addr.add _ _).block≠_;rw [add_block];exact Kd.own_blk (Kd.R_ne jg.out ja.out (by decide)))|(dsimp only;exact Kd.own_blk (Kd.R_ne jg.out ja.out (by decide)))) _).trans (hHeld.1)))))))),((cell_far (p:=⟨jh,_,none⟩) (by first|exact Kd.own_blk (Kd.R_ne jf.out ja.out (by decide))|(rw [add_block];exact Kd.own_blk (Kd.R_ne jf.out ja.out (by decide)))|(show (Addr.add _ _).block≠_;rw [add_block];exact Kd.own_blk (Kd.R_ne jf.out ja.out (by decide)))|(dsimp only;exact Kd.own_blk (Kd.R_ne jf.out ja.out (by decide)))) _).trans (((cell_far (p:=⟨jh,_,none⟩) (by first|exact Kd.own_blk (Kd.R_ne jf.out ja.out (by decide))|(rw [add_block];exact Kd.own_blk (Kd.R_ne jf.out ja.out (by decide)))|(show (Addr.add _ _).block≠_;rw [add_block];exact Kd.own_blk (Kd.R_ne jf.out ja.out (by decide)))|(dsimp only;exact Kd.own_blk (Kd.R_ne jf.out ja.out (by decide)))) _).trans (((cell_far (p:=⟨jh,_,none⟩) (by first|exact Kd.own_blk (Kd.R_ne jf.out ja.out (by decide))|(rw [add_block];exact Kd.own_blk (Kd.R_ne jf.out ja.out (by decide)))|(show (Addr.add _ _).block≠_;rw [add_block];exact Kd.own_blk (Kd.R_ne jf.out ja.out (by decide)))|(dsimp only;exact Kd.own_blk (Kd.R_ne jf.out ja.out (by decide)))) _).trans (((cell_far (p:=⟨jh,_,none⟩) (by first|exact Kd.own_blk (Kd.R_ne jf.out ja.out (by decide))|(rw [add_block];exact Kd.own_blk (Kd.R_ne jf.out ja.out (by decide)))|(show (Addr.add _ _).block≠_;rw [add_block];exact Kd.own_blk (Kd.R_ne jf.out ja.out (by decide)))|(dsimp only;exact Kd.own_blk (Kd.R_ne jf.out ja.out (by decide)))) _).trans (hHeld.2.1)))))))),((cell_far (p:=⟨jh,_,none⟩) (by first|exact Kd.own_blk (Kd.R_ne jf.out ja.out (by decide))|(rw [add_block];exact Kd.own_blk (Kd.R_ne jf.out ja.out (by decide)))|(show (Addr.add _ _).block≠_;rw [add_block];exact Kd.own_blk (Kd.R_ne jf.out ja.out (by decide)))|(dsimp only;exact Kd.own_blk (Kd.R_ne jf.out ja.out (by decide)))) _).trans (((cell_far (p:=⟨jh,_,none⟩) (by first|exact Kd.own_blk (Kd.R_ne jf.out ja.out (by decide))|(rw [add_block];exact Kd.own_blk (Kd.R_ne jf.out ja.out (by decide)))|(show (Addr.add _ _).block≠_;rw [add_block];exact Kd.own_blk (Kd.R_ne jf.out ja.out (by decide)))|(dsimp only;exact Kd.own_blk (Kd.R_ne jf.out ja.out (by decide)))) _).trans (((cell_far (p:=⟨jh,_,none⟩) (by first|exact Kd.own_blk (Kd.R_ne jf.out ja.out (by decide))|(rw [add_block];exact Kd.own_blk (Kd.R_ne jf.out ja.out (by decide)))|(show (Addr.add _ _).block≠_;rw [add_block];exact Kd.own_blk (Kd.R_ne jf.out ja.out (by decide)))|(dsimp only;exact Kd.own_blk (Kd.R_ne jf.out ja.out (by decide)))) _).trans (((cell_far (p:=⟨jh,_,none⟩) (by first|exact Kd.own_blk (Kd.R_ne jf.out ja.out (by decide))|(rw [add_block];exact Kd.own_blk (Kd.R_ne jf.out ja.out (by decide)))|(show (Addr.add _ _).block≠_;rw [add_block];exact Kd.own_blk (Kd.R_ne jf.out ja.out (by decide)))|(dsimp only;exact Kd.own_blk (Kd.R_ne jf.out ja.out (by decide)))) _).trans (hHeld.2.2))))))))⟩ (fun hHeld=>?_)
  clear hK K
  refine done_ (done_of HT_.out (by kernel_rfl)) ?_
  have j1z:0≤(1:Int):=(by omega)
  have j2a:1 < (jp.length:Int):=odt_
  obtain ⟨j3b,e612,jr⟩:=Kd.at_string (Kd.R_reads' jl.out).2.2 1 j1z j2a
  obtain rfl:jx=j3b:=(by injection e612)
  (try simp only [show (1:Int).toNat=1 from rfl,Nat.reduceMul,Nat.reduceEqDiff,Go.Addr.add,↓reduceIte] at jr)
  have qi612:(1 < jp.length)=True:=eq_true (by omega)
  (try rw [show ((1:Int)).toNat=1 from rfl] at jr)
  have hn612_0:jx.block≠jh:=Kd.own_blk (Kd.R_ne jl.out ja.out (by decide))
  have hn612_1:jx.block≠jh:=Kd.own_blk (Kd.R_ne jl.out ja.out (by decide))
  have hn612_2:jx.block≠jh:=Kd.own_blk (Kd.R_ne jl.out ja.out (by decide))
  have hn612_3:jx.block≠jh:=Kd.own_blk (Kd.R_ne jl.out ja.out (by decide))
  replace jr:=(cell_far (p:=⟨jh,0,none⟩) (by first|(rw [add_block];exact hn612_0)|(show (Addr.add _ _).block≠_;rw [add_block];exact hn612_0)|exact hn612_0) (.int .i64 ju)).trans jr
  replace jr:=(cell_far (p:=⟨jh,1,none⟩) (by first|(rw [add_block];exact hn612_1)|(show (Addr.add _ _).block≠_;rw [add_block];exact hn612_1)|exact hn612_1) (.int .i64 jt)).trans jr
  replace jr:=(cell_far (p:=⟨jh,2,none⟩) (by first|(rw [add_block];exact hn612_2)|(show (Addr.add _ _).block≠_;rw [add_block];exact hn612_2)|exact hn612_2) (.int .i64 js)).trans jr
  replace jr:=(cell_far (p:=⟨jh,3,none⟩) (by first|(rw [add_block];exact hn612_3)|(show (Addr.add _ _).block≠_;rw [add_block];exact hn612_3)|exact hn612_3) (.slice none 0 0)).trans jr
  clear hn612_0
  clear hn612_1
  clear hn612_2
  clear hn612_3
  replace j1z:=eq_true j1z
  replace j2a:=eq_true j2a
  try go_wp2_with (first|((with_reducible refine gate_callee (f:=82) rfl ?_);refine gl_ (some 53) Tryz.func82 #[.string (rdOf ByteArray.empty jp 1),.int .u8 44] ?_;(with_reducible refine (spec_l1Split.calls kj2 (rdOf ByteArray.empty jp 1) 44 j1c _ A23.out).mono ?_);rintro e w36 ⟨j4k,rfl,ho0,hb⟩;refine ⟨_,rfl,?_⟩;have j2f:=ai_ (Kd.R_lower (Kd.R_new' (Kd.R_new' (Kd.R_new' ho0 (Kd.R_lt (rtf_ jl ja))) (Kd.R_lt (rtf_ jg ja))) (Kd.R_lt (rtf_ jf ja))) (below_size (below_to2 HB jj.out jq.out)));replace jl:=ai_ (Kd.R_elder' (rtf_ jl ja) (Kd.R_base ho0) hb);replace jg:=ai_ (Kd.R_elder' (rtf_ jg ja) (Kd.R_base ho0) hb);replace jf:=ai_ (Kd.R_elder' (rtf_ jf ja) (Kd.R_base ho0) hb);replace jc:=ai_ (blk_below (blk_f1 jc ji) hb);replace ja:=ai_ (blk_below (g:=jh) (o:=.cells #[.int .i64 ju,.int .i64 jt,.int .i64 js,.slice none 0 0] 26 (0,0)) (bput4 ja) hb);replace HB:=ai_ (below_step (below_to2 HB jj.out jq.out) hb);clear hb;(try clear ho0);obtain ⟨Ao37,co37,eo37⟩:=Kd.R_slice j2f.out;subst eo37))
  go_loopg [55] kj2 (fun kq v55 w' => ∃ (jy:Int) (jk:List Int) (u612003:Value),v55=.int .i64 jy∧Aside0 (spec_buParse.l0 kq a0 j1c (j1c.length:Int) jy ju jt js jk=some (r1,r2,r3,r4,r5))∧Aside0 (kq≤kj2)∧Aside0 (Kd.R Kd.string 9 w' w.heap.size (fun _=>True) (.slice Ao37 j1c.length co37) j1c)∧Aside0 (Kd.R Ki_ 3 w' w.heap.size (fun _=>True) u612003 jk)∧Aside0 (w'.heap[je]?=some (.cells #[.int .i64 0,.int .i64 0,.int .i64 0,(.slice none 0 0)] 26 (0,0)))∧Aside0 (w'.heap[jh]?=some (.cells #[.int .i64 ju,.int .i64 jt,.int .i64 js,u612003] 26 (0,0)))∧Aside0 (Below w.heap.size w w'))
  case atStart=>exact ⟨(0),(([]:List Int)),(.slice none 0 0),rt_,H',⟨Nat.le_refl _⟩,⟨by (with_reducible repeat (first|apply Kd.R_alloc|apply Kd.R_drewN|apply Kd.R_drew));exact Kd.R_mono j2f.out (fun _ hk=>trivial)⟩,⟨by first|exact Kd.R_nil _ _ _ _ _|exact Kd.N_nil _ _ _ _ _|exact Kd.V_nil _ _ _ _ _|exact Kd.Q_nil _ _ _ _ _|exact Kd.S_nil _ _ _ _ _⟩,⟨blk_to jc⟩,⟨blk_to ja⟩,⟨below_to2 HB jj.out jq.out⟩⟩
  clear H'
  try clear c1
  try clear c2
  try clear p2
  try clear p5
  try clear q5
  try clear hx5
  try clear qi5
  try clear p6
  try clear q6
  try clear hx6
  try clear qi6
  try clear c8
  try clear c10
  try clear j2m
  try clear j2n
  try clear c12
  try clear j2b
  try clear j2c
  try clear c13
  try clear j2p
  try clear j2q
  try clear c15
  try clear j2d
  try clear j2e
  try clear c16
  try clear j2r
  try clear j2s
  try clear c18
  try clear j2t
  try clear j2u
  try clear c20
  try clear j2v
  try clear j2w
  try clear c22
  try clear j2x
  try clear j2y
  try clear jw
  try clear j1b
  try clear j1g
  try clear j1h
  try clear j1i
  try clear jr
  try clear j1k
  try clear j1m
  try clear j1t
  try clear j1v
  try clear j1x
  try clear j1z
  try clear j1l
  try clear j1n
  try clear j1u
  try clear j1w
  try clear j1y
  try clear j2a
  obtain ⟨jy,jk,u612003,rfl,HA,HK2,jn,jd,jc,ja,HB⟩:=hrel
  cases gk with
  | zero=>exact absurd HA.out (by simp [spec_buParse.l0])
  | succ k2 =>
   have H:=HA.out
   clear HA
   simp only [spec_buParse.l0] at H
   by_cases c38:jy < (j1c.length:Int)
   ·rw [if_pos c38] at H
    have j3c:=decide_eq_true c38
    clear c38
    by_cases c39:0≤jy
    rotate_left
    ·rw [if_neg c39] at H
     cases H
    rw [if_pos c39] at H
    have j4h:=decide_eq_true c39
    clear c39
    by_cases c40:jy < (j1c.length:Int)
    rotate_left
    ·rw [if_neg c40] at H
     cases H
    rw [if_pos c40] at H
    have j4i:=decide_eq_true c40
    clear c40
    obtain ⟨j1p,A41,H⟩:=bs_ H
    (try dsimp only at H)
    by_cases c42:jk.length < 17592186044416
    rotate_left
    ·rw [if_neg c42] at H
     cases H
    rw [if_pos c42] at H
    have j3d:=ai_ c42
    clear c42
    obtain ⟨j1s,hy618⟩:∃ y_:List Int,y_=(jk ++ [j1p]):=⟨_,rfl⟩
    replace H:(spec_buParse.l0 k2 a0 j1c (j1c.length:Int) (wrap64 (jy+1)) ju jt js j1s)=some (r1,r2,r3,r4,r5):=by first|(rw [hy618];with_reducible exact H)|(have H2_:=(Option.bind_some _ _).symm.trans H;rw [hy618];with_reducible exact H2_)|(have H2_:=(Option.bind_some _ _).symm.trans H;with_reducible exact H2_)|with_reducible exact H|(rw [hy618];exact H)|exact H
    have j3e:=ai_ hy618
    clear hy618
    have H':=ai_ H
    clear H
    have j2j:0≤(jy:Int):=odt_
    have j2k:jy < (j1c.length:Int):=odt_
    obtain ⟨j4j,e616,j3v⟩:=Kd.at_string (Kd.R_reads' jn.out).2.2 jy j2j j2k
    cases e616
    replace j2j:=eq_true j2j
    replace j2k:=eq_true j2k
    try go_wp2
    have n0_:=ai_ (Kd.R_drew jn.out)
    have n1_:=ai_ (Kd.R_drew jd.out)
    have n2_:=ai_ (blk_drew jc.out)
    have n3_:=ai_ (blk_drew ja.out)
    have n4_:=ai_ (below_drew1 HB.out)
    clear jn
    clear jd
    clear jc
    clear ja
    clear HB
    have jn:=n0_
    have jd:=n1_
    have jc:=n2_
    have ja:=n3_
    have HB:=n4_
    clear n0_ n1_ n2_ n3_ n4_
    refine start_ (n:=8) (S:=fun w'=>w'.cell? ⟨jh,0,none⟩=some (.int .i64 ju)∧w'.cell? ⟨jh,1,none⟩=some (.int .i64 jt)∧w'.cell? ⟨jh,2,none⟩=some (.int .i64 js)∧w'.cell? ⟨jh,3,none⟩=some (u612003)) (ds:=[7]) #[false,false,false,false,false,false,false,false] (by kernel_rfl) rfl rfl ⟨(blk_cell ja.out 0).trans rfl,(blk_cell ja.out 1).trans rfl,(blk_cell ja.out 2).trans rfl,(blk_cell ja.out 3).trans rfl⟩ (fun hHeld=>?_);refine with_tabW spec_buParse.tab14 spec_buParse.bits14 (fun HT_ HW_=>?_)
    generalize wr.drew=w43 at jn jd jc ja HB hHeld ⊢
    refine purS_ (i:=0) (N:=some 59) (fl_ 8 1) HT_.out ?_
    refine purS_ (i:=2) (N:=some 61) #[true,false,true,false,false,false,false,false] HT_.out ?_
    refine take_ (i:=1) (N:=some 60) (v:=?_) (a':=?_) #[true,true,true,false,false,false,false,false] rfl rfl (take_ofW HT_.out HW_.out (by kernel_rfl)) (fun _ _ _ h=>h) (Or.inl ⟨by rfl,?_⟩) hHeld ?_ ?_
    rotate_left
    ·rintro w' ⟨s0,s1,s2,s3⟩
     go_simp
     with_reducible rfl
    rotate_left
    ·simp only [Act.put,List.setIfInBounds_toArray,List.set_cons_zero,List.set_cons_succ,i64_w,i32_w]
     rfl
    refine one_ (i:=3) (N:=some 62) #[true,true,true,true,false,false,false,false] rfl rfl (one_of HT_.out (by kernel_rfl)) (by decide) (fun K hK=>?_)
    refine goes_ Tryz.func83 (by kernel_rfl) rfl #[.string (rdOf ByteArray.empty j1c jy)] (by rfl) rfl rfl am_ ?_
    with_reducible refine (spec_l1Read.calls k2 (rdOf ByteArray.empty j1c jy) j1p _ A41.out).mono ?_
    rintro e w' ⟨rfl,⟨nd,rfl⟩⟩
    refine ⟨_,rfl,?_⟩
    refine hK.out _ _ ⟨(blk_cell ja.out 0).trans rfl,(blk_cell ja.out 1).trans rfl,(blk_cell ja.out 2).trans rfl,(blk_cell ja.out 3).trans rfl⟩ (fun hHeld=>?_)
    clear hK K
    refine norm_ (a':=?_) ?_ ?_
    rotate_left
    ·show Act.put _ (some 62) _=_
     simp only [Act.put,List.setIfInBounds_toArray,List.set_cons_zero,List.set_cons_succ,i64_w,i32_w]
     rfl
    refine one_ (i:=4) (N:=some 63) #[true,true,true,true,true,false,false,false] rfl rfl (one_of HT_.out (by kernel_rfl)) (by decide) (fun K hK=>?_)
    refine value_ (w1:=?_) (v:=?_) (by rfl) rfl ?_ ?_
    rotate_left 2
    ·go_simp
     constructor
     ·rfl
     ·rfl
    refine hK.out _ _ ⟨(blk_cell (blk_alloc ja.out _) 0).trans rfl,(blk_cell (blk_alloc ja.out _) 1).trans rfl,(blk_cell (blk_alloc ja.out _) 2).trans rfl,(blk_cell (blk_alloc ja.out _) 3).trans rfl⟩ (fun hHeld=>?_)
    clear hK K
    refine norm_ (a':=?_) ?_ ?_
    rotate_left
    ·show Act.put _ (some 63) _=_
     simp only [Act.put,List.setIfInBounds_toArray,List.set_cons_zero,List.set_cons_succ,i64_w,i32_w]
     rfl
    refine one_ (i:=5) (N:=some 64) #[true,true,true,true,true,true,false,false] rfl rfl (one_of HT_.out (by kernel_rfl)) (by decide) (fun K hK=>?_)
    refine Kd.R_append_step Ki_ (w0:=w) w.heap.size (by rfl) (.tmp 60) (.tmp 63) 24 3 (.int .i64 0) 8 rfl Tryz.underlying24 info3 rfl (by decide) (by omega) u612003 jk j1p [.int .i64 j1p] (fun _=>True) (fun _=>False) rfl rfl ?aP (fun _ hk=>hk.elim) ?aF ?aO ?aB ?aS ?aL ?_
    (case aP=>exact rfl)
    (case aB=>exact (below_to2 HB jj.out jq.out))
    (case aF=>exact (fun _ _=>trivial))
    (case aO=>exact (kd_to jd))
    (case aS=>exact (below_size (below_to2 HB jj.out jq.out)))
    (case aL=>have:=j3d.out;omega)
    intro j4l w44 ho hb hg hat
    rw [← j3e.out] at ho
    have n0_:=ai_ (Kd.R_over' (kd_to jn) (Kd.R_typed (kd_to jd)) (by decide) hg)
    have n1_:=ai_ (blk_grown (g:=je) (o:=.cells #[.int .i64 0,.int .i64 0,.int .i64 0,.slice none 0 0] 26 (0,0)) (blk_to jc) hg (Kd.R_ne jd.out jc.out (by decide)))
    have n2_:=ai_ (blk_grown (g:=jh) (o:=.cells #[.int .i64 ju,.int .i64 jt,.int .i64 js,u612003] 26 (0,0)) (blk_to ja) hg (Kd.R_ne jd.out ja.out (by decide)))
    have n3_:=ai_ (hb)
    have n4_:=ai_ (ho)
    clear jn
    clear jc
    clear ja
    clear HB
    clear jd
    have jn:=n0_
    have jc:=n1_
    have ja:=n2_
    have HB:=n3_
    have j2g:=n4_
    clear n0_ n1_ n2_ n3_ n4_
    clear ho hb hg hat
    obtain ⟨Ao45,co45,eo45⟩:=Kd.R_slice j2g.out
    (first|subst eo45|(injection eo45 with f1_ f2_ f3_;have f4_:=f1_.symm;have f5_:=f3_.symm;clear f1_ f2_ f3_;subst f4_;subst f5_))
    refine hK.out _ _ ⟨(blk_cell ja.out 0).trans rfl,(blk_cell ja.out 1).trans rfl,(blk_cell ja.out 2).trans rfl,(blk_cell ja.out 3).trans rfl⟩ (fun hHeld=>?_)
    clear hK K
    refine norm_ (a':=?_) ?_ ?_
    rotate_left
    ·show Act.put _ (some 64) _=_
     simp only [Act.put,List.setIfInBounds_toArray,List.set_cons_zero,List.set_cons_succ,i64_w,i32_w]
     rfl
    refine purS_ (i:=6) (N:=some 65) (fl_ 8 7) HT_.out ?_
    refine last_ (i:=7) (N:=none) #[true,true,true,true,true,true,true,true] rfl rfl (one_of HT_.out (by kernel_rfl)) (by decide) (fun K hK=>?_)
    have hs46:w44.cell? ⟨jh,3,none⟩=some (u612003):=(blk_cell ja.out 3).trans rfl
    have hfs46:=blk_frozen ja.out 3
    have hns46_0:=ji.out
    have hms46_0:=jb.out
    refine skip_ (w1:=?_) (by rfl) rfl ?_ ?_
    rotate_left
    ·go_simp
     rfl
    refine hK.out _ _ ?_
    clear hK K
    refine done_ (done_of HT_.out (by kernel_rfl)) ?_
    try go_wp2
    go_roundg k2
    case measure=>have:=HJ2.out;have:=HK2.out;omega
    case rel=>exact ⟨(wrap64 (jy+1)),(j1s),(.slice Ao45 j1s.length co45),rt_,H',⟨by have:=HJ2.out;have:=HK2.out;omega⟩,⟨by (with_reducible repeat (first|apply Kd.R_alloc|apply Kd.R_drewN|apply Kd.R_drew));exact Kd.R_mono (Kd.R_far (p:=⟨jh,3,none⟩) (Kd.R_types jn.out ja.out (by decide)) (fun _ hk=>hk.2) (.slice Ao45 j1s.length co45)) (fun _ hk=>trivial)⟩,⟨by (with_reducible repeat (first|apply Kd.R_alloc|apply Kd.R_drewN|apply Kd.R_drew));exact Kd.R_mono (Kd.R_far (p:=⟨jh,3,none⟩) (Kd.R_types j2g.out ja.out (by decide)) (fun _ hk=>hk.2) (.slice Ao45 j1s.length co45)) (fun _ hk=>trivial)⟩,⟨by (with_reducible repeat (first|refine blk_drewN ?_ _|refine blk_drew ?_|refine blk_alloc ?_ _));refine blk_far ?_ ji.out _;(with_reducible repeat (first|refine blk_drewN ?_ _|refine blk_drew ?_|refine blk_alloc ?_ _));exact jc.out⟩,⟨by (with_reducible repeat (first|refine blk_drewN ?_ _|refine blk_drew ?_|refine blk_alloc ?_ _));refine blk_put (cs:=#[.int .i64 ju,.int .i64 jt,.int .i64 js,u612003]) ?_ 3 _ rfl;(with_reducible repeat (first|refine blk_drewN ?_ _|refine blk_drew ?_|refine blk_alloc ?_ _));exact ja.out⟩,⟨below_to2 HB jj.out jq.out⟩⟩
   rw [if_neg c38] at H
   have j3c:=decide_eq_false c38
   clear c38
   obtain ⟨j2h,A47,H⟩:=bs_ H
   (try dsimp only at H)
   by_cases c48:j2h=true
   rotate_left
   ·replace c48:=Bool.eq_false_iff.mpr c48
    subst c48
    rw [if_neg ft_] at H
    simp only [Option.some.injEq,Prod.mk.injEq] at H
    obtain ⟨rfl,rfl,rfl,rfl,rfl⟩:=H
    try go_wp2
    have n0_:=ai_ (Kd.R_drew jn.out)
    have n1_:=ai_ (Kd.R_drew jd.out)
    have n2_:=ai_ (blk_drew jc.out)
    have n3_:=ai_ (blk_drew ja.out)
    have n4_:=ai_ (below_drew1 HB.out)
    clear jn
    clear jd
    clear jc
    clear ja
    clear HB
    have jn:=n0_
    have jd:=n1_
    have jc:=n2_
    have ja:=n3_
    have HB:=n4_
    clear n0_ n1_ n2_ n3_ n4_
    obtain ⟨Ao59,co59,eo59⟩:=Kd.R_slice jd.out
    (first|subst eo59|(injection eo59 with f1_ f2_ f3_;have f4_:=f1_.symm;have f5_:=f3_.symm;clear f1_ f2_ f3_;subst f4_;subst f5_))
    refine start_ (n:=11) (S:=fun w'=>w'.cell? ⟨jh,0,none⟩=some (.int .i64 ju)∧w'.cell? ⟨jh,1,none⟩=some (.int .i64 jt)∧w'.cell? ⟨jh,2,none⟩=some (.int .i64 js)∧w'.cell? ⟨jh,3,none⟩=some (.slice Ao59 jk.length co59)) (ds:=[]) #[false,false,false,false,false,false,false,false,false,false,false] (by kernel_rfl) rfl rfl ⟨(blk_cell ja.out 0).trans rfl,(blk_cell ja.out 1).trans rfl,(blk_cell ja.out 2).trans rfl,(blk_cell ja.out 3).trans rfl⟩ (fun hHeld=>?_);refine with_tabW spec_buParse.tab16 spec_buParse.bits16 (fun HT_ HW_=>?_)
    generalize wr.drew=w58 at jn jd jc ja HB hHeld ⊢
    refine take_ (i:=0) (N:=some 67) (v:=?_) (a':=?_) #[true,false,false,false,false,false,false,false,false,false,false] rfl rfl (take_ofW HT_.out HW_.out (by kernel_rfl)) (fun _ _ _ h=>h) (Or.inl ⟨by rfl,?_⟩) hHeld ?_ ?_
    rotate_left
    ·rintro w' ⟨s0,s1,s2,s3⟩
     go_simp
     with_reducible rfl
    rotate_left
    ·simp only [Act.put,List.setIfInBounds_toArray,List.set_cons_zero,List.set_cons_succ,i64_w,i32_w]
     rfl
    refine take_ (i:=1) (N:=some 68) (v:=?_) (a':=?_) #[true,true,false,false,false,false,false,false,false,false,false] rfl rfl (take_ofW HT_.out HW_.out (by kernel_rfl)) (fun _ _ _ h=>h) (Or.inl ⟨by rfl,?_⟩) hHeld ?_ ?_
    rotate_left
    ·rintro w' ⟨s0,s1,s2,s3⟩
     go_simp
     with_reducible rfl
    rotate_left
    ·simp only [Act.put,List.setIfInBounds_toArray,List.set_cons_zero,List.set_cons_succ,i64_w,i32_w]
     rfl
    refine one_ (i:=2) (N:=some 69) #[true,true,true,false,false,false,false,false,false,false,false] rfl rfl (one_of HT_.out (by kernel_rfl)) (by decide) (fun K hK=>?_)
    refine goes_ Tryz.func52 (by kernel_rfl) rfl #[.agg #[.int .i64 ju,.int .i64 jt,.int .i64 js,.slice Ao59 jk.length co59]] (by rfl) rfl rfl am_ ?_
    with_reducible refine (spec_buGood.calls k2 ju jt js _ _ jk false _ ?side1 ?side2 A47.out).mono ?_
    (case side1=>exact cR_ jd)
    (case side2=>exact (Kd.R_reads' jd.out).2.1)
    rintro e w60 ⟨rfl,hb⟩
    refine ⟨_,rfl,?_⟩
    have n0_:=rb_ jn hb
    have n1_:=rb_ jd hb
    have n2_:=bb_ jc hb
    have n3_:=bb_ ja hb
    have n4_:=ai_ (below_step (below_to2 HB jj.out jq.out) hb)
    clear jn
    clear jd
    clear jc
    clear ja
    clear HB
    have jn:=n0_
    have jd:=n1_
    have jc:=n2_
    have ja:=n3_
    have HB:=n4_
    clear n0_ n1_ n2_ n3_ n4_
    (try clear hb)
    (try clear hb2)
    (try clear hk)
    (try clear hi)
    refine hK.out _ _ ⟨(blk_cell ja.out 0).trans rfl,(blk_cell ja.out 1).trans rfl,(blk_cell ja.out 2).trans rfl,(blk_cell ja.out 3).trans rfl⟩ (fun hHeld=>?_)
    clear hK K
    refine norm_ (a':=?_) ?_ ?_
    rotate_left
    ·show Act.put _ (some 69) _=_
     simp only [Act.put,List.setIfInBounds_toArray,List.set_cons_zero,List.set_cons_succ,i64_w,i32_w]
     rfl
    refine purS_ (i:=3) (N:=some 70) (fl_ 11 4) HT_.out ?_
    refine pure_ (i:=4) (N:=some 71) (v:=undef) (a':=?_) (fl_ 11 5) rfl rfl (any_of HT_.out (by kernel_rfl)) (fun _ _ _ h=>h) (Or.inr ⟨by rfl,rfl⟩) ?_ ?_
    rotate_left
    ·simp only [Act.put,List.setIfInBounds_toArray,List.set_cons_zero,List.set_cons_succ,i64_w,i32_w]
     rfl
    refine pure_ (i:=5) (N:=some 72) (v:=undef) (a':=?_) (fl_ 11 6) rfl rfl (any_of HT_.out (by kernel_rfl)) (fun _ _ _ h=>h) (Or.inr ⟨by rfl,rfl⟩) ?_ ?_
    rotate_left
    ·simp only [Act.put,List.setIfInBounds_toArray,List.set_cons_zero,List.set_cons_succ,i64_w,i32_w]
     rfl
    refine pure_ (i:=6) (N:=some 73) (v:=undef) (a':=?_) (fl_ 11 7) rfl rfl (any_of HT_.out (by kernel_rfl)) (fun _ _ _ h=>h) (Or.inr ⟨by rfl,rfl⟩) ?_ ?_
    rotate_left
    ·simp only [Act.put,List.setIfInBounds_toArray,List.set_cons_zero,List.set_cons_succ,i64_w,i32_w]
     rfl
    refine pure_ (i:=7) (N:=some 74) (v:=undef) (a':=?_) (fl_ 11 8) rfl rfl (any_of HT_.out (by kernel_rfl)) (fun _ _ _ h=>h) (Or.inr ⟨by rfl,rfl⟩) ?_ ?_
    rotate_left
    ·simp only [Act.put,List.setIfInBounds_toArray,List.set_cons_zero,List.set_cons_succ,i64_w,i32_w]
     rfl
    refine purS_ (i:=8) (N:=some 75) (fl_ 11 9) HT_.out ?_
    refine one_ (i:=9) (N:=none) #[true,true,true,true,true,true,true,true,true,true,false] rfl rfl (one_of HT_.out (by kernel_rfl)) (by decide) (fun K hK=>?_)
    have hs61:w60.cell? ⟨je,0,none⟩=some (.int .i64 0):=(blk_cell jc.out 0).trans rfl
    have hfs61:=blk_frozen jc.out 0
    have hns61_1:=jb.out
    have hms61_1:=ji.out
    have hs62:w60.cell? ⟨je,1,none⟩=some (.int .i64 0):=(blk_cell jc.out 1).trans rfl
    have hfs62:=blk_frozen jc.out 1
    have hns62_1:=jb.out
    have hms62_1:=ji.out
    have hs63:w60.cell? ⟨je,2,none⟩=some (.int .i64 0):=(blk_cell jc.out 2).trans rfl
    have hfs63:=blk_frozen jc.out 2
    have hns63_1:=jb.out
    have hms63_1:=ji.out
    have hs64:w60.cell? ⟨je,3,none⟩=some (.slice none 0 0):=(blk_cell jc.out 3).trans rfl
    have hfs64:=blk_frozen jc.out 3
    have hns64_1:=jb.out
    have hms64_1:=ji.out
    refine skip_ (w1:=?_) (by rfl) rfl ?_ ?_
    rotate_left
    ·go_simp
     rfl
    refine hK.out _ _ ⟨((cell_far (p:=⟨je,_,none⟩) jb.out _).trans (((cell_far (p:=⟨je,_,none⟩) jb.out _).trans (((cell_far (p:=⟨je,_,none⟩) jb.out _).trans (((cell_far (p:=⟨je,_,none⟩) jb.out _).trans (hHeld.1)))))))),((cell_far (p:=⟨je,_,none⟩) jb.out _).trans (((cell_far (p:=⟨je,_,none⟩) jb.out _).trans (((cell_far (p:=⟨je,_,none⟩) jb.out _).trans (((cell_far (p:=⟨je,_,none⟩) jb.out _).trans (hHeld.2.1)))))))),((cell_far (p:=⟨je,_,none⟩) jb.out _).trans (((cell_far (p:=⟨je,_,none⟩) jb.out _).trans (((cell_far (p:=⟨je,_,none⟩) jb.out _).trans (((cell_far (p:=⟨je,_,none⟩) jb.out _).trans (hHeld.2.2.1)))))))),((cell_far (p:=⟨je,_,none⟩) jb.out _).trans (((cell_far (p:=⟨je,_,none⟩) jb.out _).trans (((cell_far (p:=⟨je,_,none⟩) jb.out _).trans (((cell_far (p:=⟨je,_,none⟩) jb.out _).trans (hHeld.2.2.2))))))))⟩ (fun hHeld=>?_)
    clear hK K
    refine purS_ (i:=10) (N:=some 3) (fl_ 11 11) HT_.out ?_
    refine done_ (done_of HT_.out (by kernel_rfl)) ?_
    try go_wp2
    refine bodyPost_ret (results_ct rfl _ _ je 26 #[.int .i64 ju,.int .i64 jt,.int .i64 js,.slice Ao59 jk.length co59] (0,0) _ rfl (bput4 jc) Tryz.underlying26 rfl (by kernel_rfl)) rfl ?_
    exact ⟨_,rtE_,by (with_reducible repeat (first|apply Kd.R_alloc|apply Kd.R_drewN|apply Kd.R_drew));exact Kd.R_mono (Kd.R_far (p:=⟨je,3,none⟩) (Kd.R_far (p:=⟨je,2,none⟩) (Kd.R_far (p:=⟨je,1,none⟩) (Kd.R_far (p:=⟨je,0,none⟩) (Kd.R_types jd.out jc.out (by decide)) (fun _ hk=>hk.2) (.int .i64 ju)) (fun _ hk=>hk.2) (.int .i64 jt)) (fun _ hk=>hk.2) (.int .i64 js)) (fun _ hk=>hk.2) (.slice Ao59 jk.length co59)) (fun _ hk=>trivial),below_to2 HB jj.out jq.out⟩
   subst c48
   rw [if_pos rfl] at H
   obtain ⟨j2i,A49,H⟩:=bs_ H
   (try dsimp only at H)
   simp only [Option.some.injEq,Prod.mk.injEq] at H
   obtain ⟨rfl,rfl,rfl,rfl,rfl⟩:=H
   try go_wp2
   have n0_:=ai_ (Kd.R_drew jn.out)
   have n1_:=ai_ (Kd.R_drew jd.out)
   have n2_:=ai_ (blk_drew jc.out)
   have n3_:=ai_ (blk_drew ja.out)
   have n4_:=ai_ (below_drew1 HB.out)
   clear jn
   clear jd
   clear jc
   clear ja
   clear HB
   have jn:=n0_
   have jd:=n1_
   have jc:=n2_
   have ja:=n3_
   have HB:=n4_
   clear n0_ n1_ n2_ n3_ n4_
   obtain ⟨Ao51,co51,eo51⟩:=Kd.R_slice jd.out
   (first|subst eo51|(injection eo51 with f1_ f2_ f3_;have f4_:=f1_.symm;have f5_:=f3_.symm;clear f1_ f2_ f3_;subst f4_;subst f5_))
   refine start_ (n:=11) (S:=fun w'=>w'.cell? ⟨jh,0,none⟩=some (.int .i64 ju)∧w'.cell? ⟨jh,1,none⟩=some (.int .i64 jt)∧w'.cell? ⟨jh,2,none⟩=some (.int .i64 js)∧w'.cell? ⟨jh,3,none⟩=some (.slice Ao51 jk.length co51)) (ds:=[]) #[false,false,false,false,false,false,false,false,false,false,false] (by kernel_rfl) rfl rfl ⟨(blk_cell ja.out 0).trans rfl,(blk_cell ja.out 1).trans rfl,(blk_cell ja.out 2).trans rfl,(blk_cell ja.out 3).trans rfl⟩ (fun hHeld=>?_);refine with_tabW spec_buParse.tab16 spec_buParse.bits16 (fun HT_ HW_=>?_)
   generalize wr.drew=w50 at jn jd jc ja HB hHeld ⊢
   refine take_ (i:=0) (N:=some 67) (v:=?_) (a':=?_) #[true,false,false,false,false,false,false,false,false,false,false] rfl rfl (take_ofW HT_.out HW_.out (by kernel_rfl)) (fun _ _ _ h=>h) (Or.inl ⟨by rfl,?_⟩) hHeld ?_ ?_
   rotate_left
   ·rintro w' ⟨s0,s1,s2,s3⟩
    go_simp
    with_reducible rfl
   rotate_left
   ·simp only [Act.put,List.setIfInBounds_toArray,List.set_cons_zero,List.set_cons_succ,i64_w,i32_w]
    rfl
   refine take_ (i:=1) (N:=some 68) (v:=?_) (a':=?_) #[true,true,false,false,false,false,false,false,false,false,false] rfl rfl (take_ofW HT_.out HW_.out (by kernel_rfl)) (fun _ _ _ h=>h) (Or.inl ⟨by rfl,?_⟩) hHeld ?_ ?_
   rotate_left
   ·rintro w' ⟨s0,s1,s2,s3⟩
    go_simp
    with_reducible rfl
   rotate_left
   ·simp only [Act.put,List.setIfInBounds_toArray,List.set_cons_zero,List.set_cons_succ,i64_w,i32_w]
    rfl
   refine one_ (i:=2) (N:=some 69) #[true,true,true,false,false,false,false,false,false,false,false] rfl rfl (one_of HT_.out (by kernel_rfl)) (by decide) (fun K hK=>?_)
   refine goes_ Tryz.func52 (by kernel_rfl) rfl #[.agg #[.int .i64 ju,.int .i64 jt,.int .i64 js,.slice Ao51 jk.length co51]] (by rfl) rfl rfl am_ ?_
   with_reducible refine (spec_buGood.calls k2 ju jt js _ _ jk true _ ?side1 ?side2 A47.out).mono ?_
   (case side1=>exact cR_ jd)
   (case side2=>exact (Kd.R_reads' jd.out).2.1)
   rintro e w52 ⟨rfl,hb⟩
   refine ⟨_,rfl,?_⟩
   have n0_:=rb_ jn hb
   have n1_:=rb_ jd hb
   have n2_:=bb_ jc hb
   have n3_:=bb_ ja hb
   have n4_:=ai_ (below_step (below_to2 HB jj.out jq.out) hb)
   clear jn
   clear jd
   clear jc
   clear ja
   clear HB
   have jn:=n0_
   have jd:=n1_
   have jc:=n2_
   have ja:=n3_
   have HB:=n4_
   clear n0_ n1_ n2_ n3_ n4_
   (try clear hb)
   (try clear hb2)
   (try clear hk)
   (try clear hi)
   refine hK.out _ _ ⟨(blk_cell ja.out 0).trans rfl,(blk_cell ja.out 1).trans rfl,(blk_cell ja.out 2).trans rfl,(blk_cell ja.out 3).trans rfl⟩ (fun hHeld=>?_)
   clear hK K
   refine norm_ (a':=?_) ?_ ?_
   rotate_left
   ·show Act.put _ (some 69) _=_
    simp only [Act.put,List.setIfInBounds_toArray,List.set_cons_zero,List.set_cons_succ,i64_w,i32_w]
    rfl
   refine purS_ (i:=3) (N:=some 70) (fl_ 11 4) HT_.out ?_
   refine purS_ (i:=6) (N:=some 73) #[true,true,true,true,false,false,true,false,false,false,false] HT_.out ?_
   refine take_ (i:=4) (N:=some 71) (v:=?_) (a':=?_) #[true,true,true,true,true,false,true,false,false,false,false] rfl rfl (take_ofW HT_.out HW_.out (by kernel_rfl)) (fun _ _ _ h=>h) (Or.inl ⟨by rfl,?_⟩) hHeld ?_ ?_
   rotate_left
   ·rintro w' ⟨s0,s1,s2,s3⟩
    go_simp
    with_reducible rfl
   rotate_left
   ·simp only [Act.put,List.setIfInBounds_toArray,List.set_cons_zero,List.set_cons_succ,i64_w,i32_w]
    rfl
   refine one_ (i:=5) (N:=some 72) #[true,true,true,true,true,true,true,false,false,false,false] rfl rfl (one_of HT_.out (by kernel_rfl)) (by decide) (fun K hK=>?_)
   refine goes_ Tryz.func54 (by kernel_rfl) rfl #[.agg #[.int .i64 ju,.int .i64 jt,.int .i64 js,.slice Ao51 jk.length co51]] (by rfl) rfl rfl am_ ?_
   with_reducible refine (spec_buText.calls k2 ju jt js _ _ jk j2i _ ?side1 ?side2 A49.out).mono ?_
   (case side1=>exact cR_ jd)
   (case side2=>exact (Kd.R_reads' jd.out).2.1)
   rintro e w53 ⟨rfl,hb⟩
   refine ⟨_,rfl,?_⟩
   have n0_:=rb_ jn hb
   have n1_:=rb_ jd hb
   have n2_:=bb_ jc hb
   have n3_:=bb_ ja hb
   have n4_:=ai_ (below_step (below_to2 HB jj.out jq.out) hb)
   clear jn
   clear jd
   clear jc
   clear ja
   clear HB
   have jn:=n0_
   have jd:=n1_
   have jc:=n2_
   have ja:=n3_
   have HB:=n4_
   clear n0_ n1_ n2_ n3_ n4_
   (try clear hb)
   (try clear hb2)
   (try clear hk)
   (try clear hi)
   refine hK.out _ _ ⟨(blk_cell ja.out 0).trans rfl,(blk_cell ja.out 1).trans rfl,(blk_cell ja.out 2).trans rfl,(blk_cell ja.out 3).trans rfl⟩ (fun hHeld=>?_)
   clear hK K
   refine norm_ (a':=?_) ?_ ?_
   rotate_left
   ·show Act.put _ (some 72) _=_
    simp only [Act.put,List.setIfInBounds_toArray,List.set_cons_zero,List.set_cons_succ,i64_w,i32_w]
    rfl
   refine purS_ (i:=7) (N:=some 74) (fl_ 11 8) HT_.out ?_
   refine purS_ (i:=8) (N:=some 75) (fl_ 11 9) HT_.out ?_
   refine one_ (i:=9) (N:=none) #[true,true,true,true,true,true,true,true,true,true,false] rfl rfl (one_of HT_.out (by kernel_rfl)) (by decide) (fun K hK=>?_)
   have hs54:w53.cell? ⟨je,0,none⟩=some (.int .i64 0):=(blk_cell jc.out 0).trans rfl
   have hfs54:=blk_frozen jc.out 0
   have hns54_1:=jb.out
   have hms54_1:=ji.out
   have hs55:w53.cell? ⟨je,1,none⟩=some (.int .i64 0):=(blk_cell jc.out 1).trans rfl
   have hfs55:=blk_frozen jc.out 1
   have hns55_1:=jb.out
   have hms55_1:=ji.out
   have hs56:w53.cell? ⟨je,2,none⟩=some (.int .i64 0):=(blk_cell jc.out 2).trans rfl
   have hfs56:=blk_frozen jc.out 2
   have hns56_1:=jb.out
   have hms56_1:=ji.out
   have hs57:w53.cell? ⟨je,3,none⟩=some (.slice none 0 0):=(blk_cell jc.out 3).trans rfl
   have hfs57:=blk_frozen jc.out 3
   have hns57_1:=jb.out
   have hms57_1:=ji.out
   refine skip_ (w1:=?_) (by rfl) rfl ?_ ?_
   rotate_left
   ·go_simp
    rfl
   refine hK.out _ _ ⟨((cell_far (p:=⟨je,_,none⟩) jb.out _).trans (((cell_far (p:=⟨je,_,none⟩) jb.out _).trans (((cell_far (p:=⟨je,_,none⟩) jb.out _).trans (((cell_far (p:=⟨je,_,none⟩) jb.out _).trans (hHeld.1)))))))),((cell_far (p:=⟨je,_,none⟩) jb.out _).trans (((cell_far (p:=⟨je,_,none⟩) jb.out _).trans (((cell_far (p:=⟨je,_,none⟩) jb.out _).trans (((cell_far (p:=⟨je,_,none⟩) jb.out _).trans (hHeld.2.1)))))))),((cell_far (p:=⟨je,_,none⟩) jb.out _).trans (((cell_far (p:=⟨je,_,none⟩) jb.out _).trans (((cell_far (p:=⟨je,_,none⟩) jb.out _).trans (((cell_far (p:=⟨je,_,none⟩) jb.out _).trans (hHeld.2.2.1)))))))),((cell_far (p:=⟨je,_,none⟩) jb.out _).trans (((cell_far (p:=⟨je,_,none⟩) jb.out _).trans (((cell_far (p:=⟨je,_,none⟩) jb.out _).trans (((cell_far (p:=⟨je,_,none⟩) jb.out _).trans (hHeld.2.2.2))))))))⟩ (fun hHeld=>?_)
   clear hK K
   refine purS_ (i:=10) (N:=some 3) (fl_ 11 11) HT_.out ?_
   refine done_ (done_of HT_.out (by kernel_rfl)) ?_
   try go_wp2
   refine bodyPost_ret (results_ct rfl _ _ je 26 #[.int .i64 ju,.int .i64 jt,.int .i64 js,.slice Ao51 jk.length co51] (0,0) _ rfl (bput4 jc) Tryz.underlying26 rfl (by kernel_rfl)) rfl ?_
   exact ⟨_,rtE_,by (with_reducible repeat (first|apply Kd.R_alloc|apply Kd.R_drewN|apply Kd.R_drew));exact Kd.R_mono (Kd.R_far (p:=⟨je,3,none⟩) (Kd.R_far (p:=⟨je,2,none⟩) (Kd.R_far (p:=⟨je,1,none⟩) (Kd.R_far (p:=⟨je,0,none⟩) (Kd.R_types jd.out jc.out (by decide)) (fun _ hk=>hk.2) (.int .i64 ju)) (fun _ hk=>hk.2) (.int .i64 jt)) (fun _ hk=>hk.2) (.int .i64 js)) (fun _ hk=>hk.2) (.slice Ao51 jk.length co51)) (fun _ hk=>trivial),below_to2 HB jj.out jq.out⟩
end Go.Proofs.YthdnodmidbcgpaaGreatDoor.QR
