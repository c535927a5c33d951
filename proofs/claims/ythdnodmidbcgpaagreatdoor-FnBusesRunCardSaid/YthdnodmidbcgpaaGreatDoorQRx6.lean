import Derived.Test.YthdnodmidbcgpaaGreatDoorQRx4
import Derived.Test.YthdnodmidbcgpaaGreatDoorXText
namespace Go.Proofs.YthdnodmidbcgpaaGreatDoor.QR
open Go.Proofs.YthdnodmidbcgpaaGreatDoor.X Go.RowKit Go.Proofs.YthdnodmidbcgpaaGreatDoorW.PrintWords Go.Proofs.YthdnodmidbcgpaaGreatDoorW.PrintLast Go.Proofs.YthdnodmidbcgpaaGreatDoorW.PrintMore
set_option maxHeartbeats 8000000
set_option maxRecDepth 100000
attribute [local go_sem] max2_int min2_int max_two min_two max_three min_three max_four min_four
set_option linter.unusedVariables false
set_option linter.unusedSimpArgs false
mutual
def spec_BusesOnWay.j0:Nat→Int→Bool→Int→Int→Int→List Int→Option (List Int × Bool)
 | 0,_,_,_,_,_,_=>none
 | k+1,x1,x15,jq,jr,jm,jn=>if x15=true then (some (([]:List Int),false)) else (spec_BusesOnWay.l0 k x1 ([]:List Int) 0 jq jr jm jn)
def spec_BusesOnWay.l0:Nat→Int→List Int→Int→Int→Int→Int→List Int→Option (List Int × Bool)
 | 0,_,_,_,_,_,_,_=>none
 | k+1,x1,x6,x7,jq,jr,jm,jn=>if x7 < jm then ((spec_buTime.f jq jr jm jn x7 0).bind fun j1v=>(if j1v≤x1 then ((spec_buTime.f jq jr jm jn x7 (wrap64 ((jn.length:Int) - 1))).bind fun j1x=>(if j1x≥x1 then (if x6.length < 17592186044416 then (spec_BusesOnWay.l0 k x1 (x6 ++ [x7]) (wrap64 (x7+1)) jq jr jm jn) else (none)) else (spec_BusesOnWay.l0 k x1 x6 (wrap64 (x7+1)) jq jr jm jn))) else (spec_BusesOnWay.l0 k x1 x6 (wrap64 (x7+1)) jq jr jm jn))) else (some (x6,true))
end
def spec_BusesOnWay.f (k:Nat) (je:Int) (jf:Int) (jd:Int) (ja:List Int) (a1:Int):Option (List Int × Bool):=(spec_buGood.f k je jf jd ja).bind fun j2b=>(if j2b=true then ((spec_buMinute.f a1).bind fun j1z=>(spec_BusesOnWay.j0 k a1 (!j1z) je jf jd ja)) else (spec_BusesOnWay.j0 k a1 true je jf jd ja))
theorem spec_BusesOnWay.calls (k:Nat) (je:Int) (jf:Int) (jd:Int) (jk:Option Addr) (jl:Nat) (ja:List Int) (a1:Int) (r1:List Int) (r2:Bool) (w:World) (hr0_3:Kd.C Ki_ w jk ja.length ja) (hc0_3:ja.length≤jl) (h:spec_BusesOnWay.f k je jf jd ja a1=some (r1,r2)) :
  Calls Tryz.prog 11 #[.agg #[.int .i64 je,.int .i64 jf,.int .i64 jd,.slice jk ja.length jl],.int .i64 a1] w fun e w' => ∃ Ab:Value,e=.returned (.tuple #[Ab,.bool r2])∧Kd.R Ki_ 3 w' w.heap.size (fun _=>True) Ab r1∧Below w.heap.size w w':=by
 have hu26:=Tryz.underlying26
 have jo:=ai_ hr0_3
 have jp:=ai_ hc0_3
 clear hr0_3 hc0_3
 have HB:=ai_ (Below.refl w.heap.size w)
 have H:=h
 unfold spec_BusesOnWay.f at H
 clear h
 have HC3:=ai_ H
 clear H
 go_enter Tryz.func11,Tryz.ntmps11
 go_upto_region 1 with (first|((with_reducible refine gate_dst (N:=2) rfl ?_);(try (refine gate_guard (by rfl) ?_;dsimp only));refine bxe_ #[.int .i64 je,.int .i64 jf,.int .i64 jd,.slice jk ja.length jl] 26 ?_;intro j1y hg w4 hbox hb;have jc:=ai_ (hbox);have j5s:=ai_ (gb_ hg (below_size (below_to HB)));have jj:=ai_ (gb_ hg (below_size (below_to HB)));replace HB:=ai_ (below_step (below_to HB) hb);clear hb hbox hg))
 (try simp only [Act.put,List.setIfInBounds_toArray,List.set_cons_zero,List.set_cons_succ])
 go_cut [15] (fun v15 wc => ∃ (kq:Nat) (j1k:Bool),v15=.bool j1k∧Aside0 (spec_BusesOnWay.j0 kq a1 j1k je jf jd ja=some (r1,r2))∧Aside0 (kq≤k)∧Aside0 (wc.heap[j1y]?=some (.cells #[.int .i64 je,.int .i64 jf,.int .i64 jd,(.slice jk ja.length jl)] 26 (0,0)))∧Aside0 (Below w.heap.size w wc))
 case first =>
  have H:=HC3.out
  clear HC3
  obtain ⟨j2b,A5,H⟩:=bs_ H
  (try dsimp only at H)
  by_cases c6:j2b=true
  rotate_left
  ·replace c6:=Bool.eq_false_iff.mpr c6
   subst c6
   rw [if_neg ft_] at H
   have H':=ai_ H
   clear H
   obtain ⟨j1l,j1m,j1n,j1o,j1p,j1q,j1r,j1s⟩:=blk4_ jc
   go_wp2_with (first|((with_reducible refine gate_callee (f:=52) rfl ?_);refine gl_ (some 9) Tryz.func52 #[.agg #[.int .i64 je,.int .i64 jf,.int .i64 jd,.slice jk ja.length jl]] ?_;(with_reducible refine (spec_buGood.calls k je jf jd _ _ ja false _ ?side1 jp.out A5.out).mono ?_);(case side1=>exact cb_ jo HB);rintro e w11 ⟨rfl,hb⟩;refine ⟨_,rfl,?_⟩;replace jc:=bb_ jc hb;replace HB:=ai_ (below_step (below_to1 HB jj.out) hb);clear hb))
   go_meet
   case rel=>exact ⟨_,(true),rt_,H',⟨by first|omega|exact Nat.le_refl _⟩,⟨blk_to jc⟩,⟨below_to1 HB jj.out⟩⟩
  subst c6
  rw [if_pos rfl] at H
  obtain ⟨j1z,A7,H⟩:=bs_ H
  (try dsimp only at H)
  have H':=ai_ H
  clear H
  obtain ⟨j1c,j1d,j1e,j1f,j1g,j1h,j1i,j1j⟩:=blk4_ jc
  go_wp2_with (first|((with_reducible refine gate_callee (f:=52) rfl ?_);refine gl_ (some 9) Tryz.func52 #[.agg #[.int .i64 je,.int .i64 jf,.int .i64 jd,.slice jk ja.length jl]] ?_;(with_reducible refine (spec_buGood.calls k je jf jd _ _ ja true _ ?side1 jp.out A5.out).mono ?_);(case side1=>exact cb_ jo HB);rintro e w9 ⟨rfl,hb⟩;refine ⟨_,rfl,?_⟩;replace jc:=bb_ jc hb;replace HB:=ai_ (below_step (below_to1 HB jj.out) hb);clear hb)|(go_at_call 47;(with_reducible refine (spec_buMinute.calls a1 j1z _ A7.out).mono ?_);rintro e w' ⟨rfl,⟨nd,rfl⟩⟩))
  go_meet
  case rel=>exact ⟨_,(!j1z),rt_,H',⟨by first|omega|exact Nat.le_refl _⟩,⟨blk_to jc⟩,⟨below_to1 HB jj.out⟩⟩
 clear HC3
 try clear c1
 try clear p2
 try clear c5
 try clear c6
 try clear c11
 try clear j1l
 try clear j1m
 try clear j1n
 try clear j1o
 try clear j1c
 try clear j1d
 try clear j1e
 try clear j1f
 try clear j1p
 try clear j1q
 try clear j1r
 try clear j1s
 try clear j1g
 try clear j1h
 try clear j1i
 try clear j1j
 obtain ⟨kq,j1k,rfl,HA,HJ2,jc,HB⟩:=hcut
 cases kq with
 | zero=>exact absurd HA.out (by simp [spec_BusesOnWay.j0])
 | succ kj2 =>
  have H:=HA.out
  clear HA
  simp only [spec_BusesOnWay.j0] at H
  by_cases c12:j1k=true
  ·subst c12
   rw [if_pos rfl] at H
   simp only [Option.some.injEq,Prod.mk.injEq] at H
   obtain ⟨rfl,rfl⟩:=H
   go_wp2
   go_ret2
   exact ⟨_,rtE_,by first|exact Kd.R_nil _ _ _ _ _|exact Kd.N_nil _ _ _ _ _|exact Kd.V_nil _ _ _ _ _|exact Kd.Q_nil _ _ _ _ _|exact Kd.S_nil _ _ _ _ _,below_to1 HB jj.out⟩
  replace c12:=Bool.eq_false_iff.mpr c12
  subst c12
  rw [if_neg ft_] at H
  have H':=ai_ H
  clear H
  go_wp2
  go_loopg [6,7] kj2 (fun kq v6 v7 w' => ∃ (j1a:List Int) (js:Int),v7=.int .i64 js∧Aside0 (spec_BusesOnWay.l0 kq a1 j1a js je jf jd ja=some (r1,r2))∧Aside0 (kq≤kj2)∧Aside0 (Kd.R Ki_ 3 w' w.heap.size (fun _=>True) v6 j1a)∧Aside0 (w'.heap[j1y]?=some (.cells #[.int .i64 je,.int .i64 jf,.int .i64 jd,(.slice jk ja.length jl)] 26 (0,0)))∧Aside0 (Below w.heap.size w w'))
  case atStart=>exact ⟨(([]:List Int)),(0),rt_,H',⟨Nat.le_refl _⟩,⟨by first|exact Kd.R_nil _ _ _ _ _|exact Kd.N_nil _ _ _ _ _|exact Kd.V_nil _ _ _ _ _|exact Kd.Q_nil _ _ _ _ _|exact Kd.S_nil _ _ _ _ _⟩,⟨blk_to jc⟩,⟨below_to1 HB jj.out⟩⟩
  clear H'
  try clear c1
  try clear p2
  try clear c5
  try clear c6
  try clear c11
  try clear c12
  try clear j1l
  try clear j1m
  try clear j1n
  try clear j1o
  try clear j1c
  try clear j1d
  try clear j1e
  try clear j1f
  try clear j1p
  try clear j1q
  try clear j1r
  try clear j1s
  try clear j1g
  try clear j1h
  try clear j1i
  try clear j1j
  try clear p2
  obtain ⟨j1a,js,rfl,HA,HK2,ju,jc,HB⟩:=hrel
  cases gk with
  | zero=>exact absurd HA.out (by simp [spec_BusesOnWay.l0])
  | succ k2 =>
   have H:=HA.out
   clear HA
   simp only [spec_BusesOnWay.l0] at H
   by_cases c13:js < jd
   rotate_left
   ·rw [if_neg c13] at H
    have j2h:=decide_eq_false c13
    clear c13
    simp only [Option.some.injEq,Prod.mk.injEq] at H
    obtain ⟨rfl,rfl⟩:=H
    obtain ⟨j2y,j2z,j3a,j3b,j3c,j3d,j3e,j3f⟩:=blk4_ jc
    go_wp2
    go_ret2
    exact ⟨_,rtE_,kd_to ju,below_to1 HB jj.out⟩
   rw [if_pos c13] at H
   have j2h:=decide_eq_true c13
   clear c13
   obtain ⟨j1v,A14,H⟩:=bs_ H
   (try dsimp only at H)
   by_cases c15:j1v≤a1
   rotate_left
   ·rw [if_neg c15] at H
    have j2i:=decide_eq_false c15
    clear c15
    have H':=ai_ H
    clear H
    obtain ⟨j3g,j3h,j3i,j3j,j3k,j3l,j3m,j3n⟩:=blk4_ jc
    go_wp2_with (first|((with_reducible refine gate_callee (f:=49) rfl ?_);refine gl_ (some 24) Tryz.func49 #[.agg #[.int .i64 je,.int .i64 jf,.int .i64 jd,.slice jk ja.length jl],.int .i64 js,.int .i64 0] ?_;(with_reducible refine (spec_buTime.calls je jf jd _ _ ja js 0 j1v _ ?side1 jp.out A14.out).mono ?_);(case side1=>exact cb_ jo HB);rintro e w29 ⟨rfl,hb⟩;refine ⟨_,rfl,?_⟩;replace ju:=rb_ ju hb;replace jc:=bb_ jc hb;replace HB:=ai_ (below_step (below_to1 HB jj.out) hb);clear hb))
    go_roundg k2
    case measure=>have:=HJ2.out;have:=HK2.out;omega
    case rel=>exact ⟨(j1a),(wrap64 (js+1)),rt_,H',⟨by have:=HJ2.out;have:=HK2.out;omega⟩,⟨kd_to ju⟩,⟨blk_to jc⟩,⟨below_to1 HB jj.out⟩⟩
   rw [if_pos c15] at H
   have j2i:=decide_eq_true c15
   clear c15
   obtain ⟨j1x,A16,H⟩:=bs_ H
   (try dsimp only at H)
   by_cases c17:j1x≥a1
   rotate_left
   ·rw [if_neg c17] at H
    have j2j:=decide_eq_false c17
    clear c17
    have H':=ai_ H
    clear H
    obtain ⟨j3o,j3p,j3q,j3r,j3s,j3t,j3u,j3v⟩:=blk4_ jc
    go_wp2_with (first|((with_reducible refine gate_callee (f:=49) rfl ?_);refine gl_ (some 24) Tryz.func49 #[.agg #[.int .i64 je,.int .i64 jf,.int .i64 jd,.slice jk ja.length jl],.int .i64 js,.int .i64 0] ?_;(with_reducible refine (spec_buTime.calls je jf jd _ _ ja js 0 j1v _ ?side1 jp.out A14.out).mono ?_);(case side1=>exact cb_ jo HB);rintro e w25 ⟨rfl,hb⟩;refine ⟨_,rfl,?_⟩;replace ju:=rb_ ju hb;replace jc:=bb_ jc hb;replace HB:=ai_ (below_step (below_to1 HB jj.out) hb);clear hb;obtain ⟨j3w,j3x,j3y,j3z,j4a,j4b,j4c,j4d⟩:=blk4_ jc)|(go_at_call 49;(with_reducible refine (spec_buTime.calls je jf jd _ _ ja js (wrap64 ((ja.length:Int) - 1)) j1x _ ?side1 jp.out A16.out).mono ?_);(case side1=>exact cb_ jo HB);rintro e w27 ⟨rfl,hb⟩;replace ju:=rb_ ju hb;replace jc:=bb_ jc hb;replace HB:=ai_ (below_step (below_to1 HB jj.out) hb);clear hb))
    go_roundg k2
    case measure=>have:=HJ2.out;have:=HK2.out;omega
    case rel=>exact ⟨(j1a),(wrap64 (js+1)),rt_,H',⟨by have:=HJ2.out;have:=HK2.out;omega⟩,⟨kd_to ju⟩,⟨blk_to jc⟩,⟨below_to1 HB jj.out⟩⟩
   rw [if_pos c17] at H
   have j2j:=decide_eq_true c17
   clear c17
   by_cases c18:j1a.length < 17592186044416
   ·rw [if_pos c18] at H
    have j2k:=ai_ c18
    clear c18
    obtain ⟨j2l,hy294⟩:∃ y_:List Int,y_=(j1a ++ [js]):=⟨_,rfl⟩
    replace H:(spec_BusesOnWay.l0 k2 a1 j2l (wrap64 (js+1)) je jf jd ja)=some (r1,r2):=by first|(rw [hy294];with_reducible exact H)|(have H2_:=(Option.bind_some _ _).symm.trans H;rw [hy294];with_reducible exact H2_)|(have H2_:=(Option.bind_some _ _).symm.trans H;with_reducible exact H2_)|with_reducible exact H|(rw [hy294];exact H)|exact H
    have j2m:=ai_ hy294
    clear hy294
    have H':=ai_ H
    clear H
    obtain ⟨j4e,j4f,j4g,j4h,j4i,j4j,j4k,j4l⟩:=blk4_ jc
    go_wp2_with (first|((with_reducible refine gate_callee (f:=49) rfl ?_);refine gl_ (some 24) Tryz.func49 #[.agg #[.int .i64 je,.int .i64 jf,.int .i64 jd,.slice jk ja.length jl],.int .i64 js,.int .i64 0] ?_;(with_reducible refine (spec_buTime.calls je jf jd _ _ ja js 0 j1v _ ?side1 jp.out A14.out).mono ?_);(case side1=>exact cb_ jo HB);rintro e w20 ⟨rfl,hb⟩;refine ⟨_,rfl,?_⟩;replace ju:=rb_ ju hb;replace jc:=bb_ jc hb;replace HB:=ai_ (below_step (below_to1 HB jj.out) hb);clear hb;obtain ⟨j4m,j4n,j4o,j4p,j4q,j4r,j4s,j4t⟩:=blk4_ jc)|(go_at_call 49;(with_reducible refine (spec_buTime.calls je jf jd _ _ ja js (wrap64 ((ja.length:Int) - 1)) j1x _ ?side1 jp.out A16.out).mono ?_);(case side1=>exact cb_ jo HB);rintro e w22 ⟨rfl,hb⟩;replace ju:=rb_ ju hb;replace jc:=bb_ jc hb;replace HB:=ai_ (below_step (below_to1 HB jj.out) hb);clear hb)|((with_reducible refine gate_builtin (b:=.append) (xs:=#[.tmp 38,.tmp 40]) rfl ?_);(try (refine gate_guard (by rfl) ?_;dsimp only));at_builtin;refine Kd.R_append Ki_ (w0:=w) w.heap.size rfl (.tmp 38) (.tmp 40) 24 3 (.int .i64 0) 8 rfl Tryz.underlying24 info3 rfl (by decide) (by omega) u6 j1a js [.int .i64 js] (fun _=>True) (fun _=>False) rfl rfl ?aP (fun _ hk=>hk.elim) ?aF ?aO ?aB ?aS ?aL ?_;(case aP=>exact rfl);(case aB=>exact (below_to1 HB jj.out));(case aF=>exact (fun _ _=>trivial));(case aO=>exact (kd_to ju));(case aS=>exact (below_size (below_to1 HB jj.out)));(case aL=>have:=j2k.out;omega);intro j5z w23 ho hb hg hat;rw [← j2m.out] at ho;replace jc:=ai_ (blk_grown (g:=j1y) (o:=.cells #[.int .i64 je,.int .i64 jf,.int .i64 jd,.slice jk ja.length jl] 26 (0,0)) (blk_to jc) hg (Kd.R_ne ju.out jc.out (by decide)));replace HB:=ai_ (hb);have j2n:=ai_ (ho);clear ju;clear ho hb hg hat))
    go_roundg k2
    case measure=>have:=HJ2.out;have:=HK2.out;omega
    case rel=>exact ⟨(j2l),(wrap64 (js+1)),rt_,H',⟨by have:=HJ2.out;have:=HK2.out;omega⟩,⟨kd_to j2n⟩,⟨blk_to jc⟩,⟨below_to1 HB jj.out⟩⟩
   ·rw [if_neg c18] at H
    cases H
def strconv_Itoa.f (a0:Int):Option ByteArray:=if -9223372036854775808≤a0∧a0≤9223372036854775807 then some (⟨(Lib.itoa a0).toArray⟩:ByteArray) else none
theorem strconv_Itoa.calls (a0:Int) (r:ByteArray) (w:World) (h:strconv_Itoa.f a0=some r) (hT_:Go.Proofs.YthdnodmidbcgpaaGreatDoor.XText.T1 w) :
  Calls Tryz.prog 73 #[.int .i64 a0] w fun e w'=>e=.returned (.string r)∧Below w.heap.size w w':=by
 unfold strconv_Itoa.f at h
 by_cases c : -9223372036854775808≤a0∧a0≤9223372036854775807
 ·rw [if_pos c] at h
  obtain rfl:=Option.some.inj h
  exact Go.Proofs.YthdnodmidbcgpaaGreatDoor.XText.itoa_calls a0 w c.1 c.2 hT_
 ·rw [if_neg c] at h
  cases h
def strings_Join.f (l0:List ByteArray) (a1:ByteArray):Option (ByteArray × List ByteArray):=if l0.length≤140737488355328∧(Lib.join (l0.map (·.data.toList)) a1.data.toList).length≤140737488355328 then some ((⟨(Lib.join (l0.map (·.data.toList)) a1.data.toList).toArray⟩:ByteArray),l0) else none
theorem strings_Join.calls (P0_:Nat→Prop) (u9000_:Value) (l0:List ByteArray) (a1:ByteArray) (r1:ByteArray) (r2:List ByteArray) (w0 w:World) (hB:Below w0.heap.size w0 w) (ho0:Kd.R Kd.string 9 w w0.heap.size P0_ u9000_ l0) (h:strings_Join.f l0 a1=some (r1,r2)) :
  Calls Tryz.prog 85 #[u9000_,.string a1] w fun e w'=>e=.returned (.string r1)∧Kd.R Kd.string 9 w' w0.heap.size (fun k_=>(P0_ k_∨w.heap.size≤k_)) u9000_ r2∧Below w0.heap.size w0 w'∧Kept w w' (fun k_=>P0_ k_):=by
 unfold strings_Join.f at h
 by_cases c:l0.length≤140737488355328∧(Lib.join (l0.map (·.data.toList)) a1.data.toList).length≤140737488355328
 ·rw [if_pos c] at h
  have h:=Option.some.inj h
  obtain ⟨rfl,rfl⟩:=Prod.mk.inj h
  exact Go.Proofs.YthdnodmidbcgpaaGreatDoor.XText.join_calls P0_ u9000_ l0 a1 w0 w hB ho0 c.1 c.2
 ·rw [if_neg c] at h
  cases h
def impl_joinNumbers.l0:Nat→ByteArray→List ByteArray→List Int→Int→Int→Option (ByteArray)
 | 0,_,_,_,_,_=>none
 | k+1,x1,x5,x11,x12,x13=>if x13 < x12 then (if 0≤x13 then (if x13 < (x11.length:Int) then ((strconv_Itoa.f (rd x11 x13)).bind fun j1w=>(if x13 < (x5.length:Int) then (impl_joinNumbers.l0 k x1 (x5.set (x13:Int).toNat j1w) x11 x12 (wrap64 (x13+1))) else (none))) else (none)) else (none)) else ((strings_Join.f x5 x1).bind fun bt303=>(some bt303.1))
def impl_joinNumbers.f (k:Nat) (l0:List Int) (a1:ByteArray):Option (ByteArray):=if 0≤(l0.length:Int) then (if ((l0.length:Int):Int).toNat≤17592186044416 then (impl_joinNumbers.l0 k a1 (List.replicate ((l0.length:Int):Int).toNat (⟨#[]⟩:ByteArray)) l0 (l0.length:Int) 0) else (none)) else (none)
theorem impl_joinNumbers.calls (k:Nat) (A0:Option Addr) (c0:Nat) (l0:List Int) (a1:ByteArray) (r:ByteArray) (w:World) (hr0:Kd.C Ki_ w A0 l0.length l0) (hc0:l0.length≤c0) (h:impl_joinNumbers.f k l0 a1=some r) (hT_:Go.Proofs.YthdnodmidbcgpaaGreatDoor.XText.T1 w) :
  Calls Tryz.prog 74 #[.slice A0 l0.length c0,.string a1] w fun e w'=>e=.returned (.string r)∧Below w.heap.size w w':=by
 have HTab_:=ai_ hT_
 clear hT_
 have HR0:=ai_ hr0
 have HC0:=ai_ hc0
 clear hr0 hc0
 have HB:=ai_ (Below.refl w.heap.size w)
 have H:=h
 unfold impl_joinNumbers.f at H
 clear h
 by_cases c3:0≤(l0.length:Int)
 rotate_left
 ·rw [if_neg c3] at H
  cases H
 rw [if_pos c3] at H
 have j2o:=eq_true c3
 have j2p:=decide_eq_true c3
 clear c3
 by_cases c4:((l0.length:Int):Int).toNat≤17592186044416
 rotate_left
 ·rw [if_neg c4] at H
  cases H
 rw [if_pos c4] at H
 have j5c:=eq_true c4
 have j5d:=decide_eq_true c4
 clear c4
 obtain ⟨j2q,hy297⟩:∃ y_:List ByteArray,y_=(List.replicate ((l0.length:Int):Int).toNat (⟨#[]⟩:ByteArray)):=⟨_,rfl⟩
 replace H:(impl_joinNumbers.l0 k a1 j2q l0 (l0.length:Int) 0)=some r:=by first|(rw [hy297];with_reducible exact H)|(have H2_:=(Option.bind_some _ _).symm.trans H;rw [hy297];with_reducible exact H2_)|(have H2_:=(Option.bind_some _ _).symm.trans H;with_reducible exact H2_)|with_reducible exact H|(rw [hy297];exact H)|exact H
 have j2a:=ai_ hy297
 clear hy297
 have H':=ai_ H
 clear H
 go_enter Tryz.func74,Tryz.ntmps74
 go_wp2_with (first|((with_reducible refine gate_dst (N:=10) rfl ?_);refine Kd.R_make Kd.string _ 9 rfl (N:=10) rfl 79 _ _ rfl (l0.length:Int) rfl rfl Tryz.underlying79 (.string ⟨#[]⟩) 16 info9 rfl (by decide) (by omega) (⟨#[]⟩:ByteArray) (ok:=fun _=>True) (okp:=fun _=>True) rfl (fun _ hk=>hk) trivial (of_decide_eq_true (by first|(with_reducible assumption)|assumption)) (Nat.le_trans (Nat.mul_le_mul_right _ (of_decide_eq_true (by first|(with_reducible assumption)|assumption):(l0.length:Int).toNat≤17592186044416)) (by omega)) (Below.refl _ _) (Nat.le_refl _) ?_;intro j5e w5 ho6 hb hg_ hnew_;clear hg_ hnew_;(first|rw [← j2a.out] at ho6|(simp only [Int.reduceToNat] at ho6;rw [← j2a.out] at ho6));have j2r:=ai_ (Kd.R_lower ho6 (below_size (below_to HB)));replace HB:=ai_ (below_step (below_to HB) hb);clear hb ho6))
 go_loopg [13] k (fun kq v13 w' => ∃ (jy:List ByteArray) (jg:Int),v13=.int .i64 jg∧Aside0 (impl_joinNumbers.l0 kq a1 jy l0 (l0.length:Int) jg=some r)∧Aside0 (kq≤k)∧Aside0 (Kd.R Kd.string 9 w' w.heap.size (fun _=>True) j5e jy)∧Aside0 (Below w.heap.size w w'))
 case atStart=>exact ⟨(j2q),(0),rt_,H',⟨Nat.le_refl _⟩,⟨kd_to j2r⟩,⟨below_to HB⟩⟩
 clear H'
 try clear p2
 try clear c3
 try clear j2o
 try clear j2p
 try clear c4
 try clear j5c
 try clear j5d
 obtain ⟨jy,jg,rfl,HA,HK1,jx,HB⟩:=hrel
 cases gk with
 | zero=>exact absurd HA.out (by simp [impl_joinNumbers.l0])
 | succ k1 =>
  have H:=HA.out
  clear HA
  simp only [impl_joinNumbers.l0] at H
  by_cases c7:jg < (l0.length:Int)
  rotate_left
  ·rw [if_neg c7] at H
   have j5f:=decide_eq_false c7
   clear c7
   replace H:=Option.bind_eq_some_iff.mp H
   obtain ⟨⟨j2s,j5g⟩,A160,H⟩:=H
   replace H:(some j2s)=some r:=H
   have A16:=ai_ A160
   clear A160
   obtain rfl:=Option.some.inj H
   obtain ⟨Ao17,co17,eo17⟩:=Kd.R_slice jx.out
   subst eo17
   go_wp2_with (first|((with_reducible refine gate_callee (f:=85) rfl ?_);refine gl_ (some 26) Tryz.func85 #[.slice Ao17 jy.length co17,.string a1] ?_;(with_reducible refine (strings_Join.calls (fun k_=>some k_=(.slice Ao17 jy.length co17:Value).ownBlock) (.slice Ao17 jy.length co17) jy a1 j2s j5g w _ ?side1 ?side2 A16.out).mono ?_);(case side1=>exact below_to HB);(case side2=>exact Kd.R_tight rfl jx.out);rintro e w18 ⟨rfl,hy0,hb,hkp⟩;refine ⟨_,rfl,?_⟩;replace jx:=ai_ (Kd.R_reok rfl hy0 (fun k_ e_=>jx.out.1 k_ e_));replace HB:=ai_ (hb);(try clear hb);(try clear hkp);(try clear hy0)))
   go_ret
   exact ⟨rtE_,below_to HB⟩
  rw [if_pos c7] at H
  have j5f:=decide_eq_true c7
  clear c7
  by_cases c8:0≤jg
  rotate_left
  ·rw [if_neg c8] at H
   cases H
  rw [if_pos c8] at H
  have j5h:=decide_eq_true c8
  clear c8
  by_cases c9:jg < (l0.length:Int)
  rotate_left
  ·rw [if_neg c9] at H
   cases H
  rw [if_pos c9] at H
  have j5i:=decide_eq_true c9
  clear c9
  obtain ⟨j1w,A10,H⟩:=bs_ H
  (try dsimp only at H)
  by_cases c11:jg < (jy.length:Int)
  ·rw [if_pos c11] at H
   have j2t:=decide_eq_true c11
   clear c11
   obtain ⟨j2c,hy302⟩:∃ y_:List ByteArray,y_=(jy.set (jg:Int).toNat j1w):=⟨_,rfl⟩
   replace H:(impl_joinNumbers.l0 k1 a1 j2c l0 (l0.length:Int) (wrap64 (jg+1)))=some r:=by first|(rw [hy302];with_reducible exact H)|(have H2_:=(Option.bind_some _ _).symm.trans H;rw [hy302];with_reducible exact H2_)|(have H2_:=(Option.bind_some _ _).symm.trans H;with_reducible exact H2_)|with_reducible exact H|(rw [hy302];exact H)|exact H
   have j2u:=ai_ hy302
   clear hy302
   have H':=ai_ H
   clear H
   have j2d:0≤(jg:Int):=odt_
   have j2e:jg < (l0.length:Int):=odt_
   obtain ⟨j5t,e300,j1t⟩:=Kd.at_int HR0.out jg j2d j2e
   cases e300
   replace j1t:=bx_ HB j1t
   replace j2d:=eq_true j2d
   replace j2e:=eq_true j2e
   go_wp2_with (first|((with_reducible refine gate_callee (f:=73) rfl ?_);refine gl_ (some 21) Tryz.func73 #[.int .i64 (rd l0 jg)] ?_;(with_reducible refine (strconv_Itoa.calls (rd l0 jg) j1w _ A10.out ?sidet).mono ?_);(case sidet=>refine Go.Proofs.YthdnodmidbcgpaaGreatDoor.XText.T1.on (w:=w) HTab_.out ?_;repeat (first|(with_reducible first|exact HB.out|exact Below.refl _ _|apply below_alloc|apply pw_below_drewN|apply below_drew1)|exact HB.out|exact Below.refl _ _));rintro e w13 ⟨rfl,hb⟩;refine ⟨_,rfl,?_⟩;replace jx:=rb_ jx hb;replace HB:=ai_ (below_step (below_to HB) hb);clear hb;have p12:0≤(jg:Int):=of_decide_eq_true (by first|(with_reducible assumption)|assumption);have q12:(jg:Int) < ((jy.length:Int):Int):=of_decide_eq_true (by first|(with_reducible assumption)|assumption);obtain ⟨go12,co12,eo12,j2v,gl12,cl12,HG12⟩:=Kd.R_form jx.out (by omega);(first|cases eo12|(injection eo12 with ea_ en_ ec_;(first|subst ea_|(injection ea_ with ea_;subst ea_));subst ec_;clear en_));have GB12:=ai_ j2v;have GG12:=ai_ HG12;clear j2v gl12 HG12;obtain ⟨j5j,hf12_0⟩:=Kd.R_celln (⟨#[]⟩:ByteArray) jx.out (jg:Int) p12 q12;replace p12:=eq_true p12;replace q12:=eq_true q12;obtain ⟨hy14_,hz14_⟩:=Kd.R_celln (⟨#[]⟩:ByteArray) jx.out (jg:Int) (of_decide_eq_true (by first|(with_reducible assumption)|assumption)) (of_decide_eq_true (by first|(with_reducible assumption)|assumption));have HP14:=Kd.R_putg jx.out (jg:Int) j1w)|((with_reducible refine gate_store (t:=9) (p:=22) rfl ?_);refine store_event (t:=9) (p:=22) (v:=?vo_w15) (w1:=(w13.setCell ⟨go12,(jg:Int).toNat,none⟩ (.string j1w))) ?hg ?ho ?hn ?hr ?_;(case ho=>rfl);(case hg=>rfl);(case hn=>rfl);(case hr=>first|(go_simp;done)|(go_simp;rfl));intro w15 hw;have hg:w13.grownBy w15 (some go12):=(by rw [hw];exact HP14.2);have hp_:Kd.R Kd.string 9 w15 w.heap.size (fun _=>True) (.slice (some ⟨go12,0,none⟩) jy.length co12) j2c:=(by rw [hw,j2u.out];exact HP14.1);clear HP14;replace jx:=ai_ (hp_);replace HB:=ai_ ((by rw [hw];exact below_set (HB.out) GB12.out:Below w.heap.size w w15));clear hg hw hp_))
   go_roundg k1
   case measure=>have:=HK1.out;omega
   case rel=>exact ⟨(j2c),(wrap64 (jg+1)),rt_,H',⟨by have:=HK1.out;omega⟩,⟨kd_to jx⟩,⟨below_to HB⟩⟩
  ·rw [if_neg c11] at H
   cases H
def impl_lineText.f (k:Nat) (je:Int) (jf:Int) (jd:Int) (ja:List Int):Option (ByteArray):=(strconv_Itoa.f je).bind fun jh=>(if jh.size+1≤9223372036854775807 then ((strconv_Itoa.f jf).bind fun ji=>(if (jh ++ (⟨#[43]⟩:ByteArray)).size+ji.size≤9223372036854775807 then (if ((jh ++ (⟨#[43]⟩:ByteArray)) ++ ji).size+1≤9223372036854775807 then ((strconv_Itoa.f jd).bind fun jt=>(if (((jh ++ (⟨#[43]⟩:ByteArray)) ++ ji) ++ (⟨#[120]⟩:ByteArray)).size+jt.size≤9223372036854775807 then (if ((((jh ++ (⟨#[43]⟩:ByteArray)) ++ ji) ++ (⟨#[120]⟩:ByteArray)) ++ jt).size+1≤9223372036854775807 then ((impl_joinNumbers.f k ja (⟨#[44]⟩:ByteArray)).bind fun j1b=>(if (((((jh ++ (⟨#[43]⟩:ByteArray)) ++ ji) ++ (⟨#[120]⟩:ByteArray)) ++ jt) ++ (⟨#[58]⟩:ByteArray)).size+j1b.size≤9223372036854775807 then (some ((((((jh ++ (⟨#[43]⟩:ByteArray)) ++ ji) ++ (⟨#[120]⟩:ByteArray)) ++ jt) ++ (⟨#[58]⟩:ByteArray)) ++ j1b)) else (none))) else (none)) else (none))) else (none)) else (none))) else (none))
def impl_lineText.T1:Bool × List (List Nat × List Nat):=(true,[([],[]),([0],[0]),([1],[1]),([2],[2]),([],[]),([4],[4]),([5,2],[5]),([3,6],[3,6]),([7],[7]),([],[]),([9],[9]),([10,6],[10]),([8,11],[8,11]),([12],[12]),([],[]),([14],[14]),([15,11],[15]),([13,16],[13,16]),([17,16,0,1,2,3,4,5,6,7,8,9,10,11,12,13,14,15,16,17],[17])])
def impl_lineText.B1:List Nat:=[0,1,3,7,0,16,55,127,255,0,512,1655,4095,8191,0,16384,52855,131071,262143]
theorem impl_lineText.tab1:rtab .any (opsOf Tryz.f53 1)=impl_lineText.T1:=by kernel_rfl
theorem impl_lineText.bits1:waitsOk impl_lineText.T1.2 impl_lineText.B1=true:=by kernel_rfl
theorem impl_lineText.calls (k:Nat) (je:Int) (jf:Int) (jd:Int) (jk:Option Addr) (jl:Nat) (ja:List Int) (r:ByteArray) (w:World) (hr0_3:Kd.C Ki_ w jk ja.length ja) (hc0_3:ja.length≤jl) (h:impl_lineText.f k je jf jd ja=some r) (hT_:Go.Proofs.YthdnodmidbcgpaaGreatDoor.XText.T1 w) :
  Calls Tryz.prog 53 #[.agg #[.int .i64 je,.int .i64 jf,.int .i64 jd,.slice jk ja.length jl]] w fun e w'=>e=.returned (.string r)∧Below w.heap.size w w':=by
 have HTab_:=ai_ hT_
 clear hT_
 have hu26:=Tryz.underlying26
 have jo:=ai_ hr0_3
 have jp:=ai_ hc0_3
 clear hr0_3 hc0_3
 have HB:=ai_ (Below.refl w.heap.size w)
 have H:=h
 unfold impl_lineText.f at H
 clear h
 obtain ⟨jh,A2,H⟩:=bs_ H
 (try dsimp only at H)
 by_cases c3:jh.size+1≤9223372036854775807
 rotate_left
 ·rw [if_neg c3] at H
  cases H
 rw [if_pos c3] at H
 have j2o:=eq_true c3
 have j2p:=decide_eq_true c3
 try have j6a:(9223372036854775807 < jh.size+1)=False:=eq_false (Nat.not_lt.2 c3)
 obtain ⟨ji,A4,H⟩:=bs_ H
 (try dsimp only at H)
 by_cases c5:(jh ++ (⟨#[43]⟩:ByteArray)).size+ji.size≤9223372036854775807
 rotate_left
 ·rw [if_neg c5] at H
  cases H
 rw [if_pos c5] at H
 have j6b:=eq_true c5
 have j6c:=decide_eq_true c5
 try have j6d:(9223372036854775807 < (jh ++ (⟨#[43]⟩:ByteArray)).size+ji.size)=False:=eq_false (Nat.not_lt.2 c5)
 have j6e:(9223372036854775807 < jh.size+1+ji.size)=False:=eq_false (by have h_:=c5;simp only [ByteArray.size_append] at h_;have:(⟨#[43]⟩:ByteArray).size=1:=rfl;omega)
 have j6f:decide (jh.size+1+ji.size≤9223372036854775807)=true:=decide_eq_true (by have h_:=c5;simp only [ByteArray.size_append] at h_;have:(⟨#[43]⟩:ByteArray).size=1:=rfl;omega)
 by_cases c6:((jh ++ (⟨#[43]⟩:ByteArray)) ++ ji).size+1≤9223372036854775807
 rotate_left
 ·rw [if_neg c6] at H
  cases H
 rw [if_pos c6] at H
 have j6g:=eq_true c6
 have j6h:=decide_eq_true c6
 try have j6i:(9223372036854775807 < ((jh ++ (⟨#[43]⟩:ByteArray)) ++ ji).size+1)=False:=eq_false (Nat.not_lt.2 c6)
 have j6j:(9223372036854775807 < jh.size+1+ji.size+1)=False:=eq_false (by have h_:=c6;simp only [ByteArray.size_append] at h_;have:(⟨#[43]⟩:ByteArray).size=1:=rfl;omega)
 have j6k:decide (jh.size+1+ji.size+1≤9223372036854775807)=true:=decide_eq_true (by have h_:=c6;simp only [ByteArray.size_append] at h_;have:(⟨#[43]⟩:ByteArray).size=1:=rfl;omega)
 obtain ⟨jt,A7,H⟩:=bs_ H
 (try dsimp only at H)
 by_cases c8:(((jh ++ (⟨#[43]⟩:ByteArray)) ++ ji) ++ (⟨#[120]⟩:ByteArray)).size+jt.size≤9223372036854775807
 rotate_left
 ·rw [if_neg c8] at H
  cases H
 rw [if_pos c8] at H
 have j5h:=eq_true c8
 have j6l:=decide_eq_true c8
 try have j6m:(9223372036854775807 < (((jh ++ (⟨#[43]⟩:ByteArray)) ++ ji) ++ (⟨#[120]⟩:ByteArray)).size+jt.size)=False:=eq_false (Nat.not_lt.2 c8)
 have j6n:(9223372036854775807 < jh.size+1+ji.size+1+jt.size)=False:=eq_false (by have h_:=c8;simp only [ByteArray.size_append] at h_;have:(⟨#[120]⟩:ByteArray).size=1:=rfl;have:(⟨#[43]⟩:ByteArray).size=1:=rfl;omega)
 have j6o:decide (jh.size+1+ji.size+1+jt.size≤9223372036854775807)=true:=decide_eq_true (by have h_:=c8;simp only [ByteArray.size_append] at h_;have:(⟨#[120]⟩:ByteArray).size=1:=rfl;have:(⟨#[43]⟩:ByteArray).size=1:=rfl;omega)
 by_cases c9:((((jh ++ (⟨#[43]⟩:ByteArray)) ++ ji) ++ (⟨#[120]⟩:ByteArray)) ++ jt).size+1≤9223372036854775807
 rotate_left
 ·rw [if_neg c9] at H
  cases H
 rw [if_pos c9] at H
 have j5i:=eq_true c9
 have j6p:=decide_eq_true c9
 try have j6q:(9223372036854775807 < ((((jh ++ (⟨#[43]⟩:ByteArray)) ++ ji) ++ (⟨#[120]⟩:ByteArray)) ++ jt).size+1)=False:=eq_false (Nat.not_lt.2 c9)
 have j6r:(9223372036854775807 < jh.size+1+ji.size+1+jt.size+1)=False:=eq_false (by have h_:=c9;simp only [ByteArray.size_append] at h_;have:(⟨#[120]⟩:ByteArray).size=1:=rfl;have:(⟨#[43]⟩:ByteArray).size=1:=rfl;omega)
 have j6s:decide (jh.size+1+ji.size+1+jt.size+1≤9223372036854775807)=true:=decide_eq_true (by have h_:=c9;simp only [ByteArray.size_append] at h_;have:(⟨#[120]⟩:ByteArray).size=1:=rfl;have:(⟨#[43]⟩:ByteArray).size=1:=rfl;omega)
 obtain ⟨j1b,A10,H⟩:=bs_ H
 (try dsimp only at H)
 by_cases c11:(((((jh ++ (⟨#[43]⟩:ByteArray)) ++ ji) ++ (⟨#[120]⟩:ByteArray)) ++ jt) ++ (⟨#[58]⟩:ByteArray)).size+j1b.size≤9223372036854775807
 rotate_left
 ·rw [if_neg c11] at H
  cases H
 rw [if_pos c11] at H
 have j2t:=eq_true c11
 have j5u:=decide_eq_true c11
 try have j5v:(9223372036854775807 < (((((jh ++ (⟨#[43]⟩:ByteArray)) ++ ji) ++ (⟨#[120]⟩:ByteArray)) ++ jt) ++ (⟨#[58]⟩:ByteArray)).size+j1b.size)=False:=eq_false (Nat.not_lt.2 c11)
 have j5w:(9223372036854775807 < jh.size+1+ji.size+1+jt.size+1+j1b.size)=False:=eq_false (by have h_:=c11;simp only [ByteArray.size_append] at h_;have:(⟨#[120]⟩:ByteArray).size=1:=rfl;have:(⟨#[43]⟩:ByteArray).size=1:=rfl;have:(⟨#[58]⟩:ByteArray).size=1:=rfl;omega)
 have j5x:decide (jh.size+1+ji.size+1+jt.size+1+j1b.size≤9223372036854775807)=true:=decide_eq_true (by have h_:=c11;simp only [ByteArray.size_append] at h_;have:(⟨#[120]⟩:ByteArray).size=1:=rfl;have:(⟨#[43]⟩:ByteArray).size=1:=rfl;have:(⟨#[58]⟩:ByteArray).size=1:=rfl;omega)
 obtain rfl:=Option.some.inj H
 go_enter Tryz.func53,Tryz.ntmps53
 try go_wp2_with (first|((with_reducible refine gate_dst (N:=1) rfl ?_);refine bxe_ #[.int .i64 je,.int .i64 jf,.int .i64 jd,.slice jk ja.length jl] 26 ?_;intro j1u hg w12 hbox hb;have jb:=ai_ (hbox);have j5y:=ai_ (gb_ hg (below_size (below_to HB)));have jw:=ai_ (gb_ hg (below_size (below_to HB)));replace HB:=ai_ (below_step (below_to HB) hb);clear hb hbox hg))
 have n0_:=ai_ (blk_drew jb.out)
 have n1_:=ai_ (below_drew1 HB.out)
 clear jb
 clear HB
 have jb:=n0_
 have HB:=n1_
 clear n0_ n1_
 refine start_ (n:=19) (S:=fun w'=>w'.cell? ⟨j1u,0,none⟩=some (.int .i64 je)∧w'.cell? ⟨j1u,1,none⟩=some (.int .i64 jf)∧w'.cell? ⟨j1u,2,none⟩=some (.int .i64 jd)∧w'.cell? ⟨j1u,3,none⟩=some (.slice jk ja.length jl)) (ds:=[]) (fr_ [0,19]) (by kernel_rfl) rfl rfl ⟨(blk_cell jb.out 0).trans rfl,(blk_cell jb.out 1).trans rfl,(blk_cell jb.out 2).trans rfl,(blk_cell jb.out 3).trans rfl⟩ (fun hHeld=>?_);refine with_tabW impl_lineText.tab1 impl_lineText.bits1 (fun HT_ HW_=>?_)
 generalize w12.drew=w13 at jb HB hHeld ⊢
 refine purS_ (i:=0) (N:=some 3) (fl_ 19 1) HT_.out ?_
 refine purS_ (i:=4) (N:=some 7) (fr_ [1,3,1,14]) HT_.out ?_
 refine purS_ (i:=9) (N:=some 12) (fr_ [1,3,1,4,1,9]) HT_.out ?_
 refine purS_ (i:=14) (N:=some 17) (fr_ [1,3,1,4,1,4,1,4]) HT_.out ?_
 refine take_ (i:=1) (N:=some 4) (v:=?_) (a':=?_) (fr_ [2,2,1,4,1,4,1,4]) rfl rfl (take_ofW HT_.out HW_.out (by kernel_rfl)) (fun _ _ _ h=>h) (Or.inl ⟨by rfl,?_⟩) hHeld ?_ ?_
 rotate_left
 ·rintro w' ⟨s0,s1,s2,s3⟩
  go_simp
  with_reducible rfl
 rotate_left
 ·simp only [Act.put,List.setIfInBounds_toArray,List.set_cons_zero,List.set_cons_succ,i64_w,i32_w]
  rfl
 refine take_ (i:=5) (N:=some 8) (v:=?_) (a':=?_) (fr_ [2,2,2,3,1,4,1,4]) rfl rfl (take_ofW HT_.out HW_.out (by kernel_rfl)) (fun _ _ _ h=>h) (Or.inl ⟨by rfl,?_⟩) hHeld ?_ ?_
 rotate_left
 ·rintro w' ⟨s0,s1,s2,s3⟩
  go_simp
  with_reducible rfl
 rotate_left
 ·simp only [Act.put,List.setIfInBounds_toArray,List.set_cons_zero,List.set_cons_succ,i64_w,i32_w]
  rfl
 refine take_ (i:=10) (N:=some 13) (v:=?_) (a':=?_) (fr_ [2,2,2,3,2,3,1,4]) rfl rfl (take_ofW HT_.out HW_.out (by kernel_rfl)) (fun _ _ _ h=>h) (Or.inl ⟨by rfl,?_⟩) hHeld ?_ ?_
 rotate_left
 ·rintro w' ⟨s0,s1,s2,s3⟩
  go_simp
  with_reducible rfl
 rotate_left
 ·simp only [Act.put,List.setIfInBounds_toArray,List.set_cons_zero,List.set_cons_succ,i64_w,i32_w]
  rfl
 refine take_ (i:=15) (N:=some 18) (v:=?_) (a':=?_) (fr_ [2,2,2,3,2,3,2,3]) rfl rfl (take_ofW HT_.out HW_.out (by kernel_rfl)) (fun _ _ _ h=>h) (Or.inl ⟨by rfl,?_⟩) hHeld ?_ ?_
 rotate_left
 ·rintro w' ⟨s0,s1,s2,s3⟩
  go_simp
  with_reducible rfl
 rotate_left
 ·simp only [Act.put,List.setIfInBounds_toArray,List.set_cons_zero,List.set_cons_succ,i64_w,i32_w]
  rfl
 refine one_ (i:=2) (N:=some 5) (fr_ [3,1,2,3,2,3,2,3]) rfl rfl (one_of HT_.out (by kernel_rfl)) (by decide) (fun K hK=>?_)
 refine goes_ Tryz.func73 (by kernel_rfl) rfl #[.int .i64 je] (by rfl) rfl rfl am_ ?_
 with_reducible refine (strconv_Itoa.calls je jh _ A2.out ?sidet).mono ?_
 case sidet=>refine Go.Proofs.YthdnodmidbcgpaaGreatDoor.XText.T1.on (w:=w) HTab_.out ?_;repeat (first|(with_reducible first|exact HB.out|exact Below.refl _ _|apply below_alloc|apply pw_below_drewN|apply below_drew1|refine below_set ?_ jw.out)|exact HB.out|exact Below.refl _ _)
 rintro e w14 ⟨rfl,hb⟩
 refine ⟨_,rfl,?_⟩
 have n0_:=bb_ jb hb
 have n1_:=ai_ (below_step (below_to1 HB jw.out) hb)
 clear jb
 clear HB
 have jb:=n0_
 have HB:=n1_
 clear n0_ n1_
 (try clear hb)
 (try clear hb2)
 (try clear hk)
 (try clear hi)
 refine hK.out _ _ ⟨(blk_cell jb.out 0).trans rfl,(blk_cell jb.out 1).trans rfl,(blk_cell jb.out 2).trans rfl,(blk_cell jb.out 3).trans rfl⟩ (fun hHeld=>?_)
 clear hK K
 refine norm_ (a':=?_) ?_ ?_
 rotate_left
 ·show Act.put _ (some 5) _=_
  simp only [Act.put,List.setIfInBounds_toArray,List.set_cons_zero,List.set_cons_succ,i64_w,i32_w]
  rfl
 refine purS_ (i:=3) (N:=some 6) (fr_ [6,3,2,3,2,3]) HT_.out ?_
 refine one_ (i:=6) (N:=some 9) (fr_ [7,2,2,3,2,3]) rfl rfl (one_of HT_.out (by kernel_rfl)) (by decide) (fun K hK=>?_)
 refine goes_ Tryz.func73 (by kernel_rfl) rfl #[.int .i64 jf] (by rfl) rfl rfl am_ ?_
 with_reducible refine (strconv_Itoa.calls jf ji _ A4.out ?sidet).mono ?_
 case sidet=>refine Go.Proofs.YthdnodmidbcgpaaGreatDoor.XText.T1.on (w:=w) HTab_.out ?_;repeat (first|(with_reducible first|exact HB.out|exact Below.refl _ _|apply below_alloc|apply pw_below_drewN|apply below_drew1|refine below_set ?_ jw.out)|exact HB.out|exact Below.refl _ _)
 rintro e w15 ⟨rfl,hb⟩
 refine ⟨_,rfl,?_⟩
 have n0_:=bb_ jb hb
 have n1_:=ai_ (below_step (below_to1 HB jw.out) hb)
 clear jb
 clear HB
 have jb:=n0_
 have HB:=n1_
 clear n0_ n1_
 (try clear hb)
 (try clear hb2)
 (try clear hk)
 (try clear hi)
 refine hK.out _ _ ⟨(blk_cell jb.out 0).trans rfl,(blk_cell jb.out 1).trans rfl,(blk_cell jb.out 2).trans rfl,(blk_cell jb.out 3).trans rfl⟩ (fun hHeld=>?_)
 clear hK K
 refine norm_ (a':=?_) ?_ ?_
 rotate_left
 ·show Act.put _ (some 9) _=_
  simp only [Act.put,List.setIfInBounds_toArray,List.set_cons_zero,List.set_cons_succ,i64_w,i32_w]
  rfl
 refine purS_ (i:=7) (N:=some 10) (fr_ [8,1,2,3,2,3]) HT_.out ?_
 refine purS_ (i:=8) (N:=some 11) (fr_ [11,3,2,3]) HT_.out ?_
 refine one_ (i:=11) (N:=some 14) (fr_ [12,2,2,3]) rfl rfl (one_of HT_.out (by kernel_rfl)) (by decide) (fun K hK=>?_)
 refine goes_ Tryz.func73 (by kernel_rfl) rfl #[.int .i64 jd] (by rfl) rfl rfl am_ ?_
 with_reducible refine (strconv_Itoa.calls jd jt _ A7.out ?sidet).mono ?_
 case sidet=>refine Go.Proofs.YthdnodmidbcgpaaGreatDoor.XText.T1.on (w:=w) HTab_.out ?_;repeat (first|(with_reducible first|exact HB.out|exact Below.refl _ _|apply below_alloc|apply pw_below_drewN|apply below_drew1|refine below_set ?_ jw.out)|exact HB.out|exact Below.refl _ _)
 rintro e w16 ⟨rfl,hb⟩
 refine ⟨_,rfl,?_⟩
 have n0_:=bb_ jb hb
 have n1_:=ai_ (below_step (below_to1 HB jw.out) hb)
 clear jb
 clear HB
 have jb:=n0_
 have HB:=n1_
 clear n0_ n1_
 (try clear hb)
 (try clear hb2)
 (try clear hk)
 (try clear hi)
 refine hK.out _ _ ⟨(blk_cell jb.out 0).trans rfl,(blk_cell jb.out 1).trans rfl,(blk_cell jb.out 2).trans rfl,(blk_cell jb.out 3).trans rfl⟩ (fun hHeld=>?_)
 clear hK K
 refine norm_ (a':=?_) ?_ ?_
 rotate_left
 ·show Act.put _ (some 14) _=_
  simp only [Act.put,List.setIfInBounds_toArray,List.set_cons_zero,List.set_cons_succ,i64_w,i32_w]
  rfl
 refine purS_ (i:=12) (N:=some 15) (fr_ [13,1,2,3]) HT_.out ?_
 refine purS_ (i:=13) (N:=some 16) (fl_ 19 16) HT_.out ?_
 refine one_ (i:=16) (N:=some 19) (fr_ [17,2]) rfl rfl (one_of HT_.out (by kernel_rfl)) (by decide) (fun K hK=>?_)
 refine goes_ Tryz.func74 (by kernel_rfl) rfl #[.slice jk ja.length jl,.string (⟨#[44]⟩:ByteArray)] (by rfl) rfl rfl am_ ?_
 with_reducible refine (impl_joinNumbers.calls k _ _ ja (⟨#[44]⟩:ByteArray) j1b _ ?side1 ?side2 A10.out ?sidet).mono ?_
 case sidet=>refine Go.Proofs.YthdnodmidbcgpaaGreatDoor.XText.T1.on (w:=w) HTab_.out ?_;repeat (first|(with_reducible first|exact HB.out|exact Below.refl _ _|apply below_alloc|apply pw_below_drewN|apply below_drew1|refine below_set ?_ jw.out)|exact HB.out|exact Below.refl _ _)
 (case side1=>exact cb_ jo HB)
 (case side2=>exact jp.out)
 rintro e w17 ⟨rfl,hb⟩
 refine ⟨_,rfl,?_⟩
 have n0_:=bb_ jb hb
 have n1_:=ai_ (below_step (below_to1 HB jw.out) hb)
 clear jb
 clear HB
 have jb:=n0_
 have HB:=n1_
 clear n0_ n1_
 (try clear hb)
 (try clear hb2)
 (try clear hk)
 (try clear hi)
 refine hK.out _ _ ⟨(blk_cell jb.out 0).trans rfl,(blk_cell jb.out 1).trans rfl,(blk_cell jb.out 2).trans rfl,(blk_cell jb.out 3).trans rfl⟩ (fun hHeld=>?_)
 clear hK K
 refine norm_ (a':=?_) ?_ ?_
 rotate_left
 ·show Act.put _ (some 19) _=_
  simp only [Act.put,List.setIfInBounds_toArray,List.set_cons_zero,List.set_cons_succ,i64_w,i32_w]
  rfl
 refine purS_ (i:=17) (N:=some 20) (fl_ 19 18) HT_.out ?_
 refine purS_ (i:=18) (N:=some 2) (fl_ 19 19) HT_.out ?_
 refine done_ (done_of HT_.out (by kernel_rfl)) ?_
 try go_wp2
 go_ret
 exact ⟨rtE_,below_to1 HB jw.out⟩
def impl_LineText.f (k:Nat) (je:Int) (jf:Int) (jd:Int) (ja:List Int):Option (ByteArray × Bool):=(impl_IsLine.f k je jf jd ja).bind fun j2f=>(if j2f=true then ((impl_lineText.f k je jf jd ja).bind fun j2g=>(some (j2g,true))) else (some ((⟨#[]⟩:ByteArray),false)))
theorem impl_LineText.calls (k:Nat) (je:Int) (jf:Int) (jd:Int) (jk:Option Addr) (jl:Nat) (ja:List Int) (r1:ByteArray) (r2:Bool) (w:World) (hr0_3:Kd.C Ki_ w jk ja.length ja) (hc0_3:ja.length≤jl) (h:impl_LineText.f k je jf jd ja=some (r1,r2)) (hT_:Go.Proofs.YthdnodmidbcgpaaGreatDoor.XText.T1 w) :
  Calls Tryz.prog 12 #[.agg #[.int .i64 je,.int .i64 jf,.int .i64 jd,.slice jk ja.length jl]] w fun e w'=>e=.returned (.tuple #[.string r1,.bool r2])∧Below w.heap.size w w':=by
 have HTab_:=ai_ hT_
 clear hT_
 have hu26:=Tryz.underlying26
 have jo:=ai_ hr0_3
 have jp:=ai_ hc0_3
 clear hr0_3 hc0_3
 have HB:=ai_ (Below.refl w.heap.size w)
 have H:=h
 unfold impl_LineText.f at H
 clear h
 obtain ⟨j2f,A2,H⟩:=bs_ H
 (try dsimp only at H)
 by_cases c3:j2f=true
 ·subst c3
  rw [if_pos rfl] at H
  obtain ⟨j2g,A4,H⟩:=bs_ H
  (try dsimp only at H)
  simp only [Option.some.injEq,Prod.mk.injEq] at H
  obtain ⟨rfl,rfl⟩:=H
  go_enter Tryz.func12,Tryz.ntmps12
  go_wp2_with (first|((with_reducible refine gate_dst (N:=1) rfl ?_);refine bxe_ #[.int .i64 je,.int .i64 jf,.int .i64 jd,.slice jk ja.length jl] 26 ?_;intro j2w hg w5 hbox hb;have jv:=ai_ (hbox);have j2x:=ai_ (gb_ hg (below_size (below_to HB)));have jz:=ai_ (gb_ hg (below_size (below_to HB)));replace HB:=ai_ (below_step (below_to HB) hb);clear hb hbox hg;obtain ⟨j5k,j5l,j5m,j5n,j5o,j5p,j5q,j5r⟩:=blk4_ jv)|((with_reducible refine gate_callee (f:=15) rfl ?_);refine gl_ (some 5) Tryz.func15 #[.agg #[.int .i64 je,.int .i64 jf,.int .i64 jd,.slice jk ja.length jl]] ?_;(with_reducible refine (impl_IsLine.calls k je jf jd _ _ ja true _ ?side1 jp.out A2.out).mono ?_);(case side1=>exact cb_ jo HB);rintro e w7 ⟨rfl,hb⟩;refine ⟨_,rfl,?_⟩;replace jv:=bb_ jv hb;replace HB:=ai_ (below_step (below_to1 HB jz.out) hb);clear hb;obtain ⟨j1c,j1d,j1e,j1f,j1g,j1h,j1i,j1j⟩:=blk4_ jv)|((with_reducible refine gate_callee (f:=53) rfl ?_);refine gl_ (some 8) Tryz.func53 #[.agg #[.int .i64 je,.int .i64 jf,.int .i64 jd,.slice jk ja.length jl]] ?_;(with_reducible refine (impl_lineText.calls k je jf jd _ _ ja j2g _ ?side1 ?side2 A4.out ?sidet).mono ?_);(case sidet=>refine Go.Proofs.YthdnodmidbcgpaaGreatDoor.XText.T1.on (w:=w) HTab_.out ?_;repeat (first|(with_reducible first|exact HB.out|exact Below.refl _ _|apply below_alloc|apply pw_below_drewN|apply below_drew1|refine below_set ?_ jz.out)|exact HB.out|exact Below.refl _ _));(case side1=>exact cb_ jo HB);(case side2=>exact jp.out);rintro e w9 ⟨rfl,hb⟩;refine ⟨_,rfl,?_⟩;replace jv:=bb_ jv hb;replace HB:=ai_ (below_step (below_to1 HB jz.out) hb);clear hb))
  go_ret2
  exact ⟨rtE_,below_to1 HB jz.out⟩
 ·replace c3:=Bool.eq_false_iff.mpr c3
  subst c3
  rw [if_neg ft_] at H
  simp only [Option.some.injEq,Prod.mk.injEq] at H
  obtain ⟨rfl,rfl⟩:=H
  go_enter Tryz.func12,Tryz.ntmps12
  go_wp2_with (first|((with_reducible refine gate_dst (N:=1) rfl ?_);refine bxe_ #[.int .i64 je,.int .i64 jf,.int .i64 jd,.slice jk ja.length jl] 26 ?_;intro j2w hg w10 hbox hb;have jv:=ai_ (hbox);have j2x:=ai_ (gb_ hg (below_size (below_to HB)));have jz:=ai_ (gb_ hg (below_size (below_to HB)));replace HB:=ai_ (below_step (below_to HB) hb);clear hb hbox hg;obtain ⟨j4u,j4v,j4w,j4x,j4y,j4z,j5a,j5b⟩:=blk4_ jv)|((with_reducible refine gate_callee (f:=15) rfl ?_);refine gl_ (some 5) Tryz.func15 #[.agg #[.int .i64 je,.int .i64 jf,.int .i64 jd,.slice jk ja.length jl]] ?_;(with_reducible refine (impl_IsLine.calls k je jf jd _ _ ja false _ ?side1 jp.out A2.out).mono ?_);(case side1=>exact cb_ jo HB);rintro e w12 ⟨rfl,hb⟩;refine ⟨_,rfl,?_⟩;replace jv:=bb_ jv hb;replace HB:=ai_ (below_step (below_to1 HB jz.out) hb);clear hb))
  go_ret2
  exact ⟨rtE_,below_to1 HB jz.out⟩
end Go.Proofs.YthdnodmidbcgpaaGreatDoor.QR
