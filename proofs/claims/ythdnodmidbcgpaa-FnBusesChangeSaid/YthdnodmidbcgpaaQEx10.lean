import Derived.Test.YthdnodmidbcgpaaQEx4
import Derived.Test.YthdnodmidbcgpaaQEx1
import Derived.Test.YthdnodmidbcgpaaQEx7
namespace Go.Proofs.Ythdnodmidbcgpaa.QE
open Go.Proofs.Ythdnodmidbcgpaa.X Go.RowKit Go.Proofs.YthdnodmidbcgpaaW.PrintWords Go.Proofs.YthdnodmidbcgpaaW.PrintLast Go.Proofs.YthdnodmidbcgpaaW.PrintMore
attribute [local go_sem] max2_int min2_int max_two min_two max_three min_three max_four min_four
set_option linter.unusedVariables false
set_option linter.unusedSimpArgs false
mutual
def impl_TimesTogether.j0:Nat→Int→Int→Bool→Int→Int→Int→List Int→Int→Int→Int→List Int→Option (List Int × Bool)
 | 0,_,_,_,_,_,_,_,_,_,_,_=>none
 | k+1,x1,x3,x26,j1m,j1n,j1f,j1o,j1x,j1y,j1z,j2a=>if x26=true then (some (([]:List Int),false)) else (impl_TimesTogether.l0 k x1 x3 ([]:List Int) j1f 0 j1m j1n j1f j1o j1x j1y j1z j2a)
def impl_TimesTogether.l0:Nat→Int→Int→List Int→Int→Int→Int→Int→Int→List Int→Int→Int→Int→List Int→Option (List Int × Bool)
 | 0,_,_,_,_,_,_,_,_,_,_,_,_,_=>none
 | k+1,x1,x3,x10,x28,x29,j1m,j1n,j1f,j1o,j1x,j1y,j1z,j2a=>if x29 < x28 then ((impl_timeAt.f j1m j1n j1f j1o x29 x1).bind fun j2y=>((impl_nextBus.f j1x j1y j1z j2a x3 j2y).bind fun bt503=>(if bt503.2.2=true then ((impl_timeAt.f j1m j1n j1f j1o x29 x1).bind fun j4u=>(if bt503.2.1=j4u then (if x10.length < 17592186044416 then (impl_TimesTogether.l0 k x1 x3 (x10 ++ [bt503.2.1]) x28 (wrap64 (x29+1)) j1m j1n j1f j1o j1x j1y j1z j2a) else (none)) else (impl_TimesTogether.l0 k x1 x3 x10 x28 (wrap64 (x29+1)) j1m j1n j1f j1o j1x j1y j1z j2a))) else (impl_TimesTogether.l0 k x1 x3 x10 x28 (wrap64 (x29+1)) j1m j1n j1f j1o j1x j1y j1z j2a)))) else (some (x10,true))
end
def impl_TimesTogether.f (k:Nat) (ji:Int) (jj:Int) (jf:Int) (je:List Int) (a1:Int) (jk:Int) (jl:Int) (jm:Int) (jh:List Int) (a3:Int):Option (List Int × Bool):=(impl_hasStops.f k ji jj jf je (([a1]:List Int))).bind fun j4v=>(if j4v=true then ((impl_hasStops.f k jk jl jm jh (([a3]:List Int))).bind fun j3c=>(impl_TimesTogether.j0 k a1 a3 (!j3c) ji jj jf je jk jl jm jh)) else (impl_TimesTogether.j0 k a1 a3 true ji jj jf je jk jl jm jh))
def impl_TimesTogether.T7:Bool × List (List Nat × List Nat):=(true,[([],[]),([],[]),([],[]),([],[]),([],[]),([2,3,4],[2,3,4]),([0,1,5,5],[0,1,5]),([6],[6]),([7],[7]),([7],[7]),([7],[7]),([8,6,0,1,2,3,4,5,6,7,8],[8]),([9,11,0,1,2,3,4,5,6,7,8,9,11],[9]),([10,12,0,1,2,3,4,5,6,7,8,9,10,11,12],[10])])
def impl_TimesTogether.B7:List Nat:=[0,0,0,0,0,28,63,127,255,255,255,511,3071,8191]
theorem impl_TimesTogether.tab7:rtab .any (opsOf Try.f25 7)=impl_TimesTogether.T7:=by kernel_rfl
theorem impl_TimesTogether.bits7:waitsOk impl_TimesTogether.T7.2 impl_TimesTogether.B7=true:=by kernel_rfl
set_option maxHeartbeats 8000000 in
set_option maxRecDepth 100000 in
theorem impl_TimesTogether.calls (k:Nat) (ji:Int) (jj:Int) (jf:Int) (ju:Option Addr) (jv:Nat) (je:List Int) (a1:Int) (jk:Int) (jl:Int) (jm:Int) (j1d:Option Addr) (j1e:Nat) (jh:List Int) (a3:Int) (r1:List Int) (r2:Bool) (w:World) (hr0_3:Kd.C Ki_ w ju je.length je) (hc0_3:je.length≤jv) (hr2_3:Kd.C Ki_ w j1d jh.length jh) (hc2_3:jh.length≤j1e) (h:impl_TimesTogether.f k ji jj jf je a1 jk jl jm jh a3=some (r1,r2)) :
  Calls Try.prog 25 #[ag_ ji jj jf ju je jv,.int .i64 a1,ag_ jk jl jm j1d jh j1e,.int .i64 a3] w fun e w' => ∃ Ab:Value,e=.returned (.tuple #[Ab,.bool r2])∧Kd.R Ki_ 3 w' w.heap.size (fun _=>True) Ab r1∧Below w.heap.size w w':=by
 have hu30:=Try.underlying30;have j1j:=ai_ hr0_3;have j1k:=ai_ hc0_3;clear hr0_3 hc0_3;have j1u:=ai_ hr2_3;have j1v:=ai_ hc2_3;clear hr2_3 hc2_3;have HB:=ai_ (Below.refl w.heap.size w);have H:=h
 unfold impl_TimesTogether.f at H
 clear h;have HC5:=ai_ H;clear H;go_enter Try.func25,Try.ntmps25
 go_upto_region 1 with (first|((with_reducible refine gd_ 4 rfl ?_);(try (refine gate_guard (by rfl) ?_;dsimp only));refine bxe_ #[.int .i64 ji,.int .i64 jj,.int .i64 jf,.slice ju je.length jv] 30 ?_;intro j1b hg w6 hbox hb;have ja:=ai_ (hbox);have jaq:=ai_ (gb_ hg (below_size (below_to HB)));have jn:=ai_ (gb_ hg (below_size (below_to HB)));replace HB:=ai_ (below_step (below_to HB) hb);clear hb hbox hg)|((with_reducible refine gd_ 6 rfl ?_);(try (refine gate_guard (by rfl) ?_;dsimp only));refine bxe_ #[.int .i64 jk,.int .i64 jl,.int .i64 jm,.slice j1d jh.length j1e] 30 ?_;intro j1c hg w7 hbox hb;have jb:=ai_ (hbox);have jar:=ai_ (gb_ hg (below_size (below_to1 HB jn.out)));have jp:=ai_ (gb_ hg (below_size (below_to1 HB jn.out)));replace HB:=ai_ (below_step (below_to1 HB jn.out) hb);have jz:=ai_ (ne_ hg (blk_lt (blk_to ja)));replace ja:=bb_ ja hb;have j1l:=ai_ jz.out.symm;clear hb hbox hg))
 (try simp only [Act.put,List.setIfInBounds_toArray,List.set_cons_zero,List.set_cons_succ])
 go_cut [26] (fun v26 wc => ∃ (kq:Nat) (j3j:Bool),v26=.bool j3j∧Aside0 (impl_TimesTogether.j0 kq a1 a3 j3j ji jj jf je jk jl jm jh=some (r1,r2))∧Aside0 (kq≤k)∧B4_ wc j1b ji jj jf ju je jv 30∧B4_ wc j1c jk jl jm j1d jh j1e 30∧Aside0 (Below w.heap.size w wc))
 case first =>
  have H:=HC5.out;clear HC5
  obtain ⟨j4w,hy494⟩:∃ y_:List Int,y_=(([a1]:List Int)):=⟨_,rfl⟩
  replace H:((impl_hasStops.f k ji jj jf je j4w).bind fun j4v=>(if j4v=true then ((impl_hasStops.f k jk jl jm jh (([a3]:List Int))).bind fun j3c=>(impl_TimesTogether.j0 k a1 a3 (!j3c) ji jj jf je jk jl jm jh)) else (impl_TimesTogether.j0 k a1 a3 true ji jj jf je jk jl jm jh)))=some (r1,r2):=rx_ H hy494;have j3k:=ai_ hy494;clear hy494;obtain ⟨j4v,A8,H⟩:=bs_ H;(try dsimp only at H)
  by_cases c9:j4v=true
  rotate_left
  ·replace c9:=Bool.eq_false_iff.mpr c9
   subst c9;rw [if_neg ft_] at H;have H':=ai_ H;clear H;have jas:=jz.out;have jat:=j1l.out;obtain ⟨j3l,j3m,j3n,j3o,j3p,j3q,j3r,j3s⟩:=blk4_ ja
   go_wp2_with (first|((with_reducible refine gd_ 17 rfl ?_);(try (refine gate_guard (by rfl) ?_;dsimp only));refine lit_ 3 17 [a1] ?_;intro jak w24 j4x hb hg_ hnew_;clear hg_ hnew_;(first|rw [← j3k.out] at j4x|(simp only [Int.reduceToNat] at j4x;rw [← j3k.out] at j4x));have jx:=ai_ (Kd.R_lower j4x (below_size (below_to2 HB jn.out jp.out)));replace ja:=bb_ ja hb;replace jb:=bb_ jb hb;replace HB:=ai_ (below_step (below_to2 HB jn.out jp.out) hb);clear hb j4x;obtain ⟨Ao26,co26,eo26⟩:=Kd.R_slice jx.out;subst eo26)|((with_reducible refine gc_ 49 rfl ?_);refine gl_ (some 18) Try.func49 #[ag_ ji jj jf ju je jv,.slice Ao26 j4w.length co26] ?_;(with_reducible refine (impl_hasStops.calls k ji jj jf _ _ je _ _ j4w false _ (cb_ j1j HB) j1k.out ?side3 ?side4 A8.out).mono ?_);(case side3=>exact cR_ jx);(case side4=>exact (Kd.R_reads' jx.out).2.1);rintro e w27 ⟨rfl,hb⟩;refine ⟨_,rfl,?_⟩;replace jx:=rb_ jx hb;replace ja:=bb_ ja hb;replace jb:=bb_ jb hb;replace HB:=ai_ (below_step (below_to2 HB jn.out jp.out) hb);clear hb))
   go_meet
   case rel=>exact ⟨_,(true),rt_,H',⟨by first|omega|exact Nat.le_refl _⟩,⟨blk_to ja⟩,⟨blk_to jb⟩,⟨below_to2 HB jn.out jp.out⟩⟩
  subst c9;rw [if_pos rfl] at H
  obtain ⟨j6f,hy498⟩:∃ y_:List Int,y_=(([a3]:List Int)):=⟨_,rfl⟩
  replace H:((impl_hasStops.f k jk jl jm jh j6f).bind fun j3c=>(impl_TimesTogether.j0 k a1 a3 (!j3c) ji jj jf je jk jl jm jh))=some (r1,r2):=rx_ H hy498;have j5o:=ai_ hy498;clear hy498;obtain ⟨j3c,A10,H⟩:=bs_ H;(try dsimp only at H);have H':=ai_ H;clear H;have j6g:=jz.out;have j6h:=j1l.out;obtain ⟨j2f,j2g,j2h,j2i,j2j,j2k,j2l,j2m⟩:=blk4_ ja
  go_wp2_with (first|((with_reducible refine gd_ 17 rfl ?_);(try (refine gate_guard (by rfl) ?_;dsimp only));refine lit_ 3 17 [a1] ?_;intro jak w13 j4y hb hg_ hnew_;clear hg_ hnew_;(first|rw [← j3k.out] at j4y|(simp only [Int.reduceToNat] at j4y;rw [← j3k.out] at j4y));have jx:=ai_ (Kd.R_lower j4y (below_size (below_to2 HB jn.out jp.out)));replace ja:=bb_ ja hb;replace jb:=bb_ jb hb;replace HB:=ai_ (below_step (below_to2 HB jn.out jp.out) hb);clear hb j4y;obtain ⟨Ao15,co15,eo15⟩:=Kd.R_slice jx.out;subst eo15)|((with_reducible refine gc_ 49 rfl ?_);refine gl_ (some 18) Try.func49 #[ag_ ji jj jf ju je jv,.slice Ao15 j4w.length co15] ?_;(with_reducible refine (impl_hasStops.calls k ji jj jf _ _ je _ _ j4w true _ (cb_ j1j HB) j1k.out ?side3 ?side4 A8.out).mono ?_);(case side3=>exact cR_ jx);(case side4=>exact (Kd.R_reads' jx.out).2.1);rintro e w16 ⟨rfl,hb⟩;refine ⟨_,rfl,?_⟩;replace jx:=rb_ jx hb;replace ja:=bb_ ja hb;replace jb:=bb_ jb hb;replace HB:=ai_ (below_step (below_to2 HB jn.out jp.out) hb);clear hb;obtain ⟨j2n,j2o,j2p,j2q,j2r,j2s,j2t,j2u⟩:=blk4_ jb)|((with_reducible refine gd_ 23 rfl ?_);(try (refine gate_guard (by rfl) ?_;dsimp only));refine lit_ 3 23 [a3] ?_;intro jbc w18 j4p hb hg_ hnew_;clear hg_ hnew_;(first|rw [← j5o.out] at j4p|(simp only [Int.reduceToNat] at j4p;rw [← j5o.out] at j4p));have j3d:=ai_ (Kd.R_lower (Kd.R_new' j4p (Kd.R_lt (kd_to jx))) (below_size (below_to2 HB jn.out jp.out)));replace jx:=ai_ (Kd.R_elder' (kd_to jx) (Kd.R_base j4p) hb);replace ja:=bb_ ja hb;replace jb:=bb_ jb hb;replace HB:=ai_ (below_step (below_to2 HB jn.out jp.out) hb);clear hb j4p;obtain ⟨Ao20,co20,eo20⟩:=Kd.R_slice j3d.out;subst eo20)|(go_at_call 49;(with_reducible refine (impl_hasStops.calls k jk jl jm _ _ jh _ _ j6f j3c _ (cb_ j1u HB) j1v.out ?side3 ?side4 A10.out).mono ?_);(case side3=>exact cR_ j3d);(case side4=>exact (Kd.R_reads' j3d.out).2.1);rintro e w21 ⟨rfl,hb⟩;replace jx:=rb_ jx hb;replace j3d:=rb_ j3d hb;replace ja:=bb_ ja hb;replace jb:=bb_ jb hb;replace HB:=ai_ (below_step (below_to2 HB jn.out jp.out) hb);clear hb))
  go_meet
  case rel=>exact ⟨_,(!j3c),rt_,H',⟨by first|omega|exact Nat.le_refl _⟩,⟨blk_to ja⟩,⟨blk_to jb⟩,⟨below_to2 HB jn.out jp.out⟩⟩
 clear HC5
 try clear c1
 try clear c2
 try clear p2
 try clear c4
 try clear c9
 try clear c11
 try clear c22
 try clear c25
 try clear j2f
 try clear j2g
 try clear j2h
 try clear j2i
 try clear j2n
 try clear j2o
 try clear j2p
 try clear j2q
 try clear j3l
 try clear j3m
 try clear j3n
 try clear j3o
 try clear j2j
 try clear j2k
 try clear j2l
 try clear j2m
 try clear j2r
 try clear j2s
 try clear j2t
 try clear j2u
 try clear j3p
 try clear j3q
 try clear j3r
 try clear j3s
 obtain ⟨kq,j3j,rfl,HA,HJ4,ja,jb,HB⟩:=hcut
 cases kq with
 | zero=>exact absurd HA.out (by simp [impl_TimesTogether.j0])
 | succ kj4 =>
  have H:=HA.out;clear HA;simp only [impl_TimesTogether.j0] at H
  by_cases c28:j3j=true
  ·subst c28
   rw [if_pos rfl] at H;simp only [Option.some.injEq,Prod.mk.injEq] at H;obtain ⟨rfl,rfl⟩:=H
   go_wp2
   go_ret2
   exact ⟨_,rtE_,by first|exact Kd.R_nil _ _ _ _ _|exact Kd.N_nil _ _ _ _ _|exact Kd.V_nil _ _ _ _ _|exact Kd.Q_nil _ _ _ _ _|exact Kd.S_nil _ _ _ _ _,below_to2 HB jn.out jp.out⟩
  replace c28:=Bool.eq_false_iff.mpr c28;subst c28;rw [if_neg ft_] at H;have H':=ai_ H;clear H;have jau:=jz.out;have jav:=j1l.out;obtain ⟨j3t,j3u,j3v,j3w,j3x,j3y,j3z,j4a⟩:=blk4_ ja
  go_wp2
  go_loopg [10,29] kj4 (fun kq v10 v29 w' => ∃ (jw:List Int) (jy:Int),v29=.int .i64 jy∧Aside0 (impl_TimesTogether.l0 kq a1 a3 jw jf jy ji jj jf je jk jl jm jh=some (r1,r2))∧Aside0 (kq≤kj4)∧Aside0 (Kd.R Ki_ 3 w' w.heap.size (fun _=>True) v10 jw)∧Aside0 (w'.heap[j1b]?=some (.cells #[.int .i64 ji,.int .i64 jj,.int .i64 jf,(.slice ju je.length jv)] 30 (0,0)))∧Aside0 (w'.heap[j1c]?=some (.cells #[.int .i64 jk,.int .i64 jl,.int .i64 jm,(.slice j1d jh.length j1e)] 30 (0,0)))∧Aside0 (Below w.heap.size w w'))
  case atStart=>exact ⟨(([]:List Int)),(0),rt_,H',⟨Nat.le_refl _⟩,⟨by first|exact Kd.R_nil _ _ _ _ _|exact Kd.N_nil _ _ _ _ _|exact Kd.V_nil _ _ _ _ _|exact Kd.Q_nil _ _ _ _ _|exact Kd.S_nil _ _ _ _ _⟩,⟨blk_to ja⟩,⟨blk_to jb⟩,⟨below_to2 HB jn.out jp.out⟩⟩
  clear H'
  try clear c1
  try clear c2
  try clear p2
  try clear c4
  try clear c9
  try clear c11
  try clear c22
  try clear c25
  try clear c28
  try clear c29
  try clear j2f
  try clear j2g
  try clear j2h
  try clear j2i
  try clear j2n
  try clear j2o
  try clear j2p
  try clear j2q
  try clear j3l
  try clear j3m
  try clear j3n
  try clear j3o
  try clear j3t
  try clear j3u
  try clear j3v
  try clear j3w
  try clear j2j
  try clear j2k
  try clear j2l
  try clear j2m
  try clear j2r
  try clear j2s
  try clear j2t
  try clear j2u
  try clear j3p
  try clear j3q
  try clear j3r
  try clear j3s
  try clear j3x
  try clear j3y
  try clear j3z
  try clear j4a
  try clear p2
  obtain ⟨jw,jy,rfl,HA,HK2,jc,ja,jb,HB⟩:=hrel
  cases gk with
  | zero=>exact absurd HA.out (by simp [impl_TimesTogether.l0])
  | succ k2 =>
   have H:=HA.out;clear HA;simp only [impl_TimesTogether.l0] at H
   by_cases c31:jy < jf
   rotate_left
   ·rw [if_neg c31] at H
    have j6i:=decide_eq_false c31;clear c31;simp only [Option.some.injEq,Prod.mk.injEq] at H;obtain ⟨rfl,rfl⟩:=H
    go_wp2
    go_ret2
    exact ⟨_,rtE_,kd_to jc,below_to2 HB jn.out jp.out⟩
   rw [if_pos c31] at H;have j6i:=decide_eq_true c31;clear c31;obtain ⟨j2y,A32,H⟩:=bs_ H;(try dsimp only at H);obtain ⟨⟨j5u,j3g,jal⟩,A33,H⟩:=bs_ H;(try dsimp only at H)
   by_cases c34:jal=true
   rotate_left
   ·replace c34:=Bool.eq_false_iff.mpr c34
    subst c34;rw [if_neg ft_] at H;have H':=ai_ H;clear H
    try go_wp2
    replace jc:=ai_ (Kd.R_drew jc.out);replace ja:=ai_ (blk_drew ja.out);replace jb:=ai_ (blk_drew jb.out);replace HB:=ai_ (below_drew1 HB.out);refine start_ (n:=14) (S:=fun w'=>w'.cell? ⟨j1c,0,none⟩=some (.int .i64 jk)∧w'.cell? ⟨j1c,1,none⟩=some (.int .i64 jl)∧w'.cell? ⟨j1c,2,none⟩=some (.int .i64 jm)∧w'.cell? ⟨j1c,3,none⟩=some (.slice j1d jh.length j1e)∧w'.cell? ⟨j1b,0,none⟩=some (.int .i64 ji)∧w'.cell? ⟨j1b,1,none⟩=some (.int .i64 jj)∧w'.cell? ⟨j1b,2,none⟩=some (.int .i64 jf)∧w'.cell? ⟨j1b,3,none⟩=some (.slice ju je.length jv)) (ds:=[]) (fr_ [0,14]) (by kernel_rfl) rfl rfl ⟨bc_ jb 0,bc_ jb 1,bc_ jb 2,bc_ jb 3,bc_ ja 0,bc_ ja 1,bc_ ja 2,bc_ ja 3⟩ (fun hHeld=>?_);refine with_tabW impl_TimesTogether.tab7 impl_TimesTogether.bits7 (fun HT_ HW_=>?_);generalize wr.drew=w51 at jc ja jb HB hHeld ⊢;refine pS_ 1 34 (fr_ [0,1,1,12]) HT_ ?_;refine pS_ 3 36 (fr_ [0,1,1,1,1,10]) HT_ ?_;refine pS_ 4 37 (fr_ [0,1,1,1,2,9]) HT_ ?_;refine tk8_ 0 33 (fr_ [2,1,2,9]) HT_ HW_ hHeld ?_;refine tk8_ 2 35 (fr_ [5,9]) HT_ HW_ hHeld ?_;refine on_ 5 38 (fr_ [6,8]) HT_ (fun K hK=>?_);refine gs_ Try.func61 #[ag_ ji jj jf ju je jv,.int .i64 jy,.int .i64 a1] ?_
    with_reducible refine (impl_timeAt.calls ji jj jf _ _ je jy a1 j2y _ ?side1 ?side2 A32.out).mono ?_
    (case side1=>exact cb_ j1j HB)
    (case side2=>exact j1k.out)
    rintro e w52 ⟨rfl,hb⟩;refine ⟨_,rfl,?_⟩;replace jc:=rb_ jc hb;replace ja:=bb_ ja hb;replace jb:=bb_ jb hb;replace HB:=ai_ (below_step (below_to2 HB jn.out jp.out) hb);(try clear hb);(try clear hb2);(try clear hk);(try clear hi);refine hK.out _ _ ⟨bc_ jb 0,bc_ jb 1,bc_ jb 2,bc_ jb 3,bc_ ja 0,bc_ ja 1,bc_ ja 2,bc_ ja 3⟩ (fun hHeld=>?_);clear hK K;refine norm_ (a':=?_) ?_ ?_;rotate_left
    ·show Act.put _ (some 38) _=_
     simp only [Act.put,List.setIfInBounds_toArray,List.set_cons_zero,List.set_cons_succ,i64_w,i32_w]
     rfl
    refine on_ 6 39 (fr_ [7,7]) HT_ (fun K hK=>?_);refine gs_ Try.func60 #[ag_ jk jl jm j1d jh j1e,.int .i64 a3,.int .i64 j2y] ?_
    with_reducible refine (impl_nextBus.calls jk jl jm _ _ jh a3 j2y j5u j3g false _ ?side1 ?side2 A33.out).mono ?_
    (case side1=>exact cb_ j1u HB)
    (case side2=>exact j1v.out)
    rintro e w53 ⟨rfl,hb⟩;refine ⟨_,rfl,?_⟩;replace jc:=rb_ jc hb;replace ja:=bb_ ja hb;replace jb:=bb_ jb hb;replace HB:=ai_ (below_step (below_to2 HB jn.out jp.out) hb);(try clear hb);(try clear hb2);(try clear hk);(try clear hi);refine hK.out _ _ ⟨bc_ jb 0,bc_ jb 1,bc_ jb 2,bc_ jb 3,bc_ ja 0,bc_ ja 1,bc_ ja 2,bc_ ja 3⟩ (fun hHeld=>?_);clear hK K;refine norm_ (a':=?_) ?_ ?_;rotate_left
    ·show Act.put _ (some 39) _=_
     simp only [Act.put,List.setIfInBounds_toArray,List.set_cons_zero,List.set_cons_succ,i64_w,i32_w]
     rfl
    refine pq_ 7 32 14 ?_;refine pq_ 8 40 14 ?_;refine pq_ 9 41 14 ?_;refine pq_ 10 42 14 ?_;refine pq_ 11 12 14 ?_;refine pq_ 12 13 14 ?_;refine pq_ 13 14 14 ?_;refine done_ (done_of HT_.out (by kernel_rfl)) ?_
    try go_wp2
    go_roundg k2
    case measure=>have:=HJ4.out;have:=HK2.out;omega
    case rel=>exact ⟨(jw),(wrap64 (jy+1)),rt_,H',⟨by have:=HJ4.out;have:=HK2.out;omega⟩,⟨kd_to jc⟩,⟨blk_to ja⟩,⟨blk_to jb⟩,⟨below_to2 HB jn.out jp.out⟩⟩
   subst c34;rw [if_pos rfl] at H;obtain ⟨j4u,A35,H⟩:=bs_ H;(try dsimp only at H)
   by_cases c36:j3g=j4u
   rotate_left
   ·rw [if_neg c36] at H
    have j6j:=beq_eq_false_iff_ne.mpr c36;have j6k:=bne_iff_ne.mpr c36;have H':=ai_ H;clear H
    try go_wp2
    replace jc:=ai_ (Kd.R_drew jc.out);replace ja:=ai_ (blk_drew ja.out);replace jb:=ai_ (blk_drew jb.out);replace HB:=ai_ (below_drew1 HB.out);refine start_ (n:=14) (S:=fun w'=>w'.cell? ⟨j1c,0,none⟩=some (.int .i64 jk)∧w'.cell? ⟨j1c,1,none⟩=some (.int .i64 jl)∧w'.cell? ⟨j1c,2,none⟩=some (.int .i64 jm)∧w'.cell? ⟨j1c,3,none⟩=some (.slice j1d jh.length j1e)∧w'.cell? ⟨j1b,0,none⟩=some (.int .i64 ji)∧w'.cell? ⟨j1b,1,none⟩=some (.int .i64 jj)∧w'.cell? ⟨j1b,2,none⟩=some (.int .i64 jf)∧w'.cell? ⟨j1b,3,none⟩=some (.slice ju je.length jv)) (ds:=[]) (fr_ [0,14]) (by kernel_rfl) rfl rfl ⟨bc_ jb 0,bc_ jb 1,bc_ jb 2,bc_ jb 3,bc_ ja 0,bc_ ja 1,bc_ ja 2,bc_ ja 3⟩ (fun hHeld=>?_);refine with_tabW impl_TimesTogether.tab7 impl_TimesTogether.bits7 (fun HT_ HW_=>?_);generalize wr.drew=w45 at jc ja jb HB hHeld ⊢;refine pS_ 1 34 (fr_ [0,1,1,12]) HT_ ?_;refine pS_ 3 36 (fr_ [0,1,1,1,1,10]) HT_ ?_;refine pS_ 4 37 (fr_ [0,1,1,1,2,9]) HT_ ?_;refine tk8_ 0 33 (fr_ [2,1,2,9]) HT_ HW_ hHeld ?_;refine tk8_ 2 35 (fr_ [5,9]) HT_ HW_ hHeld ?_;refine on_ 5 38 (fr_ [6,8]) HT_ (fun K hK=>?_);refine gs_ Try.func61 #[ag_ ji jj jf ju je jv,.int .i64 jy,.int .i64 a1] ?_
    with_reducible refine (impl_timeAt.calls ji jj jf _ _ je jy a1 j2y _ ?side1 ?side2 A32.out).mono ?_
    (case side1=>exact cb_ j1j HB)
    (case side2=>exact j1k.out)
    rintro e w46 ⟨rfl,hb⟩;refine ⟨_,rfl,?_⟩;replace jc:=rb_ jc hb;replace ja:=bb_ ja hb;replace jb:=bb_ jb hb;replace HB:=ai_ (below_step (below_to2 HB jn.out jp.out) hb);(try clear hb);(try clear hb2);(try clear hk);(try clear hi);refine hK.out _ _ ⟨bc_ jb 0,bc_ jb 1,bc_ jb 2,bc_ jb 3,bc_ ja 0,bc_ ja 1,bc_ ja 2,bc_ ja 3⟩ (fun hHeld=>?_);clear hK K;refine norm_ (a':=?_) ?_ ?_;rotate_left
    ·show Act.put _ (some 38) _=_
     simp only [Act.put,List.setIfInBounds_toArray,List.set_cons_zero,List.set_cons_succ,i64_w,i32_w]
     rfl
    refine on_ 6 39 (fr_ [7,7]) HT_ (fun K hK=>?_);refine gs_ Try.func60 #[ag_ jk jl jm j1d jh j1e,.int .i64 a3,.int .i64 j2y] ?_
    with_reducible refine (impl_nextBus.calls jk jl jm _ _ jh a3 j2y j5u j3g true _ ?side1 ?side2 A33.out).mono ?_
    (case side1=>exact cb_ j1u HB)
    (case side2=>exact j1v.out)
    rintro e w47 ⟨rfl,hb⟩;refine ⟨_,rfl,?_⟩;replace jc:=rb_ jc hb;replace ja:=bb_ ja hb;replace jb:=bb_ jb hb;replace HB:=ai_ (below_step (below_to2 HB jn.out jp.out) hb);(try clear hb);(try clear hb2);(try clear hk);(try clear hi);refine hK.out _ _ ⟨bc_ jb 0,bc_ jb 1,bc_ jb 2,bc_ jb 3,bc_ ja 0,bc_ ja 1,bc_ ja 2,bc_ ja 3⟩ (fun hHeld=>?_);clear hK K;refine norm_ (a':=?_) ?_ ?_;rotate_left
    ·show Act.put _ (some 39) _=_
     simp only [Act.put,List.setIfInBounds_toArray,List.set_cons_zero,List.set_cons_succ,i64_w,i32_w]
     rfl
    refine pq_ 7 32 14 ?_;refine pq_ 8 40 14 ?_;refine pq_ 9 41 14 ?_;refine pq_ 10 42 14 ?_;refine pq_ 11 12 14 ?_;refine pq_ 12 13 14 ?_;refine pq_ 13 14 14 ?_;refine done_ (done_of HT_.out (by kernel_rfl)) ?_;have jaw:=jz.out;have jax:=j1l.out;obtain ⟨j7s,j7t,j7u,j7v,j7w,j7x,j7y,j7z⟩:=blk4_ ja
    try go_wp2_with (first|(go_at_call 61;(with_reducible refine (impl_timeAt.calls ji jj jf _ _ je jy a1 j4u _ (cb_ j1j HB) j1k.out A35.out).mono ?_);rintro e w50 ⟨rfl,hb⟩;replace jc:=rb_ jc hb;replace ja:=bb_ ja hb;replace jb:=bb_ jb hb;replace HB:=ai_ (below_step (below_to2 HB jn.out jp.out) hb);clear hb))
    go_roundg k2
    case measure=>have:=HJ4.out;have:=HK2.out;omega
    case rel=>exact ⟨(jw),(wrap64 (jy+1)),rt_,H',⟨by have:=HJ4.out;have:=HK2.out;omega⟩,⟨kd_to jc⟩,⟨blk_to ja⟩,⟨blk_to jb⟩,⟨below_to2 HB jn.out jp.out⟩⟩
   rw [if_pos c36] at H;have j6j:=beq_iff_eq.mpr c36;have j6k:=bne_eq_false_iff_eq.mpr c36;clear c36
   by_cases c37:jw.length < 17592186044416
   rotate_left
   ·rw [if_neg c37] at H
    cases H
   rw [if_pos c37] at H;have j6l:=ai_ c37;clear c37
   obtain ⟨j6m,hy507⟩:∃ y_:List Int,y_=(jw ++ [j3g]):=⟨_,rfl⟩
   replace H:(impl_TimesTogether.l0 k2 a1 a3 j6m jf (wrap64 (jy+1)) ji jj jf je jk jl jm jh)=some (r1,r2):=rx_ H hy507;have j6n:=ai_ hy507;clear hy507;have H':=ai_ H;clear H
   try go_wp2
   replace jc:=ai_ (Kd.R_drew jc.out);replace ja:=ai_ (blk_drew ja.out);replace jb:=ai_ (blk_drew jb.out);replace HB:=ai_ (below_drew1 HB.out);refine start_ (n:=14) (S:=fun w'=>w'.cell? ⟨j1c,0,none⟩=some (.int .i64 jk)∧w'.cell? ⟨j1c,1,none⟩=some (.int .i64 jl)∧w'.cell? ⟨j1c,2,none⟩=some (.int .i64 jm)∧w'.cell? ⟨j1c,3,none⟩=some (.slice j1d jh.length j1e)∧w'.cell? ⟨j1b,0,none⟩=some (.int .i64 ji)∧w'.cell? ⟨j1b,1,none⟩=some (.int .i64 jj)∧w'.cell? ⟨j1b,2,none⟩=some (.int .i64 jf)∧w'.cell? ⟨j1b,3,none⟩=some (.slice ju je.length jv)) (ds:=[]) (fr_ [0,14]) (by kernel_rfl) rfl rfl ⟨bc_ jb 0,bc_ jb 1,bc_ jb 2,bc_ jb 3,bc_ ja 0,bc_ ja 1,bc_ ja 2,bc_ ja 3⟩ (fun hHeld=>?_);refine with_tabW impl_TimesTogether.tab7 impl_TimesTogether.bits7 (fun HT_ HW_=>?_);generalize wr.drew=w38 at jc ja jb HB hHeld ⊢;refine pS_ 1 34 (fr_ [0,1,1,12]) HT_ ?_;refine pS_ 3 36 (fr_ [0,1,1,1,1,10]) HT_ ?_;refine pS_ 4 37 (fr_ [0,1,1,1,2,9]) HT_ ?_;refine tk8_ 0 33 (fr_ [2,1,2,9]) HT_ HW_ hHeld ?_;refine tk8_ 2 35 (fr_ [5,9]) HT_ HW_ hHeld ?_;refine on_ 5 38 (fr_ [6,8]) HT_ (fun K hK=>?_);refine gs_ Try.func61 #[ag_ ji jj jf ju je jv,.int .i64 jy,.int .i64 a1] ?_
   with_reducible refine (impl_timeAt.calls ji jj jf _ _ je jy a1 j2y _ ?side1 ?side2 A32.out).mono ?_
   (case side1=>exact cb_ j1j HB)
   (case side2=>exact j1k.out)
   rintro e w39 ⟨rfl,hb⟩;refine ⟨_,rfl,?_⟩;replace jc:=rb_ jc hb;replace ja:=bb_ ja hb;replace jb:=bb_ jb hb;replace HB:=ai_ (below_step (below_to2 HB jn.out jp.out) hb);(try clear hb);(try clear hb2);(try clear hk);(try clear hi);refine hK.out _ _ ⟨bc_ jb 0,bc_ jb 1,bc_ jb 2,bc_ jb 3,bc_ ja 0,bc_ ja 1,bc_ ja 2,bc_ ja 3⟩ (fun hHeld=>?_);clear hK K;refine norm_ (a':=?_) ?_ ?_;rotate_left
   ·show Act.put _ (some 38) _=_
    simp only [Act.put,List.setIfInBounds_toArray,List.set_cons_zero,List.set_cons_succ,i64_w,i32_w]
    rfl
   refine on_ 6 39 (fr_ [7,7]) HT_ (fun K hK=>?_);refine gs_ Try.func60 #[ag_ jk jl jm j1d jh j1e,.int .i64 a3,.int .i64 j2y] ?_
   with_reducible refine (impl_nextBus.calls jk jl jm _ _ jh a3 j2y j5u j3g true _ ?side1 ?side2 A33.out).mono ?_
   (case side1=>exact cb_ j1u HB)
   (case side2=>exact j1v.out)
   rintro e w40 ⟨rfl,hb⟩;refine ⟨_,rfl,?_⟩;replace jc:=rb_ jc hb;replace ja:=bb_ ja hb;replace jb:=bb_ jb hb;replace HB:=ai_ (below_step (below_to2 HB jn.out jp.out) hb);(try clear hb);(try clear hb2);(try clear hk);(try clear hi);refine hK.out _ _ ⟨bc_ jb 0,bc_ jb 1,bc_ jb 2,bc_ jb 3,bc_ ja 0,bc_ ja 1,bc_ ja 2,bc_ ja 3⟩ (fun hHeld=>?_);clear hK K;refine norm_ (a':=?_) ?_ ?_;rotate_left
   ·show Act.put _ (some 39) _=_
    simp only [Act.put,List.setIfInBounds_toArray,List.set_cons_zero,List.set_cons_succ,i64_w,i32_w]
    rfl
   refine pq_ 7 32 14 ?_;refine pq_ 8 40 14 ?_;refine pq_ 9 41 14 ?_;refine pq_ 10 42 14 ?_;refine pq_ 11 12 14 ?_;refine pq_ 12 13 14 ?_;refine pq_ 13 14 14 ?_;refine done_ (done_of HT_.out (by kernel_rfl)) ?_;have jay:=jz.out;have jaz:=j1l.out;obtain ⟨j8a,j8b,j8c,j8d,j8e,j8f,j8g,j8h⟩:=blk4_ ja
   try go_wp2_with (first|(go_at_call 61;(with_reducible refine (impl_timeAt.calls ji jj jf _ _ je jy a1 j4u _ (cb_ j1j HB) j1k.out A35.out).mono ?_);rintro e w43 ⟨rfl,hb⟩;replace jc:=rb_ jc hb;replace ja:=bb_ ja hb;replace jb:=bb_ jb hb;replace HB:=ai_ (below_step (below_to2 HB jn.out jp.out) hb);clear hb)|((with_reducible refine gate_builtin (b:=.append) (xs:=#[.tmp 52,.tmp 54]) rfl ?_);(try (refine gate_guard (by rfl) ?_;dsimp only));at_builtin;refine Kd.R_append Ki_ (w0:=w) w.heap.size rfl (.tmp 52) (.tmp 54) 22 3 (.int .i64 0) 8 rfl Try.underlying22 info3 rfl (by decide) (by omega) u10 jw j3g [.int .i64 j3g] (fun _=>True) (fun _=>False) rfl rfl ?aP (fun _ hk=>hk.elim) ?aF ?aO ?aB ?aS ?aL ?_;(case aP=>exact rfl);(case aB=>exact (below_to2 HB jn.out jp.out));(case aF=>exact (fun _ _=>trivial));(case aO=>exact (kd_to jc));(case aS=>exact (below_size (below_to2 HB jn.out jp.out)));(case aL=>have:=j6l.out;omega);intro jbd w44 ho hb hg hat;rw [← j6n.out] at ho;replace ja:=ai_ (blk_grown (g:=j1b) (o:=.cells #[.int .i64 ji,.int .i64 jj,.int .i64 jf,.slice ju je.length jv] 30 (0,0)) (blk_to ja) hg (Kd.R_ne jc.out ja.out (by decide)));replace jb:=ai_ (blk_grown (g:=j1c) (o:=.cells #[.int .i64 jk,.int .i64 jl,.int .i64 jm,.slice j1d jh.length j1e] 30 (0,0)) (blk_to jb) hg (Kd.R_ne jc.out jb.out (by decide)));replace HB:=ai_ (hb);have j6o:=ai_ (ho);clear jc;clear ho hb hg hat))
   go_roundg k2
   case measure=>have:=HJ4.out;have:=HK2.out;omega
   case rel=>exact ⟨(j6m),(wrap64 (jy+1)),rt_,H',⟨by have:=HJ4.out;have:=HK2.out;omega⟩,⟨kd_to j6o⟩,⟨blk_to ja⟩,⟨blk_to jb⟩,⟨below_to2 HB jn.out jp.out⟩⟩
end Go.Proofs.Ythdnodmidbcgpaa.QE
namespace Go.Proofs.Ythdnodmidbcgpaa.QE
open Go.Proofs.Ythdnodmidbcgpaa.X Go.RowKit Go.Proofs.YthdnodmidbcgpaaW.PrintWords Go.Proofs.YthdnodmidbcgpaaW.PrintLast Go.Proofs.YthdnodmidbcgpaaW.PrintMore
set_option maxHeartbeats 8000000
set_option maxRecDepth 100000
attribute [local go_sem] max2_int min2_int max_two min_two max_three min_three max_four min_four
set_option linter.unusedVariables false
set_option linter.unusedSimpArgs false
mutual
def spec_TimesTogether.j0:Nat→Int→Int→Bool→Int→Int→Int→List Int→Int→Int→Int→List Int→Option (List Int × Bool)
 | 0,_,_,_,_,_,_,_,_,_,_,_=>none
 | k+1,x1,x3,x23,j2b,j2c,j1p,j2d,j1q,j1r,j1s,j1t=>if x23=true then (some (([]:List Int),false)) else (spec_TimesTogether.l0 k x1 x3 ([]:List Int) 0 j2b j2c j1p j2d j1q j1r j1s j1t)
def spec_TimesTogether.l0:Nat→Int→Int→List Int→Int→Int→Int→Int→List Int→Int→Int→Int→List Int→Option (List Int × Bool)
 | 0,_,_,_,_,_,_,_,_,_,_,_,_=>none
 | k+1,x1,x3,x10,x11,j2b,j2c,j1p,j2d,j1q,j1r,j1s,j1t=>if x11 < j1p then ((spec_buTime.f j2b j2c j1p j2d x11 x1).bind fun j1w=>((spec_buNext.f k j1q j1r j1s j1t x3 j1w).bind fun j3b=>(if j3b≥0 then ((spec_buTime.f j1q j1r j1s j1t j3b x3).bind fun j4z=>(if j4z=j1w then (if x10.length < 17592186044416 then (spec_TimesTogether.l0 k x1 x3 (x10 ++ [j1w]) (wrap64 (x11+1)) j2b j2c j1p j2d j1q j1r j1s j1t) else (none)) else (spec_TimesTogether.l0 k x1 x3 x10 (wrap64 (x11+1)) j2b j2c j1p j2d j1q j1r j1s j1t))) else (spec_TimesTogether.l0 k x1 x3 x10 (wrap64 (x11+1)) j2b j2c j1p j2d j1q j1r j1s j1t)))) else (some (x10,true))
end
def spec_TimesTogether.f (k:Nat) (ji:Int) (jj:Int) (jf:Int) (je:List Int) (a1:Int) (jk:Int) (jl:Int) (jm:Int) (jh:List Int) (a3:Int):Option (List Int × Bool):=(spec_buStop.f k ji jj jf je a1).bind fun j5v=>(if j5v=true then ((spec_buStop.f k jk jl jm jh a3).bind fun j5j=>(spec_TimesTogether.j0 k a1 a3 (!j5j) ji jj jf je jk jl jm jh)) else (spec_TimesTogether.j0 k a1 a3 true ji jj jf je jk jl jm jh))
theorem spec_TimesTogether.calls (k:Nat) (ji:Int) (jj:Int) (jf:Int) (ju:Option Addr) (jv:Nat) (je:List Int) (a1:Int) (jk:Int) (jl:Int) (jm:Int) (j1d:Option Addr) (j1e:Nat) (jh:List Int) (a3:Int) (r1:List Int) (r2:Bool) (w:World) (hr0_3:Kd.C Ki_ w ju je.length je) (hc0_3:je.length≤jv) (hr2_3:Kd.C Ki_ w j1d jh.length jh) (hc2_3:jh.length≤j1e) (h:spec_TimesTogether.f k ji jj jf je a1 jk jl jm jh a3=some (r1,r2)) :
  Calls Try.prog 26 #[ag_ ji jj jf ju je jv,.int .i64 a1,ag_ jk jl jm j1d jh j1e,.int .i64 a3] w fun e w' => ∃ Ab:Value,e=.returned (.tuple #[Ab,.bool r2])∧Kd.R Ki_ 3 w' w.heap.size (fun _=>True) Ab r1∧Below w.heap.size w w':=by
 have hu30:=Try.underlying30;have j1j:=ai_ hr0_3;have j1k:=ai_ hc0_3;clear hr0_3 hc0_3;have j1u:=ai_ hr2_3;have j1v:=ai_ hc2_3;clear hr2_3 hc2_3;have HB:=ai_ (Below.refl w.heap.size w);have H:=h
 unfold spec_TimesTogether.f at H
 clear h;have HC5:=ai_ H;clear H;go_enter Try.func26,Try.ntmps26
 go_upto_region 1 with (first|((with_reducible refine gd_ 4 rfl ?_);refine bxe_ #[.int .i64 ji,.int .i64 jj,.int .i64 jf,.slice ju je.length jv] 30 ?_;intro j5a hg w6 hbox hb;have jd:=ai_ (hbox);have jb0:=ai_ (gb_ hg (below_size (below_to HB)));have jr:=ai_ (gb_ hg (below_size (below_to HB)));replace HB:=ai_ (below_step (below_to HB) hb);clear hb hbox hg)|((with_reducible refine gd_ 6 rfl ?_);refine bxe_ #[.int .i64 jk,.int .i64 jl,.int .i64 jm,.slice j1d jh.length j1e] 30 ?_;intro j5b hg w7 hbox hb;have jg:=ai_ (hbox);have jb1:=ai_ (gb_ hg (below_size (below_to1 HB jr.out)));have js:=ai_ (gb_ hg (below_size (below_to1 HB jr.out)));replace HB:=ai_ (below_step (below_to1 HB jr.out) hb);have jt:=ai_ (ne_ hg (blk_lt (blk_to jd)));replace jd:=bb_ jd hb;have j1a:=ai_ jt.out.symm;clear hb hbox hg))
 (try simp only [Act.put,List.setIfInBounds_toArray,List.set_cons_zero,List.set_cons_succ])
 go_cut [23] (fun v23 wc => ∃ (kq:Nat) (j4b:Bool),v23=.bool j4b∧Aside0 (spec_TimesTogether.j0 kq a1 a3 j4b ji jj jf je jk jl jm jh=some (r1,r2))∧Aside0 (kq≤k)∧B4_ wc j5a ji jj jf ju je jv 30∧B4_ wc j5b jk jl jm j1d jh j1e 30∧Aside0 (Below w.heap.size w wc))
 case first =>
  have H:=HC5.out;clear HC5;obtain ⟨j5v,A8,H⟩:=bs_ H;(try dsimp only at H)
  by_cases c9:j5v=true
  rotate_left
  ·replace c9:=Bool.eq_false_iff.mpr c9
   subst c9;rw [if_neg ft_] at H;have H':=ai_ H;clear H;have jb2:=jt.out;have jb3:=j1a.out;obtain ⟨j2n,j2o,j2p,j2q,j2r,j2s,j2t,j2u⟩:=blk4_ jd
   go_wp2_with (first|((with_reducible refine gc_ 42 rfl ?_);refine gl_ (some 16) Try.func42 #[ag_ ji jj jf ju je jv,.int .i64 a1] ?_;(with_reducible refine (spec_buStop.calls k ji jj jf _ _ je a1 false _ (cb_ j1j HB) j1k.out A8.out).mono ?_);rintro e w18 ⟨rfl,hb⟩;refine ⟨_,rfl,?_⟩;replace jd:=bb_ jd hb;replace jg:=bb_ jg hb;replace HB:=ai_ (below_step (below_to2 HB jr.out js.out) hb);clear hb))
   go_meet
   case rel=>exact ⟨_,(true),rt_,H',⟨by first|omega|exact Nat.le_refl _⟩,⟨blk_to jd⟩,⟨blk_to jg⟩,⟨below_to2 HB jr.out js.out⟩⟩
  subst c9;rw [if_pos rfl] at H;obtain ⟨j5j,A10,H⟩:=bs_ H;(try dsimp only at H);have H':=ai_ H;clear H;have j6g:=jt.out;have j6h:=j1a.out;obtain ⟨j2f,j2g,j2h,j2i,j2j,j2k,j2l,j2m⟩:=blk4_ jd
  go_wp2_with (first|((with_reducible refine gc_ 42 rfl ?_);refine gl_ (some 16) Try.func42 #[ag_ ji jj jf ju je jv,.int .i64 a1] ?_;(with_reducible refine (spec_buStop.calls k ji jj jf _ _ je a1 true _ (cb_ j1j HB) j1k.out A8.out).mono ?_);rintro e w13 ⟨rfl,hb⟩;refine ⟨_,rfl,?_⟩;replace jd:=bb_ jd hb;replace jg:=bb_ jg hb;replace HB:=ai_ (below_step (below_to2 HB jr.out js.out) hb);clear hb;obtain ⟨j4c,j4d,j4e,j4f,j4g,j4h,j4i,j4j⟩:=blk4_ jg)|(go_at_call 42;(with_reducible refine (spec_buStop.calls k jk jl jm _ _ jh a3 j5j _ (cb_ j1u HB) j1v.out A10.out).mono ?_);rintro e w15 ⟨rfl,hb⟩;replace jd:=bb_ jd hb;replace jg:=bb_ jg hb;replace HB:=ai_ (below_step (below_to2 HB jr.out js.out) hb);clear hb))
  go_meet
  case rel=>exact ⟨_,(!j5j),rt_,H',⟨by first|omega|exact Nat.le_refl _⟩,⟨blk_to jd⟩,⟨blk_to jg⟩,⟨below_to2 HB jr.out js.out⟩⟩
 clear HC5
 try clear c1
 try clear c2
 try clear p2
 try clear c4
 try clear c9
 try clear c11
 try clear c16
 try clear j2f
 try clear j2g
 try clear j2h
 try clear j2i
 try clear j4c
 try clear j4d
 try clear j4e
 try clear j4f
 try clear j2n
 try clear j2o
 try clear j2p
 try clear j2q
 try clear j2j
 try clear j2k
 try clear j2l
 try clear j2m
 try clear j4g
 try clear j4h
 try clear j4i
 try clear j4j
 try clear j2r
 try clear j2s
 try clear j2t
 try clear j2u
 obtain ⟨kq,j4b,rfl,HA,HJ4,jd,jg,HB⟩:=hcut
 cases kq with
 | zero=>exact absurd HA.out (by simp [spec_TimesTogether.j0])
 | succ kj4 =>
  have H:=HA.out;clear HA;simp only [spec_TimesTogether.j0] at H
  by_cases c19:j4b=true
  ·subst c19
   rw [if_pos rfl] at H;simp only [Option.some.injEq,Prod.mk.injEq] at H;obtain ⟨rfl,rfl⟩:=H
   go_wp2
   go_ret2
   exact ⟨_,rtE_,by first|exact Kd.R_nil _ _ _ _ _|exact Kd.N_nil _ _ _ _ _|exact Kd.V_nil _ _ _ _ _|exact Kd.Q_nil _ _ _ _ _|exact Kd.S_nil _ _ _ _ _,below_to2 HB jr.out js.out⟩
  replace c19:=Bool.eq_false_iff.mpr c19;subst c19;rw [if_neg ft_] at H;have H':=ai_ H;clear H
  go_wp2
  go_loopg [10,11] kj4 (fun kq v10 v11 w' => ∃ (jw:List Int) (j1g:Int),v11=.int .i64 j1g∧Aside0 (spec_TimesTogether.l0 kq a1 a3 jw j1g ji jj jf je jk jl jm jh=some (r1,r2))∧Aside0 (kq≤kj4)∧Aside0 (Kd.R Ki_ 3 w' w.heap.size (fun _=>True) v10 jw)∧Aside0 (w'.heap[j5a]?=some (.cells #[.int .i64 ji,.int .i64 jj,.int .i64 jf,(.slice ju je.length jv)] 30 (0,0)))∧Aside0 (w'.heap[j5b]?=some (.cells #[.int .i64 jk,.int .i64 jl,.int .i64 jm,(.slice j1d jh.length j1e)] 30 (0,0)))∧Aside0 (Below w.heap.size w w'))
  case atStart=>exact ⟨(([]:List Int)),(0),rt_,H',⟨Nat.le_refl _⟩,⟨by first|exact Kd.R_nil _ _ _ _ _|exact Kd.N_nil _ _ _ _ _|exact Kd.V_nil _ _ _ _ _|exact Kd.Q_nil _ _ _ _ _|exact Kd.S_nil _ _ _ _ _⟩,⟨blk_to jd⟩,⟨blk_to jg⟩,⟨below_to2 HB jr.out js.out⟩⟩
  clear H'
  try clear c1
  try clear c2
  try clear p2
  try clear c4
  try clear c9
  try clear c11
  try clear c16
  try clear c19
  try clear j2f
  try clear j2g
  try clear j2h
  try clear j2i
  try clear j4c
  try clear j4d
  try clear j4e
  try clear j4f
  try clear j2n
  try clear j2o
  try clear j2p
  try clear j2q
  try clear j2j
  try clear j2k
  try clear j2l
  try clear j2m
  try clear j4g
  try clear j4h
  try clear j4i
  try clear j4j
  try clear j2r
  try clear j2s
  try clear j2t
  try clear j2u
  try clear p2
  obtain ⟨jw,j1g,rfl,HA,HK2,jc,jd,jg,HB⟩:=hrel
  cases gk with
  | zero=>exact absurd HA.out (by simp [spec_TimesTogether.l0])
  | succ k2 =>
   have H:=HA.out;clear HA;simp only [spec_TimesTogether.l0] at H
   by_cases c20:j1g < jf
   rotate_left
   ·rw [if_neg c20] at H
    have j4k:=decide_eq_false c20;clear c20;simp only [Option.some.injEq,Prod.mk.injEq] at H;obtain ⟨rfl,rfl⟩:=H;have jb4:=jt.out;have jb5:=j1a.out;obtain ⟨j8i,j8j,j8k,j8l,j8m,j8n,j8o,j8p⟩:=blk4_ jd
    go_wp2
    go_ret2
    exact ⟨_,rtE_,kd_to jc,below_to2 HB jr.out js.out⟩
   rw [if_pos c20] at H;have j4k:=decide_eq_true c20;clear c20;obtain ⟨j1w,A21,H⟩:=bs_ H;(try dsimp only at H);obtain ⟨j3b,A22,H⟩:=bs_ H;(try dsimp only at H)
   by_cases c23:j3b≥0
   rotate_left
   ·rw [if_neg c23] at H
    have j6p:=decide_eq_false c23;clear c23;have H':=ai_ H;clear H;have jb6:=jt.out;have jb7:=j1a.out;obtain ⟨j8q,j8r,j8s,j8t,j8u,j8v,j8w,j8x⟩:=blk4_ jd
    go_wp2_with (first|((with_reducible refine gc_ 62 rfl ?_);refine gl_ (some 33) Try.func62 #[ag_ ji jj jf ju je jv,.int .i64 j1g,.int .i64 a1] ?_;(with_reducible refine (spec_buTime.calls ji jj jf _ _ je j1g a1 j1w _ (cb_ j1j HB) j1k.out A21.out).mono ?_);rintro e w44 ⟨rfl,hb⟩;refine ⟨_,rfl,?_⟩;replace jc:=rb_ jc hb;replace jd:=bb_ jd hb;replace jg:=bb_ jg hb;replace HB:=ai_ (below_step (below_to2 HB jr.out js.out) hb);clear hb;obtain ⟨j8y,j8z,j9a,j9b,j9c,j9d,j9e,j9f⟩:=blk4_ jg)|((with_reducible refine gc_ 63 rfl ?_);refine gl_ (some 37) Try.func63 #[ag_ jk jl jm j1d jh j1e,.int .i64 a3,.int .i64 j1w] ?_;(with_reducible refine (spec_buNext.calls k2 jk jl jm _ _ jh a3 j1w j3b _ (cb_ j1u HB) j1v.out A22.out).mono ?_);rintro e w46 ⟨rfl,hb⟩;refine ⟨_,rfl,?_⟩;replace jc:=rb_ jc hb;replace jd:=bb_ jd hb;replace jg:=bb_ jg hb;replace HB:=ai_ (below_step (below_to2 HB jr.out js.out) hb);clear hb))
    go_roundg k2
    case measure=>have:=HJ4.out;have:=HK2.out;omega
    case rel=>exact ⟨(jw),(wrap64 (j1g+1)),rt_,H',⟨by have:=HJ4.out;have:=HK2.out;omega⟩,⟨kd_to jc⟩,⟨blk_to jd⟩,⟨blk_to jg⟩,⟨below_to2 HB jr.out js.out⟩⟩
   rw [if_pos c23] at H;have j6p:=decide_eq_true c23;clear c23;obtain ⟨j4z,A24,H⟩:=bs_ H;(try dsimp only at H)
   by_cases c25:j4z=j1w
   rotate_left
   ·rw [if_neg c25] at H
    have j6q:=beq_eq_false_iff_ne.mpr c25;have j6r:=bne_iff_ne.mpr c25;have H':=ai_ H;clear H;have jb8:=jt.out;have jb9:=j1a.out;obtain ⟨j9g,j9h,j9i,j9j,j9k,j9l,j9m,j9n⟩:=blk4_ jd
    go_wp2_with (first|((with_reducible refine gc_ 62 rfl ?_);refine gl_ (some 33) Try.func62 #[ag_ ji jj jf ju je jv,.int .i64 j1g,.int .i64 a1] ?_;(with_reducible refine (spec_buTime.calls ji jj jf _ _ je j1g a1 j1w _ (cb_ j1j HB) j1k.out A21.out).mono ?_);rintro e w37 ⟨rfl,hb⟩;refine ⟨_,rfl,?_⟩;replace jc:=rb_ jc hb;replace jd:=bb_ jd hb;replace jg:=bb_ jg hb;replace HB:=ai_ (below_step (below_to2 HB jr.out js.out) hb);clear hb;obtain ⟨j9o,j9p,j9q,j9r,j9s,j9t,j9u,j9v⟩:=blk4_ jg)|((with_reducible refine gc_ 63 rfl ?_);refine gl_ (some 37) Try.func63 #[ag_ jk jl jm j1d jh j1e,.int .i64 a3,.int .i64 j1w] ?_;(with_reducible refine (spec_buNext.calls k2 jk jl jm _ _ jh a3 j1w j3b _ (cb_ j1u HB) j1v.out A22.out).mono ?_);rintro e w39 ⟨rfl,hb⟩;refine ⟨_,rfl,?_⟩;replace jc:=rb_ jc hb;replace jd:=bb_ jd hb;replace jg:=bb_ jg hb;replace HB:=ai_ (below_step (below_to2 HB jr.out js.out) hb);clear hb;obtain ⟨j9w,j9x,j9y,j9z,ja0,ja1,ja2,ja3⟩:=blk4_ jg)|(go_at_call 62;(with_reducible refine (spec_buTime.calls jk jl jm _ _ jh j3b a3 j4z _ (cb_ j1u HB) j1v.out A24.out).mono ?_);rintro e w41 ⟨rfl,hb⟩;replace jc:=rb_ jc hb;replace jd:=bb_ jd hb;replace jg:=bb_ jg hb;replace HB:=ai_ (below_step (below_to2 HB jr.out js.out) hb);clear hb))
    go_roundg k2
    case measure=>have:=HJ4.out;have:=HK2.out;omega
    case rel=>exact ⟨(jw),(wrap64 (j1g+1)),rt_,H',⟨by have:=HJ4.out;have:=HK2.out;omega⟩,⟨kd_to jc⟩,⟨blk_to jd⟩,⟨blk_to jg⟩,⟨below_to2 HB jr.out js.out⟩⟩
   rw [if_pos c25] at H;have j6q:=beq_iff_eq.mpr c25;have j6r:=bne_eq_false_iff_eq.mpr c25;clear c25
   by_cases c26:jw.length < 17592186044416
   ·rw [if_pos c26] at H
    have j6s:=ai_ c26;clear c26
    obtain ⟨j6t,hy517⟩:∃ y_:List Int,y_=(jw ++ [j1w]):=⟨_,rfl⟩
    replace H:(spec_TimesTogether.l0 k2 a1 a3 j6t (wrap64 (j1g+1)) ji jj jf je jk jl jm jh)=some (r1,r2):=rx_ H hy517;have j6u:=ai_ hy517;clear hy517;have H':=ai_ H;clear H;have jba:=jt.out;have jbb:=j1a.out;obtain ⟨ja4,ja5,ja6,ja7,ja8,ja9,jaa,jab⟩:=blk4_ jd
    go_wp2_with (first|((with_reducible refine gc_ 62 rfl ?_);refine gl_ (some 33) Try.func62 #[ag_ ji jj jf ju je jv,.int .i64 j1g,.int .i64 a1] ?_;(with_reducible refine (spec_buTime.calls ji jj jf _ _ je j1g a1 j1w _ (cb_ j1j HB) j1k.out A21.out).mono ?_);rintro e w29 ⟨rfl,hb⟩;refine ⟨_,rfl,?_⟩;replace jc:=rb_ jc hb;replace jd:=bb_ jd hb;replace jg:=bb_ jg hb;replace HB:=ai_ (below_step (below_to2 HB jr.out js.out) hb);clear hb;obtain ⟨j3t,j3u,j3v,j3w,j3x,j3y,j3z,j4a⟩:=blk4_ jg)|((with_reducible refine gc_ 63 rfl ?_);refine gl_ (some 37) Try.func63 #[ag_ jk jl jm j1d jh j1e,.int .i64 a3,.int .i64 j1w] ?_;(with_reducible refine (spec_buNext.calls k2 jk jl jm _ _ jh a3 j1w j3b _ (cb_ j1u HB) j1v.out A22.out).mono ?_);rintro e w31 ⟨rfl,hb⟩;refine ⟨_,rfl,?_⟩;replace jc:=rb_ jc hb;replace jd:=bb_ jd hb;replace jg:=bb_ jg hb;replace HB:=ai_ (below_step (below_to2 HB jr.out js.out) hb);clear hb;obtain ⟨jac,jad,jae,jaf,jag,jah,jai,jaj⟩:=blk4_ jg)|(go_at_call 62;(with_reducible refine (spec_buTime.calls jk jl jm _ _ jh j3b a3 j4z _ (cb_ j1u HB) j1v.out A24.out).mono ?_);rintro e w33 ⟨rfl,hb⟩;replace jc:=rb_ jc hb;replace jd:=bb_ jd hb;replace jg:=bb_ jg hb;replace HB:=ai_ (below_step (below_to2 HB jr.out js.out) hb);clear hb)|((with_reducible refine gate_builtin (b:=.append) (xs:=#[.tmp 48,.tmp 50]) rfl ?_);at_builtin;refine Kd.R_append Ki_ (w0:=w) w.heap.size rfl (.tmp 48) (.tmp 50) 22 3 (.int .i64 0) 8 rfl Try.underlying22 info3 rfl (by decide) (by omega) u10 jw j1w [.int .i64 j1w] (fun _=>True) (fun _=>False) rfl rfl ?aP (fun _ hk=>hk.elim) ?aF ?aO ?aB ?aS ?aL ?_;(case aP=>exact rfl);(case aB=>exact (below_to2 HB jr.out js.out));(case aF=>exact (fun _ _=>trivial));(case aO=>exact (kd_to jc));(case aS=>exact (below_size (below_to2 HB jr.out js.out)));(case aL=>have:=j6s.out;omega);intro jbe w34 ho hb hg hat;rw [← j6u.out] at ho;replace jd:=ai_ (blk_grown (g:=j5a) (o:=.cells #[.int .i64 ji,.int .i64 jj,.int .i64 jf,.slice ju je.length jv] 30 (0,0)) (blk_to jd) hg (Kd.R_ne jc.out jd.out (by decide)));replace jg:=ai_ (blk_grown (g:=j5b) (o:=.cells #[.int .i64 jk,.int .i64 jl,.int .i64 jm,.slice j1d jh.length j1e] 30 (0,0)) (blk_to jg) hg (Kd.R_ne jc.out jg.out (by decide)));replace HB:=ai_ (hb);have j6v:=ai_ (ho);clear jc;clear ho hb hg hat))
    go_roundg k2
    case measure=>have:=HJ4.out;have:=HK2.out;omega
    case rel=>exact ⟨(j6t),(wrap64 (j1g+1)),rt_,H',⟨by have:=HJ4.out;have:=HK2.out;omega⟩,⟨kd_to j6v⟩,⟨blk_to jd⟩,⟨blk_to jg⟩,⟨below_to2 HB jr.out js.out⟩⟩
   ·rw [if_neg c26] at H
    cases H
mutual
def spec_DrawTimesOfLines.i.l0:Nat→List (S30)→List Int→Int→List Int→Int→Int→Option ((List (S30)) × List Int × Int × Int)
 | 0,_,_,_,_,_,_=>none
 | k+1,x5,x6,x7,j2e,j4l,j4m=>if x7 > 0 then ((spec_l1Cur_line.f k j2e j4l j4m).bind fun bt523=>(if x5.length < 2932031007402 then ((spec_l1Cur_pick.f j2e bt523.2.2.2.2.1 bt523.2.2.2.2.2 2).bind fun bt534=>((spec_l1Cur_pick.f j2e bt534.2.1 bt534.2.2 9).bind fun bt537=>(if x6.length < 17592186044416 then (spec_DrawTimesOfLines.i.l0 k (x5 ++ [(⟨bt523.1,bt523.2.1,bt523.2.2.1,bt523.2.2.2.1⟩:S30)]) (x6 ++ [wrap64 (bt534.1+(wrap64 (Int.tdiv bt537.1 8)))]) (wrap64 (x7 - 1)) j2e bt537.2.1 bt537.2.2) else (none)))) else (none))) else ((spec_l1Cur_pick.f j2e j4l j4m 16).bind fun bt543=>(if bt543.1=0 then (some (([]:List (S30)),([]:List Int),bt543.2.1,bt543.2.2)) else (if bt543.1=1 then (if x6.length < 17592186044416 then (some (x5,(x6 ++ [0]),bt543.2.1,bt543.2.2)) else (none)) else (if bt543.1=2 then (spec_DrawTimesOfLines.i.l1 k x5 x6 j2e bt543.2.1 bt543.2.2) else (some (x5,x6,bt543.2.1,bt543.2.2))))))
def spec_DrawTimesOfLines.i.l1:Nat→List (S30)→List Int→List Int→Int→Int→Option ((List (S30)) × List Int × Int × Int)
 | 0,_,_,_,_,_=>none
 | k+1,x5,x6,j2e,j4l,j4m=>(spec_l1Cur_pick.f j2e j4l j4m 2).bind fun bt549=>(if (x5.length:Int) < (wrap64 (5+bt549.1)) then ((spec_l1Cur_sureLine.f k j2e bt549.2.1 bt549.2.2).bind fun bt552=>(if x5.length < 2932031007402 then (if x6.length < 17592186044416 then (spec_DrawTimesOfLines.i.l1 k (x5 ++ [(⟨bt552.1,bt552.2.1,bt552.2.2.1,bt552.2.2.2.1⟩:S30)]) (x6 ++ [0]) j2e bt552.2.2.2.2.1 bt552.2.2.2.2.2) else (none)) else (none))) else (some (x5,x6,bt549.2.1,bt549.2.2)))
end
def spec_DrawTimesOfLines.i.f (k:Nat) (l0:List Int) (j6w:List Int) (jam:Int) (jan:Int):Option ((List (S30)) × List Int × Int × Int):=(spec_l1Cur_pick.f j6w jam jan 3).bind fun bt520=>(spec_DrawTimesOfLines.i.l0 k ([]:List (S30)) ([]:List Int) (wrap64 (1+bt520.1)) j6w bt520.2.1 bt520.2.2)
def spec_DrawTimesOfLines.f (k:Nat) (l0:List Int):Option (List (S30) × List Int):=(spec_DrawTimesOfLines.i.f k l0 l0 0 0).bind fun b=>some (b.1,b.2.1)
theorem spec_DrawTimesOfLines.calls (k:Nat) (A0:Option Addr) (c0:Nat) (l0:List Int) (r1:List (S30)) (r2:List Int) (wz_:World) (hr0:Kd.C (Kd.int .u8) wz_ A0 l0.length l0) (hc0:l0.length≤c0) (h:spec_DrawTimesOfLines.f k l0=some (r1,r2)) :
  Calls Try.prog 27 #[.slice A0 l0.length c0] wz_ fun e w' => ∃ Ab Af:Value,e=.returned (.tuple #[Ab,Af])∧Kd.S k30 30 w' wz_.heap.size (fun k_=>some k_≠(Af:Value).ownBlock) Ab r1∧Kd.R Ki_ 3 w' wz_.heap.size (fun _=>True) Af r2∧Below wz_.heap.size wz_ w':=by
 obtain ⟨b_,hb0_,h⟩:=Option.bind_eq_some_iff.mp h;obtain ⟨r1z_,r2z_,r3,r4⟩:=b_;simp only [Option.some.injEq,Prod.mk.injEq] at h;obtain ⟨hq0_,hq1_⟩:=h;obtain rfl:=hq0_.symm;obtain rfl:=hq1_.symm
 suffices hh_:∀ (w0 w:World) (g:Nat),w0=wz_→g=wz_.heap.size→w=wz_.alloc (.cells #[.slice A0 l0.length c0,.int .i64 0,.int .u64 0] 75 (0,0))→Calls Try.prog 27 #[.slice A0 l0.length c0] wz_ fun e w' => ∃ Ab Af:Value,e=.returned (.tuple #[Ab,Af])∧Kd.S k30 30 w' w.heap.size (fun k_=>some k_≠(Af:Value).ownBlock) Ab r1∧Kd.R Ki_ 3 w' w.heap.size (fun _=>True) Af r2∧IsS75 w0 w' g l0 r3 r4∧Below w0.heap.size w0 w'∧KeepBut w w' g none by
  refine (hh_ wz_ _ _ rfl rfl rfl).mono ?_;rintro e w' ⟨Ab,Af,he_,hr0_,hr1_,_,hb_,_⟩;exact ⟨Ab,Af,he_,Kd.S_lower hr0_ (by simp),Kd.R_lower hr1_ (by simp),hb_⟩
 intro w0 w g HW0_ HG_ HW_;have hI:IsS75 w0 w g l0 0 0:=by rw [HG_,HW_,HW0_];exact IsS75.new _ _ _ c0 _ _ _ (Below.refl _ _) hr0
 have hB:Below w0.heap.size w0 w:=by rw [HW0_,HW_];exact below_alloc (Below.refl _ _) _
 have hf0:∀ ad,A0=some ad→0 < l0.length→ad.block≠g:=by
  intro ad hA_ hn_ he_;obtain ⟨ad2_,e2_,hx_⟩:=Kd.at_int hr0 0 (by omega) (by omega);rw [hA_] at e2_
  injection e2_ with e2_
  subst e2_;have hlt_:=World.block_lt_of_cell? wz_ _ hx_;rw [add_block,he_,HG_] at hlt_
  omega
 have hr0':Kd.C (Kd.int .u8) w A0 l0.length l0:=by rw [HW_];exact Kd.C_alloc hr0 _
 clear hr0;have hr0:=hr0';clear hr0';have HWZ:=ai_ HW_;have HGZ:=ai_ HG_;clear HW_ HG_ HW0_;have h:=hb0_;clear hb0_;have HR0:=ai_ hr0;have HC0:=ai_ hc0;clear hr0 hc0;have HI1:=ai_ hI;have HK:=ai_ (KeepBut.refl w g none);have HL:=ai_ hB.size;clear hI;have HW0:=ai_ hB.size;have HB:=ai_ hB;clear hB;have H:=h
 unfold spec_DrawTimesOfLines.f at H
 clear h;obtain ⟨⟨j6x,j6y,j6z⟩,A3,H⟩:=bs_ H;(try dsimp only at H);have H':=ai_ H;clear H;go_enter Try.func27,Try.ntmps27
 go_upto_region 2 with (fail)
 rw [← HWZ.out,← HGZ.out]
 go_wp2_with (first|((with_reducible refine gc_ 57 rfl ?_);refine gl_ (some 12) Try.func57 #[.pointer (some ⟨g,0,none⟩),.int .i64 3] ?_;(with_reducible refine (spec_l1Cur_pick.calls g l0 0 0 3 j6x j6y j6z w0 _ (IsS75.to HI1) (below_to1 HB (IsS75.ge HI1.out)) A3.out).mono ?_);rintro e w4 ⟨rfl,hi,hb,hk⟩;refine ⟨_,rfl,?_⟩;replace HK:=ai_ (KeepBut.trans (keep_to HK) hk (.inl rfl));replace HB:=ai_ (hb);replace HI1:=ai_ (hi);clear hb hk hi))
 go_loopg [5,6,7] k (fun kq v5 v6 v7 w' => ∃ (j3e:List (S30)) (j2x:List Int) (j3h:Int) (j1h:Int) (j1i:Int),v7=.int .i64 j3h∧Aside0 (spec_DrawTimesOfLines.i.l0 kq j3e j2x j3h l0 j1h j1i=some (r1,r2,r3,r4))∧Aside0 (kq≤k)∧Aside0 (Kd.S k30 30 w' w.heap.size (fun k_=>some k_≠(v6:Value).ownBlock) v5 j3e)∧Aside0 (Kd.R Ki_ 3 w' w.heap.size (fun _=>True) v6 j2x)∧Aside0 (IsS75 w0 w' g l0 j1h j1i)∧Aside0 (KeepBut w w' g none)∧Aside0 (Below w0.heap.size w0 w'))
 case atStart=>exact ⟨(([]:List (S30))),(([]:List Int)),(wrap64 (1+j6x)),(j6y),(j6z),rt_,H',⟨Nat.le_refl _⟩,⟨by first|exact Kd.S_nil _ _ _ _ _|exact Kd.N_nil _ _ _ _ _|exact Kd.V_nil _ _ _ _ _|exact Kd.Q_nil _ _ _ _ _|exact Kd.R_nil _ _ _ _ _⟩,⟨by first|exact Kd.R_nil _ _ _ _ _|exact Kd.N_nil _ _ _ _ _|exact Kd.V_nil _ _ _ _ _|exact Kd.Q_nil _ _ _ _ _|exact Kd.S_nil _ _ _ _ _⟩,⟨IsS75.tg HI1⟩,⟨keep_to HK⟩,⟨below_to1 HB (IsS75.ge HI1.out)⟩⟩
 clear H'
 try clear c2
 try clear p2
 obtain ⟨j3e,j2x,j3h,j1h,j1i,rfl,HA,HK1,jq,jo,HI1,HK,HB⟩:=hrel
 cases gk with
 | zero=>exact absurd HA.out (by simp [spec_DrawTimesOfLines.i.l0])
 | succ k1 =>
  have H:=HA.out;clear HA;simp only [spec_DrawTimesOfLines.i.l0] at H
  by_cases c5:j3h > 0
  ·rw [if_pos c5] at H
   have j7a:=decide_eq_true c5;clear c5;obtain ⟨⟨j5c,j5d,j5e,j4q,j5w,j5x⟩,A6,H⟩:=bs_ H;(try dsimp only at H)
   by_cases c7:j3e.length < 2932031007402
   rotate_left
   ·rw [if_neg c7] at H
    cases H
   rw [if_pos c7] at H;have jao:=ai_ c7;clear c7
   obtain ⟨j5y,hy531⟩:∃ y_:List (S30),y_=(j3e ++ [(⟨j5c,j5d,j5e,j4q⟩:S30)]):=⟨_,rfl⟩
   replace H:((spec_l1Cur_pick.f l0 j5w j5x 2).bind fun bt534=>((spec_l1Cur_pick.f l0 bt534.2.1 bt534.2.2 9).bind fun bt537=>(if j2x.length < 17592186044416 then (spec_DrawTimesOfLines.i.l0 k1 j5y (j2x ++ [wrap64 (bt534.1+(wrap64 (Int.tdiv bt537.1 8)))]) (wrap64 (j3h - 1)) l0 bt537.2.1 bt537.2.2) else (none))))=some (r1,r2,r3,r4):=rx_ H hy531;have j7b:=ai_ hy531;clear hy531;obtain ⟨⟨j5k,j7c,j7d⟩,A8,H⟩:=bs_ H;(try dsimp only at H);obtain ⟨⟨j5l,j5z,j6a⟩,A9,H⟩:=bs_ H;(try dsimp only at H)
   by_cases c10:j2x.length < 17592186044416
   ·rw [if_pos c10] at H
    have j7e:=ai_ c10;clear c10
    obtain ⟨j7f,hy540⟩:∃ y_:List Int,y_=(j2x ++ [wrap64 (j5k+(wrap64 (Int.tdiv j5l 8)))]):=⟨_,rfl⟩
    replace H:(spec_DrawTimesOfLines.i.l0 k1 j5y j7f (wrap64 (j3h - 1)) l0 j5z j6a)=some (r1,r2,r3,r4):=rx_ H hy540;have j7g:=ai_ hy540;clear hy540;have H':=ai_ H;clear H
    go_wp2_with (first|((with_reducible refine gc_ 55 rfl ?_);refine gl_ (some 20) Try.func55 #[.pointer (some ⟨g,0,none⟩)] ?_;(with_reducible refine (spec_l1Cur_line.calls k1 g l0 j1h j1i j5c j5d j5e j4q j5w j5x w0 _ (IsS75.to HI1) (below_to1 HB (IsS75.ge HI1.out)) A6.out).mono ?_);rintro e w11 ⟨jbf,rfl,ho0,hi,hb,hk⟩;refine ⟨_,rfl,?_⟩;replace jq:=ai_ (Kd.S_mono (Kd.S_told (Kd.S_oldK (IsS75.apartS (IsS75.to HI1) (sd_to jq) (by decide)) hk) (Kd.R_base ho0)) (fun _ h_=>h_.1));have j4n:=ai_ (Kd.R_lower (Kd.R_new' ho0 (Kd.R_lt (kd_to jo))) (keep_size (w:=w) (g:=g) (row:=none) (keep_to HK)));replace jo:=ai_ (Kd.R_mono (Kd.R_told (Kd.R_oldK (IsS75.apart (IsS75.to HI1) (kd_to jo) (by decide)) hk) (Kd.R_base ho0)) (fun _ h_=>h_.1));replace HK:=ai_ (KeepBut.trans (keep_to HK) hk (.inl rfl));replace HB:=ai_ (hb);replace HI1:=ai_ (hi);clear hb hk hi;(try clear ho0);obtain ⟨Ao13,co13,eo13⟩:=Kd.R_slice j4n.out;subst eo13)|((with_reducible refine gate_builtin (b:=.append) (xs:=#[.tmp 18,.tmp 21]) rfl ?_);at_builtin;refine Kd.S_append k30 w.heap.size rfl (.tmp 18) (.tmp 21) 51 30 (.agg #[(.int .i64 0),(.int .i64 0),(.int .i64 0),(.slice none 0 0)]) 48 rfl Try.underlying51 info30 rfl (by decide) (by omega) u5 j3e (⟨j5c,j5d,j5e,j4q⟩:S30) [.int .i64 j5c,.int .i64 j5d,.int .i64 j5e,.slice Ao13 j4q.length co13] (fun k_=>some k_≠(u6:Value).ownBlock) (fun k_=>some k_=(.slice Ao13 j4q.length co13:Value).ownBlock) rfl rfl ?aP (fun k_ hk_=>((Kd.R_mono (ok':=fun k_=>((fun k_=>some k_≠(u6:Value).ownBlock)) k_∧some k_≠(u5:Value).ownBlock) (Kd.R_apart' (j4n.out) (Kd.S_typed jq.out) (by decide)) (fun k_ hk=>⟨hk.1.2,hk.2⟩))).1 k_ hk_.symm) ?aF ?aO (Below.refl _ _) ?aS ?aL ?_;(case aP=>exact k30_mkM _ _ _ (⟨j5c,j5d,j5e,j4q⟩:S30) (Kd.R_mono (Kd.R_tight rfl (Kd.R_mono (ok':=fun k_=>((fun k_=>some k_≠(u6:Value).ownBlock)) k_∧some k_≠(u5:Value).ownBlock) (Kd.R_apart' (j4n.out) (Kd.S_typed jq.out) (by decide)) (fun k_ hk=>⟨hk.1.2,hk.2⟩))) (fun _ h_=>h_)));(case aF=>exact (fun k_ hk=>Kd.fresh' (Kd.R_lt (kd_to jo)) k_ hk));(case aO=>exact (by (with_reducible repeat (first|apply Kd.S_alloc|apply Kd.S_drewN|apply Kd.S_drew));exact Kd.S_mono jq.out (fun k_ hk=>⟨hk.1,fun e_=>hk.2 e_⟩)));(case aS=>exact (keep_size (w:=w) (g:=g) (row:=none) (keep_to HK)));(case aL=>have:=jao.out;omega);intro jbg w12 ho hb hg hat;rw [← j7b.out] at ho;replace jo:=ai_ (Kd.R_over' (kd_to jo) (Kd.S_typed (sd_to jq)) (by decide) hg);replace HB:=ai_ (below_weaken (below_to1 HB (IsS75.ge HI1.out)) HL.out hb);replace HI1:=ai_ (IsS75.grown (IsS75.to HI1) hg (IsS75.own_neS HI1.out jq.out (by decide)));replace HK:=ai_ (KeepBut.trans (keep_to HK) (KeepBut.of_grown hg g) (Kd.S_base2 jq.out));have j2z:=ai_ (ho);clear jq j4n;clear ho hb hg hat)|((with_reducible refine gc_ 57 rfl ?_);refine gl_ (some 25) Try.func57 #[.pointer (some ⟨g,0,none⟩),.int .i64 2] ?_;(with_reducible refine (spec_l1Cur_pick.calls g l0 j5w j5x 2 j5k j7c j7d w0 _ (IsS75.to HI1) (below_to1 HB (IsS75.ge HI1.out)) A8.out).mono ?_);rintro e w14 ⟨rfl,hi,hb,hk⟩;refine ⟨_,rfl,?_⟩;replace jo:=ai_ (IsS75.rk (IsS75.to HI1) jo hk);replace j2z:=ai_ (Kd.S_mono (Kd.S_keep (IsS75.apartS (IsS75.to HI1) (sd_to j2z) (by decide)) hk (fun _ h=>h.2)) (fun _ h=>h.1));replace HK:=ai_ (KeepBut.trans (keep_to HK) hk (.inl rfl));replace HB:=ai_ (hb);replace HI1:=ai_ (hi);clear hb hk hi)|((with_reducible refine gc_ 57 rfl ?_);refine gl_ (some 27) Try.func57 #[.pointer (some ⟨g,0,none⟩),.int .i64 9] ?_;(with_reducible refine (spec_l1Cur_pick.calls g l0 j7c j7d 9 j5l j5z j6a w0 _ (IsS75.to HI1) (below_to1 HB (IsS75.ge HI1.out)) A9.out).mono ?_);rintro e w15 ⟨rfl,hi,hb,hk⟩;refine ⟨_,rfl,?_⟩;replace jo:=ai_ (IsS75.rk (IsS75.to HI1) jo hk);replace j2z:=ai_ (Kd.S_mono (Kd.S_keep (IsS75.apartS (IsS75.to HI1) (sd_to j2z) (by decide)) hk (fun _ h=>h.2)) (fun _ h=>h.1));replace HK:=ai_ (KeepBut.trans (keep_to HK) hk (.inl rfl));replace HB:=ai_ (hb);replace HI1:=ai_ (hi);clear hb hk hi)|((with_reducible refine gate_builtin (b:=.append) (xs:=#[.tmp 23,.tmp 30]) rfl ?_);at_builtin;refine Kd.R_append Ki_ w.heap.size rfl (.tmp 23) (.tmp 30) 22 3 (.int .i64 0) 8 rfl Try.underlying22 info3 rfl (by decide) (by omega) u6 j2x (wrap64 (j5k+(wrap64 (Int.tdiv j5l 8)))) [.int .i64 (wrap64 (j5k+(wrap64 (Int.tdiv j5l 8))))] (fun _=>True) (fun _=>False) rfl rfl ?aP (fun _ hk=>hk.elim) ?aF ?aO (Below.refl _ _) ?aS ?aL ?_;(case aP=>exact rfl);(case aF=>exact (fun _ _=>trivial));(case aO=>exact (km_ jo (fun _ hk=>trivial)));(case aS=>exact (keep_size (w:=w) (g:=g) (row:=none) (keep_to HK)));(case aL=>have:=j7e.out;omega);intro jbh w16 ho hb hg hat;rw [← j7g.out] at ho;replace j2z:=ai_ (Kd.S_after (ok:=(fun _=>True)) (by (with_reducible repeat (first|apply Kd.S_alloc|apply Kd.S_drewN|apply Kd.S_drew));exact Kd.S_mono j2z.out (fun _ hk=>⟨trivial,hk⟩)) hg hat);replace HB:=ai_ (below_weaken (below_to1 HB (IsS75.ge HI1.out)) HL.out hb);replace HI1:=ai_ (IsS75.grown (IsS75.to HI1) hg (IsS75.own_ne HI1.out jo.out (by decide)));replace HK:=ai_ (KeepBut.trans (keep_to HK) (KeepBut.of_grown hg g) (Kd.R_base2 jo.out));have j7h:=ai_ (ho);clear jo;clear ho hb hg hat))
    go_roundg k1
    case measure=>have:=HK1.out;omega
    case rel=>exact ⟨(j5y),(j7f),(wrap64 (j3h - 1)),(j5z),(j6a),rt_,H',⟨by have:=HK1.out;omega⟩,⟨by (with_reducible repeat (first|apply Kd.S_alloc|apply Kd.S_drewN|apply Kd.S_drew));exact Kd.S_mono j2z.out (fun _ hk=>hk.2)⟩,⟨kd_to j7h⟩,⟨IsS75.tg HI1⟩,⟨keep_to HK⟩,⟨below_to1 HB (IsS75.ge HI1.out)⟩⟩
   ·rw [if_neg c10] at H
    cases H
  rw [if_neg c5] at H;have j7a:=decide_eq_false c5;clear c5;obtain ⟨⟨j3i,j4r,j4s⟩,A17,H⟩:=bs_ H;(try dsimp only at H)
  by_cases c18:j3i=0
  ·rw [if_pos c18] at H
   have j5p:=beq_iff_eq.mpr c18;have j5q:=bne_eq_false_iff_eq.mpr c18;clear c18;simp only [Option.some.injEq,Prod.mk.injEq] at H;obtain ⟨rfl,rfl,rfl,rfl⟩:=H
   go_wp2_with (first|((with_reducible refine gc_ 57 rfl ?_);refine gl_ (some 33) Try.func57 #[.pointer (some ⟨g,0,none⟩),.int .i64 16] ?_;(with_reducible refine (spec_l1Cur_pick.calls g l0 j1h j1i 16 j3i j4r j4s w0 _ (IsS75.to HI1) (below_to1 HB (IsS75.ge HI1.out)) A17.out).mono ?_);rintro e w19 ⟨rfl,hi,hb,hk⟩;refine ⟨_,rfl,?_⟩;replace jq:=ai_ (Kd.S_mono (Kd.S_keep (IsS75.apartS (IsS75.to HI1) (sd_to jq) (by decide)) hk (fun _ h=>h.2)) (fun _ h=>h.1));replace jo:=ai_ (IsS75.rk (IsS75.to HI1) jo hk);replace HK:=ai_ (KeepBut.trans (keep_to HK) hk (.inl rfl));replace HB:=ai_ (hb);replace HI1:=ai_ (hi);clear hb hk hi))
   go_ret2
   exact ⟨_,_,rtE_,by first|exact Kd.S_nil _ _ _ _ _|exact Kd.N_nil _ _ _ _ _|exact Kd.V_nil _ _ _ _ _|exact Kd.Q_nil _ _ _ _ _|exact Kd.R_nil _ _ _ _ _,by first|exact Kd.R_nil _ _ _ _ _|exact Kd.N_nil _ _ _ _ _|exact Kd.V_nil _ _ _ _ _|exact Kd.Q_nil _ _ _ _ _|exact Kd.S_nil _ _ _ _ _,IsS75.tg HI1,below_to1 HB (IsS75.ge HI1.out),keep_to HK⟩
  rw [if_neg c18] at H;have j5p:=beq_eq_false_iff_ne.mpr c18;have j5q:=bne_iff_ne.mpr c18
  by_cases c20:j3i=1
  ·rw [if_pos c20] at H
   have j4k:=beq_iff_eq.mpr c20;have j5r:=bne_eq_false_iff_eq.mpr c20;clear c20
   by_cases c21:j2x.length < 17592186044416
   ·rw [if_pos c21] at H
    have j7i:=ai_ c21;clear c21
    obtain ⟨jap,hy546⟩:∃ y_:List Int,y_=(j2x ++ [0]):=⟨_,rfl⟩
    replace H:(some (j3e,jap,j4r,j4s))=some (r1,r2,r3,r4):=rx_ H hy546;have j7j:=ai_ hy546;clear hy546;simp only [Option.some.injEq,Prod.mk.injEq] at H;obtain ⟨rfl,rfl,rfl,rfl⟩:=H
    go_wp2_with (first|((with_reducible refine gc_ 57 rfl ?_);refine gl_ (some 33) Try.func57 #[.pointer (some ⟨g,0,none⟩),.int .i64 16] ?_;(with_reducible refine (spec_l1Cur_pick.calls g l0 j1h j1i 16 j3i j4r j4s w0 _ (IsS75.to HI1) (below_to1 HB (IsS75.ge HI1.out)) A17.out).mono ?_);rintro e w22 ⟨rfl,hi,hb,hk⟩;refine ⟨_,rfl,?_⟩;replace jq:=ai_ (Kd.S_mono (Kd.S_keep (IsS75.apartS (IsS75.to HI1) (sd_to jq) (by decide)) hk (fun _ h=>h.2)) (fun _ h=>h.1));replace jo:=ai_ (IsS75.rk (IsS75.to HI1) jo hk);replace HK:=ai_ (KeepBut.trans (keep_to HK) hk (.inl rfl));replace HB:=ai_ (hb);replace HI1:=ai_ (hi);clear hb hk hi)|((with_reducible refine gate_builtin (b:=.append) (xs:=#[.tmp 38,.tmp 39]) rfl ?_);at_builtin;refine Kd.R_append Ki_ w.heap.size rfl (.tmp 38) (.tmp 39) 22 3 (.int .i64 0) 8 rfl Try.underlying22 info3 rfl (by decide) (by omega) u6 j2x 0 [.int .i64 0] (fun _=>True) (fun _=>False) rfl rfl ?aP (fun _ hk=>hk.elim) ?aF ?aO (Below.refl _ _) ?aS ?aL ?_;(case aP=>exact rfl);(case aF=>exact (fun _ _=>trivial));(case aO=>exact (kd_to jo));(case aS=>exact (keep_size (w:=w) (g:=g) (row:=none) (keep_to HK)));(case aL=>have:=j7i.out;omega);intro jbi w23 ho hb hg hat;rw [← j7j.out] at ho;replace jq:=ai_ (Kd.S_after (ok:=(fun _=>True)) (by (with_reducible repeat (first|apply Kd.S_alloc|apply Kd.S_drewN|apply Kd.S_drew));exact Kd.S_mono jq.out (fun _ hk=>⟨trivial,hk⟩)) hg hat);replace HB:=ai_ (below_weaken (below_to1 HB (IsS75.ge HI1.out)) HL.out hb);replace HI1:=ai_ (IsS75.grown (IsS75.to HI1) hg (IsS75.own_ne HI1.out jo.out (by decide)));replace HK:=ai_ (KeepBut.trans (keep_to HK) (KeepBut.of_grown hg g) (Kd.R_base2 jo.out));have j7k:=ai_ (ho);clear jo;clear ho hb hg hat))
    go_ret2
    exact ⟨_,_,rtE_,by (with_reducible repeat (first|apply Kd.S_alloc|apply Kd.S_drewN|apply Kd.S_drew));exact Kd.S_mono jq.out (fun _ hk=>hk.2),kd_to j7k,IsS75.tg HI1,below_to1 HB (IsS75.ge HI1.out),keep_to HK⟩
   ·rw [if_neg c21] at H
    cases H
  rw [if_neg c20] at H;have j4k:=beq_eq_false_iff_ne.mpr c20;have j5r:=bne_iff_ne.mpr c20
  by_cases c24:j3i=2
  rotate_left
  ·rw [if_neg c24] at H
   have j5s:=beq_eq_false_iff_ne.mpr c24;have j5t:=bne_iff_ne.mpr c24;simp only [Option.some.injEq,Prod.mk.injEq] at H;obtain ⟨rfl,rfl,rfl,rfl⟩:=H
   go_wp2_with (first|((with_reducible refine gc_ 57 rfl ?_);refine gl_ (some 33) Try.func57 #[.pointer (some ⟨g,0,none⟩),.int .i64 16] ?_;(with_reducible refine (spec_l1Cur_pick.calls g l0 j1h j1i 16 j3i j4r j4s w0 _ (IsS75.to HI1) (below_to1 HB (IsS75.ge HI1.out)) A17.out).mono ?_);rintro e w39 ⟨rfl,hi,hb,hk⟩;refine ⟨_,rfl,?_⟩;replace jq:=ai_ (Kd.S_mono (Kd.S_keep (IsS75.apartS (IsS75.to HI1) (sd_to jq) (by decide)) hk (fun _ h=>h.2)) (fun _ h=>h.1));replace jo:=ai_ (IsS75.rk (IsS75.to HI1) jo hk);replace HK:=ai_ (KeepBut.trans (keep_to HK) hk (.inl rfl));replace HB:=ai_ (hb);replace HI1:=ai_ (hi);clear hb hk hi))
   go_ret2
   exact ⟨_,_,rtE_,sd_to jq,kd_to jo,IsS75.tg HI1,below_to1 HB (IsS75.ge HI1.out),keep_to HK⟩
  rw [if_pos c24] at H;have j5s:=beq_iff_eq.mpr c24;have j5t:=bne_eq_false_iff_eq.mpr c24;clear c24;have H':=ai_ H;clear H
  go_wp2_with (first|((with_reducible refine gc_ 57 rfl ?_);refine gl_ (some 33) Try.func57 #[.pointer (some ⟨g,0,none⟩),.int .i64 16] ?_;(with_reducible refine (spec_l1Cur_pick.calls g l0 j1h j1i 16 j3i j4r j4s w0 _ (IsS75.to HI1) (below_to1 HB (IsS75.ge HI1.out)) A17.out).mono ?_);rintro e w25 ⟨rfl,hi,hb,hk⟩;refine ⟨_,rfl,?_⟩;replace jq:=ai_ (Kd.S_mono (Kd.S_keep (IsS75.apartS (IsS75.to HI1) (sd_to jq) (by decide)) hk (fun _ h=>h.2)) (fun _ h=>h.1));replace jo:=ai_ (IsS75.rk (IsS75.to HI1) jo hk);replace HK:=ai_ (KeepBut.trans (keep_to HK) hk (.inl rfl));replace HB:=ai_ (hb);replace HI1:=ai_ (hi);clear hb hk hi))
  go_loopg [5,6] k1 (fun kq v5 v6 w' => ∃ (j3a:List (S30)) (j3f:List Int) (j2v:Int) (j2w:Int),Aside0 (spec_DrawTimesOfLines.i.l1 kq j3a j3f l0 j2v j2w=some (r1,r2,r3,r4))∧Aside0 (kq≤k1)∧Aside0 (Kd.S k30 30 w' w.heap.size (fun k_=>some k_≠(v6:Value).ownBlock) v5 j3a)∧Aside0 (Kd.R Ki_ 3 w' w.heap.size (fun _=>True) v6 j3f)∧Aside0 (IsS75 w0 w' g l0 j2v j2w)∧Aside0 (KeepBut w w' g none)∧Aside0 (Below w0.heap.size w0 w'))
  case atStart=>exact ⟨(j3e),(j2x),(j4r),(j4s),H',⟨Nat.le_refl _⟩,⟨sd_to jq⟩,⟨kd_to jo⟩,⟨IsS75.tg HI1⟩,⟨keep_to HK⟩,⟨below_to1 HB (IsS75.ge HI1.out)⟩⟩
  clear H'
  try clear c1
  try clear c2
  try clear p2
  try clear c5
  try clear j7a
  try clear p6
  try clear c7
  try clear c10
  try clear c18
  try clear j5p
  try clear j5q
  try clear c20
  try clear j4k
  try clear j5r
  try clear c21
  try clear c24
  try clear j5s
  try clear j5t
  try clear p2
  obtain ⟨j3a,j3f,j2v,j2w,HA,HK2,jq,jo,HI1,HK,HB⟩:=hrel
  cases gk with
  | zero=>exact absurd HA.out (by simp [spec_DrawTimesOfLines.i.l1])
  | succ k2 =>
   have H:=HA.out;clear HA;simp only [spec_DrawTimesOfLines.i.l1] at H;obtain ⟨⟨j6b,j6c,j6d⟩,A26,H⟩:=bs_ H;(try dsimp only at H)
   by_cases c27:(j3a.length:Int) < (wrap64 (5+j6b))
   rotate_left
   ·rw [if_neg c27] at H
    have j7l:=decide_eq_false c27;clear c27;simp only [Option.some.injEq,Prod.mk.injEq] at H;obtain ⟨rfl,rfl,rfl,rfl⟩:=H;obtain ⟨Ao37,co37,eo37⟩:=Kd.S_slice jq.out;subst eo37
    go_wp2_with (first|((with_reducible refine gc_ 57 rfl ?_);refine gl_ (some 46) Try.func57 #[.pointer (some ⟨g,0,none⟩),.int .i64 2] ?_;(with_reducible refine (spec_l1Cur_pick.calls g l0 j2v j2w 2 j6b j6c j6d w0 _ (IsS75.to HI1) (below_to1 HB (IsS75.ge HI1.out)) A26.out).mono ?_);rintro e w38 ⟨rfl,hi,hb,hk⟩;refine ⟨_,rfl,?_⟩;replace jq:=ai_ (Kd.S_mono (Kd.S_keep (IsS75.apartS (IsS75.to HI1) (sd_to jq) (by decide)) hk (fun _ h=>h.2)) (fun _ h=>h.1));replace jo:=ai_ (IsS75.rk (IsS75.to HI1) jo hk);replace HK:=ai_ (KeepBut.trans (keep_to HK) hk (.inl rfl));replace HB:=ai_ (hb);replace HI1:=ai_ (hi);clear hb hk hi))
    go_ret2
    exact ⟨_,_,rtE_,sd_to jq,kd_to jo,IsS75.tg HI1,below_to1 HB (IsS75.ge HI1.out),keep_to HK⟩
   rw [if_pos c27] at H;have j7l:=decide_eq_true c27;clear c27;obtain ⟨⟨j5f,j5g,j5h,j4t,j5m,j5n⟩,A28,H⟩:=bs_ H;(try dsimp only at H)
   by_cases c29:j3a.length < 2932031007402
   ·rw [if_pos c29] at H
    have j7m:=ai_ c29;clear c29
    obtain ⟨j6e,hy560⟩:∃ y_:List (S30),y_=(j3a ++ [(⟨j5f,j5g,j5h,j4t⟩:S30)]):=⟨_,rfl⟩
    replace H:(if j3f.length < 17592186044416 then (spec_DrawTimesOfLines.i.l1 k2 j6e (j3f ++ [0]) l0 j5m j5n) else (none))=some (r1,r2,r3,r4):=rx_ H hy560;have j7n:=ai_ hy560;clear hy560
    by_cases c30:j3f.length < 17592186044416
    ·rw [if_pos c30] at H
     have j7o:=ai_ c30;clear c30
     obtain ⟨j7p,hy563⟩:∃ y_:List Int,y_=(j3f ++ [0]):=⟨_,rfl⟩
     replace H:(spec_DrawTimesOfLines.i.l1 k2 j6e j7p l0 j5m j5n)=some (r1,r2,r3,r4):=rx_ H hy563;have j7q:=ai_ hy563;clear hy563;have H':=ai_ H;clear H;obtain ⟨Ao31,co31,eo31⟩:=Kd.S_slice jq.out;subst eo31
     go_wp2_with (first|((with_reducible refine gc_ 57 rfl ?_);refine gl_ (some 46) Try.func57 #[.pointer (some ⟨g,0,none⟩),.int .i64 2] ?_;(with_reducible refine (spec_l1Cur_pick.calls g l0 j2v j2w 2 j6b j6c j6d w0 _ (IsS75.to HI1) (below_to1 HB (IsS75.ge HI1.out)) A26.out).mono ?_);rintro e w32 ⟨rfl,hi,hb,hk⟩;refine ⟨_,rfl,?_⟩;replace jq:=ai_ (Kd.S_mono (Kd.S_keep (IsS75.apartS (IsS75.to HI1) (sd_to jq) (by decide)) hk (fun _ h=>h.2)) (fun _ h=>h.1));replace jo:=ai_ (IsS75.rk (IsS75.to HI1) jo hk);replace HK:=ai_ (KeepBut.trans (keep_to HK) hk (.inl rfl));replace HB:=ai_ (hb);replace HI1:=ai_ (hi);clear hb hk hi)|((with_reducible refine gc_ 64 rfl ?_);refine gl_ (some 51) Try.func64 #[.pointer (some ⟨g,0,none⟩)] ?_;(with_reducible refine (spec_l1Cur_sureLine.calls k2 g l0 j6c j6d j5f j5g j5h j4t j5m j5n w0 _ (IsS75.to HI1) (below_to1 HB (IsS75.ge HI1.out)) A28.out).mono ?_);rintro e w33 ⟨jbj,rfl,ho0,hi,hb,hk⟩;refine ⟨_,rfl,?_⟩;replace jq:=ai_ (Kd.S_mono (Kd.S_told (Kd.S_oldK (IsS75.apartS (IsS75.to HI1) (sd_to jq) (by decide)) hk) (Kd.R_base ho0)) (fun _ h_=>h_.1));have j4o:=ai_ (Kd.R_lower (Kd.R_new' ho0 (Kd.R_lt (kd_to jo))) (keep_size (w:=w) (g:=g) (row:=none) (keep_to HK)));replace jo:=ai_ (Kd.R_mono (Kd.R_told (Kd.R_oldK (IsS75.apart (IsS75.to HI1) (kd_to jo) (by decide)) hk) (Kd.R_base ho0)) (fun _ h_=>h_.1));replace HK:=ai_ (KeepBut.trans (keep_to HK) hk (.inl rfl));replace HB:=ai_ (hb);replace HI1:=ai_ (hi);clear hb hk hi;(try clear ho0);obtain ⟨Ao35,co35,eo35⟩:=Kd.R_slice j4o.out;subst eo35)|((with_reducible refine gate_builtin (b:=.append) (xs:=#[.tmp 49,.tmp 52]) rfl ?_);at_builtin;refine Kd.S_append k30 w.heap.size rfl (.tmp 49) (.tmp 52) 51 30 (.agg #[(.int .i64 0),(.int .i64 0),(.int .i64 0),(.slice none 0 0)]) 48 rfl Try.underlying51 info30 rfl (by decide) (by omega) (.slice Ao31 j3a.length co31) j3a (⟨j5f,j5g,j5h,j4t⟩:S30) [.int .i64 j5f,.int .i64 j5g,.int .i64 j5h,.slice Ao35 j4t.length co35] (fun k_=>some k_≠(u6:Value).ownBlock) (fun k_=>some k_=(.slice Ao35 j4t.length co35:Value).ownBlock) rfl rfl ?aP (fun k_ hk_=>((Kd.R_mono (ok':=fun k_=>((fun k_=>some k_≠(u6:Value).ownBlock)) k_∧nb_ k_ Ao31 j3a co31) (Kd.R_apart' (j4o.out) (Kd.S_typed jq.out) (by decide)) (fun k_ hk=>⟨hk.1.2,hk.2⟩))).1 k_ hk_.symm) ?aF ?aO (Below.refl _ _) ?aS ?aL ?_;(case aP=>exact k30_mkM _ _ _ (⟨j5f,j5g,j5h,j4t⟩:S30) (Kd.R_mono (Kd.R_tight rfl (Kd.R_mono (ok':=fun k_=>((fun k_=>some k_≠(u6:Value).ownBlock)) k_∧nb_ k_ Ao31 j3a co31) (Kd.R_apart' (j4o.out) (Kd.S_typed jq.out) (by decide)) (fun k_ hk=>⟨hk.1.2,hk.2⟩))) (fun _ h_=>h_)));(case aF=>exact (fun k_ hk=>Kd.fresh' (Kd.R_lt (kd_to jo)) k_ hk));(case aO=>exact (by (with_reducible repeat (first|apply Kd.S_alloc|apply Kd.S_drewN|apply Kd.S_drew));exact Kd.S_mono jq.out (fun k_ hk=>⟨hk.1,fun e_=>hk.2 e_⟩)));(case aS=>exact (keep_size (w:=w) (g:=g) (row:=none) (keep_to HK)));(case aL=>have:=j7m.out;omega);intro jbk w34 ho hb hg hat;rw [← j7n.out] at ho;replace jo:=ai_ (Kd.R_over' (kd_to jo) (Kd.S_typed (sd_to jq)) (by decide) hg);replace HB:=ai_ (below_weaken (below_to1 HB (IsS75.ge HI1.out)) HL.out hb);replace HI1:=ai_ (IsS75.grown (IsS75.to HI1) hg (IsS75.own_neS HI1.out jq.out (by decide)));replace HK:=ai_ (KeepBut.trans (keep_to HK) (KeepBut.of_grown hg g) (Kd.S_base2 jq.out));have j5i:=ai_ (ho);clear jq j4o;clear ho hb hg hat)|((with_reducible refine gate_builtin (b:=.append) (xs:=#[.tmp 54,.tmp 55]) rfl ?_);at_builtin;refine Kd.R_append Ki_ w.heap.size rfl (.tmp 54) (.tmp 55) 22 3 (.int .i64 0) 8 rfl Try.underlying22 info3 rfl (by decide) (by omega) u6 j3f 0 [.int .i64 0] (fun _=>True) (fun _=>False) rfl rfl ?aP (fun _ hk=>hk.elim) ?aF ?aO (Below.refl _ _) ?aS ?aL ?_;(case aP=>exact rfl);(case aF=>exact (fun _ _=>trivial));(case aO=>exact (km_ jo (fun _ hk=>trivial)));(case aS=>exact (keep_size (w:=w) (g:=g) (row:=none) (keep_to HK)));(case aL=>have:=j7o.out;omega);intro jbl w36 ho hb hg hat;rw [← j7q.out] at ho;replace j5i:=ai_ (Kd.S_after (ok:=(fun _=>True)) (by (with_reducible repeat (first|apply Kd.S_alloc|apply Kd.S_drewN|apply Kd.S_drew));exact Kd.S_mono j5i.out (fun _ hk=>⟨trivial,hk⟩)) hg hat);replace HB:=ai_ (below_weaken (below_to1 HB (IsS75.ge HI1.out)) HL.out hb);replace HI1:=ai_ (IsS75.grown (IsS75.to HI1) hg (IsS75.own_ne HI1.out jo.out (by decide)));replace HK:=ai_ (KeepBut.trans (keep_to HK) (KeepBut.of_grown hg g) (Kd.R_base2 jo.out));have j7r:=ai_ (ho);clear jo;clear ho hb hg hat))
     go_roundg k2
     case measure=>have:=HK1.out;have:=HK2.out;omega
     case rel=>exact ⟨(j6e),(j7p),(j5m),(j5n),H',⟨by have:=HK1.out;have:=HK2.out;omega⟩,⟨by (with_reducible repeat (first|apply Kd.S_alloc|apply Kd.S_drewN|apply Kd.S_drew));exact Kd.S_mono j5i.out (fun _ hk=>hk.2)⟩,⟨kd_to j7r⟩,⟨IsS75.tg HI1⟩,⟨keep_to HK⟩,⟨below_to1 HB (IsS75.ge HI1.out)⟩⟩
    ·rw [if_neg c30] at H
     cases H
   ·rw [if_neg c29] at H
    cases H
end Go.Proofs.Ythdnodmidbcgpaa.QE
