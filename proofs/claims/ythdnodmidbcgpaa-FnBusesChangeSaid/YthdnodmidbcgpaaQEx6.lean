import Derived.Test.YthdnodmidbcgpaaQEx4
namespace Go.Proofs.Ythdnodmidbcgpaa.QE
open Go.Proofs.Ythdnodmidbcgpaa.X Go.RowKit Go.Proofs.YthdnodmidbcgpaaW.PrintWords Go.Proofs.YthdnodmidbcgpaaW.PrintLast Go.Proofs.YthdnodmidbcgpaaW.PrintMore
attribute [local go_sem] max2_int min2_int max_two min_two max_three min_three max_four min_four
set_option linter.unusedVariables false
set_option linter.unusedSimpArgs false
mutual
def impl_BestChange.j0:Nat→Int→Int→List (List Int)→Int→Bool→Int→Int→Int→List Int→Int→Int→Int→List Int→Option (List Int × Int × Bool)
 | 0,_,_,_,_,_,_,_,_,_,_,_,_,_=>none
 | k+1,x1,x3,x4,x5,x46,j1u,j1v,j1w,j1x,j1y,j1z,j2a,j2b=>if x46=true then (some (([]:List Int),0,false)) else (impl_BestChange.l0 k x1 x3 x4 x5 x4 (x4.length:Int) 0 j1u j1v j1w j1x j1y j1z j2a j2b)
def impl_BestChange.l0:Nat→Int→Int→List (List Int)→Int→List (List Int)→Int→Int→Int→Int→Int→List Int→Int→Int→Int→List Int→Option (List Int × Int × Bool)
 | 0,_,_,_,_,_,_,_,_,_,_,_,_,_,_,_=>none
 | k+1,x1,x3,x4,x5,x47,x48,x49,j1u,j1v,j1w,j1x,j1y,j1z,j2a,j2b=>if x49 < x48 then (if 0≤x49 then (if x49 < (x47.length:Int) then (if ((rd_L1 x47 x49).length:Int)=3 then (if 0 < ((rd_L1 x47 x49).length:Int) then ((impl_hasStops.f k j1u j1v j1w j1x (([rd (rd_L1 x47 x49) 0]:List Int))).bind fun j7a=>(if j7a=true then (if 1 < ((rd_L1 x47 x49).length:Int) then ((impl_hasStops.f k j1y j1z j2a j2b (([rd (rd_L1 x47 x49) 1]:List Int))).bind fun j4h=>(if j4h=true then (if x1≥(rd (rd_L1 x47 x49) 0) then (some (([]:List Int),0,false)) else (if (rd (rd_L1 x47 x49) 1)≥x3 then (some (([]:List Int),0,false)) else (if 2 < ((rd_L1 x47 x49).length:Int) then ((impl_isWalk.f (rd (rd_L1 x47 x49) 2)).bind fun j4i=>(if j4i=true then (impl_BestChange.l0 k x1 x3 x4 x5 x47 x48 (wrap64 (x49+1)) j1u j1v j1w j1x j1y j1z j2a j2b) else (some (([]:List Int),0,false)))) else (none)))) else (some (([]:List Int),0,false)))) else (none)) else (some (([]:List Int),0,false)))) else (none)) else (some (([]:List Int),0,false))) else (none)) else (none)) else (impl_BestChange.l1 k x1 x3 x5 ([]:List Int) 0 x4 (x4.length:Int) 0 j1u j1v j1w j1x j1y j1z j2a j2b)
def impl_BestChange.l1:Nat→Int→Int→Int→List Int→Int→List (List Int)→Int→Int→Int→Int→Int→List Int→Int→Int→Int→List Int→Option (List Int × Int × Bool)
 | 0,_,_,_,_,_,_,_,_,_,_,_,_,_,_,_,_=>none
 | k+1,x1,x3,x5,x17,x18,x96,x97,x98,j1u,j1v,j1w,j1x,j1y,j1z,j2a,j2b=>if x98 < x97 then (if 0≤x98 then (if x98 < (x96.length:Int) then (if 0 < ((rd_L1 x96 x98).length:Int) then (if 1 < ((rd_L1 x96 x98).length:Int) then (if 2 < ((rd_L1 x96 x98).length:Int) then ((impl_changeAt.f j1u j1v j1w j1x x1 (rd (rd_L1 x96 x98) 0) j1y j1z j2a j2b (rd (rd_L1 x96 x98) 1) x3 (rd (rd_L1 x96 x98) 2) x5).bind fun bt231=>(if bt231.2.2=true then (if (x17.length:Int)=0 then (impl_BestChange.l1 k x1 x3 x5 (rd_L1 x96 x98) bt231.2.1 x96 x97 (wrap64 (x98+1)) j1u j1v j1w j1x j1y j1z j2a j2b) else (if bt231.2.1 < x18 then (impl_BestChange.l1 k x1 x3 x5 (rd_L1 x96 x98) bt231.2.1 x96 x97 (wrap64 (x98+1)) j1u j1v j1w j1x j1y j1z j2a j2b) else (impl_BestChange.l1 k x1 x3 x5 x17 x18 x96 x97 (wrap64 (x98+1)) j1u j1v j1w j1x j1y j1z j2a j2b))) else (impl_BestChange.l1 k x1 x3 x5 x17 x18 x96 x97 (wrap64 (x98+1)) j1u j1v j1w j1x j1y j1z j2a j2b))) else (none)) else (none)) else (none)) else (none)) else (none)) else ((slices_Clone_int_int.f x17).bind fun j7k=>(some (j7k,x18,!decide ((x17.length:Int)=0))))
end
def impl_BestChange.f (k:Nat) (jt:Int) (ju:Int) (jv:Int) (js:List Int) (a1:Int) (jz:Int) (j1a:Int) (j1b:Int) (jx:List Int) (a3:Int) (l4:List (List Int)) (a5:Int):Option (List Int × Int × Bool):=(impl_hasStops.f k jt ju jv js (([a1]:List Int))).bind fun j7b=>(if j7b=true then ((impl_hasStops.f k jz j1a j1b jx (([a3]:List Int))).bind fun j4j=>(if j4j=true then ((impl_within.f (l4.length:Int) 1 20).bind fun j4k=>(if j4k=true then ((impl_isMinute.f a5).bind fun j4d=>(impl_BestChange.j0 k a1 a3 l4 a5 (!j4d) jt ju jv js jz j1a j1b jx)) else (impl_BestChange.j0 k a1 a3 l4 a5 true jt ju jv js jz j1a j1b jx))) else (impl_BestChange.j0 k a1 a3 l4 a5 true jt ju jv js jz j1a j1b jx))) else (impl_BestChange.j0 k a1 a3 l4 a5 true jt ju jv js jz j1a j1b jx))
def impl_BestChange.T6:Bool × List (List Nat × List Nat):=(true,[([],[]),([0],[0]),([1],[1]),([2],[2]),([3],[3]),([3],[3]),([5,3],[3,5]),([6,3],[3,6]),([7,3],[3,7]),([4,8,3,3],[3,4,8]),([9,3],[3,9]),([3,10],[3,10]),([11,9],[11]),([12],[12]),([12],[12]),([14,12],[12,14]),([15,12],[12,15]),([16,12],[12,16]),([13,17,12,12],[12,13,17]),([18,12],[12,18]),([12,19],[12,19]),([20,18],[20]),([21],[21]),([21],[21]),([23,21],[21,23]),([24,21],[21,24]),([22,25,21],[21,22,25]),([21,26],[21,26]),([27,21],[27]),([28],[28]),([29,28],[28,29]),([30,28],[28,30]),([28],[28]),([31,32,28],[28,31,32]),([28,33],[28,33]),([34,28],[34]),([35],[35]),([36,35],[35,36]),([37,35],[35,37]),([38,35,35],[35,38]),([39,35],[35,39]),([35,40],[35,40])])
def impl_BestChange.B6:List Nat:=[0,1,3,7,15,15,47,111,239,511,1023,2047,4095,8191,8191,24575,57343,122879,262143,524287,1048575,2097151,4194303,4194303,12582911,29360127,67108863,134217727,268435455,536870911,1073741823,2147483647,536870911,8589934591,17179869183,34359738367,68719476735,137438953471,274877906943,549755813887,1099511627775,2199023255551]
theorem impl_BestChange.tab6:rtab .any (opsOf Try.f10 6)=impl_BestChange.T6:=by kernel_rfl
theorem impl_BestChange.bits6:waitsOk impl_BestChange.T6.2 impl_BestChange.B6=true:=by kernel_rfl
def impl_BestChange.T14:Bool × List (List Nat × List Nat):=(true,[([],[]),([],[]),([],[]),([2],[2]),([3],[3]),([],[]),([],[]),([6],[6]),([7],[7]),([],[]),([],[]),([10],[10]),([11],[11]),([],[]),([0,1,4,5,8,9,12,13],[0,1,4,5,8,9,12,13]),([14],[14]),([15],[15]),([15],[15]),([15],[15]),([16,14,0,1,2,3,4,5,6,7,8,9,10,11,12,13,14,15,16],[16]),([17,19,0,1,2,3,4,5,6,7,8,9,10,11,12,13,14,15,16,17,19],[17]),([18,20,0,1,2,3,4,5,6,7,8,9,10,11,12,13,14,15,16,17,18,19,20],[18])])
def impl_BestChange.B14:List Nat:=[0,0,0,4,12,0,0,64,192,0,0,1024,3072,0,16383,32767,65535,65535,65535,131071,786431,2097151]
theorem impl_BestChange.tab14:rtab .any (opsOf Try.f10 14)=impl_BestChange.T14:=by kernel_rfl
theorem impl_BestChange.bits14:waitsOk impl_BestChange.T14.2 impl_BestChange.B14=true:=by kernel_rfl
def impl_BestChange.nz (v:Value) (l:List Int):Prop := ∀ A m c,v=.slice A m c→A.isNone=((l.length:Int) == 0)
theorem impl_BestChange.nz_nil:impl_BestChange.nz (.slice none 0 0) []:=by
 intro A m c h
 injection h with h _ _
 subst h
 rfl
theorem impl_BestChange.nz_row {w:World} {A:Option Addr} {m c:Nat} {l:List Int} (h:Kd.C Ki_ w A l.length l) (h0:0 < (l.length:Int)):impl_BestChange.nz (.slice A m c) l:=by
 intro A' m' c' e
 injection e with e _ _
 subst e;obtain ⟨_,_,h3⟩:=h;obtain ⟨_,h4,_⟩:=h3 (by omega);subst h4;exact (beq_eq_false_iff_ne.mpr (by omega)).symm
set_option maxHeartbeats 8000000 in
set_option maxRecDepth 100000 in
theorem impl_BestChange.calls (k:Nat) (jt:Int) (ju:Int) (jv:Int) (j1s:Option Addr) (j1t:Nat) (js:List Int) (a1:Int) (jz:Int) (j1a:Int) (j1b:Int) (j2g:Option Addr) (j2h:Nat) (jx:List Int) (a3:Int) (P4_:Nat→Prop) (A4:Option Addr) (c4:Nat) (l4:List (List Int)) (a5:Int) (r1:List Int) (r2:Int) (r3:Bool) (w:World) (hr0_3:Kd.C Ki_ w j1s js.length js) (hc0_3:js.length≤j1t) (hr2_3:Kd.C Ki_ w j2g jx.length jx) (hc2_3:jx.length≤j2h) (hs4:Kd.V (Kd.slice 3 Ki_) 22 w w.heap.size (fun k_=>P4_ k_) (.slice A4 l4.length c4) l4) (h:impl_BestChange.f k jt ju jv js a1 jz j1a j1b jx a3 l4 a5=some (r1,r2,r3)) :
  Calls Try.prog 10 #[ag_ jt ju jv j1s js j1t,.int .i64 a1,ag_ jz j1a j1b j2g jx j2h,.int .i64 a3,.slice A4 l4.length c4,.int .i64 a5] w fun e w' => ∃ Ab:Value,e=.returned (.tuple #[Ab,.int .i64 r2,.bool r3])∧Kd.R Ki_ 3 w' w.heap.size (fun k_=>(w.heap.size≤k_)) Ab r1∧Below w.heap.size w w':=by
 have qe_:∀ (w:World) (a:Option Addr) (n c n' c':Nat),(binOp .eql 22 (.slice a n c) (.slice none n' c')).run Try.prog w=.ok (.bool a.isNone) w:=fun w a n c n' c'=>Lib.run_eql_slice_nil w _ _ a n c n' c' Try.underlying22
 have qn_:∀ (w:World) (a:Option Addr) (n c n' c':Nat),(binOp .neq 22 (.slice a n c) (.slice none n' c')).run Try.prog w=.ok (.bool (!a.isNone)) w:=fun w a n c n' c'=>by simp only [binOp];simp [Op.equal,Op.maxDepth,Lib.run_equalIn_slice_nil w 9999 _ _ a n c n' c' Try.underlying22]
 have hu30:=Try.underlying30;have j2l:=ai_ hr0_3;have j2m:=ai_ hc0_3;clear hr0_3 hc0_3;have j2r:=ai_ hr2_3;have j2s:=ai_ hc2_3;clear hr2_3 hc2_3;have HO4:=ai_ (show Kd.V (Kd.slice 3 Ki_) 22 w w.heap.size (fun k_=>(P4_ k_∨w.heap.size≤k_)) (.slice A4 l4.length c4) l4 from Kd.V_mono hs4 (fun k_ hk => .inl hk));have HB:=ai_ (Below.refl w.heap.size w);have H:=h
 unfold impl_BestChange.f at H
 clear h;have HC7:=ai_ H;clear H;go_enter Try.func10,Try.ntmps10
 go_upto_region 1 with (first|((with_reducible refine gd_ 6 rfl ?_);(try (refine gate_guard (by rfl) ?_;dsimp only));refine bxe_ #[.int .i64 jt,.int .i64 ju,.int .i64 jv,.slice j1s js.length j1t] 30 ?_;intro jo hg w8 hbox hb;replace HO4:=ai_ (Kd.V_below (Kd.V_elderB (vd_to HO4) jo (Nat.le_of_eq hg.symm)) hb);have ja:=ai_ (hbox);have j8d:=ai_ (gb_ hg (below_size (below_to HB)));have jf:=ai_ (gb_ hg (below_size (below_to HB)));replace HB:=ai_ (below_step (below_to HB) hb);clear hb hbox hg)|((with_reducible refine gd_ 8 rfl ?_);(try (refine gate_guard (by rfl) ?_;dsimp only));refine bxe_ #[.int .i64 jz,.int .i64 j1a,.int .i64 j1b,.slice j2g jx.length j2h] 30 ?_;intro jr hg w9 hbox hb;replace HO4:=ai_ (Kd.V_below (Kd.V_elderB (vd_to HO4) jr (Nat.le_of_eq hg.symm)) hb);have jb:=ai_ (hbox);have j8e:=ai_ (gb_ hg (below_size (below_to1 HB jf.out)));have jg:=ai_ (gb_ hg (below_size (below_to1 HB jf.out)));replace HB:=ai_ (below_step (below_to1 HB jf.out) hb);have j2n:=ai_ (ne_ hg (blk_lt (blk_to ja)));replace ja:=bb_ ja hb;have j2y:=ai_ j2n.out.symm;clear hb hbox hg))
 (try simp only [Act.put,List.setIfInBounds_toArray,List.set_cons_zero,List.set_cons_succ])
 go_cut [46] (fun v46 wc => ∃ (kq:Nat) (j4r:Bool),v46=.bool j4r∧Aside0 (impl_BestChange.j0 kq a1 a3 l4 a5 j4r jt ju jv js jz j1a j1b jx=some (r1,r2,r3))∧Aside0 (kq≤k)∧Aside0 (Kd.V (Kd.slice 3 Ki_) 22 wc w.heap.size (fun k_=>(P4_ k_∨w.heap.size≤k_)∧k_≠jo∧k_≠jr) (.slice A4 l4.length c4) l4)∧B4_ wc jo jt ju jv j1s js j1t 30∧B4_ wc jr jz j1a j1b j2g jx j2h 30∧Aside0 (Below w.heap.size w wc))
 case first =>
  have H:=HC7.out;clear HC7
  obtain ⟨j3y,hy202⟩:∃ y_:List Int,y_=(([a1]:List Int)):=⟨_,rfl⟩
  replace H:((impl_hasStops.f k jt ju jv js j3y).bind fun j7b=>(if j7b=true then ((impl_hasStops.f k jz j1a j1b jx (([a3]:List Int))).bind fun j4j=>(if j4j=true then ((impl_within.f (l4.length:Int) 1 20).bind fun j4k=>(if j4k=true then ((impl_isMinute.f a5).bind fun j4d=>(impl_BestChange.j0 k a1 a3 l4 a5 (!j4d) jt ju jv js jz j1a j1b jx)) else (impl_BestChange.j0 k a1 a3 l4 a5 true jt ju jv js jz j1a j1b jx))) else (impl_BestChange.j0 k a1 a3 l4 a5 true jt ju jv js jz j1a j1b jx))) else (impl_BestChange.j0 k a1 a3 l4 a5 true jt ju jv js jz j1a j1b jx)))=some (r1,r2,r3):=rx_ H hy202;have j3m:=ai_ hy202;clear hy202;obtain ⟨j7b,A10,H⟩:=bs_ H;(try dsimp only at H)
  by_cases c11:j7b=true
  rotate_left
  ·replace c11:=Bool.eq_false_iff.mpr c11
   subst c11;rw [if_neg ft_] at H;have H':=ai_ H;clear H;have j8f:=j2n.out;have j8g:=j2y.out;obtain ⟨j4s,j4t,j4u,j4v,j4w,j4x,j4y,j4z⟩:=blk4_ ja
   go_wp2_with (first|((with_reducible refine gd_ 26 rfl ?_);(try (refine gate_guard (by rfl) ?_;dsimp only));refine lit_ 3 26 [a1] ?_;intro j7l w52 j6w hb hg_ hnew_;clear hg_ hnew_;(first|rw [← j3m.out] at j6w|(simp only [Int.reduceToNat] at j6w;rw [← j3m.out] at j6w));replace HO4:=ai_ (Kd.V_elder' (vd_to HO4) (Kd.R_base j6w) hb);have j1c:=ai_ (Kd.R_lower (Kd.R_newM (M:=fun k_=>(w.heap.size≤k_)) j6w (below_size (below_to2 HB jf.out jg.out)) (fun k_ h_=>h_)) (below_size (below_to2 HB jf.out jg.out)));replace ja:=bb_ ja hb;replace jb:=bb_ jb hb;replace HB:=ai_ (below_step (below_to2 HB jf.out jg.out) hb);clear hb j6w;obtain ⟨Ao54,co54,eo54⟩:=Kd.R_slice j1c.out;subst eo54)|((with_reducible refine gc_ 49 rfl ?_);refine gl_ (some 27) Try.func49 #[ag_ jt ju jv j1s js j1t,.slice Ao54 j3y.length co54] ?_;(with_reducible refine (impl_hasStops.calls k jt ju jv _ _ js _ _ j3y false _ (cb_ j2l HB) j2m.out ?side3 ?side4 A10.out).mono ?_);(case side3=>exact cR_ j1c);(case side4=>exact (Kd.R_reads' j1c.out).2.1);rintro e w55 ⟨rfl,hb⟩;refine ⟨_,rfl,?_⟩;replace HO4:=ai_ (Kd.V_below (vd_to HO4) hb);replace j1c:=rb_ j1c hb;replace ja:=bb_ ja hb;replace jb:=bb_ jb hb;replace HB:=ai_ (below_step (below_to2 HB jf.out jg.out) hb);clear hb))
   go_meet
   case rel=>exact ⟨_,(true),rt_,H',⟨by first|omega|exact Nat.le_refl _⟩,⟨by (with_reducible repeat (first|apply Kd.V_alloc|apply Kd.V_drewN|apply Kd.V_drew));exact Kd.V_mono HO4.out (fun _ hk=>⟨hk.1.1.1,⟨hk.1.1.2,hk.1.2⟩⟩)⟩,⟨blk_to ja⟩,⟨blk_to jb⟩,⟨below_to2 HB jf.out jg.out⟩⟩
  subst c11;rw [if_pos rfl] at H
  obtain ⟨j7e,hy206⟩:∃ y_:List Int,y_=(([a3]:List Int)):=⟨_,rfl⟩
  replace H:((impl_hasStops.f k jz j1a j1b jx j7e).bind fun j4j=>(if j4j=true then ((impl_within.f (l4.length:Int) 1 20).bind fun j4k=>(if j4k=true then ((impl_isMinute.f a5).bind fun j4d=>(impl_BestChange.j0 k a1 a3 l4 a5 (!j4d) jt ju jv js jz j1a j1b jx)) else (impl_BestChange.j0 k a1 a3 l4 a5 true jt ju jv js jz j1a j1b jx))) else (impl_BestChange.j0 k a1 a3 l4 a5 true jt ju jv js jz j1a j1b jx)))=some (r1,r2,r3):=rx_ H hy206;have j3v:=ai_ hy206;clear hy206;obtain ⟨j4j,A12,H⟩:=bs_ H;(try dsimp only at H)
  by_cases c13:j4j=true
  rotate_left
  ·replace c13:=Bool.eq_false_iff.mpr c13
   subst c13;rw [if_neg ft_] at H;have H':=ai_ H;clear H;have j8h:=j2n.out;have j8i:=j2y.out;obtain ⟨j5a,j5b,j5c,j5d,j5e,j5f,j5g,j5h⟩:=blk4_ ja
   go_wp2_with (first|((with_reducible refine gd_ 26 rfl ?_);(try (refine gate_guard (by rfl) ?_;dsimp only));refine lit_ 3 26 [a1] ?_;intro j7l w41 j6x hb hg_ hnew_;clear hg_ hnew_;(first|rw [← j3m.out] at j6x|(simp only [Int.reduceToNat] at j6x;rw [← j3m.out] at j6x));replace HO4:=ai_ (Kd.V_elder' (vd_to HO4) (Kd.R_base j6x) hb);have j1c:=ai_ (Kd.R_lower (Kd.R_newM (M:=fun k_=>(w.heap.size≤k_)) j6x (below_size (below_to2 HB jf.out jg.out)) (fun k_ h_=>h_)) (below_size (below_to2 HB jf.out jg.out)));replace ja:=bb_ ja hb;replace jb:=bb_ jb hb;replace HB:=ai_ (below_step (below_to2 HB jf.out jg.out) hb);clear hb j6x;obtain ⟨Ao43,co43,eo43⟩:=Kd.R_slice j1c.out;subst eo43)|((with_reducible refine gc_ 49 rfl ?_);refine gl_ (some 27) Try.func49 #[ag_ jt ju jv j1s js j1t,.slice Ao43 j3y.length co43] ?_;(with_reducible refine (impl_hasStops.calls k jt ju jv _ _ js _ _ j3y true _ (cb_ j2l HB) j2m.out ?side3 ?side4 A10.out).mono ?_);(case side3=>exact cR_ j1c);(case side4=>exact (Kd.R_reads' j1c.out).2.1);rintro e w44 ⟨rfl,hb⟩;refine ⟨_,rfl,?_⟩;replace HO4:=ai_ (Kd.V_below (vd_to HO4) hb);replace j1c:=rb_ j1c hb;replace ja:=bb_ ja hb;replace jb:=bb_ jb hb;replace HB:=ai_ (below_step (below_to2 HB jf.out jg.out) hb);clear hb;obtain ⟨j5i,j5j,j5k,j5l,j5m,j5n,j5o,j5p⟩:=blk4_ jb)|((with_reducible refine gd_ 32 rfl ?_);(try (refine gate_guard (by rfl) ?_;dsimp only));refine lit_ 3 32 [a3] ?_;intro j7p w46 j4l hb hg_ hnew_;clear hg_ hnew_;(first|rw [← j3v.out] at j4l|(simp only [Int.reduceToNat] at j4l;rw [← j3v.out] at j4l));replace HO4:=ai_ (Kd.V_elder' (vd_to HO4) (Kd.R_base j4l) hb);have j2d:=ai_ (Kd.R_lower (Kd.R_new' (Kd.R_newM (M:=fun k_=>(w.heap.size≤k_)) j4l (below_size (below_to2 HB jf.out jg.out)) (fun k_ h_=>h_)) (Kd.R_lt (kd_to j1c))) (below_size (below_to2 HB jf.out jg.out)));replace j1c:=ai_ (Kd.R_elder' (kd_to j1c) (Kd.R_base j4l) hb);replace ja:=bb_ ja hb;replace jb:=bb_ jb hb;replace HB:=ai_ (below_step (below_to2 HB jf.out jg.out) hb);clear hb j4l;obtain ⟨Ao48,co48,eo48⟩:=Kd.R_slice j2d.out;subst eo48)|(go_at_call 49;(with_reducible refine (impl_hasStops.calls k jz j1a j1b _ _ jx _ _ j7e false _ (cb_ j2r HB) j2s.out ?side3 ?side4 A12.out).mono ?_);(case side3=>exact cR_ j2d);(case side4=>exact (Kd.R_reads' j2d.out).2.1);rintro e w49 ⟨rfl,hb⟩;replace HO4:=ai_ (Kd.V_below (vd_to HO4) hb);replace j1c:=rb_ j1c hb;replace j2d:=rb_ j2d hb;replace ja:=bb_ ja hb;replace jb:=bb_ jb hb;replace HB:=ai_ (below_step (below_to2 HB jf.out jg.out) hb);clear hb))
   go_meet
   case rel=>exact ⟨_,(true),rt_,H',⟨by first|omega|exact Nat.le_refl _⟩,⟨by (with_reducible repeat (first|apply Kd.V_alloc|apply Kd.V_drewN|apply Kd.V_drew));exact Kd.V_mono HO4.out (fun _ hk=>⟨hk.1.1.1.1,⟨hk.1.1.1.2,hk.1.1.2⟩⟩)⟩,⟨blk_to ja⟩,⟨blk_to jb⟩,⟨below_to2 HB jf.out jg.out⟩⟩
  subst c13;rw [if_pos rfl] at H;obtain ⟨j4k,A14,H⟩:=bs_ H;(try dsimp only at H)
  by_cases c15:j4k=true
  rotate_left
  ·replace c15:=Bool.eq_false_iff.mpr c15
   subst c15;rw [if_neg ft_] at H;have H':=ai_ H;clear H;have j8j:=j2n.out;have j8k:=j2y.out;obtain ⟨j5q,j5r,j5s,j5t,j5u,j5v,j5w,j5x⟩:=blk4_ ja
   go_wp2_with (first|((with_reducible refine gd_ 26 rfl ?_);(try (refine gate_guard (by rfl) ?_;dsimp only));refine lit_ 3 26 [a1] ?_;intro j7l w30 j6y hb hg_ hnew_;clear hg_ hnew_;(first|rw [← j3m.out] at j6y|(simp only [Int.reduceToNat] at j6y;rw [← j3m.out] at j6y));replace HO4:=ai_ (Kd.V_elder' (vd_to HO4) (Kd.R_base j6y) hb);have j1c:=ai_ (Kd.R_lower (Kd.R_newM (M:=fun k_=>(w.heap.size≤k_)) j6y (below_size (below_to2 HB jf.out jg.out)) (fun k_ h_=>h_)) (below_size (below_to2 HB jf.out jg.out)));replace ja:=bb_ ja hb;replace jb:=bb_ jb hb;replace HB:=ai_ (below_step (below_to2 HB jf.out jg.out) hb);clear hb j6y;obtain ⟨Ao32,co32,eo32⟩:=Kd.R_slice j1c.out;subst eo32)|((with_reducible refine gc_ 49 rfl ?_);refine gl_ (some 27) Try.func49 #[ag_ jt ju jv j1s js j1t,.slice Ao32 j3y.length co32] ?_;(with_reducible refine (impl_hasStops.calls k jt ju jv _ _ js _ _ j3y true _ (cb_ j2l HB) j2m.out ?side3 ?side4 A10.out).mono ?_);(case side3=>exact cR_ j1c);(case side4=>exact (Kd.R_reads' j1c.out).2.1);rintro e w33 ⟨rfl,hb⟩;refine ⟨_,rfl,?_⟩;replace HO4:=ai_ (Kd.V_below (vd_to HO4) hb);replace j1c:=rb_ j1c hb;replace ja:=bb_ ja hb;replace jb:=bb_ jb hb;replace HB:=ai_ (below_step (below_to2 HB jf.out jg.out) hb);clear hb;obtain ⟨j5y,j5z,j6a,j6b,j6c,j6d,j6e,j6f⟩:=blk4_ jb)|((with_reducible refine gd_ 32 rfl ?_);(try (refine gate_guard (by rfl) ?_;dsimp only));refine lit_ 3 32 [a3] ?_;intro j7p w35 j4m hb hg_ hnew_;clear hg_ hnew_;(first|rw [← j3v.out] at j4m|(simp only [Int.reduceToNat] at j4m;rw [← j3v.out] at j4m));replace HO4:=ai_ (Kd.V_elder' (vd_to HO4) (Kd.R_base j4m) hb);have j2d:=ai_ (Kd.R_lower (Kd.R_new' (Kd.R_newM (M:=fun k_=>(w.heap.size≤k_)) j4m (below_size (below_to2 HB jf.out jg.out)) (fun k_ h_=>h_)) (Kd.R_lt (kd_to j1c))) (below_size (below_to2 HB jf.out jg.out)));replace j1c:=ai_ (Kd.R_elder' (kd_to j1c) (Kd.R_base j4m) hb);replace ja:=bb_ ja hb;replace jb:=bb_ jb hb;replace HB:=ai_ (below_step (below_to2 HB jf.out jg.out) hb);clear hb j4m;obtain ⟨Ao37,co37,eo37⟩:=Kd.R_slice j2d.out;subst eo37)|(go_at_call 49;(with_reducible refine (impl_hasStops.calls k jz j1a j1b _ _ jx _ _ j7e true _ (cb_ j2r HB) j2s.out ?side3 ?side4 A12.out).mono ?_);(case side3=>exact cR_ j2d);(case side4=>exact (Kd.R_reads' j2d.out).2.1);rintro e w38 ⟨rfl,hb⟩;replace HO4:=ai_ (Kd.V_below (vd_to HO4) hb);replace j1c:=rb_ j1c hb;replace j2d:=rb_ j2d hb;replace ja:=bb_ ja hb;replace jb:=bb_ jb hb;replace HB:=ai_ (below_step (below_to2 HB jf.out jg.out) hb);clear hb)|(go_at_call 50;(with_reducible refine (impl_within.calls (l4.length:Int) 1 20 false _ A14.out).mono ?_);rintro e w' ⟨rfl,⟨nd,rfl⟩⟩))
   go_meet
   case rel=>exact ⟨_,(true),rt_,H',⟨by first|omega|exact Nat.le_refl _⟩,⟨by (with_reducible repeat (first|apply Kd.V_alloc|apply Kd.V_drewN|apply Kd.V_drew));exact Kd.V_mono HO4.out (fun _ hk=>⟨hk.1.1.1.1,⟨hk.1.1.1.2,hk.1.1.2⟩⟩)⟩,⟨blk_to ja⟩,⟨blk_to jb⟩,⟨below_to2 HB jf.out jg.out⟩⟩
  subst c15;rw [if_pos rfl] at H;obtain ⟨j4d,A16,H⟩:=bs_ H;(try dsimp only at H);have H':=ai_ H;clear H;have j8l:=j2n.out;have j8m:=j2y.out;obtain ⟨j6g,j6h,j6i,j6j,j6k,j6l,j6m,j6n⟩:=blk4_ ja
  go_wp2_with (first|((with_reducible refine gd_ 26 rfl ?_);(try (refine gate_guard (by rfl) ?_;dsimp only));refine lit_ 3 26 [a1] ?_;intro j7l w19 j6z hb hg_ hnew_;clear hg_ hnew_;(first|rw [← j3m.out] at j6z|(simp only [Int.reduceToNat] at j6z;rw [← j3m.out] at j6z));replace HO4:=ai_ (Kd.V_elder' (vd_to HO4) (Kd.R_base j6z) hb);have j1c:=ai_ (Kd.R_lower (Kd.R_newM (M:=fun k_=>(w.heap.size≤k_)) j6z (below_size (below_to2 HB jf.out jg.out)) (fun k_ h_=>h_)) (below_size (below_to2 HB jf.out jg.out)));replace ja:=bb_ ja hb;replace jb:=bb_ jb hb;replace HB:=ai_ (below_step (below_to2 HB jf.out jg.out) hb);clear hb j6z;obtain ⟨Ao21,co21,eo21⟩:=Kd.R_slice j1c.out;subst eo21)|((with_reducible refine gc_ 49 rfl ?_);refine gl_ (some 27) Try.func49 #[ag_ jt ju jv j1s js j1t,.slice Ao21 j3y.length co21] ?_;(with_reducible refine (impl_hasStops.calls k jt ju jv _ _ js _ _ j3y true _ (cb_ j2l HB) j2m.out ?side3 ?side4 A10.out).mono ?_);(case side3=>exact cR_ j1c);(case side4=>exact (Kd.R_reads' j1c.out).2.1);rintro e w22 ⟨rfl,hb⟩;refine ⟨_,rfl,?_⟩;replace HO4:=ai_ (Kd.V_below (vd_to HO4) hb);replace j1c:=rb_ j1c hb;replace ja:=bb_ ja hb;replace jb:=bb_ jb hb;replace HB:=ai_ (below_step (below_to2 HB jf.out jg.out) hb);clear hb;obtain ⟨j6o,j6p,j6q,j6r,j6s,j6t,j6u,j6v⟩:=blk4_ jb)|((with_reducible refine gd_ 32 rfl ?_);(try (refine gate_guard (by rfl) ?_;dsimp only));refine lit_ 3 32 [a3] ?_;intro j7p w24 j4n hb hg_ hnew_;clear hg_ hnew_;(first|rw [← j3v.out] at j4n|(simp only [Int.reduceToNat] at j4n;rw [← j3v.out] at j4n));replace HO4:=ai_ (Kd.V_elder' (vd_to HO4) (Kd.R_base j4n) hb);have j2d:=ai_ (Kd.R_lower (Kd.R_new' (Kd.R_newM (M:=fun k_=>(w.heap.size≤k_)) j4n (below_size (below_to2 HB jf.out jg.out)) (fun k_ h_=>h_)) (Kd.R_lt (kd_to j1c))) (below_size (below_to2 HB jf.out jg.out)));replace j1c:=ai_ (Kd.R_elder' (kd_to j1c) (Kd.R_base j4n) hb);replace ja:=bb_ ja hb;replace jb:=bb_ jb hb;replace HB:=ai_ (below_step (below_to2 HB jf.out jg.out) hb);clear hb j4n;obtain ⟨Ao26,co26,eo26⟩:=Kd.R_slice j2d.out;subst eo26)|(go_at_call 49;(with_reducible refine (impl_hasStops.calls k jz j1a j1b _ _ jx _ _ j7e true _ (cb_ j2r HB) j2s.out ?side3 ?side4 A12.out).mono ?_);(case side3=>exact cR_ j2d);(case side4=>exact (Kd.R_reads' j2d.out).2.1);rintro e w27 ⟨rfl,hb⟩;replace HO4:=ai_ (Kd.V_below (vd_to HO4) hb);replace j1c:=rb_ j1c hb;replace j2d:=rb_ j2d hb;replace ja:=bb_ ja hb;replace jb:=bb_ jb hb;replace HB:=ai_ (below_step (below_to2 HB jf.out jg.out) hb);clear hb)|(go_at_call 50;(with_reducible refine (impl_within.calls (l4.length:Int) 1 20 true _ A14.out).mono ?_);rintro e w' ⟨rfl,⟨nd,rfl⟩⟩)|(go_at_call 51;(with_reducible refine (impl_isMinute.calls a5 j4d _ A16.out).mono ?_);rintro e w' ⟨rfl,⟨nd,rfl⟩⟩))
  go_meet
  case rel=>exact ⟨_,(!j4d),rt_,H',⟨by first|omega|exact Nat.le_refl _⟩,⟨by (with_reducible repeat (first|apply Kd.V_alloc|apply Kd.V_drewN|apply Kd.V_drew));exact Kd.V_mono HO4.out (fun _ hk=>⟨hk.1.1.1.1,⟨hk.1.1.1.2,hk.1.1.2⟩⟩)⟩,⟨blk_to ja⟩,⟨blk_to jb⟩,⟨below_to2 HB jf.out jg.out⟩⟩
 clear HC7
 try clear c1
 try clear c2
 try clear p2
 try clear c3
 try clear c4
 try clear c5
 try clear c10
 try clear c11
 try clear c13
 try clear c15
 try clear c17
 try clear c28
 try clear c39
 try clear c49
 try clear c50
 try clear j6g
 try clear j6h
 try clear j6i
 try clear j6j
 try clear j6o
 try clear j6p
 try clear j6q
 try clear j6r
 try clear j5q
 try clear j5r
 try clear j5s
 try clear j5t
 try clear j5y
 try clear j5z
 try clear j6a
 try clear j6b
 try clear j5a
 try clear j5b
 try clear j5c
 try clear j5d
 try clear j5i
 try clear j5j
 try clear j5k
 try clear j5l
 try clear j4s
 try clear j4t
 try clear j4u
 try clear j4v
 try clear j6k
 try clear j6l
 try clear j6m
 try clear j6n
 try clear j6s
 try clear j6t
 try clear j6u
 try clear j6v
 try clear j5u
 try clear j5v
 try clear j5w
 try clear j5x
 try clear j6c
 try clear j6d
 try clear j6e
 try clear j6f
 try clear j5e
 try clear j5f
 try clear j5g
 try clear j5h
 try clear j5m
 try clear j5n
 try clear j5o
 try clear j5p
 try clear j4w
 try clear j4x
 try clear j4y
 try clear j4z
 obtain ⟨kq,j4r,rfl,HA,HJ6,jq,ja,jb,HB⟩:=hcut
 cases kq with
 | zero=>exact absurd HA.out (by simp [impl_BestChange.j0])
 | succ kj6 =>
  have H:=HA.out;clear HA;simp only [impl_BestChange.j0] at H
  by_cases c56:j4r=true
  ·subst c56
   rw [if_pos rfl] at H;simp only [Option.some.injEq,Prod.mk.injEq] at H;obtain ⟨rfl,rfl,rfl⟩:=H
   go_wp2
   go_ret3
   exact ⟨_,rtE_,by first|exact Kd.R_nil _ _ _ _ _|exact Kd.N_nil _ _ _ _ _|exact Kd.V_nil _ _ _ _ _|exact Kd.Q_nil _ _ _ _ _|exact Kd.S_nil _ _ _ _ _,below_to2 HB jf.out jg.out⟩
  replace c56:=Bool.eq_false_iff.mpr c56;subst c56;rw [if_neg ft_] at H;have H':=ai_ H;clear H
  go_wp2
  go_loopg [49] kj6 (fun kq v49 w' => ∃ (jc:Int),v49=.int .i64 jc∧Aside0 (impl_BestChange.l0 kq a1 a3 l4 a5 l4 (l4.length:Int) jc jt ju jv js jz j1a j1b jx=some (r1,r2,r3))∧Aside0 (kq≤kj6)∧Aside0 (Kd.V (Kd.slice 3 Ki_) 22 w' w.heap.size (fun k_=>(P4_ k_∨w.heap.size≤k_)∧k_≠jo∧k_≠jr) (.slice A4 l4.length c4) l4)∧Aside0 (Kd.V (Kd.slice 3 Ki_) 22 w' w.heap.size (fun k_=>(P4_ k_∨w.heap.size≤k_)∧k_≠jo∧k_≠jr) (.slice A4 l4.length c4) l4)∧Aside0 (w'.heap[jo]?=some (.cells #[.int .i64 jt,.int .i64 ju,.int .i64 jv,(.slice j1s js.length j1t)] 30 (0,0)))∧Aside0 (w'.heap[jr]?=some (.cells #[.int .i64 jz,.int .i64 j1a,.int .i64 j1b,(.slice j2g jx.length j2h)] 30 (0,0)))∧Aside0 (Below w.heap.size w w'))
  case atStart=>exact ⟨(0),rt_,H',⟨Nat.le_refl _⟩,⟨vd_to jq⟩,⟨vd_to jq⟩,⟨blk_to ja⟩,⟨blk_to jb⟩,⟨below_to2 HB jf.out jg.out⟩⟩
  clear H'
  try clear c1
  try clear c2
  try clear p2
  try clear c3
  try clear c4
  try clear c5
  try clear c10
  try clear c11
  try clear c13
  try clear c15
  try clear c17
  try clear c28
  try clear c39
  try clear c49
  try clear c50
  try clear c56
  try clear j6g
  try clear j6h
  try clear j6i
  try clear j6j
  try clear j6o
  try clear j6p
  try clear j6q
  try clear j6r
  try clear j5q
  try clear j5r
  try clear j5s
  try clear j5t
  try clear j5y
  try clear j5z
  try clear j6a
  try clear j6b
  try clear j5a
  try clear j5b
  try clear j5c
  try clear j5d
  try clear j5i
  try clear j5j
  try clear j5k
  try clear j5l
  try clear j4s
  try clear j4t
  try clear j4u
  try clear j4v
  try clear j6k
  try clear j6l
  try clear j6m
  try clear j6n
  try clear j6s
  try clear j6t
  try clear j6u
  try clear j6v
  try clear j5u
  try clear j5v
  try clear j5w
  try clear j5x
  try clear j6c
  try clear j6d
  try clear j6e
  try clear j6f
  try clear j5e
  try clear j5f
  try clear j5g
  try clear j5h
  try clear j5m
  try clear j5n
  try clear j5o
  try clear j5p
  try clear j4w
  try clear j4x
  try clear j4y
  try clear j4z
  try clear p2
  obtain ⟨jc,rfl,HA,HK2,jq,ji,ja,jb,HB⟩:=hrel
  cases gk with
  | zero=>exact absurd HA.out (by simp [impl_BestChange.l0])
  | succ k2 =>
   have H:=HA.out;clear HA;simp only [impl_BestChange.l0] at H
   by_cases c57:jc < (l4.length:Int)
   rotate_left
   ·rw [if_neg c57] at H
    have j7h:=decide_eq_false c57;clear c57;have H':=ai_ H;clear H
    go_wp2
    go_loopg [17,18,98] k2 (fun kq v17 v18 v98 w' => ∃ (j2u:List Int) (j3w:Int) (jh:Int),v18=.int .i64 j3w∧v98=.int .i64 jh∧Aside0 (impl_BestChange.l1 kq a1 a3 a5 j2u j3w l4 (l4.length:Int) jh jt ju jv js jz j1a j1b jx=some (r1,r2,r3))∧Aside0 (kq≤k2)∧Aside0 (Kd.V Ki_ 3 w' w.heap.size (fun k_=>(P4_ k_∨w.heap.size≤k_)∧k_≠jo∧k_≠jr) v17 j2u)∧Aside0 (Kd.V (Kd.slice 3 Ki_) 22 w' w.heap.size (fun k_=>(P4_ k_∨w.heap.size≤k_)∧k_≠jo∧k_≠jr) (.slice A4 l4.length c4) l4)∧Aside0 (w'.heap[jo]?=some (.cells #[.int .i64 jt,.int .i64 ju,.int .i64 jv,(.slice j1s js.length j1t)] 30 (0,0)))∧Aside0 (w'.heap[jr]?=some (.cells #[.int .i64 jz,.int .i64 j1a,.int .i64 j1b,(.slice j2g jx.length j2h)] 30 (0,0)))∧Aside0 (Below w.heap.size w w')∧Aside0 (impl_BestChange.nz v17 j2u))
    case atStart=>exact ⟨(([]:List Int)),(0),(0),rt_,rt_,H',⟨Nat.le_refl _⟩,⟨Kd.V_nil _ _ _ _ _⟩,⟨vd_to jq⟩,⟨blk_to ja⟩,⟨blk_to jb⟩,⟨below_to2 HB jf.out jg.out⟩,⟨impl_BestChange.nz_nil⟩⟩
    clear H'
    try clear c2
    try clear p2
    try clear q2
    try clear hx2
    try clear c4
    try clear c5
    try clear c6
    try clear c21
    try clear p21
    try clear q21
    try clear hx21
    try clear c49
    try clear c57
    try clear j7h
    try clear c58
    try clear c59
    try clear c60
    try clear j7i
    try clear j7j
    try clear c61
    try clear j1n
    try clear j1o
    try clear j1p
    obtain ⟨j2u,j3w,jh,rfl,rfl,HA,HK3,j1h,j1d,ja,jb,HB,HNZ⟩:=hrel
    cases gk with
    | zero=>exact absurd HA.out (by simp [impl_BestChange.l1])
    | succ k3 =>
     have H:=HA.out;clear HA;simp only [impl_BestChange.l1] at H
     by_cases c123:jh < (l4.length:Int)
     rotate_left
     ·rw [if_neg c123] at H
      have j7m:=decide_eq_false c123;clear c123;obtain ⟨j7k,A141,H⟩:=bs_ H;(try dsimp only at H);simp only [Option.some.injEq,Prod.mk.injEq] at H;obtain ⟨rfl,rfl,rfl⟩:=H;obtain ⟨Ao142,co142,eo142⟩:=Kd.V_slice j1h.out;subst eo142;have nz3_:Ao142.isNone=decide ((j2u.length:Int)=0):=(HNZ.out _ _ _ rfl).trans (by rw [Bool.eq_iff_iff];simp)
      go_wp2_with (first|((with_reducible refine gc_ 54 rfl ?_);refine gl_ (some 135) Try.func54 #[.slice Ao142 j2u.length co142] ?_;(with_reducible refine (slices_Clone_int_int.calls _ _ j2u j7k _ ?side1 ?side2 A141.out).mono ?_);(case side1=>repeat (first|exact (Kd.V_reads' j1h.out).2.2|(with_reducible refine Kd.C_alloc ?_ _)|(with_reducible refine Kd.C_drewN ?_ _)|(with_reducible refine Kd.C_drew ?_)));(case side2=>exact (Kd.V_reads' j1h.out).2.1);rintro e j8v ⟨j8w,rfl,ho0,hb⟩;refine ⟨_,rfl,?_⟩;replace j1h:=ai_ (Kd.V_elder' (vd_to j1h) (Kd.R_base ho0) hb);replace j1d:=ai_ (Kd.V_elder' (vd_to j1d) (Kd.R_base ho0) hb);have j7q:=ai_ (Kd.R_lower (Kd.R_newM (M:=fun k_=>(w.heap.size≤k_)) ho0 (below_size (below_to2 HB jf.out jg.out)) (fun k_ h_=>h_)) (below_size (below_to2 HB jf.out jg.out)));replace ja:=bb_ ja hb;replace jb:=bb_ jb hb;replace HB:=ai_ (below_step (below_to2 HB jf.out jg.out) hb);clear hb;(try clear ho0)))
      go_ret3
      exact ⟨_,rtE_,km_ j7q (fun _ hk=>hk.1),below_to2 HB jf.out jg.out⟩
     rw [if_pos c123] at H;have j7m:=decide_eq_true c123;clear c123
     by_cases c124:0≤jh
     rotate_left
     ·rw [if_neg c124] at H
      cases H
     rw [if_pos c124] at H;have j7t:=decide_eq_true c124;clear c124
     by_cases c125:jh < (l4.length:Int)
     rotate_left
     ·rw [if_neg c125] at H
      cases H
     rw [if_pos c125] at H;have j7u:=decide_eq_true c125;clear c125
     by_cases c126:0 < ((rd_L1 l4 jh).length:Int)
     rotate_left
     ·rw [if_neg c126] at H
      cases H
     rw [if_pos c126] at H;have j7v:=decide_eq_true c126;have j7w:decide (0 < (rd_L1 l4 jh).length)=true:=decide_eq_true (by omega);clear c126
     by_cases c127:1 < ((rd_L1 l4 jh).length:Int)
     rotate_left
     ·rw [if_neg c127] at H
      cases H
     rw [if_pos c127] at H;have j7x:=decide_eq_true c127;have j7y:decide (1 < (rd_L1 l4 jh).length)=true:=decide_eq_true (by omega);clear c127
     by_cases c128:2 < ((rd_L1 l4 jh).length:Int)
     rotate_left
     ·rw [if_neg c128] at H
      cases H
     rw [if_pos c128] at H;have j7z:=decide_eq_true c128;have j8a:decide (2 < (rd_L1 l4 jh).length)=true:=decide_eq_true (by omega);clear c128;obtain ⟨⟨j7f,j4o,j8b⟩,A129,H⟩:=bs_ H;(try dsimp only at H)
     by_cases c130:j8b=true
     rotate_left
     ·replace c130:=Bool.eq_false_iff.mpr c130
      subst c130;rw [if_neg ft_] at H;have H':=ai_ H;clear H;have j2o:0≤(jh:Int):=odt_;have j2p:jh < (l4.length:Int):=odt_;obtain ⟨j7c,j4p,j4q,e227,j2q,hl227_0,hi227_0⟩:=at_L1 (Kd.V_reads' j1d.out).2.2 jh j2o j2p
      cases e227
      obtain ⟨ce227,hce227,hMe227,hcc227⟩:=Kd.V_get j1d.out [] jh j2o (by first|exact j2p|exact of_decide_eq_true (by first|(with_reducible assumption)|assumption)|(have e_:=(Kd.V_reads' j1d.out).1;omega));obtain ⟨ua227_0,uc227_0,rfl,ul227_0,ge227_0⟩:=Kd.FK_slice_open hMe227;have hv227_0:=hcc227 0 _ rfl;rw [Nat.add_zero,show ((Kd.slice 3 Ki_)).sz=1 from rfl,Nat.mul_one] at hv227_0;replace hv227_0:=Option.some.inj (hv227_0.symm.trans j2q)
      injection hv227_0 with hva_ hvn_ hvc_
      rw [hva_] at ge227_0;rw [hvc_] at ul227_0;have jw:=ai_ (show Kd.V Ki_ 3 _ w.heap.size _ _ (rd_L1 l4 jh) from Kd.V_mk ul227_0 ge227_0);clear hva_ hvn_ hvc_ ge227_0 ul227_0 hcc227 hce227;have jl:=ai_ hi227_0;have j3z:=ai_ hl227_0;clear hi227_0 hl227_0;replace j2o:=eq_true j2o;replace j2p:=eq_true j2p
      try go_wp2
      replace j1h:=ai_ (Kd.V_drew j1h.out);replace j1d:=ai_ (Kd.V_drew j1d.out);replace jw:=ai_ (Kd.V_drew jw.out);replace ja:=ai_ (blk_drew ja.out);replace jb:=ai_ (blk_drew jb.out);replace jl:=ai_ (Kd.C_drew jl.out);replace HB:=ai_ (below_drew1 HB.out)
      have j3b:0≤(0:Int):=(by omega)
      have j3c:0 < ((rd_L1 l4 jh).length:Int):=odt_;obtain ⟨j1i,e228,j1e⟩:=Kd.ati_ jl 0 j3b j3c
      cases e228
      have qi228:(0 < (rd_L1 l4 jh).length)=True:=eq_true (by omega);(try rw [show ((0:Int)).toNat=0 from rfl] at j1e);(try rw [Addr.add_zero'] at j1e);replace j3b:=eq_true j3b;replace j3c:=eq_true j3c
      have j3d:0≤(1:Int):=(by omega)
      have j3e:1 < ((rd_L1 l4 jh).length:Int):=odt_;obtain ⟨j3q,e229,j1f⟩:=Kd.ati_ jl 1 j3d j3e
      obtain rfl:j1i=j3q:=(by injection e229)
      (try simp only [show (1:Int).toNat=1 from rfl,Nat.reduceMul,Nat.reduceEqDiff,Go.Addr.add,↓reduceIte] at j1f);have qi229:(1 < (rd_L1 l4 jh).length)=True:=eq_true (by omega);(try rw [show ((1:Int)).toNat=1 from rfl] at j1f);replace j3d:=eq_true j3d;replace j3e:=eq_true j3e
      have j3f:0≤(2:Int):=(by omega)
      have j3g:2 < ((rd_L1 l4 jh).length:Int):=odt_;obtain ⟨j3r,e230,j1g⟩:=Kd.ati_ jl 2 j3f j3g
      obtain rfl:j1i=j3r:=(by injection e230)
      (try simp only [show (2:Int).toNat=2 from rfl,Nat.reduceMul,Nat.reduceEqDiff,Go.Addr.add,↓reduceIte] at j1g);have qi230:(2 < (rd_L1 l4 jh).length)=True:=eq_true (by omega);(try rw [show ((2:Int)).toNat=2 from rfl] at j1g);replace j3f:=eq_true j3f;replace j3g:=eq_true j3g;refine start_ (n:=22) (S:=fun w'=>w'.cell? ⟨jo,0,none⟩=some (.int .i64 jt)∧w'.cell? ⟨jo,1,none⟩=some (.int .i64 ju)∧w'.cell? ⟨jo,2,none⟩=some (.int .i64 jv)∧w'.cell? ⟨jo,3,none⟩=some (.slice j1s js.length j1t)∧w'.cell? ⟨jr,0,none⟩=some (.int .i64 jz)∧w'.cell? ⟨jr,1,none⟩=some (.int .i64 j1a)∧w'.cell? ⟨jr,2,none⟩=some (.int .i64 j1b)∧w'.cell? ⟨jr,3,none⟩=some (.slice j2g jx.length j2h)∧w'.cell? j1i=some (.int .i64 (rd (rd_L1 l4 jh) 0))∧w'.cell? ⟨j1i.block,j1i.off+1,none⟩=some (.int .i64 (rd (rd_L1 l4 jh) 1))∧w'.cell? ⟨j1i.block,j1i.off+2,none⟩=some (.int .i64 (rd (rd_L1 l4 jh) 2))) (ds:=[]) (fr_ [0,22]) (by kernel_rfl) rfl rfl ⟨bc_ ja 0,bc_ ja 1,bc_ ja 2,bc_ ja 3,bc_ jb 0,bc_ jb 1,bc_ jb 2,bc_ jb 3,j1e,j1f,j1g⟩ (fun hHeld=>?_);refine with_tabW impl_BestChange.tab14 impl_BestChange.bits14 (fun HT_ HW_=>?_);generalize wr.drew=j8x at j1h j1d jw ja jb jl HB j1e j1f j1g hHeld ⊢;refine pS_ 1 104 (fr_ [0,1,1,20]) HT_ ?_;refine pS_ 2 105 (fr_ [0,1,2,19]) HT_ ?_;refine pS_ 3 106 (fr_ [0,1,3,18]) HT_ ?_;refine pS_ 6 109 (fr_ [0,1,3,2,1,15]) HT_ ?_;refine pS_ 7 110 (fr_ [0,1,3,2,2,14]) HT_ ?_;refine pS_ 9 112 (fr_ [0,1,3,2,2,1,1,12]) HT_ ?_;refine pS_ 10 113 (fr_ [0,1,3,2,2,1,2,11]) HT_ ?_;refine pS_ 11 114 (fr_ [0,1,3,2,2,1,3,10]) HT_ ?_;refine pS_ 13 116 (fr_ [0,1,3,2,2,1,3,1,1,8]) HT_ ?_;refine tk11_ 0 103 (fr_ [4,2,2,1,3,1,1,8]) HT_ HW_ hHeld ?_;refine tk11_ 4 107 (fr_ [5,1,2,1,3,1,1,8]) HT_ HW_ hHeld ?_;refine tk11_ 5 108 (fr_ [8,1,3,1,1,8]) HT_ HW_ hHeld ?_;refine tk11_ 8 111 (fr_ [12,1,1,8]) HT_ HW_ hHeld ?_;refine tk11_ 12 115 (fr_ [14,8]) HT_ HW_ hHeld ?_;refine on_ 14 117 (fr_ [15,7]) HT_ (fun K hK=>?_);refine gs_ Try.func53 #[ag_ jt ju jv j1s js j1t,.int .i64 a1,.int .i64 (rd (rd_L1 l4 jh) 0),ag_ jz j1a j1b j2g jx j2h,.int .i64 (rd (rd_L1 l4 jh) 1),.int .i64 a3,.int .i64 (rd (rd_L1 l4 jh) 2),.int .i64 a5] ?_
      with_reducible refine (impl_changeAt.calls jt ju jv _ _ js a1 (rd (rd_L1 l4 jh) 0) jz j1a j1b _ _ jx (rd (rd_L1 l4 jh) 1) a3 (rd (rd_L1 l4 jh) 2) a5 j7f j4o false _ ?side1 ?side2 ?side3 ?side4 A129.out).mono ?_
      (case side1=>exact cb_ j2l HB)
      (case side2=>exact j2m.out)
      (case side3=>exact cb_ j2r HB)
      (case side4=>exact j2s.out)
      rintro e j8y ⟨rfl,hb⟩;have HS8_:=hc_ hb hHeld.2.2.2.2.2.2.2.2.1;have HS9_:=hc_ hb hHeld.2.2.2.2.2.2.2.2.2.1;have HS10_:=hc_ hb hHeld.2.2.2.2.2.2.2.2.2.2;refine ⟨_,rfl,?_⟩;replace j1h:=ai_ (Kd.V_below (vd_to j1h) hb);replace j1d:=ai_ (Kd.V_below (vd_to j1d) hb);replace jw:=ai_ (Kd.V_below (vd_to jw) hb);replace ja:=bb_ ja hb;replace jb:=bb_ jb hb;replace jl:=ai_ (cbl_ jl hb);replace HB:=ai_ (below_step (below_to2 HB jf.out jg.out) hb);(try clear hb);(try clear hb2);(try clear hk);(try clear hi);refine hK.out _ _ ⟨bc_ ja 0,bc_ ja 1,bc_ ja 2,bc_ ja 3,bc_ jb 0,bc_ jb 1,bc_ jb 2,bc_ jb 3,HS8_,HS9_,HS10_⟩ (fun hHeld=>?_);clear hK K;refine norm_ (a':=?_) ?_ ?_;rotate_left
      ·show Act.put _ (some 117) _=_
       simp only [Act.put,List.setIfInBounds_toArray,List.set_cons_zero,List.set_cons_succ,i64_w,i32_w]
       rfl
      refine pq_ 15 102 22 ?_;refine pq_ 16 118 22 ?_;refine pq_ 17 119 22 ?_;refine pq_ 18 120 22 ?_;refine pq_ 19 21 22 ?_;refine pq_ 20 22 22 ?_;refine pq_ 21 23 22 ?_;refine done_ (done_of HT_.out (by kernel_rfl)) ?_;obtain ⟨An_,cn_,en_⟩:=Kd.V_slice j1h.out;subst en_;(try have nz_:=(HNZ.out _ _ _ rfl).trans j3s)
      try go_wp2
      go_roundg k3
      case measure=>have:=HJ6.out;have:=HK2.out;have:=HK3.out;omega
      case rel=>exact ⟨(j2u),(j3w),(wrap64 (jh+1)),rt_,rt_,H',⟨by have:=HJ6.out;have:=HK2.out;have:=HK3.out;omega⟩,⟨vd_to j1h⟩,⟨vd_to j1d⟩,⟨blk_to ja⟩,⟨blk_to jb⟩,⟨below_to2 HB jf.out jg.out⟩,HNZ⟩
     subst c130;rw [if_pos rfl] at H
     by_cases c131:(j2u.length:Int)=0
     ·rw [if_pos c131] at H
      have j3s:=beq_iff_eq.mpr c131;have j7n:=bne_eq_false_iff_eq.mpr c131;clear c131;have H':=ai_ H;clear H;have j2o:0≤(jh:Int):=odt_;have j2p:jh < (l4.length:Int):=odt_;obtain ⟨j7c,j4p,j4q,e227,j2q,hl227_0,hi227_0⟩:=at_L1 (Kd.V_reads' j1d.out).2.2 jh j2o j2p
      cases e227
      obtain ⟨ce227,hce227,hMe227,hcc227⟩:=Kd.V_get j1d.out [] jh j2o (by first|exact j2p|exact of_decide_eq_true (by first|(with_reducible assumption)|assumption)|(have e_:=(Kd.V_reads' j1d.out).1;omega));obtain ⟨ua227_0,uc227_0,rfl,ul227_0,ge227_0⟩:=Kd.FK_slice_open hMe227;have hv227_0:=hcc227 0 _ rfl;rw [Nat.add_zero,show ((Kd.slice 3 Ki_)).sz=1 from rfl,Nat.mul_one] at hv227_0;replace hv227_0:=Option.some.inj (hv227_0.symm.trans j2q)
      injection hv227_0 with hva_ hvn_ hvc_
      rw [hva_] at ge227_0;rw [hvc_] at ul227_0;have jw:=ai_ (show Kd.V Ki_ 3 _ w.heap.size _ _ (rd_L1 l4 jh) from Kd.V_mk ul227_0 ge227_0);clear hva_ hvn_ hvc_ ge227_0 ul227_0 hcc227 hce227;have jl:=ai_ hi227_0;have j3z:=ai_ hl227_0;clear hi227_0 hl227_0;replace j2o:=eq_true j2o;replace j2p:=eq_true j2p
      try go_wp2
      replace j1h:=ai_ (Kd.V_drew j1h.out);replace j1d:=ai_ (Kd.V_drew j1d.out);replace jw:=ai_ (Kd.V_drew jw.out);replace ja:=ai_ (blk_drew ja.out);replace jb:=ai_ (blk_drew jb.out);replace jl:=ai_ (Kd.C_drew jl.out);replace HB:=ai_ (below_drew1 HB.out)
      have j3b:0≤(0:Int):=(by omega)
      have j3c:0 < ((rd_L1 l4 jh).length:Int):=odt_;obtain ⟨j1i,e228,j1e⟩:=Kd.ati_ jl 0 j3b j3c
      cases e228
      have qi228:(0 < (rd_L1 l4 jh).length)=True:=eq_true (by omega);(try rw [show ((0:Int)).toNat=0 from rfl] at j1e);(try rw [Addr.add_zero'] at j1e);replace j3b:=eq_true j3b;replace j3c:=eq_true j3c
      have j3d:0≤(1:Int):=(by omega)
      have j3e:1 < ((rd_L1 l4 jh).length:Int):=odt_;obtain ⟨j3q,e229,j1f⟩:=Kd.ati_ jl 1 j3d j3e
      obtain rfl:j1i=j3q:=(by injection e229)
      (try simp only [show (1:Int).toNat=1 from rfl,Nat.reduceMul,Nat.reduceEqDiff,Go.Addr.add,↓reduceIte] at j1f);have qi229:(1 < (rd_L1 l4 jh).length)=True:=eq_true (by omega);(try rw [show ((1:Int)).toNat=1 from rfl] at j1f);replace j3d:=eq_true j3d;replace j3e:=eq_true j3e
      have j3f:0≤(2:Int):=(by omega)
      have j3g:2 < ((rd_L1 l4 jh).length:Int):=odt_;obtain ⟨j3r,e230,j1g⟩:=Kd.ati_ jl 2 j3f j3g
      obtain rfl:j1i=j3r:=(by injection e230)
      (try simp only [show (2:Int).toNat=2 from rfl,Nat.reduceMul,Nat.reduceEqDiff,Go.Addr.add,↓reduceIte] at j1g);have qi230:(2 < (rd_L1 l4 jh).length)=True:=eq_true (by omega);(try rw [show ((2:Int)).toNat=2 from rfl] at j1g);replace j3f:=eq_true j3f;replace j3g:=eq_true j3g;refine start_ (n:=22) (S:=fun w'=>w'.cell? ⟨jo,0,none⟩=some (.int .i64 jt)∧w'.cell? ⟨jo,1,none⟩=some (.int .i64 ju)∧w'.cell? ⟨jo,2,none⟩=some (.int .i64 jv)∧w'.cell? ⟨jo,3,none⟩=some (.slice j1s js.length j1t)∧w'.cell? ⟨jr,0,none⟩=some (.int .i64 jz)∧w'.cell? ⟨jr,1,none⟩=some (.int .i64 j1a)∧w'.cell? ⟨jr,2,none⟩=some (.int .i64 j1b)∧w'.cell? ⟨jr,3,none⟩=some (.slice j2g jx.length j2h)∧w'.cell? j1i=some (.int .i64 (rd (rd_L1 l4 jh) 0))∧w'.cell? ⟨j1i.block,j1i.off+1,none⟩=some (.int .i64 (rd (rd_L1 l4 jh) 1))∧w'.cell? ⟨j1i.block,j1i.off+2,none⟩=some (.int .i64 (rd (rd_L1 l4 jh) 2))) (ds:=[]) (fr_ [0,22]) (by kernel_rfl) rfl rfl ⟨bc_ ja 0,bc_ ja 1,bc_ ja 2,bc_ ja 3,bc_ jb 0,bc_ jb 1,bc_ jb 2,bc_ jb 3,j1e,j1f,j1g⟩ (fun hHeld=>?_);refine with_tabW impl_BestChange.tab14 impl_BestChange.bits14 (fun HT_ HW_=>?_);generalize wr.drew=j8z at j1h j1d jw ja jb jl HB j1e j1f j1g hHeld ⊢;refine pS_ 1 104 (fr_ [0,1,1,20]) HT_ ?_;refine pS_ 2 105 (fr_ [0,1,2,19]) HT_ ?_;refine pS_ 3 106 (fr_ [0,1,3,18]) HT_ ?_;refine pS_ 6 109 (fr_ [0,1,3,2,1,15]) HT_ ?_;refine pS_ 7 110 (fr_ [0,1,3,2,2,14]) HT_ ?_;refine pS_ 9 112 (fr_ [0,1,3,2,2,1,1,12]) HT_ ?_;refine pS_ 10 113 (fr_ [0,1,3,2,2,1,2,11]) HT_ ?_;refine pS_ 11 114 (fr_ [0,1,3,2,2,1,3,10]) HT_ ?_;refine pS_ 13 116 (fr_ [0,1,3,2,2,1,3,1,1,8]) HT_ ?_;refine tk11_ 0 103 (fr_ [4,2,2,1,3,1,1,8]) HT_ HW_ hHeld ?_;refine tk11_ 4 107 (fr_ [5,1,2,1,3,1,1,8]) HT_ HW_ hHeld ?_;refine tk11_ 5 108 (fr_ [8,1,3,1,1,8]) HT_ HW_ hHeld ?_;refine tk11_ 8 111 (fr_ [12,1,1,8]) HT_ HW_ hHeld ?_;refine tk11_ 12 115 (fr_ [14,8]) HT_ HW_ hHeld ?_;refine on_ 14 117 (fr_ [15,7]) HT_ (fun K hK=>?_);refine gs_ Try.func53 #[ag_ jt ju jv j1s js j1t,.int .i64 a1,.int .i64 (rd (rd_L1 l4 jh) 0),ag_ jz j1a j1b j2g jx j2h,.int .i64 (rd (rd_L1 l4 jh) 1),.int .i64 a3,.int .i64 (rd (rd_L1 l4 jh) 2),.int .i64 a5] ?_
      with_reducible refine (impl_changeAt.calls jt ju jv _ _ js a1 (rd (rd_L1 l4 jh) 0) jz j1a j1b _ _ jx (rd (rd_L1 l4 jh) 1) a3 (rd (rd_L1 l4 jh) 2) a5 j7f j4o true _ ?side1 ?side2 ?side3 ?side4 A129.out).mono ?_
      (case side1=>exact cb_ j2l HB)
      (case side2=>exact j2m.out)
      (case side3=>exact cb_ j2r HB)
      (case side4=>exact j2s.out)
      rintro e j9a ⟨rfl,hb⟩;have HS8_:=hc_ hb hHeld.2.2.2.2.2.2.2.2.1;have HS9_:=hc_ hb hHeld.2.2.2.2.2.2.2.2.2.1;have HS10_:=hc_ hb hHeld.2.2.2.2.2.2.2.2.2.2;refine ⟨_,rfl,?_⟩;replace j1h:=ai_ (Kd.V_below (vd_to j1h) hb);replace j1d:=ai_ (Kd.V_below (vd_to j1d) hb);replace jw:=ai_ (Kd.V_below (vd_to jw) hb);replace ja:=bb_ ja hb;replace jb:=bb_ jb hb;replace jl:=ai_ (cbl_ jl hb);replace HB:=ai_ (below_step (below_to2 HB jf.out jg.out) hb);(try clear hb);(try clear hb2);(try clear hk);(try clear hi);refine hK.out _ _ ⟨bc_ ja 0,bc_ ja 1,bc_ ja 2,bc_ ja 3,bc_ jb 0,bc_ jb 1,bc_ jb 2,bc_ jb 3,HS8_,HS9_,HS10_⟩ (fun hHeld=>?_);clear hK K;refine norm_ (a':=?_) ?_ ?_;rotate_left
      ·show Act.put _ (some 117) _=_
       simp only [Act.put,List.setIfInBounds_toArray,List.set_cons_zero,List.set_cons_succ,i64_w,i32_w]
       rfl
      refine pq_ 15 102 22 ?_;refine pq_ 16 118 22 ?_;refine pq_ 17 119 22 ?_;refine pq_ 18 120 22 ?_;refine pq_ 19 21 22 ?_;refine pq_ 20 22 22 ?_;refine pq_ 21 23 22 ?_;refine done_ (done_of HT_.out (by kernel_rfl)) ?_;obtain ⟨An_,cn_,en_⟩:=Kd.V_slice j1h.out;subst en_;(try have nz_:=(HNZ.out _ _ _ rfl).trans j3s)
      try go_wp2
      go_roundg k3
      case measure=>have:=HJ6.out;have:=HK2.out;have:=HK3.out;omega
      case rel=>exact ⟨(rd_L1 l4 jh),(j4o),(wrap64 (jh+1)),rt_,rt_,H',⟨by have:=HJ6.out;have:=HK2.out;have:=HK3.out;omega⟩,⟨vd_to jw⟩,⟨vd_to j1d⟩,⟨blk_to ja⟩,⟨blk_to jb⟩,⟨below_to2 HB jf.out jg.out⟩,⟨impl_BestChange.nz_row jl.out (of_decide_eq_true (by assumption))⟩⟩
     rw [if_neg c131] at H;have j3s:=beq_eq_false_iff_ne.mpr c131;have j7n:=bne_iff_ne.mpr c131;have j8c:¬ (j2u=[]):=fun h_=>c131 (by rw [h_];rfl)
     by_cases c134:j4o < j3w
     rotate_left
     ·rw [if_neg c134] at H
      have j7o:=decide_eq_false c134;clear c134;have H':=ai_ H;clear H;have j2o:0≤(jh:Int):=odt_;have j2p:jh < (l4.length:Int):=odt_;obtain ⟨j7c,j4p,j4q,e227,j2q,hl227_0,hi227_0⟩:=at_L1 (Kd.V_reads' j1d.out).2.2 jh j2o j2p
      cases e227
      obtain ⟨ce227,hce227,hMe227,hcc227⟩:=Kd.V_get j1d.out [] jh j2o (by first|exact j2p|exact of_decide_eq_true (by first|(with_reducible assumption)|assumption)|(have e_:=(Kd.V_reads' j1d.out).1;omega));obtain ⟨ua227_0,uc227_0,rfl,ul227_0,ge227_0⟩:=Kd.FK_slice_open hMe227;have hv227_0:=hcc227 0 _ rfl;rw [Nat.add_zero,show ((Kd.slice 3 Ki_)).sz=1 from rfl,Nat.mul_one] at hv227_0;replace hv227_0:=Option.some.inj (hv227_0.symm.trans j2q)
      injection hv227_0 with hva_ hvn_ hvc_
      rw [hva_] at ge227_0;rw [hvc_] at ul227_0;have jw:=ai_ (show Kd.V Ki_ 3 _ w.heap.size _ _ (rd_L1 l4 jh) from Kd.V_mk ul227_0 ge227_0);clear hva_ hvn_ hvc_ ge227_0 ul227_0 hcc227 hce227;have jl:=ai_ hi227_0;have j3z:=ai_ hl227_0;clear hi227_0 hl227_0;replace j2o:=eq_true j2o;replace j2p:=eq_true j2p
      try go_wp2
      replace j1h:=ai_ (Kd.V_drew j1h.out);replace j1d:=ai_ (Kd.V_drew j1d.out);replace jw:=ai_ (Kd.V_drew jw.out);replace ja:=ai_ (blk_drew ja.out);replace jb:=ai_ (blk_drew jb.out);replace jl:=ai_ (Kd.C_drew jl.out);replace HB:=ai_ (below_drew1 HB.out)
      have j3b:0≤(0:Int):=(by omega)
      have j3c:0 < ((rd_L1 l4 jh).length:Int):=odt_;obtain ⟨j1i,e228,j1e⟩:=Kd.ati_ jl 0 j3b j3c
      cases e228
      have qi228:(0 < (rd_L1 l4 jh).length)=True:=eq_true (by omega);(try rw [show ((0:Int)).toNat=0 from rfl] at j1e);(try rw [Addr.add_zero'] at j1e);replace j3b:=eq_true j3b;replace j3c:=eq_true j3c
      have j3d:0≤(1:Int):=(by omega)
      have j3e:1 < ((rd_L1 l4 jh).length:Int):=odt_;obtain ⟨j3q,e229,j1f⟩:=Kd.ati_ jl 1 j3d j3e
      obtain rfl:j1i=j3q:=(by injection e229)
      (try simp only [show (1:Int).toNat=1 from rfl,Nat.reduceMul,Nat.reduceEqDiff,Go.Addr.add,↓reduceIte] at j1f);have qi229:(1 < (rd_L1 l4 jh).length)=True:=eq_true (by omega);(try rw [show ((1:Int)).toNat=1 from rfl] at j1f);replace j3d:=eq_true j3d;replace j3e:=eq_true j3e
      have j3f:0≤(2:Int):=(by omega)
      have j3g:2 < ((rd_L1 l4 jh).length:Int):=odt_;obtain ⟨j3r,e230,j1g⟩:=Kd.ati_ jl 2 j3f j3g
      obtain rfl:j1i=j3r:=(by injection e230)
      (try simp only [show (2:Int).toNat=2 from rfl,Nat.reduceMul,Nat.reduceEqDiff,Go.Addr.add,↓reduceIte] at j1g);have qi230:(2 < (rd_L1 l4 jh).length)=True:=eq_true (by omega);(try rw [show ((2:Int)).toNat=2 from rfl] at j1g);replace j3f:=eq_true j3f;replace j3g:=eq_true j3g;refine start_ (n:=22) (S:=fun w'=>w'.cell? ⟨jo,0,none⟩=some (.int .i64 jt)∧w'.cell? ⟨jo,1,none⟩=some (.int .i64 ju)∧w'.cell? ⟨jo,2,none⟩=some (.int .i64 jv)∧w'.cell? ⟨jo,3,none⟩=some (.slice j1s js.length j1t)∧w'.cell? ⟨jr,0,none⟩=some (.int .i64 jz)∧w'.cell? ⟨jr,1,none⟩=some (.int .i64 j1a)∧w'.cell? ⟨jr,2,none⟩=some (.int .i64 j1b)∧w'.cell? ⟨jr,3,none⟩=some (.slice j2g jx.length j2h)∧w'.cell? j1i=some (.int .i64 (rd (rd_L1 l4 jh) 0))∧w'.cell? ⟨j1i.block,j1i.off+1,none⟩=some (.int .i64 (rd (rd_L1 l4 jh) 1))∧w'.cell? ⟨j1i.block,j1i.off+2,none⟩=some (.int .i64 (rd (rd_L1 l4 jh) 2))) (ds:=[]) (fr_ [0,22]) (by kernel_rfl) rfl rfl ⟨bc_ ja 0,bc_ ja 1,bc_ ja 2,bc_ ja 3,bc_ jb 0,bc_ jb 1,bc_ jb 2,bc_ jb 3,j1e,j1f,j1g⟩ (fun hHeld=>?_);refine with_tabW impl_BestChange.tab14 impl_BestChange.bits14 (fun HT_ HW_=>?_);generalize wr.drew=j9b at j1h j1d jw ja jb jl HB j1e j1f j1g hHeld ⊢;refine pS_ 1 104 (fr_ [0,1,1,20]) HT_ ?_;refine pS_ 2 105 (fr_ [0,1,2,19]) HT_ ?_;refine pS_ 3 106 (fr_ [0,1,3,18]) HT_ ?_;refine pS_ 6 109 (fr_ [0,1,3,2,1,15]) HT_ ?_;refine pS_ 7 110 (fr_ [0,1,3,2,2,14]) HT_ ?_;refine pS_ 9 112 (fr_ [0,1,3,2,2,1,1,12]) HT_ ?_;refine pS_ 10 113 (fr_ [0,1,3,2,2,1,2,11]) HT_ ?_;refine pS_ 11 114 (fr_ [0,1,3,2,2,1,3,10]) HT_ ?_;refine pS_ 13 116 (fr_ [0,1,3,2,2,1,3,1,1,8]) HT_ ?_;refine tk11_ 0 103 (fr_ [4,2,2,1,3,1,1,8]) HT_ HW_ hHeld ?_;refine tk11_ 4 107 (fr_ [5,1,2,1,3,1,1,8]) HT_ HW_ hHeld ?_;refine tk11_ 5 108 (fr_ [8,1,3,1,1,8]) HT_ HW_ hHeld ?_;refine tk11_ 8 111 (fr_ [12,1,1,8]) HT_ HW_ hHeld ?_;refine tk11_ 12 115 (fr_ [14,8]) HT_ HW_ hHeld ?_;refine on_ 14 117 (fr_ [15,7]) HT_ (fun K hK=>?_);refine gs_ Try.func53 #[ag_ jt ju jv j1s js j1t,.int .i64 a1,.int .i64 (rd (rd_L1 l4 jh) 0),ag_ jz j1a j1b j2g jx j2h,.int .i64 (rd (rd_L1 l4 jh) 1),.int .i64 a3,.int .i64 (rd (rd_L1 l4 jh) 2),.int .i64 a5] ?_
      with_reducible refine (impl_changeAt.calls jt ju jv _ _ js a1 (rd (rd_L1 l4 jh) 0) jz j1a j1b _ _ jx (rd (rd_L1 l4 jh) 1) a3 (rd (rd_L1 l4 jh) 2) a5 j7f j4o true _ ?side1 ?side2 ?side3 ?side4 A129.out).mono ?_
      (case side1=>exact cb_ j2l HB)
      (case side2=>exact j2m.out)
      (case side3=>exact cb_ j2r HB)
      (case side4=>exact j2s.out)
      rintro e j9c ⟨rfl,hb⟩;have HS8_:=hc_ hb hHeld.2.2.2.2.2.2.2.2.1;have HS9_:=hc_ hb hHeld.2.2.2.2.2.2.2.2.2.1;have HS10_:=hc_ hb hHeld.2.2.2.2.2.2.2.2.2.2;refine ⟨_,rfl,?_⟩;replace j1h:=ai_ (Kd.V_below (vd_to j1h) hb);replace j1d:=ai_ (Kd.V_below (vd_to j1d) hb);replace jw:=ai_ (Kd.V_below (vd_to jw) hb);replace ja:=bb_ ja hb;replace jb:=bb_ jb hb;replace jl:=ai_ (cbl_ jl hb);replace HB:=ai_ (below_step (below_to2 HB jf.out jg.out) hb);(try clear hb);(try clear hb2);(try clear hk);(try clear hi);refine hK.out _ _ ⟨bc_ ja 0,bc_ ja 1,bc_ ja 2,bc_ ja 3,bc_ jb 0,bc_ jb 1,bc_ jb 2,bc_ jb 3,HS8_,HS9_,HS10_⟩ (fun hHeld=>?_);clear hK K;refine norm_ (a':=?_) ?_ ?_;rotate_left
      ·show Act.put _ (some 117) _=_
       simp only [Act.put,List.setIfInBounds_toArray,List.set_cons_zero,List.set_cons_succ,i64_w,i32_w]
       rfl
      refine pq_ 15 102 22 ?_;refine pq_ 16 118 22 ?_;refine pq_ 17 119 22 ?_;refine pq_ 18 120 22 ?_;refine pq_ 19 21 22 ?_;refine pq_ 20 22 22 ?_;refine pq_ 21 23 22 ?_;refine done_ (done_of HT_.out (by kernel_rfl)) ?_;obtain ⟨An_,cn_,en_⟩:=Kd.V_slice j1h.out;subst en_;(try have nz_:=(HNZ.out _ _ _ rfl).trans j3s)
      try go_wp2
      go_roundg k3
      case measure=>have:=HJ6.out;have:=HK2.out;have:=HK3.out;omega
      case rel=>exact ⟨(j2u),(j3w),(wrap64 (jh+1)),rt_,rt_,H',⟨by have:=HJ6.out;have:=HK2.out;have:=HK3.out;omega⟩,⟨vd_to j1h⟩,⟨vd_to j1d⟩,⟨blk_to ja⟩,⟨blk_to jb⟩,⟨below_to2 HB jf.out jg.out⟩,HNZ⟩
     rw [if_pos c134] at H;have j7o:=decide_eq_true c134;clear c134;have H':=ai_ H;clear H;have j2o:0≤(jh:Int):=odt_;have j2p:jh < (l4.length:Int):=odt_;obtain ⟨j7c,j4p,j4q,e227,j2q,hl227_0,hi227_0⟩:=at_L1 (Kd.V_reads' j1d.out).2.2 jh j2o j2p
     cases e227
     obtain ⟨ce227,hce227,hMe227,hcc227⟩:=Kd.V_get j1d.out [] jh j2o (by first|exact j2p|exact of_decide_eq_true (by first|(with_reducible assumption)|assumption)|(have e_:=(Kd.V_reads' j1d.out).1;omega));obtain ⟨ua227_0,uc227_0,rfl,ul227_0,ge227_0⟩:=Kd.FK_slice_open hMe227;have hv227_0:=hcc227 0 _ rfl;rw [Nat.add_zero,show ((Kd.slice 3 Ki_)).sz=1 from rfl,Nat.mul_one] at hv227_0;replace hv227_0:=Option.some.inj (hv227_0.symm.trans j2q)
     injection hv227_0 with hva_ hvn_ hvc_
     rw [hva_] at ge227_0;rw [hvc_] at ul227_0;have jw:=ai_ (show Kd.V Ki_ 3 _ w.heap.size _ _ (rd_L1 l4 jh) from Kd.V_mk ul227_0 ge227_0);clear hva_ hvn_ hvc_ ge227_0 ul227_0 hcc227 hce227;have jl:=ai_ hi227_0;have j3z:=ai_ hl227_0;clear hi227_0 hl227_0;replace j2o:=eq_true j2o;replace j2p:=eq_true j2p
     try go_wp2
     replace j1h:=ai_ (Kd.V_drew j1h.out);replace j1d:=ai_ (Kd.V_drew j1d.out);replace jw:=ai_ (Kd.V_drew jw.out);replace ja:=ai_ (blk_drew ja.out);replace jb:=ai_ (blk_drew jb.out);replace jl:=ai_ (Kd.C_drew jl.out);replace HB:=ai_ (below_drew1 HB.out)
     have j3b:0≤(0:Int):=(by omega)
     have j3c:0 < ((rd_L1 l4 jh).length:Int):=odt_;obtain ⟨j1i,e228,j1e⟩:=Kd.ati_ jl 0 j3b j3c
     cases e228
     have qi228:(0 < (rd_L1 l4 jh).length)=True:=eq_true (by omega);(try rw [show ((0:Int)).toNat=0 from rfl] at j1e);(try rw [Addr.add_zero'] at j1e);replace j3b:=eq_true j3b;replace j3c:=eq_true j3c
     have j3d:0≤(1:Int):=(by omega)
     have j3e:1 < ((rd_L1 l4 jh).length:Int):=odt_;obtain ⟨j3q,e229,j1f⟩:=Kd.ati_ jl 1 j3d j3e
     obtain rfl:j1i=j3q:=(by injection e229)
     (try simp only [show (1:Int).toNat=1 from rfl,Nat.reduceMul,Nat.reduceEqDiff,Go.Addr.add,↓reduceIte] at j1f);have qi229:(1 < (rd_L1 l4 jh).length)=True:=eq_true (by omega);(try rw [show ((1:Int)).toNat=1 from rfl] at j1f);replace j3d:=eq_true j3d;replace j3e:=eq_true j3e
     have j3f:0≤(2:Int):=(by omega)
     have j3g:2 < ((rd_L1 l4 jh).length:Int):=odt_;obtain ⟨j3r,e230,j1g⟩:=Kd.ati_ jl 2 j3f j3g
     obtain rfl:j1i=j3r:=(by injection e230)
     (try simp only [show (2:Int).toNat=2 from rfl,Nat.reduceMul,Nat.reduceEqDiff,Go.Addr.add,↓reduceIte] at j1g);have qi230:(2 < (rd_L1 l4 jh).length)=True:=eq_true (by omega);(try rw [show ((2:Int)).toNat=2 from rfl] at j1g);replace j3f:=eq_true j3f;replace j3g:=eq_true j3g;refine start_ (n:=22) (S:=fun w'=>w'.cell? ⟨jo,0,none⟩=some (.int .i64 jt)∧w'.cell? ⟨jo,1,none⟩=some (.int .i64 ju)∧w'.cell? ⟨jo,2,none⟩=some (.int .i64 jv)∧w'.cell? ⟨jo,3,none⟩=some (.slice j1s js.length j1t)∧w'.cell? ⟨jr,0,none⟩=some (.int .i64 jz)∧w'.cell? ⟨jr,1,none⟩=some (.int .i64 j1a)∧w'.cell? ⟨jr,2,none⟩=some (.int .i64 j1b)∧w'.cell? ⟨jr,3,none⟩=some (.slice j2g jx.length j2h)∧w'.cell? j1i=some (.int .i64 (rd (rd_L1 l4 jh) 0))∧w'.cell? ⟨j1i.block,j1i.off+1,none⟩=some (.int .i64 (rd (rd_L1 l4 jh) 1))∧w'.cell? ⟨j1i.block,j1i.off+2,none⟩=some (.int .i64 (rd (rd_L1 l4 jh) 2))) (ds:=[]) (fr_ [0,22]) (by kernel_rfl) rfl rfl ⟨bc_ ja 0,bc_ ja 1,bc_ ja 2,bc_ ja 3,bc_ jb 0,bc_ jb 1,bc_ jb 2,bc_ jb 3,j1e,j1f,j1g⟩ (fun hHeld=>?_);refine with_tabW impl_BestChange.tab14 impl_BestChange.bits14 (fun HT_ HW_=>?_);generalize wr.drew=j9d at j1h j1d jw ja jb jl HB j1e j1f j1g hHeld ⊢;refine pS_ 1 104 (fr_ [0,1,1,20]) HT_ ?_;refine pS_ 2 105 (fr_ [0,1,2,19]) HT_ ?_;refine pS_ 3 106 (fr_ [0,1,3,18]) HT_ ?_;refine pS_ 6 109 (fr_ [0,1,3,2,1,15]) HT_ ?_;refine pS_ 7 110 (fr_ [0,1,3,2,2,14]) HT_ ?_;refine pS_ 9 112 (fr_ [0,1,3,2,2,1,1,12]) HT_ ?_;refine pS_ 10 113 (fr_ [0,1,3,2,2,1,2,11]) HT_ ?_;refine pS_ 11 114 (fr_ [0,1,3,2,2,1,3,10]) HT_ ?_;refine pS_ 13 116 (fr_ [0,1,3,2,2,1,3,1,1,8]) HT_ ?_;refine tk11_ 0 103 (fr_ [4,2,2,1,3,1,1,8]) HT_ HW_ hHeld ?_;refine tk11_ 4 107 (fr_ [5,1,2,1,3,1,1,8]) HT_ HW_ hHeld ?_;refine tk11_ 5 108 (fr_ [8,1,3,1,1,8]) HT_ HW_ hHeld ?_;refine tk11_ 8 111 (fr_ [12,1,1,8]) HT_ HW_ hHeld ?_;refine tk11_ 12 115 (fr_ [14,8]) HT_ HW_ hHeld ?_;refine on_ 14 117 (fr_ [15,7]) HT_ (fun K hK=>?_);refine gs_ Try.func53 #[ag_ jt ju jv j1s js j1t,.int .i64 a1,.int .i64 (rd (rd_L1 l4 jh) 0),ag_ jz j1a j1b j2g jx j2h,.int .i64 (rd (rd_L1 l4 jh) 1),.int .i64 a3,.int .i64 (rd (rd_L1 l4 jh) 2),.int .i64 a5] ?_
     with_reducible refine (impl_changeAt.calls jt ju jv _ _ js a1 (rd (rd_L1 l4 jh) 0) jz j1a j1b _ _ jx (rd (rd_L1 l4 jh) 1) a3 (rd (rd_L1 l4 jh) 2) a5 j7f j4o true _ ?side1 ?side2 ?side3 ?side4 A129.out).mono ?_
     (case side1=>exact cb_ j2l HB)
     (case side2=>exact j2m.out)
     (case side3=>exact cb_ j2r HB)
     (case side4=>exact j2s.out)
     rintro e j9e ⟨rfl,hb⟩;have HS8_:=hc_ hb hHeld.2.2.2.2.2.2.2.2.1;have HS9_:=hc_ hb hHeld.2.2.2.2.2.2.2.2.2.1;have HS10_:=hc_ hb hHeld.2.2.2.2.2.2.2.2.2.2;refine ⟨_,rfl,?_⟩;replace j1h:=ai_ (Kd.V_below (vd_to j1h) hb);replace j1d:=ai_ (Kd.V_below (vd_to j1d) hb);replace jw:=ai_ (Kd.V_below (vd_to jw) hb);replace ja:=bb_ ja hb;replace jb:=bb_ jb hb;replace jl:=ai_ (cbl_ jl hb);replace HB:=ai_ (below_step (below_to2 HB jf.out jg.out) hb);(try clear hb);(try clear hb2);(try clear hk);(try clear hi);refine hK.out _ _ ⟨bc_ ja 0,bc_ ja 1,bc_ ja 2,bc_ ja 3,bc_ jb 0,bc_ jb 1,bc_ jb 2,bc_ jb 3,HS8_,HS9_,HS10_⟩ (fun hHeld=>?_);clear hK K;refine norm_ (a':=?_) ?_ ?_;rotate_left
     ·show Act.put _ (some 117) _=_
      simp only [Act.put,List.setIfInBounds_toArray,List.set_cons_zero,List.set_cons_succ,i64_w,i32_w]
      rfl
     refine pq_ 15 102 22 ?_;refine pq_ 16 118 22 ?_;refine pq_ 17 119 22 ?_;refine pq_ 18 120 22 ?_;refine pq_ 19 21 22 ?_;refine pq_ 20 22 22 ?_;refine pq_ 21 23 22 ?_;refine done_ (done_of HT_.out (by kernel_rfl)) ?_;obtain ⟨An_,cn_,en_⟩:=Kd.V_slice j1h.out;subst en_;(try have nz_:=(HNZ.out _ _ _ rfl).trans j3s)
     try go_wp2
     go_roundg k3
     case measure=>have:=HJ6.out;have:=HK2.out;have:=HK3.out;omega
     case rel=>exact ⟨(rd_L1 l4 jh),(j4o),(wrap64 (jh+1)),rt_,rt_,H',⟨by have:=HJ6.out;have:=HK2.out;have:=HK3.out;omega⟩,⟨vd_to jw⟩,⟨vd_to j1d⟩,⟨blk_to ja⟩,⟨blk_to jb⟩,⟨below_to2 HB jf.out jg.out⟩,⟨impl_BestChange.nz_row jl.out (of_decide_eq_true (by assumption))⟩⟩
   rw [if_pos c57] at H;have j7h:=decide_eq_true c57;clear c57
   by_cases c58:0≤jc
   rotate_left
   ·rw [if_neg c58] at H
    cases H
   rw [if_pos c58] at H;have j8n:=decide_eq_true c58;clear c58
   by_cases c59:jc < (l4.length:Int)
   rotate_left
   ·rw [if_neg c59] at H
    cases H
   rw [if_pos c59] at H;have j8o:=decide_eq_true c59;clear c59
   by_cases c60:((rd_L1 l4 jc).length:Int)=3
   rotate_left
   ·rw [if_neg c60] at H
    have j7i:=beq_eq_false_iff_ne.mpr c60;have j7j:=bne_iff_ne.mpr c60;simp only [Option.some.injEq,Prod.mk.injEq] at H;obtain ⟨rfl,rfl,rfl⟩:=H;have j1o:0≤(jc:Int):=odt_;have j1p:jc < (l4.length:Int):=odt_;obtain ⟨j3x,j3j,j3k,e212,j1n,hl212_0,hi212_0⟩:=at_L1 (Kd.V_reads' ji.out).2.2 jc j1o j1p
    cases e212
    obtain ⟨ce212,hce212,hMe212,hcc212⟩:=Kd.V_get ji.out [] jc j1o (by first|exact j1p|exact of_decide_eq_true (by first|(with_reducible assumption)|assumption)|(have e_:=(Kd.V_reads' ji.out).1;omega));obtain ⟨ua212_0,uc212_0,rfl,ul212_0,ge212_0⟩:=Kd.FK_slice_open hMe212;have hv212_0:=hcc212 0 _ rfl;rw [Nat.add_zero,show ((Kd.slice 3 Ki_)).sz=1 from rfl,Nat.mul_one] at hv212_0;replace hv212_0:=Option.some.inj (hv212_0.symm.trans j1n)
    injection hv212_0 with hva_ hvn_ hvc_
    rw [hva_] at ge212_0;rw [hvc_] at ul212_0;have je:=ai_ (show Kd.V Ki_ 3 _ w.heap.size _ _ (rd_L1 l4 jc) from Kd.V_mk ul212_0 ge212_0);clear hva_ hvn_ hvc_ ge212_0 ul212_0 hcc212 hce212;have jd:=ai_ hi212_0;have j2z:=ai_ hl212_0;clear hi212_0 hl212_0;replace j1o:=eq_true j1o;replace j1p:=eq_true j1p
    try go_wp2
    replace jq:=ai_ (Kd.V_drew jq.out);replace ji:=ai_ (Kd.V_drew ji.out);replace je:=ai_ (Kd.V_drew je.out);replace ja:=ai_ (blk_drew ja.out);replace jb:=ai_ (blk_drew jb.out);replace jd:=ai_ (Kd.C_drew jd.out);replace HB:=ai_ (below_drew1 HB.out);refine start_ (n:=42) (S:=fun w'=>True) (ds:=[]) (fr_ [0,42]) (by kernel_rfl) rfl rfl trivial (fun hHeld=>?_);refine with_tabW impl_BestChange.tab6 impl_BestChange.bits6 (fun HT_ HW_=>?_);generalize wr.drew=j9f at jq ji je ja jb jd HB hHeld ⊢;refine pq_ 0 53 42 ?_;refine pq_ 1 54 42 ?_;refine pq_ 2 55 42 ?_;refine pq_ 3 56 42 ?_;refine pv_ 4 57 42 ?_;refine pv_ 5 58 42 ?_;refine pv_ 6 59 42 ?_;refine pv_ 7 60 42 ?_;refine pv_ 8 61 42 ?_;refine pv_ 9 62 42 ?_;refine pv_ 10 63 42 ?_;refine pq_ 11 64 42 ?_;refine pq_ 12 65 42 ?_;refine pv_ 13 66 42 ?_;refine pv_ 14 67 42 ?_;refine pv_ 15 68 42 ?_;refine pv_ 16 69 42 ?_;refine pv_ 17 70 42 ?_;refine pv_ 18 71 42 ?_;refine pv_ 19 72 42 ?_;refine pq_ 20 73 42 ?_;refine pq_ 21 74 42 ?_;refine pv_ 22 75 42 ?_;refine pv_ 23 76 42 ?_;refine pv_ 24 77 42 ?_;refine pv_ 25 78 42 ?_;refine pv_ 26 79 42 ?_;refine pq_ 27 80 42 ?_;refine pq_ 28 81 42 ?_;refine pv_ 29 82 42 ?_;refine pv_ 30 83 42 ?_;refine pv_ 31 84 42 ?_;refine pv_ 32 85 42 ?_;refine pv_ 33 86 42 ?_;refine pq_ 34 87 42 ?_;refine pq_ 35 88 42 ?_;refine pv_ 36 89 42 ?_;refine pv_ 37 90 42 ?_;refine pv_ 38 91 42 ?_;refine pv_ 39 92 42 ?_;refine pv_ 40 93 42 ?_;refine pq_ 41 94 42 ?_;refine done_ (done_of HT_.out (by kernel_rfl)) ?_
    try go_wp2
    go_ret3
    exact ⟨_,rtE_,by first|exact Kd.R_nil _ _ _ _ _|exact Kd.N_nil _ _ _ _ _|exact Kd.V_nil _ _ _ _ _|exact Kd.Q_nil _ _ _ _ _|exact Kd.S_nil _ _ _ _ _,below_to2 HB jf.out jg.out⟩
   rw [if_pos c60] at H;have j7i:=beq_iff_eq.mpr c60;have j7j:=bne_eq_false_iff_eq.mpr c60;clear c60
   by_cases c61:0 < ((rd_L1 l4 jc).length:Int)
   rotate_left
   ·rw [if_neg c61] at H
    cases H
   rw [if_pos c61] at H;have j8p:=decide_eq_true c61;have j8q:decide (0 < (rd_L1 l4 jc).length)=true:=decide_eq_true (by omega);clear c61
   obtain ⟨j3l,hy214⟩:∃ y_:List Int,y_=(([rd (rd_L1 l4 jc) 0]:List Int)):=⟨_,rfl⟩
   replace H:((impl_hasStops.f k2 jt ju jv js j3l).bind fun j7a=>(if j7a=true then (if 1 < ((rd_L1 l4 jc).length:Int) then ((impl_hasStops.f k2 jz j1a j1b jx (([rd (rd_L1 l4 jc) 1]:List Int))).bind fun j4h=>(if j4h=true then (if a1≥(rd (rd_L1 l4 jc) 0) then (some (([]:List Int),0,false)) else (if (rd (rd_L1 l4 jc) 1)≥a3 then (some (([]:List Int),0,false)) else (if 2 < ((rd_L1 l4 jc).length:Int) then ((impl_isWalk.f (rd (rd_L1 l4 jc) 2)).bind fun j4i=>(if j4i=true then (impl_BestChange.l0 k2 a1 a3 l4 a5 l4 (l4.length:Int) (wrap64 (jc+1)) jt ju jv js jz j1a j1b jx) else (some (([]:List Int),0,false)))) else (none)))) else (some (([]:List Int),0,false)))) else (none)) else (some (([]:List Int),0,false))))=some (r1,r2,r3):=rx_ H hy214;have j2t:=ai_ hy214;clear hy214;obtain ⟨j7a,A62,H⟩:=bs_ H;(try dsimp only at H)
   by_cases c63:j7a=true
   rotate_left
   ·replace c63:=Bool.eq_false_iff.mpr c63
    subst c63;rw [if_neg ft_] at H;simp only [Option.some.injEq,Prod.mk.injEq] at H;obtain ⟨rfl,rfl,rfl⟩:=H;have j1o:0≤(jc:Int):=odt_;have j1p:jc < (l4.length:Int):=odt_;obtain ⟨j3x,j3j,j3k,e212,j1n,hl212_0,hi212_0⟩:=at_L1 (Kd.V_reads' ji.out).2.2 jc j1o j1p
    cases e212
    obtain ⟨ce212,hce212,hMe212,hcc212⟩:=Kd.V_get ji.out [] jc j1o (by first|exact j1p|exact of_decide_eq_true (by first|(with_reducible assumption)|assumption)|(have e_:=(Kd.V_reads' ji.out).1;omega));obtain ⟨ua212_0,uc212_0,rfl,ul212_0,ge212_0⟩:=Kd.FK_slice_open hMe212;have hv212_0:=hcc212 0 _ rfl;rw [Nat.add_zero,show ((Kd.slice 3 Ki_)).sz=1 from rfl,Nat.mul_one] at hv212_0;replace hv212_0:=Option.some.inj (hv212_0.symm.trans j1n)
    injection hv212_0 with hva_ hvn_ hvc_
    rw [hva_] at ge212_0;rw [hvc_] at ul212_0;have je:=ai_ (show Kd.V Ki_ 3 _ w.heap.size _ _ (rd_L1 l4 jc) from Kd.V_mk ul212_0 ge212_0);clear hva_ hvn_ hvc_ ge212_0 ul212_0 hcc212 hce212;have jd:=ai_ hi212_0;have j2z:=ai_ hl212_0;clear hi212_0 hl212_0;replace j1o:=eq_true j1o;replace j1p:=eq_true j1p
    try go_wp2
    replace jq:=ai_ (Kd.V_drew jq.out);replace ji:=ai_ (Kd.V_drew ji.out);replace je:=ai_ (Kd.V_drew je.out);replace ja:=ai_ (blk_drew ja.out);replace jb:=ai_ (blk_drew jb.out);replace jd:=ai_ (Kd.C_drew jd.out);replace HB:=ai_ (below_drew1 HB.out)
    have j2i:0≤(0:Int):=(by omega)
    have j2j:0 < ((rd_L1 l4 jc).length:Int):=odt_;obtain ⟨jk,e213,jp⟩:=Kd.ati_ jd 0 j2i j2j
    cases e213
    have qi213:(0 < (rd_L1 l4 jc).length)=True:=eq_true (by omega);(try rw [show ((0:Int)).toNat=0 from rfl] at jp);(try rw [Addr.add_zero'] at jp);replace j2i:=eq_true j2i;replace j2j:=eq_true j2j;refine start_ (n:=42) (S:=fun w'=>w'.cell? ⟨jo,0,none⟩=some (.int .i64 jt)∧w'.cell? ⟨jo,1,none⟩=some (.int .i64 ju)∧w'.cell? ⟨jo,2,none⟩=some (.int .i64 jv)∧w'.cell? ⟨jo,3,none⟩=some (.slice j1s js.length j1t)∧w'.cell? jk=some (.int .i64 (rd (rd_L1 l4 jc) 0))) (ds:=[]) (fr_ [0,42]) (by kernel_rfl) rfl rfl ⟨bc_ ja 0,bc_ ja 1,bc_ ja 2,bc_ ja 3,jp⟩ (fun hHeld=>?_);refine with_tabW impl_BestChange.tab6 impl_BestChange.bits6 (fun HT_ HW_=>?_);generalize wr.drew=j9g at jq ji je ja jb jd HB jp hHeld ⊢;refine pq_ 0 53 42 ?_;refine pq_ 1 54 42 ?_;refine pq_ 2 55 42 ?_;refine pq_ 3 56 42 ?_;refine pS_ 5 58 (fr_ [4,1,1,36]) HT_ ?_;refine pS_ 6 59 (fr_ [4,1,2,35]) HT_ ?_;refine tk5_ 4 57 (fr_ [7,35]) HT_ HW_ hHeld ?_;refine tk5_ 7 60 (fr_ [8,34]) HT_ HW_ hHeld ?_;refine on_ 8 61 (fr_ [9,33]) HT_ (fun K hK=>?_);refine Kd.R_lit_step Ki_ _ 3 ?hg (N:=61) ?hd (xs:=([rd (rd_L1 l4 jc) 0]:List Int)) (inner:=[.int .i64 (rd (rd_L1 l4 jc) 0)]) (ok:=fun _=>True) (okp:=fun _=>True) ?hr ?hp (fun _ hk=>hk) trivial (Below.refl _ _) (Nat.le_refl _) (by simp) ?_;(case hd=>rfl);(case hg=>rfl);(case hr=>first|(go_simp;done)|(go_simp;rfl));(case hp=>exact (Reps.one (show Kd.M Ki_ _ _ _ (rd (rd_L1 l4 jc) 0) [.int .i64 (rd (rd_L1 l4 jc) 0)] from rfl) (Reps.none _ _)));intro j7d j9h j3n hb hg_ hnew_;have HS4_:=hc_ hb hHeld.2.2.2.2;clear hg_ hnew_
    (first|rw [← j2t.out] at j3n|(simp only [Int.reduceToNat] at j3n;rw [← j2t.out] at j3n))
    replace jq:=ai_ (Kd.V_elder' (vd_to jq) (Kd.R_base j3n) hb);replace ji:=ai_ (Kd.V_elder' (vd_to ji) (Kd.R_base j3n) hb);replace je:=ai_ (Kd.V_elder' (vd_to je) (Kd.R_base j3n) hb);have jm:=ai_ (Kd.R_lower (Kd.R_newM (M:=fun k_=>(w.heap.size≤k_)) j3n (below_size (below_to2 HB jf.out jg.out)) (fun k_ h_=>h_)) (below_size (below_to2 HB jf.out jg.out)));replace ja:=bb_ ja hb;replace jb:=bb_ jb hb;replace jd:=ai_ (cbl_ jd hb);replace HB:=ai_ (below_step (below_to2 HB jf.out jg.out) hb);clear hb j3n;obtain ⟨Ao120,co120,eo120⟩:=Kd.R_slice jm.out
    (first|subst eo120|(injection eo120 with f1_ f2_ f3_;have f4_:=f1_.symm;have f5_:=f3_.symm;clear f1_ f2_ f3_;subst f4_;subst f5_))
    refine hK.out _ _ ⟨bc_ ja 0,bc_ ja 1,bc_ ja 2,bc_ ja 3,HS4_⟩ (fun hHeld=>?_);clear hK K;refine norm_ (a':=?_) ?_ ?_;rotate_left
    ·show Act.put _ (some 61) _=_
     simp only [Act.put,List.setIfInBounds_toArray,List.set_cons_zero,List.set_cons_succ,i64_w,i32_w]
     rfl
    refine on_ 9 62 (fr_ [10,32]) HT_ (fun K hK=>?_);refine gs_ Try.func49 #[ag_ jt ju jv j1s js j1t,.slice Ao120 j3l.length co120] ?_
    with_reducible refine (impl_hasStops.calls k2 jt ju jv _ _ js _ _ j3l false _ ?side1 ?side2 ?side3 ?side4 A62.out).mono ?_
    (case side1=>exact cb_ j2l HB)
    (case side2=>exact j2m.out)
    (case side3=>exact cR_ jm)
    (case side4=>exact (Kd.R_reads' jm.out).2.1)
    rintro e j9i ⟨rfl,hb⟩;have HS4_:=hc_ hb hHeld.2.2.2.2;refine ⟨_,rfl,?_⟩;replace jq:=ai_ (Kd.V_below (vd_to jq) hb);replace ji:=ai_ (Kd.V_below (vd_to ji) hb);replace je:=ai_ (Kd.V_below (vd_to je) hb);replace jm:=rb_ jm hb;replace ja:=bb_ ja hb;replace jb:=bb_ jb hb;replace jd:=ai_ (cbl_ jd hb);replace HB:=ai_ (below_step (below_to2 HB jf.out jg.out) hb);(try clear hb);(try clear hb2);(try clear hk);(try clear hi);refine hK.out _ _ ⟨bc_ ja 0,bc_ ja 1,bc_ ja 2,bc_ ja 3,HS4_⟩ (fun hHeld=>?_);clear hK K;refine norm_ (a':=?_) ?_ ?_;rotate_left
    ·show Act.put _ (some 62) _=_
     simp only [Act.put,List.setIfInBounds_toArray,List.set_cons_zero,List.set_cons_succ,i64_w,i32_w]
     rfl
    refine pq_ 10 63 42 ?_;refine pq_ 11 64 42 ?_;refine pq_ 12 65 42 ?_;refine pv_ 13 66 42 ?_;refine pv_ 14 67 42 ?_;refine pv_ 15 68 42 ?_;refine pv_ 16 69 42 ?_;refine pv_ 17 70 42 ?_;refine pv_ 18 71 42 ?_;refine pv_ 19 72 42 ?_;refine pq_ 20 73 42 ?_;refine pq_ 21 74 42 ?_;refine pv_ 22 75 42 ?_;refine pv_ 23 76 42 ?_;refine pv_ 24 77 42 ?_;refine pv_ 25 78 42 ?_;refine pv_ 26 79 42 ?_;refine pq_ 27 80 42 ?_;refine pq_ 28 81 42 ?_;refine pv_ 29 82 42 ?_;refine pv_ 30 83 42 ?_;refine pv_ 31 84 42 ?_;refine pv_ 32 85 42 ?_;refine pv_ 33 86 42 ?_;refine pq_ 34 87 42 ?_;refine pq_ 35 88 42 ?_;refine pv_ 36 89 42 ?_;refine pv_ 37 90 42 ?_;refine pv_ 38 91 42 ?_;refine pv_ 39 92 42 ?_;refine pv_ 40 93 42 ?_;refine pq_ 41 94 42 ?_;refine done_ (done_of HT_.out (by kernel_rfl)) ?_
    try go_wp2
    go_ret3
    exact ⟨_,rtE_,by first|exact Kd.R_nil _ _ _ _ _|exact Kd.N_nil _ _ _ _ _|exact Kd.V_nil _ _ _ _ _|exact Kd.Q_nil _ _ _ _ _|exact Kd.S_nil _ _ _ _ _,below_to2 HB jf.out jg.out⟩
   subst c63;rw [if_pos rfl] at H
   by_cases c64:1 < ((rd_L1 l4 jc).length:Int)
   rotate_left
   ·rw [if_neg c64] at H
    cases H
   rw [if_pos c64] at H;have j8r:=decide_eq_true c64;have j8s:decide (1 < (rd_L1 l4 jc).length)=true:=decide_eq_true (by omega);clear c64
   obtain ⟨j3t,hy219⟩:∃ y_:List Int,y_=(([rd (rd_L1 l4 jc) 1]:List Int)):=⟨_,rfl⟩
   replace H:((impl_hasStops.f k2 jz j1a j1b jx j3t).bind fun j4h=>(if j4h=true then (if a1≥(rd (rd_L1 l4 jc) 0) then (some (([]:List Int),0,false)) else (if (rd (rd_L1 l4 jc) 1)≥a3 then (some (([]:List Int),0,false)) else (if 2 < ((rd_L1 l4 jc).length:Int) then ((impl_isWalk.f (rd (rd_L1 l4 jc) 2)).bind fun j4i=>(if j4i=true then (impl_BestChange.l0 k2 a1 a3 l4 a5 l4 (l4.length:Int) (wrap64 (jc+1)) jt ju jv js jz j1a j1b jx) else (some (([]:List Int),0,false)))) else (none)))) else (some (([]:List Int),0,false))))=some (r1,r2,r3):=rx_ H hy219;have j3a:=ai_ hy219;clear hy219;obtain ⟨j4h,A65,H⟩:=bs_ H;(try dsimp only at H)
   by_cases c66:j4h=true
   rotate_left
   ·replace c66:=Bool.eq_false_iff.mpr c66
    subst c66;rw [if_neg ft_] at H;simp only [Option.some.injEq,Prod.mk.injEq] at H;obtain ⟨rfl,rfl,rfl⟩:=H;have j1o:0≤(jc:Int):=odt_;have j1p:jc < (l4.length:Int):=odt_;obtain ⟨j3x,j3j,j3k,e212,j1n,hl212_0,hi212_0⟩:=at_L1 (Kd.V_reads' ji.out).2.2 jc j1o j1p
    cases e212
    obtain ⟨ce212,hce212,hMe212,hcc212⟩:=Kd.V_get ji.out [] jc j1o (by first|exact j1p|exact of_decide_eq_true (by first|(with_reducible assumption)|assumption)|(have e_:=(Kd.V_reads' ji.out).1;omega));obtain ⟨ua212_0,uc212_0,rfl,ul212_0,ge212_0⟩:=Kd.FK_slice_open hMe212;have hv212_0:=hcc212 0 _ rfl;rw [Nat.add_zero,show ((Kd.slice 3 Ki_)).sz=1 from rfl,Nat.mul_one] at hv212_0;replace hv212_0:=Option.some.inj (hv212_0.symm.trans j1n)
    injection hv212_0 with hva_ hvn_ hvc_
    rw [hva_] at ge212_0;rw [hvc_] at ul212_0;have je:=ai_ (show Kd.V Ki_ 3 _ w.heap.size _ _ (rd_L1 l4 jc) from Kd.V_mk ul212_0 ge212_0);clear hva_ hvn_ hvc_ ge212_0 ul212_0 hcc212 hce212;have jd:=ai_ hi212_0;have j2z:=ai_ hl212_0;clear hi212_0 hl212_0;replace j1o:=eq_true j1o;replace j1p:=eq_true j1p
    try go_wp2
    replace jq:=ai_ (Kd.V_drew jq.out);replace ji:=ai_ (Kd.V_drew ji.out);replace je:=ai_ (Kd.V_drew je.out);replace ja:=ai_ (blk_drew ja.out);replace jb:=ai_ (blk_drew jb.out);replace jd:=ai_ (Kd.C_drew jd.out);replace HB:=ai_ (below_drew1 HB.out)
    have j2i:0≤(0:Int):=(by omega)
    have j2j:0 < ((rd_L1 l4 jc).length:Int):=odt_;obtain ⟨jk,e213,jp⟩:=Kd.ati_ jd 0 j2i j2j
    cases e213
    have qi213:(0 < (rd_L1 l4 jc).length)=True:=eq_true (by omega);(try rw [show ((0:Int)).toNat=0 from rfl] at jp);(try rw [Addr.add_zero'] at jp);replace j2i:=eq_true j2i;replace j2j:=eq_true j2j
    have j1j:0≤(1:Int):=(by omega)
    have j1k:1 < ((rd_L1 l4 jc).length:Int):=odt_;obtain ⟨j2c,e218,jj⟩:=Kd.ati_ jd 1 j1j j1k
    obtain rfl:jk=j2c:=(by injection e218)
    (try simp only [show (1:Int).toNat=1 from rfl,Nat.reduceMul,Nat.reduceEqDiff,Go.Addr.add,↓reduceIte] at jj);have qi218:(1 < (rd_L1 l4 jc).length)=True:=eq_true (by omega);(try rw [show ((1:Int)).toNat=1 from rfl] at jj);replace j1j:=eq_true j1j;replace j1k:=eq_true j1k;refine start_ (n:=42) (S:=fun w'=>w'.cell? ⟨jo,0,none⟩=some (.int .i64 jt)∧w'.cell? ⟨jo,1,none⟩=some (.int .i64 ju)∧w'.cell? ⟨jo,2,none⟩=some (.int .i64 jv)∧w'.cell? ⟨jo,3,none⟩=some (.slice j1s js.length j1t)∧w'.cell? ⟨jr,0,none⟩=some (.int .i64 jz)∧w'.cell? ⟨jr,1,none⟩=some (.int .i64 j1a)∧w'.cell? ⟨jr,2,none⟩=some (.int .i64 j1b)∧w'.cell? ⟨jr,3,none⟩=some (.slice j2g jx.length j2h)∧w'.cell? jk=some (.int .i64 (rd (rd_L1 l4 jc) 0))∧w'.cell? ⟨jk.block,jk.off+1,none⟩=some (.int .i64 (rd (rd_L1 l4 jc) 1))) (ds:=[]) (fr_ [0,42]) (by kernel_rfl) rfl rfl ⟨bc_ ja 0,bc_ ja 1,bc_ ja 2,bc_ ja 3,bc_ jb 0,bc_ jb 1,bc_ jb 2,bc_ jb 3,jp,jj⟩ (fun hHeld=>?_);refine with_tabW impl_BestChange.tab6 impl_BestChange.bits6 (fun HT_ HW_=>?_);clear jj j1j j1k qi218;generalize wr.drew=j9j at jq ji je ja jb jd HB jp hHeld ⊢;refine pq_ 0 53 42 ?_;refine pq_ 1 54 42 ?_;refine pq_ 2 55 42 ?_;refine pq_ 3 56 42 ?_;refine pS_ 5 58 (fr_ [4,1,1,36]) HT_ ?_;refine pS_ 6 59 (fr_ [4,1,2,35]) HT_ ?_;refine tk10_ 4 57 (fr_ [7,35]) HT_ HW_ hHeld ?_;refine tk10_ 7 60 (fr_ [8,34]) HT_ HW_ hHeld ?_;refine on_ 8 61 (fr_ [9,33]) HT_ (fun K hK=>?_);refine Kd.R_lit_step Ki_ _ 3 ?hg (N:=61) ?hd (xs:=([rd (rd_L1 l4 jc) 0]:List Int)) (inner:=[.int .i64 (rd (rd_L1 l4 jc) 0)]) (ok:=fun _=>True) (okp:=fun _=>True) ?hr ?hp (fun _ hk=>hk) trivial (Below.refl _ _) (Nat.le_refl _) (by simp) ?_;(case hd=>rfl);(case hg=>rfl);(case hr=>first|(go_simp;done)|(go_simp;rfl));(case hp=>exact (Reps.one (show Kd.M Ki_ _ _ _ (rd (rd_L1 l4 jc) 0) [.int .i64 (rd (rd_L1 l4 jc) 0)] from rfl) (Reps.none _ _)));intro j7d j9k j3o hb hg_ hnew_;have HS8_:=hc_ hb hHeld.2.2.2.2.2.2.2.2.1;have HS9_:=hc_ hb hHeld.2.2.2.2.2.2.2.2.2;clear hg_ hnew_
    (first|rw [← j2t.out] at j3o|(simp only [Int.reduceToNat] at j3o;rw [← j2t.out] at j3o))
    replace jq:=ai_ (Kd.V_elder' (vd_to jq) (Kd.R_base j3o) hb);replace ji:=ai_ (Kd.V_elder' (vd_to ji) (Kd.R_base j3o) hb);replace je:=ai_ (Kd.V_elder' (vd_to je) (Kd.R_base j3o) hb);have jm:=ai_ (Kd.R_lower (Kd.R_newM (M:=fun k_=>(w.heap.size≤k_)) j3o (below_size (below_to2 HB jf.out jg.out)) (fun k_ h_=>h_)) (below_size (below_to2 HB jf.out jg.out)));replace ja:=bb_ ja hb;replace jb:=bb_ jb hb;replace jd:=ai_ (cbl_ jd hb);replace HB:=ai_ (below_step (below_to2 HB jf.out jg.out) hb);clear hb j3o;obtain ⟨Ao111,co111,eo111⟩:=Kd.R_slice jm.out
    (first|subst eo111|(injection eo111 with f1_ f2_ f3_;have f4_:=f1_.symm;have f5_:=f3_.symm;clear f1_ f2_ f3_;subst f4_;subst f5_))
    refine hK.out _ _ ⟨bc_ ja 0,bc_ ja 1,bc_ ja 2,bc_ ja 3,bc_ jb 0,bc_ jb 1,bc_ jb 2,bc_ jb 3,HS8_,HS9_⟩ (fun hHeld=>?_);clear hK K;refine norm_ (a':=?_) ?_ ?_;rotate_left
    ·show Act.put _ (some 61) _=_
     simp only [Act.put,List.setIfInBounds_toArray,List.set_cons_zero,List.set_cons_succ,i64_w,i32_w]
     rfl
    refine on_ 9 62 (fr_ [10,32]) HT_ (fun K hK=>?_);refine gs_ Try.func49 #[ag_ jt ju jv j1s js j1t,.slice Ao111 j3l.length co111] ?_
    with_reducible refine (impl_hasStops.calls k2 jt ju jv _ _ js _ _ j3l true _ ?side1 ?side2 ?side3 ?side4 A62.out).mono ?_
    (case side1=>exact cb_ j2l HB)
    (case side2=>exact j2m.out)
    (case side3=>exact cR_ jm)
    (case side4=>exact (Kd.R_reads' jm.out).2.1)
    rintro e j9l ⟨rfl,hb⟩;have HS8_:=hc_ hb hHeld.2.2.2.2.2.2.2.2.1;have HS9_:=hc_ hb hHeld.2.2.2.2.2.2.2.2.2;refine ⟨_,rfl,?_⟩;replace jq:=ai_ (Kd.V_below (vd_to jq) hb);replace ji:=ai_ (Kd.V_below (vd_to ji) hb);replace je:=ai_ (Kd.V_below (vd_to je) hb);replace jm:=rb_ jm hb;replace ja:=bb_ ja hb;replace jb:=bb_ jb hb;replace jd:=ai_ (cbl_ jd hb);replace HB:=ai_ (below_step (below_to2 HB jf.out jg.out) hb);(try clear hb);(try clear hb2);(try clear hk);(try clear hi)
    have j1j:0≤(1:Int):=(by omega)
    have j1k:1 < ((rd_L1 l4 jc).length:Int):=odt_;obtain ⟨j2c,e218,jj⟩:=Kd.ati_ jd 1 j1j j1k
    obtain rfl:jk=j2c:=(by injection e218)
    (try simp only [show (1:Int).toNat=1 from rfl,Nat.reduceMul,Nat.reduceEqDiff,Go.Addr.add,↓reduceIte] at jj);have qi218:(1 < (rd_L1 l4 jc).length)=True:=eq_true (by omega);(try rw [show ((1:Int)).toNat=1 from rfl] at jj);replace j1j:=eq_true j1j;replace j1k:=eq_true j1k;refine hK.out _ _ ⟨bc_ ja 0,bc_ ja 1,bc_ ja 2,bc_ ja 3,bc_ jb 0,bc_ jb 1,bc_ jb 2,bc_ jb 3,HS8_,HS9_⟩ (fun hHeld=>?_);clear hK K;refine norm_ (a':=?_) ?_ ?_;rotate_left
    ·show Act.put _ (some 62) _=_
     simp only [Act.put,List.setIfInBounds_toArray,List.set_cons_zero,List.set_cons_succ,i64_w,i32_w]
     rfl
    refine pq_ 10 63 42 ?_;refine pq_ 11 64 42 ?_;refine pq_ 12 65 42 ?_;refine pS_ 14 67 (fr_ [13,1,1,27]) HT_ ?_;refine pS_ 15 68 (fr_ [13,1,2,26]) HT_ ?_;refine tk10_ 13 66 (fr_ [16,26]) HT_ HW_ hHeld ?_;refine tk10_ 16 69 (fr_ [17,25]) HT_ HW_ hHeld ?_;refine on_ 17 70 (fr_ [18,24]) HT_ (fun K hK=>?_);refine Kd.R_lit_step Ki_ _ 3 ?hg (N:=70) ?hd (xs:=([rd (rd_L1 l4 jc) 1]:List Int)) (inner:=[.int .i64 (rd (rd_L1 l4 jc) 1)]) (ok:=fun _=>True) (okp:=fun _=>True) ?hr ?hp (fun _ hk=>hk) trivial (Below.refl _ _) (Nat.le_refl _) (by simp) ?_;(case hd=>rfl);(case hg=>rfl);(case hr=>first|(go_simp;done)|(go_simp;rfl));(case hp=>exact (Reps.one (show Kd.M Ki_ _ _ _ (rd (rd_L1 l4 jc) 1) [.int .i64 (rd (rd_L1 l4 jc) 1)] from rfl) (Reps.none _ _)));intro j7g j9m j3h hb hg_ hnew_;have HS8_:=hc_ hb hHeld.2.2.2.2.2.2.2.2.1;have HS9_:=hc_ hb hHeld.2.2.2.2.2.2.2.2.2;clear hg_ hnew_
    (first|rw [← j3a.out] at j3h|(simp only [Int.reduceToNat] at j3h;rw [← j3a.out] at j3h))
    replace jq:=ai_ (Kd.V_elder' (vd_to jq) (Kd.R_base j3h) hb);replace ji:=ai_ (Kd.V_elder' (vd_to ji) (Kd.R_base j3h) hb);replace je:=ai_ (Kd.V_elder' (vd_to je) (Kd.R_base j3h) hb);have j1l:=ai_ (Kd.R_lower (Kd.R_new' (Kd.R_newM (M:=fun k_=>(w.heap.size≤k_)) j3h (below_size (below_to2 HB jf.out jg.out)) (fun k_ h_=>h_)) (Kd.R_lt (kd_to jm))) (below_size (below_to2 HB jf.out jg.out)));replace jm:=ai_ (Kd.R_elder' (kd_to jm) (Kd.R_base j3h) hb);replace ja:=bb_ ja hb;replace jb:=bb_ jb hb;replace jd:=ai_ (cbl_ jd hb);replace HB:=ai_ (below_step (below_to2 HB jf.out jg.out) hb);clear hb j3h;obtain ⟨Ao115,co115,eo115⟩:=Kd.R_slice j1l.out
    (first|subst eo115|(injection eo115 with f1_ f2_ f3_;have f4_:=f1_.symm;have f5_:=f3_.symm;clear f1_ f2_ f3_;subst f4_;subst f5_))
    refine hK.out _ _ ⟨bc_ ja 0,bc_ ja 1,bc_ ja 2,bc_ ja 3,bc_ jb 0,bc_ jb 1,bc_ jb 2,bc_ jb 3,HS8_,HS9_⟩ (fun hHeld=>?_);clear hK K;refine norm_ (a':=?_) ?_ ?_;rotate_left
    ·show Act.put _ (some 70) _=_
     simp only [Act.put,List.setIfInBounds_toArray,List.set_cons_zero,List.set_cons_succ,i64_w,i32_w]
     rfl
    refine on_ 18 71 (fr_ [19,23]) HT_ (fun K hK=>?_);refine gs_ Try.func49 #[ag_ jz j1a j1b j2g jx j2h,.slice Ao115 j3t.length co115] ?_
    with_reducible refine (impl_hasStops.calls k2 jz j1a j1b _ _ jx _ _ j3t false _ ?side1 ?side2 ?side3 ?side4 A65.out).mono ?_
    (case side1=>exact cb_ j2r HB)
    (case side2=>exact j2s.out)
    (case side3=>exact cR_ j1l)
    (case side4=>exact (Kd.R_reads' j1l.out).2.1)
    rintro e j9n ⟨rfl,hb⟩;have HS8_:=hc_ hb hHeld.2.2.2.2.2.2.2.2.1;have HS9_:=hc_ hb hHeld.2.2.2.2.2.2.2.2.2;refine ⟨_,rfl,?_⟩;replace jq:=ai_ (Kd.V_below (vd_to jq) hb);replace ji:=ai_ (Kd.V_below (vd_to ji) hb);replace je:=ai_ (Kd.V_below (vd_to je) hb);replace jm:=rb_ jm hb;replace j1l:=rb_ j1l hb;replace ja:=bb_ ja hb;replace jb:=bb_ jb hb;replace jd:=ai_ (cbl_ jd hb);replace HB:=ai_ (below_step (below_to2 HB jf.out jg.out) hb);(try clear hb);(try clear hb2);(try clear hk);(try clear hi);refine hK.out _ _ ⟨bc_ ja 0,bc_ ja 1,bc_ ja 2,bc_ ja 3,bc_ jb 0,bc_ jb 1,bc_ jb 2,bc_ jb 3,HS8_,HS9_⟩ (fun hHeld=>?_);clear hK K;refine norm_ (a':=?_) ?_ ?_;rotate_left
    ·show Act.put _ (some 71) _=_
     simp only [Act.put,List.setIfInBounds_toArray,List.set_cons_zero,List.set_cons_succ,i64_w,i32_w]
     rfl
    refine pq_ 19 72 42 ?_;refine pq_ 20 73 42 ?_;refine pq_ 21 74 42 ?_;refine pv_ 22 75 42 ?_;refine pv_ 23 76 42 ?_;refine pv_ 24 77 42 ?_;refine pv_ 25 78 42 ?_;refine pv_ 26 79 42 ?_;refine pq_ 27 80 42 ?_;refine pq_ 28 81 42 ?_;refine pv_ 29 82 42 ?_;refine pv_ 30 83 42 ?_;refine pv_ 31 84 42 ?_;refine pv_ 32 85 42 ?_;refine pv_ 33 86 42 ?_;refine pq_ 34 87 42 ?_;refine pq_ 35 88 42 ?_;refine pv_ 36 89 42 ?_;refine pv_ 37 90 42 ?_;refine pv_ 38 91 42 ?_;refine pv_ 39 92 42 ?_;refine pv_ 40 93 42 ?_;refine pq_ 41 94 42 ?_;refine done_ (done_of HT_.out (by kernel_rfl)) ?_
    try go_wp2
    go_ret3
    exact ⟨_,rtE_,by first|exact Kd.R_nil _ _ _ _ _|exact Kd.N_nil _ _ _ _ _|exact Kd.V_nil _ _ _ _ _|exact Kd.Q_nil _ _ _ _ _|exact Kd.S_nil _ _ _ _ _,below_to2 HB jf.out jg.out⟩
   subst c66;rw [if_pos rfl] at H
   by_cases c67:a1≥(rd (rd_L1 l4 jc) 0)
   ·rw [if_pos c67] at H
    have j7r:=decide_eq_true c67;clear c67;simp only [Option.some.injEq,Prod.mk.injEq] at H;obtain ⟨rfl,rfl,rfl⟩:=H;have j1o:0≤(jc:Int):=odt_;have j1p:jc < (l4.length:Int):=odt_;obtain ⟨j3x,j3j,j3k,e212,j1n,hl212_0,hi212_0⟩:=at_L1 (Kd.V_reads' ji.out).2.2 jc j1o j1p
    cases e212
    obtain ⟨ce212,hce212,hMe212,hcc212⟩:=Kd.V_get ji.out [] jc j1o (by first|exact j1p|exact of_decide_eq_true (by first|(with_reducible assumption)|assumption)|(have e_:=(Kd.V_reads' ji.out).1;omega));obtain ⟨ua212_0,uc212_0,rfl,ul212_0,ge212_0⟩:=Kd.FK_slice_open hMe212;have hv212_0:=hcc212 0 _ rfl;rw [Nat.add_zero,show ((Kd.slice 3 Ki_)).sz=1 from rfl,Nat.mul_one] at hv212_0;replace hv212_0:=Option.some.inj (hv212_0.symm.trans j1n)
    injection hv212_0 with hva_ hvn_ hvc_
    rw [hva_] at ge212_0;rw [hvc_] at ul212_0;have je:=ai_ (show Kd.V Ki_ 3 _ w.heap.size _ _ (rd_L1 l4 jc) from Kd.V_mk ul212_0 ge212_0);clear hva_ hvn_ hvc_ ge212_0 ul212_0 hcc212 hce212;have jd:=ai_ hi212_0;have j2z:=ai_ hl212_0;clear hi212_0 hl212_0;replace j1o:=eq_true j1o;replace j1p:=eq_true j1p
    try go_wp2
    replace jq:=ai_ (Kd.V_drew jq.out);replace ji:=ai_ (Kd.V_drew ji.out);replace je:=ai_ (Kd.V_drew je.out);replace ja:=ai_ (blk_drew ja.out);replace jb:=ai_ (blk_drew jb.out);replace jd:=ai_ (Kd.C_drew jd.out);replace HB:=ai_ (below_drew1 HB.out)
    have j2i:0≤(0:Int):=(by omega)
    have j2j:0 < ((rd_L1 l4 jc).length:Int):=odt_;obtain ⟨jk,e213,jp⟩:=Kd.ati_ jd 0 j2i j2j
    cases e213
    have qi213:(0 < (rd_L1 l4 jc).length)=True:=eq_true (by omega);(try rw [show ((0:Int)).toNat=0 from rfl] at jp);(try rw [Addr.add_zero'] at jp);replace j2i:=eq_true j2i;replace j2j:=eq_true j2j
    have j1j:0≤(1:Int):=(by omega)
    have j1k:1 < ((rd_L1 l4 jc).length:Int):=odt_;obtain ⟨j2c,e218,jj⟩:=Kd.ati_ jd 1 j1j j1k
    obtain rfl:jk=j2c:=(by injection e218)
    (try simp only [show (1:Int).toNat=1 from rfl,Nat.reduceMul,Nat.reduceEqDiff,Go.Addr.add,↓reduceIte] at jj);have qi218:(1 < (rd_L1 l4 jc).length)=True:=eq_true (by omega);(try rw [show ((1:Int)).toNat=1 from rfl] at jj);replace j1j:=eq_true j1j;replace j1k:=eq_true j1k
    have j1q:0≤(0:Int):=(by omega)
    have j1r:0 < ((rd_L1 l4 jc).length:Int):=odt_;obtain ⟨j2k,e223,jn⟩:=Kd.ati_ jd 0 j1q j1r
    obtain rfl:jk=j2k:=(by injection e223)
    have qi223:(0 < (rd_L1 l4 jc).length)=True:=eq_true (by omega);(try rw [show ((0:Int)).toNat=0 from rfl] at jn);(try rw [Addr.add_zero'] at jn);replace j1q:=eq_true j1q;replace j1r:=eq_true j1r;refine start_ (n:=42) (S:=fun w'=>w'.cell? ⟨jo,0,none⟩=some (.int .i64 jt)∧w'.cell? ⟨jo,1,none⟩=some (.int .i64 ju)∧w'.cell? ⟨jo,2,none⟩=some (.int .i64 jv)∧w'.cell? ⟨jo,3,none⟩=some (.slice j1s js.length j1t)∧w'.cell? ⟨jr,0,none⟩=some (.int .i64 jz)∧w'.cell? ⟨jr,1,none⟩=some (.int .i64 j1a)∧w'.cell? ⟨jr,2,none⟩=some (.int .i64 j1b)∧w'.cell? ⟨jr,3,none⟩=some (.slice j2g jx.length j2h)∧w'.cell? jk=some (.int .i64 (rd (rd_L1 l4 jc) 0))∧w'.cell? ⟨jk.block,jk.off+1,none⟩=some (.int .i64 (rd (rd_L1 l4 jc) 1))∧w'.cell? jk=some (.int .i64 (rd (rd_L1 l4 jc) 0))) (ds:=[]) (fr_ [0,42]) (by kernel_rfl) rfl rfl ⟨bc_ ja 0,bc_ ja 1,bc_ ja 2,bc_ ja 3,bc_ jb 0,bc_ jb 1,bc_ jb 2,bc_ jb 3,jp,jj,jn⟩ (fun hHeld=>?_);refine with_tabW impl_BestChange.tab6 impl_BestChange.bits6 (fun HT_ HW_=>?_);clear jj j1j j1k qi218 jn j1q j1r qi223;generalize wr.drew=w68 at jq ji je ja jb jd HB jp hHeld ⊢;refine pq_ 0 53 42 ?_;refine pq_ 1 54 42 ?_;refine pq_ 2 55 42 ?_;refine pq_ 3 56 42 ?_;refine pS_ 5 58 (fr_ [4,1,1,36]) HT_ ?_;refine pS_ 6 59 (fr_ [4,1,2,35]) HT_ ?_;refine tk11_ 4 57 (fr_ [7,35]) HT_ HW_ hHeld ?_;refine tk11_ 7 60 (fr_ [8,34]) HT_ HW_ hHeld ?_;refine on_ 8 61 (fr_ [9,33]) HT_ (fun K hK=>?_);refine Kd.R_lit_step Ki_ _ 3 ?hg (N:=61) ?hd (xs:=([rd (rd_L1 l4 jc) 0]:List Int)) (inner:=[.int .i64 (rd (rd_L1 l4 jc) 0)]) (ok:=fun _=>True) (okp:=fun _=>True) ?hr ?hp (fun _ hk=>hk) trivial (Below.refl _ _) (Nat.le_refl _) (by simp) ?_;(case hd=>rfl);(case hg=>rfl);(case hr=>first|(go_simp;done)|(go_simp;rfl));(case hp=>exact (Reps.one (show Kd.M Ki_ _ _ _ (rd (rd_L1 l4 jc) 0) [.int .i64 (rd (rd_L1 l4 jc) 0)] from rfl) (Reps.none _ _)));intro j7d w69 j4e hb hg_ hnew_;have HS8_:=hc_ hb hHeld.2.2.2.2.2.2.2.2.1;have HS9_:=hc_ hb hHeld.2.2.2.2.2.2.2.2.2.1;have HS10_:=hc_ hb hHeld.2.2.2.2.2.2.2.2.2.2;clear hg_ hnew_
    (first|rw [← j2t.out] at j4e|(simp only [Int.reduceToNat] at j4e;rw [← j2t.out] at j4e))
    replace jq:=ai_ (Kd.V_elder' (vd_to jq) (Kd.R_base j4e) hb);replace ji:=ai_ (Kd.V_elder' (vd_to ji) (Kd.R_base j4e) hb);replace je:=ai_ (Kd.V_elder' (vd_to je) (Kd.R_base j4e) hb);have jm:=ai_ (Kd.R_lower (Kd.R_newM (M:=fun k_=>(w.heap.size≤k_)) j4e (below_size (below_to2 HB jf.out jg.out)) (fun k_ h_=>h_)) (below_size (below_to2 HB jf.out jg.out)));replace ja:=bb_ ja hb;replace jb:=bb_ jb hb;replace jd:=ai_ (cbl_ jd hb);replace HB:=ai_ (below_step (below_to2 HB jf.out jg.out) hb);clear hb j4e;obtain ⟨Ao71,co71,eo71⟩:=Kd.R_slice jm.out
    (first|subst eo71|(injection eo71 with f1_ f2_ f3_;have f4_:=f1_.symm;have f5_:=f3_.symm;clear f1_ f2_ f3_;subst f4_;subst f5_))
    refine hK.out _ _ ⟨bc_ ja 0,bc_ ja 1,bc_ ja 2,bc_ ja 3,bc_ jb 0,bc_ jb 1,bc_ jb 2,bc_ jb 3,HS8_,HS9_,HS10_⟩ (fun hHeld=>?_);clear hK K;refine norm_ (a':=?_) ?_ ?_;rotate_left
    ·show Act.put _ (some 61) _=_
     simp only [Act.put,List.setIfInBounds_toArray,List.set_cons_zero,List.set_cons_succ,i64_w,i32_w]
     rfl
    refine on_ 9 62 (fr_ [10,32]) HT_ (fun K hK=>?_);refine gs_ Try.func49 #[ag_ jt ju jv j1s js j1t,.slice Ao71 j3l.length co71] ?_
    with_reducible refine (impl_hasStops.calls k2 jt ju jv _ _ js _ _ j3l true _ ?side1 ?side2 ?side3 ?side4 A62.out).mono ?_
    (case side1=>exact cb_ j2l HB)
    (case side2=>exact j2m.out)
    (case side3=>exact cR_ jm)
    (case side4=>exact (Kd.R_reads' jm.out).2.1)
    rintro e w72 ⟨rfl,hb⟩;have HS8_:=hc_ hb hHeld.2.2.2.2.2.2.2.2.1;have HS9_:=hc_ hb hHeld.2.2.2.2.2.2.2.2.2.1;have HS10_:=hc_ hb hHeld.2.2.2.2.2.2.2.2.2.2;refine ⟨_,rfl,?_⟩;replace jq:=ai_ (Kd.V_below (vd_to jq) hb);replace ji:=ai_ (Kd.V_below (vd_to ji) hb);replace je:=ai_ (Kd.V_below (vd_to je) hb);replace jm:=rb_ jm hb;replace ja:=bb_ ja hb;replace jb:=bb_ jb hb;replace jd:=ai_ (cbl_ jd hb);replace HB:=ai_ (below_step (below_to2 HB jf.out jg.out) hb);(try clear hb);(try clear hb2);(try clear hk);(try clear hi)
    have j1j:0≤(1:Int):=(by omega)
    have j1k:1 < ((rd_L1 l4 jc).length:Int):=odt_;obtain ⟨j2c,e218,jj⟩:=Kd.ati_ jd 1 j1j j1k
    obtain rfl:jk=j2c:=(by injection e218)
    (try simp only [show (1:Int).toNat=1 from rfl,Nat.reduceMul,Nat.reduceEqDiff,Go.Addr.add,↓reduceIte] at jj);have qi218:(1 < (rd_L1 l4 jc).length)=True:=eq_true (by omega);(try rw [show ((1:Int)).toNat=1 from rfl] at jj);replace j1j:=eq_true j1j;replace j1k:=eq_true j1k;refine hK.out _ _ ⟨bc_ ja 0,bc_ ja 1,bc_ ja 2,bc_ ja 3,bc_ jb 0,bc_ jb 1,bc_ jb 2,bc_ jb 3,HS8_,HS9_,HS10_⟩ (fun hHeld=>?_);clear hK K;refine norm_ (a':=?_) ?_ ?_;rotate_left
    ·show Act.put _ (some 62) _=_
     simp only [Act.put,List.setIfInBounds_toArray,List.set_cons_zero,List.set_cons_succ,i64_w,i32_w]
     rfl
    refine pq_ 10 63 42 ?_;refine pq_ 11 64 42 ?_;refine pq_ 12 65 42 ?_;refine pS_ 14 67 (fr_ [13,1,1,27]) HT_ ?_;refine pS_ 15 68 (fr_ [13,1,2,26]) HT_ ?_;refine tk11_ 13 66 (fr_ [16,26]) HT_ HW_ hHeld ?_;refine tk11_ 16 69 (fr_ [17,25]) HT_ HW_ hHeld ?_;refine on_ 17 70 (fr_ [18,24]) HT_ (fun K hK=>?_);refine Kd.R_lit_step Ki_ _ 3 ?hg (N:=70) ?hd (xs:=([rd (rd_L1 l4 jc) 1]:List Int)) (inner:=[.int .i64 (rd (rd_L1 l4 jc) 1)]) (ok:=fun _=>True) (okp:=fun _=>True) ?hr ?hp (fun _ hk=>hk) trivial (Below.refl _ _) (Nat.le_refl _) (by simp) ?_;(case hd=>rfl);(case hg=>rfl);(case hr=>first|(go_simp;done)|(go_simp;rfl));(case hp=>exact (Reps.one (show Kd.M Ki_ _ _ _ (rd (rd_L1 l4 jc) 1) [.int .i64 (rd (rd_L1 l4 jc) 1)] from rfl) (Reps.none _ _)));intro j7g w73 j4a hb hg_ hnew_;have HS8_:=hc_ hb hHeld.2.2.2.2.2.2.2.2.1;have HS9_:=hc_ hb hHeld.2.2.2.2.2.2.2.2.2.1;have HS10_:=hc_ hb hHeld.2.2.2.2.2.2.2.2.2.2;clear hg_ hnew_
    (first|rw [← j3a.out] at j4a|(simp only [Int.reduceToNat] at j4a;rw [← j3a.out] at j4a))
    replace jq:=ai_ (Kd.V_elder' (vd_to jq) (Kd.R_base j4a) hb);replace ji:=ai_ (Kd.V_elder' (vd_to ji) (Kd.R_base j4a) hb);replace je:=ai_ (Kd.V_elder' (vd_to je) (Kd.R_base j4a) hb);have j1l:=ai_ (Kd.R_lower (Kd.R_new' (Kd.R_newM (M:=fun k_=>(w.heap.size≤k_)) j4a (below_size (below_to2 HB jf.out jg.out)) (fun k_ h_=>h_)) (Kd.R_lt (kd_to jm))) (below_size (below_to2 HB jf.out jg.out)));replace jm:=ai_ (Kd.R_elder' (kd_to jm) (Kd.R_base j4a) hb);replace ja:=bb_ ja hb;replace jb:=bb_ jb hb;replace jd:=ai_ (cbl_ jd hb);replace HB:=ai_ (below_step (below_to2 HB jf.out jg.out) hb);clear hb j4a;obtain ⟨Ao75,co75,eo75⟩:=Kd.R_slice j1l.out
    (first|subst eo75|(injection eo75 with f1_ f2_ f3_;have f4_:=f1_.symm;have f5_:=f3_.symm;clear f1_ f2_ f3_;subst f4_;subst f5_))
    refine hK.out _ _ ⟨bc_ ja 0,bc_ ja 1,bc_ ja 2,bc_ ja 3,bc_ jb 0,bc_ jb 1,bc_ jb 2,bc_ jb 3,HS8_,HS9_,HS10_⟩ (fun hHeld=>?_);clear hK K;refine norm_ (a':=?_) ?_ ?_;rotate_left
    ·show Act.put _ (some 70) _=_
     simp only [Act.put,List.setIfInBounds_toArray,List.set_cons_zero,List.set_cons_succ,i64_w,i32_w]
     rfl
    refine on_ 18 71 (fr_ [19,23]) HT_ (fun K hK=>?_);refine gs_ Try.func49 #[ag_ jz j1a j1b j2g jx j2h,.slice Ao75 j3t.length co75] ?_
    with_reducible refine (impl_hasStops.calls k2 jz j1a j1b _ _ jx _ _ j3t true _ ?side1 ?side2 ?side3 ?side4 A65.out).mono ?_
    (case side1=>exact cb_ j2r HB)
    (case side2=>exact j2s.out)
    (case side3=>exact cR_ j1l)
    (case side4=>exact (Kd.R_reads' j1l.out).2.1)
    rintro e w76 ⟨rfl,hb⟩;have HS8_:=hc_ hb hHeld.2.2.2.2.2.2.2.2.1;have HS9_:=hc_ hb hHeld.2.2.2.2.2.2.2.2.2.1;have HS10_:=hc_ hb hHeld.2.2.2.2.2.2.2.2.2.2;refine ⟨_,rfl,?_⟩;replace jq:=ai_ (Kd.V_below (vd_to jq) hb);replace ji:=ai_ (Kd.V_below (vd_to ji) hb);replace je:=ai_ (Kd.V_below (vd_to je) hb);replace jm:=rb_ jm hb;replace j1l:=rb_ j1l hb;replace ja:=bb_ ja hb;replace jb:=bb_ jb hb;replace jd:=ai_ (cbl_ jd hb);replace HB:=ai_ (below_step (below_to2 HB jf.out jg.out) hb);(try clear hb);(try clear hb2);(try clear hk);(try clear hi)
    have j1q:0≤(0:Int):=(by omega)
    have j1r:0 < ((rd_L1 l4 jc).length:Int):=odt_;obtain ⟨j2k,e223,jn⟩:=Kd.ati_ jd 0 j1q j1r
    obtain rfl:jk=j2k:=(by injection e223)
    have qi223:(0 < (rd_L1 l4 jc).length)=True:=eq_true (by omega);(try rw [show ((0:Int)).toNat=0 from rfl] at jn);(try rw [Addr.add_zero'] at jn);replace j1q:=eq_true j1q;replace j1r:=eq_true j1r;refine hK.out _ _ ⟨bc_ ja 0,bc_ ja 1,bc_ ja 2,bc_ ja 3,bc_ jb 0,bc_ jb 1,bc_ jb 2,bc_ jb 3,HS8_,HS9_,HS10_⟩ (fun hHeld=>?_);clear hK K;refine norm_ (a':=?_) ?_ ?_;rotate_left
    ·show Act.put _ (some 71) _=_
     simp only [Act.put,List.setIfInBounds_toArray,List.set_cons_zero,List.set_cons_succ,i64_w,i32_w]
     rfl
    refine pq_ 19 72 42 ?_;refine pq_ 20 73 42 ?_;refine pq_ 21 74 42 ?_;refine pq_ 22 75 42 ?_;refine pq_ 23 76 42 ?_;refine pq_ 24 77 42 ?_;refine tk11_ 25 78 (fr_ [26,16]) HT_ HW_ hHeld ?_;refine pq_ 26 79 42 ?_;refine pq_ 27 80 42 ?_;refine pq_ 28 81 42 ?_;refine pv_ 29 82 42 ?_;refine pv_ 30 83 42 ?_;refine pv_ 31 84 42 ?_;refine pv_ 32 85 42 ?_;refine pv_ 33 86 42 ?_;refine pq_ 34 87 42 ?_;refine pq_ 35 88 42 ?_;refine pv_ 36 89 42 ?_;refine pv_ 37 90 42 ?_;refine pv_ 38 91 42 ?_;refine pv_ 39 92 42 ?_;refine pv_ 40 93 42 ?_;refine pq_ 41 94 42 ?_;refine done_ (done_of HT_.out (by kernel_rfl)) ?_
    try go_wp2
    go_ret3
    exact ⟨_,rtE_,by first|exact Kd.R_nil _ _ _ _ _|exact Kd.N_nil _ _ _ _ _|exact Kd.V_nil _ _ _ _ _|exact Kd.Q_nil _ _ _ _ _|exact Kd.S_nil _ _ _ _ _,below_to2 HB jf.out jg.out⟩
   rw [if_neg c67] at H;have j7r:=decide_eq_false c67;clear c67
   by_cases c77:(rd (rd_L1 l4 jc) 1)≥a3
   ·rw [if_pos c77] at H
    have j7s:=decide_eq_true c77;clear c77;simp only [Option.some.injEq,Prod.mk.injEq] at H;obtain ⟨rfl,rfl,rfl⟩:=H;have j1o:0≤(jc:Int):=odt_;have j1p:jc < (l4.length:Int):=odt_;obtain ⟨j3x,j3j,j3k,e212,j1n,hl212_0,hi212_0⟩:=at_L1 (Kd.V_reads' ji.out).2.2 jc j1o j1p
    cases e212
    obtain ⟨ce212,hce212,hMe212,hcc212⟩:=Kd.V_get ji.out [] jc j1o (by first|exact j1p|exact of_decide_eq_true (by first|(with_reducible assumption)|assumption)|(have e_:=(Kd.V_reads' ji.out).1;omega));obtain ⟨ua212_0,uc212_0,rfl,ul212_0,ge212_0⟩:=Kd.FK_slice_open hMe212;have hv212_0:=hcc212 0 _ rfl;rw [Nat.add_zero,show ((Kd.slice 3 Ki_)).sz=1 from rfl,Nat.mul_one] at hv212_0;replace hv212_0:=Option.some.inj (hv212_0.symm.trans j1n)
    injection hv212_0 with hva_ hvn_ hvc_
    rw [hva_] at ge212_0;rw [hvc_] at ul212_0;have je:=ai_ (show Kd.V Ki_ 3 _ w.heap.size _ _ (rd_L1 l4 jc) from Kd.V_mk ul212_0 ge212_0);clear hva_ hvn_ hvc_ ge212_0 ul212_0 hcc212 hce212;have jd:=ai_ hi212_0;have j2z:=ai_ hl212_0;clear hi212_0 hl212_0;replace j1o:=eq_true j1o;replace j1p:=eq_true j1p
    try go_wp2
    replace jq:=ai_ (Kd.V_drew jq.out);replace ji:=ai_ (Kd.V_drew ji.out);replace je:=ai_ (Kd.V_drew je.out);replace ja:=ai_ (blk_drew ja.out);replace jb:=ai_ (blk_drew jb.out);replace jd:=ai_ (Kd.C_drew jd.out);replace HB:=ai_ (below_drew1 HB.out)
    have j2i:0≤(0:Int):=(by omega)
    have j2j:0 < ((rd_L1 l4 jc).length:Int):=odt_;obtain ⟨jk,e213,jp⟩:=Kd.ati_ jd 0 j2i j2j
    cases e213
    have qi213:(0 < (rd_L1 l4 jc).length)=True:=eq_true (by omega);(try rw [show ((0:Int)).toNat=0 from rfl] at jp);(try rw [Addr.add_zero'] at jp);replace j2i:=eq_true j2i;replace j2j:=eq_true j2j
    have j1j:0≤(1:Int):=(by omega)
    have j1k:1 < ((rd_L1 l4 jc).length:Int):=odt_;obtain ⟨j2c,e218,jj⟩:=Kd.ati_ jd 1 j1j j1k
    obtain rfl:jk=j2c:=(by injection e218)
    (try simp only [show (1:Int).toNat=1 from rfl,Nat.reduceMul,Nat.reduceEqDiff,Go.Addr.add,↓reduceIte] at jj);have qi218:(1 < (rd_L1 l4 jc).length)=True:=eq_true (by omega);(try rw [show ((1:Int)).toNat=1 from rfl] at jj);replace j1j:=eq_true j1j;replace j1k:=eq_true j1k
    have j1q:0≤(0:Int):=(by omega)
    have j1r:0 < ((rd_L1 l4 jc).length:Int):=odt_;obtain ⟨j2k,e223,jn⟩:=Kd.ati_ jd 0 j1q j1r
    obtain rfl:jk=j2k:=(by injection e223)
    have qi223:(0 < (rd_L1 l4 jc).length)=True:=eq_true (by omega);(try rw [show ((0:Int)).toNat=0 from rfl] at jn);(try rw [Addr.add_zero'] at jn);replace j1q:=eq_true j1q;replace j1r:=eq_true j1r
    have j2e:0≤(1:Int):=(by omega)
    have j2f:1 < ((rd_L1 l4 jc).length:Int):=odt_;obtain ⟨j2v,e224,jy⟩:=Kd.ati_ jd 1 j2e j2f
    obtain rfl:jk=j2v:=(by injection e224)
    (try simp only [show (1:Int).toNat=1 from rfl,Nat.reduceMul,Nat.reduceEqDiff,Go.Addr.add,↓reduceIte] at jy);have qi224:(1 < (rd_L1 l4 jc).length)=True:=eq_true (by omega);(try rw [show ((1:Int)).toNat=1 from rfl] at jy);replace j2e:=eq_true j2e;replace j2f:=eq_true j2f;refine start_ (n:=42) (S:=fun w'=>w'.cell? ⟨jo,0,none⟩=some (.int .i64 jt)∧w'.cell? ⟨jo,1,none⟩=some (.int .i64 ju)∧w'.cell? ⟨jo,2,none⟩=some (.int .i64 jv)∧w'.cell? ⟨jo,3,none⟩=some (.slice j1s js.length j1t)∧w'.cell? ⟨jr,0,none⟩=some (.int .i64 jz)∧w'.cell? ⟨jr,1,none⟩=some (.int .i64 j1a)∧w'.cell? ⟨jr,2,none⟩=some (.int .i64 j1b)∧w'.cell? ⟨jr,3,none⟩=some (.slice j2g jx.length j2h)∧w'.cell? jk=some (.int .i64 (rd (rd_L1 l4 jc) 0))∧w'.cell? ⟨jk.block,jk.off+1,none⟩=some (.int .i64 (rd (rd_L1 l4 jc) 1))∧w'.cell? jk=some (.int .i64 (rd (rd_L1 l4 jc) 0))∧w'.cell? ⟨jk.block,jk.off+1,none⟩=some (.int .i64 (rd (rd_L1 l4 jc) 1))) (ds:=[]) (fr_ [0,42]) (by kernel_rfl) rfl rfl ⟨bc_ ja 0,bc_ ja 1,bc_ ja 2,bc_ ja 3,bc_ jb 0,bc_ jb 1,bc_ jb 2,bc_ jb 3,jp,jj,jn,jy⟩ (fun hHeld=>?_);refine with_tabW impl_BestChange.tab6 impl_BestChange.bits6 (fun HT_ HW_=>?_);clear jj j1j j1k qi218 jn j1q j1r qi223 jy j2e j2f qi224;generalize wr.drew=w78 at jq ji je ja jb jd HB jp hHeld ⊢;refine pq_ 0 53 42 ?_;refine pq_ 1 54 42 ?_;refine pq_ 2 55 42 ?_;refine pq_ 3 56 42 ?_;refine pS_ 5 58 (fr_ [4,1,1,36]) HT_ ?_;refine pS_ 6 59 (fr_ [4,1,2,35]) HT_ ?_;refine tk12_ 4 57 (fr_ [7,35]) HT_ HW_ hHeld ?_;refine tk12_ 7 60 (fr_ [8,34]) HT_ HW_ hHeld ?_;refine on_ 8 61 (fr_ [9,33]) HT_ (fun K hK=>?_);refine Kd.R_lit_step Ki_ _ 3 ?hg (N:=61) ?hd (xs:=([rd (rd_L1 l4 jc) 0]:List Int)) (inner:=[.int .i64 (rd (rd_L1 l4 jc) 0)]) (ok:=fun _=>True) (okp:=fun _=>True) ?hr ?hp (fun _ hk=>hk) trivial (Below.refl _ _) (Nat.le_refl _) (by simp) ?_;(case hd=>rfl);(case hg=>rfl);(case hr=>first|(go_simp;done)|(go_simp;rfl));(case hp=>exact (Reps.one (show Kd.M Ki_ _ _ _ (rd (rd_L1 l4 jc) 0) [.int .i64 (rd (rd_L1 l4 jc) 0)] from rfl) (Reps.none _ _)));intro j7d w79 j4f hb hg_ hnew_;have HS8_:=hc_ hb hHeld.2.2.2.2.2.2.2.2.1;have HS9_:=hc_ hb hHeld.2.2.2.2.2.2.2.2.2.1;have HS10_:=hc_ hb hHeld.2.2.2.2.2.2.2.2.2.2.1;have HS11_:=hc_ hb hHeld.2.2.2.2.2.2.2.2.2.2.2;clear hg_ hnew_
    (first|rw [← j2t.out] at j4f|(simp only [Int.reduceToNat] at j4f;rw [← j2t.out] at j4f))
    replace jq:=ai_ (Kd.V_elder' (vd_to jq) (Kd.R_base j4f) hb);replace ji:=ai_ (Kd.V_elder' (vd_to ji) (Kd.R_base j4f) hb);replace je:=ai_ (Kd.V_elder' (vd_to je) (Kd.R_base j4f) hb);have jm:=ai_ (Kd.R_lower (Kd.R_newM (M:=fun k_=>(w.heap.size≤k_)) j4f (below_size (below_to2 HB jf.out jg.out)) (fun k_ h_=>h_)) (below_size (below_to2 HB jf.out jg.out)));replace ja:=bb_ ja hb;replace jb:=bb_ jb hb;replace jd:=ai_ (cbl_ jd hb);replace HB:=ai_ (below_step (below_to2 HB jf.out jg.out) hb);clear hb j4f;obtain ⟨Ao81,co81,eo81⟩:=Kd.R_slice jm.out
    (first|subst eo81|(injection eo81 with f1_ f2_ f3_;have f4_:=f1_.symm;have f5_:=f3_.symm;clear f1_ f2_ f3_;subst f4_;subst f5_))
    refine hK.out _ _ ⟨bc_ ja 0,bc_ ja 1,bc_ ja 2,bc_ ja 3,bc_ jb 0,bc_ jb 1,bc_ jb 2,bc_ jb 3,HS8_,HS9_,HS10_,HS11_⟩ (fun hHeld=>?_);clear hK K;refine norm_ (a':=?_) ?_ ?_;rotate_left
    ·show Act.put _ (some 61) _=_
     simp only [Act.put,List.setIfInBounds_toArray,List.set_cons_zero,List.set_cons_succ,i64_w,i32_w]
     rfl
    refine on_ 9 62 (fr_ [10,32]) HT_ (fun K hK=>?_);refine gs_ Try.func49 #[ag_ jt ju jv j1s js j1t,.slice Ao81 j3l.length co81] ?_
    with_reducible refine (impl_hasStops.calls k2 jt ju jv _ _ js _ _ j3l true _ ?side1 ?side2 ?side3 ?side4 A62.out).mono ?_
    (case side1=>exact cb_ j2l HB)
    (case side2=>exact j2m.out)
    (case side3=>exact cR_ jm)
    (case side4=>exact (Kd.R_reads' jm.out).2.1)
    rintro e w82 ⟨rfl,hb⟩;have HS8_:=hc_ hb hHeld.2.2.2.2.2.2.2.2.1;have HS9_:=hc_ hb hHeld.2.2.2.2.2.2.2.2.2.1;have HS10_:=hc_ hb hHeld.2.2.2.2.2.2.2.2.2.2.1;have HS11_:=hc_ hb hHeld.2.2.2.2.2.2.2.2.2.2.2;refine ⟨_,rfl,?_⟩;replace jq:=ai_ (Kd.V_below (vd_to jq) hb);replace ji:=ai_ (Kd.V_below (vd_to ji) hb);replace je:=ai_ (Kd.V_below (vd_to je) hb);replace jm:=rb_ jm hb;replace ja:=bb_ ja hb;replace jb:=bb_ jb hb;replace jd:=ai_ (cbl_ jd hb);replace HB:=ai_ (below_step (below_to2 HB jf.out jg.out) hb);(try clear hb);(try clear hb2);(try clear hk);(try clear hi)
    have j1j:0≤(1:Int):=(by omega)
    have j1k:1 < ((rd_L1 l4 jc).length:Int):=odt_;obtain ⟨j2c,e218,jj⟩:=Kd.ati_ jd 1 j1j j1k
    obtain rfl:jk=j2c:=(by injection e218)
    (try simp only [show (1:Int).toNat=1 from rfl,Nat.reduceMul,Nat.reduceEqDiff,Go.Addr.add,↓reduceIte] at jj);have qi218:(1 < (rd_L1 l4 jc).length)=True:=eq_true (by omega);(try rw [show ((1:Int)).toNat=1 from rfl] at jj);replace j1j:=eq_true j1j;replace j1k:=eq_true j1k;refine hK.out _ _ ⟨bc_ ja 0,bc_ ja 1,bc_ ja 2,bc_ ja 3,bc_ jb 0,bc_ jb 1,bc_ jb 2,bc_ jb 3,HS8_,HS9_,HS10_,HS11_⟩ (fun hHeld=>?_);clear hK K;refine norm_ (a':=?_) ?_ ?_;rotate_left
    ·show Act.put _ (some 62) _=_
     simp only [Act.put,List.setIfInBounds_toArray,List.set_cons_zero,List.set_cons_succ,i64_w,i32_w]
     rfl
    refine pq_ 10 63 42 ?_;refine pq_ 11 64 42 ?_;refine pq_ 12 65 42 ?_;refine pS_ 14 67 (fr_ [13,1,1,27]) HT_ ?_;refine pS_ 15 68 (fr_ [13,1,2,26]) HT_ ?_;refine tk12_ 13 66 (fr_ [16,26]) HT_ HW_ hHeld ?_;refine tk12_ 16 69 (fr_ [17,25]) HT_ HW_ hHeld ?_;refine on_ 17 70 (fr_ [18,24]) HT_ (fun K hK=>?_);refine Kd.R_lit_step Ki_ _ 3 ?hg (N:=70) ?hd (xs:=([rd (rd_L1 l4 jc) 1]:List Int)) (inner:=[.int .i64 (rd (rd_L1 l4 jc) 1)]) (ok:=fun _=>True) (okp:=fun _=>True) ?hr ?hp (fun _ hk=>hk) trivial (Below.refl _ _) (Nat.le_refl _) (by simp) ?_;(case hd=>rfl);(case hg=>rfl);(case hr=>first|(go_simp;done)|(go_simp;rfl));(case hp=>exact (Reps.one (show Kd.M Ki_ _ _ _ (rd (rd_L1 l4 jc) 1) [.int .i64 (rd (rd_L1 l4 jc) 1)] from rfl) (Reps.none _ _)));intro j7g w83 j4b hb hg_ hnew_;have HS8_:=hc_ hb hHeld.2.2.2.2.2.2.2.2.1;have HS9_:=hc_ hb hHeld.2.2.2.2.2.2.2.2.2.1;have HS10_:=hc_ hb hHeld.2.2.2.2.2.2.2.2.2.2.1;have HS11_:=hc_ hb hHeld.2.2.2.2.2.2.2.2.2.2.2;clear hg_ hnew_
    (first|rw [← j3a.out] at j4b|(simp only [Int.reduceToNat] at j4b;rw [← j3a.out] at j4b))
    replace jq:=ai_ (Kd.V_elder' (vd_to jq) (Kd.R_base j4b) hb);replace ji:=ai_ (Kd.V_elder' (vd_to ji) (Kd.R_base j4b) hb);replace je:=ai_ (Kd.V_elder' (vd_to je) (Kd.R_base j4b) hb);have j1l:=ai_ (Kd.R_lower (Kd.R_new' (Kd.R_newM (M:=fun k_=>(w.heap.size≤k_)) j4b (below_size (below_to2 HB jf.out jg.out)) (fun k_ h_=>h_)) (Kd.R_lt (kd_to jm))) (below_size (below_to2 HB jf.out jg.out)));replace jm:=ai_ (Kd.R_elder' (kd_to jm) (Kd.R_base j4b) hb);replace ja:=bb_ ja hb;replace jb:=bb_ jb hb;replace jd:=ai_ (cbl_ jd hb);replace HB:=ai_ (below_step (below_to2 HB jf.out jg.out) hb);clear hb j4b;obtain ⟨Ao85,co85,eo85⟩:=Kd.R_slice j1l.out
    (first|subst eo85|(injection eo85 with f1_ f2_ f3_;have f4_:=f1_.symm;have f5_:=f3_.symm;clear f1_ f2_ f3_;subst f4_;subst f5_))
    refine hK.out _ _ ⟨bc_ ja 0,bc_ ja 1,bc_ ja 2,bc_ ja 3,bc_ jb 0,bc_ jb 1,bc_ jb 2,bc_ jb 3,HS8_,HS9_,HS10_,HS11_⟩ (fun hHeld=>?_);clear hK K;refine norm_ (a':=?_) ?_ ?_;rotate_left
    ·show Act.put _ (some 70) _=_
     simp only [Act.put,List.setIfInBounds_toArray,List.set_cons_zero,List.set_cons_succ,i64_w,i32_w]
     rfl
    refine on_ 18 71 (fr_ [19,23]) HT_ (fun K hK=>?_);refine gs_ Try.func49 #[ag_ jz j1a j1b j2g jx j2h,.slice Ao85 j3t.length co85] ?_
    with_reducible refine (impl_hasStops.calls k2 jz j1a j1b _ _ jx _ _ j3t true _ ?side1 ?side2 ?side3 ?side4 A65.out).mono ?_
    (case side1=>exact cb_ j2r HB)
    (case side2=>exact j2s.out)
    (case side3=>exact cR_ j1l)
    (case side4=>exact (Kd.R_reads' j1l.out).2.1)
    rintro e w86 ⟨rfl,hb⟩;have HS8_:=hc_ hb hHeld.2.2.2.2.2.2.2.2.1;have HS9_:=hc_ hb hHeld.2.2.2.2.2.2.2.2.2.1;have HS10_:=hc_ hb hHeld.2.2.2.2.2.2.2.2.2.2.1;have HS11_:=hc_ hb hHeld.2.2.2.2.2.2.2.2.2.2.2;refine ⟨_,rfl,?_⟩;replace jq:=ai_ (Kd.V_below (vd_to jq) hb);replace ji:=ai_ (Kd.V_below (vd_to ji) hb);replace je:=ai_ (Kd.V_below (vd_to je) hb);replace jm:=rb_ jm hb;replace j1l:=rb_ j1l hb;replace ja:=bb_ ja hb;replace jb:=bb_ jb hb;replace jd:=ai_ (cbl_ jd hb);replace HB:=ai_ (below_step (below_to2 HB jf.out jg.out) hb);(try clear hb);(try clear hb2);(try clear hk);(try clear hi)
    have j1q:0≤(0:Int):=(by omega)
    have j1r:0 < ((rd_L1 l4 jc).length:Int):=odt_;obtain ⟨j2k,e223,jn⟩:=Kd.ati_ jd 0 j1q j1r
    obtain rfl:jk=j2k:=(by injection e223)
    have qi223:(0 < (rd_L1 l4 jc).length)=True:=eq_true (by omega);(try rw [show ((0:Int)).toNat=0 from rfl] at jn);(try rw [Addr.add_zero'] at jn);replace j1q:=eq_true j1q;replace j1r:=eq_true j1r
    have j2e:0≤(1:Int):=(by omega)
    have j2f:1 < ((rd_L1 l4 jc).length:Int):=odt_;obtain ⟨j2v,e224,jy⟩:=Kd.ati_ jd 1 j2e j2f
    obtain rfl:jk=j2v:=(by injection e224)
    (try simp only [show (1:Int).toNat=1 from rfl,Nat.reduceMul,Nat.reduceEqDiff,Go.Addr.add,↓reduceIte] at jy);have qi224:(1 < (rd_L1 l4 jc).length)=True:=eq_true (by omega);(try rw [show ((1:Int)).toNat=1 from rfl] at jy);replace j2e:=eq_true j2e;replace j2f:=eq_true j2f;refine hK.out _ _ ⟨bc_ ja 0,bc_ ja 1,bc_ ja 2,bc_ ja 3,bc_ jb 0,bc_ jb 1,bc_ jb 2,bc_ jb 3,HS8_,HS9_,HS10_,HS11_⟩ (fun hHeld=>?_);clear hK K;refine norm_ (a':=?_) ?_ ?_;rotate_left
    ·show Act.put _ (some 71) _=_
     simp only [Act.put,List.setIfInBounds_toArray,List.set_cons_zero,List.set_cons_succ,i64_w,i32_w]
     rfl
    refine pq_ 19 72 42 ?_;refine pq_ 20 73 42 ?_;refine pq_ 21 74 42 ?_;refine pq_ 22 75 42 ?_;refine pq_ 23 76 42 ?_;refine pq_ 24 77 42 ?_;refine tk12_ 25 78 (fr_ [26,16]) HT_ HW_ hHeld ?_;refine pq_ 26 79 42 ?_;refine pq_ 27 80 42 ?_;refine pq_ 28 81 42 ?_;refine pq_ 29 82 42 ?_;refine pq_ 30 83 42 ?_;refine pS_ 32 85 (fr_ [31,1,1,9]) HT_ ?_;refine tk12_ 31 84 (fr_ [33,9]) HT_ HW_ hHeld ?_;refine pq_ 33 86 42 ?_;refine pq_ 34 87 42 ?_;refine pq_ 35 88 42 ?_;refine pv_ 36 89 42 ?_;refine pv_ 37 90 42 ?_;refine pv_ 38 91 42 ?_;refine pv_ 39 92 42 ?_;refine pv_ 40 93 42 ?_;refine pq_ 41 94 42 ?_;refine done_ (done_of HT_.out (by kernel_rfl)) ?_
    try go_wp2
    go_ret3
    exact ⟨_,rtE_,by first|exact Kd.R_nil _ _ _ _ _|exact Kd.N_nil _ _ _ _ _|exact Kd.V_nil _ _ _ _ _|exact Kd.Q_nil _ _ _ _ _|exact Kd.S_nil _ _ _ _ _,below_to2 HB jf.out jg.out⟩
   rw [if_neg c77] at H;have j7s:=decide_eq_false c77;clear c77
   by_cases c87:2 < ((rd_L1 l4 jc).length:Int)
   rotate_left
   ·rw [if_neg c87] at H
    cases H
   rw [if_pos c87] at H;have j8t:=decide_eq_true c87;have j8u:decide (2 < (rd_L1 l4 jc).length)=true:=decide_eq_true (by omega);clear c87;obtain ⟨j4i,A88,H⟩:=bs_ H;(try dsimp only at H)
   by_cases c89:j4i=true
   rotate_left
   ·replace c89:=Bool.eq_false_iff.mpr c89
    subst c89;rw [if_neg ft_] at H;simp only [Option.some.injEq,Prod.mk.injEq] at H;obtain ⟨rfl,rfl,rfl⟩:=H;have j1o:0≤(jc:Int):=odt_;have j1p:jc < (l4.length:Int):=odt_;obtain ⟨j3x,j3j,j3k,e212,j1n,hl212_0,hi212_0⟩:=at_L1 (Kd.V_reads' ji.out).2.2 jc j1o j1p
    cases e212
    obtain ⟨ce212,hce212,hMe212,hcc212⟩:=Kd.V_get ji.out [] jc j1o (by first|exact j1p|exact of_decide_eq_true (by first|(with_reducible assumption)|assumption)|(have e_:=(Kd.V_reads' ji.out).1;omega));obtain ⟨ua212_0,uc212_0,rfl,ul212_0,ge212_0⟩:=Kd.FK_slice_open hMe212;have hv212_0:=hcc212 0 _ rfl;rw [Nat.add_zero,show ((Kd.slice 3 Ki_)).sz=1 from rfl,Nat.mul_one] at hv212_0;replace hv212_0:=Option.some.inj (hv212_0.symm.trans j1n)
    injection hv212_0 with hva_ hvn_ hvc_
    rw [hva_] at ge212_0;rw [hvc_] at ul212_0;have je:=ai_ (show Kd.V Ki_ 3 _ w.heap.size _ _ (rd_L1 l4 jc) from Kd.V_mk ul212_0 ge212_0);clear hva_ hvn_ hvc_ ge212_0 ul212_0 hcc212 hce212;have jd:=ai_ hi212_0;have j2z:=ai_ hl212_0;clear hi212_0 hl212_0;replace j1o:=eq_true j1o;replace j1p:=eq_true j1p
    try go_wp2
    replace jq:=ai_ (Kd.V_drew jq.out);replace ji:=ai_ (Kd.V_drew ji.out);replace je:=ai_ (Kd.V_drew je.out);replace ja:=ai_ (blk_drew ja.out);replace jb:=ai_ (blk_drew jb.out);replace jd:=ai_ (Kd.C_drew jd.out);replace HB:=ai_ (below_drew1 HB.out)
    have j2i:0≤(0:Int):=(by omega)
    have j2j:0 < ((rd_L1 l4 jc).length:Int):=odt_;obtain ⟨jk,e213,jp⟩:=Kd.ati_ jd 0 j2i j2j
    cases e213
    have qi213:(0 < (rd_L1 l4 jc).length)=True:=eq_true (by omega);(try rw [show ((0:Int)).toNat=0 from rfl] at jp);(try rw [Addr.add_zero'] at jp);replace j2i:=eq_true j2i;replace j2j:=eq_true j2j
    have j1j:0≤(1:Int):=(by omega)
    have j1k:1 < ((rd_L1 l4 jc).length:Int):=odt_;obtain ⟨j2c,e218,jj⟩:=Kd.ati_ jd 1 j1j j1k
    obtain rfl:jk=j2c:=(by injection e218)
    (try simp only [show (1:Int).toNat=1 from rfl,Nat.reduceMul,Nat.reduceEqDiff,Go.Addr.add,↓reduceIte] at jj);have qi218:(1 < (rd_L1 l4 jc).length)=True:=eq_true (by omega);(try rw [show ((1:Int)).toNat=1 from rfl] at jj);replace j1j:=eq_true j1j;replace j1k:=eq_true j1k
    have j1q:0≤(0:Int):=(by omega)
    have j1r:0 < ((rd_L1 l4 jc).length:Int):=odt_;obtain ⟨j2k,e223,jn⟩:=Kd.ati_ jd 0 j1q j1r
    obtain rfl:jk=j2k:=(by injection e223)
    have qi223:(0 < (rd_L1 l4 jc).length)=True:=eq_true (by omega);(try rw [show ((0:Int)).toNat=0 from rfl] at jn);(try rw [Addr.add_zero'] at jn);replace j1q:=eq_true j1q;replace j1r:=eq_true j1r
    have j2e:0≤(1:Int):=(by omega)
    have j2f:1 < ((rd_L1 l4 jc).length:Int):=odt_;obtain ⟨j2v,e224,jy⟩:=Kd.ati_ jd 1 j2e j2f
    obtain rfl:jk=j2v:=(by injection e224)
    (try simp only [show (1:Int).toNat=1 from rfl,Nat.reduceMul,Nat.reduceEqDiff,Go.Addr.add,↓reduceIte] at jy);have qi224:(1 < (rd_L1 l4 jc).length)=True:=eq_true (by omega);(try rw [show ((1:Int)).toNat=1 from rfl] at jy);replace j2e:=eq_true j2e;replace j2f:=eq_true j2f
    have j2w:0≤(2:Int):=(by omega)
    have j2x:2 < ((rd_L1 l4 jc).length:Int):=odt_;obtain ⟨j3u,e225,j1m⟩:=Kd.ati_ jd 2 j2w j2x
    obtain rfl:jk=j3u:=(by injection e225)
    (try simp only [show (2:Int).toNat=2 from rfl,Nat.reduceMul,Nat.reduceEqDiff,Go.Addr.add,↓reduceIte] at j1m);have qi225:(2 < (rd_L1 l4 jc).length)=True:=eq_true (by omega);(try rw [show ((2:Int)).toNat=2 from rfl] at j1m);replace j2w:=eq_true j2w;replace j2x:=eq_true j2x;refine start_ (n:=42) (S:=fun w'=>w'.cell? ⟨jo,0,none⟩=some (.int .i64 jt)∧w'.cell? ⟨jo,1,none⟩=some (.int .i64 ju)∧w'.cell? ⟨jo,2,none⟩=some (.int .i64 jv)∧w'.cell? ⟨jo,3,none⟩=some (.slice j1s js.length j1t)∧w'.cell? ⟨jr,0,none⟩=some (.int .i64 jz)∧w'.cell? ⟨jr,1,none⟩=some (.int .i64 j1a)∧w'.cell? ⟨jr,2,none⟩=some (.int .i64 j1b)∧w'.cell? ⟨jr,3,none⟩=some (.slice j2g jx.length j2h)∧w'.cell? jk=some (.int .i64 (rd (rd_L1 l4 jc) 0))∧w'.cell? ⟨jk.block,jk.off+1,none⟩=some (.int .i64 (rd (rd_L1 l4 jc) 1))∧w'.cell? jk=some (.int .i64 (rd (rd_L1 l4 jc) 0))∧w'.cell? ⟨jk.block,jk.off+1,none⟩=some (.int .i64 (rd (rd_L1 l4 jc) 1))∧w'.cell? ⟨jk.block,jk.off+2,none⟩=some (.int .i64 (rd (rd_L1 l4 jc) 2))) (ds:=[]) (fr_ [0,42]) (by kernel_rfl) rfl rfl ⟨bc_ ja 0,bc_ ja 1,bc_ ja 2,bc_ ja 3,bc_ jb 0,bc_ jb 1,bc_ jb 2,bc_ jb 3,jp,jj,jn,jy,j1m⟩ (fun hHeld=>?_);refine with_tabW impl_BestChange.tab6 impl_BestChange.bits6 (fun HT_ HW_=>?_);clear jj j1j j1k qi218 jn j1q j1r qi223 jy j2e j2f qi224 j1m j2w j2x qi225;generalize wr.drew=w99 at jq ji je ja jb jd HB jp hHeld ⊢;refine pq_ 0 53 42 ?_;refine pq_ 1 54 42 ?_;refine pq_ 2 55 42 ?_;refine pq_ 3 56 42 ?_;refine pS_ 5 58 (fr_ [4,1,1,36]) HT_ ?_;refine pS_ 6 59 (fr_ [4,1,2,35]) HT_ ?_;refine tk13_ 4 57 (fr_ [7,35]) HT_ HW_ hHeld ?_;refine tk13_ 7 60 (fr_ [8,34]) HT_ HW_ hHeld ?_;refine on_ 8 61 (fr_ [9,33]) HT_ (fun K hK=>?_);refine Kd.R_lit_step Ki_ _ 3 ?hg (N:=61) ?hd (xs:=([rd (rd_L1 l4 jc) 0]:List Int)) (inner:=[.int .i64 (rd (rd_L1 l4 jc) 0)]) (ok:=fun _=>True) (okp:=fun _=>True) ?hr ?hp (fun _ hk=>hk) trivial (Below.refl _ _) (Nat.le_refl _) (by simp) ?_;(case hd=>rfl);(case hg=>rfl);(case hr=>first|(go_simp;done)|(go_simp;rfl));(case hp=>exact (Reps.one (show Kd.M Ki_ _ _ _ (rd (rd_L1 l4 jc) 0) [.int .i64 (rd (rd_L1 l4 jc) 0)] from rfl) (Reps.none _ _)));intro j7d j9o j3p hb hg_ hnew_;have HS8_:=hc_ hb hHeld.2.2.2.2.2.2.2.2.1;have HS9_:=hc_ hb hHeld.2.2.2.2.2.2.2.2.2.1;have HS10_:=hc_ hb hHeld.2.2.2.2.2.2.2.2.2.2.1;have HS11_:=hc_ hb hHeld.2.2.2.2.2.2.2.2.2.2.2.1;have HS12_:=hc_ hb hHeld.2.2.2.2.2.2.2.2.2.2.2.2;clear hg_ hnew_
    (first|rw [← j2t.out] at j3p|(simp only [Int.reduceToNat] at j3p;rw [← j2t.out] at j3p))
    replace jq:=ai_ (Kd.V_elder' (vd_to jq) (Kd.R_base j3p) hb);replace ji:=ai_ (Kd.V_elder' (vd_to ji) (Kd.R_base j3p) hb);replace je:=ai_ (Kd.V_elder' (vd_to je) (Kd.R_base j3p) hb);have jm:=ai_ (Kd.R_lower (Kd.R_newM (M:=fun k_=>(w.heap.size≤k_)) j3p (below_size (below_to2 HB jf.out jg.out)) (fun k_ h_=>h_)) (below_size (below_to2 HB jf.out jg.out)));replace ja:=bb_ ja hb;replace jb:=bb_ jb hb;replace jd:=ai_ (cbl_ jd hb);replace HB:=ai_ (below_step (below_to2 HB jf.out jg.out) hb);clear hb j3p;obtain ⟨Ao102,co102,eo102⟩:=Kd.R_slice jm.out
    (first|subst eo102|(injection eo102 with f1_ f2_ f3_;have f4_:=f1_.symm;have f5_:=f3_.symm;clear f1_ f2_ f3_;subst f4_;subst f5_))
    refine hK.out _ _ ⟨bc_ ja 0,bc_ ja 1,bc_ ja 2,bc_ ja 3,bc_ jb 0,bc_ jb 1,bc_ jb 2,bc_ jb 3,HS8_,HS9_,HS10_,HS11_,HS12_⟩ (fun hHeld=>?_);clear hK K;refine norm_ (a':=?_) ?_ ?_;rotate_left
    ·show Act.put _ (some 61) _=_
     simp only [Act.put,List.setIfInBounds_toArray,List.set_cons_zero,List.set_cons_succ,i64_w,i32_w]
     rfl
    refine on_ 9 62 (fr_ [10,32]) HT_ (fun K hK=>?_);refine gs_ Try.func49 #[ag_ jt ju jv j1s js j1t,.slice Ao102 j3l.length co102] ?_
    with_reducible refine (impl_hasStops.calls k2 jt ju jv _ _ js _ _ j3l true _ ?side1 ?side2 ?side3 ?side4 A62.out).mono ?_
    (case side1=>exact cb_ j2l HB)
    (case side2=>exact j2m.out)
    (case side3=>exact cR_ jm)
    (case side4=>exact (Kd.R_reads' jm.out).2.1)
    rintro e j9p ⟨rfl,hb⟩;have HS8_:=hc_ hb hHeld.2.2.2.2.2.2.2.2.1;have HS9_:=hc_ hb hHeld.2.2.2.2.2.2.2.2.2.1;have HS10_:=hc_ hb hHeld.2.2.2.2.2.2.2.2.2.2.1;have HS11_:=hc_ hb hHeld.2.2.2.2.2.2.2.2.2.2.2.1;have HS12_:=hc_ hb hHeld.2.2.2.2.2.2.2.2.2.2.2.2;refine ⟨_,rfl,?_⟩;replace jq:=ai_ (Kd.V_below (vd_to jq) hb);replace ji:=ai_ (Kd.V_below (vd_to ji) hb);replace je:=ai_ (Kd.V_below (vd_to je) hb);replace jm:=rb_ jm hb;replace ja:=bb_ ja hb;replace jb:=bb_ jb hb;replace jd:=ai_ (cbl_ jd hb);replace HB:=ai_ (below_step (below_to2 HB jf.out jg.out) hb);(try clear hb);(try clear hb2);(try clear hk);(try clear hi)
    have j1j:0≤(1:Int):=(by omega)
    have j1k:1 < ((rd_L1 l4 jc).length:Int):=odt_;obtain ⟨j2c,e218,jj⟩:=Kd.ati_ jd 1 j1j j1k
    obtain rfl:jk=j2c:=(by injection e218)
    (try simp only [show (1:Int).toNat=1 from rfl,Nat.reduceMul,Nat.reduceEqDiff,Go.Addr.add,↓reduceIte] at jj);have qi218:(1 < (rd_L1 l4 jc).length)=True:=eq_true (by omega);(try rw [show ((1:Int)).toNat=1 from rfl] at jj);replace j1j:=eq_true j1j;replace j1k:=eq_true j1k;refine hK.out _ _ ⟨bc_ ja 0,bc_ ja 1,bc_ ja 2,bc_ ja 3,bc_ jb 0,bc_ jb 1,bc_ jb 2,bc_ jb 3,HS8_,HS9_,HS10_,HS11_,HS12_⟩ (fun hHeld=>?_);clear hK K;refine norm_ (a':=?_) ?_ ?_;rotate_left
    ·show Act.put _ (some 62) _=_
     simp only [Act.put,List.setIfInBounds_toArray,List.set_cons_zero,List.set_cons_succ,i64_w,i32_w]
     rfl
    refine pq_ 10 63 42 ?_;refine pq_ 11 64 42 ?_;refine pq_ 12 65 42 ?_;refine pS_ 14 67 (fr_ [13,1,1,27]) HT_ ?_;refine pS_ 15 68 (fr_ [13,1,2,26]) HT_ ?_;refine tk13_ 13 66 (fr_ [16,26]) HT_ HW_ hHeld ?_;refine tk13_ 16 69 (fr_ [17,25]) HT_ HW_ hHeld ?_;refine on_ 17 70 (fr_ [18,24]) HT_ (fun K hK=>?_);refine Kd.R_lit_step Ki_ _ 3 ?hg (N:=70) ?hd (xs:=([rd (rd_L1 l4 jc) 1]:List Int)) (inner:=[.int .i64 (rd (rd_L1 l4 jc) 1)]) (ok:=fun _=>True) (okp:=fun _=>True) ?hr ?hp (fun _ hk=>hk) trivial (Below.refl _ _) (Nat.le_refl _) (by simp) ?_;(case hd=>rfl);(case hg=>rfl);(case hr=>first|(go_simp;done)|(go_simp;rfl));(case hp=>exact (Reps.one (show Kd.M Ki_ _ _ _ (rd (rd_L1 l4 jc) 1) [.int .i64 (rd (rd_L1 l4 jc) 1)] from rfl) (Reps.none _ _)));intro j7g j9q j3i hb hg_ hnew_;have HS8_:=hc_ hb hHeld.2.2.2.2.2.2.2.2.1;have HS9_:=hc_ hb hHeld.2.2.2.2.2.2.2.2.2.1;have HS10_:=hc_ hb hHeld.2.2.2.2.2.2.2.2.2.2.1;have HS11_:=hc_ hb hHeld.2.2.2.2.2.2.2.2.2.2.2.1;have HS12_:=hc_ hb hHeld.2.2.2.2.2.2.2.2.2.2.2.2;clear hg_ hnew_
    (first|rw [← j3a.out] at j3i|(simp only [Int.reduceToNat] at j3i;rw [← j3a.out] at j3i))
    replace jq:=ai_ (Kd.V_elder' (vd_to jq) (Kd.R_base j3i) hb);replace ji:=ai_ (Kd.V_elder' (vd_to ji) (Kd.R_base j3i) hb);replace je:=ai_ (Kd.V_elder' (vd_to je) (Kd.R_base j3i) hb);have j1l:=ai_ (Kd.R_lower (Kd.R_new' (Kd.R_newM (M:=fun k_=>(w.heap.size≤k_)) j3i (below_size (below_to2 HB jf.out jg.out)) (fun k_ h_=>h_)) (Kd.R_lt (kd_to jm))) (below_size (below_to2 HB jf.out jg.out)));replace jm:=ai_ (Kd.R_elder' (kd_to jm) (Kd.R_base j3i) hb);replace ja:=bb_ ja hb;replace jb:=bb_ jb hb;replace jd:=ai_ (cbl_ jd hb);replace HB:=ai_ (below_step (below_to2 HB jf.out jg.out) hb);clear hb j3i;obtain ⟨Ao106,co106,eo106⟩:=Kd.R_slice j1l.out
    (first|subst eo106|(injection eo106 with f1_ f2_ f3_;have f4_:=f1_.symm;have f5_:=f3_.symm;clear f1_ f2_ f3_;subst f4_;subst f5_))
    refine hK.out _ _ ⟨bc_ ja 0,bc_ ja 1,bc_ ja 2,bc_ ja 3,bc_ jb 0,bc_ jb 1,bc_ jb 2,bc_ jb 3,HS8_,HS9_,HS10_,HS11_,HS12_⟩ (fun hHeld=>?_);clear hK K;refine norm_ (a':=?_) ?_ ?_;rotate_left
    ·show Act.put _ (some 70) _=_
     simp only [Act.put,List.setIfInBounds_toArray,List.set_cons_zero,List.set_cons_succ,i64_w,i32_w]
     rfl
    refine on_ 18 71 (fr_ [19,23]) HT_ (fun K hK=>?_);refine gs_ Try.func49 #[ag_ jz j1a j1b j2g jx j2h,.slice Ao106 j3t.length co106] ?_
    with_reducible refine (impl_hasStops.calls k2 jz j1a j1b _ _ jx _ _ j3t true _ ?side1 ?side2 ?side3 ?side4 A65.out).mono ?_
    (case side1=>exact cb_ j2r HB)
    (case side2=>exact j2s.out)
    (case side3=>exact cR_ j1l)
    (case side4=>exact (Kd.R_reads' j1l.out).2.1)
    rintro e j9r ⟨rfl,hb⟩;have HS8_:=hc_ hb hHeld.2.2.2.2.2.2.2.2.1;have HS9_:=hc_ hb hHeld.2.2.2.2.2.2.2.2.2.1;have HS10_:=hc_ hb hHeld.2.2.2.2.2.2.2.2.2.2.1;have HS11_:=hc_ hb hHeld.2.2.2.2.2.2.2.2.2.2.2.1;have HS12_:=hc_ hb hHeld.2.2.2.2.2.2.2.2.2.2.2.2;refine ⟨_,rfl,?_⟩;replace jq:=ai_ (Kd.V_below (vd_to jq) hb);replace ji:=ai_ (Kd.V_below (vd_to ji) hb);replace je:=ai_ (Kd.V_below (vd_to je) hb);replace jm:=rb_ jm hb;replace j1l:=rb_ j1l hb;replace ja:=bb_ ja hb;replace jb:=bb_ jb hb;replace jd:=ai_ (cbl_ jd hb);replace HB:=ai_ (below_step (below_to2 HB jf.out jg.out) hb);(try clear hb);(try clear hb2);(try clear hk);(try clear hi)
    have j1q:0≤(0:Int):=(by omega)
    have j1r:0 < ((rd_L1 l4 jc).length:Int):=odt_;obtain ⟨j2k,e223,jn⟩:=Kd.ati_ jd 0 j1q j1r
    obtain rfl:jk=j2k:=(by injection e223)
    have qi223:(0 < (rd_L1 l4 jc).length)=True:=eq_true (by omega);(try rw [show ((0:Int)).toNat=0 from rfl] at jn);(try rw [Addr.add_zero'] at jn);replace j1q:=eq_true j1q;replace j1r:=eq_true j1r
    have j2e:0≤(1:Int):=(by omega)
    have j2f:1 < ((rd_L1 l4 jc).length:Int):=odt_;obtain ⟨j2v,e224,jy⟩:=Kd.ati_ jd 1 j2e j2f
    obtain rfl:jk=j2v:=(by injection e224)
    (try simp only [show (1:Int).toNat=1 from rfl,Nat.reduceMul,Nat.reduceEqDiff,Go.Addr.add,↓reduceIte] at jy);have qi224:(1 < (rd_L1 l4 jc).length)=True:=eq_true (by omega);(try rw [show ((1:Int)).toNat=1 from rfl] at jy);replace j2e:=eq_true j2e;replace j2f:=eq_true j2f
    have j2w:0≤(2:Int):=(by omega)
    have j2x:2 < ((rd_L1 l4 jc).length:Int):=odt_;obtain ⟨j3u,e225,j1m⟩:=Kd.ati_ jd 2 j2w j2x
    obtain rfl:jk=j3u:=(by injection e225)
    (try simp only [show (2:Int).toNat=2 from rfl,Nat.reduceMul,Nat.reduceEqDiff,Go.Addr.add,↓reduceIte] at j1m);have qi225:(2 < (rd_L1 l4 jc).length)=True:=eq_true (by omega);(try rw [show ((2:Int)).toNat=2 from rfl] at j1m);replace j2w:=eq_true j2w;replace j2x:=eq_true j2x;refine hK.out _ _ ⟨bc_ ja 0,bc_ ja 1,bc_ ja 2,bc_ ja 3,bc_ jb 0,bc_ jb 1,bc_ jb 2,bc_ jb 3,HS8_,HS9_,HS10_,HS11_,HS12_⟩ (fun hHeld=>?_);clear hK K;refine norm_ (a':=?_) ?_ ?_;rotate_left
    ·show Act.put _ (some 71) _=_
     simp only [Act.put,List.setIfInBounds_toArray,List.set_cons_zero,List.set_cons_succ,i64_w,i32_w]
     rfl
    refine pq_ 19 72 42 ?_;refine pq_ 20 73 42 ?_;refine pq_ 21 74 42 ?_;refine pq_ 22 75 42 ?_;refine pq_ 23 76 42 ?_;refine pq_ 24 77 42 ?_;refine tk13_ 25 78 (fr_ [26,16]) HT_ HW_ hHeld ?_;refine pq_ 26 79 42 ?_;refine pq_ 27 80 42 ?_;refine pq_ 28 81 42 ?_;refine pq_ 29 82 42 ?_;refine pq_ 30 83 42 ?_;refine pS_ 32 85 (fr_ [31,1,1,9]) HT_ ?_;refine tk13_ 31 84 (fr_ [33,9]) HT_ HW_ hHeld ?_;refine pq_ 33 86 42 ?_;refine pq_ 34 87 42 ?_;refine pq_ 35 88 42 ?_;refine pq_ 36 89 42 ?_;refine pq_ 37 90 42 ?_;refine tk13_ 38 91 (fr_ [39,3]) HT_ HW_ hHeld ?_;refine on_ 39 92 (fr_ [40,2]) HT_ (fun K hK=>?_);refine gs_ Try.func52 #[.int .i64 (rd (rd_L1 l4 jc) 2)] ?_
    with_reducible refine (impl_isWalk.calls (rd (rd_L1 l4 jc) 2) false _ A88.out).mono ?_
    rintro e w' ⟨rfl,⟨nd,rfl⟩⟩;refine ⟨_,rfl,?_⟩;refine hK.out _ _ ⟨bc_ ja 0,bc_ ja 1,bc_ ja 2,bc_ ja 3,bc_ jb 0,bc_ jb 1,bc_ jb 2,bc_ jb 3,hHeld.2.2.2.2.2.2.2.2.1,hHeld.2.2.2.2.2.2.2.2.2.1,hHeld.2.2.2.2.2.2.2.2.2.2.1,hHeld.2.2.2.2.2.2.2.2.2.2.2.1,hHeld.2.2.2.2.2.2.2.2.2.2.2.2⟩ (fun hHeld=>?_);clear hK K;refine norm_ (a':=?_) ?_ ?_;rotate_left
    ·show Act.put _ (some 92) _=_
     simp only [Act.put,List.setIfInBounds_toArray,List.set_cons_zero,List.set_cons_succ,i64_w,i32_w]
     rfl
    refine pq_ 40 93 42 ?_;refine pq_ 41 94 42 ?_;refine done_ (done_of HT_.out (by kernel_rfl)) ?_
    try go_wp2
    go_ret3
    exact ⟨_,rtE_,by first|exact Kd.R_nil _ _ _ _ _|exact Kd.N_nil _ _ _ _ _|exact Kd.V_nil _ _ _ _ _|exact Kd.Q_nil _ _ _ _ _|exact Kd.S_nil _ _ _ _ _,below_to2 HB jf.out jg.out⟩
   subst c89;rw [if_pos rfl] at H;have H':=ai_ H;clear H;have j1o:0≤(jc:Int):=odt_;have j1p:jc < (l4.length:Int):=odt_;obtain ⟨j3x,j3j,j3k,e212,j1n,hl212_0,hi212_0⟩:=at_L1 (Kd.V_reads' ji.out).2.2 jc j1o j1p
   cases e212
   obtain ⟨ce212,hce212,hMe212,hcc212⟩:=Kd.V_get ji.out [] jc j1o (by first|exact j1p|exact of_decide_eq_true (by first|(with_reducible assumption)|assumption)|(have e_:=(Kd.V_reads' ji.out).1;omega));obtain ⟨ua212_0,uc212_0,rfl,ul212_0,ge212_0⟩:=Kd.FK_slice_open hMe212;have hv212_0:=hcc212 0 _ rfl;rw [Nat.add_zero,show ((Kd.slice 3 Ki_)).sz=1 from rfl,Nat.mul_one] at hv212_0;replace hv212_0:=Option.some.inj (hv212_0.symm.trans j1n)
   injection hv212_0 with hva_ hvn_ hvc_
   rw [hva_] at ge212_0;rw [hvc_] at ul212_0;have je:=ai_ (show Kd.V Ki_ 3 _ w.heap.size _ _ (rd_L1 l4 jc) from Kd.V_mk ul212_0 ge212_0);clear hva_ hvn_ hvc_ ge212_0 ul212_0 hcc212 hce212;have jd:=ai_ hi212_0;have j2z:=ai_ hl212_0;clear hi212_0 hl212_0;replace j1o:=eq_true j1o;replace j1p:=eq_true j1p
   try go_wp2
   replace jq:=ai_ (Kd.V_drew jq.out);replace ji:=ai_ (Kd.V_drew ji.out);replace je:=ai_ (Kd.V_drew je.out);replace ja:=ai_ (blk_drew ja.out);replace jb:=ai_ (blk_drew jb.out);replace jd:=ai_ (Kd.C_drew jd.out);replace HB:=ai_ (below_drew1 HB.out)
   have j2i:0≤(0:Int):=(by omega)
   have j2j:0 < ((rd_L1 l4 jc).length:Int):=odt_;obtain ⟨jk,e213,jp⟩:=Kd.ati_ jd 0 j2i j2j
   cases e213
   have qi213:(0 < (rd_L1 l4 jc).length)=True:=eq_true (by omega);(try rw [show ((0:Int)).toNat=0 from rfl] at jp);(try rw [Addr.add_zero'] at jp);replace j2i:=eq_true j2i;replace j2j:=eq_true j2j
   have j1j:0≤(1:Int):=(by omega)
   have j1k:1 < ((rd_L1 l4 jc).length:Int):=odt_;obtain ⟨j2c,e218,jj⟩:=Kd.ati_ jd 1 j1j j1k
   obtain rfl:jk=j2c:=(by injection e218)
   (try simp only [show (1:Int).toNat=1 from rfl,Nat.reduceMul,Nat.reduceEqDiff,Go.Addr.add,↓reduceIte] at jj);have qi218:(1 < (rd_L1 l4 jc).length)=True:=eq_true (by omega);(try rw [show ((1:Int)).toNat=1 from rfl] at jj);replace j1j:=eq_true j1j;replace j1k:=eq_true j1k
   have j1q:0≤(0:Int):=(by omega)
   have j1r:0 < ((rd_L1 l4 jc).length:Int):=odt_;obtain ⟨j2k,e223,jn⟩:=Kd.ati_ jd 0 j1q j1r
   obtain rfl:jk=j2k:=(by injection e223)
   have qi223:(0 < (rd_L1 l4 jc).length)=True:=eq_true (by omega);(try rw [show ((0:Int)).toNat=0 from rfl] at jn);(try rw [Addr.add_zero'] at jn);replace j1q:=eq_true j1q;replace j1r:=eq_true j1r
   have j2e:0≤(1:Int):=(by omega)
   have j2f:1 < ((rd_L1 l4 jc).length:Int):=odt_;obtain ⟨j2v,e224,jy⟩:=Kd.ati_ jd 1 j2e j2f
   obtain rfl:jk=j2v:=(by injection e224)
   (try simp only [show (1:Int).toNat=1 from rfl,Nat.reduceMul,Nat.reduceEqDiff,Go.Addr.add,↓reduceIte] at jy);have qi224:(1 < (rd_L1 l4 jc).length)=True:=eq_true (by omega);(try rw [show ((1:Int)).toNat=1 from rfl] at jy);replace j2e:=eq_true j2e;replace j2f:=eq_true j2f
   have j2w:0≤(2:Int):=(by omega)
   have j2x:2 < ((rd_L1 l4 jc).length:Int):=odt_;obtain ⟨j3u,e225,j1m⟩:=Kd.ati_ jd 2 j2w j2x
   obtain rfl:jk=j3u:=(by injection e225)
   (try simp only [show (2:Int).toNat=2 from rfl,Nat.reduceMul,Nat.reduceEqDiff,Go.Addr.add,↓reduceIte] at j1m);have qi225:(2 < (rd_L1 l4 jc).length)=True:=eq_true (by omega);(try rw [show ((2:Int)).toNat=2 from rfl] at j1m);replace j2w:=eq_true j2w;replace j2x:=eq_true j2x;refine start_ (n:=42) (S:=fun w'=>w'.cell? ⟨jo,0,none⟩=some (.int .i64 jt)∧w'.cell? ⟨jo,1,none⟩=some (.int .i64 ju)∧w'.cell? ⟨jo,2,none⟩=some (.int .i64 jv)∧w'.cell? ⟨jo,3,none⟩=some (.slice j1s js.length j1t)∧w'.cell? ⟨jr,0,none⟩=some (.int .i64 jz)∧w'.cell? ⟨jr,1,none⟩=some (.int .i64 j1a)∧w'.cell? ⟨jr,2,none⟩=some (.int .i64 j1b)∧w'.cell? ⟨jr,3,none⟩=some (.slice j2g jx.length j2h)∧w'.cell? jk=some (.int .i64 (rd (rd_L1 l4 jc) 0))∧w'.cell? ⟨jk.block,jk.off+1,none⟩=some (.int .i64 (rd (rd_L1 l4 jc) 1))∧w'.cell? jk=some (.int .i64 (rd (rd_L1 l4 jc) 0))∧w'.cell? ⟨jk.block,jk.off+1,none⟩=some (.int .i64 (rd (rd_L1 l4 jc) 1))∧w'.cell? ⟨jk.block,jk.off+2,none⟩=some (.int .i64 (rd (rd_L1 l4 jc) 2))) (ds:=[]) (fr_ [0,42]) (by kernel_rfl) rfl rfl ⟨bc_ ja 0,bc_ ja 1,bc_ ja 2,bc_ ja 3,bc_ jb 0,bc_ jb 1,bc_ jb 2,bc_ jb 3,jp,jj,jn,jy,j1m⟩ (fun hHeld=>?_);refine with_tabW impl_BestChange.tab6 impl_BestChange.bits6 (fun HT_ HW_=>?_);clear jj j1j j1k qi218 jn j1q j1r qi223 jy j2e j2f qi224 j1m j2w j2x qi225;generalize wr.drew=w90 at jq ji je ja jb jd HB jp hHeld ⊢;refine pq_ 0 53 42 ?_;refine pq_ 1 54 42 ?_;refine pq_ 2 55 42 ?_;refine pq_ 3 56 42 ?_;refine pS_ 5 58 (fr_ [4,1,1,36]) HT_ ?_;refine pS_ 6 59 (fr_ [4,1,2,35]) HT_ ?_;refine tk13_ 4 57 (fr_ [7,35]) HT_ HW_ hHeld ?_;refine tk13_ 7 60 (fr_ [8,34]) HT_ HW_ hHeld ?_;refine on_ 8 61 (fr_ [9,33]) HT_ (fun K hK=>?_);refine Kd.R_lit_step Ki_ _ 3 ?hg (N:=61) ?hd (xs:=([rd (rd_L1 l4 jc) 0]:List Int)) (inner:=[.int .i64 (rd (rd_L1 l4 jc) 0)]) (ok:=fun _=>True) (okp:=fun _=>True) ?hr ?hp (fun _ hk=>hk) trivial (Below.refl _ _) (Nat.le_refl _) (by simp) ?_;(case hd=>rfl);(case hg=>rfl);(case hr=>first|(go_simp;done)|(go_simp;rfl));(case hp=>exact (Reps.one (show Kd.M Ki_ _ _ _ (rd (rd_L1 l4 jc) 0) [.int .i64 (rd (rd_L1 l4 jc) 0)] from rfl) (Reps.none _ _)));intro j7d w91 j4g hb hg_ hnew_;have HS8_:=hc_ hb hHeld.2.2.2.2.2.2.2.2.1;have HS9_:=hc_ hb hHeld.2.2.2.2.2.2.2.2.2.1;have HS10_:=hc_ hb hHeld.2.2.2.2.2.2.2.2.2.2.1;have HS11_:=hc_ hb hHeld.2.2.2.2.2.2.2.2.2.2.2.1;have HS12_:=hc_ hb hHeld.2.2.2.2.2.2.2.2.2.2.2.2;clear hg_ hnew_
   (first|rw [← j2t.out] at j4g|(simp only [Int.reduceToNat] at j4g;rw [← j2t.out] at j4g))
   replace jq:=ai_ (Kd.V_elder' (vd_to jq) (Kd.R_base j4g) hb);replace ji:=ai_ (Kd.V_elder' (vd_to ji) (Kd.R_base j4g) hb);replace je:=ai_ (Kd.V_elder' (vd_to je) (Kd.R_base j4g) hb);have jm:=ai_ (Kd.R_lower (Kd.R_newM (M:=fun k_=>(w.heap.size≤k_)) j4g (below_size (below_to2 HB jf.out jg.out)) (fun k_ h_=>h_)) (below_size (below_to2 HB jf.out jg.out)));replace ja:=bb_ ja hb;replace jb:=bb_ jb hb;replace jd:=ai_ (cbl_ jd hb);replace HB:=ai_ (below_step (below_to2 HB jf.out jg.out) hb);clear hb j4g;obtain ⟨Ao93,co93,eo93⟩:=Kd.R_slice jm.out
   (first|subst eo93|(injection eo93 with f1_ f2_ f3_;have f4_:=f1_.symm;have f5_:=f3_.symm;clear f1_ f2_ f3_;subst f4_;subst f5_))
   refine hK.out _ _ ⟨bc_ ja 0,bc_ ja 1,bc_ ja 2,bc_ ja 3,bc_ jb 0,bc_ jb 1,bc_ jb 2,bc_ jb 3,HS8_,HS9_,HS10_,HS11_,HS12_⟩ (fun hHeld=>?_);clear hK K;refine norm_ (a':=?_) ?_ ?_;rotate_left
   ·show Act.put _ (some 61) _=_
    simp only [Act.put,List.setIfInBounds_toArray,List.set_cons_zero,List.set_cons_succ,i64_w,i32_w]
    rfl
   refine on_ 9 62 (fr_ [10,32]) HT_ (fun K hK=>?_);refine gs_ Try.func49 #[ag_ jt ju jv j1s js j1t,.slice Ao93 j3l.length co93] ?_
   with_reducible refine (impl_hasStops.calls k2 jt ju jv _ _ js _ _ j3l true _ ?side1 ?side2 ?side3 ?side4 A62.out).mono ?_
   (case side1=>exact cb_ j2l HB)
   (case side2=>exact j2m.out)
   (case side3=>exact cR_ jm)
   (case side4=>exact (Kd.R_reads' jm.out).2.1)
   rintro e w94 ⟨rfl,hb⟩;have HS8_:=hc_ hb hHeld.2.2.2.2.2.2.2.2.1;have HS9_:=hc_ hb hHeld.2.2.2.2.2.2.2.2.2.1;have HS10_:=hc_ hb hHeld.2.2.2.2.2.2.2.2.2.2.1;have HS11_:=hc_ hb hHeld.2.2.2.2.2.2.2.2.2.2.2.1;have HS12_:=hc_ hb hHeld.2.2.2.2.2.2.2.2.2.2.2.2;refine ⟨_,rfl,?_⟩;replace jq:=ai_ (Kd.V_below (vd_to jq) hb);replace ji:=ai_ (Kd.V_below (vd_to ji) hb);replace je:=ai_ (Kd.V_below (vd_to je) hb);replace jm:=rb_ jm hb;replace ja:=bb_ ja hb;replace jb:=bb_ jb hb;replace jd:=ai_ (cbl_ jd hb);replace HB:=ai_ (below_step (below_to2 HB jf.out jg.out) hb);(try clear hb);(try clear hb2);(try clear hk);(try clear hi)
   have j1j:0≤(1:Int):=(by omega)
   have j1k:1 < ((rd_L1 l4 jc).length:Int):=odt_;obtain ⟨j2c,e218,jj⟩:=Kd.ati_ jd 1 j1j j1k
   obtain rfl:jk=j2c:=(by injection e218)
   (try simp only [show (1:Int).toNat=1 from rfl,Nat.reduceMul,Nat.reduceEqDiff,Go.Addr.add,↓reduceIte] at jj);have qi218:(1 < (rd_L1 l4 jc).length)=True:=eq_true (by omega);(try rw [show ((1:Int)).toNat=1 from rfl] at jj);replace j1j:=eq_true j1j;replace j1k:=eq_true j1k;refine hK.out _ _ ⟨bc_ ja 0,bc_ ja 1,bc_ ja 2,bc_ ja 3,bc_ jb 0,bc_ jb 1,bc_ jb 2,bc_ jb 3,HS8_,HS9_,HS10_,HS11_,HS12_⟩ (fun hHeld=>?_);clear hK K;refine norm_ (a':=?_) ?_ ?_;rotate_left
   ·show Act.put _ (some 62) _=_
    simp only [Act.put,List.setIfInBounds_toArray,List.set_cons_zero,List.set_cons_succ,i64_w,i32_w]
    rfl
   refine pq_ 10 63 42 ?_;refine pq_ 11 64 42 ?_;refine pq_ 12 65 42 ?_;refine pS_ 14 67 (fr_ [13,1,1,27]) HT_ ?_;refine pS_ 15 68 (fr_ [13,1,2,26]) HT_ ?_;refine tk13_ 13 66 (fr_ [16,26]) HT_ HW_ hHeld ?_;refine tk13_ 16 69 (fr_ [17,25]) HT_ HW_ hHeld ?_;refine on_ 17 70 (fr_ [18,24]) HT_ (fun K hK=>?_);refine Kd.R_lit_step Ki_ _ 3 ?hg (N:=70) ?hd (xs:=([rd (rd_L1 l4 jc) 1]:List Int)) (inner:=[.int .i64 (rd (rd_L1 l4 jc) 1)]) (ok:=fun _=>True) (okp:=fun _=>True) ?hr ?hp (fun _ hk=>hk) trivial (Below.refl _ _) (Nat.le_refl _) (by simp) ?_;(case hd=>rfl);(case hg=>rfl);(case hr=>first|(go_simp;done)|(go_simp;rfl));(case hp=>exact (Reps.one (show Kd.M Ki_ _ _ _ (rd (rd_L1 l4 jc) 1) [.int .i64 (rd (rd_L1 l4 jc) 1)] from rfl) (Reps.none _ _)));intro j7g w95 j4c hb hg_ hnew_;have HS8_:=hc_ hb hHeld.2.2.2.2.2.2.2.2.1;have HS9_:=hc_ hb hHeld.2.2.2.2.2.2.2.2.2.1;have HS10_:=hc_ hb hHeld.2.2.2.2.2.2.2.2.2.2.1;have HS11_:=hc_ hb hHeld.2.2.2.2.2.2.2.2.2.2.2.1;have HS12_:=hc_ hb hHeld.2.2.2.2.2.2.2.2.2.2.2.2;clear hg_ hnew_
   (first|rw [← j3a.out] at j4c|(simp only [Int.reduceToNat] at j4c;rw [← j3a.out] at j4c))
   replace jq:=ai_ (Kd.V_elder' (vd_to jq) (Kd.R_base j4c) hb);replace ji:=ai_ (Kd.V_elder' (vd_to ji) (Kd.R_base j4c) hb);replace je:=ai_ (Kd.V_elder' (vd_to je) (Kd.R_base j4c) hb);have j1l:=ai_ (Kd.R_lower (Kd.R_new' (Kd.R_newM (M:=fun k_=>(w.heap.size≤k_)) j4c (below_size (below_to2 HB jf.out jg.out)) (fun k_ h_=>h_)) (Kd.R_lt (kd_to jm))) (below_size (below_to2 HB jf.out jg.out)));replace jm:=ai_ (Kd.R_elder' (kd_to jm) (Kd.R_base j4c) hb);replace ja:=bb_ ja hb;replace jb:=bb_ jb hb;replace jd:=ai_ (cbl_ jd hb);replace HB:=ai_ (below_step (below_to2 HB jf.out jg.out) hb);clear hb j4c;obtain ⟨Ao97,co97,eo97⟩:=Kd.R_slice j1l.out
   (first|subst eo97|(injection eo97 with f1_ f2_ f3_;have f4_:=f1_.symm;have f5_:=f3_.symm;clear f1_ f2_ f3_;subst f4_;subst f5_))
   refine hK.out _ _ ⟨bc_ ja 0,bc_ ja 1,bc_ ja 2,bc_ ja 3,bc_ jb 0,bc_ jb 1,bc_ jb 2,bc_ jb 3,HS8_,HS9_,HS10_,HS11_,HS12_⟩ (fun hHeld=>?_);clear hK K;refine norm_ (a':=?_) ?_ ?_;rotate_left
   ·show Act.put _ (some 70) _=_
    simp only [Act.put,List.setIfInBounds_toArray,List.set_cons_zero,List.set_cons_succ,i64_w,i32_w]
    rfl
   refine on_ 18 71 (fr_ [19,23]) HT_ (fun K hK=>?_);refine gs_ Try.func49 #[ag_ jz j1a j1b j2g jx j2h,.slice Ao97 j3t.length co97] ?_
   with_reducible refine (impl_hasStops.calls k2 jz j1a j1b _ _ jx _ _ j3t true _ ?side1 ?side2 ?side3 ?side4 A65.out).mono ?_
   (case side1=>exact cb_ j2r HB)
   (case side2=>exact j2s.out)
   (case side3=>exact cR_ j1l)
   (case side4=>exact (Kd.R_reads' j1l.out).2.1)
   rintro e w98 ⟨rfl,hb⟩;have HS8_:=hc_ hb hHeld.2.2.2.2.2.2.2.2.1;have HS9_:=hc_ hb hHeld.2.2.2.2.2.2.2.2.2.1;have HS10_:=hc_ hb hHeld.2.2.2.2.2.2.2.2.2.2.1;have HS11_:=hc_ hb hHeld.2.2.2.2.2.2.2.2.2.2.2.1;have HS12_:=hc_ hb hHeld.2.2.2.2.2.2.2.2.2.2.2.2;refine ⟨_,rfl,?_⟩;replace jq:=ai_ (Kd.V_below (vd_to jq) hb);replace ji:=ai_ (Kd.V_below (vd_to ji) hb);replace je:=ai_ (Kd.V_below (vd_to je) hb);replace jm:=rb_ jm hb;replace j1l:=rb_ j1l hb;replace ja:=bb_ ja hb;replace jb:=bb_ jb hb;replace jd:=ai_ (cbl_ jd hb);replace HB:=ai_ (below_step (below_to2 HB jf.out jg.out) hb);(try clear hb);(try clear hb2);(try clear hk);(try clear hi)
   have j1q:0≤(0:Int):=(by omega)
   have j1r:0 < ((rd_L1 l4 jc).length:Int):=odt_;obtain ⟨j2k,e223,jn⟩:=Kd.ati_ jd 0 j1q j1r
   obtain rfl:jk=j2k:=(by injection e223)
   have qi223:(0 < (rd_L1 l4 jc).length)=True:=eq_true (by omega);(try rw [show ((0:Int)).toNat=0 from rfl] at jn);(try rw [Addr.add_zero'] at jn);replace j1q:=eq_true j1q;replace j1r:=eq_true j1r
   have j2e:0≤(1:Int):=(by omega)
   have j2f:1 < ((rd_L1 l4 jc).length:Int):=odt_;obtain ⟨j2v,e224,jy⟩:=Kd.ati_ jd 1 j2e j2f
   obtain rfl:jk=j2v:=(by injection e224)
   (try simp only [show (1:Int).toNat=1 from rfl,Nat.reduceMul,Nat.reduceEqDiff,Go.Addr.add,↓reduceIte] at jy);have qi224:(1 < (rd_L1 l4 jc).length)=True:=eq_true (by omega);(try rw [show ((1:Int)).toNat=1 from rfl] at jy);replace j2e:=eq_true j2e;replace j2f:=eq_true j2f
   have j2w:0≤(2:Int):=(by omega)
   have j2x:2 < ((rd_L1 l4 jc).length:Int):=odt_;obtain ⟨j3u,e225,j1m⟩:=Kd.ati_ jd 2 j2w j2x
   obtain rfl:jk=j3u:=(by injection e225)
   (try simp only [show (2:Int).toNat=2 from rfl,Nat.reduceMul,Nat.reduceEqDiff,Go.Addr.add,↓reduceIte] at j1m);have qi225:(2 < (rd_L1 l4 jc).length)=True:=eq_true (by omega);(try rw [show ((2:Int)).toNat=2 from rfl] at j1m);replace j2w:=eq_true j2w;replace j2x:=eq_true j2x;refine hK.out _ _ ⟨bc_ ja 0,bc_ ja 1,bc_ ja 2,bc_ ja 3,bc_ jb 0,bc_ jb 1,bc_ jb 2,bc_ jb 3,HS8_,HS9_,HS10_,HS11_,HS12_⟩ (fun hHeld=>?_);clear hK K;refine norm_ (a':=?_) ?_ ?_;rotate_left
   ·show Act.put _ (some 71) _=_
    simp only [Act.put,List.setIfInBounds_toArray,List.set_cons_zero,List.set_cons_succ,i64_w,i32_w]
    rfl
   refine pq_ 19 72 42 ?_;refine pq_ 20 73 42 ?_;refine pq_ 21 74 42 ?_;refine pq_ 22 75 42 ?_;refine pq_ 23 76 42 ?_;refine pq_ 24 77 42 ?_;refine tk13_ 25 78 (fr_ [26,16]) HT_ HW_ hHeld ?_;refine pq_ 26 79 42 ?_;refine pq_ 27 80 42 ?_;refine pq_ 28 81 42 ?_;refine pq_ 29 82 42 ?_;refine pq_ 30 83 42 ?_;refine pS_ 32 85 (fr_ [31,1,1,9]) HT_ ?_;refine tk13_ 31 84 (fr_ [33,9]) HT_ HW_ hHeld ?_;refine pq_ 33 86 42 ?_;refine pq_ 34 87 42 ?_;refine pq_ 35 88 42 ?_;refine pq_ 36 89 42 ?_;refine pq_ 37 90 42 ?_;refine tk13_ 38 91 (fr_ [39,3]) HT_ HW_ hHeld ?_;refine on_ 39 92 (fr_ [40,2]) HT_ (fun K hK=>?_);refine gs_ Try.func52 #[.int .i64 (rd (rd_L1 l4 jc) 2)] ?_
   with_reducible refine (impl_isWalk.calls (rd (rd_L1 l4 jc) 2) true _ A88.out).mono ?_
   rintro e w' ⟨rfl,⟨nd,rfl⟩⟩;refine ⟨_,rfl,?_⟩;refine hK.out _ _ ⟨bc_ ja 0,bc_ ja 1,bc_ ja 2,bc_ ja 3,bc_ jb 0,bc_ jb 1,bc_ jb 2,bc_ jb 3,hHeld.2.2.2.2.2.2.2.2.1,hHeld.2.2.2.2.2.2.2.2.2.1,hHeld.2.2.2.2.2.2.2.2.2.2.1,hHeld.2.2.2.2.2.2.2.2.2.2.2.1,hHeld.2.2.2.2.2.2.2.2.2.2.2.2⟩ (fun hHeld=>?_);clear hK K;refine norm_ (a':=?_) ?_ ?_;rotate_left
   ·show Act.put _ (some 92) _=_
    simp only [Act.put,List.setIfInBounds_toArray,List.set_cons_zero,List.set_cons_succ,i64_w,i32_w]
    rfl
   refine pq_ 40 93 42 ?_;refine pq_ 41 94 42 ?_;refine done_ (done_of HT_.out (by kernel_rfl)) ?_
   try go_wp2
   go_roundg k2
   case measure=>have:=HJ6.out;have:=HK2.out;omega
   case rel=>exact ⟨(wrap64 (jc+1)),rt_,H',⟨by have:=HJ6.out;have:=HK2.out;omega⟩,⟨by (with_reducible repeat (first|apply Kd.V_alloc|apply Kd.V_drewN|apply Kd.V_drew));exact Kd.V_mono jq.out (fun _ hk=>⟨hk.1.1.1,⟨hk.1.1.2.1,hk.1.1.2.2⟩⟩)⟩,⟨by (with_reducible repeat (first|apply Kd.V_alloc|apply Kd.V_drewN|apply Kd.V_drew));exact Kd.V_mono ji.out (fun _ hk=>⟨hk.1.1.1,⟨hk.1.1.2.1,hk.1.1.2.2⟩⟩)⟩,⟨blk_to ja⟩,⟨blk_to jb⟩,⟨below_to2 HB jf.out jg.out⟩⟩
end Go.Proofs.Ythdnodmidbcgpaa.QE
