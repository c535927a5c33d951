import Derived.Test.YthdnodmidbcgpaaQEx4
import Derived.Test.YthdnodmidbcgpaaXSort
import Derived.Test.YthdnodmidbcgpaaQEx1
namespace Go.Proofs.Ythdnodmidbcgpaa.QE
open Go.Proofs.Ythdnodmidbcgpaa.X Go.RowKit Go.Proofs.YthdnodmidbcgpaaW.PrintWords Go.Proofs.YthdnodmidbcgpaaW.PrintLast Go.Proofs.YthdnodmidbcgpaaW.PrintMore
attribute [local go_sem] max2_int min2_int max_two min_two max_three min_three max_four min_four
set_option linter.unusedVariables false
set_option linter.unusedSimpArgs false
mutual
def impl_areLines.j0:Nat→List (S30)→List Int→Bool→Option (Bool)
 | 0,_,_,_=>none
 | k+1,x0,x1,x17=>if x17=true then (some false) else (impl_areLines.l0 k x1 x0 (x0.length:Int) 0)
def impl_areLines.l0:Nat→List Int→List (S30)→Int→Int→Option (Bool)
 | 0,_,_,_,_=>none
 | k+1,x1,x18,x19,x20=>if x20 < x19 then (if 0≤x20 then (if x20 < (x18.length:Int) then (if x20 < (x1.length:Int) then ((impl_hasStops.f k ((rd_T30 x18 x20).f0) ((rd_T30 x18 x20).f1) ((rd_T30 x18 x20).f2) ((rd_T30 x18 x20).f3) (([rd x1 x20]:List Int))).bind fun j4u=>(if j4u=true then (impl_areLines.l0 k x1 x18 x19 (wrap64 (x20+1))) else (some false))) else (none)) else (none)) else (none)) else (some true)
end
def impl_areLines.f (k:Nat) (l0:List (S30)) (l1:List Int):Option (Bool):=(impl_within.f (l0.length:Int) 1 5).bind fun j6n=>(if j6n=true then (impl_areLines.j0 k l0 l1 ((l1.length:Int) != (l0.length:Int))) else (impl_areLines.j0 k l0 l1 true))
def impl_areLines.T6:Bool × List (List Nat × List Nat):=(true,[([],[]),([],[]),([],[]),([1,2],[1,2]),([3],[3]),([4],[4]),([0,5],[0,5]),([6],[6])])
def impl_areLines.B6:List Nat:=[0,0,0,6,14,30,63,127]
theorem impl_areLines.tab6:rtab .any (opsOf Try.f65 6)=impl_areLines.T6:=by kernel_rfl
theorem impl_areLines.bits6:waitsOk impl_areLines.T6.2 impl_areLines.B6=true:=by kernel_rfl
set_option maxHeartbeats 8000000 in
set_option maxRecDepth 100000 in
theorem impl_areLines.calls (k:Nat) (A0:Option Addr) (c0:Nat) (l0:List (S30)) (A1:Option Addr) (c1:Nat) (l1:List Int) (r:Bool) (w:World) (hr0:Kd.C k30 w A0 l0.length l0) (hc0:l0.length≤c0) (hr1:Kd.C Ki_ w A1 l1.length l1) (hc1:l1.length≤c1) (h:impl_areLines.f k l0 l1=some r) :
  Calls Try.prog 65 #[.slice A0 l0.length c0,.slice A1 l1.length c1] w fun e w'=>e=.returned (.bool r)∧Below w.heap.size w w':=by
 have hu30:=Try.underlying30;have HR0:=ai_ hr0;have HC0:=ai_ hc0;clear hr0 hc0;have HR1:=ai_ hr1;have HC1:=ai_ hc1;clear hr1 hc1;have HB:=ai_ (Below.refl w.heap.size w);have H:=h
 unfold impl_areLines.f at H
 clear h;have HC3:=ai_ H;clear H;go_enter Try.func65,Try.ntmps65
 go_upto_region 1 with (fail)
 go_cut [17] (fun v17 wc => ∃ (kq:Nat) (j3z:Bool),v17=.bool j3z∧Aside0 (impl_areLines.j0 kq l0 l1 j3z=some r)∧Aside0 (kq≤k)∧Aside0 (Below w.heap.size w wc))
 case first =>
  have H:=HC3.out;clear HC3;obtain ⟨j6n,A4,H⟩:=bs_ H;(try dsimp only at H)
  by_cases c5:j6n=true
  ·subst c5
   rw [if_pos rfl] at H;have H':=ai_ H;clear H
   go_wp2_with (first|((with_reducible refine gc_ 50 rfl ?_);refine gl_ (some 9) Try.func50 #[.int .i64 (l0.length:Int),.int .i64 1,.int .i64 5] ?_;(with_reducible refine (impl_within.calls (l0.length:Int) 1 5 true _ A4.out).mono ?_);rintro e w' ⟨rfl,⟨nd,rfl⟩⟩;refine ⟨_,rfl,?_⟩))
   go_meet
   case rel=>exact ⟨_,(((l1.length:Int) != (l0.length:Int))),rt_,H',⟨by first|omega|exact Nat.le_refl _⟩,⟨below_to HB⟩⟩
  ·replace c5:=Bool.eq_false_iff.mpr c5
   subst c5;rw [if_neg ft_] at H;have H':=ai_ H;clear H
   go_wp2_with (first|((with_reducible refine gc_ 50 rfl ?_);refine gl_ (some 9) Try.func50 #[.int .i64 (l0.length:Int),.int .i64 1,.int .i64 5] ?_;(with_reducible refine (impl_within.calls (l0.length:Int) 1 5 false _ A4.out).mono ?_);rintro e w' ⟨rfl,⟨nd,rfl⟩⟩;refine ⟨_,rfl,?_⟩))
   go_meet
   case rel=>exact ⟨_,(true),rt_,H',⟨by first|omega|exact Nat.le_refl _⟩,⟨below_to HB⟩⟩
 clear HC3
 try clear c1
 try clear p2
 try clear c5
 obtain ⟨kq,j3z,rfl,HA,HJ2,HB⟩:=hcut
 cases kq with
 | zero=>exact absurd HA.out (by simp [impl_areLines.j0])
 | succ kj2 =>
  have H:=HA.out;clear HA;simp only [impl_areLines.j0] at H
  by_cases c6:j3z=true
  ·subst c6
   rw [if_pos rfl] at H;obtain rfl:=Option.some.inj H
   go_wp2
   go_ret;exact ⟨rtE_,below_to HB⟩
  replace c6:=Bool.eq_false_iff.mpr c6;subst c6;rw [if_neg ft_] at H;have H':=ai_ H;clear H
  go_wp2
  go_loopg [20] kj2 (fun kq v20 w' => ∃ (ja:Int),v20=.int .i64 ja∧Aside0 (impl_areLines.l0 kq l1 l0 (l0.length:Int) ja=some r)∧Aside0 (kq≤kj2)∧Aside0 (Below w.heap.size w w'))
  case atStart=>exact ⟨(0),rt_,H',⟨Nat.le_refl _⟩,⟨below_to HB⟩⟩
  clear H'
  try clear c1
  try clear p2
  try clear c5
  try clear c6
  try clear p2
  obtain ⟨ja,rfl,HA,HK2,HB⟩:=hrel
  cases gk with
  | zero=>exact absurd HA.out (by simp [impl_areLines.l0])
  | succ k2 =>
   have H:=HA.out;clear HA;simp only [impl_areLines.l0] at H
   by_cases c7:ja < (l0.length:Int)
   rotate_left
   ·rw [if_neg c7] at H
    have j3n:=decide_eq_false c7;clear c7;obtain rfl:=Option.some.inj H
    go_wp2
    go_ret;exact ⟨rtE_,below_to HB⟩
   rw [if_pos c7] at H;have j3n:=decide_eq_true c7;clear c7
   by_cases c8:0≤ja
   rotate_left
   ·rw [if_neg c8] at H
    cases H
   rw [if_pos c8] at H;have j4v:=decide_eq_true c8;clear c8
   by_cases c9:ja < (l0.length:Int)
   rotate_left
   ·rw [if_neg c9] at H
    cases H
   rw [if_pos c9] at H;have j4w:=decide_eq_true c9;clear c9
   by_cases c10:ja < (l1.length:Int)
   rotate_left
   ·rw [if_neg c10] at H
    cases H
   rw [if_pos c10] at H;have j3k:=decide_eq_true c10;clear c10
   obtain ⟨j4x,hy570⟩:∃ y_:List Int,y_=(([rd l1 ja]:List Int)):=⟨_,rfl⟩
   replace H:((impl_hasStops.f k2 ((rd_T30 l0 ja).f0) ((rd_T30 l0 ja).f1) ((rd_T30 l0 ja).f2) ((rd_T30 l0 ja).f3) j4x).bind fun j4u=>(if j4u=true then (impl_areLines.l0 k2 l1 l0 (l0.length:Int) (wrap64 (ja+1))) else (some false)))=some r:=rx_ H hy570;have j4a:=ai_ hy570;clear hy570;obtain ⟨j4u,A11,H⟩:=bs_ H;(try dsimp only at H)
   by_cases c12:j4u=true
   rotate_left
   ·replace c12:=Bool.eq_false_iff.mpr c12
    subst c12;rw [if_neg ft_] at H;obtain rfl:=Option.some.inj H;have j3o:0≤(ja:Int):=odt_;have j3p:ja < (l0.length:Int):=odt_;obtain ⟨j7e,jn,jo,e567,j1j,j1k,j1l,j1m,hl567_3,hi567_3⟩:=at_T30 HR0.out ja j3o j3p
    cases e567
    replace j1j:=bx_ HB j1j;replace j1k:=bx_ HB j1k;replace j1l:=bx_ HB j1l;replace j1m:=bx_ HB j1m;have j2h:=ai_ hi567_3;have j2i:=ai_ hl567_3;clear hi567_3 hl567_3;replace j3o:=eq_true j3o;replace j3p:=eq_true j3p
    try go_wp2_with (first|((with_reducible refine gd_ 6 rfl ?_);(try (refine gate_guard (by rfl) ?_;dsimp only));refine bxe_ #[.int .i64 0,.int .i64 0,.int .i64 0,.slice none 0 0] 30 ?_;intro jh hg w21 hbox hb;have jf:=ai_ (hbox);have j7f:=ai_ (gb_ hg (below_size (below_to HB)));have j1g:=ai_ (gb_ hg (below_size (below_to HB)));replace HB:=ai_ (below_step (below_to HB) hb);clear hb hbox hg;obtain ⟨j8e,j8f,j8g,j8h,j8i,j8j,j8k,j8l⟩:=blk4_ jf))
    have n0_:Aside0 (((((w21.setCell ⟨jh,0,none⟩ (.int .i64 ((rd_T30 l0 ja).f0))).setCell ⟨jh,1,none⟩ (.int .i64 ((rd_T30 l0 ja).f1))).setCell ⟨jh,2,none⟩ (.int .i64 ((rd_T30 l0 ja).f2))).setCell ⟨jh,3,none⟩ (.slice jn ((rd_T30 l0 ja).f3).length jo)).heap[jh]?=some (.cells #[.int .i64 ((rd_T30 l0 ja).f0),.int .i64 ((rd_T30 l0 ja).f1),.int .i64 ((rd_T30 l0 ja).f2),.slice jn ((rd_T30 l0 ja).f3).length jo] 30 (0,0))):=⟨by (with_reducible repeat (first|refine blk_drewN ?_ _|refine blk_drew ?_|refine blk_alloc ?_ _));refine blk_put (cs:=#[.int .i64 ((rd_T30 l0 ja).f0),.int .i64 ((rd_T30 l0 ja).f1),.int .i64 ((rd_T30 l0 ja).f2),.slice none 0 0]) ?_ 3 _ rfl;(with_reducible repeat (first|refine blk_drewN ?_ _|refine blk_drew ?_|refine blk_alloc ?_ _));refine blk_put (cs:=#[.int .i64 ((rd_T30 l0 ja).f0),.int .i64 ((rd_T30 l0 ja).f1),.int .i64 0,.slice none 0 0]) ?_ 2 _ rfl;(with_reducible repeat (first|refine blk_drewN ?_ _|refine blk_drew ?_|refine blk_alloc ?_ _));refine blk_put (cs:=#[.int .i64 ((rd_T30 l0 ja).f0),.int .i64 0,.int .i64 0,.slice none 0 0]) ?_ 1 _ rfl;(with_reducible repeat (first|refine blk_drewN ?_ _|refine blk_drew ?_|refine blk_alloc ?_ _));refine blk_put (cs:=#[.int .i64 0,.int .i64 0,.int .i64 0,.slice none 0 0]) ?_ 0 _ rfl;(with_reducible repeat (first|refine blk_drewN ?_ _|refine blk_drew ?_|refine blk_alloc ?_ _));exact jf.out⟩
    have n1_:Aside0 (Below w.heap.size w ((((w21.setCell ⟨jh,0,none⟩ (.int .i64 ((rd_T30 l0 ja).f0))).setCell ⟨jh,1,none⟩ (.int .i64 ((rd_T30 l0 ja).f1))).setCell ⟨jh,2,none⟩ (.int .i64 ((rd_T30 l0 ja).f2))).setCell ⟨jh,3,none⟩ (.slice jn ((rd_T30 l0 ja).f3).length jo))):=⟨below_to1 HB j1g.out⟩
    (try clear jf);(try clear HB);generalize ((((w21.setCell ⟨jh,0,none⟩ (.int .i64 ((rd_T30 l0 ja).f0))).setCell ⟨jh,1,none⟩ (.int .i64 ((rd_T30 l0 ja).f1))).setCell ⟨jh,2,none⟩ (.int .i64 ((rd_T30 l0 ja).f2))).setCell ⟨jh,3,none⟩ (.slice jn ((rd_T30 l0 ja).f3).length jo))=w23 at n0_ n1_ ⊢;have jf:=n0_;have HB:=n1_;clear n0_ n1_;replace jf:=ai_ (blk_drew jf.out);replace HB:=ai_ (below_drew1 HB.out);have j3q:0≤(ja:Int):=odt_;have j3r:ja < (l1.length:Int):=odt_;obtain ⟨j4y,e569,jv⟩:=Kd.at_int HR1.out ja j3q j3r;have hw569_0:=jv
    cases e569
    replace jv:=bx_ HB jv;replace j3q:=eq_true j3q;replace j3r:=eq_true j3r;refine start_ (n:=8) (S:=fun w'=>w'.cell? ⟨jh,0,none⟩=some (.int .i64 ((rd_T30 l0 ja).f0))∧w'.cell? ⟨jh,1,none⟩=some (.int .i64 ((rd_T30 l0 ja).f1))∧w'.cell? ⟨jh,2,none⟩=some (.int .i64 ((rd_T30 l0 ja).f2))∧w'.cell? ⟨jh,3,none⟩=some (.slice jn ((rd_T30 l0 ja).f3).length jo)∧w'.cell? (j4y.add (ja).toNat)=some (.int .i64 (rd l1 ja))) (ds:=[]) (fr_ [0,8]) (by kernel_rfl) rfl rfl ⟨bc_ jf 0,bc_ jf 1,bc_ jf 2,bc_ jf 3,((HB.out.cell (World.block_lt_of_cell? w _ hw569_0)).trans hw569_0)⟩ (fun hHeld=>?_);refine with_tabW impl_areLines.tab6 impl_areLines.bits6 (fun HT_ HW_=>?_);generalize w23.drew=w24 at jf HB jv hHeld ⊢;refine pS_ 1 26 (fr_ [0,1,1,6]) HT_ ?_;refine pS_ 2 27 (fr_ [0,1,2,5]) HT_ ?_;refine pS_ 3 28 (fr_ [0,1,3,4]) HT_ ?_;refine tk5_ 0 25 (fr_ [4,4]) HT_ HW_ hHeld ?_;refine tk5_ 4 29 (fr_ [5,3]) HT_ HW_ hHeld ?_;refine on_ 5 30 (fr_ [6,2]) HT_ (fun K hK=>?_);refine Kd.R_lit_step Ki_ _ 3 ?hg (N:=30) ?hd (xs:=([rd l1 ja]:List Int)) (inner:=[.int .i64 (rd l1 ja)]) (ok:=fun _=>True) (okp:=fun _=>True) ?hr ?hp (fun _ hk=>hk) trivial (Below.refl _ _) (Nat.le_refl _) (by simp) ?_;(case hd=>rfl);(case hg=>rfl);(case hr=>first|(go_simp;done)|(go_simp;rfl));(case hp=>exact (Reps.one (show Kd.M Ki_ _ _ _ (rd l1 ja) [.int .i64 (rd l1 ja)] from rfl) (Reps.none _ _)));intro j9k w25 j4z hb hg_ hnew_;clear hg_ hnew_
    (first|rw [← j4a.out] at j4z|(simp only [Int.reduceToNat] at j4z;rw [← j4a.out] at j4z))
    have j1h:=ai_ (Kd.R_lower j4z (below_size (below_to1 HB j1g.out)));replace jf:=bb_ jf hb;replace HB:=ai_ (below_step (below_to1 HB j1g.out) hb);clear hb j4z;obtain ⟨Ao27,co27,eo27⟩:=Kd.R_slice j1h.out
    (first|subst eo27|(injection eo27 with f1_ f2_ f3_;have f4_:=f1_.symm;have f5_:=f3_.symm;clear f1_ f2_ f3_;subst f4_;subst f5_))
    refine hK.out _ _ ⟨bc_ jf 0,bc_ jf 1,bc_ jf 2,bc_ jf 3,((HB.out.cell (World.block_lt_of_cell? w _ hw569_0)).trans hw569_0)⟩ (fun hHeld=>?_);clear hK K;refine norm_ (a':=?_) ?_ ?_;rotate_left
    ·show Act.put _ (some 30) _=_
     simp only [Act.put,List.setIfInBounds_toArray,List.set_cons_zero,List.set_cons_succ,i64_w,i32_w]
     rfl
    refine on_ 6 31 (fr_ [7,1]) HT_ (fun K hK=>?_);refine gs_ Try.func49 #[.agg #[.int .i64 ((rd_T30 l0 ja).f0),.int .i64 ((rd_T30 l0 ja).f1),.int .i64 ((rd_T30 l0 ja).f2),.slice jn ((rd_T30 l0 ja).f3).length jo],.slice Ao27 j4x.length co27] ?_
    with_reducible refine (impl_hasStops.calls k2 ((rd_T30 l0 ja).f0) ((rd_T30 l0 ja).f1) ((rd_T30 l0 ja).f2) _ _ ((rd_T30 l0 ja).f3) _ _ j4x false _ ?side1 ?side2 ?side3 ?side4 A11.out).mono ?_
    (case side1=>exact cb_ j2h HB)
    (case side2=>exact j2i.out)
    (case side3=>exact cR_ j1h)
    (case side4=>exact (Kd.R_reads' j1h.out).2.1)
    rintro e w28 ⟨rfl,hb⟩;refine ⟨_,rfl,?_⟩;replace j1h:=rb_ j1h hb;replace jf:=bb_ jf hb;replace HB:=ai_ (below_step (below_to1 HB j1g.out) hb);(try clear hb);(try clear hb2);(try clear hk);(try clear hi);refine hK.out _ _ ⟨bc_ jf 0,bc_ jf 1,bc_ jf 2,bc_ jf 3,((HB.out.cell (World.block_lt_of_cell? w _ hw569_0)).trans hw569_0)⟩ (fun hHeld=>?_);clear hK K;refine norm_ (a':=?_) ?_ ?_;rotate_left
    ·show Act.put _ (some 31) _=_
     simp only [Act.put,List.setIfInBounds_toArray,List.set_cons_zero,List.set_cons_succ,i64_w,i32_w]
     rfl
    refine pq_ 7 32 8 ?_;refine done_ (done_of HT_.out (by kernel_rfl)) ?_
    try go_wp2
    go_ret;exact ⟨rtE_,below_to1 HB j1g.out⟩
   subst c12;rw [if_pos rfl] at H;have H':=ai_ H;clear H;have j3o:0≤(ja:Int):=odt_;have j3p:ja < (l0.length:Int):=odt_;obtain ⟨j7e,jn,jo,e567,j1j,j1k,j1l,j1m,hl567_3,hi567_3⟩:=at_T30 HR0.out ja j3o j3p
   cases e567
   replace j1j:=bx_ HB j1j;replace j1k:=bx_ HB j1k;replace j1l:=bx_ HB j1l;replace j1m:=bx_ HB j1m;have j2h:=ai_ hi567_3;have j2i:=ai_ hl567_3;clear hi567_3 hl567_3;replace j3o:=eq_true j3o;replace j3p:=eq_true j3p
   try go_wp2_with (first|((with_reducible refine gd_ 6 rfl ?_);(try (refine gate_guard (by rfl) ?_;dsimp only));refine bxe_ #[.int .i64 0,.int .i64 0,.int .i64 0,.slice none 0 0] 30 ?_;intro jh hg w13 hbox hb;have jf:=ai_ (hbox);have j7f:=ai_ (gb_ hg (below_size (below_to HB)));have j1g:=ai_ (gb_ hg (below_size (below_to HB)));replace HB:=ai_ (below_step (below_to HB) hb);clear hb hbox hg;obtain ⟨j2j,j2k,j2l,j2m,j2n,j2o,j2p,j2q⟩:=blk4_ jf))
   have n0_:Aside0 (((((w13.setCell ⟨jh,0,none⟩ (.int .i64 ((rd_T30 l0 ja).f0))).setCell ⟨jh,1,none⟩ (.int .i64 ((rd_T30 l0 ja).f1))).setCell ⟨jh,2,none⟩ (.int .i64 ((rd_T30 l0 ja).f2))).setCell ⟨jh,3,none⟩ (.slice jn ((rd_T30 l0 ja).f3).length jo)).heap[jh]?=some (.cells #[.int .i64 ((rd_T30 l0 ja).f0),.int .i64 ((rd_T30 l0 ja).f1),.int .i64 ((rd_T30 l0 ja).f2),.slice jn ((rd_T30 l0 ja).f3).length jo] 30 (0,0))):=⟨by (with_reducible repeat (first|refine blk_drewN ?_ _|refine blk_drew ?_|refine blk_alloc ?_ _));refine blk_put (cs:=#[.int .i64 ((rd_T30 l0 ja).f0),.int .i64 ((rd_T30 l0 ja).f1),.int .i64 ((rd_T30 l0 ja).f2),.slice none 0 0]) ?_ 3 _ rfl;(with_reducible repeat (first|refine blk_drewN ?_ _|refine blk_drew ?_|refine blk_alloc ?_ _));refine blk_put (cs:=#[.int .i64 ((rd_T30 l0 ja).f0),.int .i64 ((rd_T30 l0 ja).f1),.int .i64 0,.slice none 0 0]) ?_ 2 _ rfl;(with_reducible repeat (first|refine blk_drewN ?_ _|refine blk_drew ?_|refine blk_alloc ?_ _));refine blk_put (cs:=#[.int .i64 ((rd_T30 l0 ja).f0),.int .i64 0,.int .i64 0,.slice none 0 0]) ?_ 1 _ rfl;(with_reducible repeat (first|refine blk_drewN ?_ _|refine blk_drew ?_|refine blk_alloc ?_ _));refine blk_put (cs:=#[.int .i64 0,.int .i64 0,.int .i64 0,.slice none 0 0]) ?_ 0 _ rfl;(with_reducible repeat (first|refine blk_drewN ?_ _|refine blk_drew ?_|refine blk_alloc ?_ _));exact jf.out⟩
   have n1_:Aside0 (Below w.heap.size w ((((w13.setCell ⟨jh,0,none⟩ (.int .i64 ((rd_T30 l0 ja).f0))).setCell ⟨jh,1,none⟩ (.int .i64 ((rd_T30 l0 ja).f1))).setCell ⟨jh,2,none⟩ (.int .i64 ((rd_T30 l0 ja).f2))).setCell ⟨jh,3,none⟩ (.slice jn ((rd_T30 l0 ja).f3).length jo))):=⟨below_to1 HB j1g.out⟩
   (try clear jf);(try clear HB);generalize ((((w13.setCell ⟨jh,0,none⟩ (.int .i64 ((rd_T30 l0 ja).f0))).setCell ⟨jh,1,none⟩ (.int .i64 ((rd_T30 l0 ja).f1))).setCell ⟨jh,2,none⟩ (.int .i64 ((rd_T30 l0 ja).f2))).setCell ⟨jh,3,none⟩ (.slice jn ((rd_T30 l0 ja).f3).length jo))=w15 at n0_ n1_ ⊢;have jf:=n0_;have HB:=n1_;clear n0_ n1_;replace jf:=ai_ (blk_drew jf.out);replace HB:=ai_ (below_drew1 HB.out);have j3q:0≤(ja:Int):=odt_;have j3r:ja < (l1.length:Int):=odt_;obtain ⟨j4y,e569,jv⟩:=Kd.at_int HR1.out ja j3q j3r;have hw569_0:=jv
   cases e569
   replace jv:=bx_ HB jv;replace j3q:=eq_true j3q;replace j3r:=eq_true j3r;refine start_ (n:=8) (S:=fun w'=>w'.cell? ⟨jh,0,none⟩=some (.int .i64 ((rd_T30 l0 ja).f0))∧w'.cell? ⟨jh,1,none⟩=some (.int .i64 ((rd_T30 l0 ja).f1))∧w'.cell? ⟨jh,2,none⟩=some (.int .i64 ((rd_T30 l0 ja).f2))∧w'.cell? ⟨jh,3,none⟩=some (.slice jn ((rd_T30 l0 ja).f3).length jo)∧w'.cell? (j4y.add (ja).toNat)=some (.int .i64 (rd l1 ja))) (ds:=[]) (fr_ [0,8]) (by kernel_rfl) rfl rfl ⟨bc_ jf 0,bc_ jf 1,bc_ jf 2,bc_ jf 3,((HB.out.cell (World.block_lt_of_cell? w _ hw569_0)).trans hw569_0)⟩ (fun hHeld=>?_);refine with_tabW impl_areLines.tab6 impl_areLines.bits6 (fun HT_ HW_=>?_);generalize w15.drew=w16 at jf HB jv hHeld ⊢;refine pS_ 1 26 (fr_ [0,1,1,6]) HT_ ?_;refine pS_ 2 27 (fr_ [0,1,2,5]) HT_ ?_;refine pS_ 3 28 (fr_ [0,1,3,4]) HT_ ?_;refine tk5_ 0 25 (fr_ [4,4]) HT_ HW_ hHeld ?_;refine tk5_ 4 29 (fr_ [5,3]) HT_ HW_ hHeld ?_;refine on_ 5 30 (fr_ [6,2]) HT_ (fun K hK=>?_);refine Kd.R_lit_step Ki_ _ 3 ?hg (N:=30) ?hd (xs:=([rd l1 ja]:List Int)) (inner:=[.int .i64 (rd l1 ja)]) (ok:=fun _=>True) (okp:=fun _=>True) ?hr ?hp (fun _ hk=>hk) trivial (Below.refl _ _) (Nat.le_refl _) (by simp) ?_;(case hd=>rfl);(case hg=>rfl);(case hr=>first|(go_simp;done)|(go_simp;rfl));(case hp=>exact (Reps.one (show Kd.M Ki_ _ _ _ (rd l1 ja) [.int .i64 (rd l1 ja)] from rfl) (Reps.none _ _)));intro j9k w17 j1t hb hg_ hnew_;clear hg_ hnew_
   (first|rw [← j4a.out] at j1t|(simp only [Int.reduceToNat] at j1t;rw [← j4a.out] at j1t))
   have j1h:=ai_ (Kd.R_lower j1t (below_size (below_to1 HB j1g.out)));replace jf:=bb_ jf hb;replace HB:=ai_ (below_step (below_to1 HB j1g.out) hb);clear hb j1t;obtain ⟨Ao19,co19,eo19⟩:=Kd.R_slice j1h.out
   (first|subst eo19|(injection eo19 with f1_ f2_ f3_;have f4_:=f1_.symm;have f5_:=f3_.symm;clear f1_ f2_ f3_;subst f4_;subst f5_))
   refine hK.out _ _ ⟨bc_ jf 0,bc_ jf 1,bc_ jf 2,bc_ jf 3,((HB.out.cell (World.block_lt_of_cell? w _ hw569_0)).trans hw569_0)⟩ (fun hHeld=>?_);clear hK K;refine norm_ (a':=?_) ?_ ?_;rotate_left
   ·show Act.put _ (some 30) _=_
    simp only [Act.put,List.setIfInBounds_toArray,List.set_cons_zero,List.set_cons_succ,i64_w,i32_w]
    rfl
   refine on_ 6 31 (fr_ [7,1]) HT_ (fun K hK=>?_);refine gs_ Try.func49 #[.agg #[.int .i64 ((rd_T30 l0 ja).f0),.int .i64 ((rd_T30 l0 ja).f1),.int .i64 ((rd_T30 l0 ja).f2),.slice jn ((rd_T30 l0 ja).f3).length jo],.slice Ao19 j4x.length co19] ?_
   with_reducible refine (impl_hasStops.calls k2 ((rd_T30 l0 ja).f0) ((rd_T30 l0 ja).f1) ((rd_T30 l0 ja).f2) _ _ ((rd_T30 l0 ja).f3) _ _ j4x true _ ?side1 ?side2 ?side3 ?side4 A11.out).mono ?_
   (case side1=>exact cb_ j2h HB)
   (case side2=>exact j2i.out)
   (case side3=>exact cR_ j1h)
   (case side4=>exact (Kd.R_reads' j1h.out).2.1)
   rintro e w20 ⟨rfl,hb⟩;refine ⟨_,rfl,?_⟩;replace j1h:=rb_ j1h hb;replace jf:=bb_ jf hb;replace HB:=ai_ (below_step (below_to1 HB j1g.out) hb);(try clear hb);(try clear hb2);(try clear hk);(try clear hi);refine hK.out _ _ ⟨bc_ jf 0,bc_ jf 1,bc_ jf 2,bc_ jf 3,((HB.out.cell (World.block_lt_of_cell? w _ hw569_0)).trans hw569_0)⟩ (fun hHeld=>?_);clear hK K;refine norm_ (a':=?_) ?_ ?_;rotate_left
   ·show Act.put _ (some 31) _=_
    simp only [Act.put,List.setIfInBounds_toArray,List.set_cons_zero,List.set_cons_succ,i64_w,i32_w]
    rfl
   refine pq_ 7 32 8 ?_;refine done_ (done_of HT_.out (by kernel_rfl)) ?_
   try go_wp2
   go_roundg k2
   case measure=>have:=HJ2.out;have:=HK2.out;omega
   case rel=>exact ⟨(wrap64 (ja+1)),rt_,H',⟨by have:=HJ2.out;have:=HK2.out;omega⟩,⟨below_to1 HB j1g.out⟩⟩
def slices_Sort_int_int.f (l0:List Int):Option (List Int):=if l0.length < 4611686018427387904 then (some (l0.mergeSort fun x y=>decide (x≤y))) else (none)
theorem slices_Sort_int_int.calls (P0_:Nat→Prop) (u9000_:Value) (l0:List Int) (r:List Int) (w0 w:World) (hB:Below w0.heap.size w0 w) (ho0:Kd.R Ki_ 3 w w0.heap.size P0_ u9000_ l0) (h:slices_Sort_int_int.f l0=some r) :
  Calls Try.prog 75 #[u9000_] w fun e w'=>e=.returned (.tuple #[])∧Kd.R Ki_ 3 w' w0.heap.size (fun k_=>(P0_ k_∨w.heap.size≤k_)) u9000_ r∧Below w0.heap.size w0 w'∧Kept w w' (fun k_=>P0_ k_):=by
 unfold slices_Sort_int_int.f at h
 by_cases c:l0.length < 4611686018427387904
 ·rw [if_pos c] at h
  obtain rfl:=Option.some.inj h;exact Go.Proofs.Ythdnodmidbcgpaa.XSort.sort_calls P0_ u9000_ l0 w0 w hB ho0 c
 ·rw [if_neg c] at h
  cases h
def slices_Compact_int_int.f (l0:List Int):Option (List Int):=some (Lib.compact l0)
theorem slices_Compact_int_int.calls (P0_:Nat→Prop) (u9000_:Value) (l0:List Int) (r:List Int) (w0 w:World) (hB:Below w0.heap.size w0 w) (ho0:Kd.R Ki_ 3 w w0.heap.size P0_ u9000_ l0) (h:slices_Compact_int_int.f l0=some r) :
  Calls Try.prog 76 #[u9000_] w fun e w' => ∃ Ab:Value,e=.returned (Ab)∧Kd.R Ki_ 3 w' w0.heap.size (fun k_=>(P0_ k_∨w.heap.size≤k_)) Ab r∧Below w0.heap.size w0 w'∧Kept w w' (fun k_=>P0_ k_):=by
 obtain rfl:=Option.some.inj h;exact Go.Proofs.Ythdnodmidbcgpaa.XSort.compact_calls P0_ u9000_ l0 w0 w hB ho0
end Go.Proofs.Ythdnodmidbcgpaa.QE
namespace Go.Proofs.Ythdnodmidbcgpaa.QE
open Go.Proofs.Ythdnodmidbcgpaa.X Go.RowKit Go.Proofs.YthdnodmidbcgpaaW.PrintWords Go.Proofs.YthdnodmidbcgpaaW.PrintLast Go.Proofs.YthdnodmidbcgpaaW.PrintMore
set_option maxHeartbeats 8000000
set_option maxRecDepth 100000
attribute [local go_sem] max2_int min2_int max_two min_two max_three min_three max_four min_four
set_option linter.unusedVariables false
set_option linter.unusedSimpArgs false
mutual
def impl_timesOfLines.l0:Nat→List Int→List Int→List (S30)→Int→Int→Option (List Int)
 | 0,_,_,_,_,_=>none
 | k+1,x1,x5,x9,x10,x11=>if x11 < x10 then (if 0≤x11 then (if x11 < (x9.length:Int) then (impl_timesOfLines.l1 k x1 x5 x11 x9 x10 x11 ((rd_T30 x9 x11).f2) 0 ((rd_T30 x9 x11).f0) ((rd_T30 x9 x11).f1) ((rd_T30 x9 x11).f2) ((rd_T30 x9 x11).f3)) else (none)) else (none)) else ((slices_Sort_int_int.f x5).bind fun j5m=>((slices_Compact_int_int.f j5m).bind fun j5n=>(some j5n)))
def impl_timesOfLines.l1:Nat→List Int→List Int→Int→List (S30)→Int→Int→Int→Int→Int→Int→Int→List Int→Option (List Int)
 | 0,_,_,_,_,_,_,_,_,_,_,_,_=>none
 | k+1,x1,x5,x6,x9,x10,x11,x17,x18,j4b,j4c,j4d,j4e=>if x18 < x17 then (if 0≤x6 then (if x6 < (x1.length:Int) then ((impl_timeAt.f j4b j4c j4d j4e x18 (rd x1 x6)).bind fun j4r=>(if x5.length < 17592186044416 then (impl_timesOfLines.l1 k x1 (x5 ++ [j4r]) x6 x9 x10 x11 x17 (wrap64 (x18+1)) j4b j4c j4d j4e) else (none))) else (none)) else (none)) else (impl_timesOfLines.l0 k x1 x5 x9 x10 (wrap64 (x11+1)))
end
def impl_timesOfLines.f (k:Nat) (l0:List (S30)) (l1:List Int):Option (List Int):=impl_timesOfLines.l0 k l1 ([]:List Int) l0 (l0.length:Int) 0
def impl_timesOfLines.T8:Bool × List (List Nat × List Nat):=(true,[([],[]),([],[]),([],[]),([],[]),([],[]),([3,4],[3,4]),([5],[5]),([1,2,6],[1,2,6]),([7],[7]),([0,8,7],[0,8]),([9,9,0,1,2,3,4,5,6,7,8,9],[0,9])])
def impl_timesOfLines.B8:List Nat:=[0,0,0,0,0,24,56,126,254,511,1023]
theorem impl_timesOfLines.tab8:rtab .any (opsOf Try.f66 8)=impl_timesOfLines.T8:=by kernel_rfl
theorem impl_timesOfLines.bits8:waitsOk impl_timesOfLines.T8.2 impl_timesOfLines.B8=true:=by kernel_rfl
theorem impl_timesOfLines.calls (k:Nat) (A0:Option Addr) (c0:Nat) (l0:List (S30)) (A1:Option Addr) (c1:Nat) (l1:List Int) (r:List Int) (w:World) (hr0:Kd.C k30 w A0 l0.length l0) (hc0:l0.length≤c0) (hr1:Kd.C Ki_ w A1 l1.length l1) (hc1:l1.length≤c1) (h:impl_timesOfLines.f k l0 l1=some r) :
  Calls Try.prog 66 #[.slice A0 l0.length c0,.slice A1 l1.length c1] w fun e w' => ∃ Ab:Value,e=.returned (Ab)∧Kd.R Ki_ 3 w' w.heap.size (fun _=>True) Ab r∧Below w.heap.size w w':=by
 have hu30:=Try.underlying30;have HR0:=ai_ hr0;have HC0:=ai_ hc0;clear hr0 hc0;have HR1:=ai_ hr1;have HC1:=ai_ hc1;clear hr1 hc1;have HB:=ai_ (Below.refl w.heap.size w);have H:=h
 unfold impl_timesOfLines.f at H
 clear h;have H':=ai_ H;clear H;go_enter Try.func66,Try.ntmps66
 go_wp2
 go_loopg [5,11] k (fun kq v5 v11 w' => ∃ (jd:List Int) (je:Int),v11=.int .i64 je∧Aside0 (impl_timesOfLines.l0 kq l1 jd l0 (l0.length:Int) je=some r)∧Aside0 (kq≤k)∧Aside0 (Kd.R Ki_ 3 w' w.heap.size (fun _=>True) v5 jd)∧Aside0 (Below w.heap.size w w'))
 case atStart=>exact ⟨(([]:List Int)),(0),rt_,H',⟨Nat.le_refl _⟩,⟨by first|exact Kd.R_nil _ _ _ _ _|exact Kd.N_nil _ _ _ _ _|exact Kd.V_nil _ _ _ _ _|exact Kd.Q_nil _ _ _ _ _|exact Kd.S_nil _ _ _ _ _⟩,⟨below_to HB⟩⟩
 clear H'
 try clear c1
 try clear p2
 obtain ⟨jd,je,rfl,HA,HK1,jx,HB⟩:=hrel
 cases gk with
 | zero=>exact absurd HA.out (by simp [impl_timesOfLines.l0])
 | succ k1 =>
  have H:=HA.out;clear HA;simp only [impl_timesOfLines.l0] at H
  by_cases c3:je < (l0.length:Int)
  rotate_left
  ·rw [if_neg c3] at H
   have j4s:=decide_eq_false c3;clear c3;obtain ⟨j5m,A16,H⟩:=bs_ H;(try dsimp only at H);replace H:=Option.bind_eq_some_iff.mp H;obtain ⟨j5n,A170,H⟩:=H;replace H:(some j5n)=some r:=H;have A17:=ai_ A170;clear A170;obtain rfl:=Option.some.inj H;obtain ⟨Ao18,co18,eo18⟩:=Kd.R_slice jx.out;subst eo18
   go_wp2_with (first|((with_reducible refine gc_ 75 rfl ?_);refine gl_ (some 34) Try.func75 #[.slice Ao18 jd.length co18] ?_;(with_reducible refine (slices_Sort_int_int.calls (fun k_=>some k_=(.slice Ao18 jd.length co18:Value).ownBlock) (.slice Ao18 jd.length co18) jd j5m w _ (below_to HB) ?side2 A16.out).mono ?_);(case side2=>exact Kd.R_tight rfl jx.out);rintro e w19 ⟨rfl,hy0,hb,hkp⟩;refine ⟨_,rfl,?_⟩;replace jx:=ai_ (Kd.R_reok rfl hy0 (fun k_ e_=>jx.out.1 k_ e_));replace HB:=ai_ (hb);(try clear hb);(try clear hkp);(try clear hy0))|((with_reducible refine gc_ 76 rfl ?_);refine gl_ (some 36) Try.func76 #[.slice Ao18 jd.length co18] ?_;(with_reducible refine (slices_Compact_int_int.calls (fun k_=>some k_=(.slice Ao18 jd.length co18:Value).ownBlock) (.slice Ao18 jd.length co18) j5m j5n w _ (below_to HB) ?side2 A17.out).mono ?_);(case side2=>exact Kd.R_tight rfl jx.out);rintro e w20 ⟨ja8,rfl,ho0,hb,hkp⟩;refine ⟨_,rfl,?_⟩;have j7g:=ai_ (Kd.R_mono (ok':=fun k_=>True) ho0 (fun k_ hk_=>trivial));replace HB:=ai_ (hb);clear jx;(try clear hb);(try clear hkp);(try clear ho0)))
   go_ret;exact ⟨_,rtE_,kd_to j7g,below_to HB⟩
  rw [if_pos c3] at H;have j4s:=decide_eq_true c3;clear c3
  by_cases c4:0≤je
  rotate_left
  ·rw [if_neg c4] at H
   cases H
  rw [if_pos c4] at H;have j6o:=decide_eq_true c4;clear c4
  by_cases c5:je < (l0.length:Int)
  rotate_left
  ·rw [if_neg c5] at H
   cases H
  rw [if_pos c5] at H;have j5o:=decide_eq_true c5;clear c5;have H':=ai_ H;clear H;have j5p:0≤(je:Int):=odt_;have j5q:je < (l0.length:Int):=odt_;obtain ⟨j9y,j2r,j2s,e578,j2t,j2u,j2v,j2w,hl578_3,hi578_3⟩:=at_T30 HR0.out je j5p j5q
  cases e578
  replace j2t:=bx_ HB j2t;replace j2u:=bx_ HB j2u;replace j2v:=bx_ HB j2v;replace j2w:=bx_ HB j2w;have j5r:=ai_ hi578_3;have j5s:=ai_ hl578_3;clear hi578_3 hl578_3;replace j5p:=eq_true j5p;replace j5q:=eq_true j5q
  go_wp2_with (first|((with_reducible refine gd_ 7 rfl ?_);refine bxe_ #[.int .i64 0,.int .i64 0,.int .i64 0,.slice none 0 0] 30 ?_;intro j2f hg w6 hbox hb;replace jx:=rb_ jx hb;have jl:=ai_ (hbox);have j9z:=ai_ (gb_ hg (below_size (below_to HB)));have j2g:=ai_ (gb_ hg (below_size (below_to HB)));replace HB:=ai_ (below_step (below_to HB) hb);clear hb hbox hg;obtain ⟨j6p,j6q,j6r,j6s,j6t,j6u,j6v,j6w⟩:=blk4_ jl))
  go_loopg [5,18] k1 (fun kq v5 v18 w' => ∃ (j3s:List Int) (j1s:Int),v18=.int .i64 j1s∧Aside0 (impl_timesOfLines.l1 kq l1 j3s je l0 (l0.length:Int) je ((rd_T30 l0 je).f2) j1s ((rd_T30 l0 je).f0) ((rd_T30 l0 je).f1) ((rd_T30 l0 je).f2) ((rd_T30 l0 je).f3)=some r)∧Aside0 (kq≤k1)∧Aside0 (Kd.R Ki_ 3 w' w.heap.size (fun _=>True) v5 j3s)∧Aside0 (w'.heap[j2f]?=some (.cells #[.int .i64 ((rd_T30 l0 je).f0),.int .i64 ((rd_T30 l0 je).f1),.int .i64 ((rd_T30 l0 je).f2),(.slice j2r ((rd_T30 l0 je).f3).length j2s)] 30 (0,0)))∧Aside0 (Below w.heap.size w w'))
  case atStart=>exact ⟨(jd),(0),rt_,H',⟨Nat.le_refl _⟩,⟨rh_ jx jl (fun _ hk=>trivial)⟩,⟨by (with_reducible repeat (first|refine blk_drewN ?_ _|refine blk_drew ?_|refine blk_alloc ?_ _));refine blk_put (cs:=#[.int .i64 ((rd_T30 l0 je).f0),.int .i64 ((rd_T30 l0 je).f1),.int .i64 ((rd_T30 l0 je).f2),.slice none 0 0]) ?_ 3 _ rfl;(with_reducible repeat (first|refine blk_drewN ?_ _|refine blk_drew ?_|refine blk_alloc ?_ _));refine blk_put (cs:=#[.int .i64 ((rd_T30 l0 je).f0),.int .i64 ((rd_T30 l0 je).f1),.int .i64 0,.slice none 0 0]) ?_ 2 _ rfl;(with_reducible repeat (first|refine blk_drewN ?_ _|refine blk_drew ?_|refine blk_alloc ?_ _));refine blk_put (cs:=#[.int .i64 ((rd_T30 l0 je).f0),.int .i64 0,.int .i64 0,.slice none 0 0]) ?_ 1 _ rfl;(with_reducible repeat (first|refine blk_drewN ?_ _|refine blk_drew ?_|refine blk_alloc ?_ _));refine blk_put (cs:=#[.int .i64 0,.int .i64 0,.int .i64 0,.slice none 0 0]) ?_ 0 _ rfl;(with_reducible repeat (first|refine blk_drewN ?_ _|refine blk_drew ?_|refine blk_alloc ?_ _));exact jl.out⟩,⟨below_to1 HB j2g.out⟩⟩
  clear H'
  try clear c1
  try clear p2
  try clear c3
  try clear j4s
  try clear c4
  try clear j6o
  try clear c5
  try clear j5o
  try clear p5
  try clear q5
  try clear hx5
  try clear c6
  try clear j6p
  try clear j6q
  try clear j6r
  try clear j6s
  try clear j6t
  try clear j6u
  try clear j6v
  try clear j6w
  try clear j2t
  try clear j2u
  try clear j2v
  try clear j2w
  try clear p2
  try clear j5p
  try clear j5q
  obtain ⟨j3s,j1s,rfl,HA,HK2,jx,jl,HB⟩:=hrel
  cases gk with
  | zero=>exact absurd HA.out (by simp [impl_timesOfLines.l1])
  | succ k2 =>
   have H:=HA.out;clear HA;simp only [impl_timesOfLines.l1] at H
   by_cases c8:j1s < ((rd_T30 l0 je).f2)
   rotate_left
   ·rw [if_neg c8] at H
    have j4v:=decide_eq_false c8;clear c8;have H':=ai_ H;clear H
    go_wp2
    go_roundg k2
    case measure=>have:=HK1.out;have:=HK2.out;omega
    case rel=>exact ⟨(j3s),(wrap64 (je+1)),rt_,H',⟨by have:=HK1.out;have:=HK2.out;omega⟩,⟨kd_to jx⟩,⟨below_to1 HB j2g.out⟩⟩
   rw [if_pos c8] at H;have j4v:=decide_eq_true c8;clear c8
   by_cases c9:0≤je
   rotate_left
   ·rw [if_neg c9] at H
    cases H
   rw [if_pos c9] at H;have j4w:=decide_eq_true c9;clear c9
   by_cases c10:je < (l1.length:Int)
   rotate_left
   ·rw [if_neg c10] at H
    cases H
   rw [if_pos c10] at H;have j3k:=decide_eq_true c10;clear c10;obtain ⟨j4r,A11,H⟩:=bs_ H;(try dsimp only at H)
   by_cases c12:j3s.length < 17592186044416
   rotate_left
   ·rw [if_neg c12] at H
    cases H
   rw [if_pos c12] at H;have j5a:=ai_ c12;clear c12
   obtain ⟨j7h,hy582⟩:∃ y_:List Int,y_=(j3s ++ [j4r]):=⟨_,rfl⟩
   replace H:(impl_timesOfLines.l1 k2 l1 j7h je l0 (l0.length:Int) je ((rd_T30 l0 je).f2) (wrap64 (j1s+1)) ((rd_T30 l0 je).f0) ((rd_T30 l0 je).f1) ((rd_T30 l0 je).f2) ((rd_T30 l0 je).f3))=some r:=rx_ H hy582;have j7i:=ai_ hy582;clear hy582;have H':=ai_ H;clear H
   try go_wp2
   replace jx:=ai_ (Kd.R_drew jx.out);replace jl:=ai_ (blk_drew jl.out);replace HB:=ai_ (below_drew1 HB.out);have j6x:0≤(je:Int):=odt_;have j6y:je < (l1.length:Int):=odt_;obtain ⟨j7j,e580,j1u⟩:=Kd.at_int HR1.out je j6x j6y;have hw580_0:=j1u
   cases e580
   replace j1u:=bx_ HB j1u;replace j6x:=eq_true j6x;replace j6y:=eq_true j6y;refine start_ (n:=11) (S:=fun w'=>w'.cell? ⟨j2f,0,none⟩=some (.int .i64 ((rd_T30 l0 je).f0))∧w'.cell? ⟨j2f,1,none⟩=some (.int .i64 ((rd_T30 l0 je).f1))∧w'.cell? ⟨j2f,2,none⟩=some (.int .i64 ((rd_T30 l0 je).f2))∧w'.cell? ⟨j2f,3,none⟩=some (.slice j2r ((rd_T30 l0 je).f3).length j2s)∧w'.cell? (j7j.add (je).toNat)=some (.int .i64 (rd l1 je))) (ds:=[]) (fr_ [0,11]) (by kernel_rfl) rfl rfl ⟨bc_ jl 0,bc_ jl 1,bc_ jl 2,bc_ jl 3,((HB.out.cell (World.block_lt_of_cell? w _ hw580_0)).trans hw580_0)⟩ (fun hHeld=>?_);refine with_tabW impl_timesOfLines.tab8 impl_timesOfLines.bits8 (fun HT_ HW_=>?_);generalize wr.drew=w13 at jx jl HB j1u hHeld ⊢;refine pq_ 0 21 11 ?_;refine pS_ 2 23 (fr_ [1,1,1,8]) HT_ ?_;refine pS_ 3 24 (fr_ [1,1,2,7]) HT_ ?_;refine pS_ 4 25 (fr_ [1,1,3,6]) HT_ ?_;refine pS_ 5 26 (fr_ [1,1,4,5]) HT_ ?_;refine tk5_ 1 22 (fr_ [6,5]) HT_ HW_ hHeld ?_;refine tk5_ 6 27 (fr_ [7,4]) HT_ HW_ hHeld ?_;refine on_ 7 28 (fr_ [8,3]) HT_ (fun K hK=>?_);refine gs_ Try.func61 #[.agg #[.int .i64 ((rd_T30 l0 je).f0),.int .i64 ((rd_T30 l0 je).f1),.int .i64 ((rd_T30 l0 je).f2),.slice j2r ((rd_T30 l0 je).f3).length j2s],.int .i64 j1s,.int .i64 (rd l1 je)] ?_
   with_reducible refine (impl_timeAt.calls ((rd_T30 l0 je).f0) ((rd_T30 l0 je).f1) ((rd_T30 l0 je).f2) _ _ ((rd_T30 l0 je).f3) j1s (rd l1 je) j4r _ ?side1 ?side2 A11.out).mono ?_
   (case side1=>exact cb_ j5r HB)
   (case side2=>exact j5s.out)
   rintro e w14 ⟨rfl,hb⟩;refine ⟨_,rfl,?_⟩;replace jx:=rb_ jx hb;replace jl:=bb_ jl hb;replace HB:=ai_ (below_step (below_to1 HB j2g.out) hb);(try clear hb);(try clear hb2);(try clear hk);(try clear hi);refine hK.out _ _ ⟨bc_ jl 0,bc_ jl 1,bc_ jl 2,bc_ jl 3,((HB.out.cell (World.block_lt_of_cell? w _ hw580_0)).trans hw580_0)⟩ (fun hHeld=>?_);clear hK K;refine norm_ (a':=?_) ?_ ?_;rotate_left
   ·show Act.put _ (some 28) _=_
    simp only [Act.put,List.setIfInBounds_toArray,List.set_cons_zero,List.set_cons_succ,i64_w,i32_w]
    rfl
   refine on_ 8 29 (fr_ [9,2]) HT_ (fun K hK=>?_);refine value_ (w1:=?_) (v:=?_) (by rfl) rfl ?_ ?_;rotate_left 2
   ·go_simp
    constructor
    ·rfl
    ·rfl
   refine hK.out _ _ ⟨(blk_cell (blk_alloc jl.out _) 0).trans rfl,(blk_cell (blk_alloc jl.out _) 1).trans rfl,(blk_cell (blk_alloc jl.out _) 2).trans rfl,(blk_cell (blk_alloc jl.out _) 3).trans rfl,(World.cell?_alloc_lt _ _ _ (World.block_lt_of_cell? _ _ (((HB.out.cell (World.block_lt_of_cell? w _ hw580_0)).trans hw580_0)))).trans (((HB.out.cell (World.block_lt_of_cell? w _ hw580_0)).trans hw580_0))⟩ (fun hHeld=>?_);clear hK K;refine norm_ (a':=?_) ?_ ?_;rotate_left
   ·show Act.put _ (some 29) _=_
    simp only [Act.put,List.setIfInBounds_toArray,List.set_cons_zero,List.set_cons_succ,i64_w,i32_w]
    rfl
   refine on_ 9 30 (fr_ [10,1]) HT_ (fun K hK=>?_);refine Kd.R_append_step Ki_ (w0:=w) w.heap.size (by rfl) (.tmp 21) (.tmp 29) 22 3 (.int .i64 0) 8 rfl Try.underlying22 info3 rfl (by decide) (by omega) u5 j3s j4r [.int .i64 j4r] (fun _=>True) (fun _=>False) rfl rfl ?aP (fun _ hk=>hk.elim) ?aF ?aO ?aB ?aS ?aL ?_
   (case aP=>exact rfl)
   (case aB=>exact (below_to1 HB j2g.out))
   (case aF=>exact (fun _ _=>trivial))
   (case aO=>exact (kd_to jx))
   (case aS=>exact (below_size (below_to1 HB j2g.out)))
   (case aL=>have:=j5a.out;omega)
   intro ja9 w15 ho hb hg hat;rw [← j7i.out] at ho;replace jl:=ai_ (blk_grown (g:=j2f) (o:=.cells #[.int .i64 ((rd_T30 l0 je).f0),.int .i64 ((rd_T30 l0 je).f1),.int .i64 ((rd_T30 l0 je).f2),.slice j2r ((rd_T30 l0 je).f3).length j2s] 30 (0,0)) (blk_to jl) hg (Kd.R_ne jx.out jl.out (by decide)));replace HB:=ai_ (hb);have j7k:=ai_ (ho);clear jx ho hb hg hat;refine hK.out _ _ ⟨bc_ jl 0,bc_ jl 1,bc_ jl 2,bc_ jl 3,((HB.out.cell (World.block_lt_of_cell? w _ hw580_0)).trans hw580_0)⟩ (fun hHeld=>?_);clear hK K;refine norm_ (a':=?_) ?_ ?_;rotate_left
   ·show Act.put _ (some 30) _=_
    simp only [Act.put,List.setIfInBounds_toArray,List.set_cons_zero,List.set_cons_succ,i64_w,i32_w]
    rfl
   refine pq_ 10 5 11 ?_;refine done_ (done_of HT_.out (by kernel_rfl)) ?_
   try go_wp2
   go_roundg k2
   case measure=>have:=HK1.out;have:=HK2.out;omega
   case rel=>exact ⟨(j7h),(wrap64 (j1s+1)),rt_,H',⟨by have:=HK1.out;have:=HK2.out;omega⟩,⟨kd_to j7k⟩,⟨blk_to jl⟩,⟨below_to1 HB j2g.out⟩⟩
def impl_TimesOfLines.f (k:Nat) (l0:List (S30)) (l1:List Int):Option (List Int × Bool):=(impl_areLines.f k l0 l1).bind fun j6z=>(if j6z=true then ((impl_timesOfLines.f k l0 l1).bind fun j7a=>(some (j7a,true))) else (some (([]:List Int),false)))
theorem impl_TimesOfLines.calls (k:Nat) (A0:Option Addr) (c0:Nat) (l0:List (S30)) (A1:Option Addr) (c1:Nat) (l1:List Int) (r1:List Int) (r2:Bool) (w:World) (hr0:Kd.C k30 w A0 l0.length l0) (hc0:l0.length≤c0) (hr1:Kd.C Ki_ w A1 l1.length l1) (hc1:l1.length≤c1) (h:impl_TimesOfLines.f k l0 l1=some (r1,r2)) :
  Calls Try.prog 28 #[.slice A0 l0.length c0,.slice A1 l1.length c1] w fun e w' => ∃ Ab:Value,e=.returned (.tuple #[Ab,.bool r2])∧Kd.R Ki_ 3 w' w.heap.size (fun _=>True) Ab r1∧Below w.heap.size w w':=by
 have HR0:=ai_ hr0;have HC0:=ai_ hc0;clear hr0 hc0;have HR1:=ai_ hr1;have HC1:=ai_ hc1;clear hr1 hc1;have HB:=ai_ (Below.refl w.heap.size w);have H:=h
 unfold impl_TimesOfLines.f at H
 clear h;obtain ⟨j6z,A3,H⟩:=bs_ H;(try dsimp only at H)
 by_cases c4:j6z=true
 ·subst c4
  rw [if_pos rfl] at H;obtain ⟨j7a,A5,H⟩:=bs_ H;(try dsimp only at H);simp only [Option.some.injEq,Prod.mk.injEq] at H;obtain ⟨rfl,rfl⟩:=H;go_enter Try.func28,Try.ntmps28
  go_wp2_with (first|((with_reducible refine gc_ 65 rfl ?_);refine gl_ (some 8) Try.func65 #[.slice A0 l0.length c0,.slice A1 l1.length c1] ?_;(with_reducible refine (impl_areLines.calls k _ _ l0 _ _ l1 true _ ?side1 HC0.out ?side3 HC1.out A3.out).mono ?_);(case side1=>exact c_to HR0);(case side3=>exact c_to HR1);rintro e w6 ⟨rfl,hb⟩;refine ⟨_,rfl,?_⟩;replace HB:=ai_ (below_step (below_to HB) hb);clear hb)|((with_reducible refine gc_ 66 rfl ?_);refine gl_ (some 12) Try.func66 #[.slice A0 l0.length c0,.slice A1 l1.length c1] ?_;(with_reducible refine (impl_timesOfLines.calls k _ _ l0 _ _ l1 j7a _ (cb_ HR0 HB) HC0.out (cb_ HR1 HB) HC1.out A5.out).mono ?_);rintro e w7 ⟨jaa,rfl,ho0,hb⟩;refine ⟨_,rfl,?_⟩;have j7l:=ai_ (Kd.R_lower ho0 (below_size (below_to HB)));replace HB:=ai_ (below_step (below_to HB) hb);clear hb;(try clear ho0)))
  go_ret2
  exact ⟨_,rtE_,kd_to j7l,below_to HB⟩
 ·replace c4:=Bool.eq_false_iff.mpr c4
  subst c4;rw [if_neg ft_] at H;simp only [Option.some.injEq,Prod.mk.injEq] at H;obtain ⟨rfl,rfl⟩:=H;go_enter Try.func28,Try.ntmps28
  go_wp2_with (first|((with_reducible refine gc_ 65 rfl ?_);refine gl_ (some 8) Try.func65 #[.slice A0 l0.length c0,.slice A1 l1.length c1] ?_;(with_reducible refine (impl_areLines.calls k _ _ l0 _ _ l1 false _ ?side1 HC0.out ?side3 HC1.out A3.out).mono ?_);(case side1=>exact c_to HR0);(case side3=>exact c_to HR1);rintro e w8 ⟨rfl,hb⟩;refine ⟨_,rfl,?_⟩;replace HB:=ai_ (below_step (below_to HB) hb);clear hb))
  go_ret2
  exact ⟨_,rtE_,by first|exact Kd.R_nil _ _ _ _ _|exact Kd.N_nil _ _ _ _ _|exact Kd.V_nil _ _ _ _ _|exact Kd.Q_nil _ _ _ _ _|exact Kd.S_nil _ _ _ _ _,below_to HB⟩
def spec_l1Has.l0:Nat→Int→List Int→Int→Int→Option (Bool)
 | 0,_,_,_,_=>none
 | k+1,x1,x7,x8,x9=>if x9 < x8 then (if 0≤x9 then (if x9 < (x7.length:Int) then (if (rd x7 x9)=x1 then (some true) else (spec_l1Has.l0 k x1 x7 x8 (wrap64 (x9+1)))) else (none)) else (none)) else (some false)
def spec_l1Has.f (k:Nat) (l0:List Int) (a1:Int):Option (Bool):=spec_l1Has.l0 k a1 l0 (l0.length:Int) 0
theorem spec_l1Has.calls (k:Nat) (A0:Option Addr) (c0:Nat) (l0:List Int) (a1:Int) (r:Bool) (w:World) (hr0:Kd.C Ki_ w A0 l0.length l0) (hc0:l0.length≤c0) (h:spec_l1Has.f k l0 a1=some r) :
  Calls Try.prog 77 #[.slice A0 l0.length c0,.int .i64 a1] w fun e w'=>e=.returned (.bool r)∧Drawn0 w w':=by
 have HR0:=ai_ hr0;have HC0:=ai_ hc0;clear hr0 hc0;have H:(spec_l1Has.l0 k a1 l0 (l0.length:Int) 0)=some r:=h;clear h;have H':=ai_ H;clear H;go_enter Try.func77,Try.ntmps77
 go_wp2
 go_loopg [9] k (fun kq v9 w' => ∃ (j1n:Int),v9=.int .i64 j1n∧Aside0 (spec_l1Has.l0 kq a1 l0 (l0.length:Int) j1n=some r)∧Aside0 (kq≤k)∧Drawn0 w w')
 case atStart=>exact ⟨(0),rt_,H',⟨Nat.le_refl _⟩,d0_⟩
 clear H'
 try clear p2
 obtain ⟨j1n,rfl,HA,HK1,⟨m1,rfl⟩⟩:=hrel
 cases gk with
 | zero=>exact absurd HA.out (by simp [spec_l1Has.l0])
 | succ k1 =>
  have H:=HA.out;clear HA;simp only [spec_l1Has.l0] at H
  by_cases c3:j1n < (l0.length:Int)
  rotate_left
  ·rw [if_neg c3] at H
   have j4s:=decide_eq_false c3;clear c3;obtain rfl:=Option.some.inj H
   go_wp2
   go_ret;exact ⟨rt_,d0_⟩
  rw [if_pos c3] at H;have j4s:=decide_eq_true c3;clear c3
  by_cases c4:0≤j1n
  rotate_left
  ·rw [if_neg c4] at H
   cases H
  rw [if_pos c4] at H;have j6o:=decide_eq_true c4;clear c4
  by_cases c5:j1n < (l0.length:Int)
  rotate_left
  ·rw [if_neg c5] at H
   cases H
  rw [if_pos c5] at H;have j5o:=decide_eq_true c5;clear c5
  by_cases c6:(rd l0 j1n)=a1
  ·rw [if_pos c6] at H
   have j9l:=beq_iff_eq.mpr c6;have j9m:=bne_eq_false_iff_eq.mpr c6;clear c6;obtain rfl:=Option.some.inj H;have j3t:0≤(j1n:Int):=odt_;have j3u:j1n < (l0.length:Int):=odt_;obtain ⟨j7m,e589,j5t⟩:=Kd.at_int HR0.out j1n j3t j3u
   cases e589
   replace j3t:=eq_true j3t;replace j3u:=eq_true j3u
   go_wp2
   go_ret;exact ⟨rt_,d0_⟩
  ·rw [if_neg c6] at H
   have j9l:=beq_eq_false_iff_ne.mpr c6;have j9m:=bne_iff_ne.mpr c6;have H':=ai_ H;clear H;have j3t:0≤(j1n:Int):=odt_;have j3u:j1n < (l0.length:Int):=odt_;obtain ⟨j7m,e589,j5t⟩:=Kd.at_int HR0.out j1n j3t j3u
   cases e589
   replace j3t:=eq_true j3t;replace j3u:=eq_true j3u
   go_wp2
   go_roundg k1
   case measure=>have:=HK1.out;omega
   case rel=>exact ⟨(wrap64 (j1n+1)),rt_,H',⟨by have:=HK1.out;omega⟩,d0_⟩
def spec_l1Put.l0:Nat→List Int→Int→Int→Option (List Int)
 | 0,_,_,_=>none
 | k+1,x0,x1,x5=>if x5 < (x0.length:Int) then (if 0≤x5 then (if (rd x0 x5) < x1 then (spec_l1Put.l0 k x0 x1 (wrap64 (x5+1))) else (if (rd x0 x5)=x1 then (some x0) else ((some (([]:List Int):List Int)).bind fun j2d=>(if x5≤(x0.length:Int) then ((some (x0.take (x5:Int).toNat:List Int)).bind fun jy=>(if j2d.length+jy.length < 17592186044416 then ((some (j2d ++ jy:List Int)).bind fun j1o=>(if j1o.length < 17592186044416 then ((some (j1o ++ [x1]:List Int)).bind fun jz=>((some (x0.drop (x5:Int).toNat:List Int)).bind fun jp=>(if jz.length+jp.length < 17592186044416 then (some (jz ++ jp)) else (none)))) else (none))) else (none))) else (none))))) else (none)) else ((some (([]:List Int):List Int)).bind fun j2e=>(if 0≤x5 then (if x5≤(x0.length:Int) then ((some (x0.take (x5:Int).toNat:List Int)).bind fun j1a=>(if j2e.length+j1a.length < 17592186044416 then ((some (j2e ++ j1a:List Int)).bind fun j1p=>(if j1p.length < 17592186044416 then ((some (j1p ++ [x1]:List Int)).bind fun j1b=>((some (x0.drop (x5:Int).toNat:List Int)).bind fun jq=>(if j1b.length+jq.length < 17592186044416 then (some (j1b ++ jq)) else (none)))) else (none))) else (none))) else (none)) else (none)))
def spec_l1Put.f (k:Nat) (l0:List Int) (a1:Int):Option (List Int):=spec_l1Put.l0 k l0 a1 0
theorem spec_l1Put.calls (k:Nat) (P0_:Nat→Prop) (u9000_:Value) (l0:List Int) (a1:Int) (r:List Int) (w0 w:World) (hB:Below w0.heap.size w0 w) (ho0:Kd.R Ki_ 3 w w0.heap.size P0_ u9000_ l0) (h:spec_l1Put.f k l0 a1=some r) :
  Calls Try.prog 78 #[u9000_,.int .i64 a1] w fun e w' => ∃ Ab:Value,e=.returned (Ab)∧Kd.R Ki_ 3 w' w0.heap.size (fun k_=>(P0_ k_∨w.heap.size≤k_)) Ab r∧Below w0.heap.size w0 w'∧Kept w w' (fun k_=>P0_ k_):=by
 have HO0:=ai_ (show Kd.R Ki_ 3 w w0.heap.size (fun k_=>(P0_ k_∨w.heap.size≤k_)) u9000_ l0 from Kd.R_mono ho0 (fun k_ hk=>(.inl hk)));have HK:=ai_ (Kept.refl w (fun k_=>P0_ k_));have HW0:=ai_ hB.size;have HB:=ai_ hB;clear hB;have H:(spec_l1Put.l0 k l0 a1 0)=some r:=h;clear h;have H':=ai_ H;clear H;go_enter Try.func78,Try.ntmps78
 go_wp2
 go_loopg [5] k (fun kq v5 w' => ∃ (jd:Int),v5=.int .i64 jd∧Aside0 (spec_l1Put.l0 kq l0 a1 jd=some r)∧Aside0 (kq≤k)∧Aside0 (Kd.R Ki_ 3 w' w0.heap.size (fun k_=>(P0_ k_∨w.heap.size≤k_)) u9000_ l0)∧Aside0 (Kept w w' (fun k_=>P0_ k_))∧Aside0 (Below w0.heap.size w0 w'))
 case atStart=>exact ⟨(0),rt_,H',⟨Nat.le_refl _⟩,⟨kd_to HO0⟩,⟨by repeat (first|(with_reducible first|exact HK.out|apply Kept.alloc|apply Kept.drewN|apply Kept.drew)|exact HK.out)⟩,⟨below_to HB⟩⟩
 clear H'
 try clear p2
 obtain ⟨jd,rfl,HA,HK1,ji,HK,HB⟩:=hrel
 cases gk with
 | zero=>exact absurd HA.out (by simp [spec_l1Put.l0])
 | succ k1 =>
  have H:=HA.out;clear HA;simp only [spec_l1Put.l0] at H
  by_cases c3:jd < (l0.length:Int)
  rotate_left
  ·rw [if_neg c3] at H
   have j4s:=decide_eq_false c3;clear c3
   obtain ⟨j2e,hy612⟩:∃ y_:List Int,y_=(([]:List Int)):=⟨_,rfl⟩
   replace H:(if 0≤jd then (if jd≤(l0.length:Int) then ((some (l0.take (jd:Int).toNat:List Int)).bind fun j1a=>(if j2e.length+j1a.length < 17592186044416 then ((some (j2e ++ j1a:List Int)).bind fun j1p=>(if j1p.length < 17592186044416 then ((some (j1p ++ [a1]:List Int)).bind fun j1b=>((some (l0.drop (jd:Int).toNat:List Int)).bind fun jq=>(if j1b.length+jq.length < 17592186044416 then (some (j1b ++ jq)) else (none)))) else (none))) else (none))) else (none)) else (none))=some r:=rx_ H hy612;have j6h:=ai_ hy612;clear hy612
   by_cases c24:0≤jd
   rotate_left
   ·rw [if_neg c24] at H
    cases H
   rw [if_pos c24] at H;have j6i:=eq_true c24;have ja0:=decide_eq_true c24;clear c24
   by_cases c25:jd≤(l0.length:Int)
   rotate_left
   ·rw [if_neg c25] at H
    cases H
   rw [if_pos c25] at H;have j6j:=eq_true c25;have ja1:=decide_eq_true c25;clear c25
   obtain ⟨j1a,hy615⟩:∃ y_:List Int,y_=(l0.take (jd:Int).toNat):=⟨_,rfl⟩
   replace H:(if j2e.length+j1a.length < 17592186044416 then ((some (j2e ++ j1a:List Int)).bind fun j1p=>(if j1p.length < 17592186044416 then ((some (j1p ++ [a1]:List Int)).bind fun j1b=>((some (l0.drop (jd:Int).toNat:List Int)).bind fun jq=>(if j1b.length+jq.length < 17592186044416 then (some (j1b ++ jq)) else (none)))) else (none))) else (none))=some r:=rx_ H hy615;have j3l:=ai_ hy615;clear hy615
   by_cases c26:j2e.length+j1a.length < 17592186044416
   rotate_left
   ·rw [if_neg c26] at H
    cases H
   rw [if_pos c26] at H;have j7n:=ai_ c26;clear c26
   obtain ⟨j1p,hy619⟩:∃ y_:List Int,y_=(j2e ++ j1a):=⟨_,rfl⟩
   replace H:(if j1p.length < 17592186044416 then ((some (j1p ++ [a1]:List Int)).bind fun j1b=>((some (l0.drop (jd:Int).toNat:List Int)).bind fun jq=>(if j1b.length+jq.length < 17592186044416 then (some (j1b ++ jq)) else (none)))) else (none))=some r:=rx_ H hy619;have j7o:=ai_ hy619;clear hy619
   by_cases c27:j1p.length < 17592186044416
   rotate_left
   ·rw [if_neg c27] at H
    cases H
   rw [if_pos c27] at H;have j7p:=ai_ c27;clear c27
   obtain ⟨j1b,hy622⟩:∃ y_:List Int,y_=(j1p ++ [a1]):=⟨_,rfl⟩
   replace H:((some (l0.drop (jd:Int).toNat:List Int)).bind fun jq=>(if j1b.length+jq.length < 17592186044416 then (some (j1b ++ jq)) else (none)))=some r:=rx_ H hy622;have j7q:=ai_ hy622;clear hy622;have j6k:=eq_true (of_decide_eq_true (by first|(with_reducible assumption)|assumption):0≤jd);have j7r:=eq_true (of_decide_eq_true (by first|(with_reducible assumption)|assumption):jd≤(l0.length:Int))
   obtain ⟨jq,hy625⟩:∃ y_:List Int,y_=(l0.drop (jd:Int).toNat):=⟨_,rfl⟩
   replace H:(if j1b.length+jq.length < 17592186044416 then (some (j1b ++ jq)) else (none))=some r:=rx_ H hy625;have j5b:=ai_ hy625;clear hy625
   by_cases c30:j1b.length+jq.length < 17592186044416
   ·rw [if_pos c30] at H
    have j7s:=ai_ c30;clear c30
    obtain ⟨j9n,hy629⟩:∃ y_:List Int,y_=(j1b ++ jq):=⟨_,rfl⟩
    replace H:(some j9n)=some r:=rx_ H hy629;have j7t:=ai_ hy629;clear hy629;obtain rfl:=Option.some.inj H;obtain ⟨Ao31,co31,eo31⟩:=Kd.R_slice ji.out;subst eo31
    go_wp2_with (first|((with_reducible refine gd_ 34 rfl ?_);refine lit_ 3 34 [] ?_;intro j9o w32 j4t hb hg_ hnew_;clear hg_ hnew_;(first|rw [← j6h.out] at j4t|(simp only [Int.reduceToNat] at j4t;rw [← j6h.out] at j4t));have j5c:=ai_ (Kd.R_lower (Kd.R_new' (Kd.R_newM (M:=fun k_=>(P0_ k_∨w.heap.size≤k_)) j4t (by first|exact HK.out.1|exact (show Kept w _ (fun k_=>P0_ k_) from by repeat (first|(with_reducible first|exact HK.out|apply Kept.alloc|apply Kept.drewN|apply Kept.drew)|exact HK.out)).1) (fun k_ h_ => .inr h_)) (Kd.R_lt (kd_to ji))) (below_size (below_to HB)));replace ji:=ai_ (Kd.R_elder' (kd_to ji) (Kd.R_base j4t) hb);replace HK:=ai_ (Kept.below (S:=(fun k_=>P0_ k_)) (by repeat (first|(with_reducible first|exact HK.out|apply Kept.alloc|apply Kept.drewN|apply Kept.drew)|exact HK.out)) hb);replace HB:=ai_ (below_step (below_to HB) hb);clear hb j4t;have q34:(jd:Int)≤((l0.length:Int):Int):=of_decide_eq_true (by first|(with_reducible assumption)|assumption);obtain ⟨i034,hi034,_,hsz34,_⟩:=info_parts info3;have hroom34:l0.length≤co31:=(Kd.R_reads' ji.out).2.1;have hC34:Kd.C Ki_ _ Ao31 l0.length l0:=(Kd.R_reads' ji.out).2.2;have hcut34:=cut_to (P:=Try.prog) 22 3 .i64 Try.underlying22 hi034 Ao31 l0.length co31 jd (of_decide_eq_true (by first|(with_reducible assumption)|assumption)) q34 hroom34;have hr34:=Kd.C_take (m:=(jd:Int).toNat) hC34 (by omega);have hy34:j1a.length=(jd:Int).toNat:=(by rw [j3l.out,List.length_take];omega);rw [← j3l.out] at hr34;rw [← hy34] at hcut34;have HR618:=ai_ hr34;have HC618:=ai_ (show j1a.length≤co31 from by omega);clear hr34 hC34 hroom34 hi034 hsz34;have KY34:=ai_ hy34;clear hy34;have KL34:=ai_ (show (jd:Int).toNat≤l0.length from by omega);replace q34:=eq_true q34)|((with_reducible refine gate_builtin (b:=.append) (xs:=#[.tmp 34,.tmp 37]) rfl ?_);at_builtin;refine Kd.R_append_rows Ki_ (w0:=w0) w0.heap.size rfl (.tmp 34) (.tmp 37) 22 3 (.int .i64 0) 8 rfl Try.underlying22 info3 rfl (by decide) (by omega) j9o j2e j1a _ _ _ (fun k_=>(P0_ k_∨w.heap.size≤k_)∧nb_ k_ Ao31 l0 co31) (fun _=>False) rfl rfl ?aO ?aR (fun _ _ h=>h) (fun _ h=>h.elim) ?aF ?aB ?aS ?aL ?_;(case aR=>repeat (first|exact (by repeat (first|(with_reducible exact HR618.out)|(with_reducible refine Kd.C_alloc ?_ _)|(with_reducible refine Kd.C_drewN ?_ _)|(with_reducible refine Kd.C_drew ?_)|exact HR618.out))|(with_reducible refine Kd.C_alloc ?_ _)|(with_reducible refine Kd.C_drewN ?_ _)|(with_reducible refine Kd.C_drew ?_)));(case aB=>exact (below_to HB));(case aF=>exact (fun k_ hk=>⟨(.inr (Nat.le_trans (by first|exact HK.out.1|exact (show Kept w _ (fun k_=>P0_ k_) from by repeat (first|(with_reducible first|exact HK.out|apply Kept.alloc|apply Kept.drewN|apply Kept.drew)|exact HK.out)).1) hk)),Kd.fresh' (Kd.R_lt (kd_to ji)) k_ hk⟩));(case aO=>exact (km_ j5c (fun _ hk=>⟨hk.1.1,hk.2⟩)));(case aS=>exact (below_size (below_to HB)));(case aL=>have:=j7n.out;omega);intro j9p w35 ho hb hg hat;rw [← j7o.out] at ho;replace HB:=ai_ (hb);replace HK:=ai_ (Kept.of_grown (S:=(fun k_=>P0_ k_)) hg (by repeat (first|(with_reducible first|exact HK.out|apply Kept.alloc|apply Kept.drewN|apply Kept.drew)|exact HK.out)) (fun k_ e_=>(j5c.out.1 k_ e_).1.1));replace HR618:=ai_ ((show Kd.C Ki_ w35 Ao31 j1a.length j1a from by rw [j3l.out];exact Kd.C_take (m:=(jd:Int).toNat) ((Kd.R_reads' (Kd.R_after (ok:=(fun k_=>(P0_ k_∨w.heap.size≤k_))) (kd_to ji) hg hat)).2.2) KL34.out));replace ji:=ai_ (Kd.R_after (ok:=(fun k_=>(P0_ k_∨w.heap.size≤k_))) (kd_to ji) hg hat);have j5d:=ai_ (ho);clear j5c;clear ho hb hg hat)|((with_reducible refine gate_builtin (b:=.append) (xs:=#[.tmp 39,.tmp 41]) rfl ?_);at_builtin;refine Kd.R_append Ki_ (w0:=w0) w0.heap.size rfl (.tmp 39) (.tmp 41) 22 3 (.int .i64 0) 8 rfl Try.underlying22 info3 rfl (by decide) (by omega) j9p j1p a1 [.int .i64 a1] (fun k_=>(P0_ k_∨w.heap.size≤k_)∧nb_ k_ Ao31 l0 co31) (fun _=>False) rfl rfl ?aP (fun _ hk=>hk.elim) ?aF ?aO ?aB ?aS ?aL ?_;(case aP=>exact rfl);(case aB=>exact (below_to HB));(case aF=>exact (fun k_ hk=>⟨(.inr (Nat.le_trans (by first|exact HK.out.1|exact (show Kept w _ (fun k_=>P0_ k_) from by repeat (first|(with_reducible first|exact HK.out|apply Kept.alloc|apply Kept.drewN|apply Kept.drew)|exact HK.out)).1) hk)),Kd.fresh' (Kd.R_lt (kd_to ji)) k_ hk⟩));(case aO=>exact (kd_to j5d));(case aS=>exact (below_size (below_to HB)));(case aL=>have:=j7p.out;omega);intro j9q w36 ho hb hg hat;rw [← j7q.out] at ho;replace HB:=ai_ (hb);replace HK:=ai_ (Kept.of_grown (S:=(fun k_=>P0_ k_)) hg (by repeat (first|(with_reducible first|exact HK.out|apply Kept.alloc|apply Kept.drewN|apply Kept.drew)|exact HK.out)) (fun k_ e_=>(j5d.out.1 k_ e_).1));replace HR618:=ai_ ((show Kd.C Ki_ w36 Ao31 j1a.length j1a from by rw [j3l.out];exact Kd.C_take (m:=(jd:Int).toNat) ((Kd.R_reads' (Kd.R_after (ok:=(fun k_=>(P0_ k_∨w.heap.size≤k_))) (kd_to ji) hg hat)).2.2) KL34.out));replace ji:=ai_ (Kd.R_after (ok:=(fun k_=>(P0_ k_∨w.heap.size≤k_))) (kd_to ji) hg hat);have j5e:=ai_ (ho);clear j5d;clear ho hb hg hat;have q37:(jd:Int)≤((l0.length:Int):Int):=of_decide_eq_true (by first|(with_reducible assumption)|assumption);obtain ⟨i037,hi037,_,hsz37,_⟩:=info_parts info3;have hroom37:l0.length≤co31:=(Kd.R_reads' ji.out).2.1;have hC37:Kd.C Ki_ _ Ao31 l0.length l0:=(Kd.R_reads' ji.out).2.2;have j9r:(0:Int)≤(jd:Int):=of_decide_eq_true (by first|(with_reducible assumption)|assumption);have hcut37:=cut_from (P:=Try.prog) 22 3 .i64 Try.underlying22 hi037 1 hsz37 Ao31 l0.length co31 jd j9r q37;have hr37:=Kd.C_drop (m:=(jd:Int).toNat) (c:=co31) hC37 (by omega) hroom37;obtain ⟨A37,hA37⟩:∃ A1,A1=(if co31=(jd:Int).toNat then Ao31 else (Ao31:Option Addr).map (·.add ((jd:Int).toNat*1))):=⟨_,rfl⟩;obtain ⟨c37,hc37⟩:∃ c1,c1=co31 - (jd:Int).toNat:=⟨_,rfl⟩;have hy37:jq.length=l0.length - (jd:Int).toNat:=(by rw [j5b.out,List.length_drop] <;> omega);rw [show (l0).drop (jd:Int).toNat=jq from j5b.out.symm] at hr37;replace hr37:Kd.C Ki_ _ A37 jq.length jq:=(by rw [hA37];exact hr37);rw [← hy37,← hA37,← hc37] at hcut37;have HR628:=ai_ hr37;have HC628:=ai_ (show jq.length≤c37 from by rw [hy37,hc37];exact Nat.sub_le_sub_right hroom37 _);clear hr37 hC37 hroom37 hi037 hsz37 hc37;have KY37:=ai_ hy37;have KA37:=ai_ hA37;clear hy37 hA37;have KL37:=ai_ (show (jd:Int).toNat≤l0.length from by omega);replace q37:=eq_true q37)|((with_reducible refine gate_builtin (b:=.append) (xs:=#[.tmp 43,.tmp 46]) rfl ?_);at_builtin;refine Kd.R_append_rows Ki_ (w0:=w0) w0.heap.size rfl (.tmp 43) (.tmp 46) 22 3 (.int .i64 0) 8 rfl Try.underlying22 info3 rfl (by decide) (by omega) j9q j1b jq _ _ _ (fun k_=>(P0_ k_∨w.heap.size≤k_)∧nb_ k_ Ao31 l0 co31) (fun _=>False) rfl rfl ?aO ?aR (fun _ _ h=>h) (fun _ h=>h.elim) ?aF ?aB ?aS ?aL ?_;(case aR=>repeat (first|exact (by repeat (first|(with_reducible exact HR628.out)|(with_reducible refine Kd.C_alloc ?_ _)|(with_reducible refine Kd.C_drewN ?_ _)|(with_reducible refine Kd.C_drew ?_)|exact HR628.out))|(with_reducible refine Kd.C_alloc ?_ _)|(with_reducible refine Kd.C_drewN ?_ _)|(with_reducible refine Kd.C_drew ?_)));(case aB=>exact (below_to HB));(case aF=>exact (fun k_ hk=>⟨(.inr (Nat.le_trans (by first|exact HK.out.1|exact (show Kept w _ (fun k_=>P0_ k_) from by repeat (first|(with_reducible first|exact HK.out|apply Kept.alloc|apply Kept.drewN|apply Kept.drew)|exact HK.out)).1) hk)),Kd.fresh' (Kd.R_lt (kd_to ji)) k_ hk⟩));(case aO=>exact (kd_to j5e));(case aS=>exact (below_size (below_to HB)));(case aL=>have:=j7s.out;omega);intro jab w38 ho hb hg hat;rw [← j7t.out] at ho;replace HB:=ai_ (hb);replace HK:=ai_ (Kept.of_grown (S:=(fun k_=>P0_ k_)) hg (by repeat (first|(with_reducible first|exact HK.out|apply Kept.alloc|apply Kept.drewN|apply Kept.drew)|exact HK.out)) (fun k_ e_=>(j5e.out.1 k_ e_).1));replace HR618:=ai_ ((show Kd.C Ki_ w38 Ao31 j1a.length j1a from by rw [j3l.out];exact Kd.C_take (m:=(jd:Int).toNat) ((Kd.R_reads' (Kd.R_after (ok:=(fun k_=>(P0_ k_∨w.heap.size≤k_))) (kd_to ji) hg hat)).2.2) KL34.out));replace HR628:=ai_ ((show Kd.C Ki_ w38 A37 jq.length jq from by rw [j5b.out,KA37.out];exact Kd.C_drop (m:=(jd:Int).toNat) (c:=co31) ((Kd.R_reads' (Kd.R_after (ok:=(fun k_=>(P0_ k_∨w.heap.size≤k_))) (kd_to ji) hg hat)).2.2) KL37.out ((Kd.R_reads' (Kd.R_after (ok:=(fun k_=>(P0_ k_∨w.heap.size≤k_))) (kd_to ji) hg hat)).2.1)));replace ji:=ai_ (Kd.R_after (ok:=(fun k_=>(P0_ k_∨w.heap.size≤k_))) (kd_to ji) hg hat);have j7u:=ai_ (ho);clear j5e;clear ho hb hg hat))
    go_ret;exact ⟨_,rtE_,km_ j7u (fun _ hk=>hk.1),by repeat (first|(with_reducible first|exact HB.out|apply below_alloc|apply pw_below_drewN|apply below_drew1)|exact HB.out),by repeat (first|(with_reducible first|exact HK.out|apply Kept.alloc|apply Kept.drewN|apply Kept.drew)|exact HK.out)⟩
   ·rw [if_neg c30] at H
    cases H
  rw [if_pos c3] at H;have j4s:=decide_eq_true c3;clear c3
  by_cases c4:0≤jd
  rotate_left
  ·rw [if_neg c4] at H
   cases H
  rw [if_pos c4] at H;have j6o:=decide_eq_true c4;clear c4
  by_cases c5:(rd l0 jd) < a1
  ·rw [if_pos c5] at H
   have j5o:=decide_eq_true c5;clear c5;have H':=ai_ H;clear H;obtain ⟨Ao6,co6,eo6⟩:=Kd.R_slice ji.out;subst eo6;have j1w:0≤(jd:Int):=odt_;have j1x:jd < (l0.length:Int):=odt_;obtain ⟨ju,e590,j4f⟩:=Kd.at_int (Kd.R_reads' ji.out).2.2 jd j1w j1x
   cases e590
   replace j1w:=eq_true j1w;replace j1x:=eq_true j1x
   go_wp2
   go_roundg k1
   case measure=>have:=HK1.out;omega
   case rel=>exact ⟨(wrap64 (jd+1)),rt_,H',⟨by have:=HK1.out;omega⟩,⟨kd_to ji⟩,⟨by repeat (first|(with_reducible first|exact HK.out|apply Kept.alloc|apply Kept.drewN|apply Kept.drew)|exact HK.out)⟩,⟨below_to HB⟩⟩
  rw [if_neg c5] at H;have j5o:=decide_eq_false c5;clear c5
  by_cases c7:(rd l0 jd)=a1
  ·rw [if_pos c7] at H
   have j3n:=beq_iff_eq.mpr c7;have j9s:=bne_eq_false_iff_eq.mpr c7;clear c7;obtain rfl:=Option.some.inj H;obtain ⟨Ao8,co8,eo8⟩:=Kd.R_slice ji.out;subst eo8;have j1w:0≤(jd:Int):=odt_;have j1x:jd < (l0.length:Int):=odt_;obtain ⟨ju,e590,j4f⟩:=Kd.at_int (Kd.R_reads' ji.out).2.2 jd j1w j1x
   cases e590
   replace j1w:=eq_true j1w;replace j1x:=eq_true j1x;have j3v:0≤(jd:Int):=odt_;have j3w:jd < (l0.length:Int):=odt_;obtain ⟨j5f,e591,j5u⟩:=Kd.at_int (Kd.R_reads' ji.out).2.2 jd j3v j3w
   obtain rfl:ju=j5f:=(by injection e591)
   replace j3v:=eq_true j3v;replace j3w:=eq_true j3w
   go_wp2
   go_ret;exact ⟨_,rtE_,kd_to ji,by repeat (first|(with_reducible first|exact HB.out|apply below_alloc|apply pw_below_drewN|apply below_drew1)|exact HB.out),by repeat (first|(with_reducible first|exact HK.out|apply Kept.alloc|apply Kept.drewN|apply Kept.drew)|exact HK.out)⟩
  rw [if_neg c7] at H;have j3n:=beq_eq_false_iff_ne.mpr c7;have j9s:=bne_iff_ne.mpr c7
  obtain ⟨j2d,hy592⟩:∃ y_:List Int,y_=(([]:List Int)):=⟨_,rfl⟩
  replace H:(if jd≤(l0.length:Int) then ((some (l0.take (jd:Int).toNat:List Int)).bind fun jy=>(if j2d.length+jy.length < 17592186044416 then ((some (j2d ++ jy:List Int)).bind fun j1o=>(if j1o.length < 17592186044416 then ((some (j1o ++ [a1]:List Int)).bind fun jz=>((some (l0.drop (jd:Int).toNat:List Int)).bind fun jp=>(if jz.length+jp.length < 17592186044416 then (some (jz ++ jp)) else (none)))) else (none))) else (none))) else (none))=some r:=rx_ H hy592;have j6l:=ai_ hy592;clear hy592;have j4w:=eq_true (of_decide_eq_true (by first|(with_reducible assumption)|assumption):0≤jd)
  by_cases c10:jd≤(l0.length:Int)
  rotate_left
  ·rw [if_neg c10] at H
   cases H
  rw [if_pos c10] at H;have j3k:=eq_true c10;have ja2:=decide_eq_true c10;clear c10
  obtain ⟨jy,hy595⟩:∃ y_:List Int,y_=(l0.take (jd:Int).toNat):=⟨_,rfl⟩
  replace H:(if j2d.length+jy.length < 17592186044416 then ((some (j2d ++ jy:List Int)).bind fun j1o=>(if j1o.length < 17592186044416 then ((some (j1o ++ [a1]:List Int)).bind fun jz=>((some (l0.drop (jd:Int).toNat:List Int)).bind fun jp=>(if jz.length+jp.length < 17592186044416 then (some (jz ++ jp)) else (none)))) else (none))) else (none))=some r:=rx_ H hy595;have j3m:=ai_ hy595;clear hy595
  by_cases c11:j2d.length+jy.length < 17592186044416
  rotate_left
  ·rw [if_neg c11] at H
   cases H
  rw [if_pos c11] at H;have j7v:=ai_ c11;clear c11
  obtain ⟨j1o,hy599⟩:∃ y_:List Int,y_=(j2d ++ jy):=⟨_,rfl⟩
  replace H:(if j1o.length < 17592186044416 then ((some (j1o ++ [a1]:List Int)).bind fun jz=>((some (l0.drop (jd:Int).toNat:List Int)).bind fun jp=>(if jz.length+jp.length < 17592186044416 then (some (jz ++ jp)) else (none)))) else (none))=some r:=rx_ H hy599;have j7w:=ai_ hy599;clear hy599
  by_cases c12:j1o.length < 17592186044416
  rotate_left
  ·rw [if_neg c12] at H
   cases H
  rw [if_pos c12] at H;have j5a:=ai_ c12;clear c12
  obtain ⟨jz,hy602⟩:∃ y_:List Int,y_=(j1o ++ [a1]):=⟨_,rfl⟩
  replace H:((some (l0.drop (jd:Int).toNat:List Int)).bind fun jp=>(if jz.length+jp.length < 17592186044416 then (some (jz ++ jp)) else (none)))=some r:=rx_ H hy602;have j7x:=ai_ hy602;clear hy602;have ja3:=eq_true (of_decide_eq_true (by first|(with_reducible assumption)|assumption):0≤jd);have ja4:=eq_true (of_decide_eq_true (by first|(with_reducible assumption)|assumption):jd≤(l0.length:Int))
  obtain ⟨jp,hy605⟩:∃ y_:List Int,y_=(l0.drop (jd:Int).toNat):=⟨_,rfl⟩
  replace H:(if jz.length+jp.length < 17592186044416 then (some (jz ++ jp)) else (none))=some r:=rx_ H hy605;have j5g:=ai_ hy605;clear hy605
  by_cases c15:jz.length+jp.length < 17592186044416
  ·rw [if_pos c15] at H
   have j7y:=ai_ c15;clear c15
   obtain ⟨j9t,hy609⟩:∃ y_:List Int,y_=(jz ++ jp):=⟨_,rfl⟩
   replace H:(some j9t)=some r:=rx_ H hy609;have j7z:=ai_ hy609;clear hy609;obtain rfl:=Option.some.inj H;obtain ⟨Ao16,co16,eo16⟩:=Kd.R_slice ji.out;subst eo16;have j1w:0≤(jd:Int):=odt_;have j1x:jd < (l0.length:Int):=odt_;obtain ⟨ju,e590,j4f⟩:=Kd.at_int (Kd.R_reads' ji.out).2.2 jd j1w j1x
   cases e590
   replace j1w:=eq_true j1w;replace j1x:=eq_true j1x;have j3v:0≤(jd:Int):=odt_;have j3w:jd < (l0.length:Int):=odt_;obtain ⟨j5f,e591,j5u⟩:=Kd.at_int (Kd.R_reads' ji.out).2.2 jd j3v j3w
   obtain rfl:ju=j5f:=(by injection e591)
   replace j3v:=eq_true j3v;replace j3w:=eq_true j3w
   go_wp2_with (first|((with_reducible refine gd_ 34 rfl ?_);refine lit_ 3 34 [] ?_;intro j9u w17 j1t hb hg_ hnew_;clear hg_ hnew_;(first|rw [← j6l.out] at j1t|(simp only [Int.reduceToNat] at j1t;rw [← j6l.out] at j1t));have j5h:=ai_ (Kd.R_lower (Kd.R_new' (Kd.R_newM (M:=fun k_=>(P0_ k_∨w.heap.size≤k_)) j1t (by first|exact HK.out.1|exact (show Kept w _ (fun k_=>P0_ k_) from by repeat (first|(with_reducible first|exact HK.out|apply Kept.alloc|apply Kept.drewN|apply Kept.drew)|exact HK.out)).1) (fun k_ h_ => .inr h_)) (Kd.R_lt (kd_to ji))) (below_size (below_to HB)));replace ji:=ai_ (Kd.R_elder' (kd_to ji) (Kd.R_base j1t) hb);replace HK:=ai_ (Kept.below (S:=(fun k_=>P0_ k_)) (by repeat (first|(with_reducible first|exact HK.out|apply Kept.alloc|apply Kept.drewN|apply Kept.drew)|exact HK.out)) hb);replace HB:=ai_ (below_step (below_to HB) hb);clear hb j1t;have q19:(jd:Int)≤((l0.length:Int):Int):=of_decide_eq_true (by first|(with_reducible assumption)|assumption);obtain ⟨i019,hi019,_,hsz19,_⟩:=info_parts info3;have hroom19:l0.length≤co16:=(Kd.R_reads' ji.out).2.1;have hC19:Kd.C Ki_ _ (some ju) l0.length l0:=(Kd.R_reads' ji.out).2.2;have hcut19:=cut_to (P:=Try.prog) 22 3 .i64 Try.underlying22 hi019 (some ju) l0.length co16 jd (of_decide_eq_true (by first|(with_reducible assumption)|assumption)) q19 hroom19;have hr19:=Kd.C_take (m:=(jd:Int).toNat) hC19 (by omega);have hy19:jy.length=(jd:Int).toNat:=(by rw [j3m.out,List.length_take];omega);rw [← j3m.out] at hr19;rw [← hy19] at hcut19;have HR598:=ai_ hr19;have HC598:=ai_ (show jy.length≤co16 from by omega);clear hr19 hC19 hroom19 hi019 hsz19;have KY19:=ai_ hy19;clear hy19;have KL19:=ai_ (show (jd:Int).toNat≤l0.length from by omega);replace q19:=eq_true q19)|((with_reducible refine gate_builtin (b:=.append) (xs:=#[.tmp 34,.tmp 37]) rfl ?_);at_builtin;refine Kd.R_append_rows Ki_ (w0:=w0) w0.heap.size rfl (.tmp 34) (.tmp 37) 22 3 (.int .i64 0) 8 rfl Try.underlying22 info3 rfl (by decide) (by omega) j9u j2d jy _ _ _ (fun k_=>(P0_ k_∨w.heap.size≤k_)∧some k_≠(.slice (some ju) l0.length co16:Value).ownBlock) (fun _=>False) rfl rfl ?aO ?aR (fun _ _ h=>h) (fun _ h=>h.elim) ?aF ?aB ?aS ?aL ?_;(case aR=>repeat (first|exact (by repeat (first|(with_reducible exact HR598.out)|(with_reducible refine Kd.C_alloc ?_ _)|(with_reducible refine Kd.C_drewN ?_ _)|(with_reducible refine Kd.C_drew ?_)|exact HR598.out))|(with_reducible refine Kd.C_alloc ?_ _)|(with_reducible refine Kd.C_drewN ?_ _)|(with_reducible refine Kd.C_drew ?_)));(case aB=>exact (below_to HB));(case aF=>exact (fun k_ hk=>⟨(.inr (Nat.le_trans (by first|exact HK.out.1|exact (show Kept w _ (fun k_=>P0_ k_) from by repeat (first|(with_reducible first|exact HK.out|apply Kept.alloc|apply Kept.drewN|apply Kept.drew)|exact HK.out)).1) hk)),Kd.fresh' (Kd.R_lt (kd_to ji)) k_ hk⟩));(case aO=>exact (km_ j5h (fun _ hk=>⟨hk.1.1,hk.2⟩)));(case aS=>exact (below_size (below_to HB)));(case aL=>have:=j7v.out;omega);intro j9v w20 ho hb hg hat;rw [← j7w.out] at ho;replace HB:=ai_ (hb);replace HK:=ai_ (Kept.of_grown (S:=(fun k_=>P0_ k_)) hg (by repeat (first|(with_reducible first|exact HK.out|apply Kept.alloc|apply Kept.drewN|apply Kept.drew)|exact HK.out)) (fun k_ e_=>(j5h.out.1 k_ e_).1.1));replace HR598:=ai_ ((show Kd.C Ki_ w20 (some ju) jy.length jy from by rw [j3m.out];exact Kd.C_take (m:=(jd:Int).toNat) ((Kd.R_reads' (Kd.R_after (ok:=(fun k_=>(P0_ k_∨w.heap.size≤k_))) (kd_to ji) hg hat)).2.2) KL19.out));replace ji:=ai_ (Kd.R_after (ok:=(fun k_=>(P0_ k_∨w.heap.size≤k_))) (kd_to ji) hg hat);have j5i:=ai_ (ho);clear j5h;clear ho hb hg hat)|((with_reducible refine gate_builtin (b:=.append) (xs:=#[.tmp 39,.tmp 41]) rfl ?_);at_builtin;refine Kd.R_append Ki_ (w0:=w0) w0.heap.size rfl (.tmp 39) (.tmp 41) 22 3 (.int .i64 0) 8 rfl Try.underlying22 info3 rfl (by decide) (by omega) j9v j1o a1 [.int .i64 a1] (fun k_=>(P0_ k_∨w.heap.size≤k_)∧some k_≠(.slice (some ju) l0.length co16:Value).ownBlock) (fun _=>False) rfl rfl ?aP (fun _ hk=>hk.elim) ?aF ?aO ?aB ?aS ?aL ?_;(case aP=>exact rfl);(case aB=>exact (below_to HB));(case aF=>exact (fun k_ hk=>⟨(.inr (Nat.le_trans (by first|exact HK.out.1|exact (show Kept w _ (fun k_=>P0_ k_) from by repeat (first|(with_reducible first|exact HK.out|apply Kept.alloc|apply Kept.drewN|apply Kept.drew)|exact HK.out)).1) hk)),Kd.fresh' (Kd.R_lt (kd_to ji)) k_ hk⟩));(case aO=>exact (kd_to j5i));(case aS=>exact (below_size (below_to HB)));(case aL=>have:=j5a.out;omega);intro j9w w21 ho hb hg hat;rw [← j7x.out] at ho;replace HB:=ai_ (hb);replace HK:=ai_ (Kept.of_grown (S:=(fun k_=>P0_ k_)) hg (by repeat (first|(with_reducible first|exact HK.out|apply Kept.alloc|apply Kept.drewN|apply Kept.drew)|exact HK.out)) (fun k_ e_=>(j5i.out.1 k_ e_).1));replace HR598:=ai_ ((show Kd.C Ki_ w21 (some ju) jy.length jy from by rw [j3m.out];exact Kd.C_take (m:=(jd:Int).toNat) ((Kd.R_reads' (Kd.R_after (ok:=(fun k_=>(P0_ k_∨w.heap.size≤k_))) (kd_to ji) hg hat)).2.2) KL19.out));replace ji:=ai_ (Kd.R_after (ok:=(fun k_=>(P0_ k_∨w.heap.size≤k_))) (kd_to ji) hg hat);have j5j:=ai_ (ho);clear j5i;clear ho hb hg hat;have q22:(jd:Int)≤((l0.length:Int):Int):=of_decide_eq_true (by first|(with_reducible assumption)|assumption);obtain ⟨i022,hi022,_,hsz22,_⟩:=info_parts info3;have hroom22:l0.length≤co16:=(Kd.R_reads' ji.out).2.1;have hC22:Kd.C Ki_ _ (some ju) l0.length l0:=(Kd.R_reads' ji.out).2.2;have j9x:(0:Int)≤(jd:Int):=of_decide_eq_true (by first|(with_reducible assumption)|assumption);have hcut22:=cut_from (P:=Try.prog) 22 3 .i64 Try.underlying22 hi022 1 hsz22 (some ju) l0.length co16 jd j9x q22;have hr22:=Kd.C_drop (m:=(jd:Int).toNat) (c:=co16) hC22 (by omega) hroom22;obtain ⟨A22,hA22⟩:∃ A1,A1=(if co16=(jd:Int).toNat then (some ju) else ((some ju):Option Addr).map (·.add ((jd:Int).toNat*1))):=⟨_,rfl⟩;obtain ⟨c22,hc22⟩:∃ c1,c1=co16 - (jd:Int).toNat:=⟨_,rfl⟩;have hy22:jp.length=l0.length - (jd:Int).toNat:=(by rw [j5g.out,List.length_drop] <;> omega);rw [show (l0).drop (jd:Int).toNat=jp from j5g.out.symm] at hr22;replace hr22:Kd.C Ki_ _ A22 jp.length jp:=(by rw [hA22];exact hr22);rw [← hy22,← hA22,← hc22] at hcut22;have HR608:=ai_ hr22;have HC608:=ai_ (show jp.length≤c22 from by rw [hy22,hc22];exact Nat.sub_le_sub_right hroom22 _);clear hr22 hC22 hroom22 hi022 hsz22 hc22;have KY22:=ai_ hy22;have KA22:=ai_ hA22;clear hy22 hA22;have KL22:=ai_ (show (jd:Int).toNat≤l0.length from by omega);replace q22:=eq_true q22)|((with_reducible refine gate_builtin (b:=.append) (xs:=#[.tmp 43,.tmp 46]) rfl ?_);at_builtin;refine Kd.R_append_rows Ki_ (w0:=w0) w0.heap.size rfl (.tmp 43) (.tmp 46) 22 3 (.int .i64 0) 8 rfl Try.underlying22 info3 rfl (by decide) (by omega) j9w jz jp _ _ _ (fun k_=>(P0_ k_∨w.heap.size≤k_)∧some k_≠(.slice (some ju) l0.length co16:Value).ownBlock) (fun _=>False) rfl rfl ?aO ?aR (fun _ _ h=>h) (fun _ h=>h.elim) ?aF ?aB ?aS ?aL ?_;(case aR=>repeat (first|exact (by repeat (first|(with_reducible exact HR608.out)|(with_reducible refine Kd.C_alloc ?_ _)|(with_reducible refine Kd.C_drewN ?_ _)|(with_reducible refine Kd.C_drew ?_)|exact HR608.out))|(with_reducible refine Kd.C_alloc ?_ _)|(with_reducible refine Kd.C_drewN ?_ _)|(with_reducible refine Kd.C_drew ?_)));(case aB=>exact (below_to HB));(case aF=>exact (fun k_ hk=>⟨(.inr (Nat.le_trans (by first|exact HK.out.1|exact (show Kept w _ (fun k_=>P0_ k_) from by repeat (first|(with_reducible first|exact HK.out|apply Kept.alloc|apply Kept.drewN|apply Kept.drew)|exact HK.out)).1) hk)),Kd.fresh' (Kd.R_lt (kd_to ji)) k_ hk⟩));(case aO=>exact (kd_to j5j));(case aS=>exact (below_size (below_to HB)));(case aL=>have:=j7y.out;omega);intro jac w23 ho hb hg hat;rw [← j7z.out] at ho;replace HB:=ai_ (hb);replace HK:=ai_ (Kept.of_grown (S:=(fun k_=>P0_ k_)) hg (by repeat (first|(with_reducible first|exact HK.out|apply Kept.alloc|apply Kept.drewN|apply Kept.drew)|exact HK.out)) (fun k_ e_=>(j5j.out.1 k_ e_).1));replace HR598:=ai_ ((show Kd.C Ki_ w23 (some ju) jy.length jy from by rw [j3m.out];exact Kd.C_take (m:=(jd:Int).toNat) ((Kd.R_reads' (Kd.R_after (ok:=(fun k_=>(P0_ k_∨w.heap.size≤k_))) (kd_to ji) hg hat)).2.2) KL19.out));replace HR608:=ai_ ((show Kd.C Ki_ w23 A22 jp.length jp from by rw [j5g.out,KA22.out];exact Kd.C_drop (m:=(jd:Int).toNat) (c:=co16) ((Kd.R_reads' (Kd.R_after (ok:=(fun k_=>(P0_ k_∨w.heap.size≤k_))) (kd_to ji) hg hat)).2.2) KL22.out ((Kd.R_reads' (Kd.R_after (ok:=(fun k_=>(P0_ k_∨w.heap.size≤k_))) (kd_to ji) hg hat)).2.1)));replace ji:=ai_ (Kd.R_after (ok:=(fun k_=>(P0_ k_∨w.heap.size≤k_))) (kd_to ji) hg hat);have j8a:=ai_ (ho);clear j5j;clear ho hb hg hat))
   go_ret;exact ⟨_,rtE_,km_ j8a (fun _ hk=>hk.1),by repeat (first|(with_reducible first|exact HB.out|apply below_alloc|apply pw_below_drewN|apply below_drew1)|exact HB.out),by repeat (first|(with_reducible first|exact HK.out|apply Kept.alloc|apply Kept.drewN|apply Kept.drew)|exact HK.out)⟩
  ·rw [if_neg c15] at H
   cases H
end Go.Proofs.Ythdnodmidbcgpaa.QE
namespace Go.Proofs.Ythdnodmidbcgpaa.QE
open Go.Proofs.Ythdnodmidbcgpaa.X Go.RowKit Go.Proofs.YthdnodmidbcgpaaW.PrintWords Go.Proofs.YthdnodmidbcgpaaW.PrintLast Go.Proofs.YthdnodmidbcgpaaW.PrintMore
attribute [local go_sem] max2_int min2_int max_two min_two max_three min_three max_four min_four
set_option linter.unusedVariables false
set_option linter.unusedSimpArgs false
mutual
def spec_buTimes.j0:Nat→List (S30)→List Int→Bool→Option (List Int × Bool)
 | 0,_,_,_=>none
 | k+1,x0,x1,x23=>if x23=true then (some (([]:List Int),false)) else (spec_buTimes.l0 k x0 x1 x0 (x0.length:Int) 0)
def spec_buTimes.l0:Nat→List (S30)→List Int→List (S30)→Int→Int→Option (List Int × Bool)
 | 0,_,_,_,_,_=>none
 | k+1,x0,x1,x24,x25,x26=>if x26 < x25 then (if 0≤x26 then (if x26 < (x24.length:Int) then (if x26 < (x1.length:Int) then ((spec_buStop.f k ((rd_T30 x24 x26).f0) ((rd_T30 x24 x26).f1) ((rd_T30 x24 x26).f2) ((rd_T30 x24 x26).f3) (rd x1 x26)).bind fun j7b=>(if j7b=true then (spec_buTimes.l0 k x0 x1 x24 x25 (wrap64 (x26+1))) else (some (([]:List Int),false)))) else (none)) else (none)) else (none)) else (spec_buTimes.l1 k x1 ([]:List Int) x0 (x0.length:Int) 0)
def spec_buTimes.l1:Nat→List Int→List Int→List (S30)→Int→Int→Option (List Int × Bool)
 | 0,_,_,_,_,_=>none
 | k+1,x1,x8,x39,x40,x41=>if x41 < x40 then (if 0≤x41 then (if x41 < (x39.length:Int) then (spec_buTimes.l2 k x1 x8 x41 0 x39 x40 x41 ((rd_T30 x39 x41).f0) ((rd_T30 x39 x41).f1) ((rd_T30 x39 x41).f2) ((rd_T30 x39 x41).f3)) else (none)) else (none)) else (some (x8,true))
def spec_buTimes.l2:Nat→List Int→List Int→Int→Int→List (S30)→Int→Int→Int→Int→Int→List Int→Option (List Int × Bool)
 | 0,_,_,_,_,_,_,_,_,_,_,_=>none
 | k+1,x1,x8,x9,x11,x39,x40,x41,j2x,j2y,j1v,j2z=>if x11 < j1v then (if 0≤x9 then (if x9 < (x1.length:Int) then ((spec_buTime.f j2x j2y j1v j2z x11 (rd x1 x9)).bind fun j1y=>((spec_l1Has.f k x8 j1y).bind fun j7c=>(if j7c=true then (spec_buTimes.l2 k x1 x8 x9 (wrap64 (x11+1)) x39 x40 x41 j2x j2y j1v j2z) else ((spec_l1Put.f k x8 j1y).bind fun j5v=>(spec_buTimes.l2 k x1 j5v x9 (wrap64 (x11+1)) x39 x40 x41 j2x j2y j1v j2z))))) else (none)) else (none)) else (spec_buTimes.l1 k x1 x8 x39 x40 (wrap64 (x41+1)))
end
def spec_buTimes.f (k:Nat) (l0:List (S30)) (l1:List Int):Option (List Int × Bool):=(spec_l1In.f (l0.length:Int) 1 5).bind fun j7d=>(if j7d=true then (spec_buTimes.j0 k l0 l1 ((l1.length:Int) != (l0.length:Int))) else (spec_buTimes.j0 k l0 l1 true))
def spec_buTimes.T16:Bool × List (List Nat × List Nat):=(true,[([],[]),([],[]),([],[]),([],[]),([2,3],[2,3]),([4],[4]),([0,1,5],[0,1,5]),([6,6,0,1,2,3,4,5,6],[6])])
def spec_buTimes.B16:List Nat:=[0,0,0,0,12,28,63,127]
theorem spec_buTimes.tab16:rtab .any (opsOf Try.f67 16)=spec_buTimes.T16:=by kernel_rfl
theorem spec_buTimes.bits16:waitsOk spec_buTimes.T16.2 spec_buTimes.B16=true:=by kernel_rfl
set_option maxHeartbeats 8000000 in
set_option maxRecDepth 100000 in
theorem spec_buTimes.calls (k:Nat) (A0:Option Addr) (c0:Nat) (l0:List (S30)) (A1:Option Addr) (c1:Nat) (l1:List Int) (r1:List Int) (r2:Bool) (w:World) (hr0:Kd.C k30 w A0 l0.length l0) (hc0:l0.length≤c0) (hr1:Kd.C Ki_ w A1 l1.length l1) (hc1:l1.length≤c1) (h:spec_buTimes.f k l0 l1=some (r1,r2)) :
  Calls Try.prog 67 #[.slice A0 l0.length c0,.slice A1 l1.length c1] w fun e w' => ∃ Ab:Value,e=.returned (.tuple #[Ab,.bool r2])∧Kd.R Ki_ 3 w' w.heap.size (fun _=>True) Ab r1∧Below w.heap.size w w':=by
 have hu30:=Try.underlying30;have HR0:=ai_ hr0;have HC0:=ai_ hc0;clear hr0 hc0;have HR1:=ai_ hr1;have HC1:=ai_ hc1;clear hr1 hc1;have HB:=ai_ (Below.refl w.heap.size w);have H:=h
 unfold spec_buTimes.f at H
 clear h;have HC3:=ai_ H;clear H;go_enter Try.func67,Try.ntmps67
 go_upto_region 1 with (fail)
 go_cut [23] (fun v23 wc => ∃ (kq:Nat) (j4g:Bool),v23=.bool j4g∧Aside0 (spec_buTimes.j0 kq l0 l1 j4g=some (r1,r2))∧Aside0 (kq≤k)∧Aside0 (Below w.heap.size w wc))
 case first =>
  have H:=HC3.out;clear HC3;obtain ⟨j7d,A4,H⟩:=bs_ H;(try dsimp only at H)
  by_cases c5:j7d=true
  ·subst c5
   rw [if_pos rfl] at H;have H':=ai_ H;clear H
   go_wp2_with (first|((with_reducible refine gc_ 43 rfl ?_);refine gl_ (some 15) Try.func43 #[.int .i64 (l0.length:Int),.int .i64 1,.int .i64 5] ?_;(with_reducible refine (spec_l1In.calls (l0.length:Int) 1 5 true _ A4.out).mono ?_);rintro e w' ⟨rfl,⟨nd,rfl⟩⟩;refine ⟨_,rfl,?_⟩))
   go_meet
   case rel=>exact ⟨_,(((l1.length:Int) != (l0.length:Int))),rt_,H',⟨by first|omega|exact Nat.le_refl _⟩,⟨below_to HB⟩⟩
  ·replace c5:=Bool.eq_false_iff.mpr c5
   subst c5;rw [if_neg ft_] at H;have H':=ai_ H;clear H
   go_wp2_with (first|((with_reducible refine gc_ 43 rfl ?_);refine gl_ (some 15) Try.func43 #[.int .i64 (l0.length:Int),.int .i64 1,.int .i64 5] ?_;(with_reducible refine (spec_l1In.calls (l0.length:Int) 1 5 false _ A4.out).mono ?_);rintro e w' ⟨rfl,⟨nd,rfl⟩⟩;refine ⟨_,rfl,?_⟩))
   go_meet
   case rel=>exact ⟨_,(true),rt_,H',⟨by first|omega|exact Nat.le_refl _⟩,⟨below_to HB⟩⟩
 clear HC3
 try clear c1
 try clear p2
 try clear c4
 try clear c5
 obtain ⟨kq,j4g,rfl,HA,HJ2,HB⟩:=hcut
 cases kq with
 | zero=>exact absurd HA.out (by simp [spec_buTimes.j0])
 | succ kj2 =>
  have H:=HA.out;clear HA;simp only [spec_buTimes.j0] at H
  by_cases c6:j4g=true
  ·subst c6
   rw [if_pos rfl] at H;simp only [Option.some.injEq,Prod.mk.injEq] at H;obtain ⟨rfl,rfl⟩:=H
   go_wp2
   go_ret2
   exact ⟨_,rtE_,by first|exact Kd.R_nil _ _ _ _ _|exact Kd.N_nil _ _ _ _ _|exact Kd.V_nil _ _ _ _ _|exact Kd.Q_nil _ _ _ _ _|exact Kd.S_nil _ _ _ _ _,below_to HB⟩
  replace c6:=Bool.eq_false_iff.mpr c6;subst c6;rw [if_neg ft_] at H;have H':=ai_ H;clear H
  go_wp2
  go_loopg [26] kj2 (fun kq v26 w' => ∃ (jb:Int),v26=.int .i64 jb∧Aside0 (spec_buTimes.l0 kq l0 l1 l0 (l0.length:Int) jb=some (r1,r2))∧Aside0 (kq≤kj2)∧Aside0 (Below w.heap.size w w'))
  case atStart=>exact ⟨(0),rt_,H',⟨Nat.le_refl _⟩,⟨below_to HB⟩⟩
  clear H'
  try clear c1
  try clear p2
  try clear c4
  try clear c5
  try clear c6
  try clear p2
  obtain ⟨jb,rfl,HA,HK2,HB⟩:=hrel
  cases gk with
  | zero=>exact absurd HA.out (by simp [spec_buTimes.l0])
  | succ k2 =>
   have H:=HA.out;clear HA;simp only [spec_buTimes.l0] at H
   by_cases c7:jb < (l0.length:Int)
   ·rw [if_pos c7] at H
    have j3n:=decide_eq_true c7;clear c7
    by_cases c8:0≤jb
    rotate_left
    ·rw [if_neg c8] at H
     cases H
    rw [if_pos c8] at H;have j4v:=decide_eq_true c8;clear c8
    by_cases c9:jb < (l0.length:Int)
    rotate_left
    ·rw [if_neg c9] at H
     cases H
    rw [if_pos c9] at H;have j4w:=decide_eq_true c9;clear c9
    by_cases c10:jb < (l1.length:Int)
    rotate_left
    ·rw [if_neg c10] at H
     cases H
    rw [if_pos c10] at H;have j3k:=decide_eq_true c10;clear c10;obtain ⟨j7b,A11,H⟩:=bs_ H;(try dsimp only at H)
    by_cases c12:j7b=true
    rotate_left
    ·replace c12:=Bool.eq_false_iff.mpr c12
     subst c12;rw [if_neg ft_] at H;simp only [Option.some.injEq,Prod.mk.injEq] at H;obtain ⟨rfl,rfl⟩:=H;have j3a:0≤(jb:Int):=odt_;have j3b:jb < (l0.length:Int):=odt_;obtain ⟨j8b,jr,js,e633,j1c,j1d,j1e,j1f,hl633_3,hi633_3⟩:=at_T30 HR0.out jb j3a j3b
     cases e633
     replace j1c:=bx_ HB j1c;replace j1d:=bx_ HB j1d;replace j1e:=bx_ HB j1e;replace j1f:=bx_ HB j1f;have j3c:=ai_ hi633_3;have j3d:=ai_ hl633_3;clear hi633_3 hl633_3;replace j3a:=eq_true j3a;replace j3b:=eq_true j3b
     try go_wp2_with (first|((with_reducible refine gd_ 7 rfl ?_);(try (refine gate_guard (by rfl) ?_;dsimp only));refine bxe_ #[.int .i64 0,.int .i64 0,.int .i64 0,.slice none 0 0] 30 ?_;intro jj hg w18 hbox hb;have jk:=ai_ (hbox);have j8c:=ai_ (gb_ hg (below_size (below_to HB)));have j1z:=ai_ (gb_ hg (below_size (below_to HB)));replace HB:=ai_ (below_step (below_to HB) hb);clear hb hbox hg;obtain ⟨j4h,j4i,j4j,j4k,j4l,j4m,j4n,j4o⟩:=blk4_ jk))
     have n0_:Aside0 (((((w18.setCell ⟨jj,0,none⟩ (.int .i64 ((rd_T30 l0 jb).f0))).setCell ⟨jj,1,none⟩ (.int .i64 ((rd_T30 l0 jb).f1))).setCell ⟨jj,2,none⟩ (.int .i64 ((rd_T30 l0 jb).f2))).setCell ⟨jj,3,none⟩ (.slice jr ((rd_T30 l0 jb).f3).length js)).heap[jj]?=some (.cells #[.int .i64 ((rd_T30 l0 jb).f0),.int .i64 ((rd_T30 l0 jb).f1),.int .i64 ((rd_T30 l0 jb).f2),.slice jr ((rd_T30 l0 jb).f3).length js] 30 (0,0))):=⟨by (with_reducible repeat (first|refine blk_drewN ?_ _|refine blk_drew ?_|refine blk_alloc ?_ _));refine blk_put (cs:=#[.int .i64 ((rd_T30 l0 jb).f0),.int .i64 ((rd_T30 l0 jb).f1),.int .i64 ((rd_T30 l0 jb).f2),.slice none 0 0]) ?_ 3 _ rfl;(with_reducible repeat (first|refine blk_drewN ?_ _|refine blk_drew ?_|refine blk_alloc ?_ _));refine blk_put (cs:=#[.int .i64 ((rd_T30 l0 jb).f0),.int .i64 ((rd_T30 l0 jb).f1),.int .i64 0,.slice none 0 0]) ?_ 2 _ rfl;(with_reducible repeat (first|refine blk_drewN ?_ _|refine blk_drew ?_|refine blk_alloc ?_ _));refine blk_put (cs:=#[.int .i64 ((rd_T30 l0 jb).f0),.int .i64 0,.int .i64 0,.slice none 0 0]) ?_ 1 _ rfl;(with_reducible repeat (first|refine blk_drewN ?_ _|refine blk_drew ?_|refine blk_alloc ?_ _));refine blk_put (cs:=#[.int .i64 0,.int .i64 0,.int .i64 0,.slice none 0 0]) ?_ 0 _ rfl;(with_reducible repeat (first|refine blk_drewN ?_ _|refine blk_drew ?_|refine blk_alloc ?_ _));exact jk.out⟩
     have n1_:Aside0 (Below w.heap.size w ((((w18.setCell ⟨jj,0,none⟩ (.int .i64 ((rd_T30 l0 jb).f0))).setCell ⟨jj,1,none⟩ (.int .i64 ((rd_T30 l0 jb).f1))).setCell ⟨jj,2,none⟩ (.int .i64 ((rd_T30 l0 jb).f2))).setCell ⟨jj,3,none⟩ (.slice jr ((rd_T30 l0 jb).f3).length js))):=⟨below_to1 HB j1z.out⟩
     (try clear jk);(try clear HB);generalize ((((w18.setCell ⟨jj,0,none⟩ (.int .i64 ((rd_T30 l0 jb).f0))).setCell ⟨jj,1,none⟩ (.int .i64 ((rd_T30 l0 jb).f1))).setCell ⟨jj,2,none⟩ (.int .i64 ((rd_T30 l0 jb).f2))).setCell ⟨jj,3,none⟩ (.slice jr ((rd_T30 l0 jb).f3).length js))=w20 at n0_ n1_ ⊢;have jk:=n0_;have HB:=n1_;clear n0_ n1_;replace jk:=ai_ (blk_drew jk.out);replace HB:=ai_ (below_drew1 HB.out);have j3e:0≤(jb:Int):=odt_;have j3f:jb < (l1.length:Int):=odt_;obtain ⟨j5k,e635,jm⟩:=Kd.at_int HR1.out jb j3e j3f;have hw635_0:=jm
     cases e635
     replace jm:=bx_ HB jm;replace j3e:=eq_true j3e;replace j3f:=eq_true j3f;refine start_ (n:=7) (S:=fun w'=>w'.cell? ⟨jj,0,none⟩=some (.int .i64 ((rd_T30 l0 jb).f0))∧w'.cell? ⟨jj,1,none⟩=some (.int .i64 ((rd_T30 l0 jb).f1))∧w'.cell? ⟨jj,2,none⟩=some (.int .i64 ((rd_T30 l0 jb).f2))∧w'.cell? ⟨jj,3,none⟩=some (.slice jr ((rd_T30 l0 jb).f3).length js)∧w'.cell? (j5k.add (jb).toNat)=some (.int .i64 (rd l1 jb))) (ds:=[]) (fr_ [0,7]) (by kernel_rfl) rfl rfl ⟨bc_ jk 0,bc_ jk 1,bc_ jk 2,bc_ jk 3,((HB.out.cell (World.block_lt_of_cell? w _ hw635_0)).trans hw635_0)⟩ (fun hHeld=>?_);generalize w20.drew=w21 at jk HB jm hHeld ⊢;refine pure_ (i:=1) (N:=some 32) (v:=?_) (a':=?_) (fr_ [0,1,1,5]) rfl rfl (by kernel_rfl) (fun _ _ _ h=>h) (Or.inl ⟨by rfl,?_⟩) ?_ ?_;rotate_left
     ·intro w'
      go_simp
      with_reducible rfl
     rotate_left
     ·simp only [Act.put,List.setIfInBounds_toArray,List.set_cons_zero,List.set_cons_succ,i64_w,i32_w]
      rfl
     refine pure_ (i:=2) (N:=some 33) (v:=?_) (a':=?_) (fr_ [0,1,2,4]) rfl rfl (by kernel_rfl) (fun _ _ _ h=>h) (Or.inl ⟨by rfl,?_⟩) ?_ ?_;rotate_left
     ·intro w'
      go_simp
      with_reducible rfl
     rotate_left
     ·simp only [Act.put,List.setIfInBounds_toArray,List.set_cons_zero,List.set_cons_succ,i64_w,i32_w]
      rfl
     refine pure_ (i:=3) (N:=some 34) (v:=?_) (a':=?_) (fr_ [0,1,3,3]) rfl rfl (by kernel_rfl) (fun _ _ _ h=>h) (Or.inl ⟨by rfl,?_⟩) ?_ ?_;rotate_left
     ·intro w'
      go_simp
      with_reducible rfl
     rotate_left
     ·simp only [Act.put,List.setIfInBounds_toArray,List.set_cons_zero,List.set_cons_succ,i64_w,i32_w]
      rfl
     refine take_ (i:=0) (N:=some 31) (v:=?_) (a':=?_) (fr_ [4,3]) rfl rfl (by kernel_rfl) (fun _ _ _ h=>h) (Or.inl ⟨by rfl,?_⟩) hHeld ?_ ?_;rotate_left
     ·rintro w' ⟨s0,s1,s2,s3,s4⟩
      go_simp
      with_reducible rfl
     rotate_left
     ·simp only [Act.put,List.setIfInBounds_toArray,List.set_cons_zero,List.set_cons_succ,i64_w,i32_w]
      rfl
     refine take_ (i:=4) (N:=some 35) (v:=?_) (a':=?_) (fr_ [5,2]) rfl rfl (by kernel_rfl) (fun _ _ _ h=>h) (Or.inl ⟨by rfl,?_⟩) hHeld ?_ ?_;rotate_left
     ·rintro w' ⟨s0,s1,s2,s3,s4⟩
      go_simp
      with_reducible rfl
     rotate_left
     ·simp only [Act.put,List.setIfInBounds_toArray,List.set_cons_zero,List.set_cons_succ,i64_w,i32_w]
      rfl
     refine one_ (i:=5) (N:=some 36) (fr_ [6,1]) rfl rfl (by kernel_rfl) (by decide) (fun K hK=>?_);refine gs_ Try.func42 #[.agg #[.int .i64 ((rd_T30 l0 jb).f0),.int .i64 ((rd_T30 l0 jb).f1),.int .i64 ((rd_T30 l0 jb).f2),.slice jr ((rd_T30 l0 jb).f3).length js],.int .i64 (rd l1 jb)] ?_
     with_reducible refine (spec_buStop.calls k2 ((rd_T30 l0 jb).f0) ((rd_T30 l0 jb).f1) ((rd_T30 l0 jb).f2) _ _ ((rd_T30 l0 jb).f3) (rd l1 jb) false _ ?side1 ?side2 A11.out).mono ?_
     (case side1=>exact cb_ j3c HB)
     (case side2=>exact j3d.out)
     rintro e w22 ⟨rfl,hb⟩;refine ⟨_,rfl,?_⟩;replace jk:=bb_ jk hb;replace HB:=ai_ (below_step (below_to1 HB j1z.out) hb);(try clear hb);(try clear hb2);(try clear hk);(try clear hi);refine hK.out _ _ ⟨bc_ jk 0,bc_ jk 1,bc_ jk 2,bc_ jk 3,((HB.out.cell (World.block_lt_of_cell? w _ hw635_0)).trans hw635_0)⟩ (fun hHeld=>?_);clear hK K;refine norm_ (a':=?_) ?_ ?_;rotate_left
     ·show Act.put _ (some 36) _=_
      simp only [Act.put,List.setIfInBounds_toArray,List.set_cons_zero,List.set_cons_succ,i64_w,i32_w]
      rfl
     refine pure_ (i:=6) (N:=some 37) (v:=?_) (a':=?_) (fr_ [7]) rfl rfl (by kernel_rfl) (fun _ _ _ h=>h) (Or.inl ⟨by rfl,?_⟩) ?_ ?_;rotate_left
     ·intro w'
      go_simp
      with_reducible rfl
     rotate_left
     ·simp only [Act.put,List.setIfInBounds_toArray,List.set_cons_zero,List.set_cons_succ,i64_w,i32_w]
      rfl
     refine done_ (by kernel_rfl) ?_
     try go_wp2
     go_ret2
     exact ⟨_,rtE_,by first|exact Kd.R_nil _ _ _ _ _|exact Kd.N_nil _ _ _ _ _|exact Kd.V_nil _ _ _ _ _|exact Kd.Q_nil _ _ _ _ _|exact Kd.S_nil _ _ _ _ _,below_to1 HB j1z.out⟩
    subst c12;rw [if_pos rfl] at H;have H':=ai_ H;clear H;have j3a:0≤(jb:Int):=odt_;have j3b:jb < (l0.length:Int):=odt_;obtain ⟨j8b,jr,js,e633,j1c,j1d,j1e,j1f,hl633_3,hi633_3⟩:=at_T30 HR0.out jb j3a j3b
    cases e633
    replace j1c:=bx_ HB j1c;replace j1d:=bx_ HB j1d;replace j1e:=bx_ HB j1e;replace j1f:=bx_ HB j1f;have j3c:=ai_ hi633_3;have j3d:=ai_ hl633_3;clear hi633_3 hl633_3;replace j3a:=eq_true j3a;replace j3b:=eq_true j3b
    try go_wp2_with (first|((with_reducible refine gd_ 7 rfl ?_);(try (refine gate_guard (by rfl) ?_;dsimp only));refine bxe_ #[.int .i64 0,.int .i64 0,.int .i64 0,.slice none 0 0] 30 ?_;intro jj hg w13 hbox hb;have jk:=ai_ (hbox);have j8c:=ai_ (gb_ hg (below_size (below_to HB)));have j1z:=ai_ (gb_ hg (below_size (below_to HB)));replace HB:=ai_ (below_step (below_to HB) hb);clear hb hbox hg;obtain ⟨j2j,j2k,j2l,j2m,j2n,j2o,j2p,j2q⟩:=blk4_ jk))
    have n0_:Aside0 (((((w13.setCell ⟨jj,0,none⟩ (.int .i64 ((rd_T30 l0 jb).f0))).setCell ⟨jj,1,none⟩ (.int .i64 ((rd_T30 l0 jb).f1))).setCell ⟨jj,2,none⟩ (.int .i64 ((rd_T30 l0 jb).f2))).setCell ⟨jj,3,none⟩ (.slice jr ((rd_T30 l0 jb).f3).length js)).heap[jj]?=some (.cells #[.int .i64 ((rd_T30 l0 jb).f0),.int .i64 ((rd_T30 l0 jb).f1),.int .i64 ((rd_T30 l0 jb).f2),.slice jr ((rd_T30 l0 jb).f3).length js] 30 (0,0))):=⟨by (with_reducible repeat (first|refine blk_drewN ?_ _|refine blk_drew ?_|refine blk_alloc ?_ _));refine blk_put (cs:=#[.int .i64 ((rd_T30 l0 jb).f0),.int .i64 ((rd_T30 l0 jb).f1),.int .i64 ((rd_T30 l0 jb).f2),.slice none 0 0]) ?_ 3 _ rfl;(with_reducible repeat (first|refine blk_drewN ?_ _|refine blk_drew ?_|refine blk_alloc ?_ _));refine blk_put (cs:=#[.int .i64 ((rd_T30 l0 jb).f0),.int .i64 ((rd_T30 l0 jb).f1),.int .i64 0,.slice none 0 0]) ?_ 2 _ rfl;(with_reducible repeat (first|refine blk_drewN ?_ _|refine blk_drew ?_|refine blk_alloc ?_ _));refine blk_put (cs:=#[.int .i64 ((rd_T30 l0 jb).f0),.int .i64 0,.int .i64 0,.slice none 0 0]) ?_ 1 _ rfl;(with_reducible repeat (first|refine blk_drewN ?_ _|refine blk_drew ?_|refine blk_alloc ?_ _));refine blk_put (cs:=#[.int .i64 0,.int .i64 0,.int .i64 0,.slice none 0 0]) ?_ 0 _ rfl;(with_reducible repeat (first|refine blk_drewN ?_ _|refine blk_drew ?_|refine blk_alloc ?_ _));exact jk.out⟩
    have n1_:Aside0 (Below w.heap.size w ((((w13.setCell ⟨jj,0,none⟩ (.int .i64 ((rd_T30 l0 jb).f0))).setCell ⟨jj,1,none⟩ (.int .i64 ((rd_T30 l0 jb).f1))).setCell ⟨jj,2,none⟩ (.int .i64 ((rd_T30 l0 jb).f2))).setCell ⟨jj,3,none⟩ (.slice jr ((rd_T30 l0 jb).f3).length js))):=⟨below_to1 HB j1z.out⟩
    (try clear jk);(try clear HB);generalize ((((w13.setCell ⟨jj,0,none⟩ (.int .i64 ((rd_T30 l0 jb).f0))).setCell ⟨jj,1,none⟩ (.int .i64 ((rd_T30 l0 jb).f1))).setCell ⟨jj,2,none⟩ (.int .i64 ((rd_T30 l0 jb).f2))).setCell ⟨jj,3,none⟩ (.slice jr ((rd_T30 l0 jb).f3).length js))=w15 at n0_ n1_ ⊢;have jk:=n0_;have HB:=n1_;clear n0_ n1_;replace jk:=ai_ (blk_drew jk.out);replace HB:=ai_ (below_drew1 HB.out);have j3e:0≤(jb:Int):=odt_;have j3f:jb < (l1.length:Int):=odt_;obtain ⟨j5k,e635,jm⟩:=Kd.at_int HR1.out jb j3e j3f;have hw635_0:=jm
    cases e635
    replace jm:=bx_ HB jm;replace j3e:=eq_true j3e;replace j3f:=eq_true j3f;refine start_ (n:=7) (S:=fun w'=>w'.cell? ⟨jj,0,none⟩=some (.int .i64 ((rd_T30 l0 jb).f0))∧w'.cell? ⟨jj,1,none⟩=some (.int .i64 ((rd_T30 l0 jb).f1))∧w'.cell? ⟨jj,2,none⟩=some (.int .i64 ((rd_T30 l0 jb).f2))∧w'.cell? ⟨jj,3,none⟩=some (.slice jr ((rd_T30 l0 jb).f3).length js)∧w'.cell? (j5k.add (jb).toNat)=some (.int .i64 (rd l1 jb))) (ds:=[]) (fr_ [0,7]) (by kernel_rfl) rfl rfl ⟨bc_ jk 0,bc_ jk 1,bc_ jk 2,bc_ jk 3,((HB.out.cell (World.block_lt_of_cell? w _ hw635_0)).trans hw635_0)⟩ (fun hHeld=>?_);generalize w15.drew=w16 at jk HB jm hHeld ⊢;refine pure_ (i:=1) (N:=some 32) (v:=?_) (a':=?_) (fr_ [0,1,1,5]) rfl rfl (by kernel_rfl) (fun _ _ _ h=>h) (Or.inl ⟨by rfl,?_⟩) ?_ ?_;rotate_left
    ·intro w'
     go_simp
     with_reducible rfl
    rotate_left
    ·simp only [Act.put,List.setIfInBounds_toArray,List.set_cons_zero,List.set_cons_succ,i64_w,i32_w]
     rfl
    refine pure_ (i:=2) (N:=some 33) (v:=?_) (a':=?_) (fr_ [0,1,2,4]) rfl rfl (by kernel_rfl) (fun _ _ _ h=>h) (Or.inl ⟨by rfl,?_⟩) ?_ ?_;rotate_left
    ·intro w'
     go_simp
     with_reducible rfl
    rotate_left
    ·simp only [Act.put,List.setIfInBounds_toArray,List.set_cons_zero,List.set_cons_succ,i64_w,i32_w]
     rfl
    refine pure_ (i:=3) (N:=some 34) (v:=?_) (a':=?_) (fr_ [0,1,3,3]) rfl rfl (by kernel_rfl) (fun _ _ _ h=>h) (Or.inl ⟨by rfl,?_⟩) ?_ ?_;rotate_left
    ·intro w'
     go_simp
     with_reducible rfl
    rotate_left
    ·simp only [Act.put,List.setIfInBounds_toArray,List.set_cons_zero,List.set_cons_succ,i64_w,i32_w]
     rfl
    refine take_ (i:=0) (N:=some 31) (v:=?_) (a':=?_) (fr_ [4,3]) rfl rfl (by kernel_rfl) (fun _ _ _ h=>h) (Or.inl ⟨by rfl,?_⟩) hHeld ?_ ?_;rotate_left
    ·rintro w' ⟨s0,s1,s2,s3,s4⟩
     go_simp
     with_reducible rfl
    rotate_left
    ·simp only [Act.put,List.setIfInBounds_toArray,List.set_cons_zero,List.set_cons_succ,i64_w,i32_w]
     rfl
    refine take_ (i:=4) (N:=some 35) (v:=?_) (a':=?_) (fr_ [5,2]) rfl rfl (by kernel_rfl) (fun _ _ _ h=>h) (Or.inl ⟨by rfl,?_⟩) hHeld ?_ ?_;rotate_left
    ·rintro w' ⟨s0,s1,s2,s3,s4⟩
     go_simp
     with_reducible rfl
    rotate_left
    ·simp only [Act.put,List.setIfInBounds_toArray,List.set_cons_zero,List.set_cons_succ,i64_w,i32_w]
     rfl
    refine one_ (i:=5) (N:=some 36) (fr_ [6,1]) rfl rfl (by kernel_rfl) (by decide) (fun K hK=>?_);refine gs_ Try.func42 #[.agg #[.int .i64 ((rd_T30 l0 jb).f0),.int .i64 ((rd_T30 l0 jb).f1),.int .i64 ((rd_T30 l0 jb).f2),.slice jr ((rd_T30 l0 jb).f3).length js],.int .i64 (rd l1 jb)] ?_
    with_reducible refine (spec_buStop.calls k2 ((rd_T30 l0 jb).f0) ((rd_T30 l0 jb).f1) ((rd_T30 l0 jb).f2) _ _ ((rd_T30 l0 jb).f3) (rd l1 jb) true _ ?side1 ?side2 A11.out).mono ?_
    (case side1=>exact cb_ j3c HB)
    (case side2=>exact j3d.out)
    rintro e w17 ⟨rfl,hb⟩;refine ⟨_,rfl,?_⟩;replace jk:=bb_ jk hb;replace HB:=ai_ (below_step (below_to1 HB j1z.out) hb);(try clear hb);(try clear hb2);(try clear hk);(try clear hi);refine hK.out _ _ ⟨bc_ jk 0,bc_ jk 1,bc_ jk 2,bc_ jk 3,((HB.out.cell (World.block_lt_of_cell? w _ hw635_0)).trans hw635_0)⟩ (fun hHeld=>?_);clear hK K;refine norm_ (a':=?_) ?_ ?_;rotate_left
    ·show Act.put _ (some 36) _=_
     simp only [Act.put,List.setIfInBounds_toArray,List.set_cons_zero,List.set_cons_succ,i64_w,i32_w]
     rfl
    refine pure_ (i:=6) (N:=some 37) (v:=?_) (a':=?_) (fr_ [7]) rfl rfl (by kernel_rfl) (fun _ _ _ h=>h) (Or.inl ⟨by rfl,?_⟩) ?_ ?_;rotate_left
    ·intro w'
     go_simp
     with_reducible rfl
    rotate_left
    ·simp only [Act.put,List.setIfInBounds_toArray,List.set_cons_zero,List.set_cons_succ,i64_w,i32_w]
     rfl
    refine done_ (by kernel_rfl) ?_
    try go_wp2
    go_roundg k2
    case measure=>have:=HJ2.out;have:=HK2.out;omega
    case rel=>exact ⟨(wrap64 (jb+1)),rt_,H',⟨by have:=HJ2.out;have:=HK2.out;omega⟩,⟨below_to1 HB j1z.out⟩⟩
   rw [if_neg c7] at H;have j3n:=decide_eq_false c7;clear c7;have H':=ai_ H;clear H
   go_wp2
   go_loopg [8,41] k2 (fun kq v8 v41 w' => ∃ (j5w:List Int) (jc:Int),v41=.int .i64 jc∧Aside0 (spec_buTimes.l1 kq l1 j5w l0 (l0.length:Int) jc=some (r1,r2))∧Aside0 (kq≤k2)∧Aside0 (Kd.R Ki_ 3 w' w.heap.size (fun _=>True) v8 j5w)∧Aside0 (Below w.heap.size w w'))
   case atStart=>exact ⟨(([]:List Int)),(0),rt_,H',⟨Nat.le_refl _⟩,⟨by first|exact Kd.R_nil _ _ _ _ _|exact Kd.N_nil _ _ _ _ _|exact Kd.V_nil _ _ _ _ _|exact Kd.Q_nil _ _ _ _ _|exact Kd.S_nil _ _ _ _ _⟩,⟨below_to HB⟩⟩
   clear H'
   try clear c1
   try clear p2
   try clear c4
   try clear c5
   try clear c6
   try clear p6
   try clear q6
   try clear hx6
   try clear c7
   try clear j3n
   try clear c8
   try clear j4v
   try clear c9
   try clear j4w
   try clear c10
   try clear j3k
   try clear c12
   try clear j2j
   try clear j2k
   try clear j2l
   try clear j2m
   try clear j4h
   try clear j4i
   try clear j4j
   try clear j4k
   try clear j2n
   try clear j2o
   try clear j2p
   try clear j2q
   try clear j4l
   try clear j4m
   try clear j4n
   try clear j4o
   try clear j1c
   try clear j1d
   try clear j1e
   try clear j1f
   try clear jm
   try clear p2
   try clear j3a
   try clear j3e
   try clear j3b
   try clear j3f
   obtain ⟨j5w,jc,rfl,HA,HK3,jt,HB⟩:=hrel
   cases gk with
   | zero=>exact absurd HA.out (by simp [spec_buTimes.l1])
   | succ k3 =>
    have H:=HA.out;clear HA;simp only [spec_buTimes.l1] at H
    by_cases c23:jc < (l0.length:Int)
    rotate_left
    ·rw [if_neg c23] at H
     have j6m:=decide_eq_false c23;clear c23;simp only [Option.some.injEq,Prod.mk.injEq] at H;obtain ⟨rfl,rfl⟩:=H
     go_wp2
     go_ret2
     exact ⟨_,rtE_,kd_to jt,below_to HB⟩
    rw [if_pos c23] at H;have j6m:=decide_eq_true c23;clear c23
    by_cases c24:0≤jc
    rotate_left
    ·rw [if_neg c24] at H
     cases H
    rw [if_pos c24] at H;have j6i:=decide_eq_true c24;clear c24
    by_cases c25:jc < (l0.length:Int)
    rotate_left
    ·rw [if_neg c25] at H
     cases H
    rw [if_pos c25] at H;have j6j:=decide_eq_true c25;clear c25;have H':=ai_ H;clear H;have j5x:0≤(jc:Int):=odt_;have j5y:jc < (l0.length:Int):=odt_;obtain ⟨ja5,j2a,j2b,e637,j3g,j3h,j3i,j3j,hl637_3,hi637_3⟩:=at_T30 HR0.out jc j5x j5y
    cases e637
    replace j3g:=bx_ HB j3g;replace j3h:=bx_ HB j3h;replace j3i:=bx_ HB j3i;replace j3j:=bx_ HB j3j;have j4p:=ai_ hi637_3;have j4q:=ai_ hl637_3;clear hi637_3 hl637_3;replace j5x:=eq_true j5x;replace j5y:=eq_true j5y
    go_wp2_with (first|((with_reducible refine gd_ 10 rfl ?_);(try (refine gate_guard (by rfl) ?_;dsimp only));refine bxe_ #[.int .i64 0,.int .i64 0,.int .i64 0,.slice none 0 0] 30 ?_;intro j1q hg w26 hbox hb;replace jt:=rb_ jt hb;have jg:=ai_ (hbox);have ja6:=ai_ (gb_ hg (below_size (below_to HB)));have j2c:=ai_ (gb_ hg (below_size (below_to HB)));replace HB:=ai_ (below_step (below_to HB) hb);clear hb hbox hg;obtain ⟨j5z,j6a,j6b,j6c,j6d,j6e,j6f,j6g⟩:=blk4_ jg))
    go_loopg [8,11] k3 (fun kq v8 v11 w' => ∃ (j1r:List Int) (j1i:Int),v11=.int .i64 j1i∧Aside0 (spec_buTimes.l2 kq l1 j1r jc j1i l0 (l0.length:Int) jc ((rd_T30 l0 jc).f0) ((rd_T30 l0 jc).f1) ((rd_T30 l0 jc).f2) ((rd_T30 l0 jc).f3)=some (r1,r2))∧Aside0 (kq≤k3)∧Aside0 (Kd.R Ki_ 3 w' w.heap.size (fun _=>True) v8 j1r)∧Aside0 (w'.heap[j1q]?=some (.cells #[.int .i64 ((rd_T30 l0 jc).f0),.int .i64 ((rd_T30 l0 jc).f1),.int .i64 ((rd_T30 l0 jc).f2),(.slice j2a ((rd_T30 l0 jc).f3).length j2b)] 30 (0,0)))∧Aside0 (Below w.heap.size w w'))
    case atStart=>exact ⟨(j5w),(0),rt_,H',⟨Nat.le_refl _⟩,⟨rh_ jt jg (fun _ hk=>trivial)⟩,⟨by (with_reducible repeat (first|refine blk_drewN ?_ _|refine blk_drew ?_|refine blk_alloc ?_ _));refine blk_put (cs:=#[.int .i64 ((rd_T30 l0 jc).f0),.int .i64 ((rd_T30 l0 jc).f1),.int .i64 ((rd_T30 l0 jc).f2),.slice none 0 0]) ?_ 3 _ rfl;(with_reducible repeat (first|refine blk_drewN ?_ _|refine blk_drew ?_|refine blk_alloc ?_ _));refine blk_put (cs:=#[.int .i64 ((rd_T30 l0 jc).f0),.int .i64 ((rd_T30 l0 jc).f1),.int .i64 0,.slice none 0 0]) ?_ 2 _ rfl;(with_reducible repeat (first|refine blk_drewN ?_ _|refine blk_drew ?_|refine blk_alloc ?_ _));refine blk_put (cs:=#[.int .i64 ((rd_T30 l0 jc).f0),.int .i64 0,.int .i64 0,.slice none 0 0]) ?_ 1 _ rfl;(with_reducible repeat (first|refine blk_drewN ?_ _|refine blk_drew ?_|refine blk_alloc ?_ _));refine blk_put (cs:=#[.int .i64 0,.int .i64 0,.int .i64 0,.slice none 0 0]) ?_ 0 _ rfl;(with_reducible repeat (first|refine blk_drewN ?_ _|refine blk_drew ?_|refine blk_alloc ?_ _));exact jg.out⟩,⟨below_to1 HB j2c.out⟩⟩
    clear H'
    try clear c1
    try clear c2
    try clear p2
    try clear c4
    try clear c5
    try clear c6
    try clear p6
    try clear q6
    try clear hx6
    try clear c7
    try clear j3n
    try clear c8
    try clear j4v
    try clear c9
    try clear j4w
    try clear c10
    try clear j3k
    try clear c12
    try clear c23
    try clear j6m
    try clear c24
    try clear j6i
    try clear c25
    try clear j6j
    try clear j2j
    try clear j2k
    try clear j2l
    try clear j2m
    try clear j4h
    try clear j4i
    try clear j4j
    try clear j4k
    try clear j5z
    try clear j6a
    try clear j6b
    try clear j6c
    try clear j2n
    try clear j2o
    try clear j2p
    try clear j2q
    try clear j4l
    try clear j4m
    try clear j4n
    try clear j4o
    try clear j6d
    try clear j6e
    try clear j6f
    try clear j6g
    try clear j1c
    try clear j1d
    try clear j1e
    try clear j1f
    try clear jm
    try clear j3g
    try clear j3h
    try clear j3i
    try clear j3j
    try clear p2
    try clear p6
    try clear j3a
    try clear j3e
    try clear j5x
    try clear q6
    try clear j3b
    try clear j3f
    try clear j5y
    obtain ⟨j1r,j1i,rfl,HA,HK4,jt,jg,HB⟩:=hrel
    cases gk with
    | zero=>exact absurd HA.out (by simp [spec_buTimes.l2])
    | succ k4 =>
     have H:=HA.out;clear HA;simp only [spec_buTimes.l2] at H
     by_cases c28:j1i < ((rd_T30 l0 jc).f2)
     rotate_left
     ·rw [if_neg c28] at H
      have j6k:=decide_eq_false c28;clear c28;have H':=ai_ H;clear H;obtain ⟨j8m,j8n,j8o,j8p,j8q,j8r,j8s,j8t⟩:=blk4_ jg
      go_wp2
      go_roundg k4
      case measure=>have:=HJ2.out;have:=HK2.out;have:=HK3.out;have:=HK4.out;omega
      case rel=>exact ⟨(j1r),(wrap64 (jc+1)),rt_,H',⟨by have:=HJ2.out;have:=HK2.out;have:=HK3.out;have:=HK4.out;omega⟩,⟨kd_to jt⟩,⟨below_to1 HB j2c.out⟩⟩
     rw [if_pos c28] at H;have j6k:=decide_eq_true c28;clear c28
     by_cases c29:0≤jc
     rotate_left
     ·rw [if_neg c29] at H
      cases H
     rw [if_pos c29] at H;have j7r:=decide_eq_true c29;clear c29
     by_cases c30:jc < (l1.length:Int)
     rotate_left
     ·rw [if_neg c30] at H
      cases H
     rw [if_pos c30] at H;have ja7:=decide_eq_true c30;clear c30;obtain ⟨j1y,A31,H⟩:=bs_ H;(try dsimp only at H);obtain ⟨j7c,A32,H⟩:=bs_ H;(try dsimp only at H)
     by_cases c33:j7c=true
     ·subst c33
      rw [if_pos rfl] at H;have H':=ai_ H;clear H;obtain ⟨j8u,j8v,j8w,j8x,j8y,j8z,j9a,j9b⟩:=blk4_ jg
      try go_wp2
      replace jt:=ai_ (Kd.R_drew jt.out);replace jg:=ai_ (blk_drew jg.out);replace HB:=ai_ (below_drew1 HB.out);have j3x:0≤(jc:Int):=odt_;have j3y:jc < (l1.length:Int):=odt_;obtain ⟨j5l,e639,jw⟩:=Kd.at_int HR1.out jc j3x j3y;have hw639_0:=jw
      cases e639
      replace jw:=bx_ HB jw;replace j3x:=eq_true j3x;replace j3y:=eq_true j3y;refine start_ (n:=8) (S:=fun w'=>w'.cell? ⟨j1q,0,none⟩=some (.int .i64 ((rd_T30 l0 jc).f0))∧w'.cell? ⟨j1q,1,none⟩=some (.int .i64 ((rd_T30 l0 jc).f1))∧w'.cell? ⟨j1q,2,none⟩=some (.int .i64 ((rd_T30 l0 jc).f2))∧w'.cell? ⟨j1q,3,none⟩=some (.slice j2a ((rd_T30 l0 jc).f3).length j2b)∧w'.cell? (j5l.add (jc).toNat)=some (.int .i64 (rd l1 jc))) (ds:=[]) (fr_ [0,8]) (by kernel_rfl) rfl rfl ⟨bc_ jg 0,bc_ jg 1,bc_ jg 2,bc_ jg 3,((HB.out.cell (World.block_lt_of_cell? w _ hw639_0)).trans hw639_0)⟩ (fun hHeld=>?_);refine with_tabW spec_buTimes.tab16 spec_buTimes.bits16 (fun HT_ HW_=>?_);generalize wr.drew=w35 at jt jg HB jw hHeld ⊢;refine pS_ 1 53 (fr_ [0,1,1,6]) HT_ ?_;refine pS_ 2 54 (fr_ [0,1,2,5]) HT_ ?_;refine pS_ 3 55 (fr_ [0,1,3,4]) HT_ ?_;refine pS_ 4 56 (fr_ [0,1,4,3]) HT_ ?_;refine tk5_ 0 52 (fr_ [5,3]) HT_ HW_ hHeld ?_;refine tk5_ 5 57 (fr_ [6,2]) HT_ HW_ hHeld ?_;refine on_ 6 58 (fr_ [7,1]) HT_ (fun K hK=>?_);refine gs_ Try.func62 #[.agg #[.int .i64 ((rd_T30 l0 jc).f0),.int .i64 ((rd_T30 l0 jc).f1),.int .i64 ((rd_T30 l0 jc).f2),.slice j2a ((rd_T30 l0 jc).f3).length j2b],.int .i64 j1i,.int .i64 (rd l1 jc)] ?_
      with_reducible refine (spec_buTime.calls ((rd_T30 l0 jc).f0) ((rd_T30 l0 jc).f1) ((rd_T30 l0 jc).f2) _ _ ((rd_T30 l0 jc).f3) j1i (rd l1 jc) j1y _ ?side1 ?side2 A31.out).mono ?_
      (case side1=>exact cb_ j4p HB)
      (case side2=>exact j4q.out)
      rintro e w36 ⟨rfl,hb⟩;refine ⟨_,rfl,?_⟩;replace jt:=rb_ jt hb;replace jg:=bb_ jg hb;replace HB:=ai_ (below_step (below_to1 HB j2c.out) hb);(try clear hb);(try clear hb2);(try clear hk);(try clear hi);refine hK.out _ _ ⟨bc_ jg 0,bc_ jg 1,bc_ jg 2,bc_ jg 3,((HB.out.cell (World.block_lt_of_cell? w _ hw639_0)).trans hw639_0)⟩ (fun hHeld=>?_);clear hK K;refine norm_ (a':=?_) ?_ ?_;rotate_left
      ·show Act.put _ (some 58) _=_
       simp only [Act.put,List.setIfInBounds_toArray,List.set_cons_zero,List.set_cons_succ,i64_w,i32_w]
       rfl
      refine pq_ 7 12 8 ?_;refine done_ (done_of HT_.out (by kernel_rfl)) ?_;obtain ⟨Ao37,co37,eo37⟩:=Kd.R_slice jt.out;subst eo37
      try go_wp2_with (first|((with_reducible refine gc_ 77 rfl ?_);refine gl_ (some 61) Try.func77 #[.slice Ao37 j1r.length co37,.int .i64 j1y] ?_;(with_reducible refine (spec_l1Has.calls k4 _ _ j1r j1y true _ ?side1 ?side2 A32.out).mono ?_);(case side1=>exact cR_ jt);(case side2=>exact (Kd.R_reads' jt.out).2.1);rintro e w' ⟨rfl,⟨nd,rfl⟩⟩;refine ⟨_,rfl,?_⟩))
      go_roundg k4
      case measure=>have:=HJ2.out;have:=HK2.out;have:=HK3.out;have:=HK4.out;omega
      case rel=>exact ⟨(j1r),(wrap64 (j1i+1)),rt_,H',⟨by have:=HJ2.out;have:=HK2.out;have:=HK3.out;have:=HK4.out;omega⟩,⟨kd_to jt⟩,⟨blk_to jg⟩,⟨below_to1 HB j2c.out⟩⟩
     replace c33:=Bool.eq_false_iff.mpr c33;subst c33;rw [if_neg ft_] at H;obtain ⟨j5v,A38,H⟩:=bs_ H;(try dsimp only at H);have H':=ai_ H;clear H;obtain ⟨j9c,j9d,j9e,j9f,j9g,j9h,j9i,j9j⟩:=blk4_ jg
     try go_wp2
     replace jt:=ai_ (Kd.R_drew jt.out);replace jg:=ai_ (blk_drew jg.out);replace HB:=ai_ (below_drew1 HB.out);have j3x:0≤(jc:Int):=odt_;have j3y:jc < (l1.length:Int):=odt_;obtain ⟨j5l,e639,jw⟩:=Kd.at_int HR1.out jc j3x j3y;have hw639_0:=jw
     cases e639
     replace jw:=bx_ HB jw;replace j3x:=eq_true j3x;replace j3y:=eq_true j3y;refine start_ (n:=8) (S:=fun w'=>w'.cell? ⟨j1q,0,none⟩=some (.int .i64 ((rd_T30 l0 jc).f0))∧w'.cell? ⟨j1q,1,none⟩=some (.int .i64 ((rd_T30 l0 jc).f1))∧w'.cell? ⟨j1q,2,none⟩=some (.int .i64 ((rd_T30 l0 jc).f2))∧w'.cell? ⟨j1q,3,none⟩=some (.slice j2a ((rd_T30 l0 jc).f3).length j2b)∧w'.cell? (j5l.add (jc).toNat)=some (.int .i64 (rd l1 jc))) (ds:=[]) (fr_ [0,8]) (by kernel_rfl) rfl rfl ⟨bc_ jg 0,bc_ jg 1,bc_ jg 2,bc_ jg 3,((HB.out.cell (World.block_lt_of_cell? w _ hw639_0)).trans hw639_0)⟩ (fun hHeld=>?_);refine with_tabW spec_buTimes.tab16 spec_buTimes.bits16 (fun HT_ HW_=>?_);generalize wr.drew=w40 at jt jg HB jw hHeld ⊢;refine pS_ 1 53 (fr_ [0,1,1,6]) HT_ ?_;refine pS_ 2 54 (fr_ [0,1,2,5]) HT_ ?_;refine pS_ 3 55 (fr_ [0,1,3,4]) HT_ ?_;refine pS_ 4 56 (fr_ [0,1,4,3]) HT_ ?_;refine tk5_ 0 52 (fr_ [5,3]) HT_ HW_ hHeld ?_;refine tk5_ 5 57 (fr_ [6,2]) HT_ HW_ hHeld ?_;refine on_ 6 58 (fr_ [7,1]) HT_ (fun K hK=>?_);refine gs_ Try.func62 #[.agg #[.int .i64 ((rd_T30 l0 jc).f0),.int .i64 ((rd_T30 l0 jc).f1),.int .i64 ((rd_T30 l0 jc).f2),.slice j2a ((rd_T30 l0 jc).f3).length j2b],.int .i64 j1i,.int .i64 (rd l1 jc)] ?_
     with_reducible refine (spec_buTime.calls ((rd_T30 l0 jc).f0) ((rd_T30 l0 jc).f1) ((rd_T30 l0 jc).f2) _ _ ((rd_T30 l0 jc).f3) j1i (rd l1 jc) j1y _ ?side1 ?side2 A31.out).mono ?_
     (case side1=>exact cb_ j4p HB)
     (case side2=>exact j4q.out)
     rintro e w41 ⟨rfl,hb⟩;refine ⟨_,rfl,?_⟩;replace jt:=rb_ jt hb;replace jg:=bb_ jg hb;replace HB:=ai_ (below_step (below_to1 HB j2c.out) hb);(try clear hb);(try clear hb2);(try clear hk);(try clear hi);refine hK.out _ _ ⟨bc_ jg 0,bc_ jg 1,bc_ jg 2,bc_ jg 3,((HB.out.cell (World.block_lt_of_cell? w _ hw639_0)).trans hw639_0)⟩ (fun hHeld=>?_);clear hK K;refine norm_ (a':=?_) ?_ ?_;rotate_left
     ·show Act.put _ (some 58) _=_
      simp only [Act.put,List.setIfInBounds_toArray,List.set_cons_zero,List.set_cons_succ,i64_w,i32_w]
      rfl
     refine pq_ 7 12 8 ?_;refine done_ (done_of HT_.out (by kernel_rfl)) ?_;obtain ⟨Ao42,co42,eo42⟩:=Kd.R_slice jt.out;subst eo42
     try go_wp2_with (first|((with_reducible refine gc_ 77 rfl ?_);refine gl_ (some 61) Try.func77 #[.slice Ao42 j1r.length co42,.int .i64 j1y] ?_;(with_reducible refine (spec_l1Has.calls k4 _ _ j1r j1y false _ ?side1 ?side2 A32.out).mono ?_);(case side1=>exact cR_ jt);(case side2=>exact (Kd.R_reads' jt.out).2.1);rintro e w' ⟨rfl,⟨nd,rfl⟩⟩;refine ⟨_,rfl,?_⟩)|((with_reducible refine gc_ 78 rfl ?_);refine gl_ (some 65) Try.func78 #[.slice Ao42 j1r.length co42,.int .i64 j1y] ?_;(with_reducible refine (spec_l1Put.calls k4 (fun k_=>some k_=(.slice Ao42 j1r.length co42:Value).ownBlock) (.slice Ao42 j1r.length co42) j1r j1y j5v w _ (below_to1 HB j2c.out) ?side2 A38.out).mono ?_);(case side2=>exact Kd.R_tight rfl jt.out);rintro e w43 ⟨jad,rfl,ho0,hb,hkp⟩;refine ⟨_,rfl,?_⟩;replace jg:=ai_ (blk_kept (blk_to jg) hkp (fun hs_=>(fun e_=>(Kd.R_ne jt.out jg.out (by decide)) e_) hs_));have j8d:=ai_ (Kd.R_mono (ok':=fun k_=>True) ho0 (fun k_ hk_=>trivial));replace HB:=ai_ (hb);clear jt;(try clear hb);(try clear hkp);(try clear ho0)))
     go_roundg k4
     case measure=>have:=HJ2.out;have:=HK2.out;have:=HK3.out;have:=HK4.out;omega
     case rel=>exact ⟨(j5v),(wrap64 (j1i+1)),rt_,H',⟨by have:=HJ2.out;have:=HK2.out;have:=HK3.out;have:=HK4.out;omega⟩,⟨kd_to j8d⟩,⟨blk_to jg⟩,⟨below_to1 HB j2c.out⟩⟩
end Go.Proofs.Ythdnodmidbcgpaa.QE
