import Derived.Test.YthdnodmidbcgpaaQEx1
namespace Go.Proofs.Ythdnodmidbcgpaa.QE
open Go.Proofs.Ythdnodmidbcgpaa.X Go.RowKit Go.Proofs.YthdnodmidbcgpaaW.PrintWords Go.Proofs.YthdnodmidbcgpaaW.PrintLast Go.Proofs.YthdnodmidbcgpaaW.PrintMore
attribute [local go_sem] max2_int min2_int max_two min_two max_three min_three max_four min_four
set_option linter.unusedVariables false
set_option linter.unusedSimpArgs false
mutual
def spec_BestChange.j0:Nat→Int→Int→List (List Int)→Int→Bool→Int→Int→Int→List Int→Int→Int→Int→List Int→Option (List Int × Int × Bool)
 | 0,_,_,_,_,_,_,_,_,_,_,_,_,_=>none
 | k+1,x1,x3,x4,x5,x44,j1c,j1d,j1e,j1f,j1g,j1h,j1i,j1j=>if x44=true then (some (([]:List Int),0,false)) else (spec_BestChange.l0 k x1 x3 x4 x5 x4 (x4.length:Int) 0 j1c j1d j1e j1f j1g j1h j1i j1j)
def spec_BestChange.l0:Nat→Int→Int→List (List Int)→Int→List (List Int)→Int→Int→Int→Int→Int→List Int→Int→Int→Int→List Int→Option (List Int × Int × Bool)
 | 0,_,_,_,_,_,_,_,_,_,_,_,_,_,_,_=>none
 | k+1,x1,x3,x4,x5,x45,x46,x47,j1c,j1d,j1e,j1f,j1g,j1h,j1i,j1j=>if x47 < x46 then (if 0≤x47 then (if x47 < (x45.length:Int) then (if ((rd_L1 x45 x47).length:Int)=3 then (if 0 < ((rd_L1 x45 x47).length:Int) then ((spec_buRide.f k j1c j1d j1e j1f x1 (rd (rd_L1 x45 x47) 0)).bind fun j5m=>(if j5m=true then (if 1 < ((rd_L1 x45 x47).length:Int) then ((spec_buRide.f k j1g j1h j1i j1j (rd (rd_L1 x45 x47) 1) x3).bind fun j5n=>(if j5n=true then (if 2 < ((rd_L1 x45 x47).length:Int) then ((spec_l1In.f (rd (rd_L1 x45 x47) 2) 0 100).bind fun j5o=>(if j5o=true then (spec_BestChange.l0 k x1 x3 x4 x5 x45 x46 (wrap64 (x47+1)) j1c j1d j1e j1f j1g j1h j1i j1j) else (some (([]:List Int),0,false)))) else (none)) else (some (([]:List Int),0,false)))) else (none)) else (some (([]:List Int),0,false)))) else (none)) else (some (([]:List Int),0,false))) else (none)) else (none)) else (spec_BestChange.l1 k x1 x3 x5 ([]:List Int) 0 x4 (x4.length:Int) 0 j1c j1d j1e j1f j1g j1h j1i j1j)
def spec_BestChange.l1:Nat→Int→Int→Int→List Int→Int→List (List Int)→Int→Int→Int→Int→Int→List Int→Int→Int→Int→List Int→Option (List Int × Int × Bool)
 | 0,_,_,_,_,_,_,_,_,_,_,_,_,_,_,_,_=>none
 | k+1,x1,x3,x5,x17,x18,x80,x81,x82,j1c,j1d,j1e,j1f,j1g,j1h,j1i,j1j=>if x82 < x81 then (if 0≤x82 then (if x82 < (x80.length:Int) then (if 0 < ((rd_L1 x80 x82).length:Int) then (if 1 < ((rd_L1 x80 x82).length:Int) then (if 2 < ((rd_L1 x80 x82).length:Int) then ((spec_buChange.f k j1c j1d j1e j1f x1 (rd (rd_L1 x80 x82) 0) j1g j1h j1i j1j (rd (rd_L1 x80 x82) 1) x3 (rd (rd_L1 x80 x82) 2) x5).bind fun bt152=>(if bt152.2.2=true then (if (x17.length:Int)=0 then ((spec_l1Own.f (rd_L1 x80 x82)).bind fun j5f=>(spec_BestChange.l1 k x1 x3 x5 j5f bt152.2.1 x80 x81 (wrap64 (x82+1)) j1c j1d j1e j1f j1g j1h j1i j1j)) else (if bt152.2.1 < x18 then ((spec_l1Own.f (rd_L1 x80 x82)).bind fun j5g=>(spec_BestChange.l1 k x1 x3 x5 j5g bt152.2.1 x80 x81 (wrap64 (x82+1)) j1c j1d j1e j1f j1g j1h j1i j1j)) else (spec_BestChange.l1 k x1 x3 x5 x17 x18 x80 x81 (wrap64 (x82+1)) j1c j1d j1e j1f j1g j1h j1i j1j))) else (spec_BestChange.l1 k x1 x3 x5 x17 x18 x80 x81 (wrap64 (x82+1)) j1c j1d j1e j1f j1g j1h j1i j1j))) else (none)) else (none)) else (none)) else (none)) else (none)) else (some (x17,x18,decide ((x17.length:Int) > 0)))
end
def spec_BestChange.f (k:Nat) (jp:Int) (jq:Int) (jr:Int) (jm:List Int) (a1:Int) (jv:Int) (jw:Int) (jx:Int) (ju:List Int) (a3:Int) (l4:List (List Int)) (a5:Int):Option (List Int × Int × Bool):=(spec_buStop.f k jp jq jr jm a1).bind fun j5p=>(if j5p=true then ((spec_buStop.f k jv jw jx ju a3).bind fun j5q=>(if j5q=true then ((spec_l1In.f (l4.length:Int) 1 20).bind fun j5r=>(if j5r=true then ((spec_buMinute.f a5).bind fun j5h=>(spec_BestChange.j0 k a1 a3 l4 a5 (!j5h) jp jq jr jm jv jw jx ju)) else (spec_BestChange.j0 k a1 a3 l4 a5 true jp jq jr jm jv jw jx ju))) else (spec_BestChange.j0 k a1 a3 l4 a5 true jp jq jr jm jv jw jx ju))) else (spec_BestChange.j0 k a1 a3 l4 a5 true jp jq jr jm jv jw jx ju))
def spec_BestChange.T6:Bool × List (List Nat × List Nat):=(true,[([],[]),([0],[0]),([1],[1]),([2],[2]),([3],[3]),([3],[3]),([3],[3]),([6,3],[3,6]),([7,3],[3,7]),([4,5,8,3,3],[3,4,5,8]),([9,3],[3,9]),([3,10],[3,10]),([11,9],[11]),([12],[12]),([12],[12]),([14,12],[12,14]),([15,12],[12,15]),([12],[12]),([13,16,17,12,12],[12,13,16,17]),([18,12],[12,18]),([12,19],[12,19]),([20,18],[20]),([21],[21]),([22,21],[21,22]),([23,21],[21,23]),([24,21,21],[21,24]),([25,21],[21,25]),([21,26],[21,26])])
def spec_BestChange.B6:List Nat:=[0,1,3,7,15,15,15,79,207,511,1023,2047,4095,8191,8191,24575,57343,8191,262143,524287,1048575,2097151,4194303,8388607,16777215,33554431,67108863,134217727]
theorem spec_BestChange.tab6:rtab .any (opsOf Try.f7 6)=spec_BestChange.T6:=by kernel_rfl
theorem spec_BestChange.bits6:waitsOk spec_BestChange.T6.2 spec_BestChange.B6=true:=by kernel_rfl
def spec_BestChange.T14:Bool × List (List Nat × List Nat):=(true,[([],[]),([],[]),([],[]),([2],[2]),([3],[3]),([],[]),([],[]),([6],[6]),([7],[7]),([],[]),([],[]),([10],[10]),([11],[11]),([],[]),([0,1,4,5,8,9,12,13],[0,1,4,5,8,9,12,13]),([14],[14]),([15],[15]),([15],[15]),([15],[15]),([16,14,0,1,2,3,4,5,6,7,8,9,10,11,12,13,14,15,16],[16]),([17,19,0,1,2,3,4,5,6,7,8,9,10,11,12,13,14,15,16,17,19],[17]),([18,20,0,1,2,3,4,5,6,7,8,9,10,11,12,13,14,15,16,17,18,19,20],[18])])
def spec_BestChange.B14:List Nat:=[0,0,0,4,12,0,0,64,192,0,0,1024,3072,0,16383,32767,65535,65535,65535,131071,786431,2097151]
theorem spec_BestChange.tab14:rtab .any (opsOf Try.f7 14)=spec_BestChange.T14:=by kernel_rfl
theorem spec_BestChange.bits14:waitsOk spec_BestChange.T14.2 spec_BestChange.B14=true:=by kernel_rfl
set_option maxHeartbeats 8000000 in
set_option maxRecDepth 100000 in
theorem spec_BestChange.calls (k:Nat) (jp:Int) (jq:Int) (jr:Int) (j1l:Option Addr) (j1m:Nat) (jm:List Int) (a1:Int) (jv:Int) (jw:Int) (jx:Int) (j1n:Option Addr) (j1o:Nat) (ju:List Int) (a3:Int) (A4:Option Addr) (c4:Nat) (l4:List (List Int)) (a5:Int) (r1:List Int) (r2:Int) (r3:Bool) (w:World) (hr0_3:Kd.C Ki_ w j1l jm.length jm) (hc0_3:jm.length≤j1m) (hr2_3:Kd.C Ki_ w j1n ju.length ju) (hc2_3:ju.length≤j1o) (hr4:Kd.C (Kd.slice 3 Ki_) w A4 l4.length l4) (hc4:l4.length≤c4) (h:spec_BestChange.f k jp jq jr jm a1 jv jw jx ju a3 l4 a5=some (r1,r2,r3)) :
  Calls Try.prog 7 #[ag_ jp jq jr j1l jm j1m,.int .i64 a1,ag_ jv jw jx j1n ju j1o,.int .i64 a3,.slice A4 l4.length c4,.int .i64 a5] w fun e w' => ∃ Ab:Value,e=.returned (.tuple #[Ab,.int .i64 r2,.bool r3])∧Kd.R Ki_ 3 w' w.heap.size (fun _=>True) Ab r1∧Below w.heap.size w w':=by
 have hu30:=Try.underlying30;have j1s:=ai_ hr0_3;have j1t:=ai_ hc0_3;clear hr0_3 hc0_3;have j1x:=ai_ hr2_3;have j1y:=ai_ hc2_3;clear hr2_3 hc2_3;have HR4:=ai_ hr4;have HC4:=ai_ hc4;clear hr4 hc4;have HB:=ai_ (Below.refl w.heap.size w);have H:=h
 unfold spec_BestChange.f at H
 clear h;have HC7:=ai_ H;clear H;go_enter Try.func7,Try.ntmps7
 go_upto_region 1 with (first|((with_reducible refine gd_ 6 rfl ?_);(try (refine gate_guard (by rfl) ?_;dsimp only));refine bxe_ #[.int .i64 jp,.int .i64 jq,.int .i64 jr,.slice j1l jm.length j1m] 30 ?_;intro jk hg w8 hbox hb;have ja:=ai_ (hbox);have j5z:=ai_ (gb_ hg (below_size (below_to HB)));have ji:=ai_ (gb_ hg (below_size (below_to HB)));replace HB:=ai_ (below_step (below_to HB) hb);clear hb hbox hg)|((with_reducible refine gd_ 8 rfl ?_);(try (refine gate_guard (by rfl) ?_;dsimp only));refine bxe_ #[.int .i64 jv,.int .i64 jw,.int .i64 jx,.slice j1n ju.length j1o] 30 ?_;intro js hg w9 hbox hb;have jb:=ai_ (hbox);have j6a:=ai_ (gb_ hg (below_size (below_to1 HB ji.out)));have jj:=ai_ (gb_ hg (below_size (below_to1 HB ji.out)));replace HB:=ai_ (below_step (below_to1 HB ji.out) hb);have j1p:=ai_ (ne_ hg (blk_lt (blk_to ja)));replace ja:=bb_ ja hb;have j1u:=ai_ j1p.out.symm;clear hb hbox hg))
 (try simp only [Act.put,List.setIfInBounds_toArray,List.set_cons_zero,List.set_cons_succ])
 go_cut [44] (fun v44 wc => ∃ (kq:Nat) (j2x:Bool),v44=.bool j2x∧Aside0 (spec_BestChange.j0 kq a1 a3 l4 a5 j2x jp jq jr jm jv jw jx ju=some (r1,r2,r3))∧Aside0 (kq≤k)∧B4_ wc jk jp jq jr j1l jm j1m 30∧B4_ wc js jv jw jx j1n ju j1o 30∧Aside0 (Below w.heap.size w wc))
 case first =>
  have H:=HC7.out;clear HC7;obtain ⟨j5p,A10,H⟩:=bs_ H;(try dsimp only at H)
  by_cases c11:j5p=true
  rotate_left
  ·replace c11:=Bool.eq_false_iff.mpr c11
   subst c11;rw [if_neg ft_] at H;have H':=ai_ H;clear H;have j6b:=j1p.out;have j6c:=j1u.out;obtain ⟨j2y,j2z,j3a,j3b,j3c,j3d,j3e,j3f⟩:=blk4_ ja
   go_wp2_with (first|((with_reducible refine gc_ 42 rfl ?_);refine gl_ (some 26) Try.func42 #[ag_ jp jq jr j1l jm j1m,.int .i64 a1] ?_;(with_reducible refine (spec_buStop.calls k jp jq jr _ _ jm a1 false _ (cb_ j1s HB) j1t.out A10.out).mono ?_);rintro e w34 ⟨rfl,hb⟩;refine ⟨_,rfl,?_⟩;replace ja:=bb_ ja hb;replace jb:=bb_ jb hb;replace HB:=ai_ (below_step (below_to2 HB ji.out jj.out) hb);clear hb))
   go_meet
   case rel=>exact ⟨_,(true),rt_,H',⟨by first|omega|exact Nat.le_refl _⟩,⟨blk_to ja⟩,⟨blk_to jb⟩,⟨below_to2 HB ji.out jj.out⟩⟩
  subst c11;rw [if_pos rfl] at H;obtain ⟨j5q,A12,H⟩:=bs_ H;(try dsimp only at H)
  by_cases c13:j5q=true
  rotate_left
  ·replace c13:=Bool.eq_false_iff.mpr c13
   subst c13;rw [if_neg ft_] at H;have H':=ai_ H;clear H;have j6d:=j1p.out;have j6e:=j1u.out;obtain ⟨j3g,j3h,j3i,j3j,j3k,j3l,j3m,j3n⟩:=blk4_ ja
   go_wp2_with (first|((with_reducible refine gc_ 42 rfl ?_);refine gl_ (some 26) Try.func42 #[ag_ jp jq jr j1l jm j1m,.int .i64 a1] ?_;(with_reducible refine (spec_buStop.calls k jp jq jr _ _ jm a1 true _ (cb_ j1s HB) j1t.out A10.out).mono ?_);rintro e w29 ⟨rfl,hb⟩;refine ⟨_,rfl,?_⟩;replace ja:=bb_ ja hb;replace jb:=bb_ jb hb;replace HB:=ai_ (below_step (below_to2 HB ji.out jj.out) hb);clear hb;obtain ⟨j3o,j3p,j3q,j3r,j3s,j3t,j3u,j3v⟩:=blk4_ jb)|(go_at_call 42;(with_reducible refine (spec_buStop.calls k jv jw jx _ _ ju a3 false _ (cb_ j1x HB) j1y.out A12.out).mono ?_);rintro e w31 ⟨rfl,hb⟩;replace ja:=bb_ ja hb;replace jb:=bb_ jb hb;replace HB:=ai_ (below_step (below_to2 HB ji.out jj.out) hb);clear hb))
   go_meet
   case rel=>exact ⟨_,(true),rt_,H',⟨by first|omega|exact Nat.le_refl _⟩,⟨blk_to ja⟩,⟨blk_to jb⟩,⟨below_to2 HB ji.out jj.out⟩⟩
  subst c13;rw [if_pos rfl] at H;obtain ⟨j5r,A14,H⟩:=bs_ H;(try dsimp only at H)
  by_cases c15:j5r=true
  rotate_left
  ·replace c15:=Bool.eq_false_iff.mpr c15
   subst c15;rw [if_neg ft_] at H;have H':=ai_ H;clear H;have j6f:=j1p.out;have j6g:=j1u.out;obtain ⟨j3w,j3x,j3y,j3z,j4a,j4b,j4c,j4d⟩:=blk4_ ja
   go_wp2_with (first|((with_reducible refine gc_ 42 rfl ?_);refine gl_ (some 26) Try.func42 #[ag_ jp jq jr j1l jm j1m,.int .i64 a1] ?_;(with_reducible refine (spec_buStop.calls k jp jq jr _ _ jm a1 true _ (cb_ j1s HB) j1t.out A10.out).mono ?_);rintro e w24 ⟨rfl,hb⟩;refine ⟨_,rfl,?_⟩;replace ja:=bb_ ja hb;replace jb:=bb_ jb hb;replace HB:=ai_ (below_step (below_to2 HB ji.out jj.out) hb);clear hb;obtain ⟨j4e,j4f,j4g,j4h,j4i,j4j,j4k,j4l⟩:=blk4_ jb)|(go_at_call 42;(with_reducible refine (spec_buStop.calls k jv jw jx _ _ ju a3 true _ (cb_ j1x HB) j1y.out A12.out).mono ?_);rintro e w26 ⟨rfl,hb⟩;replace ja:=bb_ ja hb;replace jb:=bb_ jb hb;replace HB:=ai_ (below_step (below_to2 HB ji.out jj.out) hb);clear hb)|(go_at_call 43;(with_reducible refine (spec_l1In.calls (l4.length:Int) 1 20 false _ A14.out).mono ?_);rintro e w' ⟨rfl,⟨nd,rfl⟩⟩))
   go_meet
   case rel=>exact ⟨_,(true),rt_,H',⟨by first|omega|exact Nat.le_refl _⟩,⟨blk_to ja⟩,⟨blk_to jb⟩,⟨below_to2 HB ji.out jj.out⟩⟩
  subst c15;rw [if_pos rfl] at H;obtain ⟨j5h,A16,H⟩:=bs_ H;(try dsimp only at H);have H':=ai_ H;clear H;have j6h:=j1p.out;have j6i:=j1u.out;obtain ⟨j4m,j4n,j4o,j4p,j4q,j4r,j4s,j4t⟩:=blk4_ ja
  go_wp2_with (first|((with_reducible refine gc_ 42 rfl ?_);refine gl_ (some 26) Try.func42 #[ag_ jp jq jr j1l jm j1m,.int .i64 a1] ?_;(with_reducible refine (spec_buStop.calls k jp jq jr _ _ jm a1 true _ (cb_ j1s HB) j1t.out A10.out).mono ?_);rintro e w19 ⟨rfl,hb⟩;refine ⟨_,rfl,?_⟩;replace ja:=bb_ ja hb;replace jb:=bb_ jb hb;replace HB:=ai_ (below_step (below_to2 HB ji.out jj.out) hb);clear hb;obtain ⟨j4u,j4v,j4w,j4x,j4y,j4z,j5a,j5b⟩:=blk4_ jb)|(go_at_call 42;(with_reducible refine (spec_buStop.calls k jv jw jx _ _ ju a3 true _ (cb_ j1x HB) j1y.out A12.out).mono ?_);rintro e w21 ⟨rfl,hb⟩;replace ja:=bb_ ja hb;replace jb:=bb_ jb hb;replace HB:=ai_ (below_step (below_to2 HB ji.out jj.out) hb);clear hb)|(go_at_call 43;(with_reducible refine (spec_l1In.calls (l4.length:Int) 1 20 true _ A14.out).mono ?_);rintro e w' ⟨rfl,⟨nd,rfl⟩⟩)|(go_at_call 44;(with_reducible refine (spec_buMinute.calls a5 j5h _ A16.out).mono ?_);rintro e w' ⟨rfl,⟨nd,rfl⟩⟩))
  go_meet
  case rel=>exact ⟨_,(!j5h),rt_,H',⟨by first|omega|exact Nat.le_refl _⟩,⟨blk_to ja⟩,⟨blk_to jb⟩,⟨below_to2 HB ji.out jj.out⟩⟩
 clear HC7
 try clear c1
 try clear c2
 try clear p2
 try clear c3
 try clear c4
 try clear c7
 try clear c11
 try clear c13
 try clear c15
 try clear c17
 try clear c22
 try clear c27
 try clear c32
 try clear j4m
 try clear j4n
 try clear j4o
 try clear j4p
 try clear j4u
 try clear j4v
 try clear j4w
 try clear j4x
 try clear j3w
 try clear j3x
 try clear j3y
 try clear j3z
 try clear j4e
 try clear j4f
 try clear j4g
 try clear j4h
 try clear j3g
 try clear j3h
 try clear j3i
 try clear j3j
 try clear j3o
 try clear j3p
 try clear j3q
 try clear j3r
 try clear j2y
 try clear j2z
 try clear j3a
 try clear j3b
 try clear j4q
 try clear j4r
 try clear j4s
 try clear j4t
 try clear j4y
 try clear j4z
 try clear j5a
 try clear j5b
 try clear j4a
 try clear j4b
 try clear j4c
 try clear j4d
 try clear j4i
 try clear j4j
 try clear j4k
 try clear j4l
 try clear j3k
 try clear j3l
 try clear j3m
 try clear j3n
 try clear j3s
 try clear j3t
 try clear j3u
 try clear j3v
 try clear j3c
 try clear j3d
 try clear j3e
 try clear j3f
 obtain ⟨kq,j2x,rfl,HA,HJ6,ja,jb,HB⟩:=hcut
 cases kq with
 | zero=>exact absurd HA.out (by simp [spec_BestChange.j0])
 | succ kj6 =>
  have H:=HA.out;clear HA;simp only [spec_BestChange.j0] at H
  by_cases c35:j2x=true
  ·subst c35
   rw [if_pos rfl] at H;simp only [Option.some.injEq,Prod.mk.injEq] at H;obtain ⟨rfl,rfl,rfl⟩:=H
   go_wp2
   go_ret3
   exact ⟨_,rtE_,by first|exact Kd.R_nil _ _ _ _ _|exact Kd.N_nil _ _ _ _ _|exact Kd.V_nil _ _ _ _ _|exact Kd.Q_nil _ _ _ _ _|exact Kd.S_nil _ _ _ _ _,below_to2 HB ji.out jj.out⟩
  replace c35:=Bool.eq_false_iff.mpr c35;subst c35;rw [if_neg ft_] at H;have H':=ai_ H;clear H
  go_wp2
  go_loopg [47] kj6 (fun kq v47 w' => ∃ (jd:Int),v47=.int .i64 jd∧Aside0 (spec_BestChange.l0 kq a1 a3 l4 a5 l4 (l4.length:Int) jd jp jq jr jm jv jw jx ju=some (r1,r2,r3))∧Aside0 (kq≤kj6)∧Aside0 (w'.heap[jk]?=some (.cells #[.int .i64 jp,.int .i64 jq,.int .i64 jr,(.slice j1l jm.length j1m)] 30 (0,0)))∧Aside0 (w'.heap[js]?=some (.cells #[.int .i64 jv,.int .i64 jw,.int .i64 jx,(.slice j1n ju.length j1o)] 30 (0,0)))∧Aside0 (Below w.heap.size w w'))
  case atStart=>exact ⟨(0),rt_,H',⟨Nat.le_refl _⟩,⟨blk_to ja⟩,⟨blk_to jb⟩,⟨below_to2 HB ji.out jj.out⟩⟩
  clear H'
  try clear c1
  try clear c2
  try clear p2
  try clear c3
  try clear c4
  try clear c7
  try clear c11
  try clear c13
  try clear c15
  try clear c17
  try clear c22
  try clear c27
  try clear c32
  try clear c35
  try clear j4m
  try clear j4n
  try clear j4o
  try clear j4p
  try clear j4u
  try clear j4v
  try clear j4w
  try clear j4x
  try clear j3w
  try clear j3x
  try clear j3y
  try clear j3z
  try clear j4e
  try clear j4f
  try clear j4g
  try clear j4h
  try clear j3g
  try clear j3h
  try clear j3i
  try clear j3j
  try clear j3o
  try clear j3p
  try clear j3q
  try clear j3r
  try clear j2y
  try clear j2z
  try clear j3a
  try clear j3b
  try clear j4q
  try clear j4r
  try clear j4s
  try clear j4t
  try clear j4y
  try clear j4z
  try clear j5a
  try clear j5b
  try clear j4a
  try clear j4b
  try clear j4c
  try clear j4d
  try clear j4i
  try clear j4j
  try clear j4k
  try clear j4l
  try clear j3k
  try clear j3l
  try clear j3m
  try clear j3n
  try clear j3s
  try clear j3t
  try clear j3u
  try clear j3v
  try clear j3c
  try clear j3d
  try clear j3e
  try clear j3f
  try clear p2
  obtain ⟨jd,rfl,HA,HK2,ja,jb,HB⟩:=hrel
  cases gk with
  | zero=>exact absurd HA.out (by simp [spec_BestChange.l0])
  | succ k2 =>
   have H:=HA.out;clear HA;simp only [spec_BestChange.l0] at H
   by_cases c36:jd < (l4.length:Int)
   rotate_left
   ·rw [if_neg c36] at H
    have j5j:=decide_eq_false c36;clear c36;have H':=ai_ H;clear H
    go_wp2
    go_loopg [17,18,82] k2 (fun kq v17 v18 v82 w' => ∃ (j2j:List Int) (j2p:Int) (jc:Int),v18=.int .i64 j2p∧v82=.int .i64 jc∧Aside0 (spec_BestChange.l1 kq a1 a3 a5 j2j j2p l4 (l4.length:Int) jc jp jq jr jm jv jw jx ju=some (r1,r2,r3))∧Aside0 (kq≤k2)∧Aside0 (Kd.R Ki_ 3 w' w.heap.size (fun _=>True) v17 j2j)∧Aside0 (w'.heap[jk]?=some (.cells #[.int .i64 jp,.int .i64 jq,.int .i64 jr,(.slice j1l jm.length j1m)] 30 (0,0)))∧Aside0 (w'.heap[js]?=some (.cells #[.int .i64 jv,.int .i64 jw,.int .i64 jx,(.slice j1n ju.length j1o)] 30 (0,0)))∧Aside0 (Below w.heap.size w w'))
    case atStart=>exact ⟨(([]:List Int)),(0),(0),rt_,rt_,H',⟨Nat.le_refl _⟩,⟨by first|exact Kd.R_nil _ _ _ _ _|exact Kd.N_nil _ _ _ _ _|exact Kd.V_nil _ _ _ _ _|exact Kd.Q_nil _ _ _ _ _|exact Kd.S_nil _ _ _ _ _⟩,⟨blk_to ja⟩,⟨blk_to jb⟩,⟨below_to2 HB ji.out jj.out⟩⟩
    clear H'
    try clear c1
    try clear p1
    try clear q1
    try clear hx1
    try clear qi1
    try clear c2
    try clear p2
    try clear c3
    try clear c4
    try clear c14
    try clear p14
    try clear q14
    try clear hx14
    try clear qi14
    try clear c36
    try clear j5j
    try clear c37
    try clear c38
    try clear c39
    try clear j5k
    try clear j5l
    try clear c40
    try clear c42
    try clear c43
    try clear c45
    try clear jy
    try clear je
    try clear j1q
    try clear j1v
    try clear j1r
    try clear j1w
    obtain ⟨j2j,j2p,jc,rfl,rfl,HA,HK3,jn,ja,jb,HB⟩:=hrel
    cases gk with
    | zero=>exact absurd HA.out (by simp [spec_BestChange.l1])
    | succ k3 =>
     have H:=HA.out;clear HA;simp only [spec_BestChange.l1] at H
     by_cases c61:jc < (l4.length:Int)
     rotate_left
     ·rw [if_neg c61] at H
      have j5s:=decide_eq_false c61;clear c61;simp only [Option.some.injEq,Prod.mk.injEq] at H;obtain ⟨rfl,rfl,rfl⟩:=H;obtain ⟨Ao86,co86,eo86⟩:=Kd.R_slice jn.out;subst eo86
      go_wp2
      go_ret3
      exact ⟨_,rtE_,kd_to jn,below_to2 HB ji.out jj.out⟩
     rw [if_pos c61] at H;have j5s:=decide_eq_true c61;clear c61
     by_cases c62:0≤jc
     rotate_left
     ·rw [if_neg c62] at H
      cases H
     rw [if_pos c62] at H;have j6j:=decide_eq_true c62;clear c62
     by_cases c63:jc < (l4.length:Int)
     rotate_left
     ·rw [if_neg c63] at H
      cases H
     rw [if_pos c63] at H;have j6k:=decide_eq_true c63;clear c63
     by_cases c64:0 < ((rd_L1 l4 jc).length:Int)
     rotate_left
     ·rw [if_neg c64] at H
      cases H
     rw [if_pos c64] at H;have j6l:=decide_eq_true c64;have j6m:decide (0 < (rd_L1 l4 jc).length)=true:=decide_eq_true (by omega);clear c64
     by_cases c65:1 < ((rd_L1 l4 jc).length:Int)
     rotate_left
     ·rw [if_neg c65] at H
      cases H
     rw [if_pos c65] at H;have j6n:=decide_eq_true c65;have j6o:decide (1 < (rd_L1 l4 jc).length)=true:=decide_eq_true (by omega);clear c65
     by_cases c66:2 < ((rd_L1 l4 jc).length:Int)
     rotate_left
     ·rw [if_neg c66] at H
      cases H
     rw [if_pos c66] at H;have j6p:=decide_eq_true c66;have j6q:decide (2 < (rd_L1 l4 jc).length)=true:=decide_eq_true (by omega);clear c66;obtain ⟨⟨j5i,j2t,j5y⟩,A67,H⟩:=bs_ H;(try dsimp only at H)
     by_cases c68:j5y=true
     rotate_left
     ·replace c68:=Bool.eq_false_iff.mpr c68
      subst c68;rw [if_neg ft_] at H;have H':=ai_ H;clear H;have j1z:0≤(jc:Int):=odt_;have j2a:jc < (l4.length:Int):=odt_;obtain ⟨j5d,j2u,j2k,e148,j1k,hl148_0,hi148_0⟩:=at_L1 HR4.out jc j1z j2a
      cases e148
      replace j1k:=bx_ HB j1k;have jt:=ai_ hi148_0;have j2h:=ai_ hl148_0;clear hi148_0 hl148_0;replace j1z:=eq_true j1z;replace j2a:=eq_true j2a
      try go_wp2
      replace jn:=ai_ (Kd.R_drew jn.out);replace ja:=ai_ (blk_drew ja.out);replace jb:=ai_ (blk_drew jb.out);replace HB:=ai_ (below_drew1 HB.out)
      have j2b:0≤(0:Int):=(by omega)
      have j2c:0 < ((rd_L1 l4 jc).length:Int):=odt_;obtain ⟨jo,e149,jf⟩:=Kd.at_int jt.out 0 j2b j2c;have hw149_0:=jf;(try rw [show ((0:Int)).toNat=0 from rfl] at hw149_0);(try rw [show 0*1=0 from rfl] at hw149_0);(try rw [Addr.add_zero'] at hw149_0)
      cases e149
      have qi149:(0 < (rd_L1 l4 jc).length)=True:=eq_true (by omega);(try rw [show ((0:Int)).toNat=0 from rfl] at jf);(try rw [Addr.add_zero'] at jf);replace jf:=bx_ HB jf;replace j2b:=eq_true j2b;replace j2c:=eq_true j2c
      have j2d:0≤(1:Int):=(by omega)
      have j2e:1 < ((rd_L1 l4 jc).length:Int):=odt_;obtain ⟨j2l,e150,jg⟩:=Kd.at_int jt.out 1 j2d j2e;have hw150_0:=jg;(try rw [show ((1:Int)).toNat=1 from rfl] at hw150_0);(try rw [show 1*1=1 from rfl] at hw150_0);(try simp only [Nat.reduceMul,Nat.reduceEqDiff,Go.Addr.add,↓reduceIte] at hw150_0)
      obtain rfl:jo=j2l:=(by injection e150)
      (try simp only [show (1:Int).toNat=1 from rfl,Nat.reduceMul,Nat.reduceEqDiff,Go.Addr.add,↓reduceIte] at jg);have qi150:(1 < (rd_L1 l4 jc).length)=True:=eq_true (by omega);(try rw [show ((1:Int)).toNat=1 from rfl] at jg);replace jg:=bx_ HB jg;replace j2d:=eq_true j2d;replace j2e:=eq_true j2e
      have j2f:0≤(2:Int):=(by omega)
      have j2g:2 < ((rd_L1 l4 jc).length:Int):=odt_;obtain ⟨j2m,e151,jh⟩:=Kd.at_int jt.out 2 j2f j2g;have hw151_0:=jh;(try rw [show ((2:Int)).toNat=2 from rfl] at hw151_0);(try rw [show 2*1=2 from rfl] at hw151_0);(try simp only [Nat.reduceMul,Nat.reduceEqDiff,Go.Addr.add,↓reduceIte] at hw151_0)
      obtain rfl:jo=j2m:=(by injection e151)
      (try simp only [show (2:Int).toNat=2 from rfl,Nat.reduceMul,Nat.reduceEqDiff,Go.Addr.add,↓reduceIte] at jh);have qi151:(2 < (rd_L1 l4 jc).length)=True:=eq_true (by omega);(try rw [show ((2:Int)).toNat=2 from rfl] at jh);replace jh:=bx_ HB jh;replace j2f:=eq_true j2f;replace j2g:=eq_true j2g;refine start_ (n:=22) (S:=fun w'=>w'.cell? ⟨jk,0,none⟩=some (.int .i64 jp)∧w'.cell? ⟨jk,1,none⟩=some (.int .i64 jq)∧w'.cell? ⟨jk,2,none⟩=some (.int .i64 jr)∧w'.cell? ⟨jk,3,none⟩=some (.slice j1l jm.length j1m)∧w'.cell? ⟨js,0,none⟩=some (.int .i64 jv)∧w'.cell? ⟨js,1,none⟩=some (.int .i64 jw)∧w'.cell? ⟨js,2,none⟩=some (.int .i64 jx)∧w'.cell? ⟨js,3,none⟩=some (.slice j1n ju.length j1o)∧w'.cell? jo=some (.int .i64 (rd (rd_L1 l4 jc) 0))∧w'.cell? ⟨jo.block,jo.off+1,none⟩=some (.int .i64 (rd (rd_L1 l4 jc) 1))∧w'.cell? ⟨jo.block,jo.off+2,none⟩=some (.int .i64 (rd (rd_L1 l4 jc) 2))) (ds:=[]) (fr_ [0,22]) (by kernel_rfl) rfl rfl ⟨bc_ ja 0,bc_ ja 1,bc_ ja 2,bc_ ja 3,bc_ jb 0,bc_ jb 1,bc_ jb 2,bc_ jb 3,((HB.out.cell (World.block_lt_of_cell? w _ hw149_0)).trans hw149_0),((HB.out.cell (World.block_lt_of_cell? w _ hw150_0)).trans hw150_0),((HB.out.cell (World.block_lt_of_cell? w _ hw151_0)).trans hw151_0)⟩ (fun hHeld=>?_);refine with_tabW spec_BestChange.tab14 spec_BestChange.bits14 (fun HT_ HW_=>?_);generalize wr.drew=w84 at jn ja jb HB jf jg jh hHeld ⊢;refine pS_ 1 88 (fr_ [0,1,1,20]) HT_ ?_;refine pS_ 2 89 (fr_ [0,1,2,19]) HT_ ?_;refine pS_ 3 90 (fr_ [0,1,3,18]) HT_ ?_;refine pS_ 6 93 (fr_ [0,1,3,2,1,15]) HT_ ?_;refine pS_ 7 94 (fr_ [0,1,3,2,2,14]) HT_ ?_;refine pS_ 9 96 (fr_ [0,1,3,2,2,1,1,12]) HT_ ?_;refine pS_ 10 97 (fr_ [0,1,3,2,2,1,2,11]) HT_ ?_;refine pS_ 11 98 (fr_ [0,1,3,2,2,1,3,10]) HT_ ?_;refine pS_ 13 100 (fr_ [0,1,3,2,2,1,3,1,1,8]) HT_ ?_;refine tk11_ 0 87 (fr_ [4,2,2,1,3,1,1,8]) HT_ HW_ hHeld ?_;refine tk11_ 4 91 (fr_ [5,1,2,1,3,1,1,8]) HT_ HW_ hHeld ?_;refine tk11_ 5 92 (fr_ [8,1,3,1,1,8]) HT_ HW_ hHeld ?_;refine tk11_ 8 95 (fr_ [12,1,1,8]) HT_ HW_ hHeld ?_;refine tk11_ 12 99 (fr_ [14,8]) HT_ HW_ hHeld ?_;refine on_ 14 101 (fr_ [15,7]) HT_ (fun K hK=>?_);refine gs_ Try.func46 #[ag_ jp jq jr j1l jm j1m,.int .i64 a1,.int .i64 (rd (rd_L1 l4 jc) 0),ag_ jv jw jx j1n ju j1o,.int .i64 (rd (rd_L1 l4 jc) 1),.int .i64 a3,.int .i64 (rd (rd_L1 l4 jc) 2),.int .i64 a5] ?_
      with_reducible refine (spec_buChange.calls k3 jp jq jr _ _ jm a1 (rd (rd_L1 l4 jc) 0) jv jw jx _ _ ju (rd (rd_L1 l4 jc) 1) a3 (rd (rd_L1 l4 jc) 2) a5 j5i j2t false _ ?side1 ?side2 ?side3 ?side4 A67.out).mono ?_
      (case side1=>exact cb_ j1s HB)
      (case side2=>exact j1t.out)
      (case side3=>exact cb_ j1x HB)
      (case side4=>exact j1y.out)
      rintro e w85 ⟨rfl,hb⟩;refine ⟨_,rfl,?_⟩;replace jn:=rb_ jn hb;replace ja:=bb_ ja hb;replace jb:=bb_ jb hb;replace HB:=ai_ (below_step (below_to2 HB ji.out jj.out) hb);(try clear hb);(try clear hb2);(try clear hk);(try clear hi);refine hK.out _ _ ⟨bc_ ja 0,bc_ ja 1,bc_ ja 2,bc_ ja 3,bc_ jb 0,bc_ jb 1,bc_ jb 2,bc_ jb 3,((HB.out.cell (World.block_lt_of_cell? w _ hw149_0)).trans hw149_0),((HB.out.cell (World.block_lt_of_cell? w _ hw150_0)).trans hw150_0),((HB.out.cell (World.block_lt_of_cell? w _ hw151_0)).trans hw151_0)⟩ (fun hHeld=>?_);clear hK K;refine norm_ (a':=?_) ?_ ?_;rotate_left
      ·show Act.put _ (some 101) _=_
       simp only [Act.put,List.setIfInBounds_toArray,List.set_cons_zero,List.set_cons_succ,i64_w,i32_w]
       rfl
      refine pq_ 15 86 22 ?_;refine pq_ 16 102 22 ?_;refine pq_ 17 103 22 ?_;refine pq_ 18 104 22 ?_;refine pq_ 19 21 22 ?_;refine pq_ 20 22 22 ?_;refine pq_ 21 23 22 ?_;refine done_ (done_of HT_.out (by kernel_rfl)) ?_
      try go_wp2
      go_roundg k3
      case measure=>have:=HJ6.out;have:=HK2.out;have:=HK3.out;omega
      case rel=>exact ⟨(j2j),(j2p),(wrap64 (jc+1)),rt_,rt_,H',⟨by have:=HJ6.out;have:=HK2.out;have:=HK3.out;omega⟩,⟨kd_to jn⟩,⟨blk_to ja⟩,⟨blk_to jb⟩,⟨below_to2 HB ji.out jj.out⟩⟩
     subst c68;rw [if_pos rfl] at H
     by_cases c69:(j2j.length:Int)=0
     ·rw [if_pos c69] at H
      have j5t:=beq_iff_eq.mpr c69;have j5u:=bne_eq_false_iff_eq.mpr c69;clear c69;obtain ⟨j5f,A70,H⟩:=bs_ H;(try dsimp only at H);have H':=ai_ H;clear H;have j1z:0≤(jc:Int):=odt_;have j2a:jc < (l4.length:Int):=odt_;obtain ⟨j5d,j2u,j2k,e148,j1k,hl148_0,hi148_0⟩:=at_L1 HR4.out jc j1z j2a
      cases e148
      replace j1k:=bx_ HB j1k;have jt:=ai_ hi148_0;have j2h:=ai_ hl148_0;clear hi148_0 hl148_0;replace j1z:=eq_true j1z;replace j2a:=eq_true j2a
      try go_wp2
      replace jn:=ai_ (Kd.R_drew jn.out);replace ja:=ai_ (blk_drew ja.out);replace jb:=ai_ (blk_drew jb.out);replace HB:=ai_ (below_drew1 HB.out)
      have j2b:0≤(0:Int):=(by omega)
      have j2c:0 < ((rd_L1 l4 jc).length:Int):=odt_;obtain ⟨jo,e149,jf⟩:=Kd.at_int jt.out 0 j2b j2c;have hw149_0:=jf;(try rw [show ((0:Int)).toNat=0 from rfl] at hw149_0);(try rw [show 0*1=0 from rfl] at hw149_0);(try rw [Addr.add_zero'] at hw149_0)
      cases e149
      have qi149:(0 < (rd_L1 l4 jc).length)=True:=eq_true (by omega);(try rw [show ((0:Int)).toNat=0 from rfl] at jf);(try rw [Addr.add_zero'] at jf);replace jf:=bx_ HB jf;replace j2b:=eq_true j2b;replace j2c:=eq_true j2c
      have j2d:0≤(1:Int):=(by omega)
      have j2e:1 < ((rd_L1 l4 jc).length:Int):=odt_;obtain ⟨j2l,e150,jg⟩:=Kd.at_int jt.out 1 j2d j2e;have hw150_0:=jg;(try rw [show ((1:Int)).toNat=1 from rfl] at hw150_0);(try rw [show 1*1=1 from rfl] at hw150_0);(try simp only [Nat.reduceMul,Nat.reduceEqDiff,Go.Addr.add,↓reduceIte] at hw150_0)
      obtain rfl:jo=j2l:=(by injection e150)
      (try simp only [show (1:Int).toNat=1 from rfl,Nat.reduceMul,Nat.reduceEqDiff,Go.Addr.add,↓reduceIte] at jg);have qi150:(1 < (rd_L1 l4 jc).length)=True:=eq_true (by omega);(try rw [show ((1:Int)).toNat=1 from rfl] at jg);replace jg:=bx_ HB jg;replace j2d:=eq_true j2d;replace j2e:=eq_true j2e
      have j2f:0≤(2:Int):=(by omega)
      have j2g:2 < ((rd_L1 l4 jc).length:Int):=odt_;obtain ⟨j2m,e151,jh⟩:=Kd.at_int jt.out 2 j2f j2g;have hw151_0:=jh;(try rw [show ((2:Int)).toNat=2 from rfl] at hw151_0);(try rw [show 2*1=2 from rfl] at hw151_0);(try simp only [Nat.reduceMul,Nat.reduceEqDiff,Go.Addr.add,↓reduceIte] at hw151_0)
      obtain rfl:jo=j2m:=(by injection e151)
      (try simp only [show (2:Int).toNat=2 from rfl,Nat.reduceMul,Nat.reduceEqDiff,Go.Addr.add,↓reduceIte] at jh);have qi151:(2 < (rd_L1 l4 jc).length)=True:=eq_true (by omega);(try rw [show ((2:Int)).toNat=2 from rfl] at jh);replace jh:=bx_ HB jh;replace j2f:=eq_true j2f;replace j2g:=eq_true j2g;refine start_ (n:=22) (S:=fun w'=>w'.cell? ⟨jk,0,none⟩=some (.int .i64 jp)∧w'.cell? ⟨jk,1,none⟩=some (.int .i64 jq)∧w'.cell? ⟨jk,2,none⟩=some (.int .i64 jr)∧w'.cell? ⟨jk,3,none⟩=some (.slice j1l jm.length j1m)∧w'.cell? ⟨js,0,none⟩=some (.int .i64 jv)∧w'.cell? ⟨js,1,none⟩=some (.int .i64 jw)∧w'.cell? ⟨js,2,none⟩=some (.int .i64 jx)∧w'.cell? ⟨js,3,none⟩=some (.slice j1n ju.length j1o)∧w'.cell? jo=some (.int .i64 (rd (rd_L1 l4 jc) 0))∧w'.cell? ⟨jo.block,jo.off+1,none⟩=some (.int .i64 (rd (rd_L1 l4 jc) 1))∧w'.cell? ⟨jo.block,jo.off+2,none⟩=some (.int .i64 (rd (rd_L1 l4 jc) 2))) (ds:=[]) (fr_ [0,22]) (by kernel_rfl) rfl rfl ⟨bc_ ja 0,bc_ ja 1,bc_ ja 2,bc_ ja 3,bc_ jb 0,bc_ jb 1,bc_ jb 2,bc_ jb 3,((HB.out.cell (World.block_lt_of_cell? w _ hw149_0)).trans hw149_0),((HB.out.cell (World.block_lt_of_cell? w _ hw150_0)).trans hw150_0),((HB.out.cell (World.block_lt_of_cell? w _ hw151_0)).trans hw151_0)⟩ (fun hHeld=>?_);refine with_tabW spec_BestChange.tab14 spec_BestChange.bits14 (fun HT_ HW_=>?_);generalize wr.drew=w71 at jn ja jb HB jf jg jh hHeld ⊢;refine pS_ 1 88 (fr_ [0,1,1,20]) HT_ ?_;refine pS_ 2 89 (fr_ [0,1,2,19]) HT_ ?_;refine pS_ 3 90 (fr_ [0,1,3,18]) HT_ ?_;refine pS_ 6 93 (fr_ [0,1,3,2,1,15]) HT_ ?_;refine pS_ 7 94 (fr_ [0,1,3,2,2,14]) HT_ ?_;refine pS_ 9 96 (fr_ [0,1,3,2,2,1,1,12]) HT_ ?_;refine pS_ 10 97 (fr_ [0,1,3,2,2,1,2,11]) HT_ ?_;refine pS_ 11 98 (fr_ [0,1,3,2,2,1,3,10]) HT_ ?_;refine pS_ 13 100 (fr_ [0,1,3,2,2,1,3,1,1,8]) HT_ ?_;refine tk11_ 0 87 (fr_ [4,2,2,1,3,1,1,8]) HT_ HW_ hHeld ?_;refine tk11_ 4 91 (fr_ [5,1,2,1,3,1,1,8]) HT_ HW_ hHeld ?_;refine tk11_ 5 92 (fr_ [8,1,3,1,1,8]) HT_ HW_ hHeld ?_;refine tk11_ 8 95 (fr_ [12,1,1,8]) HT_ HW_ hHeld ?_;refine tk11_ 12 99 (fr_ [14,8]) HT_ HW_ hHeld ?_;refine on_ 14 101 (fr_ [15,7]) HT_ (fun K hK=>?_);refine gs_ Try.func46 #[ag_ jp jq jr j1l jm j1m,.int .i64 a1,.int .i64 (rd (rd_L1 l4 jc) 0),ag_ jv jw jx j1n ju j1o,.int .i64 (rd (rd_L1 l4 jc) 1),.int .i64 a3,.int .i64 (rd (rd_L1 l4 jc) 2),.int .i64 a5] ?_
      with_reducible refine (spec_buChange.calls k3 jp jq jr _ _ jm a1 (rd (rd_L1 l4 jc) 0) jv jw jx _ _ ju (rd (rd_L1 l4 jc) 1) a3 (rd (rd_L1 l4 jc) 2) a5 j5i j2t true _ ?side1 ?side2 ?side3 ?side4 A67.out).mono ?_
      (case side1=>exact cb_ j1s HB)
      (case side2=>exact j1t.out)
      (case side3=>exact cb_ j1x HB)
      (case side4=>exact j1y.out)
      rintro e w72 ⟨rfl,hb⟩;refine ⟨_,rfl,?_⟩;replace jn:=rb_ jn hb;replace ja:=bb_ ja hb;replace jb:=bb_ jb hb;replace HB:=ai_ (below_step (below_to2 HB ji.out jj.out) hb);(try clear hb);(try clear hb2);(try clear hk);(try clear hi);refine hK.out _ _ ⟨bc_ ja 0,bc_ ja 1,bc_ ja 2,bc_ ja 3,bc_ jb 0,bc_ jb 1,bc_ jb 2,bc_ jb 3,((HB.out.cell (World.block_lt_of_cell? w _ hw149_0)).trans hw149_0),((HB.out.cell (World.block_lt_of_cell? w _ hw150_0)).trans hw150_0),((HB.out.cell (World.block_lt_of_cell? w _ hw151_0)).trans hw151_0)⟩ (fun hHeld=>?_);clear hK K;refine norm_ (a':=?_) ?_ ?_;rotate_left
      ·show Act.put _ (some 101) _=_
       simp only [Act.put,List.setIfInBounds_toArray,List.set_cons_zero,List.set_cons_succ,i64_w,i32_w]
       rfl
      refine pq_ 15 86 22 ?_;refine pq_ 16 102 22 ?_;refine pq_ 17 103 22 ?_;refine pq_ 18 104 22 ?_;refine pq_ 19 21 22 ?_;refine pq_ 20 22 22 ?_;refine pq_ 21 23 22 ?_;refine done_ (done_of HT_.out (by kernel_rfl)) ?_;obtain ⟨Ao73,co73,eo73⟩:=Kd.R_slice jn.out;subst eo73
      try go_wp2_with (first|((with_reducible refine gc_ 47 rfl ?_);refine gl_ (some 117) Try.func47 #[.slice (some jo) (rd_L1 l4 jc).length j2k] ?_;(with_reducible refine (spec_l1Own.calls _ _ (rd_L1 l4 jc) j5f _ (cb_ jt HB) j2h.out A70.out).mono ?_);rintro e w74 ⟨j7a,rfl,ho0,hb⟩;refine ⟨_,rfl,?_⟩;have j5v:=ai_ (Kd.R_lower (Kd.R_new' ho0 (Kd.R_lt (kd_to jn))) (below_size (below_to2 HB ji.out jj.out)));replace jn:=ai_ (Kd.R_elder' (kd_to jn) (Kd.R_base ho0) hb);replace ja:=bb_ ja hb;replace jb:=bb_ jb hb;replace HB:=ai_ (below_step (below_to2 HB ji.out jj.out) hb);clear hb;(try clear ho0)))
      go_roundg k3
      case measure=>have:=HJ6.out;have:=HK2.out;have:=HK3.out;omega
      case rel=>exact ⟨(j5f),(j2t),(wrap64 (jc+1)),rt_,rt_,H',⟨by have:=HJ6.out;have:=HK2.out;have:=HK3.out;omega⟩,⟨km_ j5v (fun _ hk=>trivial)⟩,⟨blk_to ja⟩,⟨blk_to jb⟩,⟨below_to2 HB ji.out jj.out⟩⟩
     rw [if_neg c69] at H;have j5t:=beq_eq_false_iff_ne.mpr c69;have j5u:=bne_iff_ne.mpr c69;have j6r:¬ (j2j=[]):=fun h_=>c69 (by rw [h_];rfl)
     by_cases c75:j2t < j2p
     rotate_left
     ·rw [if_neg c75] at H
      have j5w:=decide_eq_false c75;clear c75;have H':=ai_ H;clear H;have j1z:0≤(jc:Int):=odt_;have j2a:jc < (l4.length:Int):=odt_;obtain ⟨j5d,j2u,j2k,e148,j1k,hl148_0,hi148_0⟩:=at_L1 HR4.out jc j1z j2a
      cases e148
      replace j1k:=bx_ HB j1k;have jt:=ai_ hi148_0;have j2h:=ai_ hl148_0;clear hi148_0 hl148_0;replace j1z:=eq_true j1z;replace j2a:=eq_true j2a
      try go_wp2
      replace jn:=ai_ (Kd.R_drew jn.out);replace ja:=ai_ (blk_drew ja.out);replace jb:=ai_ (blk_drew jb.out);replace HB:=ai_ (below_drew1 HB.out)
      have j2b:0≤(0:Int):=(by omega)
      have j2c:0 < ((rd_L1 l4 jc).length:Int):=odt_;obtain ⟨jo,e149,jf⟩:=Kd.at_int jt.out 0 j2b j2c;have hw149_0:=jf;(try rw [show ((0:Int)).toNat=0 from rfl] at hw149_0);(try rw [show 0*1=0 from rfl] at hw149_0);(try rw [Addr.add_zero'] at hw149_0)
      cases e149
      have qi149:(0 < (rd_L1 l4 jc).length)=True:=eq_true (by omega);(try rw [show ((0:Int)).toNat=0 from rfl] at jf);(try rw [Addr.add_zero'] at jf);replace jf:=bx_ HB jf;replace j2b:=eq_true j2b;replace j2c:=eq_true j2c
      have j2d:0≤(1:Int):=(by omega)
      have j2e:1 < ((rd_L1 l4 jc).length:Int):=odt_;obtain ⟨j2l,e150,jg⟩:=Kd.at_int jt.out 1 j2d j2e;have hw150_0:=jg;(try rw [show ((1:Int)).toNat=1 from rfl] at hw150_0);(try rw [show 1*1=1 from rfl] at hw150_0);(try simp only [Nat.reduceMul,Nat.reduceEqDiff,Go.Addr.add,↓reduceIte] at hw150_0)
      obtain rfl:jo=j2l:=(by injection e150)
      (try simp only [show (1:Int).toNat=1 from rfl,Nat.reduceMul,Nat.reduceEqDiff,Go.Addr.add,↓reduceIte] at jg);have qi150:(1 < (rd_L1 l4 jc).length)=True:=eq_true (by omega);(try rw [show ((1:Int)).toNat=1 from rfl] at jg);replace jg:=bx_ HB jg;replace j2d:=eq_true j2d;replace j2e:=eq_true j2e
      have j2f:0≤(2:Int):=(by omega)
      have j2g:2 < ((rd_L1 l4 jc).length:Int):=odt_;obtain ⟨j2m,e151,jh⟩:=Kd.at_int jt.out 2 j2f j2g;have hw151_0:=jh;(try rw [show ((2:Int)).toNat=2 from rfl] at hw151_0);(try rw [show 2*1=2 from rfl] at hw151_0);(try simp only [Nat.reduceMul,Nat.reduceEqDiff,Go.Addr.add,↓reduceIte] at hw151_0)
      obtain rfl:jo=j2m:=(by injection e151)
      (try simp only [show (2:Int).toNat=2 from rfl,Nat.reduceMul,Nat.reduceEqDiff,Go.Addr.add,↓reduceIte] at jh);have qi151:(2 < (rd_L1 l4 jc).length)=True:=eq_true (by omega);(try rw [show ((2:Int)).toNat=2 from rfl] at jh);replace jh:=bx_ HB jh;replace j2f:=eq_true j2f;replace j2g:=eq_true j2g;refine start_ (n:=22) (S:=fun w'=>w'.cell? ⟨jk,0,none⟩=some (.int .i64 jp)∧w'.cell? ⟨jk,1,none⟩=some (.int .i64 jq)∧w'.cell? ⟨jk,2,none⟩=some (.int .i64 jr)∧w'.cell? ⟨jk,3,none⟩=some (.slice j1l jm.length j1m)∧w'.cell? ⟨js,0,none⟩=some (.int .i64 jv)∧w'.cell? ⟨js,1,none⟩=some (.int .i64 jw)∧w'.cell? ⟨js,2,none⟩=some (.int .i64 jx)∧w'.cell? ⟨js,3,none⟩=some (.slice j1n ju.length j1o)∧w'.cell? jo=some (.int .i64 (rd (rd_L1 l4 jc) 0))∧w'.cell? ⟨jo.block,jo.off+1,none⟩=some (.int .i64 (rd (rd_L1 l4 jc) 1))∧w'.cell? ⟨jo.block,jo.off+2,none⟩=some (.int .i64 (rd (rd_L1 l4 jc) 2))) (ds:=[]) (fr_ [0,22]) (by kernel_rfl) rfl rfl ⟨bc_ ja 0,bc_ ja 1,bc_ ja 2,bc_ ja 3,bc_ jb 0,bc_ jb 1,bc_ jb 2,bc_ jb 3,((HB.out.cell (World.block_lt_of_cell? w _ hw149_0)).trans hw149_0),((HB.out.cell (World.block_lt_of_cell? w _ hw150_0)).trans hw150_0),((HB.out.cell (World.block_lt_of_cell? w _ hw151_0)).trans hw151_0)⟩ (fun hHeld=>?_);refine with_tabW spec_BestChange.tab14 spec_BestChange.bits14 (fun HT_ HW_=>?_);generalize wr.drew=w81 at jn ja jb HB jf jg jh hHeld ⊢;refine pS_ 1 88 (fr_ [0,1,1,20]) HT_ ?_;refine pS_ 2 89 (fr_ [0,1,2,19]) HT_ ?_;refine pS_ 3 90 (fr_ [0,1,3,18]) HT_ ?_;refine pS_ 6 93 (fr_ [0,1,3,2,1,15]) HT_ ?_;refine pS_ 7 94 (fr_ [0,1,3,2,2,14]) HT_ ?_;refine pS_ 9 96 (fr_ [0,1,3,2,2,1,1,12]) HT_ ?_;refine pS_ 10 97 (fr_ [0,1,3,2,2,1,2,11]) HT_ ?_;refine pS_ 11 98 (fr_ [0,1,3,2,2,1,3,10]) HT_ ?_;refine pS_ 13 100 (fr_ [0,1,3,2,2,1,3,1,1,8]) HT_ ?_;refine tk11_ 0 87 (fr_ [4,2,2,1,3,1,1,8]) HT_ HW_ hHeld ?_;refine tk11_ 4 91 (fr_ [5,1,2,1,3,1,1,8]) HT_ HW_ hHeld ?_;refine tk11_ 5 92 (fr_ [8,1,3,1,1,8]) HT_ HW_ hHeld ?_;refine tk11_ 8 95 (fr_ [12,1,1,8]) HT_ HW_ hHeld ?_;refine tk11_ 12 99 (fr_ [14,8]) HT_ HW_ hHeld ?_;refine on_ 14 101 (fr_ [15,7]) HT_ (fun K hK=>?_);refine gs_ Try.func46 #[ag_ jp jq jr j1l jm j1m,.int .i64 a1,.int .i64 (rd (rd_L1 l4 jc) 0),ag_ jv jw jx j1n ju j1o,.int .i64 (rd (rd_L1 l4 jc) 1),.int .i64 a3,.int .i64 (rd (rd_L1 l4 jc) 2),.int .i64 a5] ?_
      with_reducible refine (spec_buChange.calls k3 jp jq jr _ _ jm a1 (rd (rd_L1 l4 jc) 0) jv jw jx _ _ ju (rd (rd_L1 l4 jc) 1) a3 (rd (rd_L1 l4 jc) 2) a5 j5i j2t true _ ?side1 ?side2 ?side3 ?side4 A67.out).mono ?_
      (case side1=>exact cb_ j1s HB)
      (case side2=>exact j1t.out)
      (case side3=>exact cb_ j1x HB)
      (case side4=>exact j1y.out)
      rintro e w82 ⟨rfl,hb⟩;refine ⟨_,rfl,?_⟩;replace jn:=rb_ jn hb;replace ja:=bb_ ja hb;replace jb:=bb_ jb hb;replace HB:=ai_ (below_step (below_to2 HB ji.out jj.out) hb);(try clear hb);(try clear hb2);(try clear hk);(try clear hi);refine hK.out _ _ ⟨bc_ ja 0,bc_ ja 1,bc_ ja 2,bc_ ja 3,bc_ jb 0,bc_ jb 1,bc_ jb 2,bc_ jb 3,((HB.out.cell (World.block_lt_of_cell? w _ hw149_0)).trans hw149_0),((HB.out.cell (World.block_lt_of_cell? w _ hw150_0)).trans hw150_0),((HB.out.cell (World.block_lt_of_cell? w _ hw151_0)).trans hw151_0)⟩ (fun hHeld=>?_);clear hK K;refine norm_ (a':=?_) ?_ ?_;rotate_left
      ·show Act.put _ (some 101) _=_
       simp only [Act.put,List.setIfInBounds_toArray,List.set_cons_zero,List.set_cons_succ,i64_w,i32_w]
       rfl
      refine pq_ 15 86 22 ?_;refine pq_ 16 102 22 ?_;refine pq_ 17 103 22 ?_;refine pq_ 18 104 22 ?_;refine pq_ 19 21 22 ?_;refine pq_ 20 22 22 ?_;refine pq_ 21 23 22 ?_;refine done_ (done_of HT_.out (by kernel_rfl)) ?_;obtain ⟨Ao83,co83,eo83⟩:=Kd.R_slice jn.out;subst eo83
      try go_wp2
      go_roundg k3
      case measure=>have:=HJ6.out;have:=HK2.out;have:=HK3.out;omega
      case rel=>exact ⟨(j2j),(j2p),(wrap64 (jc+1)),rt_,rt_,H',⟨by have:=HJ6.out;have:=HK2.out;have:=HK3.out;omega⟩,⟨kd_to jn⟩,⟨blk_to ja⟩,⟨blk_to jb⟩,⟨below_to2 HB ji.out jj.out⟩⟩
     rw [if_pos c75] at H;have j5w:=decide_eq_true c75;clear c75;obtain ⟨j5g,A76,H⟩:=bs_ H;(try dsimp only at H);have H':=ai_ H;clear H;have j1z:0≤(jc:Int):=odt_;have j2a:jc < (l4.length:Int):=odt_;obtain ⟨j5d,j2u,j2k,e148,j1k,hl148_0,hi148_0⟩:=at_L1 HR4.out jc j1z j2a
     cases e148
     replace j1k:=bx_ HB j1k;have jt:=ai_ hi148_0;have j2h:=ai_ hl148_0;clear hi148_0 hl148_0;replace j1z:=eq_true j1z;replace j2a:=eq_true j2a
     try go_wp2
     replace jn:=ai_ (Kd.R_drew jn.out);replace ja:=ai_ (blk_drew ja.out);replace jb:=ai_ (blk_drew jb.out);replace HB:=ai_ (below_drew1 HB.out)
     have j2b:0≤(0:Int):=(by omega)
     have j2c:0 < ((rd_L1 l4 jc).length:Int):=odt_;obtain ⟨jo,e149,jf⟩:=Kd.at_int jt.out 0 j2b j2c;have hw149_0:=jf;(try rw [show ((0:Int)).toNat=0 from rfl] at hw149_0);(try rw [show 0*1=0 from rfl] at hw149_0);(try rw [Addr.add_zero'] at hw149_0)
     cases e149
     have qi149:(0 < (rd_L1 l4 jc).length)=True:=eq_true (by omega);(try rw [show ((0:Int)).toNat=0 from rfl] at jf);(try rw [Addr.add_zero'] at jf);replace jf:=bx_ HB jf;replace j2b:=eq_true j2b;replace j2c:=eq_true j2c
     have j2d:0≤(1:Int):=(by omega)
     have j2e:1 < ((rd_L1 l4 jc).length:Int):=odt_;obtain ⟨j2l,e150,jg⟩:=Kd.at_int jt.out 1 j2d j2e;have hw150_0:=jg;(try rw [show ((1:Int)).toNat=1 from rfl] at hw150_0);(try rw [show 1*1=1 from rfl] at hw150_0);(try simp only [Nat.reduceMul,Nat.reduceEqDiff,Go.Addr.add,↓reduceIte] at hw150_0)
     obtain rfl:jo=j2l:=(by injection e150)
     (try simp only [show (1:Int).toNat=1 from rfl,Nat.reduceMul,Nat.reduceEqDiff,Go.Addr.add,↓reduceIte] at jg);have qi150:(1 < (rd_L1 l4 jc).length)=True:=eq_true (by omega);(try rw [show ((1:Int)).toNat=1 from rfl] at jg);replace jg:=bx_ HB jg;replace j2d:=eq_true j2d;replace j2e:=eq_true j2e
     have j2f:0≤(2:Int):=(by omega)
     have j2g:2 < ((rd_L1 l4 jc).length:Int):=odt_;obtain ⟨j2m,e151,jh⟩:=Kd.at_int jt.out 2 j2f j2g;have hw151_0:=jh;(try rw [show ((2:Int)).toNat=2 from rfl] at hw151_0);(try rw [show 2*1=2 from rfl] at hw151_0);(try simp only [Nat.reduceMul,Nat.reduceEqDiff,Go.Addr.add,↓reduceIte] at hw151_0)
     obtain rfl:jo=j2m:=(by injection e151)
     (try simp only [show (2:Int).toNat=2 from rfl,Nat.reduceMul,Nat.reduceEqDiff,Go.Addr.add,↓reduceIte] at jh);have qi151:(2 < (rd_L1 l4 jc).length)=True:=eq_true (by omega);(try rw [show ((2:Int)).toNat=2 from rfl] at jh);replace jh:=bx_ HB jh;replace j2f:=eq_true j2f;replace j2g:=eq_true j2g;refine start_ (n:=22) (S:=fun w'=>w'.cell? ⟨jk,0,none⟩=some (.int .i64 jp)∧w'.cell? ⟨jk,1,none⟩=some (.int .i64 jq)∧w'.cell? ⟨jk,2,none⟩=some (.int .i64 jr)∧w'.cell? ⟨jk,3,none⟩=some (.slice j1l jm.length j1m)∧w'.cell? ⟨js,0,none⟩=some (.int .i64 jv)∧w'.cell? ⟨js,1,none⟩=some (.int .i64 jw)∧w'.cell? ⟨js,2,none⟩=some (.int .i64 jx)∧w'.cell? ⟨js,3,none⟩=some (.slice j1n ju.length j1o)∧w'.cell? jo=some (.int .i64 (rd (rd_L1 l4 jc) 0))∧w'.cell? ⟨jo.block,jo.off+1,none⟩=some (.int .i64 (rd (rd_L1 l4 jc) 1))∧w'.cell? ⟨jo.block,jo.off+2,none⟩=some (.int .i64 (rd (rd_L1 l4 jc) 2))) (ds:=[]) (fr_ [0,22]) (by kernel_rfl) rfl rfl ⟨bc_ ja 0,bc_ ja 1,bc_ ja 2,bc_ ja 3,bc_ jb 0,bc_ jb 1,bc_ jb 2,bc_ jb 3,((HB.out.cell (World.block_lt_of_cell? w _ hw149_0)).trans hw149_0),((HB.out.cell (World.block_lt_of_cell? w _ hw150_0)).trans hw150_0),((HB.out.cell (World.block_lt_of_cell? w _ hw151_0)).trans hw151_0)⟩ (fun hHeld=>?_);refine with_tabW spec_BestChange.tab14 spec_BestChange.bits14 (fun HT_ HW_=>?_);generalize wr.drew=w77 at jn ja jb HB jf jg jh hHeld ⊢;refine pS_ 1 88 (fr_ [0,1,1,20]) HT_ ?_;refine pS_ 2 89 (fr_ [0,1,2,19]) HT_ ?_;refine pS_ 3 90 (fr_ [0,1,3,18]) HT_ ?_;refine pS_ 6 93 (fr_ [0,1,3,2,1,15]) HT_ ?_;refine pS_ 7 94 (fr_ [0,1,3,2,2,14]) HT_ ?_;refine pS_ 9 96 (fr_ [0,1,3,2,2,1,1,12]) HT_ ?_;refine pS_ 10 97 (fr_ [0,1,3,2,2,1,2,11]) HT_ ?_;refine pS_ 11 98 (fr_ [0,1,3,2,2,1,3,10]) HT_ ?_;refine pS_ 13 100 (fr_ [0,1,3,2,2,1,3,1,1,8]) HT_ ?_;refine tk11_ 0 87 (fr_ [4,2,2,1,3,1,1,8]) HT_ HW_ hHeld ?_;refine tk11_ 4 91 (fr_ [5,1,2,1,3,1,1,8]) HT_ HW_ hHeld ?_;refine tk11_ 5 92 (fr_ [8,1,3,1,1,8]) HT_ HW_ hHeld ?_;refine tk11_ 8 95 (fr_ [12,1,1,8]) HT_ HW_ hHeld ?_;refine tk11_ 12 99 (fr_ [14,8]) HT_ HW_ hHeld ?_;refine on_ 14 101 (fr_ [15,7]) HT_ (fun K hK=>?_);refine gs_ Try.func46 #[ag_ jp jq jr j1l jm j1m,.int .i64 a1,.int .i64 (rd (rd_L1 l4 jc) 0),ag_ jv jw jx j1n ju j1o,.int .i64 (rd (rd_L1 l4 jc) 1),.int .i64 a3,.int .i64 (rd (rd_L1 l4 jc) 2),.int .i64 a5] ?_
     with_reducible refine (spec_buChange.calls k3 jp jq jr _ _ jm a1 (rd (rd_L1 l4 jc) 0) jv jw jx _ _ ju (rd (rd_L1 l4 jc) 1) a3 (rd (rd_L1 l4 jc) 2) a5 j5i j2t true _ ?side1 ?side2 ?side3 ?side4 A67.out).mono ?_
     (case side1=>exact cb_ j1s HB)
     (case side2=>exact j1t.out)
     (case side3=>exact cb_ j1x HB)
     (case side4=>exact j1y.out)
     rintro e w78 ⟨rfl,hb⟩;refine ⟨_,rfl,?_⟩;replace jn:=rb_ jn hb;replace ja:=bb_ ja hb;replace jb:=bb_ jb hb;replace HB:=ai_ (below_step (below_to2 HB ji.out jj.out) hb);(try clear hb);(try clear hb2);(try clear hk);(try clear hi);refine hK.out _ _ ⟨bc_ ja 0,bc_ ja 1,bc_ ja 2,bc_ ja 3,bc_ jb 0,bc_ jb 1,bc_ jb 2,bc_ jb 3,((HB.out.cell (World.block_lt_of_cell? w _ hw149_0)).trans hw149_0),((HB.out.cell (World.block_lt_of_cell? w _ hw150_0)).trans hw150_0),((HB.out.cell (World.block_lt_of_cell? w _ hw151_0)).trans hw151_0)⟩ (fun hHeld=>?_);clear hK K;refine norm_ (a':=?_) ?_ ?_;rotate_left
     ·show Act.put _ (some 101) _=_
      simp only [Act.put,List.setIfInBounds_toArray,List.set_cons_zero,List.set_cons_succ,i64_w,i32_w]
      rfl
     refine pq_ 15 86 22 ?_;refine pq_ 16 102 22 ?_;refine pq_ 17 103 22 ?_;refine pq_ 18 104 22 ?_;refine pq_ 19 21 22 ?_;refine pq_ 20 22 22 ?_;refine pq_ 21 23 22 ?_;refine done_ (done_of HT_.out (by kernel_rfl)) ?_;obtain ⟨Ao79,co79,eo79⟩:=Kd.R_slice jn.out;subst eo79
     try go_wp2_with (first|((with_reducible refine gc_ 47 rfl ?_);refine gl_ (some 117) Try.func47 #[.slice (some jo) (rd_L1 l4 jc).length j2k] ?_;(with_reducible refine (spec_l1Own.calls _ _ (rd_L1 l4 jc) j5g _ (cb_ jt HB) j2h.out A76.out).mono ?_);rintro e w80 ⟨j7b,rfl,ho0,hb⟩;refine ⟨_,rfl,?_⟩;have j5x:=ai_ (Kd.R_lower (Kd.R_new' ho0 (Kd.R_lt (kd_to jn))) (below_size (below_to2 HB ji.out jj.out)));replace jn:=ai_ (Kd.R_elder' (kd_to jn) (Kd.R_base ho0) hb);replace ja:=bb_ ja hb;replace jb:=bb_ jb hb;replace HB:=ai_ (below_step (below_to2 HB ji.out jj.out) hb);clear hb;(try clear ho0)))
     go_roundg k3
     case measure=>have:=HJ6.out;have:=HK2.out;have:=HK3.out;omega
     case rel=>exact ⟨(j5g),(j2t),(wrap64 (jc+1)),rt_,rt_,H',⟨by have:=HJ6.out;have:=HK2.out;have:=HK3.out;omega⟩,⟨km_ j5x (fun _ hk=>trivial)⟩,⟨blk_to ja⟩,⟨blk_to jb⟩,⟨below_to2 HB ji.out jj.out⟩⟩
   rw [if_pos c36] at H;have j5j:=decide_eq_true c36;clear c36
   by_cases c37:0≤jd
   rotate_left
   ·rw [if_neg c37] at H
    cases H
   rw [if_pos c37] at H;have j6s:=decide_eq_true c37;clear c37
   by_cases c38:jd < (l4.length:Int)
   rotate_left
   ·rw [if_neg c38] at H
    cases H
   rw [if_pos c38] at H;have j6t:=decide_eq_true c38;clear c38
   by_cases c39:((rd_L1 l4 jd).length:Int)=3
   rotate_left
   ·rw [if_neg c39] at H
    have j5k:=beq_eq_false_iff_ne.mpr c39;have j5l:=bne_iff_ne.mpr c39;simp only [Option.some.injEq,Prod.mk.injEq] at H;obtain ⟨rfl,rfl,rfl⟩:=H;have j1q:0≤(jd:Int):=odt_;have j1r:jd < (l4.length:Int):=odt_;obtain ⟨j5c,j2q,j2r,e141,jy,hl141_0,hi141_0⟩:=at_L1 HR4.out jd j1q j1r
    cases e141
    replace jy:=bx_ HB jy;have jz:=ai_ hi141_0;have j2i:=ai_ hl141_0;clear hi141_0 hl141_0;replace j1q:=eq_true j1q;replace j1r:=eq_true j1r
    try go_wp2
    replace ja:=ai_ (blk_drew ja.out);replace jb:=ai_ (blk_drew jb.out);replace HB:=ai_ (below_drew1 HB.out);refine start_ (n:=28) (S:=fun w'=>True) (ds:=[]) (fr_ [0,28]) (by kernel_rfl) rfl rfl trivial (fun hHeld=>?_);refine with_tabW spec_BestChange.tab6 spec_BestChange.bits6 (fun HT_ HW_=>?_);generalize wr.drew=w60 at ja jb HB hHeld ⊢;refine pq_ 0 51 28 ?_;refine pq_ 1 52 28 ?_;refine pq_ 2 53 28 ?_;refine pq_ 3 54 28 ?_;refine pv_ 4 55 28 ?_;refine pv_ 5 56 28 ?_;refine pv_ 6 57 28 ?_;refine pv_ 7 58 28 ?_;refine pv_ 8 59 28 ?_;refine pv_ 9 60 28 ?_;refine pv_ 10 61 28 ?_;refine pq_ 11 62 28 ?_;refine pq_ 12 63 28 ?_;refine pv_ 13 64 28 ?_;refine pv_ 14 65 28 ?_;refine pv_ 15 66 28 ?_;refine pv_ 16 67 28 ?_;refine pv_ 17 68 28 ?_;refine pv_ 18 69 28 ?_;refine pv_ 19 70 28 ?_;refine pq_ 20 71 28 ?_;refine pq_ 21 72 28 ?_;refine pv_ 22 73 28 ?_;refine pv_ 23 74 28 ?_;refine pv_ 24 75 28 ?_;refine pv_ 25 76 28 ?_;refine pv_ 26 77 28 ?_;refine pq_ 27 78 28 ?_;refine done_ (done_of HT_.out (by kernel_rfl)) ?_
    try go_wp2
    go_ret3
    exact ⟨_,rtE_,by first|exact Kd.R_nil _ _ _ _ _|exact Kd.N_nil _ _ _ _ _|exact Kd.V_nil _ _ _ _ _|exact Kd.Q_nil _ _ _ _ _|exact Kd.S_nil _ _ _ _ _,below_to2 HB ji.out jj.out⟩
   rw [if_pos c39] at H;have j5k:=beq_iff_eq.mpr c39;have j5l:=bne_eq_false_iff_eq.mpr c39;clear c39
   by_cases c40:0 < ((rd_L1 l4 jd).length:Int)
   rotate_left
   ·rw [if_neg c40] at H
    cases H
   rw [if_pos c40] at H;have j6u:=decide_eq_true c40;have j6v:decide (0 < (rd_L1 l4 jd).length)=true:=decide_eq_true (by omega);clear c40;obtain ⟨j5m,A41,H⟩:=bs_ H;(try dsimp only at H)
   by_cases c42:j5m=true
   rotate_left
   ·replace c42:=Bool.eq_false_iff.mpr c42
    subst c42;rw [if_neg ft_] at H;simp only [Option.some.injEq,Prod.mk.injEq] at H;obtain ⟨rfl,rfl,rfl⟩:=H;have j1q:0≤(jd:Int):=odt_;have j1r:jd < (l4.length:Int):=odt_;obtain ⟨j5c,j2q,j2r,e141,jy,hl141_0,hi141_0⟩:=at_L1 HR4.out jd j1q j1r
    cases e141
    replace jy:=bx_ HB jy;have jz:=ai_ hi141_0;have j2i:=ai_ hl141_0;clear hi141_0 hl141_0;replace j1q:=eq_true j1q;replace j1r:=eq_true j1r
    try go_wp2
    replace ja:=ai_ (blk_drew ja.out);replace jb:=ai_ (blk_drew jb.out);replace HB:=ai_ (below_drew1 HB.out)
    have j1v:0≤(0:Int):=(by omega)
    have j1w:0 < ((rd_L1 l4 jd).length:Int):=odt_;obtain ⟨j1b,e142,je⟩:=Kd.at_int jz.out 0 j1v j1w;have hw142_0:=je;(try rw [show ((0:Int)).toNat=0 from rfl] at hw142_0);(try rw [show 0*1=0 from rfl] at hw142_0);(try rw [Addr.add_zero'] at hw142_0)
    cases e142
    have qi142:(0 < (rd_L1 l4 jd).length)=True:=eq_true (by omega);(try rw [show ((0:Int)).toNat=0 from rfl] at je);(try rw [Addr.add_zero'] at je);replace je:=bx_ HB je;replace j1v:=eq_true j1v;replace j1w:=eq_true j1w;refine start_ (n:=28) (S:=fun w'=>w'.cell? ⟨jk,0,none⟩=some (.int .i64 jp)∧w'.cell? ⟨jk,1,none⟩=some (.int .i64 jq)∧w'.cell? ⟨jk,2,none⟩=some (.int .i64 jr)∧w'.cell? ⟨jk,3,none⟩=some (.slice j1l jm.length j1m)∧w'.cell? j1b=some (.int .i64 (rd (rd_L1 l4 jd) 0))) (ds:=[]) (fr_ [0,28]) (by kernel_rfl) rfl rfl ⟨bc_ ja 0,bc_ ja 1,bc_ ja 2,bc_ ja 3,((HB.out.cell (World.block_lt_of_cell? w _ hw142_0)).trans hw142_0)⟩ (fun hHeld=>?_);refine with_tabW spec_BestChange.tab6 spec_BestChange.bits6 (fun HT_ HW_=>?_);generalize wr.drew=w58 at ja jb HB je hHeld ⊢;refine pq_ 0 51 28 ?_;refine pq_ 1 52 28 ?_;refine pq_ 2 53 28 ?_;refine pq_ 3 54 28 ?_;refine pS_ 5 56 (fr_ [4,1,1,22]) HT_ ?_;refine pS_ 6 57 (fr_ [4,1,2,21]) HT_ ?_;refine pS_ 7 58 (fr_ [4,1,3,20]) HT_ ?_;refine tk5_ 4 55 (fr_ [8,20]) HT_ HW_ hHeld ?_;refine tk5_ 8 59 (fr_ [9,19]) HT_ HW_ hHeld ?_;refine on_ 9 60 (fr_ [10,18]) HT_ (fun K hK=>?_);refine gs_ Try.func45 #[ag_ jp jq jr j1l jm j1m,.int .i64 a1,.int .i64 (rd (rd_L1 l4 jd) 0)] ?_
    with_reducible refine (spec_buRide.calls k2 jp jq jr _ _ jm a1 (rd (rd_L1 l4 jd) 0) false _ ?side1 ?side2 A41.out).mono ?_
    (case side1=>exact cb_ j1s HB)
    (case side2=>exact j1t.out)
    rintro e w59 ⟨rfl,hb⟩;refine ⟨_,rfl,?_⟩;replace ja:=bb_ ja hb;replace jb:=bb_ jb hb;replace HB:=ai_ (below_step (below_to2 HB ji.out jj.out) hb);(try clear hb);(try clear hb2);(try clear hk);(try clear hi);refine hK.out _ _ ⟨bc_ ja 0,bc_ ja 1,bc_ ja 2,bc_ ja 3,((HB.out.cell (World.block_lt_of_cell? w _ hw142_0)).trans hw142_0)⟩ (fun hHeld=>?_);clear hK K;refine norm_ (a':=?_) ?_ ?_;rotate_left
    ·show Act.put _ (some 60) _=_
     simp only [Act.put,List.setIfInBounds_toArray,List.set_cons_zero,List.set_cons_succ,i64_w,i32_w]
     rfl
    refine pq_ 10 61 28 ?_;refine pq_ 11 62 28 ?_;refine pq_ 12 63 28 ?_;refine pv_ 13 64 28 ?_;refine pv_ 14 65 28 ?_;refine pv_ 15 66 28 ?_;refine pv_ 16 67 28 ?_;refine pv_ 17 68 28 ?_;refine pv_ 18 69 28 ?_;refine pv_ 19 70 28 ?_;refine pq_ 20 71 28 ?_;refine pq_ 21 72 28 ?_;refine pv_ 22 73 28 ?_;refine pv_ 23 74 28 ?_;refine pv_ 24 75 28 ?_;refine pv_ 25 76 28 ?_;refine pv_ 26 77 28 ?_;refine pq_ 27 78 28 ?_;refine done_ (done_of HT_.out (by kernel_rfl)) ?_
    try go_wp2
    go_ret3
    exact ⟨_,rtE_,by first|exact Kd.R_nil _ _ _ _ _|exact Kd.N_nil _ _ _ _ _|exact Kd.V_nil _ _ _ _ _|exact Kd.Q_nil _ _ _ _ _|exact Kd.S_nil _ _ _ _ _,below_to2 HB ji.out jj.out⟩
   subst c42;rw [if_pos rfl] at H
   by_cases c43:1 < ((rd_L1 l4 jd).length:Int)
   rotate_left
   ·rw [if_neg c43] at H
    cases H
   rw [if_pos c43] at H;have j6w:=decide_eq_true c43;have j6x:decide (1 < (rd_L1 l4 jd).length)=true:=decide_eq_true (by omega);clear c43;obtain ⟨j5n,A44,H⟩:=bs_ H;(try dsimp only at H)
   by_cases c45:j5n=true
   rotate_left
   ·replace c45:=Bool.eq_false_iff.mpr c45
    subst c45;rw [if_neg ft_] at H;simp only [Option.some.injEq,Prod.mk.injEq] at H;obtain ⟨rfl,rfl,rfl⟩:=H;have j1q:0≤(jd:Int):=odt_;have j1r:jd < (l4.length:Int):=odt_;obtain ⟨j5c,j2q,j2r,e141,jy,hl141_0,hi141_0⟩:=at_L1 HR4.out jd j1q j1r
    cases e141
    replace jy:=bx_ HB jy;have jz:=ai_ hi141_0;have j2i:=ai_ hl141_0;clear hi141_0 hl141_0;replace j1q:=eq_true j1q;replace j1r:=eq_true j1r
    try go_wp2
    replace ja:=ai_ (blk_drew ja.out);replace jb:=ai_ (blk_drew jb.out);replace HB:=ai_ (below_drew1 HB.out)
    have j1v:0≤(0:Int):=(by omega)
    have j1w:0 < ((rd_L1 l4 jd).length:Int):=odt_;obtain ⟨j1b,e142,je⟩:=Kd.at_int jz.out 0 j1v j1w;have hw142_0:=je;(try rw [show ((0:Int)).toNat=0 from rfl] at hw142_0);(try rw [show 0*1=0 from rfl] at hw142_0);(try rw [Addr.add_zero'] at hw142_0)
    cases e142
    have qi142:(0 < (rd_L1 l4 jd).length)=True:=eq_true (by omega);(try rw [show ((0:Int)).toNat=0 from rfl] at je);(try rw [Addr.add_zero'] at je);replace je:=bx_ HB je;replace j1v:=eq_true j1v;replace j1w:=eq_true j1w
    have j2n:0≤(1:Int):=(by omega)
    have j2o:1 < ((rd_L1 l4 jd).length:Int):=odt_;obtain ⟨j2s,e144,jl⟩:=Kd.at_int jz.out 1 j2n j2o;have hw144_0:=jl;(try rw [show ((1:Int)).toNat=1 from rfl] at hw144_0);(try rw [show 1*1=1 from rfl] at hw144_0);(try simp only [Nat.reduceMul,Nat.reduceEqDiff,Go.Addr.add,↓reduceIte] at hw144_0)
    obtain rfl:j1b=j2s:=(by injection e144)
    (try simp only [show (1:Int).toNat=1 from rfl,Nat.reduceMul,Nat.reduceEqDiff,Go.Addr.add,↓reduceIte] at jl);have qi144:(1 < (rd_L1 l4 jd).length)=True:=eq_true (by omega);(try rw [show ((1:Int)).toNat=1 from rfl] at jl);replace jl:=bx_ HB jl;replace j2n:=eq_true j2n;replace j2o:=eq_true j2o;refine start_ (n:=28) (S:=fun w'=>w'.cell? ⟨jk,0,none⟩=some (.int .i64 jp)∧w'.cell? ⟨jk,1,none⟩=some (.int .i64 jq)∧w'.cell? ⟨jk,2,none⟩=some (.int .i64 jr)∧w'.cell? ⟨jk,3,none⟩=some (.slice j1l jm.length j1m)∧w'.cell? ⟨js,0,none⟩=some (.int .i64 jv)∧w'.cell? ⟨js,1,none⟩=some (.int .i64 jw)∧w'.cell? ⟨js,2,none⟩=some (.int .i64 jx)∧w'.cell? ⟨js,3,none⟩=some (.slice j1n ju.length j1o)∧w'.cell? j1b=some (.int .i64 (rd (rd_L1 l4 jd) 0))∧w'.cell? ⟨j1b.block,j1b.off+1,none⟩=some (.int .i64 (rd (rd_L1 l4 jd) 1))) (ds:=[]) (fr_ [0,28]) (by kernel_rfl) rfl rfl ⟨bc_ ja 0,bc_ ja 1,bc_ ja 2,bc_ ja 3,bc_ jb 0,bc_ jb 1,bc_ jb 2,bc_ jb 3,((HB.out.cell (World.block_lt_of_cell? w _ hw142_0)).trans hw142_0),((HB.out.cell (World.block_lt_of_cell? w _ hw144_0)).trans hw144_0)⟩ (fun hHeld=>?_);refine with_tabW spec_BestChange.tab6 spec_BestChange.bits6 (fun HT_ HW_=>?_);generalize wr.drew=w55 at ja jb HB je jl hHeld ⊢;refine pq_ 0 51 28 ?_;refine pq_ 1 52 28 ?_;refine pq_ 2 53 28 ?_;refine pq_ 3 54 28 ?_;refine pS_ 5 56 (fr_ [4,1,1,22]) HT_ ?_;refine pS_ 6 57 (fr_ [4,1,2,21]) HT_ ?_;refine pS_ 7 58 (fr_ [4,1,3,20]) HT_ ?_;refine tk10_ 4 55 (fr_ [8,20]) HT_ HW_ hHeld ?_;refine tk10_ 8 59 (fr_ [9,19]) HT_ HW_ hHeld ?_;refine on_ 9 60 (fr_ [10,18]) HT_ (fun K hK=>?_);refine gs_ Try.func45 #[ag_ jp jq jr j1l jm j1m,.int .i64 a1,.int .i64 (rd (rd_L1 l4 jd) 0)] ?_
    with_reducible refine (spec_buRide.calls k2 jp jq jr _ _ jm a1 (rd (rd_L1 l4 jd) 0) true _ ?side1 ?side2 A41.out).mono ?_
    (case side1=>exact cb_ j1s HB)
    (case side2=>exact j1t.out)
    rintro e w56 ⟨rfl,hb⟩;refine ⟨_,rfl,?_⟩;replace ja:=bb_ ja hb;replace jb:=bb_ jb hb;replace HB:=ai_ (below_step (below_to2 HB ji.out jj.out) hb);(try clear hb);(try clear hb2);(try clear hk);(try clear hi);refine hK.out _ _ ⟨bc_ ja 0,bc_ ja 1,bc_ ja 2,bc_ ja 3,bc_ jb 0,bc_ jb 1,bc_ jb 2,bc_ jb 3,((HB.out.cell (World.block_lt_of_cell? w _ hw142_0)).trans hw142_0),((HB.out.cell (World.block_lt_of_cell? w _ hw144_0)).trans hw144_0)⟩ (fun hHeld=>?_);clear hK K;refine norm_ (a':=?_) ?_ ?_;rotate_left
    ·show Act.put _ (some 60) _=_
     simp only [Act.put,List.setIfInBounds_toArray,List.set_cons_zero,List.set_cons_succ,i64_w,i32_w]
     rfl
    refine pq_ 10 61 28 ?_;refine pq_ 11 62 28 ?_;refine pq_ 12 63 28 ?_;refine pS_ 14 65 (fr_ [13,1,1,13]) HT_ ?_;refine pS_ 15 66 (fr_ [13,1,2,12]) HT_ ?_;refine pS_ 17 68 (fr_ [13,1,2,1,1,10]) HT_ ?_;refine tk10_ 13 64 (fr_ [16,1,1,10]) HT_ HW_ hHeld ?_;refine tk10_ 16 67 (fr_ [18,10]) HT_ HW_ hHeld ?_;refine on_ 18 69 (fr_ [19,9]) HT_ (fun K hK=>?_);refine gs_ Try.func45 #[ag_ jv jw jx j1n ju j1o,.int .i64 (rd (rd_L1 l4 jd) 1),.int .i64 a3] ?_
    with_reducible refine (spec_buRide.calls k2 jv jw jx _ _ ju (rd (rd_L1 l4 jd) 1) a3 false _ ?side1 ?side2 A44.out).mono ?_
    (case side1=>exact cb_ j1x HB)
    (case side2=>exact j1y.out)
    rintro e w57 ⟨rfl,hb⟩;refine ⟨_,rfl,?_⟩;replace ja:=bb_ ja hb;replace jb:=bb_ jb hb;replace HB:=ai_ (below_step (below_to2 HB ji.out jj.out) hb);(try clear hb);(try clear hb2);(try clear hk);(try clear hi);refine hK.out _ _ ⟨bc_ ja 0,bc_ ja 1,bc_ ja 2,bc_ ja 3,bc_ jb 0,bc_ jb 1,bc_ jb 2,bc_ jb 3,((HB.out.cell (World.block_lt_of_cell? w _ hw142_0)).trans hw142_0),((HB.out.cell (World.block_lt_of_cell? w _ hw144_0)).trans hw144_0)⟩ (fun hHeld=>?_);clear hK K;refine norm_ (a':=?_) ?_ ?_;rotate_left
    ·show Act.put _ (some 69) _=_
     simp only [Act.put,List.setIfInBounds_toArray,List.set_cons_zero,List.set_cons_succ,i64_w,i32_w]
     rfl
    refine pq_ 19 70 28 ?_;refine pq_ 20 71 28 ?_;refine pq_ 21 72 28 ?_;refine pv_ 22 73 28 ?_;refine pv_ 23 74 28 ?_;refine pv_ 24 75 28 ?_;refine pv_ 25 76 28 ?_;refine pv_ 26 77 28 ?_;refine pq_ 27 78 28 ?_;refine done_ (done_of HT_.out (by kernel_rfl)) ?_
    try go_wp2
    go_ret3
    exact ⟨_,rtE_,by first|exact Kd.R_nil _ _ _ _ _|exact Kd.N_nil _ _ _ _ _|exact Kd.V_nil _ _ _ _ _|exact Kd.Q_nil _ _ _ _ _|exact Kd.S_nil _ _ _ _ _,below_to2 HB ji.out jj.out⟩
   subst c45;rw [if_pos rfl] at H
   by_cases c46:2 < ((rd_L1 l4 jd).length:Int)
   rotate_left
   ·rw [if_neg c46] at H
    cases H
   rw [if_pos c46] at H;have j6y:=decide_eq_true c46;have j6z:decide (2 < (rd_L1 l4 jd).length)=true:=decide_eq_true (by omega);clear c46;obtain ⟨j5o,A47,H⟩:=bs_ H;(try dsimp only at H)
   by_cases c48:j5o=true
   rotate_left
   ·replace c48:=Bool.eq_false_iff.mpr c48
    subst c48;rw [if_neg ft_] at H;simp only [Option.some.injEq,Prod.mk.injEq] at H;obtain ⟨rfl,rfl,rfl⟩:=H;have j1q:0≤(jd:Int):=odt_;have j1r:jd < (l4.length:Int):=odt_;obtain ⟨j5c,j2q,j2r,e141,jy,hl141_0,hi141_0⟩:=at_L1 HR4.out jd j1q j1r
    cases e141
    replace jy:=bx_ HB jy;have jz:=ai_ hi141_0;have j2i:=ai_ hl141_0;clear hi141_0 hl141_0;replace j1q:=eq_true j1q;replace j1r:=eq_true j1r
    try go_wp2
    replace ja:=ai_ (blk_drew ja.out);replace jb:=ai_ (blk_drew jb.out);replace HB:=ai_ (below_drew1 HB.out)
    have j1v:0≤(0:Int):=(by omega)
    have j1w:0 < ((rd_L1 l4 jd).length:Int):=odt_;obtain ⟨j1b,e142,je⟩:=Kd.at_int jz.out 0 j1v j1w;have hw142_0:=je;(try rw [show ((0:Int)).toNat=0 from rfl] at hw142_0);(try rw [show 0*1=0 from rfl] at hw142_0);(try rw [Addr.add_zero'] at hw142_0)
    cases e142
    have qi142:(0 < (rd_L1 l4 jd).length)=True:=eq_true (by omega);(try rw [show ((0:Int)).toNat=0 from rfl] at je);(try rw [Addr.add_zero'] at je);replace je:=bx_ HB je;replace j1v:=eq_true j1v;replace j1w:=eq_true j1w
    have j2n:0≤(1:Int):=(by omega)
    have j2o:1 < ((rd_L1 l4 jd).length:Int):=odt_;obtain ⟨j2s,e144,jl⟩:=Kd.at_int jz.out 1 j2n j2o;have hw144_0:=jl;(try rw [show ((1:Int)).toNat=1 from rfl] at hw144_0);(try rw [show 1*1=1 from rfl] at hw144_0);(try simp only [Nat.reduceMul,Nat.reduceEqDiff,Go.Addr.add,↓reduceIte] at hw144_0)
    obtain rfl:j1b=j2s:=(by injection e144)
    (try simp only [show (1:Int).toNat=1 from rfl,Nat.reduceMul,Nat.reduceEqDiff,Go.Addr.add,↓reduceIte] at jl);have qi144:(1 < (rd_L1 l4 jd).length)=True:=eq_true (by omega);(try rw [show ((1:Int)).toNat=1 from rfl] at jl);replace jl:=bx_ HB jl;replace j2n:=eq_true j2n;replace j2o:=eq_true j2o
    have j2v:0≤(2:Int):=(by omega)
    have j2w:2 < ((rd_L1 l4 jd).length:Int):=odt_;obtain ⟨j5e,e146,j1a⟩:=Kd.at_int jz.out 2 j2v j2w;have hw146_0:=j1a;(try rw [show ((2:Int)).toNat=2 from rfl] at hw146_0);(try rw [show 2*1=2 from rfl] at hw146_0);(try simp only [Nat.reduceMul,Nat.reduceEqDiff,Go.Addr.add,↓reduceIte] at hw146_0)
    obtain rfl:j1b=j5e:=(by injection e146)
    (try simp only [show (2:Int).toNat=2 from rfl,Nat.reduceMul,Nat.reduceEqDiff,Go.Addr.add,↓reduceIte] at j1a);have qi146:(2 < (rd_L1 l4 jd).length)=True:=eq_true (by omega);(try rw [show ((2:Int)).toNat=2 from rfl] at j1a);replace j1a:=bx_ HB j1a;replace j2v:=eq_true j2v;replace j2w:=eq_true j2w;refine start_ (n:=28) (S:=fun w'=>w'.cell? ⟨jk,0,none⟩=some (.int .i64 jp)∧w'.cell? ⟨jk,1,none⟩=some (.int .i64 jq)∧w'.cell? ⟨jk,2,none⟩=some (.int .i64 jr)∧w'.cell? ⟨jk,3,none⟩=some (.slice j1l jm.length j1m)∧w'.cell? ⟨js,0,none⟩=some (.int .i64 jv)∧w'.cell? ⟨js,1,none⟩=some (.int .i64 jw)∧w'.cell? ⟨js,2,none⟩=some (.int .i64 jx)∧w'.cell? ⟨js,3,none⟩=some (.slice j1n ju.length j1o)∧w'.cell? j1b=some (.int .i64 (rd (rd_L1 l4 jd) 0))∧w'.cell? ⟨j1b.block,j1b.off+1,none⟩=some (.int .i64 (rd (rd_L1 l4 jd) 1))∧w'.cell? ⟨j1b.block,j1b.off+2,none⟩=some (.int .i64 (rd (rd_L1 l4 jd) 2))) (ds:=[]) (fr_ [0,28]) (by kernel_rfl) rfl rfl ⟨bc_ ja 0,bc_ ja 1,bc_ ja 2,bc_ ja 3,bc_ jb 0,bc_ jb 1,bc_ jb 2,bc_ jb 3,((HB.out.cell (World.block_lt_of_cell? w _ hw142_0)).trans hw142_0),((HB.out.cell (World.block_lt_of_cell? w _ hw144_0)).trans hw144_0),((HB.out.cell (World.block_lt_of_cell? w _ hw146_0)).trans hw146_0)⟩ (fun hHeld=>?_);refine with_tabW spec_BestChange.tab6 spec_BestChange.bits6 (fun HT_ HW_=>?_);generalize wr.drew=w52 at ja jb HB je jl j1a hHeld ⊢;refine pq_ 0 51 28 ?_;refine pq_ 1 52 28 ?_;refine pq_ 2 53 28 ?_;refine pq_ 3 54 28 ?_;refine pS_ 5 56 (fr_ [4,1,1,22]) HT_ ?_;refine pS_ 6 57 (fr_ [4,1,2,21]) HT_ ?_;refine pS_ 7 58 (fr_ [4,1,3,20]) HT_ ?_;refine tk11_ 4 55 (fr_ [8,20]) HT_ HW_ hHeld ?_;refine tk11_ 8 59 (fr_ [9,19]) HT_ HW_ hHeld ?_;refine on_ 9 60 (fr_ [10,18]) HT_ (fun K hK=>?_);refine gs_ Try.func45 #[ag_ jp jq jr j1l jm j1m,.int .i64 a1,.int .i64 (rd (rd_L1 l4 jd) 0)] ?_
    with_reducible refine (spec_buRide.calls k2 jp jq jr _ _ jm a1 (rd (rd_L1 l4 jd) 0) true _ ?side1 ?side2 A41.out).mono ?_
    (case side1=>exact cb_ j1s HB)
    (case side2=>exact j1t.out)
    rintro e w53 ⟨rfl,hb⟩;refine ⟨_,rfl,?_⟩;replace ja:=bb_ ja hb;replace jb:=bb_ jb hb;replace HB:=ai_ (below_step (below_to2 HB ji.out jj.out) hb);(try clear hb);(try clear hb2);(try clear hk);(try clear hi);refine hK.out _ _ ⟨bc_ ja 0,bc_ ja 1,bc_ ja 2,bc_ ja 3,bc_ jb 0,bc_ jb 1,bc_ jb 2,bc_ jb 3,((HB.out.cell (World.block_lt_of_cell? w _ hw142_0)).trans hw142_0),((HB.out.cell (World.block_lt_of_cell? w _ hw144_0)).trans hw144_0),((HB.out.cell (World.block_lt_of_cell? w _ hw146_0)).trans hw146_0)⟩ (fun hHeld=>?_);clear hK K;refine norm_ (a':=?_) ?_ ?_;rotate_left
    ·show Act.put _ (some 60) _=_
     simp only [Act.put,List.setIfInBounds_toArray,List.set_cons_zero,List.set_cons_succ,i64_w,i32_w]
     rfl
    refine pq_ 10 61 28 ?_;refine pq_ 11 62 28 ?_;refine pq_ 12 63 28 ?_;refine pS_ 14 65 (fr_ [13,1,1,13]) HT_ ?_;refine pS_ 15 66 (fr_ [13,1,2,12]) HT_ ?_;refine pS_ 17 68 (fr_ [13,1,2,1,1,10]) HT_ ?_;refine tk11_ 13 64 (fr_ [16,1,1,10]) HT_ HW_ hHeld ?_;refine tk11_ 16 67 (fr_ [18,10]) HT_ HW_ hHeld ?_;refine on_ 18 69 (fr_ [19,9]) HT_ (fun K hK=>?_);refine gs_ Try.func45 #[ag_ jv jw jx j1n ju j1o,.int .i64 (rd (rd_L1 l4 jd) 1),.int .i64 a3] ?_
    with_reducible refine (spec_buRide.calls k2 jv jw jx _ _ ju (rd (rd_L1 l4 jd) 1) a3 true _ ?side1 ?side2 A44.out).mono ?_
    (case side1=>exact cb_ j1x HB)
    (case side2=>exact j1y.out)
    rintro e w54 ⟨rfl,hb⟩;refine ⟨_,rfl,?_⟩;replace ja:=bb_ ja hb;replace jb:=bb_ jb hb;replace HB:=ai_ (below_step (below_to2 HB ji.out jj.out) hb);(try clear hb);(try clear hb2);(try clear hk);(try clear hi);refine hK.out _ _ ⟨bc_ ja 0,bc_ ja 1,bc_ ja 2,bc_ ja 3,bc_ jb 0,bc_ jb 1,bc_ jb 2,bc_ jb 3,((HB.out.cell (World.block_lt_of_cell? w _ hw142_0)).trans hw142_0),((HB.out.cell (World.block_lt_of_cell? w _ hw144_0)).trans hw144_0),((HB.out.cell (World.block_lt_of_cell? w _ hw146_0)).trans hw146_0)⟩ (fun hHeld=>?_);clear hK K;refine norm_ (a':=?_) ?_ ?_;rotate_left
    ·show Act.put _ (some 69) _=_
     simp only [Act.put,List.setIfInBounds_toArray,List.set_cons_zero,List.set_cons_succ,i64_w,i32_w]
     rfl
    refine pq_ 19 70 28 ?_;refine pq_ 20 71 28 ?_;refine pq_ 21 72 28 ?_;refine pq_ 22 73 28 ?_;refine pq_ 23 74 28 ?_;refine tk11_ 24 75 (fr_ [25,3]) HT_ HW_ hHeld ?_;refine on_ 25 76 (fr_ [26,2]) HT_ (fun K hK=>?_);refine gs_ Try.func43 #[.int .i64 (rd (rd_L1 l4 jd) 2),.int .i64 0,.int .i64 100] ?_
    with_reducible refine (spec_l1In.calls (rd (rd_L1 l4 jd) 2) 0 100 false _ A47.out).mono ?_
    rintro e w' ⟨rfl,⟨nd,rfl⟩⟩;refine ⟨_,rfl,?_⟩;refine hK.out _ _ ⟨bc_ ja 0,bc_ ja 1,bc_ ja 2,bc_ ja 3,bc_ jb 0,bc_ jb 1,bc_ jb 2,bc_ jb 3,((HB.out.cell (World.block_lt_of_cell? w _ hw142_0)).trans hw142_0),((HB.out.cell (World.block_lt_of_cell? w _ hw144_0)).trans hw144_0),((HB.out.cell (World.block_lt_of_cell? w _ hw146_0)).trans hw146_0)⟩ (fun hHeld=>?_);clear hK K;refine norm_ (a':=?_) ?_ ?_;rotate_left
    ·show Act.put _ (some 76) _=_
     simp only [Act.put,List.setIfInBounds_toArray,List.set_cons_zero,List.set_cons_succ,i64_w,i32_w]
     rfl
    refine pq_ 26 77 28 ?_;refine pq_ 27 78 28 ?_;refine done_ (done_of HT_.out (by kernel_rfl)) ?_
    try go_wp2
    go_ret3
    exact ⟨_,rtE_,by first|exact Kd.R_nil _ _ _ _ _|exact Kd.N_nil _ _ _ _ _|exact Kd.V_nil _ _ _ _ _|exact Kd.Q_nil _ _ _ _ _|exact Kd.S_nil _ _ _ _ _,below_to2 HB ji.out jj.out⟩
   subst c48;rw [if_pos rfl] at H;have H':=ai_ H;clear H;have j1q:0≤(jd:Int):=odt_;have j1r:jd < (l4.length:Int):=odt_;obtain ⟨j5c,j2q,j2r,e141,jy,hl141_0,hi141_0⟩:=at_L1 HR4.out jd j1q j1r
   cases e141
   replace jy:=bx_ HB jy;have jz:=ai_ hi141_0;have j2i:=ai_ hl141_0;clear hi141_0 hl141_0;replace j1q:=eq_true j1q;replace j1r:=eq_true j1r
   try go_wp2
   replace ja:=ai_ (blk_drew ja.out);replace jb:=ai_ (blk_drew jb.out);replace HB:=ai_ (below_drew1 HB.out)
   have j1v:0≤(0:Int):=(by omega)
   have j1w:0 < ((rd_L1 l4 jd).length:Int):=odt_;obtain ⟨j1b,e142,je⟩:=Kd.at_int jz.out 0 j1v j1w;have hw142_0:=je;(try rw [show ((0:Int)).toNat=0 from rfl] at hw142_0);(try rw [show 0*1=0 from rfl] at hw142_0);(try rw [Addr.add_zero'] at hw142_0)
   cases e142
   have qi142:(0 < (rd_L1 l4 jd).length)=True:=eq_true (by omega);(try rw [show ((0:Int)).toNat=0 from rfl] at je);(try rw [Addr.add_zero'] at je);replace je:=bx_ HB je;replace j1v:=eq_true j1v;replace j1w:=eq_true j1w
   have j2n:0≤(1:Int):=(by omega)
   have j2o:1 < ((rd_L1 l4 jd).length:Int):=odt_;obtain ⟨j2s,e144,jl⟩:=Kd.at_int jz.out 1 j2n j2o;have hw144_0:=jl;(try rw [show ((1:Int)).toNat=1 from rfl] at hw144_0);(try rw [show 1*1=1 from rfl] at hw144_0);(try simp only [Nat.reduceMul,Nat.reduceEqDiff,Go.Addr.add,↓reduceIte] at hw144_0)
   obtain rfl:j1b=j2s:=(by injection e144)
   (try simp only [show (1:Int).toNat=1 from rfl,Nat.reduceMul,Nat.reduceEqDiff,Go.Addr.add,↓reduceIte] at jl);have qi144:(1 < (rd_L1 l4 jd).length)=True:=eq_true (by omega);(try rw [show ((1:Int)).toNat=1 from rfl] at jl);replace jl:=bx_ HB jl;replace j2n:=eq_true j2n;replace j2o:=eq_true j2o
   have j2v:0≤(2:Int):=(by omega)
   have j2w:2 < ((rd_L1 l4 jd).length:Int):=odt_;obtain ⟨j5e,e146,j1a⟩:=Kd.at_int jz.out 2 j2v j2w;have hw146_0:=j1a;(try rw [show ((2:Int)).toNat=2 from rfl] at hw146_0);(try rw [show 2*1=2 from rfl] at hw146_0);(try simp only [Nat.reduceMul,Nat.reduceEqDiff,Go.Addr.add,↓reduceIte] at hw146_0)
   obtain rfl:j1b=j5e:=(by injection e146)
   (try simp only [show (2:Int).toNat=2 from rfl,Nat.reduceMul,Nat.reduceEqDiff,Go.Addr.add,↓reduceIte] at j1a);have qi146:(2 < (rd_L1 l4 jd).length)=True:=eq_true (by omega);(try rw [show ((2:Int)).toNat=2 from rfl] at j1a);replace j1a:=bx_ HB j1a;replace j2v:=eq_true j2v;replace j2w:=eq_true j2w;refine start_ (n:=28) (S:=fun w'=>w'.cell? ⟨jk,0,none⟩=some (.int .i64 jp)∧w'.cell? ⟨jk,1,none⟩=some (.int .i64 jq)∧w'.cell? ⟨jk,2,none⟩=some (.int .i64 jr)∧w'.cell? ⟨jk,3,none⟩=some (.slice j1l jm.length j1m)∧w'.cell? ⟨js,0,none⟩=some (.int .i64 jv)∧w'.cell? ⟨js,1,none⟩=some (.int .i64 jw)∧w'.cell? ⟨js,2,none⟩=some (.int .i64 jx)∧w'.cell? ⟨js,3,none⟩=some (.slice j1n ju.length j1o)∧w'.cell? j1b=some (.int .i64 (rd (rd_L1 l4 jd) 0))∧w'.cell? ⟨j1b.block,j1b.off+1,none⟩=some (.int .i64 (rd (rd_L1 l4 jd) 1))∧w'.cell? ⟨j1b.block,j1b.off+2,none⟩=some (.int .i64 (rd (rd_L1 l4 jd) 2))) (ds:=[]) (fr_ [0,28]) (by kernel_rfl) rfl rfl ⟨bc_ ja 0,bc_ ja 1,bc_ ja 2,bc_ ja 3,bc_ jb 0,bc_ jb 1,bc_ jb 2,bc_ jb 3,((HB.out.cell (World.block_lt_of_cell? w _ hw142_0)).trans hw142_0),((HB.out.cell (World.block_lt_of_cell? w _ hw144_0)).trans hw144_0),((HB.out.cell (World.block_lt_of_cell? w _ hw146_0)).trans hw146_0)⟩ (fun hHeld=>?_);refine with_tabW spec_BestChange.tab6 spec_BestChange.bits6 (fun HT_ HW_=>?_);generalize wr.drew=w49 at ja jb HB je jl j1a hHeld ⊢;refine pq_ 0 51 28 ?_;refine pq_ 1 52 28 ?_;refine pq_ 2 53 28 ?_;refine pq_ 3 54 28 ?_;refine pS_ 5 56 (fr_ [4,1,1,22]) HT_ ?_;refine pS_ 6 57 (fr_ [4,1,2,21]) HT_ ?_;refine pS_ 7 58 (fr_ [4,1,3,20]) HT_ ?_;refine tk11_ 4 55 (fr_ [8,20]) HT_ HW_ hHeld ?_;refine tk11_ 8 59 (fr_ [9,19]) HT_ HW_ hHeld ?_;refine on_ 9 60 (fr_ [10,18]) HT_ (fun K hK=>?_);refine gs_ Try.func45 #[ag_ jp jq jr j1l jm j1m,.int .i64 a1,.int .i64 (rd (rd_L1 l4 jd) 0)] ?_
   with_reducible refine (spec_buRide.calls k2 jp jq jr _ _ jm a1 (rd (rd_L1 l4 jd) 0) true _ ?side1 ?side2 A41.out).mono ?_
   (case side1=>exact cb_ j1s HB)
   (case side2=>exact j1t.out)
   rintro e w50 ⟨rfl,hb⟩;refine ⟨_,rfl,?_⟩;replace ja:=bb_ ja hb;replace jb:=bb_ jb hb;replace HB:=ai_ (below_step (below_to2 HB ji.out jj.out) hb);(try clear hb);(try clear hb2);(try clear hk);(try clear hi);refine hK.out _ _ ⟨bc_ ja 0,bc_ ja 1,bc_ ja 2,bc_ ja 3,bc_ jb 0,bc_ jb 1,bc_ jb 2,bc_ jb 3,((HB.out.cell (World.block_lt_of_cell? w _ hw142_0)).trans hw142_0),((HB.out.cell (World.block_lt_of_cell? w _ hw144_0)).trans hw144_0),((HB.out.cell (World.block_lt_of_cell? w _ hw146_0)).trans hw146_0)⟩ (fun hHeld=>?_);clear hK K;refine norm_ (a':=?_) ?_ ?_;rotate_left
   ·show Act.put _ (some 60) _=_
    simp only [Act.put,List.setIfInBounds_toArray,List.set_cons_zero,List.set_cons_succ,i64_w,i32_w]
    rfl
   refine pq_ 10 61 28 ?_;refine pq_ 11 62 28 ?_;refine pq_ 12 63 28 ?_;refine pS_ 14 65 (fr_ [13,1,1,13]) HT_ ?_;refine pS_ 15 66 (fr_ [13,1,2,12]) HT_ ?_;refine pS_ 17 68 (fr_ [13,1,2,1,1,10]) HT_ ?_;refine tk11_ 13 64 (fr_ [16,1,1,10]) HT_ HW_ hHeld ?_;refine tk11_ 16 67 (fr_ [18,10]) HT_ HW_ hHeld ?_;refine on_ 18 69 (fr_ [19,9]) HT_ (fun K hK=>?_);refine gs_ Try.func45 #[ag_ jv jw jx j1n ju j1o,.int .i64 (rd (rd_L1 l4 jd) 1),.int .i64 a3] ?_
   with_reducible refine (spec_buRide.calls k2 jv jw jx _ _ ju (rd (rd_L1 l4 jd) 1) a3 true _ ?side1 ?side2 A44.out).mono ?_
   (case side1=>exact cb_ j1x HB)
   (case side2=>exact j1y.out)
   rintro e w51 ⟨rfl,hb⟩;refine ⟨_,rfl,?_⟩;replace ja:=bb_ ja hb;replace jb:=bb_ jb hb;replace HB:=ai_ (below_step (below_to2 HB ji.out jj.out) hb);(try clear hb);(try clear hb2);(try clear hk);(try clear hi);refine hK.out _ _ ⟨bc_ ja 0,bc_ ja 1,bc_ ja 2,bc_ ja 3,bc_ jb 0,bc_ jb 1,bc_ jb 2,bc_ jb 3,((HB.out.cell (World.block_lt_of_cell? w _ hw142_0)).trans hw142_0),((HB.out.cell (World.block_lt_of_cell? w _ hw144_0)).trans hw144_0),((HB.out.cell (World.block_lt_of_cell? w _ hw146_0)).trans hw146_0)⟩ (fun hHeld=>?_);clear hK K;refine norm_ (a':=?_) ?_ ?_;rotate_left
   ·show Act.put _ (some 69) _=_
    simp only [Act.put,List.setIfInBounds_toArray,List.set_cons_zero,List.set_cons_succ,i64_w,i32_w]
    rfl
   refine pq_ 19 70 28 ?_;refine pq_ 20 71 28 ?_;refine pq_ 21 72 28 ?_;refine pq_ 22 73 28 ?_;refine pq_ 23 74 28 ?_;refine tk11_ 24 75 (fr_ [25,3]) HT_ HW_ hHeld ?_;refine on_ 25 76 (fr_ [26,2]) HT_ (fun K hK=>?_);refine gs_ Try.func43 #[.int .i64 (rd (rd_L1 l4 jd) 2),.int .i64 0,.int .i64 100] ?_
   with_reducible refine (spec_l1In.calls (rd (rd_L1 l4 jd) 2) 0 100 true _ A47.out).mono ?_
   rintro e w' ⟨rfl,⟨nd,rfl⟩⟩;refine ⟨_,rfl,?_⟩;refine hK.out _ _ ⟨bc_ ja 0,bc_ ja 1,bc_ ja 2,bc_ ja 3,bc_ jb 0,bc_ jb 1,bc_ jb 2,bc_ jb 3,((HB.out.cell (World.block_lt_of_cell? w _ hw142_0)).trans hw142_0),((HB.out.cell (World.block_lt_of_cell? w _ hw144_0)).trans hw144_0),((HB.out.cell (World.block_lt_of_cell? w _ hw146_0)).trans hw146_0)⟩ (fun hHeld=>?_);clear hK K;refine norm_ (a':=?_) ?_ ?_;rotate_left
   ·show Act.put _ (some 76) _=_
    simp only [Act.put,List.setIfInBounds_toArray,List.set_cons_zero,List.set_cons_succ,i64_w,i32_w]
    rfl
   refine pq_ 26 77 28 ?_;refine pq_ 27 78 28 ?_;refine done_ (done_of HT_.out (by kernel_rfl)) ?_
   try go_wp2
   go_roundg k2
   case measure=>have:=HJ6.out;have:=HK2.out;omega
   case rel=>exact ⟨(wrap64 (jd+1)),rt_,H',⟨by have:=HJ6.out;have:=HK2.out;omega⟩,⟨blk_to ja⟩,⟨blk_to jb⟩,⟨below_to2 HB ji.out jj.out⟩⟩
end Go.Proofs.Ythdnodmidbcgpaa.QE
