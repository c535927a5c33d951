import Derived.Test.YthdnodmidbcgpaaQEx12
import Derived.Test.YthdnodmidbcgpaaQEx9
namespace Go.Proofs.Ythdnodmidbcgpaa.QE
open Go.Proofs.Ythdnodmidbcgpaa.X Go.RowKit Go.Proofs.YthdnodmidbcgpaaW.PrintWords Go.Proofs.YthdnodmidbcgpaaW.PrintLast Go.Proofs.YthdnodmidbcgpaaW.PrintMore
set_option maxHeartbeats 8000000
set_option maxRecDepth 100000
attribute [local go_sem] max2_int min2_int max_two min_two max_three min_three max_four min_four
set_option linter.unusedVariables false
set_option linter.unusedSimpArgs false
def spec_TimesOfLines.f (k:Nat) (l0:List (S30)) (l1:List Int):Option (List Int × Bool):=(spec_buTimes.f k l0 l1).bind fun bt645=>(some (bt645.1,bt645.2))
theorem spec_TimesOfLines.calls (k:Nat) (A0:Option Addr) (c0:Nat) (l0:List (S30)) (A1:Option Addr) (c1:Nat) (l1:List Int) (r1:List Int) (r2:Bool) (w:World) (hr0:Kd.C k30 w A0 l0.length l0) (hc0:l0.length≤c0) (hr1:Kd.C Ki_ w A1 l1.length l1) (hc1:l1.length≤c1) (h:spec_TimesOfLines.f k l0 l1=some (r1,r2)) :
  Calls Try.prog 29 #[.slice A0 l0.length c0,.slice A1 l1.length c1] w fun e w' => ∃ Ab:Value,e=.returned (.tuple #[Ab,.bool r2])∧Kd.R Ki_ 3 w' w.heap.size (fun _=>True) Ab r1∧Below w.heap.size w w':=by
 have HR0:=ai_ hr0;have HC0:=ai_ hc0;clear hr0 hc0;have HR1:=ai_ hr1;have HC1:=ai_ hc1;clear hr1 hc1;have HB:=ai_ (Below.refl w.heap.size w);have H:=h
 unfold spec_TimesOfLines.f at H
 clear h;obtain ⟨⟨jb6,jb7⟩,A3,H⟩:=bs_ H;(try dsimp only at H);simp only [Option.some.injEq,Prod.mk.injEq] at H;obtain ⟨rfl,rfl⟩:=H;go_enter Try.func29,Try.ntmps29
 go_wp2_with (first|((with_reducible refine gc_ 67 rfl ?_);refine gl_ (some 8) Try.func67 #[.slice A0 l0.length c0,.slice A1 l1.length c1] ?_;(with_reducible refine (spec_buTimes.calls k _ _ l0 _ _ l1 jb6 jb7 _ ?side1 HC0.out ?side3 HC1.out A3.out).mono ?_);(case side1=>exact c_to HR0);(case side3=>exact c_to HR1);rintro e w4 ⟨jcg,rfl,ho0,hb⟩;refine ⟨_,rfl,?_⟩;have j8w:=ai_ (Kd.R_lower ho0 (below_size (below_to HB)));replace HB:=ai_ (below_step (below_to HB) hb);clear hb;(try clear ho0)))
 go_ret2
 exact ⟨_,rtE_,kd_to j8w,below_to HB⟩
def impl_LongestGap.l0:Nat→List Int→Int→Int→Int→Option (Int × Int × Bool)
 | 0,_,_,_,_=>none
 | k+1,x7,x8,x9,x10=>if x10 < (x7.length:Int) then (if 0≤x10 then (if 0≤(wrap64 (x10 - 1)) then (if (wrap64 (x10 - 1)) < (x7.length:Int) then (if (wrap64 ((rd x7 x10) - (rd x7 (wrap64 (x10 - 1))))) > x8 then (impl_LongestGap.l0 k x7 (wrap64 ((rd x7 x10) - (rd x7 (wrap64 (x10 - 1))))) (rd x7 (wrap64 (x10 - 1))) (wrap64 (x10+1))) else (impl_LongestGap.l0 k x7 x8 x9 (wrap64 (x10+1)))) else (none)) else (none)) else (none)) else (some (x8,x9,decide ((x7.length:Int) > 1)))
def impl_LongestGap.f (k:Nat) (l0:List (S30)) (l1:List Int):Option (Int × Int × Bool):=(impl_areLines.f k l0 l1).bind fun j8c=>(if j8c=true then ((impl_timesOfLines.f k l0 l1).bind fun j1b=>(impl_LongestGap.l0 k j1b 0 0 1)) else (some (0,0,false)))
theorem impl_LongestGap.calls (k:Nat) (A0:Option Addr) (c0:Nat) (l0:List (S30)) (A1:Option Addr) (c1:Nat) (l1:List Int) (r1:Int) (r2:Int) (r3:Bool) (w:World) (hr0:Kd.C k30 w A0 l0.length l0) (hc0:l0.length≤c0) (hr1:Kd.C Ki_ w A1 l1.length l1) (hc1:l1.length≤c1) (h:impl_LongestGap.f k l0 l1=some (r1,r2,r3)) :
  Calls Try.prog 30 #[.slice A0 l0.length c0,.slice A1 l1.length c1] w fun e w'=>e=.returned (.tuple #[.int .i64 r1,.int .i64 r2,.bool r3])∧Below w.heap.size w w':=by
 have HR0:=ai_ hr0;have HC0:=ai_ hc0;clear hr0 hc0;have HR1:=ai_ hr1;have HC1:=ai_ hc1;clear hr1 hc1;have HB:=ai_ (Below.refl w.heap.size w);have H:=h
 unfold impl_LongestGap.f at H
 clear h;obtain ⟨j8c,A3,H⟩:=bs_ H;(try dsimp only at H)
 by_cases c4:j8c=true
 rotate_left
 ·replace c4:=Bool.eq_false_iff.mpr c4
  subst c4;rw [if_neg ft_] at H;simp only [Option.some.injEq,Prod.mk.injEq] at H;obtain ⟨rfl,rfl,rfl⟩:=H;go_enter Try.func30,Try.ntmps30
  go_wp2_with (first|(go_at_call 65;(with_reducible refine (impl_areLines.calls k _ _ l0 _ _ l1 false _ ?side1 HC0.out ?side3 HC1.out A3.out).mono ?_);(case side1=>exact c_to HR0);(case side3=>exact c_to HR1);rintro e w17 ⟨rfl,hb⟩;replace HB:=ai_ (below_step (below_to HB) hb);clear hb))
  repeat (go_quiet (first|(go_at_call 65;(with_reducible refine (impl_areLines.calls k _ _ l0 _ _ l1 false _ ?side1 HC0.out ?side3 HC1.out A3.out).mono ?_);(case side1=>exact c_to HR0);(case side3=>exact c_to HR1);rintro e w17 ⟨rfl,hb⟩;replace HB:=ai_ (below_step (below_to HB) hb);clear hb));try go_wp2_with (first|(go_at_call 65;(with_reducible refine (impl_areLines.calls k _ _ l0 _ _ l1 false _ ?side1 HC0.out ?side3 HC1.out A3.out).mono ?_);(case side1=>exact c_to HR0);(case side3=>exact c_to HR1);rintro e w17 ⟨rfl,hb⟩;replace HB:=ai_ (below_step (below_to HB) hb);clear hb)))
  go_ret3
  exact ⟨rtE_,below_to HB⟩
 subst c4;rw [if_pos rfl] at H;obtain ⟨j1b,A5,H⟩:=bs_ H;(try dsimp only at H);have H':=ai_ H;clear H;go_enter Try.func30,Try.ntmps30
 go_wp2_with (first|(go_at_call 65;(with_reducible refine (impl_areLines.calls k _ _ l0 _ _ l1 true _ ?side1 HC0.out ?side3 HC1.out A3.out).mono ?_);(case side1=>exact c_to HR0);(case side3=>exact c_to HR1);rintro e w6 ⟨rfl,hb⟩;replace HB:=ai_ (below_step (below_to HB) hb);clear hb)|(go_at_call 66;(with_reducible refine (impl_timesOfLines.calls k _ _ l0 _ _ l1 j1b _ (cb_ HR0 HB) HC0.out (cb_ HR1 HB) HC1.out A5.out).mono ?_);rintro e w7 ⟨j8d,rfl,ho0,hb⟩;have j4c:=ai_ (Kd.R_lower ho0 (below_size (below_to HB)));replace HB:=ai_ (below_step (below_to HB) hb);clear hb;(try clear ho0)))
 repeat (go_quiet (first|(go_at_call 65;(with_reducible refine (impl_areLines.calls k _ _ l0 _ _ l1 true _ ?side1 HC0.out ?side3 HC1.out A3.out).mono ?_);(case side1=>exact c_to HR0);(case side3=>exact c_to HR1);rintro e w6 ⟨rfl,hb⟩;replace HB:=ai_ (below_step (below_to HB) hb);clear hb)|(go_at_call 66;(with_reducible refine (impl_timesOfLines.calls k _ _ l0 _ _ l1 j1b _ (cb_ HR0 HB) HC0.out (cb_ HR1 HB) HC1.out A5.out).mono ?_);rintro e w7 ⟨j8d,rfl,ho0,hb⟩;have j4c:=ai_ (Kd.R_lower ho0 (below_size (below_to HB)));replace HB:=ai_ (below_step (below_to HB) hb);clear hb;(try clear ho0)));try go_wp2_with (first|(go_at_call 66;(with_reducible refine (impl_timesOfLines.calls k _ _ l0 _ _ l1 j1b _ (cb_ HR0 HB) HC0.out (cb_ HR1 HB) HC1.out A5.out).mono ?_);rintro e w7 ⟨j8d,rfl,ho0,hb⟩;have j4c:=ai_ (Kd.R_lower ho0 (below_size (below_to HB)));replace HB:=ai_ (below_step (below_to HB) hb);clear hb;(try clear ho0))))
 go_loopg [8,9,10] k (fun kq v8 v9 v10 w' => ∃ (j2v:Int) (j1h:Int) (jq:Int),v8=.int .i64 j2v∧v9=.int .i64 j1h∧v10=.int .i64 jq∧Aside0 (impl_LongestGap.l0 kq j1b j2v j1h jq=some (r1,r2,r3))∧Aside0 (kq≤k)∧Aside0 (Kd.R Ki_ 3 w' w.heap.size (fun _=>True) j8d j1b)∧Aside0 (Below w.heap.size w w'))
 case atStart=>exact ⟨(0),(0),(1),rt_,rt_,rt_,H',⟨Nat.le_refl _⟩,⟨kd_to j4c⟩,⟨below_to HB⟩⟩
 clear H'
 try clear c1
 try clear p2
 try clear c3
 try clear c4
 obtain ⟨j2v,j1h,jq,rfl,rfl,rfl,HA,HK1,j1g,HB⟩:=hrel
 cases gk with
 | zero=>exact absurd HA.out (by simp [impl_LongestGap.l0])
 | succ k1 =>
  have H:=HA.out;clear HA;simp only [impl_LongestGap.l0] at H
  by_cases c8:jq < (j1b.length:Int)
  rotate_left
  ·rw [if_neg c8] at H
   have jb8:=decide_eq_false c8;clear c8;simp only [Option.some.injEq,Prod.mk.injEq] at H;obtain ⟨rfl,rfl,rfl⟩:=H;obtain ⟨Ao16,co16,eo16⟩:=Kd.R_slice j1g.out;subst eo16
   go_wp2
   repeat (go_quiet (fail);try go_wp2)
   go_ret3
   exact ⟨rtE_,below_to HB⟩
  rw [if_pos c8] at H;have jb8:=decide_eq_true c8;clear c8
  by_cases c9:0≤jq
  rotate_left
  ·rw [if_neg c9] at H
   cases H
  rw [if_pos c9] at H;have j8x:=decide_eq_true c9;clear c9
  obtain ⟨j1i,j2p⟩:∃ j_:Int,(wrap64 (jq - 1))=j_:=⟨_,rfl⟩
  replace H:(if 0≤(j1i) then (if (j1i) < (j1b.length:Int) then (if (wrap64 ((rd j1b jq) - (rd j1b (j1i)))) > j2v then (impl_LongestGap.l0 k1 j1b (wrap64 ((rd j1b jq) - (rd j1b (j1i)))) (rd j1b (j1i)) (wrap64 (jq+1))) else (impl_LongestGap.l0 k1 j1b j2v j1h (wrap64 (jq+1)))) else (none)) else (none))=some (r1,r2,r3):=by first|(rw [j2p] at H;exact H)|(simp only [j2p] at H ⊢;exact H)
  have jb9:(IntKind.i64.wrap (jq - 1))=j1i:=(i64_w _).trans j2p
  by_cases c11:0≤(j1i)
  rotate_left
  ·rw [if_neg c11] at H
   cases H
  rw [if_pos c11] at H;have jbx:=decide_eq_true c11;clear c11
  by_cases c12:(j1i) < (j1b.length:Int)
  rotate_left
  ·rw [if_neg c12] at H
   cases H
  rw [if_pos c12] at H;have j8y:=decide_eq_true c12;clear c12
  by_cases c13:(wrap64 ((rd j1b jq) - (rd j1b (j1i)))) > j2v
  rotate_left
  ·rw [if_neg c13] at H
   have j7u:=decide_eq_false c13;clear c13;have H':=ai_ H;clear H;obtain ⟨Ao15,co15,eo15⟩:=Kd.R_slice j1g.out;subst eo15;have j2w:0≤(jq:Int):=odt_;have j2x:jq < (j1b.length:Int):=odt_;obtain ⟨j3m,e653,j4y⟩:=Kd.at_int (Kd.R_reads' j1g.out).2.2 jq j2w j2x
   cases e653
   replace j2w:=eq_true j2w;replace j2x:=eq_true j2x;have j2y:0≤((j1i):Int):=odt_;have j2z:(j1i) < (j1b.length:Int):=odt_;obtain ⟨j4d,e654,j4z⟩:=Kd.at_int (Kd.R_reads' j1g.out).2.2 (j1i) j2y j2z
   obtain rfl:j3m=j4d:=(by injection e654)
   replace j2y:=eq_true j2y;replace j2z:=eq_true j2z
   go_wp2
   repeat (go_quiet (fail);try go_wp2)
   go_roundg k1
   case measure=>have:=HK1.out;omega
   case rel=>exact ⟨(j2v),(j1h),(wrap64 (jq+1)),rt_,rt_,rt_,H',⟨by have:=HK1.out;omega⟩,⟨kd_to j1g⟩,⟨below_to HB⟩⟩
  rw [if_pos c13] at H;have j7u:=decide_eq_true c13;clear c13;have H':=ai_ H;clear H;obtain ⟨Ao14,co14,eo14⟩:=Kd.R_slice j1g.out;subst eo14;have j2w:0≤(jq:Int):=odt_;have j2x:jq < (j1b.length:Int):=odt_;obtain ⟨j3m,e653,j4y⟩:=Kd.at_int (Kd.R_reads' j1g.out).2.2 jq j2w j2x
  cases e653
  replace j2w:=eq_true j2w;replace j2x:=eq_true j2x;have j2y:0≤((j1i):Int):=odt_;have j2z:(j1i) < (j1b.length:Int):=odt_;obtain ⟨j4d,e654,j4z⟩:=Kd.at_int (Kd.R_reads' j1g.out).2.2 (j1i) j2y j2z
  obtain rfl:j3m=j4d:=(by injection e654)
  replace j2y:=eq_true j2y;replace j2z:=eq_true j2z;have j8e:0≤((j1i):Int):=odt_;have j8f:(j1i) < (j1b.length:Int):=odt_;obtain ⟨j8z,e655,j9k⟩:=Kd.at_int (Kd.R_reads' j1g.out).2.2 (j1i) j8e j8f
  obtain rfl:j3m=j8z:=(by injection e655)
  replace j8e:=eq_true j8e;replace j8f:=eq_true j8f
  go_wp2
  repeat (go_quiet (fail);try go_wp2)
  go_roundg k1
  case measure=>have:=HK1.out;omega
  case rel=>exact ⟨(wrap64 ((rd j1b jq) - (rd j1b (j1i)))),(rd j1b (j1i)),(wrap64 (jq+1)),(by first|rfl|(simp;done)|(simp only [← j2p] <;> (first|rfl|simp))|(simp [*];done)),(by first|rfl|(simp;done)|(simp only [← j2p] <;> (first|rfl|simp))|(simp [*];done)),rt_,H',⟨by have:=HK1.out;omega⟩,⟨kd_to j1g⟩,⟨below_to HB⟩⟩
mutual
def spec_LongestGap.j0:Nat→List Int→Bool→Option (Int × Int × Bool)
 | 0,_,_=>none
 | k+1,x7,x25=>if x25=true then (some (0,0,false)) else (spec_LongestGap.l0 k x7 0 0 1)
def spec_LongestGap.l0:Nat→List Int→Int→Int→Int→Option (Int × Int × Bool)
 | 0,_,_,_,_=>none
 | k+1,x7,x9,x10,x11=>if x11 < (x7.length:Int) then (if 0≤x11 then (if 0≤(wrap64 (x11 - 1)) then (if (wrap64 (x11 - 1)) < (x7.length:Int) then (if (wrap64 ((rd x7 x11) - (rd x7 (wrap64 (x11 - 1))))) > x9 then (spec_LongestGap.l0 k x7 (wrap64 ((rd x7 x11) - (rd x7 (wrap64 (x11 - 1))))) (rd x7 (wrap64 (x11 - 1))) (wrap64 (x11+1))) else (spec_LongestGap.l0 k x7 x9 x10 (wrap64 (x11+1)))) else (none)) else (none)) else (none)) else (some (x9,x10,true))
end
def spec_LongestGap.f (k:Nat) (l0:List (S30)) (l1:List Int):Option (Int × Int × Bool):=(spec_buTimes.f k l0 l1).bind fun bt656=>(if bt656.2=true then (spec_LongestGap.j0 k bt656.1 (decide ((bt656.1.length:Int) < 2))) else (spec_LongestGap.j0 k bt656.1 true))
theorem spec_LongestGap.calls (k:Nat) (A0:Option Addr) (c0:Nat) (l0:List (S30)) (A1:Option Addr) (c1:Nat) (l1:List Int) (r1:Int) (r2:Int) (r3:Bool) (w:World) (hr0:Kd.C k30 w A0 l0.length l0) (hc0:l0.length≤c0) (hr1:Kd.C Ki_ w A1 l1.length l1) (hc1:l1.length≤c1) (h:spec_LongestGap.f k l0 l1=some (r1,r2,r3)) :
  Calls Try.prog 31 #[.slice A0 l0.length c0,.slice A1 l1.length c1] w fun e w'=>e=.returned (.tuple #[.int .i64 r1,.int .i64 r2,.bool r3])∧Below w.heap.size w w':=by
 have HR0:=ai_ hr0;have HC0:=ai_ hc0;clear hr0 hc0;have HR1:=ai_ hr1;have HC1:=ai_ hc1;clear hr1 hc1;have HB:=ai_ (Below.refl w.heap.size w);have H:=h
 unfold spec_LongestGap.f at H
 clear h;obtain ⟨⟨j1a,j5a⟩,A3,H⟩:=bs_ H;(try dsimp only at H);have HC4:=ai_ H;clear H;go_enter Try.func31,Try.ntmps31
 go_upto_region 2 with (first|(go_at_call 67;(with_reducible refine (spec_buTimes.calls k _ _ l0 _ _ l1 j1a j5a _ ?side1 HC0.out ?side3 HC1.out A3.out).mono ?_);(case side1=>exact c_to HR0);(case side3=>exact c_to HR1);rintro e w5 ⟨j5b,rfl,ho0,hb⟩;have j2q:=ai_ (Kd.R_lower ho0 (below_size (below_to HB)));replace HB:=ai_ (below_step (below_to HB) hb);clear hb;(try clear ho0)))
 repeat (go_quiet (first|(go_at_call 67;(with_reducible refine (spec_buTimes.calls k _ _ l0 _ _ l1 j1a j5a _ ?side1 HC0.out ?side3 HC1.out A3.out).mono ?_);(case side1=>exact c_to HR0);(case side3=>exact c_to HR1);rintro e w5 ⟨j5b,rfl,ho0,hb⟩;have j2q:=ai_ (Kd.R_lower ho0 (below_size (below_to HB)));replace HB:=ai_ (below_step (below_to HB) hb);clear hb;(try clear ho0)));go_upto_region 2 with (first|(go_at_call 67;(with_reducible refine (spec_buTimes.calls k _ _ l0 _ _ l1 j1a j5a _ ?side1 HC0.out ?side3 HC1.out A3.out).mono ?_);(case side1=>exact c_to HR0);(case side3=>exact c_to HR1);rintro e w5 ⟨j5b,rfl,ho0,hb⟩;have j2q:=ai_ (Kd.R_lower ho0 (below_size (below_to HB)));replace HB:=ai_ (below_step (below_to HB) hb);clear hb;(try clear ho0))))
 (try simp only [Act.put,List.setIfInBounds_toArray,List.set_cons_zero,List.set_cons_succ])
 go_cut [25] (fun v25 wc => ∃ (kq:Nat) (j3n:Bool),v25=.bool j3n∧Aside0 (spec_LongestGap.j0 kq j1a j3n=some (r1,r2,r3))∧Aside0 (kq≤k)∧Aside0 (Kd.R Ki_ 3 wc w.heap.size (fun _=>True) j5b j1a)∧Aside0 (Below w.heap.size w wc))
 case first =>
  have H:=HC4.out;clear HC4
  by_cases c6:j5a=true
  ·subst c6
   rw [if_pos rfl] at H;have H':=ai_ H;clear H;obtain ⟨Ao7,co7,eo7⟩:=Kd.R_slice j2q.out;subst eo7
   go_wp2
   repeat (go_quiet (fail);try go_wp2)
   go_meet
   case rel=>exact ⟨_,(decide ((j1a.length:Int) < 2)),rt_,H',⟨by first|omega|exact Nat.le_refl _⟩,⟨kd_to j2q⟩,⟨below_to HB⟩⟩
  ·replace c6:=Bool.eq_false_iff.mpr c6
   subst c6;rw [if_neg ft_] at H;have H':=ai_ H;clear H
   go_wp2
   repeat (go_quiet (fail);try go_wp2)
   go_meet
   case rel=>exact ⟨_,(true),rt_,H',⟨by first|omega|exact Nat.le_refl _⟩,⟨kd_to j2q⟩,⟨below_to HB⟩⟩
 clear HC4
 try clear c1
 try clear p2
 try clear c3
 try clear c6
 obtain ⟨kq,j3n,rfl,HA,HJ3,j1g,HB⟩:=hcut
 cases kq with
 | zero=>exact absurd HA.out (by simp [spec_LongestGap.j0])
 | succ kj3 =>
  have H:=HA.out;clear HA;simp only [spec_LongestGap.j0] at H
  by_cases c8:j3n=true
  ·subst c8
   rw [if_pos rfl] at H;simp only [Option.some.injEq,Prod.mk.injEq] at H;obtain ⟨rfl,rfl,rfl⟩:=H
   go_wp2
   repeat (go_quiet (fail);try go_wp2)
   go_ret3
   exact ⟨rtE_,below_to HB⟩
  replace c8:=Bool.eq_false_iff.mpr c8;subst c8;rw [if_neg ft_] at H;have H':=ai_ H;clear H
  go_wp2
  repeat (go_quiet (fail);try go_wp2)
  go_loopg [9,10,11] kj3 (fun kq v9 v10 v11 w' => ∃ (j3a:Int) (j2r:Int) (jr:Int),v9=.int .i64 j3a∧v10=.int .i64 j2r∧v11=.int .i64 jr∧Aside0 (spec_LongestGap.l0 kq j1a j3a j2r jr=some (r1,r2,r3))∧Aside0 (kq≤kj3)∧Aside0 (Kd.R Ki_ 3 w' w.heap.size (fun _=>True) j5b j1a)∧Aside0 (Below w.heap.size w w'))
  case atStart=>exact ⟨(0),(0),(1),rt_,rt_,rt_,H',⟨Nat.le_refl _⟩,⟨kd_to j1g⟩,⟨below_to HB⟩⟩
  clear H'
  try clear c1
  try clear p2
  try clear c3
  try clear c6
  try clear c8
  try clear p2
  obtain ⟨j3a,j2r,jr,rfl,rfl,rfl,HA,HK2,j1g,HB⟩:=hrel
  cases gk with
  | zero=>exact absurd HA.out (by simp [spec_LongestGap.l0])
  | succ k2 =>
   have H:=HA.out;clear HA;simp only [spec_LongestGap.l0] at H
   by_cases c9:jr < (j1a.length:Int)
   rotate_left
   ·rw [if_neg c9] at H
    have j8x:=decide_eq_false c9;clear c9;simp only [Option.some.injEq,Prod.mk.injEq] at H;obtain ⟨rfl,rfl,rfl⟩:=H;obtain ⟨Ao17,co17,eo17⟩:=Kd.R_slice j1g.out;subst eo17
    go_wp2
    repeat (go_quiet (fail);try go_wp2)
    go_ret3
    exact ⟨rtE_,below_to HB⟩
   rw [if_pos c9] at H;have j8x:=decide_eq_true c9;clear c9
   by_cases c10:0≤jr
   rotate_left
   ·rw [if_neg c10] at H
    cases H
   rw [if_pos c10] at H;have jby:=decide_eq_true c10;clear c10
   obtain ⟨j1j,j2s⟩:∃ j_:Int,(wrap64 (jr - 1))=j_:=⟨_,rfl⟩
   replace H:(if 0≤(j1j) then (if (j1j) < (j1a.length:Int) then (if (wrap64 ((rd j1a jr) - (rd j1a (j1j)))) > j3a then (spec_LongestGap.l0 k2 j1a (wrap64 ((rd j1a jr) - (rd j1a (j1j)))) (rd j1a (j1j)) (wrap64 (jr+1))) else (spec_LongestGap.l0 k2 j1a j3a j2r (wrap64 (jr+1)))) else (none)) else (none))=some (r1,r2,r3):=by first|(rw [j2s] at H;exact H)|(simp only [j2s] at H ⊢;exact H)
   have jba:(IntKind.i64.wrap (jr - 1))=j1j:=(i64_w _).trans j2s
   by_cases c12:0≤(j1j)
   rotate_left
   ·rw [if_neg c12] at H
    cases H
   rw [if_pos c12] at H;have j8y:=decide_eq_true c12;clear c12
   by_cases c13:(j1j) < (j1a.length:Int)
   rotate_left
   ·rw [if_neg c13] at H
    cases H
   rw [if_pos c13] at H;have j7u:=decide_eq_true c13;clear c13
   by_cases c14:(wrap64 ((rd j1a jr) - (rd j1a (j1j)))) > j3a
   rotate_left
   ·rw [if_neg c14] at H
    have j9a:=decide_eq_false c14;clear c14;have H':=ai_ H;clear H;obtain ⟨Ao16,co16,eo16⟩:=Kd.R_slice j1g.out;subst eo16;have j3b:0≤(jr:Int):=odt_;have j3c:jr < (j1a.length:Int):=odt_;obtain ⟨j3o,e660,j5c⟩:=Kd.at_int (Kd.R_reads' j1g.out).2.2 jr j3b j3c
    cases e660
    replace j3b:=eq_true j3b;replace j3c:=eq_true j3c;have j3d:0≤((j1j):Int):=odt_;have j3e:(j1j) < (j1a.length:Int):=odt_;obtain ⟨j4e,e661,j5d⟩:=Kd.at_int (Kd.R_reads' j1g.out).2.2 (j1j) j3d j3e
    obtain rfl:j3o=j4e:=(by injection e661)
    replace j3d:=eq_true j3d;replace j3e:=eq_true j3e
    go_wp2
    repeat (go_quiet (fail);try go_wp2)
    go_roundg k2
    case measure=>have:=HJ3.out;have:=HK2.out;omega
    case rel=>exact ⟨(j3a),(j2r),(wrap64 (jr+1)),rt_,rt_,rt_,H',⟨by have:=HJ3.out;have:=HK2.out;omega⟩,⟨kd_to j1g⟩,⟨below_to HB⟩⟩
   rw [if_pos c14] at H;have j9a:=decide_eq_true c14;clear c14;have H':=ai_ H;clear H;obtain ⟨Ao15,co15,eo15⟩:=Kd.R_slice j1g.out;subst eo15;have j3b:0≤(jr:Int):=odt_;have j3c:jr < (j1a.length:Int):=odt_;obtain ⟨j3o,e660,j5c⟩:=Kd.at_int (Kd.R_reads' j1g.out).2.2 jr j3b j3c
   cases e660
   replace j3b:=eq_true j3b;replace j3c:=eq_true j3c;have j3d:0≤((j1j):Int):=odt_;have j3e:(j1j) < (j1a.length:Int):=odt_;obtain ⟨j4e,e661,j5d⟩:=Kd.at_int (Kd.R_reads' j1g.out).2.2 (j1j) j3d j3e
   obtain rfl:j3o=j4e:=(by injection e661)
   replace j3d:=eq_true j3d;replace j3e:=eq_true j3e;have j8g:0≤((j1j):Int):=odt_;have j8h:(j1j) < (j1a.length:Int):=odt_;obtain ⟨j9b,e662,j9l⟩:=Kd.at_int (Kd.R_reads' j1g.out).2.2 (j1j) j8g j8h
   obtain rfl:j3o=j9b:=(by injection e662)
   replace j8g:=eq_true j8g;replace j8h:=eq_true j8h
   go_wp2
   repeat (go_quiet (fail);try go_wp2)
   go_roundg k2
   case measure=>have:=HJ3.out;have:=HK2.out;omega
   case rel=>exact ⟨(wrap64 ((rd j1a jr) - (rd j1a (j1j)))),(rd j1a (j1j)),(wrap64 (jr+1)),(by first|rfl|(simp;done)|(simp only [← j2s] <;> (first|rfl|simp))|(simp [*];done)),(by first|rfl|(simp;done)|(simp only [← j2s] <;> (first|rfl|simp))|(simp [*];done)),rt_,H',⟨by have:=HJ3.out;have:=HK2.out;omega⟩,⟨kd_to j1g⟩,⟨below_to HB⟩⟩
def spec_DrawDropBus.i.f (k:Nat) (l0:List Int) (j9c:List Int) (jbb:Int) (jbc:Int):Option (Int × Int × Int × List Int × Int × Int × Int):=(spec_l1Cur_line.f k j9c jbb jbc).bind fun bt664=>((spec_l1Cur_among.f j9c bt664.2.2.2.2.1 bt664.2.2.2.2.2 (([1,2,3,5,60,61,0,(-1)]:List Int))).bind fun bt675=>(some (bt664.1,bt664.2.1,bt664.2.2.1,bt664.2.2.2.1,bt675.1,bt675.2.1,bt675.2.2)))
def spec_DrawDropBus.f (k:Nat) (l0:List Int):Option (Int × Int × Int × List Int × Int):=(spec_DrawDropBus.i.f k l0 l0 0 0).bind fun b=>some (b.1,b.2.1,b.2.2.1,b.2.2.2.1,b.2.2.2.2.1)
theorem spec_DrawDropBus.calls (k:Nat) (A0:Option Addr) (c0:Nat) (l0:List Int) (r1:Int) (r2:Int) (r3:Int) (r4:List Int) (r5:Int) (wz_:World) (hr0:Kd.C (Kd.int .u8) wz_ A0 l0.length l0) (hc0:l0.length≤c0) (h:spec_DrawDropBus.f k l0=some (r1,r2,r3,r4,r5)) :
  Calls Try.prog 32 #[.slice A0 l0.length c0] wz_ fun e w' => ∃ Aa:Value,e=.returned (.tuple #[.agg #[.int .i64 r1,.int .i64 r2,.int .i64 r3,Aa],.int .i64 r5])∧Kd.R Ki_ 3 w' wz_.heap.size (fun _=>True) Aa r4∧Below wz_.heap.size wz_ w':=by
 obtain ⟨b_,hb0_,h⟩:=Option.bind_eq_some_iff.mp h;obtain ⟨r1z_,r2z_,r3z_,r4z_,r5z_,r6,r7⟩:=b_;simp only [Option.some.injEq,Prod.mk.injEq] at h;obtain ⟨hq0_,hq1_,hq2_,hq3_,hq4_⟩:=h;obtain rfl:=hq0_.symm;obtain rfl:=hq1_.symm;obtain rfl:=hq2_.symm;obtain rfl:=hq3_.symm;obtain rfl:=hq4_.symm
 suffices hh_:∀ (w0 w wq:World) (g j1p:Nat),w0=wz_→w=wz_→j1p=wz_.heap.size→g=wz_.heap.size+1→wq=(wz_.alloc (.cells #[.int .i64 0,.int .i64 0,.int .i64 0,.slice none 0 0] 30 (0,0))).alloc (.cells #[.slice A0 l0.length c0,.int .i64 0,.int .u64 0] 75 (0,0))→Calls Try.prog 32 #[.slice A0 l0.length c0] wz_ fun e w' => ∃ Aa:Value,e=.returned (.tuple #[.agg #[.int .i64 r1,.int .i64 r2,.int .i64 r3,Aa],.int .i64 r5])∧Kd.R Ki_ 3 w' w.heap.size (fun _=>True) Aa r4∧IsS75 w0 w' g l0 r6 r7∧Below w0.heap.size w0 w'∧KeepBut w w' g none by
  refine (hh_ wz_ wz_ _ _ _ rfl rfl rfl rfl rfl).mono ?_;rintro e w' ⟨Aa,he_,hr0_,_,hb_,_⟩;exact ⟨Aa,he_,hr0_,hb_⟩
 intro w0 w wq g j1p HW0_ HWW_ HGgb663_ HG_ HW_
 have hB1_:Below wz_.heap.size wz_ (wz_.alloc (.cells #[.int .i64 0,.int .i64 0,.int .i64 0,.slice none 0 0] 30 (0,0))):=(below_alloc (Below.refl _ _) _)
 have hs1_:(wz_.alloc (.cells #[.int .i64 0,.int .i64 0,.int .i64 0,.slice none 0 0] 30 (0,0))).heap.size=g:=by rw [HG_];exact (Array.size_push ..)
 have hI:IsS75 w0 wq g l0 0 0:=by rw [HW_,HW0_,← hs1_];exact IsS75.new _ _ _ c0 _ _ _ hB1_ hr0
 have hB:Below w0.heap.size w0 wq:=by rw [HW0_,HW_];exact below_alloc hB1_ _
 have hBw_:Below w.heap.size w wq:=by rw [HWW_,HW_];exact below_alloc hB1_ _
 have hle_:w0.heap.size≤w.heap.size:=by rw [HW0_,HWW_];exact Nat.le_refl _
 have j1o:=ai_ (show wq.heap[j1p]?=some (.cells #[.int .i64 0,.int .i64 0,.int .i64 0,.slice none 0 0] 30 (0,0)) from by rw [HW_,HGgb663_];exact blk_alloc ((by have h_:=blk_new wz_ (.cells #[.int .i64 0,.int .i64 0,.int .i64 0,.slice none 0 0] 30 (0,0));rw [show wz_.heap.size=wz_.heap.size from rfl] at h_;exact h_)) _);have j1r:=ai_ (show w.heap.size≤j1p by rw [HWW_,HGgb663_];omega);have j2t:=ai_ (show w0.heap.size≤j1p by rw [HW0_,HGgb663_];omega);have j1f:=ai_ (show g≠j1p by rw [HG_,HGgb663_];omega);have j1v:=ai_ (show j1p≠g by rw [HG_,HGgb663_];omega);have hr0':Kd.C (Kd.int .u8) w A0 l0.length l0:=by rw [HWW_];exact hr0
 clear hr0;have hr0:=hr0';clear hr0';have HWZ:=ai_ HW_;have HGZ:=ai_ HG_;have HGZgb663:=ai_ HGgb663_;clear HW_ HG_ HW0_ HWW_ HGgb663_ hs1_ hB1_;have h:=hb0_;clear hb0_;have hu30:=Try.underlying30;have HR0:=ai_ hr0;have HC0:=ai_ hc0;clear hr0 hc0;have HI1:=ai_ hI;have HK:=ai_ (KeepBut.of_below hBw_ g none);have HL:=ai_ hle_;clear hI;have HW0:=ai_ hle_;have HB:=ai_ hB;clear hB;have H:=h
 unfold spec_DrawDropBus.f at H
 clear h;obtain ⟨⟨j8i,j8j,j8k,j8l,j8m,j8n⟩,A3,H⟩:=bs_ H;(try dsimp only at H)
 obtain ⟨j8o,hy672⟩:∃ y_:List Int,y_=(([1,2,3,5,60,61,0,(-1)]:List Int)):=⟨_,rfl⟩
 replace H:((spec_l1Cur_among.f l0 j8m j8n j8o).bind fun bt675=>(some (j8i,j8j,j8k,j8l,bt675.1,bt675.2.1,bt675.2.2)))=some (r1,r2,r3,r4,r5,r6,r7):=rx_ H hy672;have j7v:=ai_ hy672;clear hy672;obtain ⟨⟨jbd,jbe,jbf⟩,A4,H⟩:=bs_ H;(try dsimp only at H);simp only [Option.some.injEq,Prod.mk.injEq] at H;obtain ⟨rfl,rfl,rfl,rfl,rfl,rfl,rfl⟩:=H;go_enter Try.func32,Try.ntmps32
 go_upto_region 2 with (fail)
 rw [← HWZ.out,← HGZ.out,← HGZgb663.out]
 go_wp2_with (first|((with_reducible refine gd_ 2 rfl ?_);refine bxe_ #[.int .i64 0,.int .i64 0,.int .i64 0,.slice none 0 0] 30 ?_;intro j1p hg w5 hbox hb;replace HB:=ai_ (below_step (below_to1 HB (IsS75.ge HI1.out)) hb);have j1o:=ai_ (hbox);have j1r:=ai_ (gb_ hg (keep_size (keep_to HK)));replace HK:=ai_ (KeepBut.trans (keep_to HK) (KeepBut.of_below hb g none) (.inl rfl));have j2t:=ai_ (Nat.le_trans HW0.out j1r.out);have j1f:=ai_ (ne_ hg (IsS75.lt (IsS75.to HI1)));replace HI1:=ai_ (IsS75.below (IsS75.to HI1) hb);have j1v:=ai_ j1f.out.symm;clear hb hbox hg)|((with_reducible refine gc_ 55 rfl ?_);refine gl_ (some 9) Try.func55 #[.pointer (some ⟨g,0,none⟩)] ?_;(with_reducible refine (spec_l1Cur_line.calls k g l0 0 0 j8i j8j j8k j8l j8m j8n w0 _ (IsS75.tg1 HI1 j1f) (below_to2 HB (IsS75.ge HI1.out) j2t.out) A3.out).mono ?_);rintro e w6 ⟨jch,rfl,ho0,hi,hb,hk⟩;refine ⟨_,rfl,?_⟩;replace j1o:=ai_ (KeepBut.blk hk (blk_to j1o) j1v.out (by simp));have j1w:=ai_ (Kd.R_lower ho0 (keep_size (w:=w) (g:=g) (row:=none) (keep_f1 HK j1r)));replace HK:=ai_ (KeepBut.trans (keep_f1 HK j1r) hk (.inl rfl));replace HB:=ai_ (hb);replace HI1:=ai_ (hi);clear hb hk hi;(try clear ho0))|((with_reducible refine gd_ 11 rfl ?_);refine lit_ 3 11 [1,2,3,5,60,61,0,(-1)] ?_;intro jci w7 ho8 hb hg_ hnew_;clear hg_ hnew_;(first|rw [← j7v.out] at ho8|(simp only [Int.reduceToNat] at ho8;rw [← j7v.out] at ho8));have j2b:=ai_ (Kd.R_lower (Kd.R_new' ho8 (Kd.R_lt (kd_to j1w))) (keep_size (w:=w) (g:=g) (row:=none) (keep_f1 HK j1r)));replace j1w:=ai_ (Kd.R_elder' (kd_to j1w) (Kd.R_base ho8) hb);replace j1o:=bb_ j1o hb;replace HK:=ai_ (KeepBut.trans (keep_f1 HK j1r) (KeepBut.of_below hb g none) (.inl rfl));replace HB:=ai_ (below_step (below_to2 HB (IsS75.ge HI1.out) j2t.out) hb);replace HI1:=ai_ (IsS75.below (IsS75.tg1 HI1 j1f) hb);clear hb ho8;obtain ⟨Ao9,co9,eo9⟩:=Kd.R_slice j2b.out;subst eo9)|((with_reducible refine gc_ 58 rfl ?_);refine gl_ (some 12) Try.func58 #[.pointer (some ⟨g,0,none⟩),.slice Ao9 j8o.length co9] ?_;(with_reducible refine (spec_l1Cur_among.calls g l0 j8m j8n _ _ j8o jbd jbe jbf w0 _ (IsS75.tg1 HI1 j1f) (below_to2 HB (IsS75.ge HI1.out) j2t.out) ?side3 ?side4 ?side5 A4.out).mono ?_);(case side3=>exact cR_ j2b);(case side4=>exact (Kd.R_reads' j2b.out).2.1);(case side5=>exact far_slice (IsS75.own_ne HI1.out j2b.out (by decide)));rintro e w10 ⟨rfl,hi,hb,hk⟩;refine ⟨_,rfl,?_⟩;replace j1o:=ai_ (KeepBut.blk hk (blk_to j1o) j1v.out (by simp));replace j1w:=ai_ (IsS75.rk (IsS75.to1 HI1 j1f) j1w hk);replace j2b:=ai_ (IsS75.rk (IsS75.to1 HI1 j1f) j2b hk);replace HK:=ai_ (KeepBut.trans (keep_f1 HK j1r) hk (.inl rfl));replace HB:=ai_ (hb);replace HI1:=ai_ (hi);clear hb hk hi;have j9d:=j1v.out;have j9e:=j1f.out;obtain ⟨j5e,j5f,j5g,j5h,j5i,j5j,j5k,j5l⟩:=blk4_ j1o;obtain ⟨Ao13,co13,eo13⟩:=Kd.R_slice j1w.out;subst eo13))
 refine bodyPost_ret (results_ct rfl _ _ j1p 30 #[.int .i64 j8i,.int .i64 j8j,.int .i64 j8k,.slice Ao13 j8l.length co13] (0,0) _ rfl (bput4 j1o) Try.underlying30 rfl (by kernel_rfl)) rfl ?_;exact ⟨_,rtE_,rh_ j1w j1o (fun _ hk=>trivial),IsS75.tg1 HI1 j1f,below_to2 HB (IsS75.ge HI1.out) j2t.out,keep_f1 HK j1r⟩
def impl_DropBus.f (k:Nat) (jc:Int) (jd:Int) (jb:Int) (ja:List Int) (a1:Int):Option (Int × Int × Int × List Int × Bool):=(impl_hasStops.f k jc jd jb ja ([]:List Int)).bind fun j8p=>(if j8p=true then ((impl_within.f a1 1 60).bind fun j8q=>(if j8q=true then ((slices_Clone_int_int.f ja).bind fun j3y=>(some (jc,jd,mn jb a1,j3y,true))) else (some (0,0,0,([]:List Int),false)))) else (some (0,0,0,([]:List Int),false)))
def impl_DropBus.T3:Bool × List (List Nat × List Nat):=(true,[([],[]),([0],[0]),([],[]),([2],[2]),([],[]),([4],[4]),([],[]),([5,6],[5,6]),([],[]),([8],[8]),([9],[9]),([1,3,7,10],[1,3,7,10]),([11,10,0,1,2,3,4,5,6,7,8,9,10,11],[11]),([12,0,1,2,3,4,5,6,7,8,9,10,11,12],[])])
def impl_DropBus.B3:List Nat:=[0,1,0,4,0,16,0,112,0,256,768,2047,4095,8191]
theorem impl_DropBus.tab3:rtab .any (opsOf Try.f33 3)=impl_DropBus.T3:=by kernel_rfl
theorem impl_DropBus.bits3:waitsOk impl_DropBus.T3.2 impl_DropBus.B3=true:=by kernel_rfl
theorem impl_DropBus.calls (k:Nat) (jc:Int) (jd:Int) (jb:Int) (jg:Option Addr) (jh:Nat) (ja:List Int) (a1:Int) (r1:Int) (r2:Int) (r3:Int) (r4:List Int) (r5:Bool) (w:World) (hr0_3:Kd.C Ki_ w jg ja.length ja) (hc0_3:ja.length≤jh) (h:impl_DropBus.f k jc jd jb ja a1=some (r1,r2,r3,r4,r5)) :
  Calls Try.prog 33 #[ag_ jc jd jb jg ja jh,.int .i64 a1] w fun e w' => ∃ Aa:Value,e=.returned (.tuple #[.agg #[.int .i64 r1,.int .i64 r2,.int .i64 r3,Aa],.bool r5])∧Kd.R Ki_ 3 w' w.heap.size (fun _=>True) Aa r4∧Below w.heap.size w w':=by
 have hu30:=Try.underlying30;have js:=ai_ hr0_3;have jt:=ai_ hc0_3;clear hr0_3 hc0_3;have HB:=ai_ (Below.refl w.heap.size w);have H:=h
 unfold impl_DropBus.f at H
 clear h;obtain ⟨j8p,A3,H⟩:=bs_ H;(try dsimp only at H)
 by_cases c4:j8p=true
 rotate_left
 ·replace c4:=Bool.eq_false_iff.mpr c4
  subst c4;rw [if_neg ft_] at H;simp only [Option.some.injEq,Prod.mk.injEq] at H;obtain ⟨rfl,rfl,rfl,rfl,rfl⟩:=H;go_enter Try.func33,Try.ntmps33
  go_wp2_with (first|((with_reducible refine gd_ 2 rfl ?_);refine bxe_ #[.int .i64 jc,.int .i64 jd,.int .i64 jb,.slice jg ja.length jh] 30 ?_;intro j1s hg w27 hbox hb;have je:=ai_ (hbox);have j7w:=ai_ (gb_ hg (below_size (below_to HB)));have ju:=ai_ (gb_ hg (below_size (below_to HB)));replace HB:=ai_ (below_step (below_to HB) hb);clear hb hbox hg)|((with_reducible refine gd_ 4 rfl ?_);refine bxe_ #[.int .i64 0,.int .i64 0,.int .i64 0,.slice none 0 0] 30 ?_;intro j1n hg w28 hbox hb;have ji:=ai_ (hbox);have j7x:=ai_ (gb_ hg (below_size (below_to1 HB ju.out)));have j1k:=ai_ (gb_ hg (below_size (below_to1 HB ju.out)));replace HB:=ai_ (below_step (below_to1 HB ju.out) hb);have jf:=ai_ (ne_ hg (blk_lt (blk_to je)));replace je:=bb_ je hb;have jp:=ai_ jf.out.symm;clear hb hbox hg;have jbz:=jf.out;have jc0:=jp.out;obtain ⟨j9m,j9n,j9o,j9p,j9q,j9r,j9s,j9t⟩:=blk4_ je)|((with_reducible refine gc_ 49 rfl ?_);refine gl_ (some 7) Try.func49 #[ag_ jc jd jb jg ja jh,.slice none 0 0] ?_;(refine (impl_hasStops.calls k jc jd jb _ _ ja _ _ ([]:List Int) false _ ?side1 ?side2 ?side3 ?side4 A3.out).mono ?_);(case side1=>exact cb_ js HB);(case side2=>exact jt.out);(case side3=>exact Kd.C_nil _ _);(case side4=>exact Nat.le_refl _);rintro e w31 ⟨rfl,hb⟩;refine ⟨_,rfl,?_⟩;replace je:=bb_ je hb;replace ji:=bb_ ji hb;replace HB:=ai_ (below_step (below_to2 HB ju.out j1k.out) hb);clear hb;obtain ⟨j5m,j5n,j5o,j5p,j5q,j5r,j5s,j5t⟩:=blk4_ ji))
  refine bodyPost_ret (results_ct rfl _ _ j1n 30 #[.int .i64 0,.int .i64 0,.int .i64 0,.slice none 0 0] (0,0) _ rfl (bput4 ji) Try.underlying30 rfl (by kernel_rfl)) rfl ?_;exact ⟨_,rtE_,by first|exact Kd.R_nil _ _ _ _ _|exact Kd.N_nil _ _ _ _ _|exact Kd.V_nil _ _ _ _ _|exact Kd.Q_nil _ _ _ _ _|exact Kd.S_nil _ _ _ _ _,below_to2 HB ju.out j1k.out⟩
 subst c4;rw [if_pos rfl] at H;obtain ⟨j8q,A5,H⟩:=bs_ H;(try dsimp only at H)
 by_cases c6:j8q=true
 rotate_left
 ·replace c6:=Bool.eq_false_iff.mpr c6
  subst c6;rw [if_neg ft_] at H;simp only [Option.some.injEq,Prod.mk.injEq] at H;obtain ⟨rfl,rfl,rfl,rfl,rfl⟩:=H;go_enter Try.func33,Try.ntmps33
  go_wp2_with (first|((with_reducible refine gd_ 2 rfl ?_);refine bxe_ #[.int .i64 jc,.int .i64 jd,.int .i64 jb,.slice jg ja.length jh] 30 ?_;intro j1s hg w21 hbox hb;have je:=ai_ (hbox);have j7w:=ai_ (gb_ hg (below_size (below_to HB)));have ju:=ai_ (gb_ hg (below_size (below_to HB)));replace HB:=ai_ (below_step (below_to HB) hb);clear hb hbox hg)|((with_reducible refine gd_ 4 rfl ?_);refine bxe_ #[.int .i64 0,.int .i64 0,.int .i64 0,.slice none 0 0] 30 ?_;intro j1n hg w22 hbox hb;have ji:=ai_ (hbox);have j7x:=ai_ (gb_ hg (below_size (below_to1 HB ju.out)));have j1k:=ai_ (gb_ hg (below_size (below_to1 HB ju.out)));replace HB:=ai_ (below_step (below_to1 HB ju.out) hb);have jf:=ai_ (ne_ hg (blk_lt (blk_to je)));replace je:=bb_ je hb;have jp:=ai_ jf.out.symm;clear hb hbox hg;have jc1:=jf.out;have jc2:=jp.out;obtain ⟨j9u,j9v,j9w,j9x,j9y,j9z,ja0,ja1⟩:=blk4_ je)|((with_reducible refine gc_ 49 rfl ?_);refine gl_ (some 7) Try.func49 #[ag_ jc jd jb jg ja jh,.slice none 0 0] ?_;(refine (impl_hasStops.calls k jc jd jb _ _ ja _ _ ([]:List Int) true _ ?side1 ?side2 ?side3 ?side4 A3.out).mono ?_);(case side1=>exact cb_ js HB);(case side2=>exact jt.out);(case side3=>exact Kd.C_nil _ _);(case side4=>exact Nat.le_refl _);rintro e w25 ⟨rfl,hb⟩;refine ⟨_,rfl,?_⟩;replace je:=bb_ je hb;replace ji:=bb_ ji hb;replace HB:=ai_ (below_step (below_to2 HB ju.out j1k.out) hb);clear hb)|(go_at_call 50;(with_reducible refine (impl_within.calls a1 1 60 false _ A5.out).mono ?_);rintro e w' ⟨rfl,⟨nd,rfl⟩⟩;(try (rw [drewN_self w25];generalize hq_:World.drewN w25 _=w25;have n0_:B4_ w25 j1s jc jd jb jg ja jh 30:=⟨by rw [← hq_];exact (blk_to je)⟩;have n1_:Aside0 (w25.heap[j1n]?=some (.cells #[.int .i64 0,.int .i64 0,.int .i64 0,.slice none 0 0] 30 (0,0))):=⟨by rw [← hq_];exact (blk_to ji)⟩;have n2_:Aside0 (Below w.heap.size w w25):=⟨by rw [← hq_];exact (below_to2 HB ju.out j1k.out)⟩;clear je ji HB hq_;have je:=n0_;have ji:=n1_;have HB:=n2_;clear n0_ n1_ n2_));obtain ⟨j3p,j3q,j3r,j3s,j3t,j3u,j3v,j3w⟩:=blk4_ ji))
  refine bodyPost_ret (results_ct rfl _ _ j1n 30 #[.int .i64 0,.int .i64 0,.int .i64 0,.slice none 0 0] (0,0) _ rfl (bput4 ji) Try.underlying30 rfl (by kernel_rfl)) rfl ?_;exact ⟨_,rtE_,by first|exact Kd.R_nil _ _ _ _ _|exact Kd.N_nil _ _ _ _ _|exact Kd.V_nil _ _ _ _ _|exact Kd.Q_nil _ _ _ _ _|exact Kd.S_nil _ _ _ _ _,below_to2 HB ju.out j1k.out⟩
 subst c6;rw [if_pos rfl] at H
 obtain ⟨ji7,j3z⟩:∃ j_:Int,(mn jb a1)=j_:=⟨_,rfl⟩
 replace H:((slices_Clone_int_int.f ja).bind fun j3y=>(some (jc,jd,ji7,j3y,true)))=some (r1,r2,r3,r4,r5):=by first|(rw [j3z] at H;exact H)|(simp only [j3z] at H ⊢;exact H)
 (try rw [j3z] at A3);(try rw [j3z] at A5);have hji7_:(if a1 < jb then a1 else jb)=ji7:=j3z;obtain ⟨j3y,A8,H⟩:=bs_ H;(try dsimp only at H);simp only [Option.some.injEq,Prod.mk.injEq] at H;obtain ⟨rfl,rfl,rfl,rfl,rfl⟩:=H;go_enter Try.func33,Try.ntmps33
 try go_wp2_with (first|((with_reducible refine gd_ 2 rfl ?_);refine bxe_ #[.int .i64 jc,.int .i64 jd,.int .i64 jb,.slice jg ja.length jh] 30 ?_;intro j1s hg w9 hbox hb;have je:=ai_ (hbox);have j7w:=ai_ (gb_ hg (below_size (below_to HB)));have ju:=ai_ (gb_ hg (below_size (below_to HB)));replace HB:=ai_ (below_step (below_to HB) hb);clear hb hbox hg)|((with_reducible refine gd_ 4 rfl ?_);refine bxe_ #[.int .i64 0,.int .i64 0,.int .i64 0,.slice none 0 0] 30 ?_;intro j1n hg w10 hbox hb;have ji:=ai_ (hbox);have j7x:=ai_ (gb_ hg (below_size (below_to1 HB ju.out)));have j1k:=ai_ (gb_ hg (below_size (below_to1 HB ju.out)));replace HB:=ai_ (below_step (below_to1 HB ju.out) hb);have jf:=ai_ (ne_ hg (blk_lt (blk_to je)));replace je:=bb_ je hb;have jp:=ai_ jf.out.symm;clear hb hbox hg;have j9d:=jf.out;have j9e:=jp.out;obtain ⟨j5e,j5f,j5g,j5h,j5i,j5j,j5k,j5l⟩:=blk4_ je)|((with_reducible refine gc_ 49 rfl ?_);refine gl_ (some 7) Try.func49 #[ag_ jc jd jb jg ja jh,.slice none 0 0] ?_;(refine (impl_hasStops.calls k jc jd jb _ _ ja _ _ ([]:List Int) true _ ?side1 ?side2 ?side3 ?side4 A3.out).mono ?_);(case side1=>exact cb_ js HB);(case side2=>exact jt.out);(case side3=>exact Kd.C_nil _ _);(case side4=>exact Nat.le_refl _);rintro e w13 ⟨rfl,hb⟩;refine ⟨_,rfl,?_⟩;replace je:=bb_ je hb;replace ji:=bb_ ji hb;replace HB:=ai_ (below_step (below_to2 HB ju.out j1k.out) hb);clear hb)|(go_at_call 50;(with_reducible refine (impl_within.calls a1 1 60 true _ A5.out).mono ?_);rintro e w' ⟨rfl,⟨nd,rfl⟩⟩;(try (rw [drewN_self w13];generalize hq_:World.drewN w13 _=w13;have n0_:B4_ w13 j1s jc jd jb jg ja jh 30:=⟨by rw [← hq_];exact (blk_to je)⟩;have n1_:Aside0 (w13.heap[j1n]?=some (.cells #[.int .i64 0,.int .i64 0,.int .i64 0,.slice none 0 0] 30 (0,0))):=⟨by rw [← hq_];exact (blk_to ji)⟩;have n2_:Aside0 (Below w.heap.size w w13):=⟨by rw [← hq_];exact (below_to2 HB ju.out j1k.out)⟩;clear je ji HB hq_;have je:=n0_;have ji:=n1_;have HB:=n2_;clear n0_ n1_ n2_))))
 replace je:=ai_ (blk_drew je.out);replace ji:=ai_ (blk_drew ji.out);replace HB:=ai_ (below_drew1 HB.out);refine start_ (n:=14) (S:=fun w'=>w'.cell? ⟨j1s,0,none⟩=some (.int .i64 jc)∧w'.cell? ⟨j1s,1,none⟩=some (.int .i64 jd)∧w'.cell? ⟨j1s,2,none⟩=some (.int .i64 jb)∧w'.cell? ⟨j1s,3,none⟩=some (.slice jg ja.length jh)) (ds:=[]) (fr_ [0,14]) (by kernel_rfl) rfl rfl ⟨bc_ je 0,bc_ je 1,bc_ je 2,bc_ je 3⟩ (fun hHeld=>?_);refine with_tabW impl_DropBus.tab3 impl_DropBus.bits3 (fun HT_ HW_=>?_);generalize w13.drew=w14 at je ji HB hHeld ⊢;refine pq_ 0 15 14 ?_;refine pS_ 2 17 (fr_ [1,1,1,11]) HT_ ?_;refine pS_ 4 19 (fr_ [1,1,1,1,1,9]) HT_ ?_;refine pS_ 6 21 (fr_ [1,1,1,1,1,1,1,7]) HT_ ?_;refine pS_ 8 23 (fr_ [1,1,1,1,1,1,1,1,1,5]) HT_ ?_;refine tk4_ 1 16 (fr_ [3,1,1,1,1,1,1,5]) HT_ HW_ hHeld ?_;refine tk4_ 3 18 (fr_ [5,1,1,1,1,5]) HT_ HW_ hHeld ?_;refine tk4_ 5 20 (fr_ [7,1,1,5]) HT_ HW_ hHeld ?_;refine pS_ 7 22 (fl_ 14 9) HT_ ?_;refine tk4_ 9 24 (fr_ [10,4]) HT_ HW_ hHeld ?_;refine on_ 10 25 (fr_ [11,3]) HT_ (fun K hK=>?_);refine gs_ Try.func54 #[.slice jg ja.length jh] ?_
 with_reducible refine (slices_Clone_int_int.calls _ _ ja j3y _ ?side1 ?side2 A8.out).mono ?_
 (case side1=>exact cb_ js HB)
 (case side2=>exact jt.out)
 rintro e w15 ⟨jcj,rfl,ho0,hb⟩;refine ⟨_,rfl,?_⟩;have j7y:=ai_ (Kd.R_lower ho0 (below_size (below_to2 HB ju.out j1k.out)));replace je:=bb_ je hb;replace ji:=bb_ ji hb;replace HB:=ai_ (below_step (below_to2 HB ju.out j1k.out) hb);(try clear hb);(try clear hb2);(try clear hk);(try clear hi);(try clear ho0);obtain ⟨Ao16,co16,eo16⟩:=Kd.R_slice j7y.out
 (first|subst eo16|(injection eo16 with f1_ f2_ f3_;have f4_:=f1_.symm;have f5_:=f3_.symm;clear f1_ f2_ f3_;subst f4_;subst f5_))
 refine hK.out _ _ ⟨bc_ je 0,bc_ je 1,bc_ je 2,bc_ je 3⟩ (fun hHeld=>?_);clear hK K;refine norm_ (a':=?_) ?_ ?_;rotate_left
 ·show Act.put _ (some 25) _=_
  simp only [Act.put,List.setIfInBounds_toArray,List.set_cons_zero,List.set_cons_succ,i64_w,i32_w]
  rfl
 refine pq_ 11 26 14 ?_;refine one_ (i:=12) (N:=none) (fr_ [13,1]) rfl rfl (one_of HT_.out (by kernel_rfl)) (by decide) (fun K hK=>?_);have hs17:w15.cell? ⟨j1n,0,none⟩=some (.int .i64 0):=bc_ ji 0;have hfs17:=blk_frozen ji.out 0;have hns17_0:=jf.out;have hms17_0:=jp.out;have hs18:w15.cell? ⟨j1n,1,none⟩=some (.int .i64 0):=bc_ ji 1;have hfs18:=blk_frozen ji.out 1;have hns18_0:=jf.out;have hms18_0:=jp.out;have hs19:w15.cell? ⟨j1n,2,none⟩=some (.int .i64 0):=bc_ ji 2;have hfs19:=blk_frozen ji.out 2;have hns19_0:=jf.out;have hms19_0:=jp.out;have hs20:w15.cell? ⟨j1n,3,none⟩=some (.slice none 0 0):=bc_ ji 3;have hfs20:=blk_frozen ji.out 3;have hns20_0:=jf.out;have hms20_0:=jp.out;refine skip_ (w1:=?_) (by rfl) rfl ?_ ?_;rotate_left
 ·go_simp
  rfl
 refine hK.out _ _ ⟨(cf1_ jf (hHeld.1)),(cf1_ jf (hHeld.2.1)),(cf1_ jf (hHeld.2.2.1)),(cf1_ jf (hHeld.2.2.2))⟩ (fun hHeld=>?_);clear hK K;refine pq_ 13 5 14 ?_;refine done_ (done_of HT_.out (by kernel_rfl)) ?_
 try go_wp2
 refine bodyPost_ret (results_ct rfl _ _ j1n 30 #[.int .i64 jc,.int .i64 jd,.int .i64 ji7,.slice Ao16 j3y.length co16] (0,0) _ rfl (bput4 ji) Try.underlying30 rfl (by kernel_rfl)) rfl ?_;exact ⟨_,by first|rfl|(simp [errW_none,errW_some] <;> rfl)|(simp only [← j3z];first|rfl|(simp [errW_none,errW_some] <;> rfl))|(simp [*,errW_none,errW_some] <;> rfl),rh_ j7y ji (fun _ hk=>trivial),below_to2 HB ju.out j1k.out⟩
def spec_l1Least.f (a0:Int) (a1:Int):Option (Int):=if a0 < a1 then (some a0) else (some a1)
theorem spec_l1Least.calls (a0:Int) (a1:Int) (r:Int) (w:World) (h:spec_l1Least.f a0 a1=some r) :
  Calls Try.prog 69 #[.int .i64 a0,.int .i64 a1] w fun e w'=>e=.returned (.int .i64 r)∧Drawn0 w w':=by
 have H:(if a0 < a1 then (some a0) else (some a1))=some r:=h;clear h
 by_cases c3:a0 < a1
 ·rw [if_pos c3] at H
  have j4f:=decide_eq_true c3;clear c3;obtain rfl:=Option.some.inj H;go_enter Try.func69,Try.ntmps69
  go_wp2
  go_ret;exact ⟨rt_,d0_⟩
 ·rw [if_neg c3] at H
  have j4f:=decide_eq_false c3;clear c3;obtain rfl:=Option.some.inj H;go_enter Try.func69,Try.ntmps69
  go_wp2
  go_ret;exact ⟨rt_,d0_⟩
def spec_DropBus.j0:Nat→Int→Bool→Int→Int→Int→List Int→Option (Int × Int × Int × List Int × Bool)
 | 0,_,_,_,_,_,_=>none
 | k+1,x1,x13,j5u,j5v,j5w,j5x=>if x13=true then (some (0,0,0,([]:List Int),false)) else ((spec_l1Least.f j5w x1).bind fun j5y=>((spec_l1Own.f j5x).bind fun j5z=>(some (j5u,j5v,j5y,j5z,true))))
def spec_DropBus.f (k:Nat) (jc:Int) (jd:Int) (jb:Int) (ja:List Int) (a1:Int):Option (Int × Int × Int × List Int × Bool):=(spec_buGood.f k jc jd jb ja).bind fun j8r=>(if j8r=true then ((spec_l1In.f a1 1 60).bind fun j6a=>(spec_DropBus.j0 k a1 (!j6a) jc jd jb ja)) else (spec_DropBus.j0 k a1 true jc jd jb ja))
def spec_DropBus.T3:Bool × List (List Nat × List Nat):=(true,[([],[]),([0],[0]),([],[]),([2],[2]),([],[]),([4],[4]),([],[]),([5,6],[5,6]),([],[]),([8],[8]),([9,7],[9]),([1,3,7,10],[1,3,7,10]),([11,10,0,1,2,3,4,5,6,7,8,9,10,11],[11]),([12,0,1,2,3,4,5,6,7,8,9,10,11,12],[])])
def spec_DropBus.B3:List Nat:=[0,1,0,4,0,16,0,112,0,256,1008,2047,4095,8191]
theorem spec_DropBus.tab3:rtab .any (opsOf Try.f34 3)=spec_DropBus.T3:=by kernel_rfl
theorem spec_DropBus.bits3:waitsOk spec_DropBus.T3.2 spec_DropBus.B3=true:=by kernel_rfl
theorem spec_DropBus.calls (k:Nat) (jc:Int) (jd:Int) (jb:Int) (jg:Option Addr) (jh:Nat) (ja:List Int) (a1:Int) (r1:Int) (r2:Int) (r3:Int) (r4:List Int) (r5:Bool) (w:World) (hr0_3:Kd.C Ki_ w jg ja.length ja) (hc0_3:ja.length≤jh) (h:spec_DropBus.f k jc jd jb ja a1=some (r1,r2,r3,r4,r5)) :
  Calls Try.prog 34 #[ag_ jc jd jb jg ja jh,.int .i64 a1] w fun e w' => ∃ Aa:Value,e=.returned (.tuple #[.agg #[.int .i64 r1,.int .i64 r2,.int .i64 r3,Aa],.bool r5])∧Kd.R Ki_ 3 w' w.heap.size (fun _=>True) Aa r4∧Below w.heap.size w w':=by
 have hu30:=Try.underlying30;have js:=ai_ hr0_3;have jt:=ai_ hc0_3;clear hr0_3 hc0_3;have HB:=ai_ (Below.refl w.heap.size w);have H:=h
 unfold spec_DropBus.f at H
 clear h;have HC3:=ai_ H;clear H;go_enter Try.func34,Try.ntmps34
 go_upto_region 1 with (first|((with_reducible refine gd_ 2 rfl ?_);refine bxe_ #[.int .i64 jc,.int .i64 jd,.int .i64 jb,.slice jg ja.length jh] 30 ?_;intro j2u hg w4 hbox hb;have jk:=ai_ (hbox);have jc3:=ai_ (gb_ hg (below_size (below_to HB)));have j1l:=ai_ (gb_ hg (below_size (below_to HB)));replace HB:=ai_ (below_step (below_to HB) hb);clear hb hbox hg)|((with_reducible refine gd_ 4 rfl ?_);refine bxe_ #[.int .i64 0,.int .i64 0,.int .i64 0,.slice none 0 0] 30 ?_;intro j1x hg w5 hbox hb;have jo:=ai_ (hbox);have jc4:=ai_ (gb_ hg (below_size (below_to1 HB j1l.out)));have j1q:=ai_ (gb_ hg (below_size (below_to1 HB j1l.out)));replace HB:=ai_ (below_step (below_to1 HB j1l.out) hb);have jj:=ai_ (ne_ hg (blk_lt (blk_to jk)));replace jk:=bb_ jk hb;have j1c:=ai_ jj.out.symm;clear hb hbox hg))
 (try simp only [Act.put,List.setIfInBounds_toArray,List.set_cons_zero,List.set_cons_succ])
 go_cut [13] (fun v13 wc => ∃ (kq:Nat) (j3x:Bool),v13=.bool j3x∧Aside0 (spec_DropBus.j0 kq a1 j3x jc jd jb ja=some (r1,r2,r3,r4,r5))∧Aside0 (kq≤k)∧B4_ wc j2u jc jd jb jg ja jh 30∧Aside0 (wc.heap[j1x]?=some (.cells #[.int .i64 0,.int .i64 0,.int .i64 0,(.slice none 0 0)] 30 (0,0)))∧Aside0 (Below w.heap.size w wc))
 case first =>
  have H:=HC3.out;clear HC3;obtain ⟨j8r,A6,H⟩:=bs_ H;(try dsimp only at H)
  by_cases c7:j8r=true
  rotate_left
  ·replace c7:=Bool.eq_false_iff.mpr c7
   subst c7;rw [if_neg ft_] at H;have H':=ai_ H;clear H;have jc5:=jj.out;have jc6:=j1c.out;obtain ⟨j6b,j6c,j6d,j6e,j6f,j6g,j6h,j6i⟩:=blk4_ jk
   go_wp2_with (first|((with_reducible refine gc_ 68 rfl ?_);refine gl_ (some 7) Try.func68 #[ag_ jc jd jb jg ja jh] ?_;(with_reducible refine (spec_buGood.calls k jc jd jb _ _ ja false _ (cb_ js HB) jt.out A6.out).mono ?_);rintro e w14 ⟨rfl,hb⟩;refine ⟨_,rfl,?_⟩;replace jk:=bb_ jk hb;replace jo:=bb_ jo hb;replace HB:=ai_ (below_step (below_to2 HB j1l.out j1q.out) hb);clear hb))
   go_meet
   case rel=>exact ⟨_,(true),rt_,H',⟨by first|omega|exact Nat.le_refl _⟩,⟨blk_to jk⟩,⟨blk_to jo⟩,⟨below_to2 HB j1l.out j1q.out⟩⟩
  subst c7;rw [if_pos rfl] at H;obtain ⟨j6a,A8,H⟩:=bs_ H;(try dsimp only at H);have H':=ai_ H;clear H;have jbg:=jj.out;have jbh:=j1c.out;obtain ⟨j2d,j2e,j2f,j2g,j2h,j2i,j2j,j2k⟩:=blk4_ jk
  go_wp2_with (first|((with_reducible refine gc_ 68 rfl ?_);refine gl_ (some 7) Try.func68 #[ag_ jc jd jb jg ja jh] ?_;(with_reducible refine (spec_buGood.calls k jc jd jb _ _ ja true _ (cb_ js HB) jt.out A6.out).mono ?_);rintro e w11 ⟨rfl,hb⟩;refine ⟨_,rfl,?_⟩;replace jk:=bb_ jk hb;replace jo:=bb_ jo hb;replace HB:=ai_ (below_step (below_to2 HB j1l.out j1q.out) hb);clear hb)|(go_at_call 43;(with_reducible refine (spec_l1In.calls a1 1 60 j6a _ A8.out).mono ?_);rintro e w' ⟨rfl,⟨nd,rfl⟩⟩))
  go_meet
  case rel=>exact ⟨_,(!j6a),rt_,H',⟨by first|omega|exact Nat.le_refl _⟩,⟨blk_to jk⟩,⟨blk_to jo⟩,⟨below_to2 HB j1l.out j1q.out⟩⟩
 clear HC3
 try clear c1
 try clear p2
 try clear c3
 try clear c6
 try clear c7
 try clear c9
 try clear c12
 try clear j2d
 try clear j2e
 try clear j2f
 try clear j2g
 try clear j6b
 try clear j6c
 try clear j6d
 try clear j6e
 try clear j2h
 try clear j2i
 try clear j2j
 try clear j2k
 try clear j6f
 try clear j6g
 try clear j6h
 try clear j6i
 obtain ⟨kq,j3x,rfl,HA,HJ2,jk,jo,HB⟩:=hcut
 cases kq with
 | zero=>exact absurd HA.out (by simp [spec_DropBus.j0])
 | succ kj2 =>
  have H:=HA.out;clear HA;simp only [spec_DropBus.j0] at H
  by_cases c15:j3x=true
  ·subst c15
   rw [if_pos rfl] at H;simp only [Option.some.injEq,Prod.mk.injEq] at H;obtain ⟨rfl,rfl,rfl,rfl,rfl⟩:=H;have jc7:=j1c.out;have jc8:=jj.out;obtain ⟨ja2,ja3,ja4,ja5,ja6,ja7,ja8,ja9⟩:=blk4_ jo
   go_wp2
   refine bodyPost_ret (results_ct rfl _ _ j1x 30 #[.int .i64 0,.int .i64 0,.int .i64 0,.slice none 0 0] (0,0) _ rfl (bput4 jo) Try.underlying30 rfl (by kernel_rfl)) rfl ?_;exact ⟨_,rtE_,by first|exact Kd.R_nil _ _ _ _ _|exact Kd.N_nil _ _ _ _ _|exact Kd.V_nil _ _ _ _ _|exact Kd.Q_nil _ _ _ _ _|exact Kd.S_nil _ _ _ _ _,below_to2 HB j1l.out j1q.out⟩
  replace c15:=Bool.eq_false_iff.mpr c15;subst c15;rw [if_neg ft_] at H;obtain ⟨j5y,A18,H⟩:=bs_ H;(try dsimp only at H);obtain ⟨j5z,A19,H⟩:=bs_ H;(try dsimp only at H);simp only [Option.some.injEq,Prod.mk.injEq] at H;obtain ⟨rfl,rfl,rfl,rfl,rfl⟩:=H
  try go_wp2
  replace jk:=ai_ (blk_drew jk.out);replace jo:=ai_ (blk_drew jo.out);replace HB:=ai_ (below_drew1 HB.out);refine start_ (n:=14) (S:=fun w'=>w'.cell? ⟨j2u,0,none⟩=some (.int .i64 jc)∧w'.cell? ⟨j2u,1,none⟩=some (.int .i64 jd)∧w'.cell? ⟨j2u,2,none⟩=some (.int .i64 jb)∧w'.cell? ⟨j2u,3,none⟩=some (.slice jg ja.length jh)) (ds:=[]) (fr_ [0,14]) (by kernel_rfl) rfl rfl ⟨bc_ jk 0,bc_ jk 1,bc_ jk 2,bc_ jk 3⟩ (fun hHeld=>?_);refine with_tabW spec_DropBus.tab3 spec_DropBus.bits3 (fun HT_ HW_=>?_);generalize wc.drew=w20 at jk jo HB hHeld ⊢;refine pq_ 0 15 14 ?_;refine pS_ 2 17 (fr_ [1,1,1,11]) HT_ ?_;refine pS_ 4 19 (fr_ [1,1,1,1,1,9]) HT_ ?_;refine pS_ 6 21 (fr_ [1,1,1,1,1,1,1,7]) HT_ ?_;refine pS_ 8 23 (fr_ [1,1,1,1,1,1,1,1,1,5]) HT_ ?_;refine tk4_ 1 16 (fr_ [3,1,1,1,1,1,1,5]) HT_ HW_ hHeld ?_;refine tk4_ 3 18 (fr_ [5,1,1,1,1,5]) HT_ HW_ hHeld ?_;refine tk4_ 5 20 (fr_ [7,1,1,5]) HT_ HW_ hHeld ?_;refine tk4_ 9 24 (fr_ [7,1,2,4]) HT_ HW_ hHeld ?_;refine on_ 7 22 (fr_ [10,4]) HT_ (fun K hK=>?_);refine gs_ Try.func69 #[.int .i64 jb,.int .i64 a1] ?_
  with_reducible refine (spec_l1Least.calls jb a1 j5y _ A18.out).mono ?_
  rintro e w' ⟨rfl,⟨nd,rfl⟩⟩;refine ⟨_,rfl,?_⟩;refine hK.out _ _ ⟨bc_ jk 0,bc_ jk 1,bc_ jk 2,bc_ jk 3⟩ (fun hHeld=>?_);clear hK K;refine norm_ (a':=?_) ?_ ?_;rotate_left
  ·show Act.put _ (some 22) _=_
   simp only [Act.put,List.setIfInBounds_toArray,List.set_cons_zero,List.set_cons_succ,i64_w,i32_w]
   rfl
  refine on_ 10 25 (fr_ [11,3]) HT_ (fun K hK=>?_);refine gs_ Try.func47 #[.slice jg ja.length jh] ?_
  with_reducible refine (spec_l1Own.calls _ _ ja j5z _ ?side1 ?side2 A19.out).mono ?_
  (case side1=>repeat (first|exact (Kd.C_below js.out (below_to2 HB j1l.out j1q.out))|(with_reducible refine Kd.C_alloc ?_ _)|(with_reducible refine Kd.C_drewN ?_ _)|(with_reducible refine Kd.C_drew ?_)))
  (case side2=>exact jt.out)
  rintro e w21 ⟨jck,rfl,ho0,hb⟩;refine ⟨_,rfl,?_⟩;have j7z:=ai_ (Kd.R_lower ho0 (below_size (below_to2 HB j1l.out j1q.out)));replace jk:=bb_ jk hb;replace jo:=bb_ jo hb;replace HB:=ai_ (below_step (below_to2 HB j1l.out j1q.out) hb);(try clear hb);(try clear hb2);(try clear hk);(try clear hi);(try clear ho0);obtain ⟨Ao22,co22,eo22⟩:=Kd.R_slice j7z.out
  (first|subst eo22|(injection eo22 with f1_ f2_ f3_;have f4_:=f1_.symm;have f5_:=f3_.symm;clear f1_ f2_ f3_;subst f4_;subst f5_))
  refine hK.out _ _ ⟨bc_ jk 0,bc_ jk 1,bc_ jk 2,bc_ jk 3⟩ (fun hHeld=>?_);clear hK K;refine norm_ (a':=?_) ?_ ?_;rotate_left
  ·show Act.put _ (some 25) _=_
   simp only [Act.put,List.setIfInBounds_toArray,List.set_cons_zero,List.set_cons_succ,i64_w,i32_w]
   rfl
  refine pq_ 11 26 14 ?_;refine one_ (i:=12) (N:=none) (fr_ [13,1]) rfl rfl (one_of HT_.out (by kernel_rfl)) (by decide) (fun K hK=>?_);have hs23:w21.cell? ⟨j1x,0,none⟩=some (.int .i64 0):=bc_ jo 0;have hfs23:=blk_frozen jo.out 0;have hns23_0:=jj.out;have hms23_0:=j1c.out;have hs24:w21.cell? ⟨j1x,1,none⟩=some (.int .i64 0):=bc_ jo 1;have hfs24:=blk_frozen jo.out 1;have hns24_0:=jj.out;have hms24_0:=j1c.out;have hs25:w21.cell? ⟨j1x,2,none⟩=some (.int .i64 0):=bc_ jo 2;have hfs25:=blk_frozen jo.out 2;have hns25_0:=jj.out;have hms25_0:=j1c.out;have hs26:w21.cell? ⟨j1x,3,none⟩=some (.slice none 0 0):=bc_ jo 3;have hfs26:=blk_frozen jo.out 3;have hns26_0:=jj.out;have hms26_0:=j1c.out;refine skip_ (w1:=?_) (by rfl) rfl ?_ ?_;rotate_left
  ·go_simp
   rfl
  refine hK.out _ _ ⟨(cf1_ jj (hHeld.1)),(cf1_ jj (hHeld.2.1)),(cf1_ jj (hHeld.2.2.1)),(cf1_ jj (hHeld.2.2.2))⟩ (fun hHeld=>?_);clear hK K;refine pq_ 13 5 14 ?_;refine done_ (done_of HT_.out (by kernel_rfl)) ?_
  try go_wp2
  refine bodyPost_ret (results_ct rfl _ _ j1x 30 #[.int .i64 jc,.int .i64 jd,.int .i64 j5y,.slice Ao22 j5z.length co22] (0,0) _ rfl (bput4 jo) Try.underlying30 rfl (by kernel_rfl)) rfl ?_;exact ⟨_,rtE_,rh_ j7z jo (fun _ hk=>trivial),below_to2 HB j1l.out j1q.out⟩
def laws_qLine.f (k:Nat) (jc:Int) (jd:Int) (jb:Int) (ja:List Int) (j2l:Int) (j2m:Int) (j2n:Int) (j1u:List Int):Option (Bool):=if jc=j2l then (if jd=j2m then (if jb=j2n then ((laws_qSame.f k ja j1u).bind fun j6j=>(some j6j)) else (some false)) else (some false)) else (some false)
theorem laws_qLine.calls (k:Nat) (jc:Int) (jd:Int) (jb:Int) (jg:Option Addr) (jh:Nat) (ja:List Int) (j2l:Int) (j2m:Int) (j2n:Int) (j4a:Option Addr) (j4b:Nat) (j1u:List Int) (r:Bool) (w:World) (hr0_3:Kd.C Ki_ w jg ja.length ja) (hc0_3:ja.length≤jh) (hr1_3:Kd.C Ki_ w j4a j1u.length j1u) (hc1_3:j1u.length≤j4b) (h:laws_qLine.f k jc jd jb ja j2l j2m j2n j1u=some r) :
  Calls Try.prog 35 #[ag_ jc jd jb jg ja jh,ag_ j2l j2m j2n j4a j1u j4b] w fun e w'=>e=.returned (.bool r)∧Below w.heap.size w w':=by
 have hu30:=Try.underlying30;have js:=ai_ hr0_3;have jt:=ai_ hc0_3;clear hr0_3 hc0_3;have j9f:=ai_ hr1_3;have j9g:=ai_ hc1_3;clear hr1_3 hc1_3;have HB:=ai_ (Below.refl w.heap.size w);have H:=h
 unfold laws_qLine.f at H
 clear h
 by_cases c3:jc=j2l
 rotate_left
 ·rw [if_neg c3] at H
  have j4f:=beq_eq_false_iff_ne.mpr c3;have jbi:=bne_iff_ne.mpr c3;obtain rfl:=Option.some.inj H;go_enter Try.func35,Try.ntmps35
  go_wp2_with (first|((with_reducible refine gd_ 2 rfl ?_);refine bxe_ #[.int .i64 jc,.int .i64 jd,.int .i64 jb,.slice jg ja.length jh] 30 ?_;intro j4g hg w22 hbox hb;have jx:=ai_ (hbox);have j4h:=ai_ (gb_ hg (below_size (below_to HB)));have jy:=ai_ (gb_ hg (below_size (below_to HB)));replace HB:=ai_ (below_step (below_to HB) hb);clear hb hbox hg)|((with_reducible refine gd_ 3 rfl ?_);refine bxe_ #[.int .i64 j2l,.int .i64 j2m,.int .i64 j2n,.slice j4a j1u.length j4b] 30 ?_;intro j4i hg w23 hbox hb;have j1y:=ai_ (hbox);have j4j:=ai_ (gb_ hg (below_size (below_to1 HB jy.out)));have j1z:=ai_ (gb_ hg (below_size (below_to1 HB jy.out)));replace HB:=ai_ (below_step (below_to1 HB jy.out) hb);have jl:=ai_ (ne_ hg (blk_lt (blk_to jx)));replace jx:=bb_ jx hb;have j1d:=ai_ jl.out.symm;clear hb hbox hg;have jc9:=jl.out;have jca:=j1d.out;obtain ⟨j6k,j6l,j6m,j6n,j6o,j6p,j6q,j6r⟩:=blk4_ jx;obtain ⟨j3p,j3q,j3r,j3s,j3t,j3u,j3v,j3w⟩:=blk4_ j1y))
  go_ret;exact ⟨rtE_,below_to2 HB jy.out j1z.out⟩
 rw [if_pos c3] at H;have j4f:=beq_iff_eq.mpr c3;have jbi:=bne_eq_false_iff_eq.mpr c3;clear c3
 by_cases c4:jd=j2m
 rotate_left
 ·rw [if_neg c4] at H
  have j8s:=beq_eq_false_iff_ne.mpr c4;have jbj:=bne_iff_ne.mpr c4;obtain rfl:=Option.some.inj H;go_enter Try.func35,Try.ntmps35
  go_wp2_with (first|((with_reducible refine gd_ 2 rfl ?_);refine bxe_ #[.int .i64 jc,.int .i64 jd,.int .i64 jb,.slice jg ja.length jh] 30 ?_;intro j4g hg w17 hbox hb;have jx:=ai_ (hbox);have j4h:=ai_ (gb_ hg (below_size (below_to HB)));have jy:=ai_ (gb_ hg (below_size (below_to HB)));replace HB:=ai_ (below_step (below_to HB) hb);clear hb hbox hg)|((with_reducible refine gd_ 3 rfl ?_);refine bxe_ #[.int .i64 j2l,.int .i64 j2m,.int .i64 j2n,.slice j4a j1u.length j4b] 30 ?_;intro j4i hg w18 hbox hb;have j1y:=ai_ (hbox);have j4j:=ai_ (gb_ hg (below_size (below_to1 HB jy.out)));have j1z:=ai_ (gb_ hg (below_size (below_to1 HB jy.out)));replace HB:=ai_ (below_step (below_to1 HB jy.out) hb);have jl:=ai_ (ne_ hg (blk_lt (blk_to jx)));replace jx:=bb_ jx hb;have j1d:=ai_ jl.out.symm;clear hb hbox hg;have jcb:=jl.out;have jcc:=j1d.out;obtain ⟨jaa,jab,jac,jad,jae,jaf,jag,jah⟩:=blk4_ jx;obtain ⟨jai,jaj,jak,jal,jam,jan,jao,jap⟩:=blk4_ j1y))
  go_ret;exact ⟨rtE_,below_to2 HB jy.out j1z.out⟩
 rw [if_pos c4] at H;have j8s:=beq_iff_eq.mpr c4;have jbj:=bne_eq_false_iff_eq.mpr c4;clear c4
 by_cases c5:jb=j2n
 ·rw [if_pos c5] at H
  have j8t:=beq_iff_eq.mpr c5;have jbk:=bne_eq_false_iff_eq.mpr c5;clear c5;replace H:=Option.bind_eq_some_iff.mp H;obtain ⟨j6j,A60,H⟩:=H;replace H:(some j6j)=some r:=H;have A6:=ai_ A60;clear A60;obtain rfl:=Option.some.inj H;go_enter Try.func35,Try.ntmps35
  go_wp2_with (first|((with_reducible refine gd_ 2 rfl ?_);refine bxe_ #[.int .i64 jc,.int .i64 jd,.int .i64 jb,.slice jg ja.length jh] 30 ?_;intro j4g hg w7 hbox hb;have jx:=ai_ (hbox);have j4h:=ai_ (gb_ hg (below_size (below_to HB)));have jy:=ai_ (gb_ hg (below_size (below_to HB)));replace HB:=ai_ (below_step (below_to HB) hb);clear hb hbox hg)|((with_reducible refine gd_ 3 rfl ?_);refine bxe_ #[.int .i64 j2l,.int .i64 j2m,.int .i64 j2n,.slice j4a j1u.length j4b] 30 ?_;intro j4i hg w8 hbox hb;have j1y:=ai_ (hbox);have j4j:=ai_ (gb_ hg (below_size (below_to1 HB jy.out)));have j1z:=ai_ (gb_ hg (below_size (below_to1 HB jy.out)));replace HB:=ai_ (below_step (below_to1 HB jy.out) hb);have jl:=ai_ (ne_ hg (blk_lt (blk_to jx)));replace jx:=bb_ jx hb;have j1d:=ai_ jl.out.symm;clear hb hbox hg;have jbg:=jl.out;have jbh:=j1d.out;obtain ⟨j2d,j2e,j2f,j2g,j2h,j2i,j2j,j2k⟩:=blk4_ jx;obtain ⟨jaq,jar,jas,jat,jau,jav,jaw,jax⟩:=blk4_ j1y)|(go_at_call 20;(with_reducible refine (laws_qSame.calls k _ _ ja _ _ j1u j6j _ (cb_ js HB) jt.out (cb_ j9f HB) j9g.out A6.out).mono ?_);rintro e w' ⟨rfl,⟨nd,rfl⟩⟩))
  go_ret;exact ⟨rtE_,below_to2 HB jy.out j1z.out⟩
 ·rw [if_neg c5] at H
  have j8t:=beq_eq_false_iff_ne.mpr c5;have jbk:=bne_iff_ne.mpr c5;obtain rfl:=Option.some.inj H;go_enter Try.func35,Try.ntmps35
  go_wp2_with (first|((with_reducible refine gd_ 2 rfl ?_);refine bxe_ #[.int .i64 jc,.int .i64 jd,.int .i64 jb,.slice jg ja.length jh] 30 ?_;intro j4g hg w12 hbox hb;have jx:=ai_ (hbox);have j4h:=ai_ (gb_ hg (below_size (below_to HB)));have jy:=ai_ (gb_ hg (below_size (below_to HB)));replace HB:=ai_ (below_step (below_to HB) hb);clear hb hbox hg)|((with_reducible refine gd_ 3 rfl ?_);refine bxe_ #[.int .i64 j2l,.int .i64 j2m,.int .i64 j2n,.slice j4a j1u.length j4b] 30 ?_;intro j4i hg w13 hbox hb;have j1y:=ai_ (hbox);have j4j:=ai_ (gb_ hg (below_size (below_to1 HB jy.out)));have j1z:=ai_ (gb_ hg (below_size (below_to1 HB jy.out)));replace HB:=ai_ (below_step (below_to1 HB jy.out) hb);have jl:=ai_ (ne_ hg (blk_lt (blk_to jx)));replace jx:=bb_ jx hb;have j1d:=ai_ jl.out.symm;clear hb hbox hg;have jcd:=jl.out;have jce:=j1d.out;obtain ⟨j6s,j6t,j6u,j6v,j6w,j6x,j6y,j6z⟩:=blk4_ jx;obtain ⟨jay,jaz,jb0,jb1,jb2,jb3,jb4,jb5⟩:=blk4_ j1y))
  go_ret;exact ⟨rtE_,below_to2 HB jy.out j1z.out⟩
def impl_ArriveAt.f (k:Nat) (jc:Int) (jd:Int) (jb:Int) (ja:List Int) (a1:Int) (a2:Int) (a3:Int):Option (Int × Bool):=(impl_hasStops.f k jc jd jb ja (([a1,a2]:List Int))).bind fun j4k=>(if j4k=true then (if a1≥a2 then (some (0,false)) else ((impl_isMinute.f a3).bind fun j4l=>(if j4l=true then ((impl_arriveAt.f jc jd jb ja a1 a2 a3).bind fun bt702=>(some (bt702.1,bt702.2))) else (some (0,false))))) else (some (0,false)))
theorem impl_ArriveAt.calls (k:Nat) (jc:Int) (jd:Int) (jb:Int) (jg:Option Addr) (jh:Nat) (ja:List Int) (a1:Int) (a2:Int) (a3:Int) (r1:Int) (r2:Bool) (w:World) (hr0_3:Kd.C Ki_ w jg ja.length ja) (hc0_3:ja.length≤jh) (h:impl_ArriveAt.f k jc jd jb ja a1 a2 a3=some (r1,r2)) :
  Calls Try.prog 36 #[ag_ jc jd jb jg ja jh,.int .i64 a1,.int .i64 a2,.int .i64 a3] w fun e w'=>e=.returned (.tuple #[.int .i64 r1,.bool r2])∧Below w.heap.size w w':=by
 have hu30:=Try.underlying30;have js:=ai_ hr0_3;have jt:=ai_ hc0_3;clear hr0_3 hc0_3;have HB:=ai_ (Below.refl w.heap.size w);have H:=h
 unfold impl_ArriveAt.f at H
 clear h
 obtain ⟨j2o,hy697⟩:∃ y_:List Int,y_=(([a1,a2]:List Int)):=⟨_,rfl⟩
 replace H:((impl_hasStops.f k jc jd jb ja j2o).bind fun j4k=>(if j4k=true then (if a1≥a2 then (some (0,false)) else ((impl_isMinute.f a3).bind fun j4l=>(if j4l=true then ((impl_arriveAt.f jc jd jb ja a1 a2 a3).bind fun bt702=>(some (bt702.1,bt702.2))) else (some (0,false))))) else (some (0,false))))=some (r1,r2):=rx_ H hy697;have j1t:=ai_ hy697;clear hy697;obtain ⟨j4k,A5,H⟩:=bs_ H;(try dsimp only at H)
 by_cases c6:j4k=true
 rotate_left
 ·replace c6:=Bool.eq_false_iff.mpr c6
  subst c6;rw [if_neg ft_] at H;simp only [Option.some.injEq,Prod.mk.injEq] at H;obtain ⟨rfl,rfl⟩:=H;go_enter Try.func36,Try.ntmps36
  go_wp2_with (first|((with_reducible refine gd_ 4 rfl ?_);refine bxe_ #[.int .i64 jc,.int .i64 jd,.int .i64 jb,.slice jg ja.length jh] 30 ?_;intro j4m hg w31 hbox hb;have jm:=ai_ (hbox);have j4n:=ai_ (gb_ hg (below_size (below_to HB)));have jv:=ai_ (gb_ hg (below_size (below_to HB)));replace HB:=ai_ (below_step (below_to HB) hb);clear hb hbox hg;obtain ⟨j5m,j5n,j5o,j5p,j5q,j5r,j5s,j5t⟩:=blk4_ jm)|((with_reducible refine gd_ 13 rfl ?_);refine lit_ 3 13 [a1,a2] ?_;intro j8u w33 j4o hb hg_ hnew_;clear hg_ hnew_;(first|rw [← j1t.out] at j4o|(simp only [Int.reduceToNat] at j4o;rw [← j1t.out] at j4o));have jn:=ai_ (Kd.R_lower j4o (below_size (below_to1 HB jv.out)));replace jm:=bb_ jm hb;replace HB:=ai_ (below_step (below_to1 HB jv.out) hb);clear hb j4o;obtain ⟨Ao35,co35,eo35⟩:=Kd.R_slice jn.out;subst eo35)|((with_reducible refine gc_ 49 rfl ?_);refine gl_ (some 14) Try.func49 #[ag_ jc jd jb jg ja jh,.slice Ao35 j2o.length co35] ?_;(with_reducible refine (impl_hasStops.calls k jc jd jb _ _ ja _ _ j2o false _ (cb_ js HB) jt.out ?side3 ?side4 A5.out).mono ?_);(case side3=>exact cR_ jn);(case side4=>exact (Kd.R_reads' jn.out).2.1);rintro e w36 ⟨rfl,hb⟩;refine ⟨_,rfl,?_⟩;replace jn:=rb_ jn hb;replace jm:=bb_ jm hb;replace HB:=ai_ (below_step (below_to1 HB jv.out) hb);clear hb))
  go_ret2
  exact ⟨rtE_,below_to1 HB jv.out⟩
 subst c6;rw [if_pos rfl] at H
 by_cases c7:a1≥a2
 ·rw [if_pos c7] at H
  have j8v:=decide_eq_true c7;clear c7;simp only [Option.some.injEq,Prod.mk.injEq] at H;obtain ⟨rfl,rfl⟩:=H;go_enter Try.func36,Try.ntmps36
  go_wp2_with (first|((with_reducible refine gd_ 4 rfl ?_);refine bxe_ #[.int .i64 jc,.int .i64 jd,.int .i64 jb,.slice jg ja.length jh] 30 ?_;intro j4m hg w8 hbox hb;have jm:=ai_ (hbox);have j4n:=ai_ (gb_ hg (below_size (below_to HB)));have jv:=ai_ (gb_ hg (below_size (below_to HB)));replace HB:=ai_ (below_step (below_to HB) hb);clear hb hbox hg;obtain ⟨jbl,jbm,jbn,jbo,jbp,jbq,jbr,jbs⟩:=blk4_ jm)|((with_reducible refine gd_ 13 rfl ?_);refine lit_ 3 13 [a1,a2] ?_;intro j8u w10 j4p hb hg_ hnew_;clear hg_ hnew_;(first|rw [← j1t.out] at j4p|(simp only [Int.reduceToNat] at j4p;rw [← j1t.out] at j4p));have jn:=ai_ (Kd.R_lower j4p (below_size (below_to1 HB jv.out)));replace jm:=bb_ jm hb;replace HB:=ai_ (below_step (below_to1 HB jv.out) hb);clear hb j4p;obtain ⟨Ao12,co12,eo12⟩:=Kd.R_slice jn.out;subst eo12)|((with_reducible refine gc_ 49 rfl ?_);refine gl_ (some 14) Try.func49 #[ag_ jc jd jb jg ja jh,.slice Ao12 j2o.length co12] ?_;(with_reducible refine (impl_hasStops.calls k jc jd jb _ _ ja _ _ j2o true _ (cb_ js HB) jt.out ?side3 ?side4 A5.out).mono ?_);(case side3=>exact cR_ jn);(case side4=>exact (Kd.R_reads' jn.out).2.1);rintro e w13 ⟨rfl,hb⟩;refine ⟨_,rfl,?_⟩;replace jn:=rb_ jn hb;replace jm:=bb_ jm hb;replace HB:=ai_ (below_step (below_to1 HB jv.out) hb);clear hb))
  go_ret2
  exact ⟨rtE_,below_to1 HB jv.out⟩
 rw [if_neg c7] at H;have j8v:=decide_eq_false c7;clear c7;obtain ⟨j4l,A14,H⟩:=bs_ H;(try dsimp only at H)
 by_cases c15:j4l=true
 ·subst c15
  rw [if_pos rfl] at H;obtain ⟨⟨jbt,jbu⟩,A16,H⟩:=bs_ H;(try dsimp only at H);simp only [Option.some.injEq,Prod.mk.injEq] at H;obtain ⟨rfl,rfl⟩:=H;go_enter Try.func36,Try.ntmps36
  go_wp2_with (first|((with_reducible refine gd_ 4 rfl ?_);refine bxe_ #[.int .i64 jc,.int .i64 jd,.int .i64 jb,.slice jg ja.length jh] 30 ?_;intro j4m hg w17 hbox hb;have jm:=ai_ (hbox);have j4n:=ai_ (gb_ hg (below_size (below_to HB)));have jv:=ai_ (gb_ hg (below_size (below_to HB)));replace HB:=ai_ (below_step (below_to HB) hb);clear hb hbox hg;obtain ⟨j7a,j7b,j7c,j7d,j7e,j7f,j7g,j7h⟩:=blk4_ jm)|((with_reducible refine gd_ 13 rfl ?_);refine lit_ 3 13 [a1,a2] ?_;intro j8u w19 j2a hb hg_ hnew_;clear hg_ hnew_;(first|rw [← j1t.out] at j2a|(simp only [Int.reduceToNat] at j2a;rw [← j1t.out] at j2a));have jn:=ai_ (Kd.R_lower j2a (below_size (below_to1 HB jv.out)));replace jm:=bb_ jm hb;replace HB:=ai_ (below_step (below_to1 HB jv.out) hb);clear hb j2a;obtain ⟨Ao21,co21,eo21⟩:=Kd.R_slice jn.out;subst eo21)|((with_reducible refine gc_ 49 rfl ?_);refine gl_ (some 14) Try.func49 #[ag_ jc jd jb jg ja jh,.slice Ao21 j2o.length co21] ?_;(with_reducible refine (impl_hasStops.calls k jc jd jb _ _ ja _ _ j2o true _ (cb_ js HB) jt.out ?side3 ?side4 A5.out).mono ?_);(case side3=>exact cR_ jn);(case side4=>exact (Kd.R_reads' jn.out).2.1);rintro e w22 ⟨rfl,hb⟩;refine ⟨_,rfl,?_⟩;replace jn:=rb_ jn hb;replace jm:=bb_ jm hb;replace HB:=ai_ (below_step (below_to1 HB jv.out) hb);clear hb)|(go_at_call 51;(with_reducible refine (impl_isMinute.calls a3 true _ A14.out).mono ?_);rintro e w' ⟨rfl,⟨nd,rfl⟩⟩;obtain ⟨j7i,j7j,j7k,j7l,j7m,j7n,j7o,j7p⟩:=blk4_ jm)|((with_reducible refine gc_ 70 rfl ?_);refine gl_ (some 30) Try.func70 #[ag_ jc jd jb jg ja jh,.int .i64 a1,.int .i64 a2,.int .i64 a3] ?_;(with_reducible refine (impl_arriveAt.calls jc jd jb _ _ ja a1 a2 a3 jbt jbu _ ?side1 jt.out A16.out).mono ?_);(case side1=>repeat (first|exact (Kd.C_below js.out (below_to1 HB jv.out))|(with_reducible refine Kd.C_alloc ?_ _)|(with_reducible refine Kd.C_drewN ?_ _)|(with_reducible refine Kd.C_drew ?_)));rintro e w24 ⟨rfl,hb⟩;refine ⟨_,rfl,?_⟩;replace jn:=rb_ jn hb;replace jm:=bb_ jm hb;replace HB:=ai_ (below_step (below_to1 HB jv.out) hb);clear hb))
  go_ret2
  exact ⟨rtE_,below_to1 HB jv.out⟩
 ·replace c15:=Bool.eq_false_iff.mpr c15
  subst c15;rw [if_neg ft_] at H;simp only [Option.some.injEq,Prod.mk.injEq] at H;obtain ⟨rfl,rfl⟩:=H;go_enter Try.func36,Try.ntmps36
  go_wp2_with (first|((with_reducible refine gd_ 4 rfl ?_);refine bxe_ #[.int .i64 jc,.int .i64 jd,.int .i64 jb,.slice jg ja.length jh] 30 ?_;intro j4m hg w25 hbox hb;have jm:=ai_ (hbox);have j4n:=ai_ (gb_ hg (below_size (below_to HB)));have jv:=ai_ (gb_ hg (below_size (below_to HB)));replace HB:=ai_ (below_step (below_to HB) hb);clear hb hbox hg;obtain ⟨j3p,j3q,j3r,j3s,j3t,j3u,j3v,j3w⟩:=blk4_ jm)|((with_reducible refine gd_ 13 rfl ?_);refine lit_ 3 13 [a1,a2] ?_;intro j8u w27 j4q hb hg_ hnew_;clear hg_ hnew_;(first|rw [← j1t.out] at j4q|(simp only [Int.reduceToNat] at j4q;rw [← j1t.out] at j4q));have jn:=ai_ (Kd.R_lower j4q (below_size (below_to1 HB jv.out)));replace jm:=bb_ jm hb;replace HB:=ai_ (below_step (below_to1 HB jv.out) hb);clear hb j4q;obtain ⟨Ao29,co29,eo29⟩:=Kd.R_slice jn.out;subst eo29)|((with_reducible refine gc_ 49 rfl ?_);refine gl_ (some 14) Try.func49 #[ag_ jc jd jb jg ja jh,.slice Ao29 j2o.length co29] ?_;(with_reducible refine (impl_hasStops.calls k jc jd jb _ _ ja _ _ j2o true _ (cb_ js HB) jt.out ?side3 ?side4 A5.out).mono ?_);(case side3=>exact cR_ jn);(case side4=>exact (Kd.R_reads' jn.out).2.1);rintro e w30 ⟨rfl,hb⟩;refine ⟨_,rfl,?_⟩;replace jn:=rb_ jn hb;replace jm:=bb_ jm hb;replace HB:=ai_ (below_step (below_to1 HB jv.out) hb);clear hb)|(go_at_call 51;(with_reducible refine (impl_isMinute.calls a3 false _ A14.out).mono ?_);rintro e w' ⟨rfl,⟨nd,rfl⟩⟩))
  go_ret2
  exact ⟨rtE_,below_to1 HB jv.out⟩
def laws_qRises.l0:Nat→List Int→Int→Option (Bool)
 | 0,_,_=>none
 | k+1,x0,x3=>if x3 < (x0.length:Int) then (if 0≤(wrap64 (x3 - 1)) then (if (wrap64 (x3 - 1)) < (x0.length:Int) then (if 0≤x3 then (if (rd x0 (wrap64 (x3 - 1)))≥(rd x0 x3) then (some false) else (laws_qRises.l0 k x0 (wrap64 (x3+1)))) else (none)) else (none)) else (none)) else (some true)
def laws_qRises.f (k:Nat) (l0:List Int):Option (Bool):=laws_qRises.l0 k l0 1
theorem laws_qRises.calls (k:Nat) (A0:Option Addr) (c0:Nat) (l0:List Int) (r:Bool) (w:World) (hr0:Kd.C Ki_ w A0 l0.length l0) (hc0:l0.length≤c0) (h:laws_qRises.f k l0=some r) :
  Calls Try.prog 37 #[.slice A0 l0.length c0] w fun e w'=>e=.returned (.bool r)∧Drawn0 w w':=by
 have HR0:=ai_ hr0;have HC0:=ai_ hc0;clear hr0 hc0;have H:(laws_qRises.l0 k l0 1)=some r:=h;clear h;have H':=ai_ H;clear H;go_enter Try.func37,Try.ntmps37
 go_wp2
 repeat (go_quiet (fail);try go_wp2)
 go_loopg [3] k (fun kq v3 w' => ∃ (j1m:Int),v3=.int .i64 j1m∧Aside0 (laws_qRises.l0 kq l0 j1m=some r)∧Aside0 (kq≤k)∧Drawn0 w w')
 case atStart=>exact ⟨(1),rt_,H',⟨Nat.le_refl _⟩,d0_⟩
 clear H';obtain ⟨j1m,rfl,HA,HK1,⟨m1,rfl⟩⟩:=hrel
 cases gk with
 | zero=>exact absurd HA.out (by simp [laws_qRises.l0])
 | succ k1 =>
  have H:=HA.out;clear HA;simp only [laws_qRises.l0] at H
  by_cases c2:j1m < (l0.length:Int)
  rotate_left
  ·rw [if_neg c2] at H
   have jbv:=decide_eq_false c2;clear c2;obtain rfl:=Option.some.inj H
   go_wp2
   repeat (go_quiet (fail);try go_wp2)
   go_ret;exact ⟨rt_,d0_⟩
  rw [if_pos c2] at H;have jbv:=decide_eq_true c2;clear c2
  obtain ⟨ji3,j7q⟩:∃ j_:Int,(wrap64 (j1m - 1))=j_:=⟨_,rfl⟩
  replace H:(if 0≤(ji3) then (if (ji3) < (l0.length:Int) then (if 0≤j1m then (if (rd l0 (ji3))≥(rd l0 j1m) then (some false) else (laws_qRises.l0 k1 l0 (wrap64 (j1m+1)))) else (none)) else (none)) else (none))=some r:=by first|(rw [j7q] at H;exact H)|(simp only [j7q] at H ⊢;exact H)
  have jcf:(IntKind.i64.wrap (j1m - 1))=ji3:=(i64_w _).trans j7q
  by_cases c4:0≤(ji3)
  rotate_left
  ·rw [if_neg c4] at H
   cases H
  rw [if_pos c4] at H;have j8s:=decide_eq_true c4;clear c4
  by_cases c5:(ji3) < (l0.length:Int)
  rotate_left
  ·rw [if_neg c5] at H
   cases H
  rw [if_pos c5] at H;have j8t:=decide_eq_true c5;clear c5
  by_cases c6:0≤j1m
  rotate_left
  ·rw [if_neg c6] at H
   cases H
  rw [if_pos c6] at H;have j9h:=decide_eq_true c6;clear c6
  by_cases c7:(rd l0 (ji3))≥(rd l0 j1m)
  ·rw [if_pos c7] at H
   have j8v:=decide_eq_true c7;clear c7;obtain rfl:=Option.some.inj H;have j3f:0≤((ji3):Int):=odt_;have j3g:(ji3) < (l0.length:Int):=odt_;obtain ⟨j4r,e704,j7r⟩:=Kd.at_int HR0.out (ji3) j3f j3g
   cases e704
   replace j3f:=eq_true j3f;replace j3g:=eq_true j3g;have j3h:0≤(j1m:Int):=odt_;have j3i:j1m < (l0.length:Int):=odt_;obtain ⟨j4s,e705,j7s⟩:=Kd.at_int HR0.out j1m j3h j3i
   obtain rfl:j4r=j4s:=(by injection e705)
   replace j3h:=eq_true j3h;replace j3i:=eq_true j3i
   go_wp2
   repeat (go_quiet (fail);try go_wp2)
   go_ret;exact ⟨by first|rfl|(simp;done)|(simp only [← j7q] <;> (first|rfl|simp))|(simp [*];done),d0_⟩
  ·rw [if_neg c7] at H
   have j8v:=decide_eq_false c7;clear c7;have H':=ai_ H;clear H;have j3f:0≤((ji3):Int):=odt_;have j3g:(ji3) < (l0.length:Int):=odt_;obtain ⟨j4r,e704,j7r⟩:=Kd.at_int HR0.out (ji3) j3f j3g
   cases e704
   replace j3f:=eq_true j3f;replace j3g:=eq_true j3g;have j3h:0≤(j1m:Int):=odt_;have j3i:j1m < (l0.length:Int):=odt_;obtain ⟨j4s,e705,j7s⟩:=Kd.at_int HR0.out j1m j3h j3i
   obtain rfl:j4r=j4s:=(by injection e705)
   replace j3h:=eq_true j3h;replace j3i:=eq_true j3i
   go_wp2
   repeat (go_quiet (fail);try go_wp2)
   go_roundg k1
   case measure=>have:=HK1.out;omega
   case rel=>exact ⟨(wrap64 (j1m+1)),rt_,H',⟨by have:=HK1.out;omega⟩,d0_⟩
def laws_qHas.l0:Nat→Int→List Int→Int→Int→Option (Bool)
 | 0,_,_,_,_=>none
 | k+1,x1,x7,x8,x9=>if x9 < x8 then (if 0≤x9 then (if x9 < (x7.length:Int) then (if (rd x7 x9)=x1 then (some true) else (laws_qHas.l0 k x1 x7 x8 (wrap64 (x9+1)))) else (none)) else (none)) else (some false)
def laws_qHas.f (k:Nat) (l0:List Int) (a1:Int):Option (Bool):=laws_qHas.l0 k a1 l0 (l0.length:Int) 0
theorem laws_qHas.calls (k:Nat) (A0:Option Addr) (c0:Nat) (l0:List Int) (a1:Int) (r:Bool) (w:World) (hr0:Kd.C Ki_ w A0 l0.length l0) (hc0:l0.length≤c0) (h:laws_qHas.f k l0 a1=some r) :
  Calls Try.prog 38 #[.slice A0 l0.length c0,.int .i64 a1] w fun e w'=>e=.returned (.bool r)∧Drawn0 w w':=by
 have HR0:=ai_ hr0;have HC0:=ai_ hc0;clear hr0 hc0;have H:(laws_qHas.l0 k a1 l0 (l0.length:Int) 0)=some r:=h;clear h;have H':=ai_ H;clear H;go_enter Try.func38,Try.ntmps38
 go_wp2
 go_loopg [9] k (fun kq v9 w' => ∃ (j1h:Int),v9=.int .i64 j1h∧Aside0 (laws_qHas.l0 kq a1 l0 (l0.length:Int) j1h=some r)∧Aside0 (kq≤k)∧Drawn0 w w')
 case atStart=>exact ⟨(0),rt_,H',⟨Nat.le_refl _⟩,d0_⟩
 clear H'
 try clear p2
 obtain ⟨j1h,rfl,HA,HK1,⟨m1,rfl⟩⟩:=hrel
 cases gk with
 | zero=>exact absurd HA.out (by simp [laws_qHas.l0])
 | succ k1 =>
  have H:=HA.out;clear HA;simp only [laws_qHas.l0] at H
  by_cases c3:j1h < (l0.length:Int)
  rotate_left
  ·rw [if_neg c3] at H
   have j4f:=decide_eq_false c3;clear c3;obtain rfl:=Option.some.inj H
   go_wp2
   go_ret;exact ⟨rt_,d0_⟩
  rw [if_pos c3] at H;have j4f:=decide_eq_true c3;clear c3
  by_cases c4:0≤j1h
  rotate_left
  ·rw [if_neg c4] at H
   cases H
  rw [if_pos c4] at H;have j8s:=decide_eq_true c4;clear c4
  by_cases c5:j1h < (l0.length:Int)
  rotate_left
  ·rw [if_neg c5] at H
   cases H
  rw [if_pos c5] at H;have j8t:=decide_eq_true c5;clear c5
  by_cases c6:(rd l0 j1h)=a1
  ·rw [if_pos c6] at H
   have j9h:=beq_iff_eq.mpr c6;have jbw:=bne_eq_false_iff_eq.mpr c6;clear c6;obtain rfl:=Option.some.inj H;have j3j:0≤(j1h:Int):=odt_;have j3k:j1h < (l0.length:Int):=odt_;obtain ⟨j9i,e706,j7t⟩:=Kd.at_int HR0.out j1h j3j j3k
   cases e706
   replace j3j:=eq_true j3j;replace j3k:=eq_true j3k
   go_wp2
   go_ret;exact ⟨rt_,d0_⟩
  ·rw [if_neg c6] at H
   have j9h:=beq_eq_false_iff_ne.mpr c6;have jbw:=bne_iff_ne.mpr c6;have H':=ai_ H;clear H;have j3j:0≤(j1h:Int):=odt_;have j3k:j1h < (l0.length:Int):=odt_;obtain ⟨j9i,e706,j7t⟩:=Kd.at_int HR0.out j1h j3j j3k
   cases e706
   replace j3j:=eq_true j3j;replace j3k:=eq_true j3k
   go_wp2
   go_roundg k1
   case measure=>have:=HK1.out;omega
   case rel=>exact ⟨(wrap64 (j1h+1)),rt_,H',⟨by have:=HK1.out;omega⟩,d0_⟩
def impl_TimeAtStop.f (k:Nat) (jc:Int) (jd:Int) (jb:Int) (ja:List Int) (a1:Int) (a2:Int):Option (Int × Bool):=(impl_hasStops.f k jc jd jb ja (([a2]:List Int))).bind fun j4t=>(if j4t=true then ((impl_within.f a1 0 (wrap64 (jb - 1))).bind fun j4u=>(if j4u=true then ((impl_timeAt.f jc jd jb ja a1 a2).bind fun j4v=>(some (j4v,true))) else (some (0,false)))) else (some (0,false)))
theorem impl_TimeAtStop.calls (k:Nat) (jc:Int) (jd:Int) (jb:Int) (jg:Option Addr) (jh:Nat) (ja:List Int) (a1:Int) (a2:Int) (r1:Int) (r2:Bool) (w:World) (hr0_3:Kd.C Ki_ w jg ja.length ja) (hc0_3:ja.length≤jh) (h:impl_TimeAtStop.f k jc jd jb ja a1 a2=some (r1,r2)) :
  Calls Try.prog 39 #[ag_ jc jd jb jg ja jh,.int .i64 a1,.int .i64 a2] w fun e w'=>e=.returned (.tuple #[.int .i64 r1,.bool r2])∧Below w.heap.size w w':=by
 have hu30:=Try.underlying30;have js:=ai_ hr0_3;have jt:=ai_ hc0_3;clear hr0_3 hc0_3;have HB:=ai_ (Below.refl w.heap.size w);have H:=h
 unfold impl_TimeAtStop.f at H
 clear h
 obtain ⟨j3l,hy708⟩:∃ y_:List Int,y_=(([a2]:List Int)):=⟨_,rfl⟩
 replace H:((impl_hasStops.f k jc jd jb ja j3l).bind fun j4t=>(if j4t=true then ((impl_within.f a1 0 (wrap64 (jb - 1))).bind fun j4u=>(if j4u=true then ((impl_timeAt.f jc jd jb ja a1 a2).bind fun j4v=>(some (j4v,true))) else (some (0,false)))) else (some (0,false))))=some (r1,r2):=rx_ H hy708;have j2c:=ai_ hy708;clear hy708;obtain ⟨j4t,A4,H⟩:=bs_ H;(try dsimp only at H)
 by_cases c5:j4t=true
 rotate_left
 ·replace c5:=Bool.eq_false_iff.mpr c5
  subst c5;rw [if_neg ft_] at H;simp only [Option.some.injEq,Prod.mk.injEq] at H;obtain ⟨rfl,rfl⟩:=H;go_enter Try.func39,Try.ntmps39
  go_wp2_with (first|((with_reducible refine gd_ 3 rfl ?_);refine bxe_ #[.int .i64 jc,.int .i64 jd,.int .i64 jb,.slice jg ja.length jh] 30 ?_;intro j8a hg w24 hbox hb;have jw:=ai_ (hbox);have j8b:=ai_ (gb_ hg (below_size (below_to HB)));have j1e:=ai_ (gb_ hg (below_size (below_to HB)));replace HB:=ai_ (below_step (below_to HB) hb);clear hb hbox hg;obtain ⟨j6k,j6l,j6m,j6n,j6o,j6p,j6q,j6r⟩:=blk4_ jw)|((with_reducible refine gd_ 10 rfl ?_);refine lit_ 3 10 [a2] ?_;intro j9j w26 j4w hb hg_ hnew_;clear hg_ hnew_;(first|rw [← j2c.out] at j4w|(simp only [Int.reduceToNat] at j4w;rw [← j2c.out] at j4w));have jz:=ai_ (Kd.R_lower j4w (below_size (below_to1 HB j1e.out)));replace jw:=bb_ jw hb;replace HB:=ai_ (below_step (below_to1 HB j1e.out) hb);clear hb j4w;obtain ⟨Ao28,co28,eo28⟩:=Kd.R_slice jz.out;subst eo28)|((with_reducible refine gc_ 49 rfl ?_);refine gl_ (some 11) Try.func49 #[ag_ jc jd jb jg ja jh,.slice Ao28 j3l.length co28] ?_;(with_reducible refine (impl_hasStops.calls k jc jd jb _ _ ja _ _ j3l false _ (cb_ js HB) jt.out ?side3 ?side4 A4.out).mono ?_);(case side3=>exact cR_ jz);(case side4=>exact (Kd.R_reads' jz.out).2.1);rintro e w29 ⟨rfl,hb⟩;refine ⟨_,rfl,?_⟩;replace jz:=rb_ jz hb;replace jw:=bb_ jw hb;replace HB:=ai_ (below_step (below_to1 HB j1e.out) hb);clear hb))
  go_ret2
  exact ⟨rtE_,below_to1 HB j1e.out⟩
 subst c5;rw [if_pos rfl] at H;obtain ⟨j4u,A6,H⟩:=bs_ H;(try dsimp only at H)
 by_cases c7:j4u=true
 ·subst c7
  rw [if_pos rfl] at H;obtain ⟨j4v,A8,H⟩:=bs_ H;(try dsimp only at H);simp only [Option.some.injEq,Prod.mk.injEq] at H;obtain ⟨rfl,rfl⟩:=H;go_enter Try.func39,Try.ntmps39
  go_wp2_with (first|((with_reducible refine gd_ 3 rfl ?_);refine bxe_ #[.int .i64 jc,.int .i64 jd,.int .i64 jb,.slice jg ja.length jh] 30 ?_;intro j8a hg w9 hbox hb;have jw:=ai_ (hbox);have j8b:=ai_ (gb_ hg (below_size (below_to HB)));have j1e:=ai_ (gb_ hg (below_size (below_to HB)));replace HB:=ai_ (below_step (below_to HB) hb);clear hb hbox hg;obtain ⟨j2d,j2e,j2f,j2g,j2h,j2i,j2j,j2k⟩:=blk4_ jw)|((with_reducible refine gd_ 10 rfl ?_);refine lit_ 3 10 [a2] ?_;intro j9j w11 j4x hb hg_ hnew_;clear hg_ hnew_;(first|rw [← j2c.out] at j4x|(simp only [Int.reduceToNat] at j4x;rw [← j2c.out] at j4x));have jz:=ai_ (Kd.R_lower j4x (below_size (below_to1 HB j1e.out)));replace jw:=bb_ jw hb;replace HB:=ai_ (below_step (below_to1 HB j1e.out) hb);clear hb j4x;obtain ⟨Ao13,co13,eo13⟩:=Kd.R_slice jz.out;subst eo13)|((with_reducible refine gc_ 49 rfl ?_);refine gl_ (some 11) Try.func49 #[ag_ jc jd jb jg ja jh,.slice Ao13 j3l.length co13] ?_;(with_reducible refine (impl_hasStops.calls k jc jd jb _ _ ja _ _ j3l true _ (cb_ js HB) jt.out ?side3 ?side4 A4.out).mono ?_);(case side3=>exact cR_ jz);(case side4=>exact (Kd.R_reads' jz.out).2.1);rintro e w14 ⟨rfl,hb⟩;refine ⟨_,rfl,?_⟩;replace jz:=rb_ jz hb;replace jw:=bb_ jw hb;replace HB:=ai_ (below_step (below_to1 HB j1e.out) hb);clear hb;obtain ⟨j6s,j6t,j6u,j6v,j6w,j6x,j6y,j6z⟩:=blk4_ jw)|(go_at_call 50;(with_reducible refine (impl_within.calls a1 0 (wrap64 (jb - 1)) true _ A6.out).mono ?_);rintro e w' ⟨rfl,⟨nd,rfl⟩⟩)|((with_reducible refine gc_ 61 rfl ?_);refine gl_ (some 24) Try.func61 #[ag_ jc jd jb jg ja jh,.int .i64 a1,.int .i64 a2] ?_;(with_reducible refine (impl_timeAt.calls jc jd jb _ _ ja a1 a2 j4v _ ?side1 jt.out A8.out).mono ?_);(case side1=>repeat (first|exact (Kd.C_below js.out (below_to1 HB j1e.out))|(with_reducible refine Kd.C_alloc ?_ _)|(with_reducible refine Kd.C_drewN ?_ _)|(with_reducible refine Kd.C_drew ?_)));rintro e w16 ⟨rfl,hb⟩;refine ⟨_,rfl,?_⟩;replace jz:=rb_ jz hb;replace jw:=bb_ jw hb;replace HB:=ai_ (below_step (below_to1 HB j1e.out) hb);clear hb))
  go_ret2
  exact ⟨rtE_,below_to1 HB j1e.out⟩
 ·replace c7:=Bool.eq_false_iff.mpr c7
  subst c7;rw [if_neg ft_] at H;simp only [Option.some.injEq,Prod.mk.injEq] at H;obtain ⟨rfl,rfl⟩:=H;go_enter Try.func39,Try.ntmps39
  go_wp2_with (first|((with_reducible refine gd_ 3 rfl ?_);refine bxe_ #[.int .i64 jc,.int .i64 jd,.int .i64 jb,.slice jg ja.length jh] 30 ?_;intro j8a hg w17 hbox hb;have jw:=ai_ (hbox);have j8b:=ai_ (gb_ hg (below_size (below_to HB)));have j1e:=ai_ (gb_ hg (below_size (below_to HB)));replace HB:=ai_ (below_step (below_to HB) hb);clear hb hbox hg;obtain ⟨j7a,j7b,j7c,j7d,j7e,j7f,j7g,j7h⟩:=blk4_ jw)|((with_reducible refine gd_ 10 rfl ?_);refine lit_ 3 10 [a2] ?_;intro j9j w19 j2a hb hg_ hnew_;clear hg_ hnew_;(first|rw [← j2c.out] at j2a|(simp only [Int.reduceToNat] at j2a;rw [← j2c.out] at j2a));have jz:=ai_ (Kd.R_lower j2a (below_size (below_to1 HB j1e.out)));replace jw:=bb_ jw hb;replace HB:=ai_ (below_step (below_to1 HB j1e.out) hb);clear hb j2a;obtain ⟨Ao21,co21,eo21⟩:=Kd.R_slice jz.out;subst eo21)|((with_reducible refine gc_ 49 rfl ?_);refine gl_ (some 11) Try.func49 #[ag_ jc jd jb jg ja jh,.slice Ao21 j3l.length co21] ?_;(with_reducible refine (impl_hasStops.calls k jc jd jb _ _ ja _ _ j3l true _ (cb_ js HB) jt.out ?side3 ?side4 A4.out).mono ?_);(case side3=>exact cR_ jz);(case side4=>exact (Kd.R_reads' jz.out).2.1);rintro e w22 ⟨rfl,hb⟩;refine ⟨_,rfl,?_⟩;replace jz:=rb_ jz hb;replace jw:=bb_ jw hb;replace HB:=ai_ (below_step (below_to1 HB j1e.out) hb);clear hb;obtain ⟨j7i,j7j,j7k,j7l,j7m,j7n,j7o,j7p⟩:=blk4_ jw)|(go_at_call 50;(with_reducible refine (impl_within.calls a1 0 (wrap64 (jb - 1)) false _ A6.out).mono ?_);rintro e w' ⟨rfl,⟨nd,rfl⟩⟩))
  go_ret2
  exact ⟨rtE_,below_to1 HB j1e.out⟩
end Go.Proofs.Ythdnodmidbcgpaa.QE
