import Derived.Test.YthdnodmidbcgpaaGreatDoorQRx4
namespace Go.Proofs.YthdnodmidbcgpaaGreatDoor.QR
open Go.Proofs.YthdnodmidbcgpaaGreatDoor.X Go.RowKit Go.Proofs.YthdnodmidbcgpaaGreatDoorW.PrintWords Go.Proofs.YthdnodmidbcgpaaGreatDoorW.PrintLast Go.Proofs.YthdnodmidbcgpaaGreatDoorW.PrintMore
set_option maxHeartbeats 8000000
set_option maxRecDepth 100000
attribute [local go_sem] max2_int min2_int max_two min_two max_three min_three max_four min_four
set_option linter.unusedVariables false
set_option linter.unusedSimpArgs false
def spec_l1Num.f:Nat→Int→Option (ByteArray)
 | 0,_=>none
 | k+1,a0=>if a0 < 10 then (some (strOfNums (([(wrap64 (48+a0)) % 256]:List Int)))) else ((spec_l1Num.f k (wrap64 (Int.tdiv a0 10))).bind fun jk=>((some (([(wrap64 (48+(Int.tmod a0 10))) % 256]:List Int):List Int)).bind fun jo=>(if jk.size+(strOfNums jo).size≤9223372036854775807 then (some (jk ++ (strOfNums jo))) else (none))))
def spec_l1Num.T3:Bool × List (List Nat × List Nat):=(true,[([],[]),([0],[0]),([1],[1]),([],[]),([3],[3]),([4],[4]),([5],[5]),([6],[6]),([7],[7]),([2,8],[2,8]),([9,2,0,1,2,3,4,5,6,7,8,9],[9])])
def spec_l1Num.B3:List Nat:=[0,1,3,0,8,24,56,120,248,511,1023]
theorem spec_l1Num.tab3:rtab .any (opsOf Tryz.f75 3)=spec_l1Num.T3:=by kernel_rfl
theorem spec_l1Num.bits3:waitsOk spec_l1Num.T3.2 spec_l1Num.B3=true:=by kernel_rfl
theorem spec_l1Num.calls (k:Nat):∀ (a0:Int) (r:ByteArray) (w:World) (h:spec_l1Num.f k a0=some r),
  Calls Tryz.prog 75 #[.int .i64 a0] w fun e w'=>e=.returned (.string r)∧Below w.heap.size w w':=by
 induction k using Nat.strongRecOn with
 | _ k ih =>
 intro a0 r w h
 cases k with
 | zero=>exact absurd h (by simp [spec_l1Num.f])
 | succ k =>
 simp only [spec_l1Num.f] at h
 have HB:=ai_ (Below.refl w.heap.size w)
 have H:(if a0 < 10 then (some (strOfNums (([(wrap64 (48+a0)) % 256]:List Int)))) else ((spec_l1Num.f k (wrap64 (Int.tdiv a0 10))).bind fun jk=>((some (([(wrap64 (48+(Int.tmod a0 10))) % 256]:List Int):List Int)).bind fun jo=>(if jk.size+(strOfNums jo).size≤9223372036854775807 then (some (jk ++ (strOfNums jo))) else (none)))))=some r:=h
 clear h
 by_cases c2:a0 < 10
 ·rw [if_pos c2] at H
  have j2d:=decide_eq_true c2
  clear c2
  obtain ⟨j2e,hy313⟩:∃ y_:List Int,y_=(([(wrap64 (48+a0)) % 256]:List Int)):=⟨_,rfl⟩
  replace H:(some (strOfNums j2e))=some r:=by first|(rw [hy313];with_reducible exact H)|(have H2_:=(Option.bind_some _ _).symm.trans H;rw [hy313];with_reducible exact H2_)|(have H2_:=(Option.bind_some _ _).symm.trans H;with_reducible exact H2_)|with_reducible exact H|(rw [hy313];exact H)|exact H
  have j1m:=ai_ hy313
  clear hy313
  obtain rfl:=Option.some.inj H
  go_enter Tryz.func75,Tryz.ntmps75
  go_wp2_with (first|((with_reducible refine gate_dst (N:=8) rfl ?_);refine Kd.R_lit (Kd.int .u8) _ 5 ?hg (N:=8) ?hd (xs:=([(wrap64 (48+a0)) % 256]:List Int)) (inner:=[.int .u8 ((wrap64 (48+a0)) % 256)]) (ok:=fun _=>True) (okp:=fun _=>True) ?hr ?hp (fun _ hk=>hk) trivial (Below.refl _ _) (Nat.le_refl _) (by simp) ?_;(case hd=>rfl);(case hg=>rfl);(case hr=>first|(go_simp;done)|(go_simp;rfl));(case hp=>exact (Reps.one (show Kd.M (Kd.int .u8) _ _ _ ((wrap64 (48+a0)) % 256) [.int .u8 ((wrap64 (48+a0)) % 256)] from rfl) (Reps.none _ _)));intro j3y w3 ho4 hb hg_ hnew_;clear hg_ hnew_;(first|rw [← j1m.out] at ho4|(simp only [Int.reduceToNat] at ho4;rw [← j1m.out] at ho4));have j1p:=ai_ (Kd.R_lower ho4 (below_size (below_to HB)));replace HB:=ai_ (below_step (below_to HB) hb);clear hb ho4;have hcv5:=own_string (P:=Tryz.prog) Tryz.underlying22 Tryz.underlying5 Tryz.underlying9 (Kd.own_of_R j1p.out)))
  go_ret
  exact ⟨rtE_,below_to HB⟩
 rw [if_neg c2] at H
 have j2d:=decide_eq_false c2
 clear c2
 obtain ⟨jk,A6,H⟩:=bs_ H
 (try dsimp only at H)
 obtain ⟨jo,hy317⟩:∃ y_:List Int,y_=(([(wrap64 (48+(Int.tmod a0 10))) % 256]:List Int)):=⟨_,rfl⟩
 replace H:(if jk.size+(strOfNums jo).size≤9223372036854775807 then (some (jk ++ (strOfNums jo))) else (none))=some r:=by first|(rw [hy317];with_reducible exact H)|(have H2_:=(Option.bind_some _ _).symm.trans H;rw [hy317];with_reducible exact H2_)|(have H2_:=(Option.bind_some _ _).symm.trans H;with_reducible exact H2_)|with_reducible exact H|(rw [hy317];exact H)|exact H
 have jz:=ai_ hy317
 clear hy317
 by_cases c7:jk.size+(strOfNums jo).size≤9223372036854775807
 rotate_left
 ·rw [if_neg c7] at H
  cases H
 rw [if_pos c7] at H
 have j3z:=eq_true c7
 have j4a:=decide_eq_true c7
 try have j4b:(9223372036854775807 < jk.size+(strOfNums jo).size)=False:=eq_false (Nat.not_lt.2 c7)
 obtain rfl:=Option.some.inj H
 go_enter Tryz.func75,Tryz.ntmps75
 try go_wp2
 have n0_:=ai_ (below_drew1 HB.out)
 clear HB
 have HB:=n0_
 clear n0_
 refine start_ (n:=11) (S:=fun w'=>True) (ds:=[]) #[false,false,false,false,false,false,false,false,false,false,false] (by kernel_rfl) rfl rfl trivial (fun hHeld=>?_);refine with_tabW spec_l1Num.tab3 spec_l1Num.bits3 (fun HT_ HW_=>?_)
 generalize w.drew=w8 at HB hHeld ⊢
 refine purS_ (i:=0) (N:=some 10) (fl_ 11 1) HT_.out ?_
 refine purS_ (i:=1) (N:=some 11) (fl_ 11 2) HT_.out ?_
 refine purS_ (i:=3) (N:=some 13) #[true,true,false,true,false,false,false,false,false,false,false] HT_.out ?_
 refine purS_ (i:=4) (N:=some 14) #[true,true,false,true,true,false,false,false,false,false,false] HT_.out ?_
 refine purS_ (i:=5) (N:=some 15) #[true,true,false,true,true,true,false,false,false,false,false] HT_.out ?_
 refine purS_ (i:=6) (N:=some 16) #[true,true,false,true,true,true,true,false,false,false,false] HT_.out ?_
 refine join_ (σ:=Value) 2 #[true,true,true,true,true,true,true,true,true,false,false] (fun s_=>[(12,.string jk),(17,s_),(18,.string (strOfNums jo))]) (fun s_ w'=>(Kd.R (Kd.int .u8) 5 w' w.heap.size (fun _=>True) s_ jo)∧(Below w.heap.size w w')) ?_ ?_
 rotate_left
 ·intro hCont
  refine two_ (i:=2) (j:=7) (Ni:=some 12) (Nj:=some 17) #[true,true,true,true,true,true,true,false,false,false,false] #[true,true,false,true,true,true,true,true,false,false,false] rfl rfl rfl rfl (two_of HT_.out (by kernel_rfl)) (by decide) (by decide) (fun K hK=>?_) (fun K hK=>?_)
  ·skip
   refine goes_ Tryz.func75 (by kernel_rfl) rfl #[.int .i64 (wrap64 (Int.tdiv a0 10))] (by rfl) rfl rfl am_ ?_
   with_reducible refine (ih k (by omega) (wrap64 (Int.tdiv a0 10)) jk _ A6.out).mono ?_
   rintro e w9 ⟨rfl,hb⟩
   refine ⟨_,rfl,?_⟩
   have n0_:=ai_ (below_step (below_to HB) hb)
   clear HB
   have HB:=n0_
   clear n0_
   (try clear hb)
   (try clear hb2)
   (try clear hk)
   (try clear hi)
   refine hK.out _ _ trivial (fun hHeld=>?_)
   clear hK K
   refine norm_ (a':=?_) ?_ ?_
   rotate_left
   ·show Act.put _ (some 12) _=_
    simp only [Act.put,List.setIfInBounds_toArray,List.set_cons_zero,List.set_cons_succ,i64_w,i32_w]
    rfl
   refine one_ (i:=7) (N:=some 17) #[true,true,true,true,true,true,true,true,false,false,false] rfl rfl (one_of HT_.out (by kernel_rfl)) (by decide) (fun K hK=>?_)
   refine Kd.R_lit_step (Kd.int .u8) _ 5 ?hg (N:=17) ?hd (xs:=([(wrap64 (48+(Int.tmod a0 10))) % 256]:List Int)) (inner:=[.int .u8 ((wrap64 (48+(Int.tmod a0 10))) % 256)]) (ok:=fun _=>True) (okp:=fun _=>True) ?hr ?hp (fun _ hk=>hk) trivial (Below.refl _ _) (Nat.le_refl _) (by simp) ?_;(case hd=>rfl);(case hg=>rfl);(case hr=>first|(go_simp;done)|(go_simp;rfl));(case hp=>exact (Reps.one (show Kd.M (Kd.int .u8) _ _ _ ((wrap64 (48+(Int.tmod a0 10))) % 256) [.int .u8 ((wrap64 (48+(Int.tmod a0 10))) % 256)] from rfl) (Reps.none _ _)))
   intro j1b w10 j1c hb hg_ hnew_
   clear hg_ hnew_
   (first|rw [← jz.out] at j1c|(simp only [Int.reduceToNat] at j1c;rw [← jz.out] at j1c))
   have n0_:=ai_ (Kd.R_lower j1c (below_size (below_to HB)))
   have n1_:=ai_ (below_step (below_to HB) hb)
   clear HB
   have ji:=n0_
   have HB:=n1_
   clear n0_ n1_
   clear hb j1c
   refine hK.out _ _ trivial (fun hHeld=>?_)
   clear hK K
   refine norm_ (a':=?_) ?_ ?_
   rotate_left
   ·show Act.put _ (some 17) _=_
    simp only [Act.put,List.setIfInBounds_toArray,List.set_cons_zero,List.set_cons_succ,i64_w,i32_w]
    rfl
   refine one_ (i:=8) (N:=some 18) #[true,true,true,true,true,true,true,true,true,false,false] rfl rfl (one_of HT_.out (by kernel_rfl)) (by decide) (fun K hK=>?_)
   have hcv12:=own_string (P:=Tryz.prog) Tryz.underlying22 Tryz.underlying5 Tryz.underlying9 (Kd.own_of_R ji.out)
   refine value_ (w1:=?_) (v:=?_) (by rfl) rfl ?_ ?_
   rotate_left 2
   ·go_simp
    constructor
    ·rfl
    ·rfl
   clear hcv12
   refine hK.out _ _ trivial (fun hHeld=>?_)
   clear hK K
   refine norm_ (a':=?_) ?_ ?_
   rotate_left
   ·show Act.put _ (some 18) _=_
    simp only [Act.put,List.setIfInBounds_toArray,List.set_cons_zero,List.set_cons_succ,i64_w,i32_w]
    rfl
   exact norm_ (by simp only [putAll,Act.put,List.setIfInBounds_toArray,List.set_cons_zero,List.set_cons_succ]) (hCont (j1b) _ ⟨(kd_to ji),(below_to HB)⟩)
  ·skip
   refine Kd.R_lit_step (Kd.int .u8) _ 5 ?hg (N:=17) ?hd (xs:=([(wrap64 (48+(Int.tmod a0 10))) % 256]:List Int)) (inner:=[.int .u8 ((wrap64 (48+(Int.tmod a0 10))) % 256)]) (ok:=fun _=>True) (okp:=fun _=>True) ?hr ?hp (fun _ hk=>hk) trivial (Below.refl _ _) (Nat.le_refl _) (by simp) ?_;(case hd=>rfl);(case hg=>rfl);(case hr=>first|(go_simp;done)|(go_simp;rfl));(case hp=>exact (Reps.one (show Kd.M (Kd.int .u8) _ _ _ ((wrap64 (48+(Int.tmod a0 10))) % 256) [.int .u8 ((wrap64 (48+(Int.tmod a0 10))) % 256)] from rfl) (Reps.none _ _)))
   intro j1b w9 j1d hb hg_ hnew_
   clear hg_ hnew_
   (first|rw [← jz.out] at j1d|(simp only [Int.reduceToNat] at j1d;rw [← jz.out] at j1d))
   have n0_:=ai_ (Kd.R_lower j1d (below_size (below_to HB)))
   have n1_:=ai_ (below_step (below_to HB) hb)
   clear HB
   have ji:=n0_
   have HB:=n1_
   clear n0_ n1_
   clear hb j1d
   refine hK.out _ _ trivial (fun hHeld=>?_)
   clear hK K
   refine norm_ (a':=?_) ?_ ?_
   rotate_left
   ·show Act.put _ (some 17) _=_
    simp only [Act.put,List.setIfInBounds_toArray,List.set_cons_zero,List.set_cons_succ,i64_w,i32_w]
    rfl
   refine two_ (i:=2) (j:=8) (Ni:=some 12) (Nj:=some 18) #[true,true,true,true,true,true,true,true,false,false,false] #[true,true,false,true,true,true,true,true,true,false,false] rfl rfl rfl rfl (two_of HT_.out (by kernel_rfl)) (by decide) (by decide) (fun K hK=>?_) (fun K hK=>?_)
   ·skip
    refine goes_ Tryz.func75 (by kernel_rfl) rfl #[.int .i64 (wrap64 (Int.tdiv a0 10))] (by rfl) rfl rfl am_ ?_
    with_reducible refine (ih k (by omega) (wrap64 (Int.tdiv a0 10)) jk _ A6.out).mono ?_
    rintro e w11 ⟨rfl,hb⟩
    refine ⟨_,rfl,?_⟩
    have n0_:=rb_ ji hb
    have n1_:=ai_ (below_step (below_to HB) hb)
    clear ji
    clear HB
    have ji:=n0_
    have HB:=n1_
    clear n0_ n1_
    (try clear hb)
    (try clear hb2)
    (try clear hk)
    (try clear hi)
    refine hK.out _ _ trivial (fun hHeld=>?_)
    clear hK K
    refine norm_ (a':=?_) ?_ ?_
    rotate_left
    ·show Act.put _ (some 12) _=_
     simp only [Act.put,List.setIfInBounds_toArray,List.set_cons_zero,List.set_cons_succ,i64_w,i32_w]
     rfl
    refine one_ (i:=8) (N:=some 18) #[true,true,true,true,true,true,true,true,true,false,false] rfl rfl (one_of HT_.out (by kernel_rfl)) (by decide) (fun K hK=>?_)
    have hcv12:=own_string (P:=Tryz.prog) Tryz.underlying22 Tryz.underlying5 Tryz.underlying9 (Kd.own_of_R ji.out)
    refine value_ (w1:=?_) (v:=?_) (by rfl) rfl ?_ ?_
    rotate_left 2
    ·go_simp
     constructor
     ·rfl
     ·rfl
    clear hcv12
    refine hK.out _ _ trivial (fun hHeld=>?_)
    clear hK K
    refine norm_ (a':=?_) ?_ ?_
    rotate_left
    ·show Act.put _ (some 18) _=_
     simp only [Act.put,List.setIfInBounds_toArray,List.set_cons_zero,List.set_cons_succ,i64_w,i32_w]
     rfl
    exact norm_ (by simp only [putAll,Act.put,List.setIfInBounds_toArray,List.set_cons_zero,List.set_cons_succ]) (hCont (j1b) _ ⟨(kd_to ji),(below_to HB)⟩)
   ·skip
    have hcv11:=own_string (P:=Tryz.prog) Tryz.underlying22 Tryz.underlying5 Tryz.underlying9 (Kd.own_of_R ji.out)
    refine value_ (w1:=?_) (v:=?_) (by rfl) rfl ?_ ?_
    rotate_left 2
    ·go_simp
     constructor
     ·rfl
     ·rfl
    clear hcv11
    refine hK.out _ _ trivial (fun hHeld=>?_)
    clear hK K
    refine norm_ (a':=?_) ?_ ?_
    rotate_left
    ·show Act.put _ (some 18) _=_
     simp only [Act.put,List.setIfInBounds_toArray,List.set_cons_zero,List.set_cons_succ,i64_w,i32_w]
     rfl
    refine one_ (i:=2) (N:=some 12) #[true,true,true,true,true,true,true,true,true,false,false] rfl rfl (one_of HT_.out (by kernel_rfl)) (by decide) (fun K hK=>?_)
    refine goes_ Tryz.func75 (by kernel_rfl) rfl #[.int .i64 (wrap64 (Int.tdiv a0 10))] (by rfl) rfl rfl am_ ?_
    with_reducible refine (ih k (by omega) (wrap64 (Int.tdiv a0 10)) jk _ A6.out).mono ?_
    rintro e w12 ⟨rfl,hb⟩
    refine ⟨_,rfl,?_⟩
    have n0_:=rb_ ji hb
    have n1_:=ai_ (below_step (below_to HB) hb)
    clear ji
    clear HB
    have ji:=n0_
    have HB:=n1_
    clear n0_ n1_
    (try clear hb)
    (try clear hb2)
    (try clear hk)
    (try clear hi)
    refine hK.out _ _ trivial (fun hHeld=>?_)
    clear hK K
    refine norm_ (a':=?_) ?_ ?_
    rotate_left
    ·show Act.put _ (some 12) _=_
     simp only [Act.put,List.setIfInBounds_toArray,List.set_cons_zero,List.set_cons_succ,i64_w,i32_w]
     rfl
    exact norm_ (by simp only [putAll,Act.put,List.setIfInBounds_toArray,List.set_cons_zero,List.set_cons_succ]) (hCont (j1b) _ ⟨(kd_to ji),(below_to HB)⟩)
 rintro j1b w13 ⟨h0_,h1_⟩
 have n0_:Aside0 (Kd.R (Kd.int .u8) 5 w13 w.heap.size (fun _=>True) j1b jo):=⟨h0_⟩
 have n1_:Aside0 (Below w.heap.size w w13):=⟨h1_⟩
 clear HB
 clear h0_ h1_
 have ji:=n0_
 have HB:=n1_
 clear n0_ n1_
 have hHeld:=trivial
 refine norm_ (a':=?_) ?_ ?_
 rotate_left
 ·simp only [putAll,Act.put,List.setIfInBounds_toArray,List.set_cons_zero,List.set_cons_succ]
  rfl
 refine purS_ (i:=9) (N:=some 19) (fl_ 11 10) HT_.out ?_
 refine purS_ (i:=10) (N:=some 2) (fl_ 11 11) HT_.out ?_
 refine done_ (done_of HT_.out (by kernel_rfl)) ?_
 try go_wp2
 go_ret
 exact ⟨rtE_,below_to HB⟩
def spec_buText.l0:Nat→ByteArray→List Int→Int→Int→Option (ByteArray)
 | 0,_,_,_,_=>none
 | k+1,x3,x21,x22,x23=>if x23 < x22 then (if 0≤x23 then (if x23 < (x21.length:Int) then (if x23 > 0 then (if x3.size+1≤9223372036854775807 then ((spec_l1Num.f k (rd x21 x23)).bind fun ju=>(if (x3 ++ (⟨#[44]⟩:ByteArray)).size+ju.size≤9223372036854775807 then (spec_buText.l0 k ((x3 ++ (⟨#[44]⟩:ByteArray)) ++ ju) x21 x22 (wrap64 (x23+1))) else (none))) else (none)) else ((spec_l1Num.f k (rd x21 x23)).bind fun jw=>(if x3.size+jw.size≤9223372036854775807 then (spec_buText.l0 k (x3 ++ jw) x21 x22 (wrap64 (x23+1))) else (none)))) else (none)) else (none)) else (some x3)
def spec_buText.f (k:Nat) (jf:Int) (jg:Int) (jh:Int) (jb:List Int):Option (ByteArray):=(spec_l1Num.f k jf).bind fun jd=>(if jd.size+1≤9223372036854775807 then ((spec_l1Num.f k jg).bind fun je=>(if (jd ++ (⟨#[43]⟩:ByteArray)).size+je.size≤9223372036854775807 then (if ((jd ++ (⟨#[43]⟩:ByteArray)) ++ je).size+1≤9223372036854775807 then ((spec_l1Num.f k jh).bind fun jl=>(if (((jd ++ (⟨#[43]⟩:ByteArray)) ++ je) ++ (⟨#[120]⟩:ByteArray)).size+jl.size≤9223372036854775807 then (if ((((jd ++ (⟨#[43]⟩:ByteArray)) ++ je) ++ (⟨#[120]⟩:ByteArray)) ++ jl).size+1≤9223372036854775807 then (spec_buText.l0 k (((((jd ++ (⟨#[43]⟩:ByteArray)) ++ je) ++ (⟨#[120]⟩:ByteArray)) ++ jl) ++ (⟨#[58]⟩:ByteArray)) jb (jb.length:Int) 0) else (none)) else (none))) else (none)) else (none))) else (none))
def spec_buText.T1:Bool × List (List Nat × List Nat):=(true,[([],[]),([0],[0]),([1],[1]),([2],[2]),([],[]),([4],[4]),([5,2],[5]),([3,6],[3,6]),([7],[7]),([],[]),([9],[9]),([10,6],[10]),([8,11],[8,11]),([12],[12]),([13,11,0,1,2,3,4,5,6,7,8,9,10,11,12,13],[13])])
def spec_buText.B1:List Nat:=[0,1,3,7,0,16,55,127,255,0,512,1655,4095,8191,16383]
theorem spec_buText.tab1:rtab .any (opsOf Tryz.f54 1)=spec_buText.T1:=by kernel_rfl
theorem spec_buText.bits1:waitsOk spec_buText.T1.2 spec_buText.B1=true:=by kernel_rfl
theorem spec_buText.calls (k:Nat) (jf:Int) (jg:Int) (jh:Int) (jp:Option Addr) (jq:Nat) (jb:List Int) (r:ByteArray) (w:World) (hr0_3:Kd.C Ki_ w jp jb.length jb) (hc0_3:jb.length≤jq) (h:spec_buText.f k jf jg jh jb=some r) :
  Calls Tryz.prog 54 #[.agg #[.int .i64 jf,.int .i64 jg,.int .i64 jh,.slice jp jb.length jq]] w fun e w'=>e=.returned (.string r)∧Below w.heap.size w w':=by
 have hu26:=Tryz.underlying26
 have js:=ai_ hr0_3
 have j1a:=ai_ hc0_3
 clear hr0_3 hc0_3
 have HB:=ai_ (Below.refl w.heap.size w)
 have H:=h
 unfold spec_buText.f at H
 clear h
 obtain ⟨jd,A2,H⟩:=bs_ H
 (try dsimp only at H)
 by_cases c3:jd.size+1≤9223372036854775807
 rotate_left
 ·rw [if_neg c3] at H
  cases H
 rw [if_pos c3] at H
 have j2f:=eq_true c3
 have j2g:=decide_eq_true c3
 try have j2h:(9223372036854775807 < jd.size+1)=False:=eq_false (Nat.not_lt.2 c3)
 obtain ⟨je,A4,H⟩:=bs_ H
 (try dsimp only at H)
 by_cases c5:(jd ++ (⟨#[43]⟩:ByteArray)).size+je.size≤9223372036854775807
 rotate_left
 ·rw [if_neg c5] at H
  cases H
 rw [if_pos c5] at H
 have j2i:=eq_true c5
 have j2j:=decide_eq_true c5
 try have j2k:(9223372036854775807 < (jd ++ (⟨#[43]⟩:ByteArray)).size+je.size)=False:=eq_false (Nat.not_lt.2 c5)
 have j4c:(9223372036854775807 < jd.size+1+je.size)=False:=eq_false (by have h_:=c5;simp only [ByteArray.size_append] at h_;have:(⟨#[43]⟩:ByteArray).size=1:=rfl;omega)
 have j4d:decide (jd.size+1+je.size≤9223372036854775807)=true:=decide_eq_true (by have h_:=c5;simp only [ByteArray.size_append] at h_;have:(⟨#[43]⟩:ByteArray).size=1:=rfl;omega)
 by_cases c6:((jd ++ (⟨#[43]⟩:ByteArray)) ++ je).size+1≤9223372036854775807
 rotate_left
 ·rw [if_neg c6] at H
  cases H
 rw [if_pos c6] at H
 have j2l:=eq_true c6
 have j2m:=decide_eq_true c6
 try have j2n:(9223372036854775807 < ((jd ++ (⟨#[43]⟩:ByteArray)) ++ je).size+1)=False:=eq_false (Nat.not_lt.2 c6)
 have j4e:(9223372036854775807 < jd.size+1+je.size+1)=False:=eq_false (by have h_:=c6;simp only [ByteArray.size_append] at h_;have:(⟨#[43]⟩:ByteArray).size=1:=rfl;omega)
 have j4f:decide (jd.size+1+je.size+1≤9223372036854775807)=true:=decide_eq_true (by have h_:=c6;simp only [ByteArray.size_append] at h_;have:(⟨#[43]⟩:ByteArray).size=1:=rfl;omega)
 obtain ⟨jl,A7,H⟩:=bs_ H
 (try dsimp only at H)
 by_cases c8:(((jd ++ (⟨#[43]⟩:ByteArray)) ++ je) ++ (⟨#[120]⟩:ByteArray)).size+jl.size≤9223372036854775807
 rotate_left
 ·rw [if_neg c8] at H
  cases H
 rw [if_pos c8] at H
 have j2o:=eq_true c8
 have j2p:=decide_eq_true c8
 try have j2q:(9223372036854775807 < (((jd ++ (⟨#[43]⟩:ByteArray)) ++ je) ++ (⟨#[120]⟩:ByteArray)).size+jl.size)=False:=eq_false (Nat.not_lt.2 c8)
 have j4g:(9223372036854775807 < jd.size+1+je.size+1+jl.size)=False:=eq_false (by have h_:=c8;simp only [ByteArray.size_append] at h_;have:(⟨#[120]⟩:ByteArray).size=1:=rfl;have:(⟨#[43]⟩:ByteArray).size=1:=rfl;omega)
 have j4h:decide (jd.size+1+je.size+1+jl.size≤9223372036854775807)=true:=decide_eq_true (by have h_:=c8;simp only [ByteArray.size_append] at h_;have:(⟨#[120]⟩:ByteArray).size=1:=rfl;have:(⟨#[43]⟩:ByteArray).size=1:=rfl;omega)
 by_cases c9:((((jd ++ (⟨#[43]⟩:ByteArray)) ++ je) ++ (⟨#[120]⟩:ByteArray)) ++ jl).size+1≤9223372036854775807
 rotate_left
 ·rw [if_neg c9] at H
  cases H
 rw [if_pos c9] at H
 have j2r:=eq_true c9
 have j2s:=decide_eq_true c9
 try have j2t:(9223372036854775807 < ((((jd ++ (⟨#[43]⟩:ByteArray)) ++ je) ++ (⟨#[120]⟩:ByteArray)) ++ jl).size+1)=False:=eq_false (Nat.not_lt.2 c9)
 have j4i:(9223372036854775807 < jd.size+1+je.size+1+jl.size+1)=False:=eq_false (by have h_:=c9;simp only [ByteArray.size_append] at h_;have:(⟨#[120]⟩:ByteArray).size=1:=rfl;have:(⟨#[43]⟩:ByteArray).size=1:=rfl;omega)
 have j4j:decide (jd.size+1+je.size+1+jl.size+1≤9223372036854775807)=true:=decide_eq_true (by have h_:=c9;simp only [ByteArray.size_append] at h_;have:(⟨#[120]⟩:ByteArray).size=1:=rfl;have:(⟨#[43]⟩:ByteArray).size=1:=rfl;omega)
 have H':=ai_ H
 clear H
 go_enter Tryz.func54,Tryz.ntmps54
 try go_wp2_with (first|((with_reducible refine gate_dst (N:=1) rfl ?_);refine bxe_ #[.int .i64 jf,.int .i64 jg,.int .i64 jh,.slice jp jb.length jq] 26 ?_;intro jv hg w10 hbox hb;have ja:=ai_ (hbox);have j3k:=ai_ (gb_ hg (below_size (below_to HB)));have jm:=ai_ (gb_ hg (below_size (below_to HB)));replace HB:=ai_ (below_step (below_to HB) hb);clear hb hbox hg))
 have n0_:=ai_ (blk_drew ja.out)
 have n1_:=ai_ (below_drew1 HB.out)
 clear ja
 clear HB
 have ja:=n0_
 have HB:=n1_
 clear n0_ n1_
 refine start_ (n:=15) (S:=fun w'=>w'.cell? ⟨jv,0,none⟩=some (.int .i64 jf)∧w'.cell? ⟨jv,1,none⟩=some (.int .i64 jg)∧w'.cell? ⟨jv,2,none⟩=some (.int .i64 jh)∧w'.cell? ⟨jv,3,none⟩=some (.slice jp jb.length jq)) (ds:=[]) (fr_ [0,15]) (by kernel_rfl) rfl rfl ⟨(blk_cell ja.out 0).trans rfl,(blk_cell ja.out 1).trans rfl,(blk_cell ja.out 2).trans rfl,(blk_cell ja.out 3).trans rfl⟩ (fun hHeld=>?_);refine with_tabW spec_buText.tab1 spec_buText.bits1 (fun HT_ HW_=>?_)
 generalize w10.drew=w11 at ja HB hHeld ⊢
 refine purS_ (i:=0) (N:=some 6) (fl_ 15 1) HT_.out ?_
 refine purS_ (i:=4) (N:=some 10) (fr_ [1,3,1,10]) HT_.out ?_
 refine purS_ (i:=9) (N:=some 15) (fr_ [1,3,1,4,1,5]) HT_.out ?_
 refine take_ (i:=1) (N:=some 7) (v:=?_) (a':=?_) (fr_ [2,2,1,4,1,5]) rfl rfl (take_ofW HT_.out HW_.out (by kernel_rfl)) (fun _ _ _ h=>h) (Or.inl ⟨by rfl,?_⟩) hHeld ?_ ?_
 rotate_left
 ·rintro w' ⟨s0,s1,s2,s3⟩
  go_simp
  with_reducible rfl
 rotate_left
 ·simp only [Act.put,List.setIfInBounds_toArray,List.set_cons_zero,List.set_cons_succ,i64_w,i32_w]
  rfl
 refine take_ (i:=5) (N:=some 11) (v:=?_) (a':=?_) (fr_ [2,2,2,3,1,5]) rfl rfl (take_ofW HT_.out HW_.out (by kernel_rfl)) (fun _ _ _ h=>h) (Or.inl ⟨by rfl,?_⟩) hHeld ?_ ?_
 rotate_left
 ·rintro w' ⟨s0,s1,s2,s3⟩
  go_simp
  with_reducible rfl
 rotate_left
 ·simp only [Act.put,List.setIfInBounds_toArray,List.set_cons_zero,List.set_cons_succ,i64_w,i32_w]
  rfl
 refine take_ (i:=10) (N:=some 16) (v:=?_) (a':=?_) (fr_ [2,2,2,3,2,4]) rfl rfl (take_ofW HT_.out HW_.out (by kernel_rfl)) (fun _ _ _ h=>h) (Or.inl ⟨by rfl,?_⟩) hHeld ?_ ?_
 rotate_left
 ·rintro w' ⟨s0,s1,s2,s3⟩
  go_simp
  with_reducible rfl
 rotate_left
 ·simp only [Act.put,List.setIfInBounds_toArray,List.set_cons_zero,List.set_cons_succ,i64_w,i32_w]
  rfl
 refine one_ (i:=2) (N:=some 8) (fr_ [3,1,2,3,2,4]) rfl rfl (one_of HT_.out (by kernel_rfl)) (by decide) (fun K hK=>?_)
 refine goes_ Tryz.func75 (by kernel_rfl) rfl #[.int .i64 jf] (by rfl) rfl rfl am_ ?_
 with_reducible refine (spec_l1Num.calls k jf jd _ A2.out).mono ?_
 rintro e w12 ⟨rfl,hb⟩
 refine ⟨_,rfl,?_⟩
 have n0_:=bb_ ja hb
 have n1_:=ai_ (below_step (below_to1 HB jm.out) hb)
 clear ja
 clear HB
 have ja:=n0_
 have HB:=n1_
 clear n0_ n1_
 (try clear hb)
 (try clear hb2)
 (try clear hk)
 (try clear hi)
 refine hK.out _ _ ⟨(blk_cell ja.out 0).trans rfl,(blk_cell ja.out 1).trans rfl,(blk_cell ja.out 2).trans rfl,(blk_cell ja.out 3).trans rfl⟩ (fun hHeld=>?_)
 clear hK K
 refine norm_ (a':=?_) ?_ ?_
 rotate_left
 ·show Act.put _ (some 8) _=_
  simp only [Act.put,List.setIfInBounds_toArray,List.set_cons_zero,List.set_cons_succ,i64_w,i32_w]
  rfl
 refine purS_ (i:=3) (N:=some 9) (fr_ [6,3,2,4]) HT_.out ?_
 refine one_ (i:=6) (N:=some 12) (fr_ [7,2,2,4]) rfl rfl (one_of HT_.out (by kernel_rfl)) (by decide) (fun K hK=>?_)
 refine goes_ Tryz.func75 (by kernel_rfl) rfl #[.int .i64 jg] (by rfl) rfl rfl am_ ?_
 with_reducible refine (spec_l1Num.calls k jg je _ A4.out).mono ?_
 rintro e w13 ⟨rfl,hb⟩
 refine ⟨_,rfl,?_⟩
 have n0_:=bb_ ja hb
 have n1_:=ai_ (below_step (below_to1 HB jm.out) hb)
 clear ja
 clear HB
 have ja:=n0_
 have HB:=n1_
 clear n0_ n1_
 (try clear hb)
 (try clear hb2)
 (try clear hk)
 (try clear hi)
 refine hK.out _ _ ⟨(blk_cell ja.out 0).trans rfl,(blk_cell ja.out 1).trans rfl,(blk_cell ja.out 2).trans rfl,(blk_cell ja.out 3).trans rfl⟩ (fun hHeld=>?_)
 clear hK K
 refine norm_ (a':=?_) ?_ ?_
 rotate_left
 ·show Act.put _ (some 12) _=_
  simp only [Act.put,List.setIfInBounds_toArray,List.set_cons_zero,List.set_cons_succ,i64_w,i32_w]
  rfl
 refine purS_ (i:=7) (N:=some 13) (fr_ [8,1,2,4]) HT_.out ?_
 refine purS_ (i:=8) (N:=some 14) (fl_ 15 11) HT_.out ?_
 refine one_ (i:=11) (N:=some 17) (fr_ [12,3]) rfl rfl (one_of HT_.out (by kernel_rfl)) (by decide) (fun K hK=>?_)
 refine goes_ Tryz.func75 (by kernel_rfl) rfl #[.int .i64 jh] (by rfl) rfl rfl am_ ?_
 with_reducible refine (spec_l1Num.calls k jh jl _ A7.out).mono ?_
 rintro e w14 ⟨rfl,hb⟩
 refine ⟨_,rfl,?_⟩
 have n0_:=bb_ ja hb
 have n1_:=ai_ (below_step (below_to1 HB jm.out) hb)
 clear ja
 clear HB
 have ja:=n0_
 have HB:=n1_
 clear n0_ n1_
 (try clear hb)
 (try clear hb2)
 (try clear hk)
 (try clear hi)
 refine hK.out _ _ ⟨(blk_cell ja.out 0).trans rfl,(blk_cell ja.out 1).trans rfl,(blk_cell ja.out 2).trans rfl,(blk_cell ja.out 3).trans rfl⟩ (fun hHeld=>?_)
 clear hK K
 refine norm_ (a':=?_) ?_ ?_
 rotate_left
 ·show Act.put _ (some 17) _=_
  simp only [Act.put,List.setIfInBounds_toArray,List.set_cons_zero,List.set_cons_succ,i64_w,i32_w]
  rfl
 refine purS_ (i:=12) (N:=some 18) (fl_ 15 13) HT_.out ?_
 refine purS_ (i:=13) (N:=some 19) (fl_ 15 14) HT_.out ?_
 refine purS_ (i:=14) (N:=some 3) (fl_ 15 15) HT_.out ?_
 refine done_ (done_of HT_.out (by kernel_rfl)) ?_
 obtain ⟨j1e,j1f,j1g,j1h,j1i,j1j,j1k,j1l⟩:=blk4_ ja
 try go_wp2
 go_loopg [3,23] k (fun kq v3 v23 w' => ∃ (jr:ByteArray) (jc:Int),v3=.string jr∧v23=.int .i64 jc∧Aside0 (spec_buText.l0 kq jr jb (jb.length:Int) jc=some r)∧Aside0 (kq≤k)∧Aside0 (w'.heap[jv]?=some (.cells #[.int .i64 jf,.int .i64 jg,.int .i64 jh,(.slice jp jb.length jq)] 26 (0,0)))∧Aside0 (Below w.heap.size w w'))
 case atStart=>exact ⟨(((((jd ++ (⟨#[43]⟩:ByteArray)) ++ je) ++ (⟨#[120]⟩:ByteArray)) ++ jl) ++ (⟨#[58]⟩:ByteArray)),(0),rt_,rt_,H',⟨Nat.le_refl _⟩,⟨blk_to ja⟩,⟨below_to1 HB jm.out⟩⟩
 clear H'
 try clear p2
 try clear c3
 try clear j2f
 try clear j2g
 try clear j2h
 try clear c5
 try clear j2i
 try clear j2j
 try clear j2k
 try clear c6
 try clear j2l
 try clear j2m
 try clear j2n
 try clear c7
 try clear c8
 try clear j2o
 try clear j2p
 try clear j2q
 try clear c9
 try clear j2r
 try clear j2s
 try clear j2t
 try clear j1e
 try clear j1f
 try clear j1g
 try clear j1h
 try clear j1i
 try clear j1j
 try clear j1k
 try clear j1l
 obtain ⟨jr,jc,rfl,rfl,HA,HK1,ja,HB⟩:=hrel
 cases gk with
 | zero=>exact absurd HA.out (by simp [spec_buText.l0])
 | succ k1 =>
  have H:=HA.out
  clear HA
  simp only [spec_buText.l0] at H
  by_cases c16:jc < (jb.length:Int)
  rotate_left
  ·rw [if_neg c16] at H
   have j1q:=decide_eq_false c16
   clear c16
   obtain rfl:=Option.some.inj H
   go_wp2
   go_ret
   exact ⟨rtE_,below_to1 HB jm.out⟩
  rw [if_pos c16] at H
  have j1q:=decide_eq_true c16
  clear c16
  by_cases c17:0≤jc
  rotate_left
  ·rw [if_neg c17] at H
   cases H
  rw [if_pos c17] at H
  have j3l:=decide_eq_true c17
  clear c17
  by_cases c18:jc < (jb.length:Int)
  rotate_left
  ·rw [if_neg c18] at H
   cases H
  rw [if_pos c18] at H
  have j3m:=decide_eq_true c18
  clear c18
  by_cases c19:jc > 0
  rotate_left
  ·rw [if_neg c19] at H
   have j1r:=decide_eq_false c19
   clear c19
   obtain ⟨jw,A24,H⟩:=bs_ H
   (try dsimp only at H)
   by_cases c25:jr.size+jw.size≤9223372036854775807
   ·rw [if_pos c25] at H
    have j3n:=eq_true c25
    have j3o:=decide_eq_true c25
    try have j3p:(9223372036854775807 < jr.size+jw.size)=False:=eq_false (Nat.not_lt.2 c25)
    have H':=ai_ H
    clear H
    have jx:0≤(jc:Int):=odt_
    have jy:jc < (jb.length:Int):=odt_
    obtain ⟨j1s,e324,jn⟩:=Kd.at_int js.out jc jx jy
    cases e324
    replace jn:=bx_ HB jn
    replace jx:=eq_true jx
    replace jy:=eq_true jy
    go_wp2_with (first|((with_reducible refine gate_callee (f:=75) rfl ?_);refine gl_ (some 34) Tryz.func75 #[.int .i64 (rd jb jc)] ?_;(with_reducible refine (spec_l1Num.calls k1 (rd jb jc) jw _ A24.out).mono ?_);rintro e w26 ⟨rfl,hb⟩;refine ⟨_,rfl,?_⟩;replace ja:=bb_ ja hb;replace HB:=ai_ (below_step (below_to1 HB jm.out) hb);clear hb))
    go_roundg k1
    case measure=>have:=HK1.out;omega
    case rel=>exact ⟨(jr ++ jw),(wrap64 (jc+1)),rt_,rt_,H',⟨by have:=HK1.out;omega⟩,⟨blk_to ja⟩,⟨below_to1 HB jm.out⟩⟩
   ·rw [if_neg c25] at H
    cases H
  rw [if_pos c19] at H
  have j1r:=decide_eq_true c19
  clear c19
  by_cases c20:jr.size+1≤9223372036854775807
  rotate_left
  ·rw [if_neg c20] at H
   cases H
  rw [if_pos c20] at H
  have j3q:=eq_true c20
  have j3r:=decide_eq_true c20
  try have j3s:(9223372036854775807 < jr.size+1)=False:=eq_false (Nat.not_lt.2 c20)
  obtain ⟨ju,A21,H⟩:=bs_ H
  (try dsimp only at H)
  by_cases c22:(jr ++ (⟨#[44]⟩:ByteArray)).size+ju.size≤9223372036854775807
  ·rw [if_pos c22] at H
   have j3t:=eq_true c22
   have j3u:=decide_eq_true c22
   try have j3v:(9223372036854775807 < (jr ++ (⟨#[44]⟩:ByteArray)).size+ju.size)=False:=eq_false (Nat.not_lt.2 c22)
   have j3w:(9223372036854775807 < jr.size+1+ju.size)=False:=eq_false (by have h_:=c22;simp only [ByteArray.size_append] at h_;have:(⟨#[44]⟩:ByteArray).size=1:=rfl;omega)
   have j3x:decide (jr.size+1+ju.size≤9223372036854775807)=true:=decide_eq_true (by have h_:=c22;simp only [ByteArray.size_append] at h_;have:(⟨#[44]⟩:ByteArray).size=1:=rfl;omega)
   have H':=ai_ H
   clear H
   have jx:0≤(jc:Int):=odt_
   have jy:jc < (jb.length:Int):=odt_
   obtain ⟨j1s,e324,jn⟩:=Kd.at_int js.out jc jx jy
   cases e324
   replace jn:=bx_ HB jn
   replace jx:=eq_true jx
   replace jy:=eq_true jy
   go_wp2_with (first|((with_reducible refine gate_callee (f:=75) rfl ?_);refine gl_ (some 34) Tryz.func75 #[.int .i64 (rd jb jc)] ?_;(with_reducible refine (spec_l1Num.calls k1 (rd jb jc) ju _ A21.out).mono ?_);rintro e w23 ⟨rfl,hb⟩;refine ⟨_,rfl,?_⟩;replace ja:=bb_ ja hb;replace HB:=ai_ (below_step (below_to1 HB jm.out) hb);clear hb))
   go_roundg k1
   case measure=>have:=HK1.out;omega
   case rel=>exact ⟨((jr ++ (⟨#[44]⟩:ByteArray)) ++ ju),(wrap64 (jc+1)),rt_,rt_,H',⟨by have:=HK1.out;omega⟩,⟨blk_to ja⟩,⟨below_to1 HB jm.out⟩⟩
  ·rw [if_neg c22] at H
   cases H
def spec_LineText.f (k:Nat) (jf:Int) (jg:Int) (jh:Int) (jb:List Int):Option (ByteArray × Bool):=(spec_buGood.f k jf jg jh jb).bind fun j1n=>(if j1n=true then ((spec_buText.f k jf jg jh jb).bind fun j1o=>(some (j1o,true))) else (some ((⟨#[]⟩:ByteArray),false)))
theorem spec_LineText.calls (k:Nat) (jf:Int) (jg:Int) (jh:Int) (jp:Option Addr) (jq:Nat) (jb:List Int) (r1:ByteArray) (r2:Bool) (w:World) (hr0_3:Kd.C Ki_ w jp jb.length jb) (hc0_3:jb.length≤jq) (h:spec_LineText.f k jf jg jh jb=some (r1,r2)) :
  Calls Tryz.prog 13 #[.agg #[.int .i64 jf,.int .i64 jg,.int .i64 jh,.slice jp jb.length jq]] w fun e w'=>e=.returned (.tuple #[.string r1,.bool r2])∧Below w.heap.size w w':=by
 have hu26:=Tryz.underlying26
 have js:=ai_ hr0_3
 have j1a:=ai_ hc0_3
 clear hr0_3 hc0_3
 have HB:=ai_ (Below.refl w.heap.size w)
 have H:=h
 unfold spec_LineText.f at H
 clear h
 obtain ⟨j1n,A2,H⟩:=bs_ H
 (try dsimp only at H)
 by_cases c3:j1n=true
 ·subst c3
  rw [if_pos rfl] at H
  obtain ⟨j1o,A4,H⟩:=bs_ H
  (try dsimp only at H)
  simp only [Option.some.injEq,Prod.mk.injEq] at H
  obtain ⟨rfl,rfl⟩:=H
  go_enter Tryz.func13,Tryz.ntmps13
  go_wp2_with (first|((with_reducible refine gate_dst (N:=1) rfl ?_);refine bxe_ #[.int .i64 jf,.int .i64 jg,.int .i64 jh,.slice jp jb.length jq] 26 ?_;intro j1t hg w5 hbox hb;have jj:=ai_ (hbox);have j1u:=ai_ (gb_ hg (below_size (below_to HB)));have jt:=ai_ (gb_ hg (below_size (below_to HB)));replace HB:=ai_ (below_step (below_to HB) hb);clear hb hbox hg;obtain ⟨j2u,j2v,j2w,j2x,j2y,j2z,j3a,j3b⟩:=blk4_ jj)|((with_reducible refine gate_callee (f:=52) rfl ?_);refine gl_ (some 5) Tryz.func52 #[.agg #[.int .i64 jf,.int .i64 jg,.int .i64 jh,.slice jp jb.length jq]] ?_;(with_reducible refine (spec_buGood.calls k jf jg jh _ _ jb true _ ?side1 j1a.out A2.out).mono ?_);(case side1=>exact cb_ js HB);rintro e w7 ⟨rfl,hb⟩;refine ⟨_,rfl,?_⟩;replace jj:=bb_ jj hb;replace HB:=ai_ (below_step (below_to1 HB jt.out) hb);clear hb;obtain ⟨j3c,j3d,j3e,j3f,j3g,j3h,j3i,j3j⟩:=blk4_ jj)|((with_reducible refine gate_callee (f:=54) rfl ?_);refine gl_ (some 8) Tryz.func54 #[.agg #[.int .i64 jf,.int .i64 jg,.int .i64 jh,.slice jp jb.length jq]] ?_;(with_reducible refine (spec_buText.calls k jf jg jh _ _ jb j1o _ ?side1 j1a.out A4.out).mono ?_);(case side1=>exact cb_ js HB);rintro e w9 ⟨rfl,hb⟩;refine ⟨_,rfl,?_⟩;replace jj:=bb_ jj hb;replace HB:=ai_ (below_step (below_to1 HB jt.out) hb);clear hb))
  go_ret2
  exact ⟨rtE_,below_to1 HB jt.out⟩
 ·replace c3:=Bool.eq_false_iff.mpr c3
  subst c3
  rw [if_neg ft_] at H
  simp only [Option.some.injEq,Prod.mk.injEq] at H
  obtain ⟨rfl,rfl⟩:=H
  go_enter Tryz.func13,Tryz.ntmps13
  go_wp2_with (first|((with_reducible refine gate_dst (N:=1) rfl ?_);refine bxe_ #[.int .i64 jf,.int .i64 jg,.int .i64 jh,.slice jp jb.length jq] 26 ?_;intro j1t hg w10 hbox hb;have jj:=ai_ (hbox);have j1u:=ai_ (gb_ hg (below_size (below_to HB)));have jt:=ai_ (gb_ hg (below_size (below_to HB)));replace HB:=ai_ (below_step (below_to HB) hb);clear hb hbox hg;obtain ⟨j1v,j1w,j1x,j1y,j1z,j2a,j2b,j2c⟩:=blk4_ jj)|((with_reducible refine gate_callee (f:=52) rfl ?_);refine gl_ (some 5) Tryz.func52 #[.agg #[.int .i64 jf,.int .i64 jg,.int .i64 jh,.slice jp jb.length jq]] ?_;(with_reducible refine (spec_buGood.calls k jf jg jh _ _ jb false _ ?side1 j1a.out A2.out).mono ?_);(case side1=>exact cb_ js HB);rintro e w12 ⟨rfl,hb⟩;refine ⟨_,rfl,?_⟩;replace jj:=bb_ jj hb;replace HB:=ai_ (below_step (below_to1 HB jt.out) hb);clear hb))
  go_ret2
  exact ⟨rtE_,below_to1 HB jt.out⟩
end Go.Proofs.YthdnodmidbcgpaaGreatDoor.QR
