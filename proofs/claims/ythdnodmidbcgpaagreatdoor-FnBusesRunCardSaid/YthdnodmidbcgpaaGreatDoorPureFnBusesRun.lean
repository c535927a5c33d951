/- Buses are at stops as their line tells, next ones are the first, last ones are in time, waits have the told mean, and texts are read back, for all drawn inputs. No conditions. -/
import Derived.Test.YthdnodmidbcgpaaGreatDoorQRx19d
import Derived.Test.YthdnodmidbcgpaaGreatDoorPlain
set_option linter.unusedVariables false
set_option linter.unusedSimpArgs false
namespace Go.Proofs.YthdnodmidbcgpaaGreatDoor.Pure
open Go.RowKit Go.Proofs.YthdnodmidbcgpaaGreatDoor.QR Go.Proofs.YthdnodmidbcgpaaGreatDoorW.PrintWords Go.Proofs.YthdnodmidbcgpaaGreatDoorW.PrintLast Go.Proofs.YthdnodmidbcgpaaGreatDoorW.PrintMore Go.Proofs.YthdnodmidbcgpaaGreatDoor.Plain
theorem in_eq (a b c:Int):spec_l1In.f a b c=some (decide (b≤a∧a≤c)):=by
 unfold spec_l1In.f
 by_cases h:a≥b
 ·rw [if_pos h];congr 1;simp;omega
 ·rw [if_neg h];congr 1;simp;omega
theorem within_eq (a b c:Int):impl_within.f a b c=some (decide (b≤a∧a≤c)):=by
 unfold impl_within.f
 by_cases h:a≥b
 ·rw [if_pos h];congr 1;simp;omega
 ·rw [if_neg h];congr 1;simp;omega
theorem w64 {x:Int} (h1 : -9223372036854775808≤x) (h2:x≤9223372036854775807):wrap64 x=x:=by unfold wrap64;omega
structure GoodLine (f e c:Int) (st:List Int):Prop where
 first:0≤f∧f≤2000
 every:1≤e∧e≤2000
 count:1≤c∧c≤60
 last:f+(c - 1)*e≤2000
 stops:2≤(st.length:Int)∧(st.length:Int)≤12
 zero:rd st 0=0
 rise:∀ i:Int,1≤i→i < st.length→rd st (i - 1) < rd st i
 top:rd st (st.length - 1)≤500
theorem GoodLine.range {f e c:Int} {st:List Int} (h:GoodLine f e c st):∀ i:Int,0≤i→i < st.length→0≤rd st i∧rd st i≤500:=by
 have up:∀ n:Nat,(n:Int) < st.length→0≤rd st n:=by
  intro n
  induction n with
  | zero=>intro _;have:=h.zero;simp at this ⊢;omega
  | succ n ih =>
   intro hn
   have:=h.rise ((n+1:Nat):Int) (by omega) hn
   have:=ih (by omega)
   rw [show (((n+1:Nat):Int) - 1)=(n:Int) by omega] at *
   omega
 have dn:∀ i:Int,0≤i→i≤st.length - 1→rd st i≤500:=by
  refine downI h.top (fun i h0 h1 ih=>?_)
  have:=h.rise (i+1) (by omega) (by omega)
  rw [show i+1 - 1=i by omega] at this
  omega
 intro i h0 h1
 have:=up i.toNat (by omega)
 rw [show ((i.toNat:Nat):Int)=i by omega] at this
 exact ⟨this,dn i h0 (by omega)⟩
theorem rising_ev (st:List Int) (hs:st.length≤12):∀ i:Int,0≤i→i≤st.length→∃ b:Bool,Ev (fun k=>spec_l1Rising.l0 k st 0 500 st st.length i) b∧(b=true↔∀ j:Int,i≤j→j < st.length→(0≤rd st j∧rd st j≤500)∧(0 < j→rd st (j - 1) < rd st j)):=by
 refine downI ?_ (fun i h0 h1 ih=>?_)
 ·exact ⟨true,Ev.step (fun k=>by simp only [spec_l1Rising.l0];rw [if_neg (by omega)]) (Ev.now _),by simp;intro j hj hj2;omega⟩
 ·obtain ⟨b,hb,hiff⟩:=ih
  have st0:∀ k,spec_l1Rising.l0 (k+1) st 0 500 st st.length i=if decide (0≤rd st i∧rd st i≤500)=true then (if i > 0 then (if 0≤i - 1 then (if i - 1 < (st.length:Int) then (if rd st (i - 1)≥rd st i then some false else spec_l1Rising.l0 k st 0 500 st st.length (i+1)) else none) else none) else spec_l1Rising.l0 k st 0 500 st st.length (i+1)) else some false:=fun k=>by
   simp only [spec_l1Rising.l0,in_eq,Option.bind_some]
   rw [if_pos h1,if_pos h0,if_pos h1,w64 (x:=i+1) (by omega) (by omega),w64 (x:=i - 1) (by omega) (by omega)]
  by_cases a:0≤rd st i∧rd st i≤500
  ·by_cases z:i > 0
   ·by_cases r:rd st (i - 1)≥rd st i
    ·refine ⟨false,Ev.step (fun k=>by rw [st0,if_pos (decide_eq_true a),if_pos z,if_pos (by omega),if_pos (by omega),if_pos r]) (Ev.now _),?_⟩
     refine ⟨fun h=>(by cases h),fun h=>?_⟩
     have:=(h i (Int.le_refl _) h1).2 z
     omega
    ·refine ⟨b,Ev.step (fun k=>by rw [st0,if_pos (decide_eq_true a),if_pos z,if_pos (by omega),if_pos (by omega),if_neg r]) hb,?_⟩
     rw [hiff]
     refine ⟨fun h j hj hj2=>?_,fun h j hj hj2=>h j (by omega) hj2⟩
     by_cases e:j=i
     ·subst e;exact ⟨a,fun _=>by omega⟩
     ·exact h j (by omega) hj2
   ·refine ⟨b,Ev.step (fun k=>by rw [st0,if_pos (decide_eq_true a),if_neg z]) hb,?_⟩
    rw [hiff]
    refine ⟨fun h j hj hj2=>?_,fun h j hj hj2=>h j (by omega) hj2⟩
    by_cases e:j=i
    ·subst e;exact ⟨a,fun q=>absurd q z⟩
    ·exact h j (by omega) hj2
  ·refine ⟨false,Ev.step (fun k=>by rw [st0,if_neg (by simpa using a)]) (Ev.now _),?_⟩
   exact ⟨fun h=>(by cases h),fun h=>absurd (h i (Int.le_refl _) h1).1 a⟩
theorem increasing_ev (st:List Int) (hs:st.length≤12):∀ i:Int,1≤i→i≤st.length→∃ b:Bool,Ev (fun k=>impl_increasing.l0 k st i) b∧(b=true↔∀ j:Int,i≤j→j < st.length→rd st (j - 1) < rd st j):=by
 refine downA ?_ (fun i h0 h1 ih=>?_)
 ·exact ⟨true,Ev.step (fun k=>by simp only [impl_increasing.l0];rw [if_neg (by omega)]) (Ev.now _),by simp;intro j hj hj2;omega⟩
 ·obtain ⟨b,hb,hiff⟩:=ih
  have st0:∀ k,impl_increasing.l0 (k+1) st i=if rd st (i - 1)≥rd st i then some false else impl_increasing.l0 k st (i+1):=fun k=>by
   simp only [impl_increasing.l0]
   rw [w64 (x:=i+1) (by omega) (by omega),w64 (x:=i - 1) (by omega) (by omega),if_pos h1,if_pos (by omega),if_pos (by omega),if_pos (by omega)]
  by_cases r:rd st (i - 1)≥rd st i
  ·refine ⟨false,Ev.step (fun k=>by rw [st0,if_pos r]) (Ev.now _),?_⟩
   refine ⟨fun h=>(by cases h),fun h=>?_⟩
   have:=h i (Int.le_refl _) h1
   omega
  ·refine ⟨b,Ev.step (fun k=>by rw [st0,if_neg r]) hb,?_⟩
   rw [hiff]
   refine ⟨fun h j hj hj2=>?_,fun h j hj hj2=>h j (by omega) hj2⟩
   by_cases e:j=i
   ·subst e;omega
   ·exact h j (by omega) hj2
theorem line_sum {f e c:Int} (hf:0≤f∧f≤2000) (he:1≤e∧e≤2000) (hc:1≤c∧c≤60):wrap64 (f+wrap64 (wrap64 (c - 1)*e))=f+(c - 1)*e:=by
 have b:=mul_bd (A:=60) (B:=2000) (by omega:0≤c - 1) (by omega) (by omega:0≤e) (by omega)
 rw [w64 (x:=c - 1) (by omega) (by omega),w64 (x:=(c - 1)*e) (by omega) (by omega),w64 (by omega) (by omega)]
theorem buGood_ev (f e c:Int) (st:List Int):Ev (fun k=>spec_buGood.f k f e c st) (dec (GoodLine f e c st)):=by
 have bad:∀ {x:Bool},¬ GoodLine f e c st→x=true→Ev (fun k=>spec_buGood.j0 k x f e c st) (dec (GoodLine f e c st)):=by
  intro x hn hx
  subst hx
  rw [dec_false hn]
  exact Ev.step (fun k=>by simp only [spec_buGood.j0];rw [if_pos trivial]) (Ev.now _)
 unfold spec_buGood.f
 simp only [in_eq,Option.bind_some,decide_eq_true_eq]
 by_cases h1:0≤f∧f≤2000
 ·by_cases h2:1≤e∧e≤2000
  ·simp only [if_pos h1,if_pos h2]
   by_cases h3:1≤c∧c≤60
   ·have e3:(!decide (1≤c∧c≤60))=false:=by rw [decide_eq_true h3];rfl
    rw [e3]
    refine Ev.step (fun k=>by simp only [spec_buGood.j0];rw [if_neg (by simp),line_sum h1 h2 h3,in_eq,Option.bind_some]) ?_
    by_cases h4:f+(c - 1)*e > 2000
    ·rw [dec_false (fun g=>by have:=g.last;omega)]
     simp only [if_pos h4];exact Ev.now _
    ·simp only [if_neg h4]
     by_cases h5:2≤(st.length:Int)∧(st.length:Int)≤12
     ·simp only [if_pos (decide_eq_true h5),if_pos (show 0 < (st.length:Int) by omega)]
      by_cases h6:rd st 0=0
      ·simp only [if_pos h6]
       obtain ⟨b,hb,hiff⟩:=rising_ev st (by omega) 0 (by omega) (by omega)
       have:b=dec (GoodLine f e c st):=dec_of (by
        rw [hiff]
        refine ⟨fun h=>⟨h1,h2,h3,by omega,h5,h6,fun i hi hi2=>(h i (by omega) hi2).2 (by omega),(h (st.length - 1) (by omega) (by omega)).1.2⟩,fun g j hj hj2=>⟨g.range j hj hj2,fun hp=>g.rise j (by omega) hj2⟩⟩)
       rw [← this]
       exact Ev.bind hb (Ev.now _)
      ·rw [dec_false (fun g=>h6 g.zero)]
       simp only [if_neg h6];exact Ev.now _
     ·rw [dec_false (fun g=>h5 g.stops)]
      have:decide (2≤(st.length:Int)∧(st.length:Int)≤12)=false:=decide_eq_false h5
      simp only [this,Bool.false_eq_true,if_false];exact Ev.now _
   ·exact bad (fun g=>h3 g.count) (by rw [decide_eq_false h3];rfl)
  ·simp only [if_pos h1,if_neg h2]
   exact bad (fun g=>h2 g.every) rfl
 ·simp only [if_neg h1]
  exact bad (fun g=>h1 g.first) rfl
theorem isLine_ev (f e c:Int) (st:List Int):Ev (fun k=>impl_IsLine.f k f e c st) (dec (GoodLine f e c st)):=by
 have bad:∀ {x:Bool},¬ GoodLine f e c st→x=true→Ev (fun k=>impl_IsLine.j0 k x f e c st) (dec (GoodLine f e c st)):=by
  intro x hn hx
  subst hx
  rw [dec_false hn]
  exact Ev.step (fun k=>by simp only [impl_IsLine.j0];rw [if_pos trivial]) (Ev.now _)
 unfold impl_IsLine.f impl_isMinute.f
 simp only [within_eq,Option.bind_some,decide_eq_true_eq]
 by_cases h1:0≤f∧f≤2000
 ·by_cases h2:1≤e∧e≤2000
  ·by_cases h3:1≤c∧c≤60
   ·simp only [if_pos h1,if_pos h2,if_pos h3,line_sum h1 h2 h3]
    by_cases h4:f+(c - 1)*e > 2000
    ·exact bad (fun g=>by have:=g.last;omega) (decide_eq_true h4)
    ·rw [decide_eq_false h4]
     refine Ev.step (fun k=>by simp only [impl_IsLine.j0];rw [if_neg (by simp),within_eq,Option.bind_some]) ?_
     by_cases h5:2≤(st.length:Int)∧(st.length:Int)≤12
     ·simp only [if_pos (decide_eq_true h5),if_pos (show 0 < (st.length:Int) by omega)]
      by_cases h6:rd st 0=0
      ·simp only [if_pos h6]
       obtain ⟨b,hb,hiff⟩:=increasing_ev st (by omega) 1 (by omega) (by omega)
       refine Ev.bind (g:=fun k=>impl_increasing.f k st) hb ?_
       rw [w64 (x:=(st.length:Int) - 1) (by omega) (by omega)]
       simp only [if_pos (show 0≤(st.length:Int) - 1 by omega),if_pos (show (st.length:Int) - 1 < st.length by omega)]
       by_cases hb2:b=true
       ·simp only [if_pos hb2]
        have:decide (rd st ((st.length:Int) - 1)≤500)=dec (GoodLine f e c st):=dec_of (by
         rw [decide_eq_true_iff]
         exact ⟨fun h=>⟨h1,h2,h3,by omega,h5,h6,hiff.1 hb2,h⟩,fun g=>g.top⟩)
        rw [← this]
        exact Ev.now _
       ·rw [dec_false (fun g=>hb2 (hiff.2 g.rise))]
        simp only [if_neg hb2];exact Ev.now _
      ·rw [dec_false (fun g=>h6 g.zero)]
       simp only [if_neg h6];exact Ev.now _
     ·rw [dec_false (fun g=>h5 g.stops)]
      have:decide (2≤(st.length:Int)∧(st.length:Int)≤12)=false:=decide_eq_false h5
      simp only [this,Bool.false_eq_true,if_false];exact Ev.now _
   ·simp only [if_pos h1,if_pos h2,if_neg h3]
    exact bad (fun g=>h3 g.count) rfl
  ·simp only [if_pos h1,if_neg h2]
   exact bad (fun g=>h2 g.every) rfl
 ·simp only [if_neg h1]
  exact bad (fun g=>h1 g.first) rfl
def inB (lo hi:Int) (x:Int):Bool:=decide (lo≤x∧x≤hi)
theorem allWithin_l0_ev (l:List Int) (lo hi:Int) (hl:l.length≤1048576):∀ i:Int,0≤i→i≤l.length→Ev (fun k=>impl_allWithin.l0 k lo hi l l.length i) ((l.drop i.toNat).all (inB lo hi)):=by
 refine downI ?_ (fun i h0 h1 ih=>?_)
 ·refine Ev.step (fun k=>by simp only [impl_allWithin.l0];rw [if_neg (by omega)]) ?_
  rw [List.drop_of_length_le (by omega)]
  exact Ev.now _
 ·rw [drop_get l 0 i h0 h1,List.all_cons]
  refine Ev.step (f:=fun k=>if inB lo hi (rd l i)=true then impl_allWithin.l0 k lo hi l l.length (i+1) else some false) (fun k=>by simp only [impl_allWithin.l0,within_eq,Option.bind_some];rw [if_pos h1,if_pos h0,if_pos h1,w64 (x:=i+1) (by omega) (by omega)];rfl) ?_
  show Ev _ (inB lo hi (rd l i) && _)
  cases inB lo hi (rd l i)
  ·simp only [Bool.false_and,Bool.false_eq_true,if_false];exact Ev.now _
  ·simp only [Bool.true_and,if_true];exact ih
theorem allWithin_ev (l:List Int) (lo hi:Int) (hl:l.length≤1048576):Ev (fun k=>impl_allWithin.f k l lo hi) (l.all (inB lo hi)):=by
 unfold impl_allWithin.f
 exact allWithin_l0_ev l lo hi hl 0 (by omega) (by omega)
def tat (f e:Int) (st:List Int) (b s:Int):Int:=f+b*e+rd st s
def StopOf (st:List Int) (s:Int):Prop:=0≤s∧s < st.length
theorem tat_bd {f e c:Int} {st:List Int} (G:GoodLine f e c st) {b s:Int} (hb:0≤b∧b < c) (hs:StopOf st s):0≤tat f e st b s∧tat f e st b s≤2500∧0≤b*e∧b*e≤(c - 1)*e∧(c - 1)*e≤2000:=by
 have r:=G.range s hs.1 hs.2
 have h1:=G.first
 have h2:=G.every
 have h4:=G.last
 have m1:=mul_le_r (c:=e) (by omega) (show b≤c - 1 by omega)
 have m2:=Int.mul_nonneg hb.1 (show 0≤e by omega)
 unfold tat
 omega
theorem tat_w {f e c:Int} {st:List Int} (G:GoodLine f e c st) {b s:Int} (hb:0≤b∧b < c) (hs:StopOf st s):wrap64 (wrap64 (f+wrap64 (b*e))+rd st s)=tat f e st b s:=by
 have t:=tat_bd G hb hs
 have r:=G.range s hs.1 hs.2
 have h1:=G.first
 rw [w64 (x:=b*e) (by omega) (by omega),w64 (x:=f+b*e) (by omega) (by omega),w64 (by omega) (by omega)]
 rfl
theorem buTime_eq {f e c:Int} {st:List Int} (G:GoodLine f e c st) {b s:Int} (hb:0≤b∧b < c) (hs:StopOf st s):spec_buTime.f f e c st b s=some (tat f e st b s):=by
 unfold spec_buTime.f
 rw [if_pos hs.1,if_pos hs.2,tat_w G hb hs]
theorem timeAt_eq {f e c:Int} {st:List Int} (G:GoodLine f e c st) {b s:Int} (hb:0≤b∧b < c) (hs:StopOf st s):impl_timeAt.f f e c st b s=some (tat f e st b s):=by
 unfold impl_timeAt.f
 rw [if_pos hs.1,if_pos hs.2,tat_w G hb hs]
theorem hasStops_ev (f e c:Int) (st stops:List Int) (hl:stops.length≤1048576):Ev (fun k=>impl_hasStops.f k f e c st stops) (dec (GoodLine f e c st∧∀ s,s∈stops→StopOf st s)):=by
 unfold impl_hasStops.f
 refine Ev.bind (isLine_ev f e c st) ?_
 by_cases g:GoodLine f e c st
 ·rw [dec_true g]
  simp only [if_true]
  have h5:=g.stops
  rw [w64 (x:=(st.length:Int) - 1) (by omega) (by omega)]
  have:stops.all (inB 0 ((st.length:Int) - 1))=dec (GoodLine f e c st∧∀ s,s∈stops→StopOf st s):=dec_of (by
   rw [List.all_eq_true]
   refine ⟨fun h=>⟨g,fun s hs=>?_⟩,fun h s hs=>?_⟩
   ·have:=h s hs
    unfold inB at this
    have:=of_decide_eq_true this
    exact ⟨by omega,by omega⟩
   ·have:=h.2 s hs
    unfold inB
    exact decide_eq_true ⟨this.1,by have:=this.2;omega⟩)
  rw [← this]
  exact Ev.bind (allWithin_ev stops _ _ hl) (Ev.now _)
 ·rw [dec_false g,dec_false (fun h=>g h.1)]
  simp only [Bool.false_eq_true,if_false]
  exact Ev.now _
theorem hasStops0_ev (f e c:Int) (st:List Int):Ev (fun k=>impl_hasStops.f k f e c st []) (dec (GoodLine f e c st)):=by
 have h:=hasStops_ev f e c st [] (by simp)
 have:dec (GoodLine f e c st∧∀ s,s∈([]:List Int)→StopOf st s)=dec (GoodLine f e c st):=dec_of (by rw [dec_iff];simp)
 rw [this] at h
 exact h
theorem hasStops1_ev (f e c:Int) (st:List Int) (s:Int):Ev (fun k=>impl_hasStops.f k f e c st [s]) (dec (GoodLine f e c st∧StopOf st s)):=by
 have h:=hasStops_ev f e c st [s] (by simp)
 have:dec (GoodLine f e c st∧∀ x,x∈[s]→StopOf st x)=dec (GoodLine f e c st∧StopOf st s):=dec_of (by rw [dec_iff];simp)
 rw [this] at h
 exact h
theorem hasStops2_ev (f e c:Int) (st:List Int) (s t:Int):Ev (fun k=>impl_hasStops.f k f e c st [s,t]) (dec (GoodLine f e c st∧StopOf st s∧StopOf st t)):=by
 have h:=hasStops_ev f e c st [s,t] (by simp)
 have:dec (GoodLine f e c st∧∀ x,x∈[s,t]→StopOf st x)=dec (GoodLine f e c st∧StopOf st s∧StopOf st t):=dec_of (by rw [dec_iff];simp)
 rw [this] at h
 exact h
theorem buStop_ev (f e c:Int) (st:List Int) (s:Int):Ev (fun k=>spec_buStop.f k f e c st s) (dec (GoodLine f e c st∧StopOf st s)):=by
 unfold spec_buStop.f
 refine Ev.bind (buGood_ev f e c st) ?_
 by_cases g:GoodLine f e c st
 ·rw [dec_true g]
  have h5:=g.stops
  simp only [if_true,in_eq,Option.bind_some]
  rw [w64 (x:=(st.length:Int) - 1) (by omega) (by omega)]
  have:decide (0≤s∧s≤(st.length:Int) - 1)=dec (GoodLine f e c st∧StopOf st s):=dec_of (by
   rw [decide_eq_true_iff]
   exact ⟨fun h=>⟨g,h.1,by omega⟩,fun h=>⟨h.2.1,by have:=h.2.2;omega⟩⟩)
  rw [← this]
  exact Ev.now _
 ·rw [dec_false g,dec_false (fun h=>g h.1)]
  simp only [Bool.false_eq_true,if_false]
  exact Ev.now _
theorem buMinute_eq (m:Int):spec_buMinute.f m=some (decide (0≤m∧m≤2000)):=by unfold spec_buMinute.f;rw [in_eq];rfl
theorem isMinute_eq (m:Int):impl_isMinute.f m=some (decide (0≤m∧m≤2000)):=by unfold impl_isMinute.f;rw [within_eq];rfl
def nextB (f e:Int) (st:List Int) (s m:Int):Int:=mx 0 (Int.tdiv (m - tat f e st 0 s+e - 1) e)
theorem nextB_nn (f e:Int) (st:List Int) (s m:Int):0≤nextB f e st s m:=by unfold nextB mx;split <;> omega
theorem nextB_iff {f e:Int} {st:List Int} {s m b:Int} (he:1≤e) (hb:0≤b):m≤tat f e st b s↔nextB f e st s m≤b:=by
 have e0:tat f e st b s=tat f e st 0 s+b*e:=by unfold tat;rw [Int.zero_mul];omega
 rw [e0]
 unfold nextB
 generalize tat f e st 0 s=t
 have be:=Int.mul_nonneg hb (show 0≤e by omega)
 have key:mx 0 (Int.tdiv (m - t+e - 1) e)≤b↔Int.tdiv (m - t+e - 1) e≤b:=by unfold mx;split <;> omega
 rw [key]
 by_cases h:0≤m - t+e - 1
 ·rw [Int.tdiv_eq_ediv_of_nonneg h]
  rw [Int.ediv_le_iff_le_mul (show 0 < e by omega)]
  omega
 ·have h1:Int.tdiv (m - t+e - 1) e≤0:=by
   have:=Int.neg_tdiv (a := -(m - t+e - 1)) (b:=e)
   rw [Int.neg_neg] at this
   rw [this]
   have:=Int.tdiv_nonneg (a := -(m - t+e - 1)) (b:=e) (by omega) (by omega)
   omega
  omega
theorem nextBus_eq {f e c:Int} {st:List Int} (G:GoodLine f e c st) {s m:Int} (hs:StopOf st s) (hm0 : -1000000≤m) (hm:m≤1000000) :
  impl_nextBus.f f e c st s m=some (if nextB f e st s m < c then (nextB f e st s m,tat f e st (nextB f e st s m) s,true) else (0,0,false)):=by
 have r:=G.range s hs.1 hs.2
 have h1:=G.first
 have h2:=G.every
 have h3:=G.count
 have t0:=tat_bd G (show 0≤(0:Int)∧0 < c by omega) hs
 unfold impl_nextBus.f
 rw [timeAt_eq G (by omega) hs]
 simp only [Option.bind_some,if_neg (show ¬ e=0 by omega)]
 rw [w64 (x:=m - tat f e st 0 s) (by omega) (by omega),w64 (x:=m - tat f e st 0 s+e) (by omega) (by omega),w64 (x:=m - tat f e st 0 s+e - 1) (by omega) (by omega)]
 have hd : -9223372036854775808≤Int.tdiv (m - tat f e st 0 s+e - 1) e∧Int.tdiv (m - tat f e st 0 s+e - 1) e≤9223372036854775807:=by
  have:=Int.natAbs_tdiv_le_natAbs (m - tat f e st 0 s+e - 1) e
  omega
 rw [w64 hd.1 hd.2]
 change (if nextB f e st s m≥c then _ else _)=_
 by_cases h:nextB f e st s m < c
 ·rw [if_neg (by omega),if_pos h]
  have:=nextB_nn f e st s m
  change (impl_timeAt.f f e c st (nextB f e st s m) s).bind _=_
  rw [timeAt_eq G (by omega) hs]
  rfl
 ·rw [if_pos (by omega),if_neg h]
theorem buNext_l0_ev {f e c:Int} {st:List Int} (G:GoodLine f e c st) {s:Int} (m:Int) (hs:StopOf st s):∀ i:Int,0≤i→i≤c→i≤nextB f e st s m→Ev (fun k=>spec_buNext.l0 k s m i f e c st) (if nextB f e st s m < c then nextB f e st s m else -1):=by
 have h3:=G.count
 refine downI (fun h=>?_) (fun i h0 h1 ih h=>?_)
 ·refine Ev.step (fun k=>by simp only [spec_buNext.l0];rw [if_neg (by omega)]) ?_
  rw [if_neg (by omega)]
  exact Ev.now _
 ·have iff:=nextB_iff (f:=f) (st:=st) (s:=s) (m:=m) (b:=i) G.every.1 h0
  by_cases c1:tat f e st i s≥m
  ·have:=iff.1 c1
   have e1:nextB f e st s m=i:=by omega
   rw [e1,if_pos h1]
   exact Ev.step (fun k=>by simp only [spec_buNext.l0];rw [if_pos h1,buTime_eq G ⟨h0,h1⟩ hs,Option.bind_some,if_pos c1]) (Ev.now _)
  ·have:¬ nextB f e st s m≤i:=fun h=>c1 (iff.2 h)
   refine Ev.step (fun k=>by simp only [spec_buNext.l0];rw [if_pos h1,buTime_eq G ⟨h0,h1⟩ hs,Option.bind_some,if_neg c1,w64 (x:=i+1) (by omega) (by omega)]) (ih (by omega))
theorem buNext_ev {f e c:Int} {st:List Int} (G:GoodLine f e c st) {s:Int} (m:Int) (hs:StopOf st s):Ev (fun k=>spec_buNext.f k f e c st s m) (if nextB f e st s m < c then nextB f e st s m else -1) :=
 buNext_l0_ev G m hs 0 (by omega) (by have:=G.count;omega) (nextB_nn f e st s m)
noncomputable def NextR (f e c:Int) (st:List Int) (s m:Int):Int × Int × Bool:=if dec ((GoodLine f e c st∧StopOf st s)∧(0≤m∧m≤2000)∧nextB f e st s m < c)=true then (nextB f e st s m,tat f e st (nextB f e st s m) s,true) else (0,0,false)
theorem specNext_ev (f e c:Int) (st:List Int) (s m:Int):Ev (fun k=>spec_NextBus.f k f e c st s m) (NextR f e c st s m):=by
 unfold NextR
 refine Ev.bind (buStop_ev f e c st s) ?_
 by_cases g:GoodLine f e c st∧StopOf st s
 ·rw [dec_true g]
  simp only [if_true,buMinute_eq,Option.bind_some]
  by_cases hm:0≤m∧m≤2000
  ·rw [decide_eq_true hm]
   refine Ev.step (fun k=>by simp only [spec_NextBus.j0];rw [if_neg (by simp)]) (Ev.bind (buNext_ev g.1 m g.2) ?_)
   by_cases h:nextB f e st s m < c
   ·rw [if_pos h,dec_true (p:=(GoodLine f e c st∧StopOf st s)∧(0≤m∧m≤2000)∧nextB f e st s m < c) ⟨g,hm,h⟩]
    have n0:=nextB_nn f e st s m
    simp only [if_neg (show ¬ nextB f e st s m < 0 by omega),buTime_eq g.1 ⟨n0,h⟩ g.2,Option.bind_some,if_true]
    exact Ev.now _
   ·rw [if_neg h,dec_false (fun q=>h q.2.2)]
    simp only [if_pos (show (-1:Int) < 0 by omega),Bool.false_eq_true,if_false]
    exact Ev.now _
  ·rw [decide_eq_false hm,dec_false (fun q=>hm q.2.1)]
   simp only [Bool.false_eq_true,if_false]
   exact Ev.step (fun k=>by simp only [spec_NextBus.j0];rw [if_pos (by simp)]) (Ev.now _)
 ·rw [dec_false g,dec_false (fun q=>g q.1)]
  simp only [Bool.false_eq_true,if_false]
  exact Ev.step (fun k=>by simp only [spec_NextBus.j0];rw [if_pos (by simp)]) (Ev.now _)
theorem implNext_ev (f e c:Int) (st:List Int) (s m:Int):Ev (fun k=>impl_NextBus.f k f e c st s m) (NextR f e c st s m):=by
 unfold NextR
 refine Ev.bind (hasStops1_ev f e c st s) ?_
 by_cases g:GoodLine f e c st∧StopOf st s
 ·rw [dec_true g]
  simp only [if_true,isMinute_eq,Option.bind_some]
  by_cases hm:0≤m∧m≤2000
  ·rw [decide_eq_true hm]
   simp only [if_true,nextBus_eq g.1 g.2 (show -1000000≤m by omega) (by omega),Option.bind_some]
   by_cases h:nextB f e st s m < c
   ·rw [if_pos h,dec_true (p:=(GoodLine f e c st∧StopOf st s)∧(0≤m∧m≤2000)∧nextB f e st s m < c) ⟨g,hm,h⟩]
    exact Ev.now _
   ·rw [if_neg h,dec_false (fun q=>h q.2.2)]
    exact Ev.now _
  ·rw [decide_eq_false hm,dec_false (fun q=>hm q.2.1)]
   simp only [Bool.false_eq_true,if_false]
   exact Ev.now _
 ·rw [dec_false g,dec_false (fun q=>g q.1)]
  simp only [Bool.false_eq_true,if_false]
  exact Ev.now _
noncomputable def WaitR (f e c:Int) (st:List Int) (s m:Int):Int × Bool:=if (NextR f e c st s m).2.2=true then ((NextR f e c st s m).2.1 - m,true) else (0,false)
theorem next_cases (f e c:Int) (st:List Int) (s m:Int):((GoodLine f e c st∧StopOf st s)∧(0≤m∧m≤2000)∧nextB f e st s m < c∧NextR f e c st s m=(nextB f e st s m,tat f e st (nextB f e st s m) s,true))∨(¬ ((GoodLine f e c st∧StopOf st s)∧(0≤m∧m≤2000)∧nextB f e st s m < c)∧NextR f e c st s m=(0,0,false)):=by
 by_cases h:(GoodLine f e c st∧StopOf st s)∧(0≤m∧m≤2000)∧nextB f e st s m < c
 ·left;exact ⟨h.1,h.2.1,h.2.2,by unfold NextR;rw [dec_true h];rfl⟩
 ·right;exact ⟨h,by unfold NextR;rw [dec_false h];rfl⟩
theorem wait_w {f e c:Int} {st:List Int} (G:GoodLine f e c st) {s m:Int} (hs:StopOf st s) (hm:0≤m∧m≤2000) (h:nextB f e st s m < c):wrap64 (tat f e st (nextB f e st s m) s - m)=tat f e st (nextB f e st s m) s - m:=by
 have:=tat_bd G ⟨nextB_nn f e st s m,h⟩ hs
 exact w64 (by omega) (by omega)
theorem specWait_ev (f e c:Int) (st:List Int) (s m:Int):Ev (fun k=>spec_WaitFor.f k f e c st s m) (WaitR f e c st s m):=by
 unfold WaitR
 refine Ev.bind (specNext_ev f e c st s m) ?_
 rcases next_cases f e c st s m with ⟨g,hm,h,e1⟩|⟨h,e1⟩
 ·rw [e1];simp only [if_true,wait_w g.1 g.2 hm h];exact Ev.now _
 ·rw [e1];simp only [Bool.false_eq_true,if_false];exact Ev.now _
theorem implWait_ev (f e c:Int) (st:List Int) (s m:Int):Ev (fun k=>impl_WaitFor.f k f e c st s m) (WaitR f e c st s m):=by
 unfold WaitR
 refine Ev.bind (hasStops1_ev f e c st s) ?_
 have bad:∀ {x:Bool},¬ ((GoodLine f e c st∧StopOf st s)∧(0≤m∧m≤2000))→x=true→Ev (fun k=>impl_WaitFor.j0 k s m x f e c st) (if (NextR f e c st s m).2.2=true then ((NextR f e c st s m).2.1 - m,true) else (0,false)):=by
  intro x h hx
  subst hx
  rcases next_cases f e c st s m with ⟨g,hm,_,_⟩|⟨_,e1⟩
  ·exact absurd ⟨g,hm⟩ h
  ·rw [e1];simp only [Bool.false_eq_true,if_false];exact Ev.step (fun k=>by simp only [impl_WaitFor.j0];rw [if_pos trivial]) (Ev.now _)
 by_cases g:GoodLine f e c st∧StopOf st s
 ·rw [dec_true g]
  simp only [if_true,isMinute_eq,Option.bind_some]
  by_cases hm:0≤m∧m≤2000
  ·rw [decide_eq_true hm]
   refine Ev.step (fun k=>by simp only [impl_WaitFor.j0];rw [if_neg (by simp),nextBus_eq g.1 g.2 (show -1000000≤m by omega) (by omega),Option.bind_some]) ?_
   rcases next_cases f e c st s m with ⟨_,_,h,e1⟩|⟨h,e1⟩
   ·rw [e1];simp only [if_pos h,if_true,wait_w g.1 g.2 hm h];exact Ev.now _
   ·have h':¬ nextB f e st s m < c:=fun q=>h ⟨g,hm,q⟩
    rw [e1];simp only [if_neg h',Bool.false_eq_true,if_false];exact Ev.now _
  ·exact bad (fun q=>hm q.2) (by rw [decide_eq_false hm];rfl)
 ·rw [dec_false g]
  simp only [Bool.false_eq_true,if_false]
  exact bad (fun q=>g q.1) rfl
theorem busesOn_l0_ev {f e c:Int} {st:List Int} (G:GoodLine f e c st) (m:Int):∀ i:Int,0≤i→i≤c→∀ acc:List Int,(acc.length:Int)≤i →
  ∃ r:List Int,Ev (fun k=>spec_BusesOnWay.l0 k m acc i f e c st) (r,true)∧Ev (fun k=>impl_BusesOnWay.l0 k m acc c i f e c st) (r,true)∧r=acc ++ ((List.range (c - i).toNat).map (fun (j:Nat)=>i+(j:Int))).filter (fun b=>decide (tat f e st b 0≤m∧m≤tat f e st b (st.length - 1)))∧(r.length:Int)≤c:=by
 have h3:=G.count
 have h5:=G.stops
 have z:StopOf st 0:=⟨by omega,by omega⟩
 have z2:StopOf st (st.length - 1):=⟨by omega,by omega⟩
 have wl:wrap64 ((st.length:Int) - 1)=(st.length:Int) - 1:=w64 (by omega) (by omega)
 refine downI (fun acc ha=>?_) (fun i h0 h1 ih acc ha=>?_)
 ·refine ⟨acc,Ev.step (fun k=>by simp only [spec_BusesOnWay.l0];rw [if_neg (by omega)]) (Ev.now _),Ev.step (fun k=>by simp only [impl_BusesOnWay.l0];rw [if_neg (by omega)]) (Ev.now _),?_,ha⟩
  rw [show (c - c).toNat=0 by omega]
  simp
 ·have w1:wrap64 (i+1)=i+1:=w64 (by omega) (by omega)
  have er:(List.range (c - i).toNat).map (fun (j:Nat)=>i+(j:Int))=i :: (List.range (c - (i+1)).toNat).map (fun (j:Nat)=>i+1+(j:Int)):=by
   rw [show (c - i).toNat=(c - (i+1)).toNat+1 by omega,List.range_succ_eq_map,List.map_cons,List.map_map]
   congr 1
   ·simp
   ·refine List.map_congr_left fun j _=>?_
    simp
    omega
  by_cases a:tat f e st i 0≤m∧m≤tat f e st i (st.length - 1)
  ·obtain ⟨r,a1,a2,a3,a4⟩:=ih (acc ++ [i]) (by simp;omega)
   refine ⟨r,Ev.step (fun k=>by simp only [spec_BusesOnWay.l0];rw [if_pos h1,buTime_eq G ⟨h0,h1⟩ z,Option.bind_some,if_pos a.1,wl,buTime_eq G ⟨h0,h1⟩ z2,Option.bind_some,if_pos a.2,if_pos (by omega),w1]) a1,Ev.step (fun k=>by simp only [impl_BusesOnWay.l0];rw [if_pos h1,timeAt_eq G ⟨h0,h1⟩ z,Option.bind_some,wl,timeAt_eq G ⟨h0,h1⟩ z2,Option.bind_some,within_eq,Option.bind_some,if_pos (decide_eq_true a),if_pos (by omega),w1]) a2,?_,a4⟩
   rw [a3,er,List.filter_cons,if_pos (decide_eq_true a)]
   simp
  ·obtain ⟨r,a1,a2,a3,a4⟩:=ih acc (by omega)
   refine ⟨r,?_,Ev.step (fun k=>by simp only [impl_BusesOnWay.l0];rw [if_pos h1,timeAt_eq G ⟨h0,h1⟩ z,Option.bind_some,wl,timeAt_eq G ⟨h0,h1⟩ z2,Option.bind_some,within_eq,Option.bind_some,if_neg (by simpa using a),w1]) a2,?_,a4⟩
   ·by_cases b:tat f e st i 0≤m
    ·exact Ev.step (fun k=>by simp only [spec_BusesOnWay.l0];rw [if_pos h1,buTime_eq G ⟨h0,h1⟩ z,Option.bind_some,if_pos b,wl,buTime_eq G ⟨h0,h1⟩ z2,Option.bind_some,if_neg (fun q=>a ⟨b,q⟩),w1]) a1
    ·exact Ev.step (fun k=>by simp only [spec_BusesOnWay.l0];rw [if_pos h1,buTime_eq G ⟨h0,h1⟩ z,Option.bind_some,if_neg b,w1]) a1
   ·rw [a3,er,List.filter_cons,if_neg (by simpa using a)]
def onWay (f e c:Int) (st:List Int) (m:Int):List Int:=((List.range c.toNat).map (fun (j:Nat)=>(j:Int))).filter (fun b=>decide (tat f e st b 0≤m∧m≤tat f e st b (st.length - 1)))
noncomputable def OnR (f e c:Int) (st:List Int) (m:Int):List Int × Bool:=if dec (GoodLine f e c st∧0≤m∧m≤2000)=true then (onWay f e c st m,true) else ([],false)
theorem busesOn_told (f e c:Int) (st:List Int) (m:Int):Ev (fun k=>spec_BusesOnWay.f k f e c st m) (OnR f e c st m)∧Ev (fun k=>impl_BusesOnWay.f k f e c st m) (OnR f e c st m)∧(OnR f e c st m).1.length≤60:=by
 by_cases P:GoodLine f e c st∧0≤m∧m≤2000
 ·have e1:OnR f e c st m=(onWay f e c st m,true):=by unfold OnR;rw [dec_true P];rfl
  obtain ⟨G,hm⟩:=P
  have h3:=G.count
  obtain ⟨r,a1,a2,a3,a4⟩:=busesOn_l0_ev G m 0 (by omega) (by omega) [] (by simp)
  have e2:r=onWay f e c st m:=by
   rw [a3];unfold onWay;simp
  rw [e1,← e2]
  refine ⟨Ev.bind (buGood_ev f e c st) ?_,Ev.bind (hasStops0_ev f e c st) ?_,by simp only;omega⟩
  ·rw [dec_true G]
   simp only [if_true,buMinute_eq,Option.bind_some,decide_eq_true hm]
   exact Ev.step (fun k=>by simp only [spec_BusesOnWay.j0];rw [if_neg (by simp)]) a1
  ·rw [dec_true G]
   simp only [if_true,isMinute_eq,Option.bind_some,decide_eq_true hm]
   exact Ev.step (fun k=>by simp only [impl_BusesOnWay.j0];rw [if_neg (by simp)]) a2
 ·have e1:OnR f e c st m=([],false):=by unfold OnR;rw [dec_false P];rfl
  rw [e1]
  refine ⟨Ev.bind (buGood_ev f e c st) ?_,Ev.bind (hasStops0_ev f e c st) ?_,by simp⟩
  ·by_cases G:GoodLine f e c st
   ·rw [dec_true G]
    simp only [if_true,buMinute_eq,Option.bind_some,decide_eq_false (fun h=>P ⟨G,h⟩)]
    exact Ev.step (fun k=>by simp only [spec_BusesOnWay.j0];rw [if_pos (by simp)]) (Ev.now _)
   ·rw [dec_false G]
    simp only [Bool.false_eq_true,if_false]
    exact Ev.step (fun k=>by simp only [spec_BusesOnWay.j0];rw [if_pos (by simp)]) (Ev.now _)
  ·by_cases G:GoodLine f e c st
   ·rw [dec_true G]
    simp only [if_true,isMinute_eq,Option.bind_some,decide_eq_false (fun h=>P ⟨G,h⟩)]
    exact Ev.step (fun k=>by simp only [impl_BusesOnWay.j0];rw [if_pos (by simp)]) (Ev.now _)
   ·rw [dec_false G]
    simp only [Bool.false_eq_true,if_false]
    exact Ev.step (fun k=>by simp only [impl_BusesOnWay.j0];rw [if_pos (by simp)]) (Ev.now _)
theorem where_l0_ev {f e c:Int} {st:List Int} (G:GoodLine f e c st) {b m:Int} (hb:0≤b∧b < c) (h:tat f e st b 0≤m):∀ n:Nat,(n:Int)≤st.length - 1 →
  ∃ w:Int,Ev (fun k=>spec_WhereIsBus.l0 k b m n f e c st) (w,(tat f e st b w == m),true)∧Ev (fun k=>impl_WhereIsBus.l0 k b m n f e c st) (w,(tat f e st b w == m),true)∧0≤w∧w≤n∧tat f e st b w≤m∧(w < n→m < tat f e st b (w+1)):=by
 have h5:=G.stops
 intro n
 induction n with
 | zero =>
  intro _
  have z:StopOf st 0:=⟨by omega,by omega⟩
  refine ⟨0,Ev.step (fun k=>by simp only [spec_WhereIsBus.l0];rw [if_neg (by simp),buTime_eq G hb z,Option.bind_some]) (Ev.now _),Ev.step (fun k=>by simp only [impl_WhereIsBus.l0];rw [show ((0:Nat):Int)=0 from rfl,timeAt_eq G hb z,Option.bind_some,if_neg (by omega),Option.bind_some]) (Ev.now _),by omega,by omega,h,by omega⟩
 | succ n ih =>
  intro hn
  have z:StopOf st ((n+1:Nat):Int):=⟨by omega,by omega⟩
  by_cases c1:tat f e st b ((n+1:Nat):Int)≤m
  ·refine ⟨((n+1:Nat):Int),Ev.step (fun k=>by simp only [spec_WhereIsBus.l0];rw [if_pos (by omega),buTime_eq G hb z,Option.bind_some,if_pos c1]) (Ev.now _),Ev.step (fun k=>by simp only [impl_WhereIsBus.l0];rw [timeAt_eq G hb z,Option.bind_some,if_neg (by omega),Option.bind_some]) (Ev.now _),by omega,by omega,c1,by omega⟩
  ·obtain ⟨w,a1,a2,a3,a4,a5,a6⟩:=ih (by omega)
   have e1:((n+1:Nat):Int) - 1=n:=by omega
   refine ⟨w,Ev.step (fun k=>by simp only [spec_WhereIsBus.l0];rw [if_pos (by omega),buTime_eq G hb z,Option.bind_some,if_neg c1,w64 (x:=((n+1:Nat):Int) - 1) (by omega) (by omega),e1]) a1,Ev.step (fun k=>by simp only [impl_WhereIsBus.l0];rw [timeAt_eq G hb z,Option.bind_some,if_pos (by omega),w64 (x:=((n+1:Nat):Int) - 1) (by omega) (by omega),e1]) a2,a3,by omega,a5,fun q=>?_⟩
   by_cases c2:w < n
   ·exact a6 c2
   ·rw [show w+1=((n+1:Nat):Int) by omega];omega
def WhereP (f e c:Int) (st:List Int) (b m:Int):Prop:=GoodLine f e c st∧(0≤b∧b≤c - 1)∧(0≤m∧m≤2000)∧tat f e st b 0≤m∧m≤tat f e st b (st.length - 1)
theorem whereIs_told (f e c:Int) (st:List Int) (b m:Int):∃ r:Int × Bool × Bool,Ev (fun k=>spec_WhereIsBus.f k f e c st b m) r∧Ev (fun k=>impl_WhereIsBus.f k f e c st b m) r ∧
  ((¬ WhereP f e c st b m∧r=(0,false,false))∨(WhereP f e c st b m∧∃ w:Int,r=(w,(tat f e st b w == m),true)∧0≤w∧w≤st.length - 1∧tat f e st b w≤m∧(w < st.length - 1→m < tat f e st b (w+1)))):=by
 by_cases P:WhereP f e c st b m
 ·obtain ⟨G,hb,hm,h1,h2⟩:=P
  have h5:=G.stops
  have hb':0≤b∧b < c:=by omega
  have h3:=G.count
  have z:StopOf st 0:=⟨by omega,by omega⟩
  have z2:StopOf st (st.length - 1):=⟨by omega,by omega⟩
  obtain ⟨w,a1,a2,a3,a4,a5,a6⟩:=where_l0_ev G hb' h1 (st.length - 1) (by omega)
  have e1:((st.length - 1:Nat):Int)=(st.length:Int) - 1:=by omega
  rw [e1] at a1 a2 a4 a6
  have wl:wrap64 ((st.length:Int) - 1)=(st.length:Int) - 1:=w64 (by omega) (by omega)
  refine ⟨_,Ev.bind (buGood_ev f e c st) ?_,Ev.bind (hasStops0_ev f e c st) ?_,.inr ⟨⟨G,hb,hm,h1,h2⟩,w,rfl,a3,a4,a5,a6⟩⟩
  ·rw [dec_true G]
   simp only [if_true,in_eq,Option.bind_some,w64 (x:=c - 1) (by omega) (by omega),decide_eq_true hb,buMinute_eq,decide_eq_true hm,Bool.not_true]
   refine Ev.step (fun k=>by simp only [spec_WhereIsBus.j0];rw [if_neg (by simp),buTime_eq G hb' z,Option.bind_some,if_neg (by omega),wl,buTime_eq G hb' z2,Option.bind_some,decide_eq_false (by omega)]) ?_
   exact Ev.step (fun k=>by simp only [spec_WhereIsBus.j1];rw [if_neg (by simp)]) a1
  ·rw [dec_true G]
   simp only [if_true,within_eq,Option.bind_some,w64 (x:=c - 1) (by omega) (by omega),decide_eq_true hb,isMinute_eq,decide_eq_true hm,Bool.not_true]
   refine Ev.step (fun k=>by simp only [impl_WhereIsBus.j0];rw [if_neg (by simp),timeAt_eq G hb' z,Option.bind_some,if_neg (by omega),wl,timeAt_eq G hb' z2,Option.bind_some,decide_eq_false (by omega)]) ?_
   exact Ev.step (fun k=>by simp only [impl_WhereIsBus.j1];rw [if_neg (by simp)]) a2
 ·refine ⟨(0,false,false),Ev.bind (buGood_ev f e c st) ?_,Ev.bind (hasStops0_ev f e c st) ?_,.inl ⟨P,rfl⟩⟩
  ·have bad:Ev (fun k=>spec_WhereIsBus.j0 k b m true f e c st) (0,false,false):=Ev.step (fun k=>by simp only [spec_WhereIsBus.j0];rw [if_pos trivial]) (Ev.now _)
   by_cases G:GoodLine f e c st
   ·rw [dec_true G]
    have h3:=G.count
    have h5:=G.stops
    have wl:wrap64 ((st.length:Int) - 1)=(st.length:Int) - 1:=w64 (by omega) (by omega)
    simp only [if_true,in_eq,Option.bind_some,w64 (x:=c - 1) (by omega) (by omega),buMinute_eq,decide_eq_true_eq]
    by_cases hb:0≤b∧b≤c - 1
    ·simp only [if_pos hb]
     by_cases hm:0≤m∧m≤2000
     ·have hb':0≤b∧b < c:=by omega
      have z:StopOf st 0:=⟨by omega,by omega⟩
      have z2:StopOf st (st.length - 1):=⟨by omega,by omega⟩
      have badj:∀ {x:Bool},x=true→Ev (fun k=>spec_WhereIsBus.j1 k b m (st.length - 1) x f e c st) (0,false,false):=fun {x} hx=>by subst hx;exact Ev.step (fun k=>by simp only [spec_WhereIsBus.j1];rw [if_pos trivial]) (Ev.now _)
      rw [decide_eq_true hm]
      by_cases h1:tat f e st b 0≤m
      ·exact Ev.step (fun k=>by simp only [spec_WhereIsBus.j0];rw [if_neg (by simp),buTime_eq G hb' z,Option.bind_some,if_neg (by omega),wl,buTime_eq G hb' z2,Option.bind_some]) (badj (decide_eq_true (by have:¬ m≤tat f e st b (st.length - 1):=fun q=>P ⟨G,hb,hm,h1,q⟩;omega)))
      ·exact Ev.step (fun k=>by simp only [spec_WhereIsBus.j0];rw [if_neg (by simp),buTime_eq G hb' z,Option.bind_some,if_pos (by omega),wl]) (badj rfl)
     ·rw [decide_eq_false hm];exact bad
    ·simp only [if_neg hb];exact bad
   ·rw [dec_false G];simp only [Bool.false_eq_true,if_false];exact bad
  ·have bad:Ev (fun k=>impl_WhereIsBus.j0 k b m true f e c st) (0,false,false):=Ev.step (fun k=>by simp only [impl_WhereIsBus.j0];rw [if_pos trivial]) (Ev.now _)
   by_cases G:GoodLine f e c st
   ·rw [dec_true G]
    have h3:=G.count
    have h5:=G.stops
    have wl:wrap64 ((st.length:Int) - 1)=(st.length:Int) - 1:=w64 (by omega) (by omega)
    simp only [if_true,within_eq,Option.bind_some,w64 (x:=c - 1) (by omega) (by omega),isMinute_eq,decide_eq_true_eq]
    by_cases hb:0≤b∧b≤c - 1
    ·simp only [if_pos hb]
     by_cases hm:0≤m∧m≤2000
     ·have hb':0≤b∧b < c:=by omega
      have z:StopOf st 0:=⟨by omega,by omega⟩
      have z2:StopOf st (st.length - 1):=⟨by omega,by omega⟩
      have badj:∀ {x:Bool},x=true→Ev (fun k=>impl_WhereIsBus.j1 k b m (st.length - 1) x f e c st) (0,false,false):=fun {x} hx=>by subst hx;exact Ev.step (fun k=>by simp only [impl_WhereIsBus.j1];rw [if_pos trivial]) (Ev.now _)
      rw [decide_eq_true hm]
      by_cases h1:tat f e st b 0≤m
      ·exact Ev.step (fun k=>by simp only [impl_WhereIsBus.j0];rw [if_neg (by simp),timeAt_eq G hb' z,Option.bind_some,if_neg (by omega),wl,timeAt_eq G hb' z2,Option.bind_some]) (badj (decide_eq_true (by have:¬ m≤tat f e st b (st.length - 1):=fun q=>P ⟨G,hb,hm,h1,q⟩;omega)))
      ·exact Ev.step (fun k=>by simp only [impl_WhereIsBus.j0];rw [if_neg (by simp),timeAt_eq G hb' z,Option.bind_some,if_pos (by omega),wl]) (badj rfl)
     ·rw [decide_eq_false hm];exact bad
    ·simp only [if_neg hb];exact bad
   ·rw [dec_false G];simp only [Bool.false_eq_true,if_false];exact bad
theorem whereIs_ev (f e c:Int) (st:List Int) (b m:Int):∃ r:Int × Bool × Bool,Ev (fun k=>spec_WhereIsBus.f k f e c st b m) r∧Ev (fun k=>impl_WhereIsBus.f k f e c st b m) r:=by
 obtain ⟨r,a,b,_⟩:=whereIs_told f e c st b m
 exact ⟨r,a,b⟩
theorem buRide_ev (f e c:Int) (st:List Int) (s t:Int):Ev (fun k=>spec_buRide.f k f e c st s t) (dec (GoodLine f e c st∧StopOf st s∧StopOf st t∧s < t)):=by
 unfold spec_buRide.f
 refine Ev.bind (buStop_ev f e c st s) ?_
 by_cases g:GoodLine f e c st∧StopOf st s
 ·rw [dec_true g]
  simp only [if_true]
  refine Ev.bind (buStop_ev f e c st t) ?_
  by_cases g2:GoodLine f e c st∧StopOf st t
  ·rw [dec_true g2]
   simp only [if_true]
   have:decide (s < t)=dec (GoodLine f e c st∧StopOf st s∧StopOf st t∧s < t):=dec_of (by
    rw [decide_eq_true_iff]
    exact ⟨fun h=>⟨g.1,g.2,g2.2,h⟩,fun h=>h.2.2.2⟩)
   rw [← this]
   exact Ev.now _
  ·rw [dec_false g2,dec_false (fun h=>g2 ⟨h.1,h.2.2.1⟩)]
   simp only [Bool.false_eq_true,if_false]
   exact Ev.now _
 ·rw [dec_false g,dec_false (fun h=>g ⟨h.1,h.2.1⟩)]
  simp only [Bool.false_eq_true,if_false]
  exact Ev.now _
def lastB (f e c:Int) (st:List Int) (s m:Int):Int:=mn (c - 1) (Int.tdiv (m - tat f e st 0 s) e)
theorem lastB_iff {f e c:Int} {st:List Int} (G:GoodLine f e c st) {s m b:Int} (h:tat f e st 0 s≤m) (hb:0≤b∧b < c):tat f e st b s≤m↔b≤lastB f e c st s m:=by
 have e0:tat f e st b s=tat f e st 0 s+b*e:=by unfold tat;rw [Int.zero_mul];omega
 have he:=G.every
 rw [e0]
 unfold lastB
 rw [Int.tdiv_eq_ediv_of_nonneg (by omega)]
 have:b≤(m - tat f e st 0 s) / e↔b*e≤m - tat f e st 0 s:=Int.le_ediv_iff_mul_le (by omega)
 unfold mn
 split <;> omega
theorem lastB_bd {f e c:Int} {st:List Int} (G:GoodLine f e c st) {s m:Int} (h:tat f e st 0 s≤m):0≤lastB f e c st s m∧lastB f e c st s m < c:=by
 have he:=G.every
 have hc:=G.count
 unfold lastB
 rw [Int.tdiv_eq_ediv_of_nonneg (by omega)]
 have:=Int.ediv_nonneg (show 0≤m - tat f e st 0 s by omega) (show 0≤e by omega)
 unfold mn
 split <;> omega
def LastP (f e c:Int) (st:List Int) (s t m:Int):Prop:=(GoodLine f e c st∧StopOf st s∧StopOf st t∧s < t)∧(0≤m∧m≤2000)∧tat f e st 0 t≤m
noncomputable def LastR (f e c:Int) (st:List Int) (s t m:Int):Int × Int × Bool:=if dec (LastP f e c st s t m)=true then (lastB f e c st t m,tat f e st (lastB f e c st t m) s,true) else (0,0,false)
theorem specLast_l0_ev {f e c:Int} {st:List Int} (G:GoodLine f e c st) {s t m:Int} (hs:StopOf st s) (ht:StopOf st t) (h:tat f e st 0 t≤m):∀ n:Nat,∀ i:Int,i - lastB f e c st t m=n→i < c→Ev (fun k=>spec_LastBusBy.l0 k s t m i f e c st) (lastB f e c st t m,tat f e st (lastB f e c st t m) s,true):=by
 have bd:=lastB_bd G h
 intro n
 induction n with
 | zero =>
  intro i hi hc
  have e1:i=lastB f e c st t m:=by omega
  rw [← e1] at bd ⊢
  have:=(lastB_iff G h bd).2 (by omega)
  refine Ev.step (fun k=>by simp only [spec_LastBusBy.l0];rw [if_pos (by omega),buTime_eq G bd ht,Option.bind_some,if_pos this,buTime_eq G bd hs,Option.bind_some]) (Ev.now _)
 | succ n ih =>
  intro i hi hc
  have hc3:=G.count
  have:=fun q=>(lastB_iff G h (show 0≤i∧i < c by omega)).1 q
  refine Ev.step (fun k=>by simp only [spec_LastBusBy.l0];rw [if_pos (by omega),buTime_eq G (by omega) ht,Option.bind_some,if_neg (fun q=>by have:=this q;omega),w64 (x:=i - 1) (by omega) (by omega)]) (ih (i - 1) (by omega) (by omega))
theorem specLast_none {f e c:Int} {st:List Int} (G:GoodLine f e c st) {s t m:Int} (ht:StopOf st t) (h:m < tat f e st 0 t):∀ n:Nat,∀ i:Int,i+1=n→i < c→Ev (fun k=>spec_LastBusBy.l0 k s t m i f e c st) (0,0,false):=by
 intro n
 induction n with
 | zero =>
  intro i hi hc
  exact Ev.step (fun k=>by simp only [spec_LastBusBy.l0];rw [if_neg (by omega)]) (Ev.now _)
 | succ n ih =>
  intro i hi hc
  have hc3:=G.count
  have e0:tat f e st i t=tat f e st 0 t+i*e:=by unfold tat;rw [Int.zero_mul];omega
  have:=Int.mul_nonneg (show 0≤i by omega) (show 0≤e by have:=G.every;omega)
  refine Ev.step (fun k=>by simp only [spec_LastBusBy.l0];rw [if_pos (by omega),buTime_eq G (by omega) ht,Option.bind_some,if_neg (by omega),w64 (x:=i - 1) (by omega) (by omega)]) (ih (i - 1) (by omega) (by omega))
theorem specLast_ev (f e c:Int) (st:List Int) (s t m:Int):Ev (fun k=>spec_LastBusBy.f k f e c st s t m) (LastR f e c st s t m):=by
 have bad:∀ {x:Bool},¬ LastP f e c st s t m→x=true→Ev (fun k=>spec_LastBusBy.j0 k s t m x f e c st) (LastR f e c st s t m):=by
  intro x h hx
  subst hx
  unfold LastR
  rw [dec_false h]
  simp only [Bool.false_eq_true,if_false]
  exact Ev.step (fun k=>by simp only [spec_LastBusBy.j0];rw [if_pos trivial]) (Ev.now _)
 refine Ev.bind (buRide_ev f e c st s t) ?_
 by_cases g:GoodLine f e c st∧StopOf st s∧StopOf st t∧s < t
 ·rw [dec_true g]
  simp only [if_true,buMinute_eq,Option.bind_some]
  by_cases hm:0≤m∧m≤2000
  ·rw [decide_eq_true hm]
   have hc3:=g.1.count
   refine Ev.step (fun k=>by simp only [spec_LastBusBy.j0];rw [if_neg (by simp),w64 (x:=c - 1) (by omega) (by omega)]) ?_
   unfold LastR
   by_cases h:tat f e st 0 t≤m
   ·rw [dec_true (p:=LastP f e c st s t m) ⟨g,hm,h⟩]
    simp only [if_true]
    have bd:=lastB_bd g.1 h
    exact specLast_l0_ev g.1 g.2.1 g.2.2.1 h _ (c - 1) (Int.eq_ofNat_of_zero_le (by omega)).choose_spec (by omega)
   ·rw [dec_false (fun q=>h q.2.2)]
    simp only [Bool.false_eq_true,if_false]
    exact specLast_none g.1 g.2.2.1 (by omega) _ (c - 1) (Int.eq_ofNat_of_zero_le (by omega)).choose_spec (by omega)
  ·exact bad (fun q=>hm q.2.1) (by rw [decide_eq_false hm];rfl)
 ·rw [dec_false g]
  simp only [Bool.false_eq_true,if_false]
  exact bad (fun q=>g q.1) rfl
theorem implLast_ev (f e c:Int) (st:List Int) (s t m:Int):Ev (fun k=>impl_LastBusBy.f k f e c st s t m) (LastR f e c st s t m):=by
 have bad:∀ {x:Bool},¬ LastP f e c st s t m→x=true→Ev (fun k=>impl_LastBusBy.j0 k s t m x f e c st) (LastR f e c st s t m):=by
  intro x h hx
  subst hx
  unfold LastR
  rw [dec_false h]
  simp only [Bool.false_eq_true,if_false]
  exact Ev.step (fun k=>by simp only [impl_LastBusBy.j0];rw [if_pos trivial]) (Ev.now _)
 refine Ev.bind (hasStops2_ev f e c st s t) ?_
 by_cases g:GoodLine f e c st∧StopOf st s∧StopOf st t
 ·rw [dec_true g]
  have hc3:=g.1.count
  simp only [if_true]
  by_cases g4:s < t
  ·simp only [if_neg (show ¬ s≥t by omega),isMinute_eq,Option.bind_some,decide_eq_true_eq]
   by_cases hm:0≤m∧m≤2000
   ·have t0:=timeAt_eq g.1 (show 0≤(0:Int)∧0 < c by omega) g.2.2
    have tb:=tat_bd g.1 (show 0≤(0:Int)∧0 < c by omega) g.2.2
    simp only [if_pos hm,t0,Option.bind_some]
    by_cases h:tat f e st 0 t≤m
    ·rw [decide_eq_false (show ¬ tat f e st 0 t > m by omega)]
     have he:=g.1.every
     have bd:=lastB_bd g.1 h
     have q0:=Int.ediv_nonneg (show 0≤m - tat f e st 0 t by omega) (show 0≤e by omega)
     have q1:=Int.ediv_le_self e (show 0≤m - tat f e st 0 t by omega)
     have w1:wrap64 (Int.tdiv (m - tat f e st 0 t) e)=Int.tdiv (m - tat f e st 0 t) e:=by
      rw [Int.tdiv_eq_ediv_of_nonneg (by omega)]
      exact w64 (by omega) (by omega)
     refine Ev.step (fun k=>by simp only [impl_LastBusBy.j0];rw [if_neg (by simp),t0,Option.bind_some,if_neg (by omega),w64 (x:=m - tat f e st 0 t) (by omega) (by omega),w1,w64 (x:=c - 1) (by omega) (by omega)]) ?_
     unfold LastR
     rw [dec_true (p:=LastP f e c st s t m) ⟨⟨g.1,g.2.1,g.2.2,g4⟩,hm,h⟩]
     simp only [if_true]
     change Ev (fun k=>(impl_timeAt.f f e c st (lastB f e c st t m) s).bind fun t243=>some (lastB f e c st t m,t243,true)) _
     simp only [timeAt_eq g.1 bd g.2.1,Option.bind_some]
     exact Ev.now _
    ·exact bad (fun q=>h q.2.2) (decide_eq_true (by omega))
   ·simp only [if_neg hm]
    exact bad (fun q=>hm q.2.1) rfl
  ·simp only [if_pos (show s≥t by omega)]
   exact bad (fun q=>g4 q.1.2.2.2) rfl
 ·rw [dec_false g]
  simp only [Bool.false_eq_true,if_false]
  exact bad (fun q=>g ⟨q.1.1,q.1.2.1,q.1.2.2.1⟩) rfl
noncomputable def RideR (f e c:Int) (st:List Int) (s t:Int):Int × Bool:=if dec (GoodLine f e c st∧StopOf st s∧StopOf st t∧s < t)=true then (rd st t - rd st s,true) else (0,false)
theorem specRide_ev (f e c:Int) (st:List Int) (s t:Int):Ev (fun k=>spec_RideFor.f k f e c st s t) (RideR f e c st s t):=by
 unfold RideR
 refine Ev.bind (buRide_ev f e c st s t) ?_
 by_cases g:GoodLine f e c st∧StopOf st s∧StopOf st t∧s < t
 ·rw [dec_true g]
  obtain ⟨g1,g2,g3,g4⟩:=g
  have r1:=g1.range s g2.1 g2.2
  have r2:=g1.range t g3.1 g3.2
  simp only [if_true,if_pos g2.1,if_pos g2.2,if_pos g3.1,if_pos g3.2]
  rw [w64 (x:=rd st t - rd st s) (by omega) (by omega)]
  exact Ev.now _
 ·rw [dec_false g]
  simp only [Bool.false_eq_true,if_false]
  exact Ev.now _
theorem implRide_ev (f e c:Int) (st:List Int) (s t:Int):Ev (fun k=>impl_RideFor.f k f e c st s t) (RideR f e c st s t):=by
 unfold RideR
 refine Ev.bind (hasStops2_ev f e c st s t) ?_
 by_cases g:GoodLine f e c st∧StopOf st s∧StopOf st t
 ·rw [dec_true g]
  obtain ⟨g1,g2,g3⟩:=g
  simp only [if_true]
  by_cases g4:s < t
  ·have r1:=g1.range s g2.1 g2.2
   have r2:=g1.range t g3.1 g3.2
   rw [dec_true (p:=GoodLine f e c st∧StopOf st s∧StopOf st t∧s < t) ⟨g1,g2,g3,g4⟩]
   simp only [if_neg (show ¬ s≥t by omega),if_true,if_pos g2.1,if_pos g2.2,if_pos g3.1,if_pos g3.2]
   rw [w64 (x:=rd st t - rd st s) (by omega) (by omega)]
   exact Ev.now _
  ·rw [dec_false (fun h=>g4 h.2.2.2)]
   simp only [if_pos (show s≥t by omega),Bool.false_eq_true,if_false]
   exact Ev.now _
 ·rw [dec_false g,dec_false (fun h=>g ⟨h.1,h.2.1,h.2.2.1⟩)]
  simp only [Bool.false_eq_true,if_false]
  exact Ev.now _
def ArriveP (f e c:Int) (st:List Int) (s t m:Int):Prop:=(GoodLine f e c st∧StopOf st s∧StopOf st t∧s < t)∧(0≤m∧m≤2000)∧nextB f e st s m < c
noncomputable def ArriveR (f e c:Int) (st:List Int) (s t m:Int):Int × Bool:=if dec (ArriveP f e c st s t m)=true then (tat f e st (nextB f e st s m) t,true) else (0,false)
theorem buArrive_ev {f e c:Int} {st:List Int} (G:GoodLine f e c st) {s t:Int} (m:Int) (hs:StopOf st s) (ht:StopOf st t):Ev (fun k=>spec_buArrive.f k f e c st s t m) (if nextB f e st s m < c then tat f e st (nextB f e st s m) t else -1):=by
 refine Ev.bind (buNext_ev G m hs) ?_
 have n0:=nextB_nn f e st s m
 by_cases h:nextB f e st s m < c
 ·simp only [if_pos h,if_neg (show ¬ nextB f e st s m < 0 by omega),buTime_eq G ⟨n0,h⟩ ht,Option.bind_some]
  exact Ev.now _
 ·simp only [if_neg h,if_pos (show (-1:Int) < 0 by omega)]
  exact Ev.now _
theorem arriveAt_eq {f e c:Int} {st:List Int} (G:GoodLine f e c st) {s t m:Int} (hs:StopOf st s) (ht:StopOf st t) (hm0 : -1000000≤m) (hm:m≤1000000) :
  impl_arriveAt.f f e c st s t m=some (if nextB f e st s m < c∧s < t then (tat f e st (nextB f e st s m) t,true) else (0,false)):=by
 unfold impl_arriveAt.f
 rw [nextBus_eq G hs hm0 hm]
 have n0:=nextB_nn f e st s m
 by_cases h:nextB f e st s m < c
 ·simp only [if_pos h,Option.bind_some,if_true]
  by_cases q:s < t
  ·rw [if_neg (by omega),timeAt_eq G ⟨n0,h⟩ ht,if_pos ⟨h,q⟩];rfl
  ·rw [if_pos (by omega),if_neg (fun z=>q z.2)]
 ·simp only [if_neg h,Option.bind_some,Bool.false_eq_true,if_false]
  rw [if_neg (fun z=>h z.1)]
theorem specArrive_ev (f e c:Int) (st:List Int) (s t m:Int):Ev (fun k=>spec_ArriveAt.f k f e c st s t m) (ArriveR f e c st s t m):=by
 unfold ArriveR
 refine Ev.bind (buRide_ev f e c st s t) ?_
 by_cases g:GoodLine f e c st∧StopOf st s∧StopOf st t∧s < t
 ·rw [dec_true g]
  simp only [if_true,buMinute_eq,Option.bind_some,decide_eq_true_eq]
  by_cases hm:0≤m∧m≤2000
  ·simp only [if_pos hm]
   refine Ev.bind (buNext_ev g.1 m g.2.1) ?_
   have n0:=nextB_nn f e st s m
   by_cases h:nextB f e st s m < c
   ·rw [if_pos h,dec_true (p:=ArriveP f e c st s t m) ⟨g,hm,h⟩]
    simp only [if_neg (show ¬ nextB f e st s m < 0 by omega)]
    refine Ev.bind (buArrive_ev g.1 m g.2.1 g.2.2.1) ?_
    simp only [if_pos h,if_true]
    exact Ev.now _
   ·rw [if_neg h,dec_false (fun q=>h q.2.2)]
    simp only [if_pos (show (-1:Int) < 0 by omega),Bool.false_eq_true,if_false]
    exact Ev.now _
  ·rw [dec_false (fun q=>hm q.2.1)]
   simp only [if_neg hm,Bool.false_eq_true,if_false]
   exact Ev.now _
 ·rw [dec_false g,dec_false (fun q=>g q.1)]
  simp only [Bool.false_eq_true,if_false]
  exact Ev.now _
theorem implArrive_ev (f e c:Int) (st:List Int) (s t m:Int):Ev (fun k=>impl_ArriveAt.f k f e c st s t m) (ArriveR f e c st s t m):=by
 unfold ArriveR
 refine Ev.bind (hasStops2_ev f e c st s t) ?_
 by_cases g:GoodLine f e c st∧StopOf st s∧StopOf st t
 ·rw [dec_true g]
  simp only [if_true]
  by_cases q:s < t
  ·simp only [if_neg (show ¬ s≥t by omega),isMinute_eq,Option.bind_some,decide_eq_true_eq]
   by_cases hm:0≤m∧m≤2000
   ·simp only [if_pos hm,arriveAt_eq g.1 g.2.1 g.2.2 (show -1000000≤m by omega) (by omega),Option.bind_some]
    by_cases h:nextB f e st s m < c
    ·rw [if_pos ⟨h,q⟩,dec_true (p:=ArriveP f e c st s t m) ⟨⟨g.1,g.2.1,g.2.2,q⟩,hm,h⟩]
     exact Ev.now _
    ·rw [if_neg (fun z=>h z.1),dec_false (fun z=>h z.2.2)]
     exact Ev.now _
   ·rw [dec_false (fun z=>hm z.2.1)]
    simp only [if_neg hm,Bool.false_eq_true,if_false]
    exact Ev.now _
  ·rw [dec_false (fun z=>q z.1.2.2.2)]
   simp only [if_pos (show s≥t by omega),Bool.false_eq_true,if_false]
   exact Ev.now _
 ·rw [dec_false g,dec_false (fun z=>g ⟨z.1.1,z.1.2.1,z.1.2.2.1⟩)]
  simp only [Bool.false_eq_true,if_false]
  exact Ev.now _
noncomputable def TimeAtR (f e c:Int) (st:List Int) (b s:Int):Int × Bool:=if dec (GoodLine f e c st∧StopOf st s∧0≤b∧b < c)=true then (tat f e st b s,true) else (0,false)
theorem specTimeAt_ev (f e c:Int) (st:List Int) (b s:Int):Ev (fun k=>spec_TimeAtStop.f k f e c st b s) (TimeAtR f e c st b s):=by
 unfold TimeAtR
 refine Ev.bind (buStop_ev f e c st s) ?_
 by_cases g:GoodLine f e c st∧StopOf st s
 ·rw [dec_true g]
  have g3:=g.1.count
  simp only [if_true,in_eq,Option.bind_some]
  rw [w64 (x:=c - 1) (by omega) (by omega)]
  by_cases hb:0≤b∧b≤c - 1
  ·rw [decide_eq_true hb,dec_true (p:=GoodLine f e c st∧StopOf st s∧0≤b∧b < c) ⟨g.1,g.2,by omega,by omega⟩]
   simp only [if_true,buTime_eq g.1 (show 0≤b∧b < c by omega) g.2,Option.bind_some]
   exact Ev.now _
  ·rw [decide_eq_false hb,dec_false (fun h=>hb ⟨h.2.2.1,by have:=h.2.2.2;omega⟩)]
   simp only [Bool.false_eq_true,if_false]
   exact Ev.now _
 ·rw [dec_false g,dec_false (fun h=>g ⟨h.1,h.2.1⟩)]
  simp only [Bool.false_eq_true,if_false]
  exact Ev.now _
theorem implTimeAt_ev (f e c:Int) (st:List Int) (b s:Int):Ev (fun k=>impl_TimeAtStop.f k f e c st b s) (TimeAtR f e c st b s):=by
 unfold TimeAtR
 refine Ev.bind (hasStops1_ev f e c st s) ?_
 by_cases g:GoodLine f e c st∧StopOf st s
 ·rw [dec_true g]
  have g3:=g.1.count
  simp only [if_true,within_eq,Option.bind_some]
  rw [w64 (x:=c - 1) (by omega) (by omega)]
  by_cases hb:0≤b∧b≤c - 1
  ·rw [decide_eq_true hb,dec_true (p:=GoodLine f e c st∧StopOf st s∧0≤b∧b < c) ⟨g.1,g.2,by omega,by omega⟩]
   simp only [if_true,timeAt_eq g.1 (show 0≤b∧b < c by omega) g.2,Option.bind_some]
   exact Ev.now _
  ·rw [decide_eq_false hb,dec_false (fun h=>hb ⟨h.2.2.1,by have:=h.2.2.2;omega⟩)]
   simp only [Bool.false_eq_true,if_false]
   exact Ev.now _
 ·rw [dec_false g,dec_false (fun h=>g ⟨h.1,h.2.1⟩)]
  simp only [Bool.false_eq_true,if_false]
  exact Ev.now _
theorem divisorOf_ev:∀ (n:Nat) (a b:Int),0≤a→0≤b→b.toNat≤n→Ev (fun k=>impl_divisorOf.l0 k a b) (gg a b):=by
 intro n
 induction n with
 | zero =>
  intro a b ha hb hn
  obtain rfl:b=0:=by omega
  refine Ev.step (fun k=>by simp only [impl_divisorOf.l0];rw [if_neg (by omega)]) ?_
  rw [gg_zero ha];exact Ev.now a
 | succ n ih =>
  intro a b ha hb hn
  by_cases h:0 < b
  ·obtain ⟨g1,g2,g3⟩:=gg_step ha h
   refine Ev.step (fun k=>by simp only [impl_divisorOf.l0];rw [if_pos h,if_neg (by omega)]) ?_
   rw [← g1];exact ih b (a.tmod b) hb g2 (by omega)
  ·obtain rfl:b=0:=by omega
   refine Ev.step (fun k=>by simp only [impl_divisorOf.l0];rw [if_neg (by omega)]) ?_
   rw [gg_zero ha];exact Ev.now a
theorem absOf_eq {a:Int} (h1 : -4611686018427387904≤a) (h2:a≤4611686018427387904):impl_absOf.f a=some (if a < -a then -a else a):=by
 unfold impl_absOf.f mx
 have e:wrap64 (-a) = -a:=by unfold wrap64;omega
 rw [e]
theorem tdiv_lo1 {n d:Int} (hd:0 < d) (h1 : -4611686018427387904≤n) (h2:n≤4611686018427387904):wrap64 (Int.tdiv n (gg n d))=(lo n d).1:=by
 rw [Int.tdiv_eq_ediv_of_dvd (gg_l n d)]
 have:=lo_bd1 hd h1 h2
 show wrap64 (lo n d).1=_
 unfold wrap64;omega
theorem tdiv_lo2 {n d:Int} (hd:0 < d) (h2:d≤4611686018427387904):wrap64 (Int.tdiv d (gg n d))=(lo n d).2:=by
 rw [Int.tdiv_eq_ediv_of_dvd (gg_r n d)]
 have:=lo_le2 n hd
 have:=lo_pos n hd
 show wrap64 (lo n d).2=_
 unfold wrap64;omega
theorem lowest_ev {n d:Int} (hd:0 < d) (h1 : -4611686018427387904≤n) (h2:n≤4611686018427387904) (h3:d≤4611686018427387904):Ev (fun k=>impl_lowest.f k n d) (lo n d):=by
 refine Ev.congr (fun k=>by unfold impl_lowest.f impl_divisorOf.f;rw [if_neg (by omega),absOf_eq h1 h2,Option.bind_some]) ?_
 have hg:=gg_pos (n:=n) hd
 refine Ev.bind (divisorOf_ev _ d _ (Int.le_of_lt hd) (by split <;> omega) (Nat.le_refl _)) ?_
 have e:gg d (if n < -n then -n else n)=gg n d:=by rw [gg_comm,gg_abs]
 rw [e]
 simp only [if_neg (show ¬ gg n d=0 by omega),tdiv_lo1 hd h1 h2,tdiv_lo2 (n:=n) hd h3]
 exact Ev.now _
theorem trCommon_ev:∀ (n:Nat) (a b:Int),0≤a→0≤b→b.toNat≤n→Ev (fun k=>spec_trCommon.l0 k a b) (gg a b):=by
 intro n
 induction n with
 | zero =>
  intro a b ha hb hn
  obtain rfl:b=0:=by omega
  refine Ev.step (fun k=>by simp only [spec_trCommon.l0];rw [if_neg (by omega)]) ?_
  rw [gg_zero ha];exact Ev.now a
 | succ n ih =>
  intro a b ha hb hn
  by_cases h:0 < b
  ·obtain ⟨g1,g2,g3⟩:=gg_step ha h
   refine Ev.step (fun k=>by simp only [spec_trCommon.l0];rw [if_pos h,if_neg (by omega)]) ?_
   rw [← g1];exact ih b (a.tmod b) hb g2 (by omega)
  ·obtain rfl:b=0:=by omega
   refine Ev.step (fun k=>by simp only [spec_trCommon.l0];rw [if_neg (by omega)]) ?_
   rw [gg_zero ha];exact Ev.now a
theorem tiLow_ev {n d:Int} (hd:0 < d) (h1:0≤n) (h2:n≤4611686018427387904) (h3:d≤4611686018427387904):Ev (fun k=>spec_tiLow.f k n d) (lo n d):=by
 have hg:=gg_pos (n:=n) hd
 refine Ev.bind (g:=fun k=>spec_trCommon.f k n d) (trCommon_ev _ n d h1 (Int.le_of_lt hd) (Nat.le_refl _)) ?_
 simp only [if_neg (show ¬ gg n d=0 by omega),tdiv_lo1 hd (by omega) h2,tdiv_lo2 (n:=n) hd h3]
 exact Ev.now _
theorem fraction_ev {n d:Int} (hd:0 < d) (h1 : -4611686018427387904≤n) (h2:n≤4611686018427387904) (h3:d≤4611686018427387904):Ev (fun k=>impl_fraction.f k n d) ((lo n d).1,(lo n d).2,true):=by
 unfold impl_fraction.f
 simp only [if_neg (show ¬ d=0 by omega)]
 exact Ev.bind (lowest_ev hd h1 h2 h3) (Ev.now _)
def waits (f e:Int) (st:List Int) (s:Int):Int→Nat→Int
 | _,0=>0
 | i,n+1=>(tat f e st (nextB f e st s i) s - i)+waits f e st s (i+1) n
theorem meanWait_l0_full {f e c:Int} {st:List Int} (G:GoodLine f e c st) {s:Int} (hs:StopOf st s) {a t:Int} (ha:0≤a) (ht:t≤2000) (hat:a < t):∀ i:Int,a≤i→i≤t→∀ u:Int,0≤u→u≤2500*(i - a) →
  ∃ r:Int × Int × Bool,Ev (fun k=>spec_MeanWait.l0 k s a t u i f e c st) r∧Ev (fun k=>impl_MeanWait.l0 k s a t u i f e c st) r ∧
   (r=(0,0,false)∨((∀ j,i≤j→j < t→nextB f e st s j < c)∧r=((lo (u+waits f e st s i (t - i).toNat) (t - a)).1,(lo (u+waits f e st s i (t - i).toNat) (t - a)).2,true))):=by
 refine downA (fun u h0 h1=>?_) (fun i h0 h1 ih u hu hu2=>?_)
 ·have wt:wrap64 (t - a)=t - a:=w64 (by omega) (by omega)
  refine ⟨((lo u (t - a)).1,(lo u (t - a)).2,true),Ev.step (fun k=>by simp only [spec_MeanWait.l0];rw [if_neg (by omega),wt]) (Ev.bind (tiLow_ev (by omega) h0 (by omega) (by omega)) (Ev.now _)),Ev.step (fun k=>by simp only [impl_MeanWait.l0];rw [if_neg (by omega),wt]) (Ev.bind (fraction_ev (by omega) (by omega) (by omega) (by omega)) (Ev.now _)),.inr ⟨fun j b1 b2=>by omega,by rw [show (t - t).toNat=0 by omega];simp only [waits,Int.add_zero]⟩⟩
 ·have n0:=nextB_nn f e st s i
  have nb:=nextBus_eq G hs (show -1000000≤i by omega) (by omega)
  by_cases h:nextB f e st s i < c
  ·have tb:=tat_bd G ⟨n0,h⟩ hs
   have hi:=(nextB_iff (f:=f) (st:=st) (s:=s) (m:=i) G.every.1 n0).2 (Int.le_refl _)
   have w1:wrap64 (tat f e st (nextB f e st s i) s - i)=tat f e st (nextB f e st s i) s - i:=w64 (by omega) (by omega)
   have w2:wrap64 (u+(tat f e st (nextB f e st s i) s - i))=u+(tat f e st (nextB f e st s i) s - i):=w64 (by omega) (by omega)
   have w3:wrap64 (i+1)=i+1:=w64 (by omega) (by omega)
   obtain ⟨r,a1,a2,a3⟩:=ih (u+(tat f e st (nextB f e st s i) s - i)) (by omega) (by omega)
   refine ⟨r,Ev.step (fun k=>by simp only [spec_MeanWait.l0];rw [if_pos h1]) (Ev.bind (buNext_ev G i hs) ?_),Ev.step (fun k=>by simp only [impl_MeanWait.l0];rw [if_pos h1,nb,Option.bind_some,if_pos h]) ?_,?_⟩
   ·simp only [if_pos h,if_neg (show ¬ nextB f e st s i < 0 by omega),buTime_eq G ⟨n0,h⟩ hs,Option.bind_some,w1,w2,w3]
    exact a1
   ·simp only [if_true,w1,w2,w3]
    exact a2
   ·rcases a3 with b4|⟨b1,b2⟩
    ·exact .inl b4
    ·have ew:waits f e st s i (t - i).toNat=(tat f e st (nextB f e st s i) s - i)+waits f e st s (i+1) (t - (i+1)).toNat:=by
      rw [show (t - i).toNat=(t - (i+1)).toNat+1 by omega]
      rfl
     refine .inr ⟨fun j c1 c2=>?_,by rw [ew,← Int.add_assoc];exact b2⟩
     by_cases q:j=i
     ·rw [q];exact h
     ·exact b1 j (by omega) c2
  ·refine ⟨(0,0,false),Ev.step (fun k=>by simp only [spec_MeanWait.l0];rw [if_pos h1]) (Ev.bind (buNext_ev G i hs) ?_),Ev.step (fun k=>by simp only [impl_MeanWait.l0];rw [if_pos h1,nb,Option.bind_some,if_neg h]) ?_,.inl rfl⟩
   ·simp only [if_neg h,if_pos (show (-1:Int) < 0 by omega)]
    exact Ev.now _
   ·simp only [Bool.false_eq_true,if_false]
    exact Ev.now _
theorem meanWait_full (f e c:Int) (st:List Int) (s a t:Int):∃ r:Int × Int × Bool,Ev (fun k=>spec_MeanWait.f k f e c st s a t) r∧Ev (fun k=>impl_MeanWait.f k f e c st s a t) r∧(r=(0,0,false)∨((GoodLine f e c st∧StopOf st s)∧0≤a∧a < t∧t≤2000∧(∀ j,a≤j→j < t→nextB f e st s j < c)∧r=((lo (waits f e st s a (t - a).toNat) (t - a)).1,(lo (waits f e st s a (t - a).toNat) (t - a)).2,true))):=by
 have bad1:∀ {x:Bool},x=true→Ev (fun k=>spec_MeanWait.j0 k s a t x f e c st) (0,0,false):=fun {x} hx=>by subst hx;exact Ev.step (fun k=>by simp only [spec_MeanWait.j0];rw [if_pos trivial]) (Ev.now _)
 have bad2:∀ {x:Bool},x=true→Ev (fun k=>impl_MeanWait.j0 k s a t x f e c st) (0,0,false):=fun {x} hx=>by subst hx;exact Ev.step (fun k=>by simp only [impl_MeanWait.j0];rw [if_pos trivial]) (Ev.now _)
 by_cases g:GoodLine f e c st∧StopOf st s
 ·by_cases ha:0≤a∧a≤2000
  ·by_cases ht:0≤t∧t≤2000
   ·by_cases q:a < t
    ·obtain ⟨r,a1,a2,a3⟩:=meanWait_l0_full g.1 g.2 ha.1 ht.2 q a (Int.le_refl _) (Int.le_of_lt q) 0 (by omega) (by omega)
     rw [Int.zero_add] at a3
     refine ⟨r,Ev.bind (buStop_ev f e c st s) ?_,Ev.bind (hasStops1_ev f e c st s) ?_,a3.imp id (fun h=>⟨g,ha.1,q,ht.2,h.1,h.2⟩)⟩
     ·rw [dec_true g]
      simp only [if_true,buMinute_eq,Option.bind_some,decide_eq_true ha,decide_eq_true ht,decide_eq_false (show ¬ a≥t by omega)]
      exact Ev.step (fun k=>by simp only [spec_MeanWait.j0];rw [if_neg (by simp)]) a1
     ·rw [dec_true g]
      simp only [if_true,isMinute_eq,Option.bind_some,decide_eq_true ha,decide_eq_true ht,decide_eq_false (show ¬ a≥t by omega)]
      exact Ev.step (fun k=>by simp only [impl_MeanWait.j0];rw [if_neg (by simp)]) a2
    ·refine ⟨(0,0,false),Ev.bind (buStop_ev f e c st s) ?_,Ev.bind (hasStops1_ev f e c st s) ?_,.inl rfl⟩
     ·rw [dec_true g]
      simp only [if_true,buMinute_eq,Option.bind_some,decide_eq_true ha,decide_eq_true ht]
      exact bad1 (decide_eq_true (by omega))
     ·rw [dec_true g]
      simp only [if_true,isMinute_eq,Option.bind_some,decide_eq_true ha,decide_eq_true ht]
      exact bad2 (decide_eq_true (by omega))
   ·refine ⟨(0,0,false),Ev.bind (buStop_ev f e c st s) ?_,Ev.bind (hasStops1_ev f e c st s) ?_,.inl rfl⟩
    ·rw [dec_true g]
     simp only [if_true,buMinute_eq,Option.bind_some,decide_eq_true ha,decide_eq_false ht,Bool.false_eq_true,if_false]
     exact bad1 rfl
    ·rw [dec_true g]
     simp only [if_true,isMinute_eq,Option.bind_some,decide_eq_true ha,decide_eq_false ht,Bool.false_eq_true,if_false]
     exact bad2 rfl
  ·refine ⟨(0,0,false),Ev.bind (buStop_ev f e c st s) ?_,Ev.bind (hasStops1_ev f e c st s) ?_,.inl rfl⟩
   ·rw [dec_true g]
    simp only [if_true,buMinute_eq,Option.bind_some,decide_eq_false ha,Bool.false_eq_true,if_false]
    exact bad1 rfl
   ·rw [dec_true g]
    simp only [if_true,isMinute_eq,Option.bind_some,decide_eq_false ha,Bool.false_eq_true,if_false]
    exact bad2 rfl
 ·refine ⟨(0,0,false),Ev.bind (buStop_ev f e c st s) ?_,Ev.bind (hasStops1_ev f e c st s) ?_,.inl rfl⟩
  ·rw [dec_false g]
   simp only [Bool.false_eq_true,if_false]
   exact bad1 rfl
  ·rw [dec_false g]
   simp only [Bool.false_eq_true,if_false]
   exact bad2 rfl
theorem qLow_l0_ev:∀ (n:Nat) (a b:Int),0≤a→0≤b→b.toNat≤n→Ev (fun k=>laws_qLow.l0 k a b) (gg a b == 1):=by
 intro n
 induction n with
 | zero =>
  intro a b ha hb hn
  have e:b=0:=by omega
  subst e
  refine Ev.step (fun k=>by simp only [laws_qLow.l0];rw [if_neg (by omega)]) ?_
  rw [gg_zero ha]
  exact Ev.now _
 | succ n ih =>
  intro a b ha hb hn
  by_cases e:b=0
  ·subst e
   refine Ev.step (fun k=>by simp only [laws_qLow.l0];rw [if_neg (by omega)]) ?_
   rw [gg_zero ha]
   exact Ev.now _
  ·obtain ⟨g1,g2,g3⟩:=gg_step ha (show 0 < b by omega)
   refine Ev.step (fun k=>by simp only [laws_qLow.l0];rw [if_pos (by omega),if_neg e]) ?_
   rw [← g1]
   exact ih b (a.tmod b) (by omega) g2 (by omega)
theorem qLow_ev (a b:Int) (ha:0≤a) (hb:1≤b) (hg:gg a b=1):Ev (fun k=>laws_qLow.f k a b) true:=by
 unfold laws_qLow.f
 refine Ev.congr (fun k=>by rw [if_neg (by omega)]) ?_
 refine Ev.step (f:=fun k=>laws_qLow.l0 k a b) (fun k=>by simp only [laws_qLow.j0];rw [if_neg (by simp;omega)]) ?_
 have h:=qLow_l0_ev b.toNat a b ha (by omega) (Nat.le_refl _)
 rw [hg] at h
 exact h
theorem qLow_lo {n d:Int} (hd:0 < d) (hn:0≤n):Ev (fun k=>laws_qLow.f k (lo n d).1 (lo n d).2) true :=
 qLow_ev _ _ (lo_nonneg hd hn) (lo_pos n hd) (lo_gcd n hd)
theorem qIs_lo {n d:Int} (hd:0 < d) (hn:0≤n):Ev (fun k=>laws_qIs.f k (lo n d).1 (lo n d).2 n d) true:=by
 unfold laws_qIs.f
 refine Ev.bind (qLow_lo hd hn) ?_
 simp only [if_true]
 rw [lo_cross n d,beq_self_eq_true]
 exact Ev.now _
theorem qSame_l0_ev (l:List Int) (hl:l.length≤1000):∀ i:Int,0≤i→i≤l.length→Ev (fun k=>laws_qSame.l0 k l l l.length i) true:=by
 refine downI ?_ (fun i h0 h1 ih=>?_)
 ·exact Ev.step (fun k=>by simp only [laws_qSame.l0];rw [if_neg (by omega)]) (Ev.now _)
 ·exact Ev.step (fun k=>by simp only [laws_qSame.l0,if_true];rw [if_pos h1,if_pos h0,if_pos h1,if_pos h1,w64 (x:=i+1) (by omega) (by omega)]) ih
theorem qSame_ev (l:List Int) (hl:l.length≤1000):Ev (fun k=>laws_qSame.f k l l) true:=by
 refine Ev.congr (fun k=>by unfold laws_qSame.f;rw [if_pos rfl]) ?_
 exact qSame_l0_ev l hl 0 (by omega) (by omega)
theorem qHas_l0_ev (l:List Int) (x:Int) (hl:l.length≤1000):∀ i:Int,0≤i→i≤l.length→Ev (fun k=>laws_qHas.l0 k x l l.length i) (decide (x∈l.drop i.toNat)):=by
 refine downI ?_ (fun i h0 h1 ih=>?_)
 ·rw [List.drop_of_length_le (by omega)]
  rw [decide_eq_false (by simp)]
  exact Ev.step (fun k=>by simp only [laws_qHas.l0];rw [if_neg (by omega)]) (Ev.now _)
 ·rw [drop_get l 0 i h0 h1]
  by_cases e:rd l i=x
  ·rw [decide_eq_true (show x∈l.getD i.toNat 0 :: l.drop (i+1).toNat from List.mem_cons.2 (.inl e.symm))]
   exact Ev.step (fun k=>by simp only [laws_qHas.l0];rw [if_pos h1,if_pos h0,if_pos h1,if_pos e]) (Ev.now _)
  ·have em:decide (x∈l.getD i.toNat 0 :: l.drop (i+1).toNat)=decide (x∈l.drop (i+1).toNat):=by
    rw [decide_eq_decide,List.mem_cons]
    constructor
    ·rintro (h|h)
     ·exact absurd h.symm e
     ·exact h
    ·exact .inr
   rw [em]
   exact Ev.step (fun k=>by simp only [laws_qHas.l0];rw [if_pos h1,if_pos h0,if_pos h1,if_neg e,w64 (x:=i+1) (by omega) (by omega)]) ih
theorem qHas_ev (l:List Int) (x:Int) (hl:l.length≤1000):Ev (fun k=>laws_qHas.f k l x) (decide (x∈l)):=by
 have h:=qHas_l0_ev l x hl 0 (by omega) (by omega)
 simpa [laws_qHas.f] using h
theorem rd_rise {r:List Int} (h:r.Pairwise (· < ·)) (i:Int) (h0:0 < i) (h1:i < r.length):rd r (i - 1) < rd r i:=by
 have hp:=List.pairwise_iff_getElem.1 h
 have e:∀ q:Int,0≤q→(hq:q < r.length)→rd r q=r[q.toNat]'(by omega):=by
  intro q q0 hq
  unfold rd
  rw [List.getD_eq_getElem?_getD,List.getElem?_eq_getElem (show q.toNat < r.length by omega)]
  rfl
 rw [e (i - 1) (by omega) (by omega),e i (by omega) h1]
 exact hp _ _ _ _ (by omega)
theorem decDigits_len:∀ n:Nat,(Lib.decDigits n).length≤n+1:=by
 intro n
 induction n using Nat.strongRecOn with
 | ind n ih =>
  rw [Lib.decDigits]
  split
  ·simp
  ·next h =>
   have:=ih (n / 10) (by omega)
   simp
   omega
theorem ba_append (a b:List UInt8):(⟨a.toArray⟩:ByteArray) ++ ⟨b.toArray⟩=⟨(a ++ b).toArray⟩:=by
 apply ByteArray.ext
 simp
theorem ba_size (a:List UInt8):(⟨a.toArray⟩:ByteArray).size=a.length:=by
 simp [ByteArray.size]
theorem digit_str (d:Nat) (h:d < 10):strOfNums [(wrap64 (48+(d:Int))) % 256]=⟨([UInt8.ofNat (48+d)]:List UInt8).toArray⟩:=by
 unfold strOfNums
 rw [w64 (by omega) (by omega),show (48+(d:Int)) % 256=((48+d:Nat):Int) by omega]
 rw [List.map_cons,List.map_nil,Int.toNat_natCast]
theorem l1Num_ev:∀ n:Nat,n≤1000000000000000→Ev (fun k=>spec_l1Num.f k (n:Int)) (⟨(Lib.decDigits n).toArray⟩:ByteArray):=by
 intro n
 induction n using Nat.strongRecOn with
 | ind n ih =>
  intro hn
  rw [Lib.decDigits]
  split
  ·next h =>
   refine Ev.step (fun k=>by simp only [spec_l1Num.f];rw [if_pos (by omega),digit_str n h]) (Ev.now _)
  ·next h =>
   have e1:wrap64 (Int.tdiv (n:Int) 10)=((n / 10:Nat):Int):=by
    have h1:Int.tdiv (n:Int) 10=((n / 10:Nat):Int):=by rw [Int.tdiv_eq_ediv_of_nonneg (by omega)];omega
    rw [h1,w64 (by omega) (by omega)]
   have e2:Int.tmod (n:Int) 10=((n % 10:Nat):Int):=by rw [Int.tmod_eq_emod_of_nonneg (by omega)];omega
   have hl:=decDigits_len (n / 10)
   refine Ev.step (f:=fun k=>(spec_l1Num.f k ((n / 10:Nat):Int)).bind fun t107=>(if t107.size+((⟨([UInt8.ofNat (48+n % 10)]:List UInt8).toArray⟩:ByteArray)).size≤9223372036854775807 then (some (t107 ++ (⟨([UInt8.ofNat (48+n % 10)]:List UInt8).toArray⟩:ByteArray))) else none)) (fun k=>by simp only [spec_l1Num.f,Option.bind_some];rw [if_neg (by omega),e1,e2,digit_str (n % 10) (by omega)]) ?_
   refine Ev.bind (ih (n / 10) (by omega) (by omega)) ?_
   refine Ev.congr (fun k=>by rw [ba_size,ba_size,if_pos (by simp;omega),ba_append]) (Ev.now _)
theorem itoa_nat (n:Nat):Lib.itoa (n:Int)=Lib.decDigits n:=by
 unfold Lib.itoa
 rw [if_neg (by omega),Int.toNat_natCast]
def txt (n:Int):ByteArray:=⟨(Lib.itoa n).toArray⟩
theorem l1Num_txt (n:Int) (h0:0≤n) (h1:n≤1000000000000000):Ev (fun k=>spec_l1Num.f k n) (txt n):=by
 obtain ⟨m,rfl⟩:=Int.eq_ofNat_of_zero_le h0
 unfold txt
 rw [itoa_nat]
 exact l1Num_ev m (by omega)
theorem txt_size (n:Int) (h0:0≤n):(txt n).size≤n.toNat+1:=by
 obtain ⟨m,rfl⟩:=Int.eq_ofNat_of_zero_le h0
 unfold txt
 rw [itoa_nat,ba_size]
 exact decDigits_len m
theorem itoa_len (n:Int) (h0:0≤n):(Lib.itoa n).length≤n.toNat+1:=by
 have:=txt_size n h0
 unfold txt at this
 rwa [ba_size] at this
theorem itoa_ev (n:Int) (h0 : -9223372036854775808≤n) (h1:n≤9223372036854775807):strconv_Itoa.f n=some (txt n):=by
 unfold strconv_Itoa.f
 rw [if_pos ⟨h0,h1⟩]
 rfl
def cutL (c:UInt8):List UInt8→List (List UInt8)
 | []=>[[]]
 | x :: xs=>if x=c then [] :: cutL c xs else (match cutL c xs with|[]=>[[x]]|y :: ys=>(x :: y) :: ys)
theorem cutL_free (c:UInt8):∀ l,c ∉ l→cutL c l=[l]:=by
 intro l
 induction l with
 | nil=>intro _;rfl
 | cons x xs ih =>
  intro h
  rw [List.mem_cons,not_or] at h
  unfold cutL
  rw [if_neg (fun e=>h.1 e.symm),ih h.2]
theorem cutL_app (c:UInt8) (b:List UInt8):∀ a,c ∉ a→cutL c (a ++ c :: b)=a :: cutL c b:=by
 intro a
 induction a with
 | nil =>
  intro _
  show cutL c (c :: b)=_
  rw [cutL,if_pos rfl]
 | cons x xs ih =>
  intro h
  rw [List.mem_cons,not_or] at h
  show cutL c (x :: (xs ++ c :: b))=_
  rw [cutL,if_neg (fun e=>h.1 e.symm),ih h.2]
theorem join_cons2 (p q:List UInt8) (r:List (List UInt8)) (c:UInt8):Lib.join (p :: q :: r) [c]=p ++ c :: Lib.join (q :: r) [c]:=by
 rw [Lib.join_cons,Lib.join_cons]
 simp [Lib.joinTail]
theorem cutL_of_join (c:UInt8):∀ ps:List (List UInt8),ps≠[]→(∀ p,p∈ps→c ∉ p)→cutL c (Lib.join ps [c])=ps:=by
 intro ps
 induction ps with
 | nil=>intro h;exact absurd rfl h
 | cons p r ih =>
  intro _ h
  have hp:=h p List.mem_cons_self
  cases r with
  | nil=>rw [Lib.join_one];exact cutL_free c p hp
  | cons q r=>rw [join_cons2,cutL_app c _ p hp,ih (by simp) (fun x hx=>h x (List.mem_cons_of_mem _ hx))]
def mkB (l:List UInt8):ByteArray:=⟨l.toArray⟩
theorem mkB_list (l:List UInt8):(mkB l).data.toList=l:=by simp [mkB]
theorem mkB_of (s:ByteArray):mkB s.data.toList=s:=by
 apply ByteArray.ext
 simp [mkB]
theorem mkB_size (l:List UInt8):(mkB l).size=l.length:=ba_size l
theorem size_list (s:ByteArray):s.size=s.data.toList.length:=by rw [Array.length_toList];rfl
def cutB (c:UInt8) (s:ByteArray):List ByteArray:=(cutL c s.data.toList).map mkB
theorem ext_list {a b:ByteArray} (h:a.data.toList=b.data.toList):a=b:=by
 rw [← mkB_of a,← mkB_of b,h]
theorem mkB_toList (l:List UInt8):(mkB l).toList=l:=by simp [mkB]
theorem toList_eq (x:ByteArray):x.toList=x.data.toList:=by
 have h:=mkB_toList x.data.toList
 rwa [mkB_of] at h
theorem sep_size (c:UInt8):(⟨#[c]⟩:ByteArray).size=1:=rfl
theorem splitB_cut (c:UInt8):∀ (n:Nat) (s:ByteArray),s.size≤n→Lib.splitB (⟨#[c]⟩:ByteArray) 0 (Lib.countB s ⟨#[c]⟩) s=cutB c s:=by
 intro n
 induction n with
 | zero =>
  intro s hs
  have hl:s.data.toList=[]:=List.eq_nil_of_length_eq_zero (by rw [← size_list];omega)
  have hi:Lib.indexB s (⟨#[c]⟩:ByteArray) = -1:=by
   show Lib.index s.data.toList [c] = -1
   rw [hl];rfl
  rw [Lib.countB_miss s _ hi,Lib.splitB_zero]
  unfold cutB
  rw [hl]
  show [s]=[mkB []]
  rw [← hl,mkB_of]
 | succ n ih =>
  intro s hs
  have hix:Lib.indexB s (⟨#[c]⟩:ByteArray)=Lib.indexByte s.data.toList c:=by
   show Lib.index s.data.toList [c]=_
   exact Lib.index_one _ _
  rcases Lib.indexB_cases s ⟨#[c]⟩ with hi|⟨i,hi,hr⟩
  ·rw [Lib.countB_miss s _ hi,Lib.splitB_zero]
   rw [hix] at hi
   have hn:c ∉ s.data.toList:=fun hm=>by
    obtain ⟨k,hk,e⟩:=List.getElem_of_mem hm
    exact Lib.indexByte_none hi k (by rw [List.getElem?_eq_getElem hk,e])
   unfold cutB
   rw [cutL_free c _ hn]
   show [s]=[mkB _]
   rw [mkB_of]
  ·rw [Lib.countB_hit s _ i (by rw [sep_size];omega) hi,Nat.add_comm 1,Lib.splitB_hit _ _ _ s i hi]
   rw [sep_size] at hr ⊢
   have e2:(s.extract (i+1) s.size).size=s.size - (i+1):=by rw [ByteArray.size_extract];omega
   rw [ih _ (by omega)]
   rw [hix] at hi
   obtain ⟨h1,h2⟩:=Lib.indexByte_some hi
   have hlt:i < s.data.toList.length:=by rw [← size_list];omega
   have hdec:s.data.toList=s.data.toList.take i ++ c :: s.data.toList.drop (i+1):=by
    conv=>lhs;rw [← List.take_append_drop i s.data.toList]
    rw [List.drop_eq_getElem_cons hlt]
    rw [List.getElem?_eq_getElem hlt] at h1
    injection h1 with h1
    rw [h1]
   have hfree:c ∉ s.data.toList.take i:=fun hm=>by
    obtain ⟨k,hk,e⟩:=List.getElem_of_mem hm
    rw [List.length_take] at hk
    rw [List.getElem_take] at e
    exact h2 k (by omega) (by rw [List.getElem?_eq_getElem (by omega),e])
   have hc:cutB c s=mkB (s.data.toList.take i) :: cutB c (s.extract (i+1) s.size):=by
    unfold cutB
    rw [Lib.extract_to_end]
    conv=>lhs;rw [hdec]
    rw [cutL_app c _ _ hfree,List.map_cons]
   rw [hc]
   congr 1
   apply ext_list
   rw [mkB_list,Lib.extract_from_zero,Nat.add_zero]
theorem split_eq (c:UInt8) (s:ByteArray) (hs:s.size < 4294967281):strings_Split.f s (⟨#[c]⟩:ByteArray)=some (cutB c s):=by
 unfold strings_Split.f
 rw [if_pos ⟨hs,by rw [sep_size];omega⟩,splitB_cut c s.size s (Nat.le_refl _)]
theorem bt_list (s:ByteArray) (i:Int) (h0:0≤i) (h1:i < s.size):∃ h:i.toNat < s.data.toList.length,bt s i=((s.data.toList[i.toNat]).toNat:Int):=by
 have h:i.toNat < s.size:=by omega
 refine ⟨by rw [← size_list];exact h,?_⟩
 rw [← bt_at s i h]
 rfl
theorem ext_take (s:ByteArray) (a b:Nat) (h:a≤b):(s.extract a b).data.toList=(s.data.toList.drop a).take (b - a):=by
 simp [List.take_drop]
theorem l1Split_l0_ev (c:UInt8) (s:ByteArray) (hs:s.size≤1048576):∀ i:Int,0≤i→i≤s.size→∀ (acc:List ByteArray) (f:Int),0≤f→f≤i→(acc.length:Int)≤f→c ∉ (s.data.toList.drop f.toNat).take (i.toNat - f.toNat)→Ev (fun k=>spec_l1Split.l0 k s c.toNat acc f i) (acc ++ (cutL c (s.data.toList.drop f.toNat)).map mkB):=by
 refine downI (fun acc f f0 f1 ha hn=>?_) (fun i h0 h1 ih acc f f0 f1 ha hn=>?_)
 ·have hd:(s.data.toList.drop f.toNat).take ((s.size:Int).toNat - f.toNat)=s.data.toList.drop f.toNat:=by
   refine List.take_of_length_le ?_
   rw [List.length_drop,← size_list];omega
  rw [hd] at hn
  refine Ev.step (fun k=>by simp only [spec_l1Split.l0];rw [if_neg (by omega),if_pos f0,if_pos f1,if_pos (by omega)]) ?_
  rw [cutL_free c _ hn]
  have e:s.extract f.toNat s.size=mkB (s.data.toList.drop f.toNat):=ext_list (by rw [Lib.extract_to_end,mkB_list])
  rw [e]
  exact Ev.now _
 ·obtain ⟨hlt,hb⟩:=bt_list s i h0 h1
  by_cases hc:s.data.toList[i.toNat]=c
  ·have hbc:bt s i=(c.toNat:Int):=by rw [hb,hc]
   have hdec:s.data.toList.drop f.toNat=(s.data.toList.drop f.toNat).take (i.toNat - f.toNat) ++ c :: s.data.toList.drop (i+1).toNat:=by
    conv=>lhs;rw [← List.take_append_drop (i.toNat - f.toNat) (s.data.toList.drop f.toNat)]
    rw [List.drop_drop,show f.toNat+(i.toNat - f.toNat)=i.toNat by omega,List.drop_eq_getElem_cons hlt,hc,show (i+1).toNat=i.toNat+1 by omega]
   have e:s.extract f.toNat i.toNat=mkB ((s.data.toList.drop f.toNat).take (i.toNat - f.toNat)):=ext_list (by rw [ext_take _ _ _ (by omega),mkB_list])
   refine Ev.step (fun k=>by simp only [spec_l1Split.l0];rw [if_pos h1,if_pos h0,if_pos hbc,if_pos f0,if_pos f1,if_pos (by omega),if_pos (by omega),w64 (x:=i+1) (by omega) (by omega),e]) ?_
   have h:=ih (acc ++ [mkB ((s.data.toList.drop f.toNat).take (i.toNat - f.toNat))]) (i+1) (by omega) (by omega) (by simp;omega) (by simp)
   have hg:(cutL c (s.data.toList.drop f.toNat)).map mkB=mkB ((s.data.toList.drop f.toNat).take (i.toNat - f.toNat)) :: (cutL c (s.data.toList.drop (i+1).toNat)).map mkB:=by
    conv=>lhs;rw [hdec]
    rw [cutL_app c _ _ hn,List.map_cons]
   rw [hg]
   rw [List.append_assoc] at h
   exact h
  ·have hbc:¬ bt s i=(c.toNat:Int):=by
    rw [hb]
    intro e
    exact hc (UInt8.toNat_inj.1 (by omega))
   refine Ev.step (fun k=>by simp only [spec_l1Split.l0];rw [if_pos h1,if_pos h0,if_neg hbc,w64 (x:=i+1) (by omega) (by omega)]) (ih acc f f0 (by omega) ha ?_)
   rw [show (i+1).toNat - f.toNat=(i.toNat - f.toNat)+1 by omega,List.take_add_one,List.mem_append,not_or]
   refine ⟨hn,?_⟩
   rw [List.getElem?_drop,show f.toNat+(i.toNat - f.toNat)=i.toNat by omega,List.getElem?_eq_getElem hlt]
   simp only [Option.toList_some,List.mem_singleton]
   exact fun e=>hc e.symm
theorem l1Split_ev (c:UInt8) (s:ByteArray) (hs:s.size≤1048576) (b:Int) (hb:b=(c.toNat:Int)):Ev (fun k=>spec_l1Split.f k s b) (cutB c s):=by
 subst hb
 unfold spec_l1Split.f
 have h:=l1Split_l0_ev c s hs 0 (by omega) (by omega) [] 0 (by omega) (by omega) (by simp) (by simp)
 simpa [cutB] using h
theorem cutB_mem {c:UInt8} {s q:ByteArray} (h:q∈cutB c s):q.size≤s.size:=by
 have key:∀ (l:List UInt8) (p:List UInt8),p∈cutL c l→p.length≤l.length:=by
  intro l
  induction l with
  | nil=>intro p hp;simp [cutL] at hp;simp [hp]
  | cons x xs ih =>
   intro p hp
   unfold cutL at hp
   split at hp
   ·rcases List.mem_cons.1 hp with rfl|hp
    ·simp
    ·have:=ih p hp;simp;omega
   ·cases e:cutL c xs with
    | nil=>rw [e] at hp;simp at hp;simp [hp]
    | cons y ys =>
     rw [e] at hp
     rcases List.mem_cons.1 hp with rfl|hp
     ·have:=ih y (by rw [e];exact List.mem_cons_self);simp;omega
     ·have:=ih p (by rw [e];exact List.mem_cons_of_mem _ hp);simp;omega
 obtain ⟨p,hp,rfl⟩:=List.mem_map.1 h
 rw [mkB_size,size_list]
 exact key _ p hp
def isDig (c:UInt8):Bool:=decide (48≤c.toNat∧c.toNat≤57)
def foldN (a:Nat) (l:List UInt8):Nat:=l.foldl (fun a c=>a*10+(c.toNat - 48)) a
theorem foldN_cons (a:Nat) (c:UInt8) (l:List UInt8):foldN a (c :: l)=foldN (a*10+(c.toNat - 48)) l:=by
 unfold foldN
 rw [List.foldl_cons]
theorem foldN_snoc (a:Nat) (l:List UInt8) (c:UInt8):foldN a (l ++ [c])=foldN a l*10+(c.toNat - 48):=by
 unfold foldN
 rw [List.foldl_append]
 rfl
def canon (l:List UInt8):Bool:=decide (1≤l.length∧l.length≤6) && (decide (l.head?≠some 48∨l.length=1) && l.all isDig)
theorem digit_char (d:Nat) (h:d < 10):isDig (UInt8.ofNat (48+d))=true∧(UInt8.ofNat (48+d)).toNat - 48=d:=by
 have e:(UInt8.ofNat (48+d)).toNat=48+d:=by simp [UInt8.toNat_ofNat];omega
 unfold isDig
 rw [e]
 exact ⟨decide_eq_true (by omega),by omega⟩
theorem dec_dig:∀ n:Nat,(Lib.decDigits n).all isDig=true∧foldN 0 (Lib.decDigits n)=n:=by
 intro n
 induction n using Nat.strongRecOn with
 | ind n ih =>
  rw [Lib.decDigits]
  split
  ·next h =>
   obtain ⟨h1,h2⟩:=digit_char n h
   refine ⟨by rw [List.all_cons,h1];rfl,?_⟩
   simp only [foldN,List.foldl_cons,List.foldl_nil,h2]
   omega
  ·next h =>
   obtain ⟨h1,h2⟩:=digit_char (n % 10) (by omega)
   obtain ⟨h3,h4⟩:=ih (n / 10) (by omega)
   refine ⟨by rw [List.all_append,h3,List.all_cons,h1];rfl,?_⟩
   rw [foldN_snoc,h4,h2]
   omega
theorem dec_ne (n:Nat):Lib.decDigits n≠[]:=by
 rw [Lib.decDigits]
 split <;> simp
theorem dec_head:∀ n:Nat,1≤n→(Lib.decDigits n).head?≠some 48:=by
 intro n
 induction n using Nat.strongRecOn with
 | ind n ih =>
  intro hn
  rw [Lib.decDigits]
  split
  ·next h =>
   intro e
   simp only [List.head?_cons,Option.some.injEq] at e
   have:=(digit_char n h).2
   rw [e] at this
   simp at this
   omega
  ·next h =>
   have:=ih (n / 10) (by omega) (by omega)
   cases e:Lib.decDigits (n / 10) with
   | nil=>exact absurd e (dec_ne _)
   | cons y ys =>
    rw [e] at this
    simpa using this
theorem dec_len:∀ (k n:Nat),n < 10 ^ (k+1)→(Lib.decDigits n).length≤k+1:=by
 intro k
 induction k with
 | zero =>
  intro n h
  rw [Lib.decDigits,dif_pos (by simpa using h)]
  simp
 | succ k ih =>
  intro n h
  rw [Lib.decDigits]
  split
  ·simp
  ·have h2:n / 10 < 10 ^ (k+1):=by
    rw [Nat.pow_succ] at h
    omega
   have:=ih (n / 10) h2
   simp
   omega
theorem canon_dec (n:Nat) (h:n≤999999):canon (Lib.decDigits n)=true:=by
 unfold canon
 have hl:=dec_len 5 n (by omega)
 have hn:=dec_ne n
 have h1:1≤(Lib.decDigits n).length:=by
  cases e:Lib.decDigits n with
  | nil=>exact absurd e hn
  | cons _ _=>simp
 rw [(dec_dig n).1,Bool.and_true,Bool.and_eq_true,decide_eq_true_iff,decide_eq_true_iff]
 refine ⟨⟨h1,by omega⟩,?_⟩
 by_cases z:1≤n
 ·exact .inl (dec_head n z)
 ·right
  rw [Lib.decDigits,dif_pos (by omega)]
  rfl
def rdS (s:ByteArray):Int:=if canon s.data.toList=true then ((foldN 0 s.data.toList:Nat):Int) else -1
theorem rdS_itoa (s:ByteArray) (v:Int) (h0:0≤v) (h1:v≤999999) (h:s.data.toList=Lib.itoa v):rdS s=v:=by
 obtain ⟨n,rfl⟩:=Int.eq_ofNat_of_zero_le h0
 unfold rdS
 rw [h,itoa_nat,if_pos (canon_dec n (by omega)),(dec_dig n).2]
theorem l1Read_l0_ev (s:ByteArray) (hs:s.size≤6):∀ i:Int,0≤i→i≤s.size→∀ a:Nat,a < 10 ^ i.toNat→Ev (fun k=>spec_l1Read.l0 k s a i) (if (s.data.toList.drop i.toNat).all isDig=true then ((foldN a (s.data.toList.drop i.toNat):Nat):Int) else -1):=by
 refine downI (fun a ha=>?_) (fun i h0 h1 ih a ha=>?_)
 ·refine Ev.step (fun k=>by simp only [spec_l1Read.l0];rw [if_neg (by omega)]) ?_
  rw [List.drop_of_length_le (by rw [← size_list];omega)]
  exact Ev.now _
 ·obtain ⟨hlt,hb⟩:=bt_list s i h0 h1
  rw [List.drop_eq_getElem_cons hlt]
  have hpw:10 ^ i.toNat≤10 ^ 5:=Nat.pow_le_pow_right (by omega) (by omega)
  by_cases c:48≤(s.data.toList[i.toNat]).toNat∧(s.data.toList[i.toNat]).toNat≤57
  ·have e:wrap64 (wrap64 (10*(a:Int))+(bt s i - 48) % 256)=((a*10+((s.data.toList[i.toNat]).toNat - 48):Nat):Int):=by
    rw [w64 (x:=10*(a:Int)) (by omega) (by omega),hb,show (((s.data.toList[i.toNat]).toNat:Int) - 48) % 256=(((s.data.toList[i.toNat]).toNat - 48:Nat):Int) by omega,w64 (by omega) (by omega)]
    omega
   refine Ev.step (fun k=>by simp only [spec_l1Read.l0];rw [if_pos h1,if_pos h0,if_neg (by rw [hb];omega),if_neg (by rw [hb];omega),e,w64 (x:=i+1) (by omega) (by omega)]) ?_
   have h:=ih (a*10+((s.data.toList[i.toNat]).toNat - 48)) (by rw [show (i+1).toNat=i.toNat+1 by omega,Nat.pow_succ];omega)
   rw [show (i+1).toNat=i.toNat+1 by omega] at h
   rw [List.all_cons,show isDig (s.data.toList[i.toNat])=true from decide_eq_true c,Bool.true_and]
   exact h
  ·rw [List.all_cons,show isDig (s.data.toList[i.toNat])=false from decide_eq_false c,Bool.false_and,if_neg (by simp)]
   by_cases c1:bt s i < 48
   ·exact Ev.step (fun k=>by simp only [spec_l1Read.l0];rw [if_pos h1,if_pos h0,if_pos c1]) (Ev.now _)
   ·exact Ev.step (fun k=>by simp only [spec_l1Read.l0];rw [if_pos h1,if_pos h0,if_neg c1,if_pos (by rw [hb] at c1 ⊢;omega)]) (Ev.now _)
theorem l1Read_ev (s:ByteArray):Ev (fun k=>spec_l1Read.f k s) (rdS s):=by
 unfold spec_l1Read.f
 simp only [in_eq,Option.bind_some]
 by_cases h:1≤(s.size:Int)∧(s.size:Int)≤6
 ·simp only [h,and_self,decide_true,if_true]
  have hsl:=size_list s
  obtain ⟨hlt,hb⟩:=bt_list s 0 (by omega) (by omega)
  have hhd:s.data.toList.head?=some (s.data.toList[(0:Int).toNat]):=by
   rw [List.head?_eq_getElem?]
   exact List.getElem?_eq_getElem hlt
  have h0:=l1Read_l0_ev s (by omega) 0 (by omega) (by omega) 0 (by simp)
  simp only [Int.toNat_zero,List.drop_zero] at h0
  refine Ev.congr (fun k=>by rw [if_pos (by omega)]) ?_
  by_cases z:bt s 0=48∧(s.size:Int) > 1
  ·refine Ev.congr (fun k=>by rw [if_pos z.1]) ?_
   refine Ev.step (fun k=>by simp only [spec_l1Read.j0];rw [if_pos (decide_eq_true z.2)]) ?_
   have e:rdS s = -1:=by
    unfold rdS
    refine if_neg (fun hc=>?_)
    unfold canon at hc
    rw [Bool.and_eq_true,Bool.and_eq_true,decide_eq_true_iff,decide_eq_true_iff] at hc
    rcases hc.2.1 with h2|h2
    ·refine h2 ?_
     rw [hhd]
     congr 1
     have:=z.1
     rw [hb] at this
     exact UInt8.toNat_inj.1 (by simpa using (by omega:(s.data.toList[(0:Int).toNat]).toNat=48))
    ·omega
   rw [e]
   exact Ev.now _
  ·have key:Ev (fun k=>spec_l1Read.j0 k s false) (rdS s):=by
    refine Ev.step (fun k=>by simp only [spec_l1Read.j0];rw [if_neg (by simp)]) ?_
    have e:rdS s=(if s.data.toList.all isDig=true then ((foldN 0 s.data.toList:Nat):Int) else -1):=by
     unfold rdS canon
     rw [decide_eq_true (by omega:1≤s.data.toList.length∧s.data.toList.length≤6),Bool.true_and,decide_eq_true (show s.data.toList.head?≠some 48∨s.data.toList.length=1 from ?_),Bool.true_and]
     by_cases h1:s.data.toList.length=1
     ·exact .inr h1
     ·left
      rw [hhd]
      intro e
      injection e with e
      exact z ⟨by rw [hb,e];rfl,by omega⟩
    rw [e]
    exact h0
   by_cases z1:bt s 0=48
   ·refine Ev.congr (fun k=>by rw [if_pos z1,decide_eq_false (fun h2=>z ⟨z1,h2⟩)]) key
   ·exact Ev.congr (fun k=>by rw [if_neg z1]) key
 ·simp only [h,decide_false,Bool.false_eq_true,if_false]
  have e:rdS s = -1:=by
   unfold rdS
   refine if_neg (fun hc=>?_)
   unfold canon at hc
   rw [Bool.and_eq_true,decide_eq_true_iff] at hc
   have:=size_list s
   omega
  rw [e]
  exact Ev.step (fun k=>by simp only [spec_l1Read.j0,if_true]) (Ev.now _)
theorem parse10:∀ (l:List UInt8),l.all isDig=true→∀ a:Nat,(a+1)*10 ^ l.length≤1000000000000000000→Lib.parseUint10 a l=.ok (foldN a l):=by
 intro l
 induction l with
 | nil=>intro _ a _;rfl
 | cons c l ih =>
  intro h a ha
  rw [List.all_cons,Bool.and_eq_true] at h
  have hc:48≤c.toNat∧c.toNat≤57:=by simpa [isDig] using h.1
  rw [List.length_cons,Nat.pow_succ] at ha
  have hp:1≤10 ^ l.length:=Nat.one_le_iff_ne_zero.2 (by simp)
  have h2:(a*10+(c.toNat - 48)+1)*10 ^ l.length≤((a+1)*10)*10 ^ l.length:=Nat.mul_le_mul_right _ (by omega)
  have h3:((a+1)*10)*10 ^ l.length=(a+1)*(10 ^ l.length*10):=by rw [Nat.mul_assoc,Nat.mul_comm 10]
  have h4:(a*10+(c.toNat - 48)+1)*1≤(a*10+(c.toNat - 48)+1)*10 ^ l.length:=Nat.mul_le_mul_left _ hp
  unfold Lib.parseUint10
  rw [if_pos hc,if_neg (by omega),if_neg (by omega),ih h.2 _ (by omega),foldN_cons]
theorem atoi_dec (n:Nat) (h:n≤999999):Lib.atoiAll (Lib.decDigits n)=.ok (n:Int):=by
 have hd:=dec_dig n
 have hl:=dec_len 5 n (by omega)
 have hp:10 ^ (Lib.decDigits n).length≤10 ^ 6:=Nat.pow_le_pow_right (by omega) hl
 have h10:=parse10 _ hd.1 0 (by omega)
 rw [hd.2] at h10
 cases e:Lib.decDigits n with
 | nil=>exact absurd e (dec_ne n)
 | cons c r =>
  have hc:48≤c.toNat∧c.toNat≤57:=by
   have:=hd.1
   rw [e,List.all_cons,Bool.and_eq_true] at this
   simpa [isDig] using this.1
  rw [e] at h10
  unfold Lib.atoiAll
  simp only
  rw [if_neg (by omega)]
  unfold Lib.parseMag
  rw [if_neg (by simp),h10]
  simp only
  rw [if_neg (by omega),if_neg (by omega),if_neg (by omega)]
theorem rdNum_itoa (s:ByteArray) (v:Int) (h0:0≤v) (h1:v≤999999) (h:s.data.toList=Lib.itoa v):XText.rdNum s=(v,true):=by
 obtain ⟨n,rfl⟩:=Int.eq_ofNat_of_zero_le h0
 have ha:Lib.atoiAll s.data.toList=.ok (n:Int):=by rw [h,itoa_nat];exact atoi_dec n (by omega)
 unfold XText.rdNum
 rw [ha]
 simp only
 rw [if_pos]
 rw [toList_eq,toList_eq,h]
theorem itoa_free (v:Int) (h0:0≤v) (c:UInt8) (hc:isDig c=false):c ∉ Lib.itoa v:=by
 obtain ⟨n,rfl⟩:=Int.eq_ofNat_of_zero_le h0
 rw [itoa_nat]
 intro hm
 have:=List.all_eq_true.1 (dec_dig n).1 c hm
 rw [hc] at this
 cases this
theorem cutL_len (c:UInt8):∀ l,(cutL c l).length≤l.length+1:=by
 intro l
 induction l with
 | nil=>simp [cutL]
 | cons x xs ih =>
  unfold cutL
  split
  ·simp;omega
  ·cases e:cutL c xs with
   | nil=>simp
   | cons y ys=>rw [e] at ih;simp at ih ⊢;omega
theorem cutB_len (c:UInt8) (s:ByteArray):(cutB c s).length≤s.size+1:=by
 unfold cutB
 rw [List.length_map,size_list]
 exact cutL_len c _
theorem cutB_of (c:UInt8) (s:ByteArray) (ps:List (List UInt8)) (hne:ps≠[]) (hf:∀ p,p∈ps→c ∉ p) (h:s.data.toList=Lib.join ps [c]):cutB c s=ps.map mkB:=by
 unfold cutB
 rw [h,cutL_of_join c ps hne hf]
def rdAll:List ByteArray→Option (List Int)
 | []=>some []
 | q :: qs=>if (XText.rdNum q).2=true then (rdAll qs).map (fun l=>(XText.rdNum q).1 :: l) else none
theorem rdAll_of:∀ (qs:List ByteArray) (l:List Int),qs.map (fun (x:ByteArray)=>x.data.toList)=l.map Lib.itoa→(∀ v,v∈l→0≤v∧v≤999999)→rdAll qs=some l:=by
 intro qs
 induction qs with
 | nil =>
  intro l h _
  cases l with
  | nil=>rfl
  | cons v l=>simp at h
 | cons q qs ih =>
  intro l h hb
  cases l with
  | nil=>simp at h
  | cons v l =>
   rw [List.map_cons,List.map_cons,List.cons.injEq] at h
   have hv:=hb v List.mem_cons_self
   have hr:=rdNum_itoa q v hv.1 hv.2 h.1
   unfold rdAll
   rw [hr,if_pos rfl,ih l h.2 (fun x hx=>hb x (List.mem_cons_of_mem _ hx))]
   rfl
theorem rdOf_mem (qs:List ByteArray) (i:Int) (h0:0≤i) (h1:i < qs.length):rdOf ByteArray.empty qs i∈qs:=get_mem qs ByteArray.empty i h0 h1
def numsR (acc:List Int):Option (List Int)→List Int × Bool
 | some l=>(acc ++ l,true)
 | none=>([],false)
theorem readNums_l0_ev (qs:List ByteArray) (hl:qs.length≤16777217) (hs:∀ q,q∈qs→q.size≤16777216):∀ i:Int,0≤i→i≤qs.length→∀ acc:List Int,(acc.length:Int)≤i→Ev (fun k=>impl_readNumbers.l0 k acc qs qs.length i) (numsR acc (rdAll (qs.drop i.toNat))):=by
 refine downI (fun acc ha=>?_) (fun i h0 h1 ih acc ha=>?_)
 ·refine Ev.step (fun k=>by simp only [impl_readNumbers.l0];rw [if_neg (by omega)]) ?_
  rw [List.drop_of_length_le (by omega)]
  simp only [rdAll,numsR,List.append_nil]
  exact Ev.now _
 ·have hq:=hs _ (rdOf_mem qs i h0 h1)
  rw [drop_get qs ByteArray.empty i h0 h1]
  change Ev _ (numsR acc (rdAll (rdOf ByteArray.empty qs i :: qs.drop (i+1).toNat)))
  unfold rdAll
  have st:∀ k,impl_readNumbers.l0 (k+1) acc qs qs.length i=if (XText.rdNum (rdOf ByteArray.empty qs i)).2=true then impl_readNumbers.l0 k (acc ++ [(XText.rdNum (rdOf ByteArray.empty qs i)).1]) qs qs.length (i+1) else some ([],false):=by
   intro k
   simp only [impl_readNumbers.l0,impl_readNumber.f]
   rw [if_pos h1,if_pos h0,if_pos h1,if_pos (show (rdOf ByteArray.empty qs i).size≤281474976710656 by omega),Option.bind_some]
   simp only
   rw [if_pos (show acc.length < 17592186044416 by omega),w64 (x:=i+1) (by omega) (by omega)]
  by_cases c:(XText.rdNum (rdOf ByteArray.empty qs i)).2=true
  ·refine Ev.step (fun k=>by rw [st,if_pos c]) ?_
   rw [if_pos c]
   have h:=ih (acc ++ [(XText.rdNum (rdOf ByteArray.empty qs i)).1]) (by simp;omega)
   cases e:rdAll (qs.drop (i+1).toNat) with
   | none=>rw [e] at h;exact h
   | some l =>
    rw [e] at h
    simp only [numsR,List.append_assoc,List.singleton_append] at h
    exact h
  ·rw [if_neg c]
   exact Ev.step (fun k=>by rw [st,if_neg c];rfl) (Ev.now _)
theorem readNums_ev (c:UInt8) (s:ByteArray) (hs:s.size≤16777216):Ev (fun k=>impl_readNumbers.f k s (⟨#[c]⟩:ByteArray)) (numsR [] (rdAll (cutB c s))):=by
 unfold impl_readNumbers.f
 rw [split_eq c s (by omega)]
 simp only [Option.bind_some]
 have hl:=cutB_len c s
 exact readNums_l0_ev (cutB c s) (by omega) (fun q hq=>by have:=cutB_mem hq;omega) 0 (by omega) (by omega) [] (by simp)
theorem joinNums_l0_ev (s:ByteArray) (l:List Int) (hl:l.length≤1048576) (hr:∀ x,x∈l→0≤x∧x≤1000000000) (hj:(Lib.join (l.map Lib.itoa) s.data.toList).length≤140737488355328):∀ i:Int,0≤i→i≤l.length→∀ acc:List ByteArray,acc.length=l.length→acc.take i.toNat=(l.map txt).take i.toNat→Ev (fun k=>impl_joinNumbers.l0 k s acc l l.length i) (⟨(Lib.join (l.map Lib.itoa) s.data.toList).toArray⟩:ByteArray):=by
 refine downI (fun acc ha ht=>?_) (fun i h0 h1 ih acc ha ht=>?_)
 ·have e:acc=l.map txt:=by
   rw [List.take_of_length_le (by omega),List.take_of_length_le (by simp)] at ht
   exact ht
  have e2:(l.map txt).map (fun (x:ByteArray)=>x.data.toList)=l.map Lib.itoa:=by
   rw [List.map_map]
   rfl
  refine Ev.step (fun k=>by simp only [impl_joinNumbers.l0];rw [if_neg (by omega),strings_Join.f,e,e2,if_pos ⟨by simp;omega,hj⟩];rfl) (Ev.now _)
 ·have hx:=hr _ (get_mem l 0 i h0 h1)
  change 0≤rd l i∧rd l i≤1000000000 at hx
  refine Ev.step (fun k=>by simp only [impl_joinNumbers.l0];rw [if_pos h1,if_pos h0,if_pos h1,itoa_ev _ (by omega) (by omega),Option.bind_some,if_pos (by omega),w64 (x:=i+1) (by omega) (by omega)]) (ih (acc.set i.toNat (txt (rd l i))) (by simpa using ha) ?_)
  have hg:(l.map txt)[i.toNat]?=some (txt (rd l i)):=by
   rw [List.getElem?_map,List.getElem?_eq_getElem (show i.toNat < l.length by omega)]
   unfold rd
   rw [List.getD_eq_getElem?_getD,List.getElem?_eq_getElem (show i.toNat < l.length by omega)]
   rfl
  rw [show (i+1).toNat=i.toNat+1 by omega,List.take_succ_eq_append_getElem (by rw [List.length_set];omega),List.getElem_set_self,List.take_set_of_le (Nat.le_refl _),ht,List.take_add_one,hg]
  rfl
theorem joinNums_ev (s:ByteArray) (l:List Int) (hl:l.length≤1048576) (hr:∀ x,x∈l→0≤x∧x≤1000000000) (hj:(Lib.join (l.map Lib.itoa) s.data.toList).length≤140737488355328):Ev (fun k=>impl_joinNumbers.f k l s) (⟨(Lib.join (l.map Lib.itoa) s.data.toList).toArray⟩:ByteArray):=by
 unfold impl_joinNumbers.f
 refine Ev.congr (fun k=>by rw [if_pos (by omega),if_pos (by omega)]) ?_
 exact joinNums_l0_ev s l hl hr hj 0 (by omega) (by omega) _ (by simp) (by simp)
theorem join_snoc (xs:List (List UInt8)) (x sep:List UInt8) (h:xs≠[]):Lib.join (xs ++ [x]) sep=Lib.join xs sep ++ sep ++ x:=by
 cases xs with
 | nil=>exact absurd rfl h
 | cons y ys =>
  rw [List.cons_append,Lib.join_cons,Lib.join_cons]
  simp [Lib.joinTail,List.append_assoc]
theorem joinTail_len (M:Nat) (sep:List UInt8):∀ xs:List (List UInt8),(∀ x,x∈xs→x.length≤M)→(Lib.joinTail sep xs).length≤xs.length*(M+sep.length):=by
 intro xs
 induction xs with
 | nil=>intro _;simp [Lib.joinTail]
 | cons y ys ih =>
  intro h
  have h1:=ih (fun x hx=>h x (List.mem_cons_of_mem _ hx))
  have h2:=h y List.mem_cons_self
  have e:Lib.joinTail sep (y :: ys)=sep ++ y ++ Lib.joinTail sep ys:=by simp [Lib.joinTail]
  rw [e,List.length_append,List.length_append,List.length_cons,Nat.succ_mul]
  omega
theorem join_len (M:Nat) (sep:List UInt8) (xs:List (List UInt8)) (h:∀ x,x∈xs→x.length≤M):(Lib.join xs sep).length≤xs.length*(M+sep.length):=by
 cases xs with
 | nil=>simp [Lib.join_nil]
 | cons y ys =>
  have h1:=joinTail_len M sep ys (fun x hx=>h x (List.mem_cons_of_mem _ hx))
  have h2:=h y List.mem_cons_self
  rw [Lib.join_cons,List.length_append,List.length_cons,Nat.succ_mul]
  omega
theorem nums_take (l:List Int) (i:Int) (h0:0≤i) (h1:i < l.length):(l.map Lib.itoa).take (i+1).toNat=(l.map Lib.itoa).take i.toNat ++ [Lib.itoa (rd l i)]:=by
 rw [show (i+1).toNat=i.toNat+1 by omega,List.take_add_one]
 have hg:(l.map Lib.itoa)[i.toNat]?=some (Lib.itoa (rd l i)):=by
  rw [List.getElem?_map,List.getElem?_eq_getElem (show i.toNat < l.length by omega)]
  unfold rd
  rw [List.getD_eq_getElem?_getD,List.getElem?_eq_getElem (show i.toNat < l.length by omega)]
  rfl
 rw [hg]
 rfl
def headT (f e c:Int):List UInt8:=Lib.itoa f ++ [43] ++ Lib.itoa e ++ [120] ++ Lib.itoa c ++ [58]
def lineT (f e c:Int) (st:List Int):List UInt8:=headT f e c ++ Lib.join (st.map Lib.itoa) [44]
theorem GoodLine.mem {f e c:Int} {st:List Int} (h:GoodLine f e c st) (x:Int) (hx:x∈st):0≤x∧x≤500:=by
 obtain ⟨j,hj,rfl⟩:=List.getElem_of_mem hx
 have:=h.range (j:Int) (by omega) (by omega)
 unfold rd at this
 rw [Int.toNat_natCast,List.getD_eq_getElem?_getD,List.getElem?_eq_getElem hj] at this
 exact this
theorem GoodLine.head_len {f e c:Int} {st:List Int} (h:GoodLine f e c st):(headT f e c).length≤4070:=by
 have a:=h.first
 have b:=h.every
 have d:=h.count
 have l1:=itoa_len f a.1
 have l2:=itoa_len e (by omega)
 have l3:=itoa_len c (by omega)
 unfold headT
 simp only [List.length_append,List.length_cons,List.length_nil]
 omega
theorem GoodLine.joinT_len {f e c:Int} {st:List Int} (h:GoodLine f e c st) (n:Nat):(Lib.join ((st.map Lib.itoa).take n) [44]).length≤6024:=by
 have h1:=join_len 501 [44] ((st.map Lib.itoa).take n) (fun x hx=>by
  obtain ⟨y,hy,rfl⟩:=List.mem_map.1 (List.mem_of_mem_take hx)
  have hm:=h.mem y hy
  have:=itoa_len y hm.1
  omega)
 have h2:((st.map Lib.itoa).take n).length≤12:=by
  have:=h.stops
  rw [List.length_take,List.length_map];omega
 have h3:((st.map Lib.itoa).take n).length*(501+([44]:List UInt8).length)≤12*(501+([44]:List UInt8).length):=Nat.mul_le_mul_right _ h2
 simp only [List.length_cons,List.length_nil] at h1 h3
 omega
theorem buText_l0_ev {f e c:Int} {st:List Int} (g:GoodLine f e c st):∀ i:Int,0≤i→i≤st.length→Ev (fun k=>spec_buText.l0 k (⟨(headT f e c ++ Lib.join ((st.map Lib.itoa).take i.toNat) [44]).toArray⟩:ByteArray) st st.length i) (⟨(lineT f e c st).toArray⟩:ByteArray):=by
 have hst:=g.stops
 have hh:=g.head_len
 refine downI ?_ (fun i h0 h1 ih=>?_)
 ·refine Ev.step (fun k=>by simp only [spec_buText.l0];rw [if_neg (by omega)]) ?_
  rw [List.take_of_length_le (by simp)]
  exact Ev.now _
 ·have hr:=g.range i h0 h1
  have lj:=g.joinT_len i.toNat
  have n1:=l1Num_txt (rd st i) (by omega) (by omega)
  have la:=txt_size (rd st i) (by omega)
  by_cases z:i > 0
  ·have hne:(st.map Lib.itoa).take i.toNat≠[]:=by
    intro h
    have:=congrArg List.length h
    rw [List.length_take,List.length_map,List.length_nil] at this
    omega
   have e44:(⟨#[44]⟩:ByteArray).size=1:=rfl
   have e:(⟨(headT f e c ++ Lib.join ((st.map Lib.itoa).take i.toNat) [44]).toArray⟩:ByteArray) ++ (⟨#[44]⟩:ByteArray) ++ txt (rd st i)=⟨(headT f e c ++ Lib.join ((st.map Lib.itoa).take (i+1).toNat) [44]).toArray⟩:=by
    unfold txt
    rw [nums_take st i h0 h1,join_snoc _ _ _ hne,show (⟨#[44]⟩:ByteArray)=⟨([44]:List UInt8).toArray⟩ from rfl,ba_append,ba_append]
    simp only [List.append_assoc]
   refine Ev.step (fun k=>by simp only [spec_buText.l0];rw [if_pos h1,if_pos h0,if_pos h1,if_pos z,if_pos (by rw [ba_size,List.length_append];omega),w64 (x:=i+1) (by omega) (by omega)]) ?_
   refine Ev.bind n1 (Ev.congr (fun k=>by rw [if_pos (by rw [ByteArray.size_append,ba_size,List.length_append];omega),e]) ih)
  ·obtain rfl:i=0:=by omega
   have e:(⟨(headT f e c ++ Lib.join ((st.map Lib.itoa).take (0:Int).toNat) [44]).toArray⟩:ByteArray) ++ txt (rd st 0)=⟨(headT f e c ++ Lib.join ((st.map Lib.itoa).take (0+1:Int).toNat) [44]).toArray⟩:=by
    unfold txt
    rw [nums_take st 0 h0 h1,ba_append]
    simp [Lib.join_nil,Lib.join_one]
   refine Ev.step (fun k=>by simp only [spec_buText.l0];rw [if_pos h1,if_pos h0,if_pos h1,if_neg z,w64 (x:=0+1) (by omega) (by omega)]) ?_
   refine Ev.bind n1 (Ev.congr (fun k=>by rw [if_pos (by rw [ba_size,List.length_append];omega),e]) ih)
theorem headTxt (f e c:Int):txt f ++ (⟨#[43]⟩:ByteArray) ++ txt e ++ (⟨#[120]⟩:ByteArray) ++ txt c ++ (⟨#[58]⟩:ByteArray)=⟨(headT f e c).toArray⟩:=by
 unfold txt headT
 rw [show (⟨#[43]⟩:ByteArray)=⟨([43]:List UInt8).toArray⟩ from rfl,show (⟨#[120]⟩:ByteArray)=⟨([120]:List UInt8).toArray⟩ from rfl,show (⟨#[58]⟩:ByteArray)=⟨([58]:List UInt8).toArray⟩ from rfl,ba_append,ba_append,ba_append,ba_append,ba_append]
theorem buText_ev {f e c:Int} {st:List Int} (g:GoodLine f e c st):Ev (fun k=>spec_buText.f k f e c st) (⟨(lineT f e c st).toArray⟩:ByteArray):=by
 have a:=g.first
 have b:=g.every
 have d:=g.count
 have l1:=txt_size f a.1
 have l2:=txt_size e (by omega)
 have l3:=txt_size c (by omega)
 have e43:(⟨#[43]⟩:ByteArray).size=1:=rfl
 have e120:(⟨#[120]⟩:ByteArray).size=1:=rfl
 have e58:(⟨#[58]⟩:ByteArray).size=1:=rfl
 unfold spec_buText.f
 refine Ev.bind (l1Num_txt f a.1 (by omega)) ?_
 refine Ev.congr (fun k=>by rw [if_pos (by omega)]) ?_
 refine Ev.bind (l1Num_txt e (by omega) (by omega)) ?_
 refine Ev.congr (fun k=>by rw [if_pos (by simp only [ByteArray.size_append];omega),if_pos (by simp only [ByteArray.size_append];omega)]) ?_
 refine Ev.bind (l1Num_txt c (by omega) (by omega)) ?_
 refine Ev.congr (fun k=>by rw [if_pos (by simp only [ByteArray.size_append];omega),if_pos (by simp only [ByteArray.size_append];omega),headTxt]) ?_
 have h:=buText_l0_ev g 0 (by omega) (by omega)
 simp only [Int.toNat_zero,List.take_zero,Lib.join_nil,List.append_nil] at h
 exact h
theorem lineText_ev {f e c:Int} {st:List Int} (g:GoodLine f e c st):Ev (fun k=>impl_lineText.f k f e c st) (⟨(lineT f e c st).toArray⟩:ByteArray):=by
 have a:=g.first
 have b:=g.every
 have d:=g.count
 have hst:=g.stops
 have l1:=txt_size f a.1
 have l2:=txt_size e (by omega)
 have l3:=txt_size c (by omega)
 have e43:(⟨#[43]⟩:ByteArray).size=1:=rfl
 have e120:(⟨#[120]⟩:ByteArray).size=1:=rfl
 have e58:(⟨#[58]⟩:ByteArray).size=1:=rfl
 have lj:=g.joinT_len st.length
 rw [List.take_of_length_le (by simp)] at lj
 have hh:=g.head_len
 have hj:=joinNums_ev (⟨#[44]⟩:ByteArray) st (by omega) (fun x hx=>by have:=g.mem x hx;omega) (show (Lib.join (st.map Lib.itoa) [44]).length≤140737488355328 by omega)
 unfold impl_lineText.f
 simp only [itoa_ev f (by omega) (by omega),itoa_ev e (by omega) (by omega),itoa_ev c (by omega) (by omega),Option.bind_some]
 refine Ev.congr (fun k=>by rw [if_pos (by omega),if_pos (by simp only [ByteArray.size_append];omega),if_pos (by simp only [ByteArray.size_append];omega),if_pos (by simp only [ByteArray.size_append];omega),if_pos (by simp only [ByteArray.size_append];omega),headTxt]) ?_
 refine Ev.bind hj ?_
 refine Ev.congr (fun k=>by rw [if_pos (by rw [ba_size,ba_size];change _+(Lib.join (st.map Lib.itoa) [44]).length≤_;omega),ba_append];rfl) (Ev.now _)
theorem lineText_spec_ev (f e c:Int) (st:List Int):Ev (fun k=>spec_LineText.f k f e c st) (if dec (GoodLine f e c st)=true then ((⟨(lineT f e c st).toArray⟩:ByteArray),true) else ((⟨#[]⟩:ByteArray),false)):=by
 unfold spec_LineText.f
 refine Ev.bind (buGood_ev f e c st) ?_
 cases h:dec (GoodLine f e c st)
 ·exact Ev.now _
 ·simp only [if_true]
  exact Ev.bind (buText_ev (dec_iff.1 h)) (Ev.now _)
theorem lineText_impl_ev (f e c:Int) (st:List Int):Ev (fun k=>impl_LineText.f k f e c st) (if dec (GoodLine f e c st)=true then ((⟨(lineT f e c st).toArray⟩:ByteArray),true) else ((⟨#[]⟩:ByteArray),false)):=by
 unfold impl_LineText.f
 refine Ev.bind (isLine_ev f e c st) ?_
 cases h:dec (GoodLine f e c st)
 ·exact Ev.now _
 ·simp only [if_true]
  exact Ev.bind (lineText_ev (dec_iff.1 h)) (Ev.now _)
theorem dec_len' (k:Nat) (v:Int) (h0:0≤v) (h:v < 10 ^ (k+1)):(Lib.itoa v).length≤k+1:=by
 obtain ⟨n,rfl⟩:=Int.eq_ofNat_of_zero_le h0
 rw [itoa_nat]
 exact dec_len k n (by exact_mod_cast h)
theorem cut_app (c:UInt8) (a b:List UInt8) (h:c ∉ a):Lib.cut (a ++ c :: b) [c]=(a,b,true):=by
 have hi:Lib.index (a ++ c :: b) [c]=(a.length:Int):=by
  rw [Lib.index_one]
  induction a with
  | nil=>simp [Lib.indexByte]
  | cons x a ih =>
   rw [List.mem_cons,not_or] at h
   have h2:=ih h.2
   show Lib.indexByte (x :: (a ++ c :: b)) c=_
   unfold Lib.indexByte
   rw [h2]
   have e1:(x == c)=false:=beq_false_of_ne (fun e=>h.1 e.symm)
   have e2:((a.length:Int) == -1)=false:=beq_false_of_ne (by omega)
   rw [e1,e2]
   simp
 unfold Lib.cut
 rw [hi,if_pos (by omega),Int.toNat_natCast]
 simp
theorem cut_len (s:List UInt8) (c:UInt8):(Lib.cut s [c]).1.length≤s.length∧(Lib.cut s [c]).2.1.length≤s.length:=by
 unfold Lib.cut
 split
 ·simp only [List.length_take,List.length_drop];omega
 ·simp
theorem cut_ev (s:ByteArray) (c:UInt8) (h:s.size < 4294967281):strings_Cut.f s (⟨#[c]⟩:ByteArray)=some (mkB (Lib.cut s.data.toList [c]).1,mkB (Lib.cut s.data.toList [c]).2.1,(Lib.cut s.data.toList [c]).2.2):=by
 unfold strings_Cut.f
 rw [if_pos h]
 rfl
def headN (f e c:Int):List UInt8:=Lib.itoa f ++ 43 :: (Lib.itoa e ++ 120 :: Lib.itoa c)
theorem lineT_eq (f e c:Int) (st:List Int):lineT f e c st=headN f e c ++ 58 :: Lib.join (st.map Lib.itoa) [44]:=by
 unfold lineT headT headN
 simp
structure LineOf (s:ByteArray) (f e c:Int) (st:List Int):Prop where
 good:GoodLine f e c st
 text:s.data.toList=lineT f e c st
theorem nums_free (st:List Int) (h:∀ x,x∈st→0≤x∧x≤500) (c:UInt8) (hc:isDig c=false) (p:List UInt8) (hp:p∈st.map Lib.itoa):c ∉ p:=by
 obtain ⟨y,hy,rfl⟩:=List.mem_map.1 hp
 exact itoa_free y (h y hy).1 c hc
theorem join_free (c d:UInt8) (hcd:c≠d):∀ ps:List (List UInt8),(∀ p,p∈ps→c ∉ p)→c ∉ Lib.join ps [d]:=by
 intro ps
 induction ps with
 | nil=>intro _;simp [Lib.join_nil]
 | cons p r ih =>
  intro h
  have hp:=h p List.mem_cons_self
  cases r with
  | nil=>rw [Lib.join_one];exact hp
  | cons q r =>
   rw [join_cons2,List.mem_append,List.mem_cons,not_or,not_or]
   exact ⟨hp,hcd,ih (fun x hx=>h x (List.mem_cons_of_mem _ hx))⟩
theorem headN_free (f e c:Int) (hf:0≤f) (he:0≤e) (hc:0≤c):(58:UInt8) ∉ headN f e c:=by
 unfold headN
 simp only [List.mem_append,List.mem_cons,not_or]
 exact ⟨itoa_free f hf 58 (by decide),by decide,itoa_free e he 58 (by decide),by decide,itoa_free c hc 58 (by decide)⟩
theorem line_size {s:ByteArray} {f e c:Int} {st:List Int} (h:LineOf s f e c st):s.size≤80:=by
 have a:=h.good.first
 have b:=h.good.every
 have d:=h.good.count
 have hs:=h.good.stops
 have l1:=dec_len' 3 f (by omega) (by omega)
 have l2:=dec_len' 3 e (by omega) (by omega)
 have l3:=dec_len' 1 c (by omega) (by omega)
 have hj:=join_len 3 [44] (st.map Lib.itoa) (fun x hx=>by
  obtain ⟨y,hy,rfl⟩:=List.mem_map.1 hx
  have:=h.good.mem y hy
  exact dec_len' 2 y (by omega) (by omega))
 rw [List.length_map] at hj
 have hm:st.length*(3+([44]:List UInt8).length)≤12*(3+([44]:List UInt8).length):=Nat.mul_le_mul_right _ (by omega)
 rw [size_list,h.text,lineT_eq]
 unfold headN
 simp only [List.length_append,List.length_cons,List.length_nil] at hj hm ⊢
 omega
theorem cut_two (c:UInt8) (q:ByteArray) (a b:List UInt8) (h:q.data.toList=a ++ c :: b) (ha:c ∉ a) (hb:c ∉ b):cutB c q=[mkB a,mkB b]:=by
 unfold cutB
 rw [h,cutL_app c b a ha,cutL_free c b hb]
 rfl
theorem buParse_l0_ev (s:ByteArray) (f e c:Int) (qs:List ByteArray) (hl:qs.length≤1048577) (v:Int × Int × Int × List Int × Bool) (hv:Ev (fun k=>(spec_buGood.f k f e c (qs.map rdS)).bind fun t291=>(if t291=true then ((spec_buText.f k f e c (qs.map rdS)).bind fun t292=>(some (f,e,c,qs.map rdS,(t292.toList == s.toList)))) else (some (f,e,c,qs.map rdS,false)))) v):∀ i:Int,0≤i→i≤qs.length→Ev (fun k=>spec_buParse.l0 k s qs qs.length i f e c ((qs.take i.toNat).map rdS)) v:=by
 refine downI ?_ (fun i h0 h1 ih=>?_)
 ·refine Ev.step (fun k=>by simp only [spec_buParse.l0];rw [if_neg (by omega)]) ?_
  rw [List.take_of_length_le (by omega)]
  exact hv
 ·refine Ev.step (fun k=>by simp only [spec_buParse.l0];rw [if_pos h1,if_pos h0,if_pos h1,w64 (x:=i+1) (by omega) (by omega)]) ?_
  refine Ev.bind (l1Read_ev _) ?_
  refine Ev.congr (fun k=>by rw [if_pos (show ((qs.take i.toNat).map rdS).length < 17592186044416 by rw [List.length_map,List.length_take];omega)]) ?_
  rw [take_get qs ByteArray.empty i h0 h1,List.map_append] at ih
  exact ih
theorem spec_line_yes (s:ByteArray) (f e c:Int) (st:List Int) (h:LineOf s f e c st):Ev (fun k=>spec_ParseLine.f k s) (f,e,c,st,true):=by
 have g:=h.good
 have a:=g.first
 have b:=g.every
 have d:=g.count
 have h80:=line_size h
 have hmem:=fun x hx=>g.mem x hx
 have p0:cutB 58 s=[mkB (headN f e c),mkB (Lib.join (st.map Lib.itoa) [44])]:=cut_two 58 s _ _ (by rw [h.text,lineT_eq]) (headN_free f e c a.1 (by omega) (by omega)) (join_free 58 44 (by decide) _ (fun p hp=>nums_free st hmem 58 (by decide) p hp))
 have p1:cutB 43 (mkB (headN f e c))=[mkB (Lib.itoa f),mkB (Lib.itoa e ++ 120 :: Lib.itoa c)]:=cut_two 43 _ _ _ (mkB_list _) (itoa_free f a.1 43 (by decide)) (by
  simp only [List.mem_append,List.mem_cons,not_or]
  exact ⟨itoa_free e (by omega) 43 (by decide),by decide,itoa_free c (by omega) 43 (by decide)⟩)
 have p2:cutB 120 (mkB (Lib.itoa e ++ 120 :: Lib.itoa c))=[mkB (Lib.itoa e),mkB (Lib.itoa c)]:=cut_two 120 _ _ _ (mkB_list _) (itoa_free e (by omega) 120 (by decide)) (itoa_free c (by omega) 120 (by decide))
 have hst:=g.stops
 have p3:cutB 44 (mkB (Lib.join (st.map Lib.itoa) [44]))=(st.map Lib.itoa).map mkB:=cutB_of 44 _ _ (by
  intro e
  have:=congrArg List.length e
  rw [List.length_map,List.length_nil] at this
  omega) (fun p hp=>nums_free st hmem 44 (by decide) p hp) (mkB_list _)
 have hrd:((st.map Lib.itoa).map mkB).map rdS=st:=by
  rw [List.map_map,List.map_map]
  refine (List.map_congr_left (fun x hx=>?_)).trans (List.map_id st)
  have:=hmem x hx
  exact rdS_itoa _ x (by omega) (by omega) (mkB_list _)
 have sz:∀ l:List UInt8,l.length≤s.size→(mkB l).size≤1048576:=fun l hl=>by rw [mkB_size];omega
 have hlen:s.size=(lineT f e c st).length:=by rw [size_list,h.text]
 rw [lineT_eq] at hlen
 have hlen2:(headN f e c).length+((Lib.join (st.map Lib.itoa) [44]).length+1)=s.size:=by rw [hlen];simp
 have hlen3:(headN f e c).length=(Lib.itoa f).length+((Lib.itoa e ++ 120 :: Lib.itoa c).length+1):=by unfold headN;simp
 unfold spec_ParseLine.f
 refine Ev.bind (a:=(f,e,c,st,true)) ?_ ?_
 ·unfold spec_buParse.f
  refine Ev.bind (l1Split_ev 58 s (by omega) 58 rfl) ?_
  rw [p0]
  refine Ev.congr (fun k=>by rw [if_neg (by omega)]) ?_
  refine Ev.step (fun k=>by simp only [spec_buParse.j0];rw [if_neg (by simp),if_pos (by simp)]) ?_
  refine Ev.bind (l1Split_ev 43 (rdOf ByteArray.empty [mkB (headN f e c),mkB (Lib.join (st.map Lib.itoa) [44])] 0) (sz _ (by omega)) 43 rfl) ?_
  rw [show rdOf ByteArray.empty [mkB (headN f e c),mkB (Lib.join (st.map Lib.itoa) [44])] 0=mkB (headN f e c) from rfl,p1]
  refine Ev.congr (fun k=>by rw [if_pos (by simp),if_pos (by simp)]) ?_
  refine Ev.bind (l1Split_ev 120 (rdOf ByteArray.empty [mkB (Lib.itoa f),mkB (Lib.itoa e ++ 120 :: Lib.itoa c)] 1) (sz _ (by omega)) 120 rfl) ?_
  rw [show rdOf ByteArray.empty [mkB (Lib.itoa f),mkB (Lib.itoa e ++ 120 :: Lib.itoa c)] 1=mkB (Lib.itoa e ++ 120 :: Lib.itoa c) from rfl,p2]
  refine Ev.congr (fun k=>by rw [if_pos (by simp),if_pos (by simp)]) ?_
  refine Ev.bind (l1Read_ev _) ?_
  rw [show rdS (rdOf ByteArray.empty [mkB (Lib.itoa f),mkB (Lib.itoa e ++ 120 :: Lib.itoa c)] 0)=f from rdS_itoa _ f (by omega) (by omega) (mkB_list _)]
  refine Ev.congr (fun k=>by rw [if_pos (by simp)]) ?_
  refine Ev.bind (l1Read_ev _) ?_
  rw [show rdS (rdOf ByteArray.empty [mkB (Lib.itoa e),mkB (Lib.itoa c)] 0)=e from rdS_itoa _ e (by omega) (by omega) (mkB_list _)]
  refine Ev.congr (fun k=>by rw [if_pos (by simp)]) ?_
  refine Ev.bind (l1Read_ev _) ?_
  rw [show rdS (rdOf ByteArray.empty [mkB (Lib.itoa e),mkB (Lib.itoa c)] 1)=c from rdS_itoa _ c (by omega) (by omega) (mkB_list _)]
  refine Ev.congr (fun k=>by rw [if_pos (by simp)]) ?_
  refine Ev.bind (l1Split_ev 44 (rdOf ByteArray.empty [mkB (headN f e c),mkB (Lib.join (st.map Lib.itoa) [44])] 1) (sz _ (by omega)) 44 rfl) ?_
  rw [show rdOf ByteArray.empty [mkB (headN f e c),mkB (Lib.join (st.map Lib.itoa) [44])] 1=mkB (Lib.join (st.map Lib.itoa) [44]) from rfl,p3]
  refine buParse_l0_ev s f e c ((st.map Lib.itoa).map mkB) (by simp;omega) _ ?_ 0 (by omega) (by omega)
  rw [hrd]
  refine Ev.bind (buGood_ev f e c st) ?_
  rw [dec_true g]
  simp only [if_true]
  refine Ev.bind (buText_ev g) ?_
  have e:((⟨(lineT f e c st).toArray⟩:ByteArray).toList == s.toList)=true:=by
   rw [beq_iff_eq,toList_eq s,h.text]
   exact mkB_toList _
  rw [e]
  exact Ev.now _
 ·exact Ev.congr (fun k=>by rw [if_pos rfl]) (Ev.now _)
theorem spec_line_no (s:ByteArray) (hs:s.size≤1048576) (H:¬ ∃ f e c st,LineOf s f e c st):Ev (fun k=>spec_ParseLine.f k s) (0,0,0,[],false):=by
 unfold spec_ParseLine.f
 have fin:∀ v:Int × Int × Int × List Int × Bool,v.2.2.2.2=false→Ev (fun k=>spec_buParse.f k s) v→Ev (fun k=>(spec_buParse.f k s).bind fun bt294=>(if bt294.2.2.2.2=true then (some (bt294.1,bt294.2.1,bt294.2.2.1,bt294.2.2.2.1,true)) else (some (0,0,0,([]:List Int),false)))) (0,0,0,[],false):=fun v hv h=>by
  refine Ev.bind h ?_
  exact Ev.congr (fun k=>by rw [if_neg (by rw [hv];simp)]) (Ev.now _)
 suffices h:∃ v:Int × Int × Int × List Int × Bool,v.2.2.2.2=false∧Ev (fun k=>spec_buParse.f k s) v by
  obtain ⟨v,h1,h2⟩:=h
  exact fin v h1 h2
 unfold spec_buParse.f
 have hsp:=l1Split_ev 58 s hs 58 rfl
 have zero:Ev (fun k=>spec_buParse.j0 k s (cutB 58 s) true) (0,0,0,[],false):=Ev.step (fun k=>by simp only [spec_buParse.j0,if_true]) (Ev.now _)
 by_cases h80:(s.size:Int) > 80
 ·exact ⟨_,rfl,Ev.bind hsp (Ev.congr (fun k=>by rw [if_pos h80]) zero)⟩
 by_cases h2:(cutB 58 s).length=2
 rotate_left
 ·refine ⟨_,rfl,Ev.bind hsp (Ev.congr (fun k=>by rw [if_neg h80,show (((cutB 58 s).length:Int) != 2)=true from by simp;omega]) zero)⟩
 have m0:=cutB_mem (rdOf_mem (cutB 58 s) 0 (by omega) (by omega))
 have m1:=cutB_mem (rdOf_mem (cutB 58 s) 1 (by omega) (by omega))
 have sp1:=l1Split_ev 43 (rdOf ByteArray.empty (cutB 58 s) 0) (by omega) 43 rfl
 have pre:∀ v,Ev (fun k=>(spec_l1Split.f k (rdOf ByteArray.empty (cutB 58 s) 0) 43).bind fun t268=>(if (t268.length:Int)=2 then (if 1 < (t268.length:Int) then ((spec_l1Split.f k (rdOf ByteArray.empty t268 1) 120).bind fun t272=>(if (t272.length:Int)=2 then (if 0 < (t268.length:Int) then ((spec_l1Read.f k (rdOf ByteArray.empty t268 0)).bind fun t276=>(if 0 < (t272.length:Int) then ((spec_l1Read.f k (rdOf ByteArray.empty t272 0)).bind fun t278=>(if 1 < (t272.length:Int) then ((spec_l1Read.f k (rdOf ByteArray.empty t272 1)).bind fun t280=>(if 1 < ((cutB 58 s).length:Int) then ((spec_l1Split.f k (rdOf ByteArray.empty (cutB 58 s) 1) 44).bind fun t283=>(spec_buParse.l0 k s t283 (t283.length:Int) 0 t276 t278 t280 ([]:List Int))) else (none))) else (none))) else (none))) else (none)) else (some (0,0,0,([]:List Int),false)))) else (none)) else (some (0,0,0,([]:List Int),false)))) v→Ev (fun k=>(spec_l1Split.f k s 58).bind fun t264=>(if (s.size:Int) > 80 then (spec_buParse.j0 k s t264 true) else (spec_buParse.j0 k s t264 ((t264.length:Int) != 2)))) v:=fun v hv=>by
  refine Ev.bind hsp ?_
  refine Ev.congr (fun k=>by rw [if_neg h80,show (((cutB 58 s).length:Int) != 2)=false from by simp [h2]]) ?_
  refine Ev.step (fun k=>by simp only [spec_buParse.j0];rw [if_neg (by simp),if_pos (by omega)]) hv
 by_cases h3:(cutB 43 (rdOf ByteArray.empty (cutB 58 s) 0)).length=2
 rotate_left
 ·exact ⟨_,rfl,pre _ (Ev.bind sp1 (Ev.congr (fun k=>by rw [if_neg (by omega)]) (Ev.now _)))⟩
 generalize hH:cutB 43 (rdOf ByteArray.empty (cutB 58 s) 0)=hd at *
 have m2:=cutB_mem (c:=43) (s:=rdOf ByteArray.empty (cutB 58 s) 0) (q:=rdOf ByteArray.empty hd 1) (by rw [hH];exact rdOf_mem hd 1 (by omega) (by omega))
 have sp2:=l1Split_ev 120 (rdOf ByteArray.empty hd 1) (by omega) 120 rfl
 by_cases h4:(cutB 120 (rdOf ByteArray.empty hd 1)).length=2
 rotate_left
 ·exact ⟨_,rfl,pre _ (Ev.bind sp1 (Ev.congr (fun k=>by rw [if_pos (by omega),if_pos (by omega)]) (Ev.bind sp2 (Ev.congr (fun k=>by rw [if_neg (by omega)]) (Ev.now _)))))⟩
 generalize hM:cutB 120 (rdOf ByteArray.empty hd 1)=mn at *
 have sp3:=l1Split_ev 44 (rdOf ByteArray.empty (cutB 58 s) 1) (by omega) 44 rfl
 have hlen:=cutB_len 44 (rdOf ByteArray.empty (cutB 58 s) 1)
 generalize hQ:cutB 44 (rdOf ByteArray.empty (cutB 58 s) 1)=qs at *
 have r0:=l1Read_ev (rdOf ByteArray.empty hd 0)
 have r1:=l1Read_ev (rdOf ByteArray.empty mn 0)
 have r2:=l1Read_ev (rdOf ByteArray.empty mn 1)
 generalize hf:rdS (rdOf ByteArray.empty hd 0)=f at *
 generalize he:rdS (rdOf ByteArray.empty mn 0)=e at *
 generalize hc:rdS (rdOf ByteArray.empty mn 1)=c at *
 have tail:∀ v,Ev (fun k=>(spec_buGood.f k f e c (qs.map rdS)).bind fun t291=>(if t291=true then ((spec_buText.f k f e c (qs.map rdS)).bind fun t292=>(some (f,e,c,qs.map rdS,(t292.toList == s.toList)))) else (some (f,e,c,qs.map rdS,false)))) v→Ev (fun k=>(spec_l1Split.f k s 58).bind fun t264=>(if (s.size:Int) > 80 then (spec_buParse.j0 k s t264 true) else (spec_buParse.j0 k s t264 ((t264.length:Int) != 2)))) v:=fun v hv=>by
  refine pre v (Ev.bind sp1 ?_)
  refine Ev.congr (fun k=>by rw [if_pos (by omega),if_pos (by omega)]) ?_
  refine Ev.bind sp2 ?_
  refine Ev.congr (fun k=>by rw [if_pos (by omega),if_pos (by omega)]) ?_
  refine Ev.bind r0 ?_
  refine Ev.congr (fun k=>by rw [if_pos (by omega)]) ?_
  refine Ev.bind r1 ?_
  refine Ev.congr (fun k=>by rw [if_pos (by omega)]) ?_
  refine Ev.bind r2 ?_
  refine Ev.congr (fun k=>by rw [if_pos (by omega)]) ?_
  refine Ev.bind sp3 ?_
  exact buParse_l0_ev s f e c qs (by omega) v hv 0 (by omega) (by omega)
 cases g:dec (GoodLine f e c (qs.map rdS))
 ·refine ⟨_,rfl,tail (f,e,c,qs.map rdS,false) ?_⟩
  refine Ev.bind (buGood_ev f e c _) ?_
  rw [g]
  exact Ev.now _
 ·have g':=dec_iff.1 g
  refine ⟨(f,e,c,qs.map rdS,false),rfl,tail _ ?_⟩
  refine Ev.bind (buGood_ev f e c _) ?_
  rw [g]
  simp only [if_true]
  refine Ev.bind (buText_ev g') ?_
  have ne:((⟨(lineT f e c (qs.map rdS)).toArray⟩:ByteArray).toList == s.toList)=false:=by
   refine beq_false_of_ne (fun h=>H ⟨f,e,c,qs.map rdS,g',?_⟩)
   rw [toList_eq s] at h
   rw [← h]
   exact mkB_toList _
  rw [ne]
  exact Ev.now _
def cutsOf (l:List UInt8):List UInt8 × List UInt8 × List UInt8 × List UInt8 :=
 ((Lib.cut l [43]).1,(Lib.cut (Lib.cut l [43]).2.1 [120]).1,(Lib.cut (Lib.cut (Lib.cut l [43]).2.1 [120]).2.1 [58]).1,(Lib.cut (Lib.cut (Lib.cut l [43]).2.1 [120]).2.1 [58]).2.1)
theorem impl_line_ev (s:ByteArray) (hs:s.size≤1048576) (v:Int × Int × Int × List Int × Bool) (hv:∀ a b d r,cutsOf s.data.toList=(a,b,d,r)→Ev (fun k=>(impl_readNumbers.f k (mkB (a ++ 44 :: (b ++ 44 :: d))) (⟨#[44]⟩:ByteArray)).bind fun bt336=>((impl_readNumbers.f k (mkB r) (⟨#[44]⟩:ByteArray)).bind fun bt340=>(if bt336.2=true then (if bt340.2=true then (impl_ParseLine.j0 k s bt336.1 bt340.1 ((bt336.1.length:Int) != 3)) else (impl_ParseLine.j0 k s bt336.1 bt340.1 true)) else (impl_ParseLine.j0 k s bt336.1 bt340.1 true)))) v):Ev (fun k=>impl_ParseLine.f k s) v:=by
 have l1:=cut_len s.data.toList 43
 have l2:=cut_len (Lib.cut s.data.toList [43]).2.1 120
 have l3:=cut_len (Lib.cut (Lib.cut s.data.toList [43]).2.1 [120]).2.1 58
 rw [← size_list] at l1
 have h:=hv _ _ _ _ rfl
 unfold impl_ParseLine.f
 have c1:=cut_ev s 43 (by omega)
 have c2:=cut_ev (mkB (Lib.cut s.data.toList [43]).2.1) 120 (by rw [mkB_size];omega)
 rw [mkB_list] at c2
 have c3:=cut_ev (mkB (Lib.cut (Lib.cut s.data.toList [43]).2.1 [120]).2.1) 58 (by rw [mkB_size];omega)
 rw [mkB_list] at c3
 generalize hA:(Lib.cut s.data.toList [43]).1=a at *
 generalize hA2:(Lib.cut s.data.toList [43]).2.1=a2 at *
 generalize hB:(Lib.cut a2 [120]).1=b at *
 generalize hB2:(Lib.cut a2 [120]).2.1=b2 at *
 generalize hD:(Lib.cut b2 [58]).1=d at *
 generalize hD2:(Lib.cut b2 [58]).2.1=r at *
 have e44:(⟨#[44]⟩:ByteArray)=mkB [44]:=rfl
 have hcat:(((mkB a ++ mkB [44]) ++ mkB b) ++ mkB [44]) ++ mkB d=mkB (a ++ 44 :: (b ++ 44 :: d)):=by
  unfold mkB
  rw [ba_append,ba_append,ba_append,ba_append]
  simp
 simp only [c1,c2,c3,Option.bind_some]
 refine Ev.congr (fun k=>by rw [e44,if_pos (by rw [mkB_size];omega),if_pos (by simp only [ByteArray.size_append,mkB_size,List.length_cons,List.length_nil];omega),if_pos (by simp only [ByteArray.size_append,mkB_size,List.length_cons,List.length_nil];omega),if_pos (by simp only [ByteArray.size_append,mkB_size,List.length_cons,List.length_nil];omega),hcat]) ?_
 exact h
theorem impl_line_yes (s:ByteArray) (f e c:Int) (st:List Int) (h:LineOf s f e c st):Ev (fun k=>impl_ParseLine.f k s) (f,e,c,st,true):=by
 have g:=h.good
 have a:=g.first
 have b:=g.every
 have d:=g.count
 have h80:=line_size h
 have hst:=g.stops
 have hmem:=fun x hx=>g.mem x hx
 have hlen:s.size=(lineT f e c st).length:=by rw [size_list,h.text]
 rw [lineT_eq] at hlen
 have hlen2:(headN f e c).length+((Lib.join (st.map Lib.itoa) [44]).length+1)=s.size:=by rw [hlen];simp
 have hlen3:(headN f e c).length=(Lib.itoa f).length+((Lib.itoa e).length+((Lib.itoa c).length+1)+1):=by unfold headN;simp
 refine impl_line_ev s (by omega) _ (fun a' b' d' r' hc=>?_)
 have hcut:cutsOf s.data.toList=(Lib.itoa f,Lib.itoa e,Lib.itoa c,Lib.join (st.map Lib.itoa) [44]):=by
  unfold cutsOf
  have e1:s.data.toList=Lib.itoa f ++ 43 :: (Lib.itoa e ++ 120 :: (Lib.itoa c ++ 58 :: Lib.join (st.map Lib.itoa) [44])):=by
   rw [h.text,lineT_eq]
   unfold headN
   simp
  rw [e1,cut_app 43 _ _ (itoa_free f a.1 43 (by decide))]
  simp only
  rw [cut_app 120 _ _ (itoa_free e (by omega) 120 (by decide))]
  simp only
  rw [cut_app 58 _ _ (itoa_free c (by omega) 58 (by decide))]
 rw [hcut] at hc
 injection hc with h1 hc
 injection hc with h2 hc
 injection hc with h3 h4
 subst h1
 subst h2
 subst h3
 subst h4
 have j3:Lib.itoa f ++ 44 :: (Lib.itoa e ++ 44 :: Lib.itoa c)=Lib.join ([f,e,c].map Lib.itoa) [44]:=by
  simp only [List.map_cons,List.map_nil]
  rw [join_cons2,join_cons2,Lib.join_one]
 have p1:cutB 44 (mkB (Lib.itoa f ++ 44 :: (Lib.itoa e ++ 44 :: Lib.itoa c)))=([f,e,c].map Lib.itoa).map mkB:=cutB_of 44 _ _ (by simp) (fun p hp=>by
  simp only [List.map_cons,List.map_nil,List.mem_cons,List.not_mem_nil,or_false] at hp
  rcases hp with rfl|rfl|rfl
  ·exact itoa_free f (by omega) 44 (by decide)
  ·exact itoa_free e (by omega) 44 (by decide)
  ·exact itoa_free c (by omega) 44 (by decide)) (by rw [mkB_list,j3])
 have p3:cutB 44 (mkB (Lib.join (st.map Lib.itoa) [44]))=(st.map Lib.itoa).map mkB:=cutB_of 44 _ _ (by
  intro e
  have:=congrArg List.length e
  rw [List.length_map,List.length_nil] at this
  omega) (fun p hp=>nums_free st hmem 44 (by decide) p hp) (mkB_list _)
 have un:∀ l:List Int,((l.map Lib.itoa).map mkB).map (fun (x:ByteArray)=>x.data.toList)=l.map Lib.itoa:=fun l=>by
  rw [List.map_map]
  have:(fun (x:ByteArray)=>x.data.toList) ∘ mkB=id:=by funext l;exact mkB_list l
  rw [this,List.map_id]
 have n1:=readNums_ev 44 (mkB (Lib.itoa f ++ 44 :: (Lib.itoa e ++ 44 :: Lib.itoa c))) (by rw [mkB_size];simp;omega)
 rw [p1,rdAll_of _ [f,e,c] (un _) (fun v hv=>by
  simp only [List.mem_cons,List.not_mem_nil,or_false] at hv
  rcases hv with rfl|rfl|rfl <;> omega)] at n1
 have n2:=readNums_ev 44 (mkB (Lib.join (st.map Lib.itoa) [44])) (by rw [mkB_size];omega)
 rw [p3,rdAll_of _ st (un _) (fun v hv=>by have:=hmem v hv;omega)] at n2
 refine Ev.bind (show Ev _ ([f,e,c],true) from n1) ?_
 refine Ev.bind (show Ev _ (st,true) from n2) ?_
 dsimp only
 refine Ev.congr (fun k=>by rw [if_pos rfl,if_pos rfl]) ?_
 refine Ev.step (fun k=>by simp only [impl_ParseLine.j0];rw [if_neg (by simp),if_pos (by simp),if_pos (by simp),if_pos (by simp)]) ?_
 rw [show rd [f,e,c] 0=f from rfl,show rd [f,e,c] 1=e from rfl,show rd [f,e,c] 2=c from rfl]
 refine Ev.bind (isLine_ev f e c st) ?_
 rw [dec_true g]
 simp only [if_true]
 refine Ev.bind (lineText_ev g) ?_
 refine Ev.congr (fun k=>by rw [if_pos (by rw [toList_eq s,h.text];exact mkB_toList _)]) (Ev.now _)
theorem impl_line_no (s:ByteArray) (hs:s.size≤1048576) (H:¬ ∃ f e c st,LineOf s f e c st):Ev (fun k=>impl_ParseLine.f k s) (0,0,0,[],false):=by
 refine impl_line_ev s hs _ (fun a b d r hc=>?_)
 have zero:∀ n st,Ev (fun k=>impl_ParseLine.j0 k s n st true) (0,0,0,[],false):=fun n st=>Ev.step (fun k=>by simp only [impl_ParseLine.j0,if_true]) (Ev.now _)
 have l1:=cut_len s.data.toList 43
 have l2:=cut_len (Lib.cut s.data.toList [43]).2.1 120
 have l3:=cut_len (Lib.cut (Lib.cut s.data.toList [43]).2.1 [120]).2.1 58
 rw [← size_list] at l1
 unfold cutsOf at hc
 injection hc with h1 hc
 injection hc with h2 hc
 injection hc with h3 h4
 subst h1
 subst h2
 subst h3
 subst h4
 have n1:=readNums_ev 44 (mkB ((Lib.cut s.data.toList [43]).1 ++ 44 :: ((Lib.cut (Lib.cut s.data.toList [43]).2.1 [120]).1 ++ 44 :: (Lib.cut (Lib.cut (Lib.cut s.data.toList [43]).2.1 [120]).2.1 [58]).1))) (by rw [mkB_size];simp only [List.length_append,List.length_cons];omega)
 have n2:=readNums_ev 44 (mkB (Lib.cut (Lib.cut (Lib.cut s.data.toList [43]).2.1 [120]).2.1 [58]).2.1) (by rw [mkB_size];omega)
 generalize mkB ((Lib.cut s.data.toList [43]).1 ++ 44 :: ((Lib.cut (Lib.cut s.data.toList [43]).2.1 [120]).1 ++ 44 :: (Lib.cut (Lib.cut (Lib.cut s.data.toList [43]).2.1 [120]).2.1 [58]).1))=s1 at *
 generalize mkB (Lib.cut (Lib.cut (Lib.cut s.data.toList [43]).2.1 [120]).2.1 [58]).2.1=s2 at *
 have b2:∃ st b,Ev (fun k=>impl_readNumbers.f k s2 (⟨#[44]⟩:ByteArray)) (st,b):=by
  cases e2:rdAll (cutB 44 s2) with
  | none=>rw [e2] at n2;exact ⟨[],false,n2⟩
  | some st=>rw [e2] at n2;exact ⟨st,true,n2⟩
 obtain ⟨st,b,b2⟩:=b2
 cases e1:rdAll (cutB 44 s1) with
 | none =>
  rw [e1] at n1
  refine Ev.bind (show Ev _ (([]:List Int),false) from n1) ?_
  refine Ev.bind b2 ?_
  dsimp only
  exact Ev.congr (fun k=>by rw [if_neg (by simp)]) (zero _ _)
 | some n =>
  rw [e1] at n1
  refine Ev.bind (show Ev _ (n,true) from n1) ?_
  refine Ev.bind b2 ?_
  dsimp only
  refine Ev.congr (fun k=>by rw [if_pos rfl]) ?_
  cases b
  ·exact Ev.congr (fun k=>by rw [if_neg (by simp)]) (zero _ _)
  ·refine Ev.congr (fun k=>by rw [if_pos rfl]) ?_
   by_cases hn:n.length=3
   ·refine Ev.step (fun k=>by simp only [impl_ParseLine.j0];rw [if_neg (by simp [hn]),if_pos (by omega),if_pos (by omega),if_pos (by omega)]) ?_
    refine Ev.bind (isLine_ev _ _ _ _) ?_
    cases g:dec (GoodLine (rd n 0) (rd n 1) (rd n 2) st)
    ·simp only [Bool.false_eq_true,if_false]
     exact Ev.now _
    ·have g':=dec_iff.1 g
     simp only [if_true]
     refine Ev.bind (lineText_ev g') ?_
     refine Ev.congr (fun k=>by rw [if_neg (fun h=>H ⟨_,_,_,_,g',by rw [toList_eq s] at h;rw [← h];exact mkB_toList _⟩)]) (Ev.now _)
   ·refine Ev.congr (fun k=>by rw [show ((n.length:Int) != 3)=true from by simp;omega]) (zero _ _)
theorem qRises_l0_ev (l:List Int) (hl:l.length≤1000) (hp:l.Pairwise (· < ·)):∀ i:Int,1≤i→i≤l.length→Ev (fun k=>laws_qRises.l0 k l i) true:=by
 refine downA ?_ (fun i h0 h1 ih=>?_)
 ·exact Ev.step (fun k=>by simp only [laws_qRises.l0];rw [if_neg (by omega)]) (Ev.now _)
 ·have up:=rd_rise hp i (by omega) h1
  exact Ev.step (fun k=>by simp only [laws_qRises.l0];rw [if_pos h1,w64 (x:=i - 1) (by omega) (by omega),if_pos (by omega),if_pos (by omega),if_pos (by omega),if_neg (by omega),w64 (x:=i+1) (by omega) (by omega)]) ih
theorem qRises_ev (l:List Int) (hl:l.length≤1000) (hp:l.Pairwise (· < ·)):Ev (fun k=>laws_qRises.f k l) true:=by
 unfold laws_qRises.f
 by_cases c:1≤(l.length:Int)
 ·exact qRises_l0_ev l hl hp 1 (by omega) c
 ·exact Ev.step (fun k=>by simp only [laws_qRises.l0];rw [if_neg (by omega)]) (Ev.now _)
theorem qLine_ev (f e c:Int) (st:List Int) (h:st.length≤1000):Ev (fun k=>laws_qLine.f k f e c st f e c st) true:=by
 unfold laws_qLine.f
 simp only [if_true]
 exact Ev.bind (qSame_ev st h) (Ev.now _)
theorem onWay_mem {f e c:Int} {st:List Int} {m b:Int}:b∈onWay f e c st m↔(0≤b∧b < c)∧tat f e st b 0≤m∧m≤tat f e st b (st.length - 1):=by
 unfold onWay
 rw [List.mem_filter,decide_eq_true_iff,List.mem_map]
 constructor
 ·rintro ⟨⟨j,hj,rfl⟩,h⟩
  have:=List.mem_range.1 hj
  exact ⟨⟨by omega,by omega⟩,h⟩
 ·rintro ⟨⟨h0,h1⟩,h⟩
  exact ⟨⟨b.toNat,List.mem_range.2 (by omega),by omega⟩,h⟩
theorem onWay_strict {f e c:Int} {st:List Int} {m:Int}:(onWay f e c st m).Pairwise (· < ·):=by
 unfold onWay
 refine List.Pairwise.filter _ ?_
 rw [List.pairwise_map]
 exact List.pairwise_lt_range.imp (fun h=>by omega)
theorem wait_of {f e c:Int} {st:List Int} {s m:Int} (g:GoodLine f e c st∧StopOf st s) (hm:0≤m∧m≤2000) (h:nextB f e st s m < c):WaitR f e c st s m=(tat f e st (nextB f e st s m) s - m,true):=by
 unfold WaitR
 rcases next_cases f e c st s m with ⟨_,_,_,e⟩|⟨n,_⟩
 ·rw [e];rfl
 ·exact absurd ⟨g,hm,h⟩ n
theorem wait_bd {f e c:Int} {st:List Int} {s m:Int} (g:GoodLine f e c st∧StopOf st s) (hm:0≤m∧m≤2000) (h:nextB f e st s m < c):0≤tat f e st (nextB f e st s m) s - m∧tat f e st (nextB f e st s m) s - m≤2500:=by
 have n0:=nextB_nn f e st s m
 have tb:=tat_bd g.1 ⟨n0,h⟩ g.2
 have hi:=(nextB_iff (f:=f) (st:=st) (s:=s) (m:=m) g.1.every.1 n0).2 (Int.le_refl _)
 omega
theorem timeAt_of {f e c:Int} {st:List Int} {b s:Int} (G:GoodLine f e c st) (hs:StopOf st s) (hb:0≤b∧b < c):TimeAtR f e c st b s=(tat f e st b s,true):=by
 unfold TimeAtR
 rw [dec_true (p:=GoodLine f e c st∧StopOf st s∧0≤b∧b < c) ⟨G,hs,hb.1,hb.2⟩,if_pos rfl]
theorem u64_wrap (n:Int):IntKind.u64.wrap n=n % 18446744073709551616:=by simp [IntKind.wrap,IntKind.bits,IntKind.signed]
theorem mask255 (y:Int):0≤Go.bits .and .u64 (IntKind.u64.wrap y / 1099511627776) 255∧Go.bits .and .u64 (IntKind.u64.wrap y / 1099511627776) 255≤255:=by
 have h0:0≤IntKind.u64.wrap y / 1099511627776:=by rw [u64_wrap];omega
 have h1:IntKind.u64.wrap y / 1099511627776 < 2 ^ 24:=by rw [u64_wrap];omega
 have e:=Go.bits_mask .u64 24 (by decide) (fun n a b=>by rw [u64_wrap];omega) 8 (by decide) (IntKind.u64.wrap y / 1099511627776) h0 h1
 rw [show (255:Int)=2 ^ 8 - 1 by decide,e]
 omega
def Bytes (code:List Int):Prop:=code.length≤1048576∧∀ x,x∈code→0≤x∧x≤255
theorem bytes_of {code:List Int} (hl:code.length≤1048576) (h:∀ x,x∈code→(Lit.int .u8 x).wf=true):Bytes code:=by
 refine ⟨hl,fun x hx=>?_⟩
 have:=h x hx
 simp only [Lit.wf,IntKind.min,IntKind.max,IntKind.signed,IntKind.bits,Bool.and_eq_true,decide_eq_true_eq] at this
 simp at this
 omega
theorem next_ok {code:List Int} (hc:Bytes code) (p s:Int) (h0:0≤p) (h1:p≤1000000000):∃ x s',spec_l1Cur_next.f code p s=some (x,p+1,s')∧0≤x∧x≤255:=by
 unfold spec_l1Cur_next.f
 have hw:wrap64 (p+1)=p+1:=w64 (by omega) (by omega)
 rw [hw]
 by_cases c:p < (code.length:Int)
 ·rw [if_pos c,if_pos h0]
  obtain ⟨b0,b1⟩:=hc.2 (rd code p) (get_mem code 0 p h0 c)
  rw [if_pos (by omega),w64 (x:=rd code p) (by omega) (by omega)]
  exact ⟨_,_,rfl,b0,b1⟩
 ·rw [if_neg c]
  by_cases c2:p+1≤(code.length:Int)
  ·omega
  ·rw [if_neg c2]
   have m:=mask255 (IntKind.u64.wrap (IntKind.u64.wrap (s*6364136223846793005))+1442695040888963407)
   rw [w64 (by omega) (by omega)]
   exact ⟨_,_,rfl,m.1,m.2⟩
theorem pick_ok {code:List Int} (hc:Bytes code) (p s n:Int) (h0:0≤p) (h1:p≤999999990) (hn:n≤1000000000):∃ x p' s',spec_l1Cur_pick.f code p s n=some (x,p',s')∧0≤x∧(1≤n→x < n)∧x≤1000000000∧p≤p'∧p'≤p+2:=by
 unfold spec_l1Cur_pick.f
 by_cases c:n≤1
 ·rw [if_pos c]
  exact ⟨0,p,s,rfl,by omega,by omega,by omega,by omega,by omega⟩
 ·rw [if_neg c]
  obtain ⟨x,s1,e1,x0,x1⟩:=next_ok hc p s h0 (by omega)
  rw [e1]
  simp only [Option.bind_some]
  have tm:∀ y:Int,0≤y→0≤Int.tmod y n∧Int.tmod y n < n:=by
   intro y hy
   rw [Int.tmod_eq_emod_of_nonneg hy]
   exact ⟨Int.emod_nonneg _ (by omega),Int.emod_lt_of_pos _ (by omega)⟩
  by_cases c2:n > 200
  ·rw [if_pos c2]
   obtain ⟨y,s2,e2,y0,y1⟩:=next_ok hc (p+1) s1 (by omega) (by omega)
   rw [e2]
   simp only [Option.bind_some]
   rw [if_neg (by omega),w64 (x:=x*256) (by omega) (by omega),w64 (x:=x*256+y) (by omega) (by omega)]
   have:=tm (x*256+y) (by omega)
   exact ⟨_,_,_,rfl,this.1,fun _=>this.2,by omega,by omega,by omega⟩
  ·rw [if_neg c2,if_neg (by omega)]
   have:=tm x (by omega)
   exact ⟨_,_,_,rfl,this.1,fun _=>this.2,by omega,by omega,by omega⟩
theorem among_ok {code:List Int} (hc:Bytes code) (p s:Int) (l:List Int) (h0:0≤p) (h1:p≤999999990) (hl:0 < l.length) (hl2:l.length≤1000):∃ x p' s',spec_l1Cur_among.f code p s l=some (x,p',s')∧x∈l∧p≤p'∧p'≤p+2:=by
 obtain ⟨x,p',s',e,x0,x1,_,p0,p1⟩:=pick_ok hc p s l.length h0 h1 (by omega)
 have x1:=x1 (by omega)
 unfold spec_l1Cur_among.f
 rw [e]
 simp only [Option.bind_some]
 rw [if_pos x0,if_pos x1]
 exact ⟨_,_,_,rfl,get_mem l 0 x x0 x1,p0,p1⟩
theorem one_ok {code:List Int} (hc:Bytes code) (p s n:Int) (h0:0≤p) (h1:p≤999999990) (hn:n≤1000000000):∃ x p' s',spec_l1Cur_one.f code p s n=some (x,p',s')∧p≤p'∧p'≤p+2:=by
 obtain ⟨x,p',s',e,x0,x1,_,p0,p1⟩:=pick_ok hc p s n h0 h1 hn
 unfold spec_l1Cur_one.f
 rw [e]
 exact ⟨_,_,_,rfl,p0,p1⟩
theorem rd_snoc_l (l:List Int) (y i:Int) (h0:0≤i) (h1:i < l.length):rd (l ++ [y]) i=rd l i:=by
 unfold rd
 rw [List.getD_eq_getElem?_getD,List.getD_eq_getElem?_getD,List.getElem?_append_left (by omega)]
theorem rd_snoc_r (l:List Int) (y i:Int) (h:i=l.length):rd (l ++ [y]) i=y:=by
 subst h
 unfold rd
 simp
theorem sureLine_l0_ok {code:List Int} (hc:Bytes code) (f e c:Int):∀ (d:Nat) (x:Int) (acc:List Int) (p s:Int),d≤4→1≤(acc.length:Int)→acc.length+d≤5→rd acc 0=0→(∀ i:Int,1≤i→i < acc.length→rd acc (i - 1) < rd acc i)→rd acc (acc.length - 1)=x→0≤x→x+9*d≤36→0≤p→p+4*d≤999999000→∃ r p' s',Ev (fun k=>spec_l1Cur_sureLine.l0 k x (d:Int) code p s f e c acc) (f,e,c,r,p',s')∧r.length=acc.length+d∧rd r 0=0∧(∀ i:Int,1≤i→i < r.length→rd r (i - 1) < rd r i)∧rd r (r.length - 1)≤36∧p≤p'∧p'≤p+4*d:=by
 intro d
 induction d with
 | zero =>
  intro x acc p s _ ha hk z up la x0 x1 h0 h1
  exact ⟨acc,p,s,Ev.step (fun k=>by simp only [spec_l1Cur_sureLine.l0];rw [if_neg (by omega)]) (Ev.now _),by omega,z,up,by omega,by omega,by omega⟩
 | succ d ih =>
  intro x acc p s hd ha hk z up la x0 x1 h0 h1
  obtain ⟨y,p1,s1,e1,y0,y1,_,q0,q1⟩:=pick_ok hc p s 9 h0 (by omega) (by omega)
  have y1:=y1 (by omega)
  have w:wrap64 (x+wrap64 (1+y))=x+(1+y):=by rw [w64 (x:=1+y) (by omega) (by omega),w64 (by omega) (by omega)]
  have hlen:(acc ++ [x+(1+y)]).length=acc.length+1:=by simp
  obtain ⟨r,p',s',e,a,b,g,t,u,v⟩:=ih (x+(1+y)) (acc ++ [x+(1+y)]) p1 s1 (by omega) (by omega) (by omega) (by rw [rd_snoc_l _ _ _ (by omega) (by omega)];exact z) (fun i i0 i1=>by
   by_cases q:i < acc.length
   ·rw [rd_snoc_l _ _ _ (by omega) (by omega),rd_snoc_l _ _ _ (by omega) q]
    exact up i i0 q
   ·rw [rd_snoc_l _ _ _ (by omega) (by omega),rd_snoc_r _ _ i (by omega),show i - 1=(acc.length:Int) - 1 by omega,la]
    omega) (rd_snoc_r _ _ _ (by omega)) (by omega) (by omega) (by omega) (by omega)
  refine ⟨r,p',s',?_,by omega,b,g,t,by omega,by omega⟩
  refine Ev.step (fun k=>by simp only [spec_l1Cur_sureLine.l0];rw [if_pos (by omega),e1,Option.bind_some,if_pos (show acc.length < 17592186044416 by omega),w,w64 (x:=((d+1:Nat):Int) - 1) (by omega) (by omega),show ((d+1:Nat):Int) - 1=d by omega]) e
theorem sureLine_ok {code:List Int} (hc:Bytes code) (p s:Int) (h0:0≤p) (h1:p≤999998000):∃ f e c st p' s',Ev (fun k=>spec_l1Cur_sureLine.f k code p s) (f,e,c,st,p',s')∧GoodLine f e c st∧(st.length:Int)≤5∧p≤p'∧p'≤p+30:=by
 obtain ⟨f,p1,s1,e1,f0,f1,_,q0,q1⟩:=pick_ok hc p s 40 h0 (by omega) (by omega)
 obtain ⟨e,p2,s2,e2,g0,g1,_,q2,q3⟩:=pick_ok hc p1 s1 20 (by omega) (by omega) (by omega)
 obtain ⟨c,p3,s3,e3,c0,c1,_,q4,q5⟩:=pick_ok hc p2 s2 6 (by omega) (by omega) (by omega)
 obtain ⟨n,p4,s4,e4,n0,n1,_,q6,q7⟩:=pick_ok hc p3 s3 4 (by omega) (by omega) (by omega)
 have f1:=f1 (by omega)
 have g1:=g1 (by omega)
 have c1:=c1 (by omega)
 have n1:=n1 (by omega)
 obtain ⟨d,hd⟩:∃ d:Nat,1+n=d:=⟨(1+n).toNat,by omega⟩
 obtain ⟨r,p',s',e5,a,b,g,t,u,v⟩:=sureLine_l0_ok hc f (1+e) (1+c) d 0 [0] p4 s4 (by omega) (by simp) (by simp;omega) rfl (fun i i0 i1=>by simp at i1;omega) rfl (by omega) (by omega) (by omega) (by omega)
 simp only [List.length_cons,List.length_nil] at a
 have m:=mul_bd (A:=5) (B:=20) (by omega:0≤1+c - 1) (by omega) (by omega:0≤1+e) (by omega)
 refine ⟨f,1+e,1+c,r,p',s',?_,⟨by omega,by omega,by omega,by omega,by omega,b,g,by omega⟩,by omega,by omega,by omega⟩
 unfold spec_l1Cur_sureLine.f
 refine Ev.congr (fun k=>by rw [e1,Option.bind_some,e2,Option.bind_some,e3,Option.bind_some,e4,Option.bind_some,w64 (x:=1+n) (by omega) (by omega),w64 (x:=1+e) (by omega) (by omega),w64 (x:=1+c) (by omega) (by omega),hd]) e5
theorem line_ok {code:List Int} (hc:Bytes code) (p s:Int) (h0:0≤p) (h1:p≤999997000):∃ f e c st p' s',Ev (fun k=>spec_l1Cur_line.f k code p s) (f,e,c,st,p',s')∧1≤(st.length:Int)∧(st.length:Int)≤6∧p≤p'∧p'≤p+40:=by
 obtain ⟨f,e,c,st,p1,s1,e1,G,hl,q0,q1⟩:=sureLine_ok hc p s h0 (by omega)
 have hl2:=G.stops
 obtain ⟨x,p2,s2,e2,x0,x1,_,q2,q3⟩:=pick_ok hc p1 s1 20 (by omega) (by omega) (by omega)
 unfold spec_l1Cur_line.f
 by_cases a0:x=0
 ·obtain ⟨y,p3,s3,e3,_,q4,q5⟩:=among_ok hc p2 s2 [(-1),0,2000,2001,4611686018427387904] (by omega) (by omega) (by simp) (by simp)
  exact ⟨y,e,c,st,p3,s3,Ev.bind e1 (Ev.congr (fun k=>by dsimp only;rw [e2,Option.bind_some,if_pos a0,e3,Option.bind_some]) (Ev.now _)),by omega,by omega,by omega,by omega⟩
 by_cases a1:x=1
 ·obtain ⟨y,p3,s3,e3,_,q4,q5⟩:=among_ok hc p2 s2 [(-1),0,1,2000,2001,4611686018427387904] (by omega) (by omega) (by simp) (by simp)
  exact ⟨f,y,c,st,p3,s3,Ev.bind e1 (Ev.congr (fun k=>by dsimp only;rw [e2,Option.bind_some,if_neg a0,if_pos a1,e3,Option.bind_some]) (Ev.now _)),by omega,by omega,by omega,by omega⟩
 by_cases a2:x=2
 ·obtain ⟨y,p3,s3,e3,_,q4,q5⟩:=among_ok hc p2 s2 [(-1),0,1,60,61,4611686018427387904] (by omega) (by omega) (by simp) (by simp)
  exact ⟨f,e,y,st,p3,s3,Ev.bind e1 (Ev.congr (fun k=>by dsimp only;rw [e2,Option.bind_some,if_neg a0,if_neg a1,if_pos a2,e3,Option.bind_some]) (Ev.now _)),by omega,by omega,by omega,by omega⟩
 by_cases a3:x=3
 ·obtain ⟨y,p3,s3,e3,_,q4,q5⟩:=among_ok hc p2 s2 [(-1),0,3,500,501,4611686018427387904] (by omega) (by omega) (by simp) (by simp)
  exact ⟨f,e,c,st ++ [y],p3,s3,Ev.bind e1 (Ev.congr (fun k=>by dsimp only;rw [e2,Option.bind_some,if_neg a0,if_neg a1,if_neg a2,if_pos a3,e3,Option.bind_some,if_pos (show st.length < 17592186044416 by omega)]) (Ev.now _)),by simp;omega,by simp;omega,by omega,by omega⟩
 by_cases a4:x=4
 ·have ht:(st.take (1:Int).toNat).length=1:=by rw [List.length_take];omega
  exact ⟨f,e,c,st.take (1:Int).toNat,p2,s2,Ev.bind e1 (Ev.congr (fun k=>by dsimp only;rw [e2,Option.bind_some,if_neg a0,if_neg a1,if_neg a2,if_neg a3,if_pos a4,if_pos (show 1≤(st.length:Int) by omega)]) (Ev.now _)),by omega,by omega,by omega,by omega⟩
 ·exact ⟨f,e,c,st,p2,s2,Ev.bind e1 (Ev.congr (fun k=>by dsimp only;rw [e2,Option.bind_some,if_neg a0,if_neg a1,if_neg a2,if_neg a3,if_neg a4]) (Ev.now _)),by omega,by omega,by omega,by omega⟩
theorem stop_ok {code:List Int} (hc:Bytes code) (p s:Int) (h0:0≤p) (h1:p≤999999900):∃ x p' s',spec_l1Cur_stop.f code p s=some (x,p',s')∧p≤p'∧p'≤p+4:=by
 obtain ⟨x,p1,s1,e1,x0,x1,_,q0,q1⟩:=pick_ok hc p s 4 h0 (by omega) (by omega)
 obtain ⟨y,p2,s2,e2,y0,y1,_,q2,q3⟩:=pick_ok hc p1 s1 9 (by omega) (by omega) (by omega)
 exact ⟨_,p2,s2,by unfold spec_l1Cur_stop.f;rw [e1,Option.bind_some,e2,Option.bind_some],by omega,by omega⟩
theorem minute_ok {code:List Int} (hc:Bytes code) (p s:Int) (h0:0≤p) (h1:p≤999999900):∃ x p' s',spec_l1Cur_minute.f code p s=some (x,p',s')∧p≤p'∧p'≤p+4:=by
 obtain ⟨o,p1,s1,e1,q0,q1⟩:=one_ok hc p s 10 h0 (by omega) (by omega)
 unfold spec_l1Cur_minute.f
 cases o with
 | true =>
  obtain ⟨y,p3,s3,e3,_,q4,q5⟩:=among_ok hc p1 s1 [(-1),0,1,2000,2001,4611686018427387904] (by omega) (by omega) (by simp) (by simp)
  exact ⟨y,p3,s3,by rw [e1,Option.bind_some,if_pos rfl,e3];rfl,by omega,by omega⟩
 | false =>
  obtain ⟨y,p3,s3,e3,_,_,_,q4,q5⟩:=pick_ok hc p1 s1 120 (by omega) (by omega) (by omega)
  exact ⟨y,p3,s3,by rw [e1,Option.bind_some,if_neg (by simp),e3];rfl,by omega,by omega⟩
theorem strOne_size (n:Int):(strOfNums [n]).size=1:=by
 unfold strOfNums
 simp [ByteArray.size]
theorem spoilt_l0_ev {code:List Int} (hc:Bytes code) (x2:ByteArray) (g1:1≤x2.size) (g2:x2.size≤1000):∀ (d:Nat) (x1:ByteArray) (p s:Int),d≤2→x1.size+d≤1000000→0≤p→p+6*d≤999999000→∃ r p' s',Ev (fun k=>spec_l1Cur_spoilt.l0 k x1 x2 (d:Int) code p s) (r,p',s')∧r.size≤x1.size+d∧p≤p'∧p'≤p+6*d:=by
 intro d
 induction d with
 | zero =>
  intro x1 p s _ hx h0 h1
  refine ⟨x1,p,s,?_,by omega,by omega,by omega⟩
  refine Ev.step (fun k=>by simp only [spec_l1Cur_spoilt.l0];rw [if_neg (by omega)]) ?_
  exact Ev.step (fun k=>by simp only [spec_l1Cur_spoilt.j1,Bool.false_eq_true,if_false]) (Ev.now _)
 | succ d ih =>
  intro x1 p s hd hx h0 h1
  by_cases c:(x1.size:Int) > 0
  ·obtain ⟨i,p1,s1,e1,i0,i1,_,q0,q1⟩:=pick_ok hc p s x1.size h0 (by omega) (by omega)
   obtain ⟨q,p2,s2,e2,j0,j1,_,q2,q3⟩:=pick_ok hc p1 s1 x2.size (by omega) (by omega) (by omega)
   obtain ⟨z,p3,s3,e3,z0,z1,_,q4,q5⟩:=pick_ok hc p2 s2 3 (by omega) (by omega) (by omega)
   have i1:=i1 (by omega)
   have j1:=j1 (by omega)
   have wi:wrap64 (i+1)=i+1:=w64 (by omega) (by omega)
   have wd:wrap64 (((d+1:Nat):Int) - 1)=(d:Int):=by rw [w64 (by omega) (by omega)];omega
   have sa:(x1.extract 0 i.toNat).size≤i.toNat:=by rw [ByteArray.size_extract];omega
   have sb:(x1.extract i.toNat x1.size).size≤x1.size - i.toNat:=by rw [ByteArray.size_extract];omega
   have sc:(x1.extract (i+1).toNat x1.size).size≤x1.size - (i+1).toNat:=by rw [ByteArray.size_extract];omega
   have so:=strOne_size (bt x2 q)
   have hi:i≤(x1.size:Int):=by omega
   have hj:i+1≤(x1.size:Int):=by omega
   have hk:(0:Int)≤i+1:=by omega
   have u1:(x1.extract 0 i.toNat).size+(strOfNums [bt x2 q]).size≤9223372036854775807:=by omega
   have u2:((x1.extract 0 i.toNat) ++ (strOfNums [bt x2 q])).size+(x1.extract i.toNat x1.size).size≤9223372036854775807:=by rw [ByteArray.size_append];omega
   have u3:((x1.extract 0 i.toNat) ++ (strOfNums [bt x2 q])).size+(x1.extract (i+1).toNat x1.size).size≤9223372036854775807:=by rw [ByteArray.size_append];omega
   have u4:(x1.extract 0 i.toNat).size+(x1.extract (i+1).toNat x1.size).size≤9223372036854775807:=by omega
   by_cases y0:z=0
   ·obtain ⟨r,p',s',e,a,b,g⟩:=ih (((x1.extract 0 i.toNat) ++ (strOfNums [bt x2 q])) ++ (x1.extract i.toNat x1.size)) p3 s3 (by omega) (by rw [ByteArray.size_append,ByteArray.size_append];omega) (by omega) (by omega)
    rw [ByteArray.size_append,ByteArray.size_append] at a
    refine ⟨r,p',s',?_,by omega,by omega,by omega⟩
    refine Ev.step (fun k=>by simp only [spec_l1Cur_spoilt.l0];rw [if_pos (by omega),decide_eq_true c]) ?_
    refine Ev.step (fun k=>by simp only [spec_l1Cur_spoilt.j1,if_true];rw [e1,Option.bind_some,e2,Option.bind_some,if_pos j0,if_pos j1,Option.bind_some,e3,Option.bind_some,if_pos y0,if_pos i0,if_pos hi,if_pos u1,if_pos u2,wd]) e
   ·by_cases y1:z=1
    ·obtain ⟨r,p',s',e,a,b,g⟩:=ih (((x1.extract 0 i.toNat) ++ (strOfNums [bt x2 q])) ++ (x1.extract (i+1).toNat x1.size)) p3 s3 (by omega) (by rw [ByteArray.size_append,ByteArray.size_append];omega) (by omega) (by omega)
     rw [ByteArray.size_append,ByteArray.size_append] at a
     refine ⟨r,p',s',?_,by omega,by omega,by omega⟩
     refine Ev.step (fun k=>by simp only [spec_l1Cur_spoilt.l0];rw [if_pos (by omega),decide_eq_true c]) ?_
     refine Ev.step (fun k=>by simp only [spec_l1Cur_spoilt.j1,if_true];rw [e1,Option.bind_some,e2,Option.bind_some,if_pos j0,if_pos j1,Option.bind_some,e3,Option.bind_some,if_neg y0,if_pos y1,if_pos i0,if_pos hi,if_pos u1,wi,if_pos hk,if_pos hj,if_pos u3,wd]) e
    ·obtain ⟨r,p',s',e,a,b,g⟩:=ih ((x1.extract 0 i.toNat) ++ (x1.extract (i+1).toNat x1.size)) p3 s3 (by omega) (by rw [ByteArray.size_append];omega) (by omega) (by omega)
     rw [ByteArray.size_append] at a
     refine ⟨r,p',s',?_,by omega,by omega,by omega⟩
     refine Ev.step (fun k=>by simp only [spec_l1Cur_spoilt.l0];rw [if_pos (by omega),decide_eq_true c]) ?_
     refine Ev.step (fun k=>by simp only [spec_l1Cur_spoilt.j1,if_true];rw [e1,Option.bind_some,e2,Option.bind_some,if_pos j0,if_pos j1,Option.bind_some,e3,Option.bind_some,if_neg y0,if_neg y1,if_pos i0,if_pos hi,wi,if_pos hk,if_pos hj,if_pos u4,wd]) e
  ·refine ⟨x1,p,s,?_,by omega,by omega,by omega⟩
   refine Ev.step (fun k=>by simp only [spec_l1Cur_spoilt.l0];rw [if_pos (by omega),decide_eq_false c]) ?_
   exact Ev.step (fun k=>by simp only [spec_l1Cur_spoilt.j1,Bool.false_eq_true,if_false]) (Ev.now _)
theorem spoilt_ev {code:List Int} (hc:Bytes code) (x1 x2:ByteArray) (p s:Int) (g0:x1.size≤900000) (g1:1≤x2.size) (g2:x2.size≤1000) (h0:0≤p) (h1:p≤999990000):∃ r p' s',Ev (fun k=>spec_l1Cur_spoilt.f k code p s x1 x2) (r,p',s')∧r.size≤x1.size+2:=by
 obtain ⟨z,p1,s1,e1,z0,z1,_,q0,q1⟩:=pick_ok hc p s 2 h0 (by omega) (by omega)
 have z1:=z1 (by omega)
 obtain ⟨d,hd⟩:∃ d:Nat,1+z=d:=⟨(1+z).toNat,by omega⟩
 obtain ⟨r,p',s',e,a,b,g⟩:=spoilt_l0_ev hc x2 g1 g2 d x1 p1 s1 (by omega) (by omega) (by omega) (by omega)
 refine ⟨r,p',s',?_,by omega⟩
 unfold spec_l1Cur_spoilt.f
 exact Ev.congr (fun k=>by rw [e1,Option.bind_some,w64 (x:=1+z) (by omega) (by omega),hd]) e
theorem drawNext_ev {code:List Int} (hc:Bytes code):∃ (f e c:Int) (st:List Int) (a b:Int),Ev (fun k=>spec_DrawNextBus.f k code) (f,e,c,st,a,b)∧(st.length:Int)≤6:=by
 obtain ⟨f,e,c,st,p1,s1,e1,l1,l2,q0,q1⟩:=line_ok hc 0 0 (by omega) (by omega)
 obtain ⟨a,p2,s2,e2,q2,q3⟩:=stop_ok hc p1 s1 (by omega) (by omega)
 obtain ⟨b,p3,s3,e3,q4,q5⟩:=minute_ok hc p2 s2 (by omega) (by omega)
 refine ⟨f,e,c,st,a,b,?_,l2⟩
 unfold spec_DrawNextBus.f spec_DrawNextBus.i.f
 refine Ev.bind (Ev.bind e1 (Ev.congr (fun k=>by dsimp only;rw [e2,Option.bind_some,e3,Option.bind_some]) (Ev.now _))) (Ev.now _)
theorem drawLast_ev {code:List Int} (hc:Bytes code):∃ (f e c:Int) (st:List Int) (a b d:Int),Ev (fun k=>spec_DrawLastBusBy.f k code) (f,e,c,st,a,b,d):=by
 obtain ⟨a,p1,s1,e1,q0,q1⟩:=stop_ok hc 0 0 (by omega) (by omega)
 obtain ⟨f,e,c,st,p2,s2,e2,l1,l2,q2,q3⟩:=line_ok hc p1 s1 (by omega) (by omega)
 obtain ⟨x,p3,s3,e3,_,_,_,q4,q5⟩:=pick_ok hc p2 s2 3 (by omega) (by omega) (by omega)
 obtain ⟨y,p4,s4,e4,_,_,_,q6,q7⟩:=pick_ok hc p3 s3 2 (by omega) (by omega) (by omega)
 obtain ⟨d,p5,s5,e5,q8,q9⟩:=minute_ok hc p4 s4 (by omega) (by omega)
 refine ⟨f,e,c,st,a,wrap64 (wrap64 (a+x)+y),d,?_⟩
 unfold spec_DrawLastBusBy.f spec_DrawLastBusBy.i.f
 refine Ev.bind (Ev.congr (fun k=>by rw [e1,Option.bind_some]) (Ev.bind e2 (Ev.congr (fun k=>by dsimp only;rw [e3,Option.bind_some,e4,Option.bind_some,e5,Option.bind_some]) (Ev.now _)))) (Ev.now _)
theorem drawMean_ev {code:List Int} (hc:Bytes code):∃ (f e c:Int) (st:List Int) (a b d:Int),Ev (fun k=>spec_DrawMeanWait.f k code) (f,e,c,st,a,b,d):=by
 obtain ⟨f,e,c,st,p1,s1,e1,l1,l2,q0,q1⟩:=line_ok hc 0 0 (by omega) (by omega)
 obtain ⟨b,p2,s2,e2,q2,q3⟩:=minute_ok hc p1 s1 (by omega) (by omega)
 obtain ⟨a,p3,s3,e3,q4,q5⟩:=stop_ok hc p2 s2 (by omega) (by omega)
 obtain ⟨x,p4,s4,e4,_,_,_,q6,q7⟩:=pick_ok hc p3 s3 30 (by omega) (by omega) (by omega)
 obtain ⟨y,p5,s5,e5,_,_,_,q8,q9⟩:=pick_ok hc p4 s4 9 (by omega) (by omega) (by omega)
 refine ⟨f,e,c,st,a,b,wrap64 (wrap64 (b+x) - wrap64 (Int.tdiv y 8)),?_⟩
 unfold spec_DrawMeanWait.f spec_DrawMeanWait.i.f
 refine Ev.bind (Ev.bind e1 (Ev.congr (fun k=>by dsimp only;rw [e2,Option.bind_some,e3,Option.bind_some,e4,Option.bind_some,e5,Option.bind_some]) (Ev.now _))) (Ev.now _)
theorem drawWhere_ev {code:List Int} (hc:Bytes code):∃ (f e c:Int) (st:List Int) (a b:Int),Ev (fun k=>spec_DrawWhereIsBus.f k code) (f,e,c,st,a,b):=by
 obtain ⟨f,e,c,st,p1,s1,e1,l1,l2,q0,q1⟩:=line_ok hc 0 0 (by omega) (by omega)
 obtain ⟨x,p4,s4,e4,_,_,_,q6,q7⟩:=pick_ok hc p1 s1 6 (by omega) (by omega) (by omega)
 obtain ⟨y,p5,s5,e5,_,_,_,q8,q9⟩:=pick_ok hc p4 s4 9 (by omega) (by omega) (by omega)
 obtain ⟨b,p2,s2,e2,q2,q3⟩:=minute_ok hc p5 s5 (by omega) (by omega)
 refine ⟨f,e,c,st,wrap64 (x - wrap64 (Int.tdiv y 8)),b,?_⟩
 unfold spec_DrawWhereIsBus.f spec_DrawWhereIsBus.i.f
 refine Ev.bind (Ev.bind e1 (Ev.congr (fun k=>by dsimp only;rw [e4,Option.bind_some,e5,Option.bind_some,e2,Option.bind_some]) (Ev.now _))) (Ev.now _)
theorem drawTimeAt_ev {code:List Int} (hc:Bytes code):∃ (f e c:Int) (st:List Int) (a b:Int),Ev (fun k=>spec_DrawTimeAtStop.f k code) (f,e,c,st,a,b):=by
 obtain ⟨f,e,c,st,p1,s1,e1,l1,l2,q0,q1⟩:=line_ok hc 0 0 (by omega) (by omega)
 obtain ⟨x,p4,s4,e4,_,_,_,q6,q7⟩:=pick_ok hc p1 s1 6 (by omega) (by omega) (by omega)
 obtain ⟨y,p5,s5,e5,_,_,_,q8,q9⟩:=pick_ok hc p4 s4 9 (by omega) (by omega) (by omega)
 obtain ⟨b,p2,s2,e2,q2,q3⟩:=stop_ok hc p5 s5 (by omega) (by omega)
 refine ⟨f,e,c,st,wrap64 (x - wrap64 (Int.tdiv y 8)),b,?_⟩
 unfold spec_DrawTimeAtStop.f spec_DrawTimeAtStop.i.f
 refine Ev.bind (Ev.bind e1 (Ev.congr (fun k=>by dsimp only;rw [e4,Option.bind_some,e5,Option.bind_some,e2,Option.bind_some]) (Ev.now _))) (Ev.now _)
theorem GoodLine.text_len {f e c:Int} {st:List Int} (g:GoodLine f e c st):(lineT f e c st).length≤20000:=by
 have a:=g.head_len
 have b:=g.joinT_len (st.map Lib.itoa).length
 rw [List.take_of_length_le (Nat.le_refl _)] at b
 unfold lineT
 rw [List.length_append]
 omega
theorem drawParse_ev {code:List Int} (hc:Bytes code):∃ t:ByteArray,Ev (fun k=>spec_DrawParseLine.f k code) t∧t.size≤1048576:=by
 obtain ⟨f,e,c,st,p1,s1,e1,G,l1,q0,q1⟩:=sureLine_ok hc 0 0 (by omega) (by omega)
 obtain ⟨o,p2,s2,e2,q2,q3⟩:=one_ok hc p1 s1 3 (by omega) (by omega) (by omega)
 have hr:=buText_ev G
 have hz:((⟨(lineT f e c st).toArray⟩:ByteArray)).size≤20000:=by rw [ba_size];exact G.text_len
 unfold spec_DrawParseLine.f spec_DrawParseLine.i.f
 cases o with
 | true =>
  obtain ⟨r,p',s',e3,hr2⟩:=spoilt_ev hc (⟨(lineT f e c st).toArray⟩:ByteArray) (⟨#[48,49,50,51,43,120,58,44]⟩:ByteArray) p2 s2 (by omega) (by decide) (by decide) (by omega) (by omega)
  refine ⟨r,?_,by omega⟩
  refine Ev.bind (Ev.bind e1 (Ev.bind hr (Ev.congr (fun k=>by dsimp only;rw [e2,Option.bind_some,if_pos rfl]) (Ev.bind e3 (Ev.now _))))) (Ev.now _)
 | false =>
  refine ⟨(⟨(lineT f e c st).toArray⟩:ByteArray),?_,by omega⟩
  refine Ev.bind (Ev.bind e1 (Ev.bind hr (Ev.congr (fun k=>by dsimp only;rw [e2,Option.bind_some,if_neg (by simp)]) (Ev.now _)))) (Ev.now _)
theorem specIs_ev (f e c:Int) (st:List Int):Ev (fun k=>spec_IsLine.f k f e c st) (dec (GoodLine f e c st)):=by
 unfold spec_IsLine.f
 exact Ev.bind (buGood_ev f e c st) (Ev.now _)
def ReadP (s:ByteArray) (f e c:Int) (st:List Int) (b:Bool):Prop:=b=true→LineOf s f e c st
theorem text_ev {s:ByteArray} {f e c:Int} {st:List Int} {b:Bool} (h:ReadP s f e c st b):Ev (fun k=>if b=true then ((impl_LineText.f k f e c st).bind fun bt=>(if bt.2=true then (some (bt.1.toList == s.toList)) else (some false))) else (some true)) true:=by
 cases b with
 | false=>exact Ev.congr (fun k=>by rw [if_neg (by simp)]) (Ev.now _)
 | true =>
  have L:=h rfl
  refine Ev.congr (fun k=>by rw [if_pos rfl]) (Ev.bind (lineText_impl_ev f e c st) ?_)
  rw [dec_true L.good]
  simp only [if_true]
  have e1:((⟨(lineT f e c st).toArray⟩:ByteArray).toList == s.toList)=true:=by
   rw [toList_eq s,L.text,beq_iff_eq]
   exact mkB_toList _
  rw [e1]
  exact Ev.now _
theorem parse_full (s:ByteArray) (hs:s.size≤1048576):∃ (f e c:Int) (st:List Int) (b:Bool),st.length≤12∧Ev (fun k=>spec_ParseLine.f k s) (f,e,c,st,b)∧Ev (fun k=>impl_ParseLine.f k s) (f,e,c,st,b)∧ReadP s f e c st b:=by
 by_cases H:∃ f e c st,LineOf s f e c st
 ·obtain ⟨f,e,c,st,h⟩:=H
  have:=h.good.stops
  exact ⟨f,e,c,st,true,by omega,spec_line_yes s f e c st h,impl_line_yes s f e c st h,fun _=>h⟩
 ·exact ⟨0,0,0,[],false,by simp,spec_line_no s hs H,impl_line_no s hs H,fun h=>by cases h⟩
def MeanP (f e c:Int) (st:List Int) (s a t:Int) (r:Int × Int × Bool):Prop:=r=(0,0,false)∨((GoodLine f e c st∧StopOf st s)∧0≤a∧a < t∧t≤2000∧(∀ j,a≤j→j < t→nextB f e st s j < c)∧r=((lo (waits f e st s a (t - a).toNat) (t - a)).1,(lo (waits f e st s a (t - a).toNat) (t - a)).2,true))
section
variable {s:ByteArray} {f' e' c':Int} {st':List Int} {b:Bool} (hT:Ev (fun k=>if b=true then ((impl_LineText.f k f' e' c' st').bind fun bt=>(if bt.2=true then (some (bt.1.toList == s.toList)) else (some false))) else (some true)) true)
include hT
theorem l1_ev {f e c:Int} {st:List Int} {k:Int} (g:GoodLine f e c st∧StopOf st k) {x y:Int} (hx:0≤x) (hxy:x < y) (hy:y≤2000) (hn:∀ j,x≤j→j < y→nextB f e st k j < c):∀ i:Int,x≤i→i≤y→∀ u:Int,0≤u→u≤2500*(i - x)→u+waits f e st k i (y - i).toNat=waits f e st k x (y - x).toNat→Ev (fun n=>lw_.l1 n k x y (lo (waits f e st k x (y - x).toNat) (y - x)).1 (lo (waits f e st k x (y - x).toNat) (y - x)).2 s b u i f e c st f' e' c' st') true:=by
 refine downA (fun u h0 h1 hw=>?_) (fun i h0 h1 ih u hu hu2 hw=>?_)
 ·rw [show (y - y).toNat=0 by omega] at hw
  simp only [waits,Int.add_zero] at hw
  rw [← hw]
  refine Ev.step (fun k=>by simp only [lw_.l1];rw [if_neg (by omega),w64 (x:=y - x) (by omega) (by omega)]) ?_
  refine Ev.bind (qIs_lo (show 0 < y - x by omega) h0) ?_
  simp only [if_true]
  exact hT
 ·have h:=hn i h0 h1
  have wb:=wait_bd g (m:=i) (by omega) h
  have ew:waits f e st k i (y - i).toNat=(tat f e st (nextB f e st k i) k - i)+waits f e st k (i+1) (y - (i+1)).toNat:=by
   rw [show (y - i).toNat=(y - (i+1)).toNat+1 by omega]
   rfl
  rw [ew] at hw
  have ih:=ih (u+(tat f e st (nextB f e st k i) k - i)) (by omega) (by omega) (by omega)
  refine Ev.step (fun k=>by simp only [lw_.l1];rw [if_pos h1]) ?_
  refine Ev.bind (implWait_ev f e c st k i) ?_
  rw [wait_of g (show 0≤i∧i≤2000 by omega) h]
  simp only [if_true,w64 (x:=i+1) (by omega) (by omega),w64 (x:=u+(tat f e st (nextB f e st k i) k - i)) (by omega) (by omega)]
  exact ih
theorem j10_ev {f e c:Int} {st:List Int} {k x y:Int} {r:Int × Int × Bool} (h:MeanP f e c st k x y r):Ev (fun n=>lw_.j10 n k x y r.1 r.2.1 r.2.2 s b f e c st f' e' c' st') true:=by
 rcases h with rfl|⟨g,hx,hxy,hy,hn,rfl⟩
 ·exact Ev.step (fun k=>by simp only [lw_.j10,Bool.false_eq_true,if_false]) hT
 ·exact Ev.step (fun k=>by simp only [lw_.j10,if_true]) (l1_ev hT g hx hxy hy hn x (Int.le_refl _) (Int.le_of_lt hxy) 0 (by omega) (by omega) (by omega))
end
section
variable {k x y num den:Int} {th:Bool} {s:ByteArray} {b:Bool} {f e c:Int} {st:List Int} {f' e' c':Int} {st':List Int} {m0 m1 m2:Int} {m3:List Int} {u t by_:Int} (hT:Ev (fun n=>lw_.j10 n k x y num den th s b f e c st f' e' c' st') true)
include hT
theorem j9_ev:Ev (fun n=>lw_.j9 n u by_ (RideR m0 m1 m2 m3 u t).1 (ArriveR m0 m1 m2 m3 u t by_).1 (ArriveR m0 m1 m2 m3 u t by_).2 k x y num den th s b m0 m1 m2 m3 f e c st f' e' c' st') true:=by
 by_cases p:ArriveP m0 m1 m2 m3 u t by_
 ·have ea:ArriveR m0 m1 m2 m3 u t by_=(tat m0 m1 m3 (nextB m0 m1 m3 u by_) t,true):=by unfold ArriveR;rw [dec_true p,if_pos rfl]
  have er:RideR m0 m1 m2 m3 u t=(rd m3 t - rd m3 u,true):=by unfold RideR;rw [dec_true p.1,if_pos rfl]
  rw [ea,er]
  obtain ⟨⟨G,hu,ht,hut⟩,hb,hn⟩:=p
  have wb:=wait_bd ⟨G,hu⟩ hb hn
  have r1:=G.range u hu.1 hu.2
  have r2:=G.range t ht.1 ht.2
  refine Ev.step (fun k=>by simp only [lw_.j9,if_true];rfl) ?_
  refine Ev.bind (implWait_ev m0 m1 m2 m3 u by_) ?_
  rw [wait_of ⟨G,hu⟩ hb hn]
  have e1:tat m0 m1 m3 (nextB m0 m1 m3 u by_) t=wrap64 (wrap64 (by_+(tat m0 m1 m3 (nextB m0 m1 m3 u by_) u - by_))+(rd m3 t - rd m3 u)):=by
   have tb:=tat_bd G ⟨nextB_nn m0 m1 m3 u by_,hn⟩ hu
   rw [w64 (x:=by_+(tat m0 m1 m3 (nextB m0 m1 m3 u by_) u - by_)) (by omega) (by omega),w64 (by omega) (by omega)]
   unfold tat
   omega
  simp only [if_true,if_pos e1]
  exact hT
 ·have ea:ArriveR m0 m1 m2 m3 u t by_=(0,false):=by unfold ArriveR;rw [dec_false p];rfl
  rw [ea]
  exact Ev.step (fun k=>by simp only [lw_.j9,Bool.false_eq_true,if_false]) hT
theorem j8_ev:Ev (fun n=>lw_.j8 n u t by_ (LastR m0 m1 m2 m3 u t by_).1 (LastR m0 m1 m2 m3 u t by_).2.1 (LastR m0 m1 m2 m3 u t by_).2.2 (RideR m0 m1 m2 m3 u t).1 (ArriveR m0 m1 m2 m3 u t by_).1 (ArriveR m0 m1 m2 m3 u t by_).2 k x y num den th s b false m0 m1 m2 m3 f e c st f' e' c' st') true:=by
 have h9:=j9_ev hT (m0:=m0) (m1:=m1) (m2:=m2) (m3:=m3) (u:=u) (t:=t) (by_:=by_)
 by_cases p:LastP m0 m1 m2 m3 u t by_
 ·have el:LastR m0 m1 m2 m3 u t by_=(lastB m0 m1 m2 m3 t by_,tat m0 m1 m3 (lastB m0 m1 m2 m3 t by_) u,true):=by unfold LastR;rw [dec_true p,if_pos rfl]
  have er:RideR m0 m1 m2 m3 u t=(rd m3 t - rd m3 u,true):=by unfold RideR;rw [dec_true p.1,if_pos rfl]
  rw [el]
  obtain ⟨⟨G,hu,ht,hut⟩,hb,h0⟩:=p
  have bd:=lastB_bd G h0
  have tb:=tat_bd G bd ht
  have tu:=tat_bd G bd hu
  have r1:=G.range u hu.1 hu.2
  have r2:=G.range t ht.1 ht.2
  have hc:=G.count
  have he:=G.every
  have le:=(lastB_iff G h0 bd).2 (Int.le_refl _)
  refine Ev.step (fun k=>by simp only [lw_.j8,Bool.false_eq_true,if_false,if_true];rfl) ?_
  refine Ev.bind (implTimeAt_ev m0 m1 m2 m3 (lastB m0 m1 m2 m3 t by_) t) ?_
  rw [timeAt_of G ht bd]
  have e1:wrap64 (tat m0 m1 m3 (lastB m0 m1 m2 m3 t by_) u+(RideR m0 m1 m2 m3 u t).1)=tat m0 m1 m3 (lastB m0 m1 m2 m3 t by_) t:=by
   rw [er]
   simp only
   rw [w64 (by omega) (by omega)]
   unfold tat
   omega
  simp only [if_true,if_neg (show ¬ tat m0 m1 m3 (lastB m0 m1 m2 m3 t by_) t > by_ by omega),if_pos e1,w64 (x:=lastB m0 m1 m2 m3 t by_+1) (by omega) (by omega),w64 (x:=tat m0 m1 m3 (lastB m0 m1 m2 m3 t by_) t+m1) (by omega) (by omega)]
  by_cases q:lastB m0 m1 m2 m3 t by_+1 < m2
  ·have nx:=(lastB_iff G h0 (b:=lastB m0 m1 m2 m3 t by_+1) (by omega)).1
   have es:tat m0 m1 m3 (lastB m0 m1 m2 m3 t by_+1) t=tat m0 m1 m3 (lastB m0 m1 m2 m3 t by_) t+m1:=by
    unfold tat
    rw [Int.add_mul,Int.one_mul]
    omega
   rw [es] at nx
   simp only [if_pos q,if_neg (show ¬ tat m0 m1 m3 (lastB m0 m1 m2 m3 t by_) t+m1≤by_ from fun h=>by have:=nx h;omega)]
   exact h9
  ·simp only [if_neg q]
   exact h9
 ·have el:LastR m0 m1 m2 m3 u t by_=(0,0,false):=by unfold LastR;rw [dec_false p];rfl
  rw [el]
  exact Ev.step (fun k=>by simp only [lw_.j8,Bool.false_eq_true,if_false]) h9
end
theorem j7_ev {more:List Int} (hb:Bytes more):Ev (fun n=>lw_.j7 n more) true:=by
 obtain ⟨m0,m1,m2,m3,u,t,by_,d1⟩:=drawLast_ev hb
 obtain ⟨n0,n1,n2,n3,k,x,y,d2⟩:=drawMean_ev hb
 obtain ⟨o0,o1,o2,o3,p,q,d3⟩:=drawWhere_ev hb
 obtain ⟨r0,r1,r2,r3,i,j,d4⟩:=drawTimeAt_ev hb
 obtain ⟨s,d5,hs⟩:=drawParse_ev hb
 obtain ⟨f,e,c,st,b,hl,g1,g2,g3⟩:=parse_full s hs
 obtain ⟨R,w1,w2,w3⟩:=meanWait_full n0 n1 n2 n3 k x y
 obtain ⟨W,v1,v2⟩:=whereIs_ev o0 o1 o2 o3 p q
 have e10:=j10_ev (text_ev g3) (show MeanP n0 n1 n2 n3 k x y R from w3)
 have e8:=j8_ev e10 (m0:=m0) (m1:=m1) (m2:=m2) (m3:=m3) (u:=u) (t:=t) (by_:=by_)
 have i1:(LastR m0 m1 m2 m3 u t by_).2.2=true→(RideR m0 m1 m2 m3 u t).2=true:=by
  unfold LastR RideR
  by_cases h:LastP m0 m1 m2 m3 u t by_
  ·rw [dec_true h.1];intro _;rfl
  ·rw [dec_false h];intro h;cases h
 have i2:(ArriveR m0 m1 m2 m3 u t by_).2=true→(RideR m0 m1 m2 m3 u t).2=true:=by
  unfold ArriveR RideR
  by_cases h:ArriveP m0 m1 m2 m3 u t by_
  ·rw [dec_true h.1];intro _;rfl
  ·rw [dec_false h];intro h;cases h
 refine Ev.step (fun n=>by simp only [lw_.j7];rfl) ?_
 refine Ev.bind d1 (Ev.bind (implLast_ev m0 m1 m2 m3 u t by_) (Ev.bind (specLast_ev m0 m1 m2 m3 u t by_) (Ev.bind (implRide_ev m0 m1 m2 m3 u t) (Ev.bind (specRide_ev m0 m1 m2 m3 u t) (Ev.bind (implArrive_ev m0 m1 m2 m3 u t by_) (Ev.bind (specArrive_ev m0 m1 m2 m3 u t by_) (Ev.bind d2 (Ev.bind w2 (Ev.bind w1 (Ev.bind d3 (Ev.bind v2 (Ev.bind v1 (Ev.bind d4 (Ev.bind (implTimeAt_ev r0 r1 r2 r3 i j) (Ev.bind (specTimeAt_ev r0 r1 r2 r3 i j) (Ev.bind d5 (Ev.bind g2 (Ev.bind g1 ?_))))))))))))))))))
 simp only [bne_self_eq_false,Bool.false_eq_true,if_false,if_true]
 refine Ev.bind (qLine_ev f e c st (by omega)) ?_
 simp only [if_true]
 cases h1:(LastR m0 m1 m2 m3 u t by_).2.2 with
 | true =>
  rw [h1] at e8
  have h3:=i1 h1
  cases h2:(ArriveR m0 m1 m2 m3 u t by_).2 with
  | true =>
   rw [h2] at e8
   simp only [h3,if_true,Bool.not_true]
   exact e8
  | false =>
   rw [h2] at e8
   simp only [h3,if_true,Bool.false_eq_true,if_false]
   exact e8
 | false =>
  rw [h1] at e8
  cases h2:(ArriveR m0 m1 m2 m3 u t by_).2 with
  | true =>
   rw [h2] at e8
   have h3:=i2 h2
   simp only [h3,if_true,Bool.false_eq_true,if_false,Bool.not_true]
   exact e8
  | false =>
   rw [h2] at e8
   simp only [Bool.false_eq_true,if_false]
   exact e8
section
variable {more:List Int} (hN:Ev (fun n=>lw_.j7 n more) true) (f e c:Int) (st:List Int)
include hN
theorem j5_ev:Ev (fun n=>lw_.j5 n more (if dec (GoodLine f e c st)=true then ((⟨(lineT f e c st).toArray⟩:ByteArray),true) else ((⟨#[]⟩:ByteArray),false)).1 (if dec (GoodLine f e c st)=true then ((⟨(lineT f e c st).toArray⟩:ByteArray),true) else ((⟨#[]⟩:ByteArray),false)).2 f e c st) true:=by
 by_cases G:GoodLine f e c st
 ·have hl:=G.stops
  rw [dec_true G]
  simp only [if_true]
  refine Ev.step (fun k=>by simp only [lw_.j5,if_true];rfl) ?_
  by_cases q:((⟨(lineT f e c st).toArray⟩:ByteArray).size:Int)≤80
  ·rw [decide_eq_true q]
   refine Ev.step (fun k=>by simp only [lw_.j6,if_true];rfl) ?_
   refine Ev.bind (impl_line_yes (⟨(lineT f e c st).toArray⟩:ByteArray) f e c st ⟨G,by simp⟩) ?_
   simp only [if_true]
   refine Ev.bind (qLine_ev f e c st (by omega)) ?_
   simp only [if_true]
   exact hN
  ·rw [decide_eq_false q]
   exact Ev.step (fun k=>by simp only [lw_.j6,Bool.false_eq_true,if_false]) hN
 ·rw [dec_false G]
  simp only [Bool.false_eq_true,if_false]
  refine Ev.step (fun k=>by simp only [lw_.j5,Bool.false_eq_true,if_false];rfl) ?_
  exact Ev.step (fun k=>by simp only [lw_.j6,Bool.false_eq_true,if_false]) hN
end
section
variable {more:List Int} {f e c:Int} {st:List Int} {x:ByteArray} {five:Bool} {m:Int} (hN:Ev (fun n=>lw_.j5 n more x five f e c st) true)
include hN
theorem l0_ev (G:GoodLine f e c st) (hm:0≤m∧m≤2000):∀ i:Int,0≤i→i≤c→Ev (fun n=>lw_.l0 n more m (onWay f e c st m) x five i f e c st) true:=by
 have hc:=G.count
 have hs:=G.stops
 have hl:(onWay f e c st m).length≤60:=by
  have:=(busesOn_told f e c st m).2.2
  unfold OnR at this
  rw [dec_true (p:=GoodLine f e c st∧0≤m∧m≤2000) ⟨G,hm⟩,if_pos rfl] at this
  exact this
 refine downI ?_ (fun i h0 h1 ih=>?_)
 ·exact Ev.step (fun k=>by simp only [lw_.l0];rw [if_neg (by omega)]) hN
 ·obtain ⟨r,_,a2,a3⟩:=whereIs_told f e c st i m
  have w1:wrap64 (i+1)=i+1:=w64 (by omega) (by omega)
  refine Ev.step (fun k=>by simp only [lw_.l0];rw [if_pos h1,w1]) ?_
  refine Ev.bind a2 (Ev.bind (qHas_ev _ i (by omega)) ?_)
  rcases a3 with ⟨no,rfl⟩|⟨P,w,rfl,p0,p1,p2,p3⟩
  ·rw [decide_eq_false (fun h=>no (by have h:=onWay_mem.1 h;exact ⟨G,by omega,hm,h.2⟩))]
   simp only [bne_self_eq_false,Bool.false_eq_true,if_false]
   exact ih
  ·rw [decide_eq_true (onWay_mem.2 ⟨⟨h0,h1⟩,P.2.2.2⟩)]
   simp only [bne_self_eq_false,Bool.false_eq_true,if_false,if_true]
   refine Ev.bind (implTimeAt_ev f e c st i w) ?_
   rw [timeAt_of G ⟨p0,by omega⟩ ⟨h0,h1⟩]
   simp only [if_true,if_neg (show ¬ tat f e st i w > m by omega),bne_self_eq_false]
   have w2:wrap64 (w+1)=w+1:=w64 (by omega) (by omega)
   by_cases q:w+1 < (st.length:Int)
   ·refine Ev.step (fun k=>by simp only [lw_.j4,Bool.false_eq_true,if_false];rw [w1,w2,if_pos q]) ?_
    refine Ev.bind (implTimeAt_ev f e c st i (w+1)) ?_
    rw [timeAt_of G ⟨by omega,q⟩ ⟨h0,h1⟩]
    have:=p3 (by omega)
    simp only [if_true,if_neg (show ¬ tat f e st i (w+1)≤m by omega)]
    exact ih
   ·exact Ev.step (fun k=>by simp only [lw_.j4,Bool.false_eq_true,if_false];rw [w1,w2,if_neg q]) ih
theorem j2_ev:Ev (fun n=>lw_.j2 n more m (OnR f e c st m).1 (OnR f e c st m).2 x five f e c st) true:=by
 have hl:=(busesOn_told f e c st m).2.2
 by_cases p:GoodLine f e c st∧0≤m∧m≤2000
 ·have eo:OnR f e c st m=(onWay f e c st m,true):=by unfold OnR;rw [dec_true p,if_pos rfl]
  have hc:=p.1.count
  rw [eo] at hl ⊢
  refine Ev.step (fun k=>by simp only [lw_.j2,if_true];rfl) ?_
  refine Ev.bind (qRises_ev _ (by simp only at hl;omega) onWay_strict) ?_
  simp only [if_true]
  exact l0_ev hN p.1 p.2 0 (by omega) (by omega)
 ·have eo:OnR f e c st m=([],false):=by unfold OnR;rw [dec_false p];rfl
  rw [eo]
  exact Ev.step (fun k=>by simp only [lw_.j2,Bool.false_eq_true,if_false]) hN
end
theorem j0_ev {more:List Int} {f e c:Int} {st:List Int} {x:ByteArray} {five:Bool} {s m:Int} {on:List Int} {three:Bool} (hN:Ev (fun n=>lw_.j2 n more m on three x five f e c st) true):Ev (fun n=>lw_.j0 n more s m (NextR f e c st s m).1 (NextR f e c st s m).2.1 (NextR f e c st s m).2.2 (WaitR f e c st s m).1 on three x five false f e c st) true:=by
 rcases next_cases f e c st s m with ⟨g,hm,h,en⟩|⟨_,en⟩
 ·have wb:=wait_bd g hm h
  have n0:=nextB_nn f e st s m
  have hc:=g.1.count
  have he:=g.1.every
  rw [wait_of g hm h,en]
  refine Ev.step (fun k=>by simp only [lw_.j0,Bool.false_eq_true,if_false,if_true];rfl) ?_
  refine Ev.bind (implTimeAt_ev f e c st (nextB f e st s m) s) ?_
  rw [timeAt_of g.1 g.2 ⟨n0,h⟩]
  simp only [if_true,if_neg (show ¬ tat f e st (nextB f e st s m) s < m by omega),w64 (x:=tat f e st (nextB f e st s m) s - m) (by omega) (by omega),bne_self_eq_false]
  by_cases q:nextB f e st s m > 0
  ·have tb:=tat_bd g.1 ⟨n0,h⟩ g.2
   have ta:=tat_bd g.1 (b:=nextB f e st s m - 1) ⟨by omega,by omega⟩ g.2
   have lt:¬ m≤tat f e st (nextB f e st s m - 1) s:=fun z=>by
    have:=(nextB_iff (f:=f) (st:=st) (s:=s) (m:=m) he.1 (show 0≤nextB f e st s m - 1 by omega)).1 z
    omega
   have es:tat f e st (nextB f e st s m) s - tat f e st (nextB f e st s m - 1) s=e:=by
    unfold tat
    rw [Int.sub_mul,Int.one_mul]
    omega
   refine Ev.step (fun k=>by simp only [lw_.j1,Bool.false_eq_true,if_false];rw [if_pos q,w64 (x:=nextB f e st s m - 1) (by omega) (by omega)]) ?_
   refine Ev.bind (implTimeAt_ev f e c st (nextB f e st s m - 1) s) ?_
   rw [timeAt_of g.1 g.2 ⟨by omega,by omega⟩]
   simp only [if_true,if_neg (show ¬ tat f e st (nextB f e st s m - 1) s≥m by omega),w64 (x:=tat f e st (nextB f e st s m) s - tat f e st (nextB f e st s m - 1) s) (by omega) (by omega),if_pos es]
   exact hN
  ·exact Ev.step (fun k=>by simp only [lw_.j1,Bool.false_eq_true,if_false];rw [if_neg q]) hN
 ·rw [en]
  exact Ev.step (fun k=>by simp only [lw_.j0,Bool.false_eq_true,if_false]) hN
theorem FnBusesRun:lw_.Pure:=by
 intro l0 l1 _ h0 _ h1
 refine Ev.rounds ?_
 unfold lw_.f laws_big.f
 by_cases c0:(l0.length:Int) > 1048576
 ·exact Ev.congr (fun k=>by rw [if_pos c0];rfl) (Ev.now _)
 refine Ev.congr (fun k=>by rw [if_neg c0,Option.bind_some,w64 (x:=1048576 - (l0.length:Int)) (by omega) (by omega)]) ?_
 by_cases c1:(l1.length:Int) > 1048576 - (l0.length:Int)
 ·exact Ev.congr (fun k=>by rw [if_pos (decide_eq_true c1)]) (Ev.now _)
 refine Ev.congr (fun k=>by rw [if_neg (by simpa using c1)]) ?_
 have b0:=bytes_of (show l0.length≤1048576 by omega) h0
 have b1:=bytes_of (show l1.length≤1048576 by omega) h1
 obtain ⟨f,e,c,st,s,m,d,hl⟩:=drawNext_ev b0
 have e7:=j7_ev b1
 have e5:=j5_ev e7 f e c st
 have e2:=j2_ev e5 (m:=m)
 have e0:=j0_ev e2 (s:=s)
 have on:=busesOn_told f e c st m
 have q1:(WaitR f e c st s m).2=(NextR f e c st s m).2.2:=by
  unfold WaitR
  by_cases h:(NextR f e c st s m).2.2=true
  ·rw [if_pos h,h]
  ·rw [if_neg h];rw [Bool.not_eq_true] at h;rw [h]
 have q2:(if dec (GoodLine f e c st)=true then ((⟨(lineT f e c st).toArray⟩:ByteArray),true) else ((⟨#[]⟩:ByteArray),false)).2=dec (GoodLine f e c st):=by
  by_cases G:GoodLine f e c st
  ·rw [dec_true G];rfl
  ·rw [dec_false G];rfl
 have q3:(NextR f e c st s m).2.2=true→(OnR f e c st m).2=true:=by
  rcases next_cases f e c st s m with ⟨g,hm,h,en⟩|⟨_,en⟩
  ·intro _;unfold OnR;rw [dec_true (p:=GoodLine f e c st∧0≤m∧m≤2000) ⟨g.1,hm⟩];rfl
  ·rw [en];intro h;cases h
 have q4:(OnR f e c st m).2=true→dec (GoodLine f e c st)=true:=by
  unfold OnR
  by_cases h:GoodLine f e c st∧0≤m∧m≤2000
  ·intro _;exact dec_true h.1
  ·rw [dec_false h];intro h;cases h
 refine Ev.bind d (Ev.bind (implNext_ev f e c st s m) (Ev.bind (specNext_ev f e c st s m) (Ev.bind (implWait_ev f e c st s m) (Ev.bind (specWait_ev f e c st s m) (Ev.bind on.2.1 (Ev.bind on.1 (Ev.bind (lineText_impl_ev f e c st) (Ev.bind (lineText_spec_ev f e c st) ?_))))))))
 simp only [bne_self_eq_false,Bool.false_eq_true,if_false,if_true]
 refine Ev.bind (qSame_ev _ (by have:=on.2.2;omega)) ?_
 simp only [if_true,q1,bne_self_eq_false,Bool.false_eq_true,if_false]
 refine Ev.bind (isLine_ev f e c st) ?_
 simp only [q2,bne_self_eq_false,Bool.false_eq_true,if_false]
 refine Ev.bind (isLine_ev f e c st) (Ev.bind (specIs_ev f e c st) ?_)
 simp only [bne_self_eq_false,Bool.false_eq_true,if_false]
 rw [q2] at e0
 cases h1:(NextR f e c st s m).2.2 with
 | true =>
  have h2:=q3 h1
  have h3:=q4 h2
  rw [h1,h2,h3] at e0
  simp only [h2,h3,if_true,Bool.not_true]
  exact e0
 | false =>
  rw [h1] at e0
  cases h2:(OnR f e c st m).2 with
  | true =>
   have h3:=q4 h2
   rw [h2,h3] at e0
   simp only [h3,if_true,Bool.not_true,Bool.false_eq_true,if_false]
   exact e0
  | false =>
   rw [h2] at e0
   simp only [Bool.false_eq_true,if_false]
   exact e0
end Go.Proofs.YthdnodmidbcgpaaGreatDoor.Pure
