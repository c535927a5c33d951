/- Changes are two rides and a walk, best ones are first, times together are those of both, gaps are the longest, and dropped buses are the last ones, for all drawn inputs. No conditions. -/
import Derived.Test.YthdnodmidbcgpaaQEx17d
import Derived.Test.YthdnodmidbcgpaaPlain
set_option linter.unusedVariables false
set_option linter.unusedSimpArgs false
namespace Go.Proofs.Ythdnodmidbcgpaa.Pure
open Go.RowKit Go.Proofs.Ythdnodmidbcgpaa.QE Go.Proofs.YthdnodmidbcgpaaW.PrintWords Go.Proofs.YthdnodmidbcgpaaW.PrintLast Go.Proofs.YthdnodmidbcgpaaW.PrintMore Go.Proofs.Ythdnodmidbcgpaa.Plain
theorem in_eq (a b c:Int):spec_l1In.f a b c=some (decide (b≤a∧a≤c)):=by
  unfold spec_l1In.f
  by_cases h:a≥b
  · rw [if_pos h];congr 1;simp;omega
  · rw [if_neg h];congr 1;simp;omega
theorem within_eq (a b c:Int):impl_within.f a b c=some (decide (b≤a∧a≤c)):=by
  unfold impl_within.f
  by_cases h:a≥b
  · rw [if_pos h];congr 1;simp;omega
  · rw [if_neg h];congr 1;simp;omega
theorem w64 {x:Int} (h1 : -9223372036854775808≤x) (h2:x≤9223372036854775807):wrap64 x=x:=by unfold wrap64;omega
structure GoodLine (f e c:Int) (st:List Int):Prop where
  first:0≤f∧f≤2000
  every:1≤e∧e≤2000
  count:1≤c∧c≤60
  last:f+(c - 1)*e≤2000
  stops:2≤(st.length:Int)∧(st.length:Int)≤12
  zero:rd st 0=0
  rise:∀ i:Int,1≤i→i < st.length→rd st (i - 1) < rd st i
  top:rd st (st.length - 1)≤500
theorem GoodLine.range {f e c:Int} {st:List Int} (h:GoodLine f e c st):∀ i:Int,0≤i→i < st.length→0≤rd st i∧rd st i≤500:=by
  have up:∀ n:Nat,(n:Int) < st.length→0≤rd st n:=by
    intro n
    induction n with
    | zero=>intro _;have:=h.zero;simp at this ⊢;omega
    | succ n ih =>
      intro hn;have:=h.rise ((n+1:Nat):Int) (by omega) hn;have:=ih (by omega);rw [show (((n+1:Nat):Int) - 1)=(n:Int) by omega] at *
      omega
  have dn:∀ i:Int,0≤i→i≤st.length - 1→rd st i≤500:=by
    refine downI h.top (fun i h0 h1 ih=>?_);have:=h.rise (i+1) (by omega) (by omega);rw [show i+1 - 1=i by omega] at this
    omega
  intro i h0 h1;have:=up i.toNat (by omega);rw [show ((i.toNat:Nat):Int)=i by omega] at this;exact ⟨this,dn i h0 (by omega)⟩
theorem rising_ev (st:List Int) (hs:st.length≤12):∀ i:Int,0≤i→i≤st.length→∃ b:Bool,Ev (fun k=>spec_l1Rising.l0 k st 0 500 st st.length i) b∧(b=true↔∀ j:Int,i≤j→j < st.length→(0≤rd st j∧rd st j≤500)∧(0 < j→rd st (j - 1) < rd st j)):=by
  refine downI ?_ (fun i h0 h1 ih=>?_)
  · exact ⟨true,Ev.step (fun k=>by simp only [spec_l1Rising.l0];rw [if_neg (by omega)]) (Ev.now _),by simp;intro j hj hj2;omega⟩
  · obtain ⟨b,hb,hiff⟩:=ih
    have st0:∀ k,spec_l1Rising.l0 (k+1) st 0 500 st st.length i=if decide (0≤rd st i∧rd st i≤500)=true then (if i > 0 then (if 0≤i - 1 then (if i - 1 < (st.length:Int) then (if rd st (i - 1)≥rd st i then some false else spec_l1Rising.l0 k st 0 500 st st.length (i+1)) else none) else none) else spec_l1Rising.l0 k st 0 500 st st.length (i+1)) else some false:=fun k=>by
      simp only [spec_l1Rising.l0,in_eq,Option.bind_some];rw [if_pos h1,if_pos h0,if_pos h1,w64 (x:=i+1) (by omega) (by omega),w64 (x:=i - 1) (by omega) (by omega)]
    by_cases a:0≤rd st i∧rd st i≤500
    · by_cases z:i > 0
      · by_cases r:rd st (i - 1)≥rd st i
        · refine ⟨false,Ev.step (fun k=>by rw [st0,if_pos (decide_eq_true a),if_pos z,if_pos (by omega),if_pos (by omega),if_pos r]) (Ev.now _),?_⟩
          refine ⟨fun h=>(by cases h),fun h=>?_⟩;have:=(h i (Int.le_refl _) h1).2 z
          omega
        · refine ⟨b,Ev.step (fun k=>by rw [st0,if_pos (decide_eq_true a),if_pos z,if_pos (by omega),if_pos (by omega),if_neg r]) hb,?_⟩
          rw [hiff];refine ⟨fun h j hj hj2=>?_,fun h j hj hj2=>h j (by omega) hj2⟩
          by_cases e:j=i
          · subst e;exact ⟨a,fun _=>by omega⟩
          · exact h j (by omega) hj2
      · refine ⟨b,Ev.step (fun k=>by rw [st0,if_pos (decide_eq_true a),if_neg z]) hb,?_⟩
        rw [hiff];refine ⟨fun h j hj hj2=>?_,fun h j hj hj2=>h j (by omega) hj2⟩
        by_cases e:j=i
        · subst e;exact ⟨a,fun q=>absurd q z⟩
        · exact h j (by omega) hj2
    · refine ⟨false,Ev.step (fun k=>by rw [st0,if_neg (by simpa using a)]) (Ev.now _),?_⟩
      exact ⟨fun h=>(by cases h),fun h=>absurd (h i (Int.le_refl _) h1).1 a⟩
theorem increasing_ev (st:List Int) (hs:st.length≤12):∀ i:Int,1≤i→i≤st.length→∃ b:Bool,Ev (fun k=>impl_increasing.l0 k st i) b∧(b=true↔∀ j:Int,i≤j→j < st.length→rd st (j - 1) < rd st j):=by
  refine downA ?_ (fun i h0 h1 ih=>?_)
  · exact ⟨true,Ev.step (fun k=>by simp only [impl_increasing.l0];rw [if_neg (by omega)]) (Ev.now _),by simp;intro j hj hj2;omega⟩
  · obtain ⟨b,hb,hiff⟩:=ih
    have st0:∀ k,impl_increasing.l0 (k+1) st i=if rd st (i - 1)≥rd st i then some false else impl_increasing.l0 k st (i+1):=fun k=>by
      simp only [impl_increasing.l0];rw [w64 (x:=i+1) (by omega) (by omega),w64 (x:=i - 1) (by omega) (by omega),if_pos h1,if_pos (by omega),if_pos (by omega),if_pos (by omega)]
    by_cases r:rd st (i - 1)≥rd st i
    · refine ⟨false,Ev.step (fun k=>by rw [st0,if_pos r]) (Ev.now _),?_⟩
      refine ⟨fun h=>(by cases h),fun h=>?_⟩;have:=h i (Int.le_refl _) h1
      omega
    · refine ⟨b,Ev.step (fun k=>by rw [st0,if_neg r]) hb,?_⟩
      rw [hiff];refine ⟨fun h j hj hj2=>?_,fun h j hj hj2=>h j (by omega) hj2⟩
      by_cases e:j=i
      · subst e;omega
      · exact h j (by omega) hj2
theorem line_sum {f e c:Int} (hf:0≤f∧f≤2000) (he:1≤e∧e≤2000) (hc:1≤c∧c≤60):wrap64 (f+wrap64 (wrap64 (c - 1)*e))=f+(c - 1)*e:=by
  have b:=mul_bd (A:=60) (B:=2000) (by omega:0≤c - 1) (by omega) (by omega:0≤e) (by omega);rw [w64 (x:=c - 1) (by omega) (by omega),w64 (x:=(c - 1)*e) (by omega) (by omega),w64 (by omega) (by omega)]
theorem buGood_ev (f e c:Int) (st:List Int):Ev (fun k=>spec_buGood.f k f e c st) (dec (GoodLine f e c st)):=by
  have bad:∀ {x:Bool},¬ GoodLine f e c st→x=true→Ev (fun k=>spec_buGood.j0 k x f e c st) (dec (GoodLine f e c st)):=by
    intro x hn hx;subst hx;rw [dec_false hn];exact Ev.step (fun k=>by simp only [spec_buGood.j0];rw [if_pos trivial]) (Ev.now _)
  unfold spec_buGood.f
  simp only [in_eq,Option.bind_some,decide_eq_true_eq]
  by_cases h1:0≤f∧f≤2000
  · by_cases h2:1≤e∧e≤2000
    · simp only [if_pos h1,if_pos h2]
      by_cases h3:1≤c∧c≤60
      · have e3:(!decide (1≤c∧c≤60))=false:=by rw [decide_eq_true h3];rfl
        rw [e3];refine Ev.step (fun k=>by simp only [spec_buGood.j0];rw [if_neg (by simp),line_sum h1 h2 h3,in_eq,Option.bind_some]) ?_
        by_cases h4:f+(c - 1)*e > 2000
        · rw [dec_false (fun g=>by have:=g.last;omega)]
          simp only [if_pos h4];exact Ev.now _
        · simp only [if_neg h4]
          by_cases h5:2≤(st.length:Int)∧(st.length:Int)≤12
          · simp only [if_pos (decide_eq_true h5),if_pos (show 0 < (st.length:Int) by omega)]
            by_cases h6:rd st 0=0
            · simp only [if_pos h6]
              obtain ⟨b,hb,hiff⟩:=rising_ev st (by omega) 0 (by omega) (by omega)
              have:b=dec (GoodLine f e c st):=dec_of (by
                rw [hiff]
                refine ⟨fun h=>⟨h1,h2,h3,by omega,h5,h6,fun i hi hi2=>(h i (by omega) hi2).2 (by omega),(h (st.length - 1) (by omega) (by omega)).1.2⟩,fun g j hj hj2=>⟨g.range j hj hj2,fun hp=>g.rise j (by omega) hj2⟩⟩)
              rw [← this];exact Ev.bind hb (Ev.now _)
            · rw [dec_false (fun g=>h6 g.zero)]
              simp only [if_neg h6];exact Ev.now _
          · rw [dec_false (fun g=>h5 g.stops)]
            have:decide (2≤(st.length:Int)∧(st.length:Int)≤12)=false:=decide_eq_false h5;simp only [this,Bool.false_eq_true,if_false];exact Ev.now _
      · exact bad (fun g=>h3 g.count) (by rw [decide_eq_false h3];rfl)
    · simp only [if_pos h1,if_neg h2]
      exact bad (fun g=>h2 g.every) rfl
  · simp only [if_neg h1]
    exact bad (fun g=>h1 g.first) rfl
theorem isLine_ev (f e c:Int) (st:List Int):Ev (fun k=>impl_IsLine.f k f e c st) (dec (GoodLine f e c st)):=by
  have bad:∀ {x:Bool},¬ GoodLine f e c st→x=true→Ev (fun k=>impl_IsLine.j0 k x f e c st) (dec (GoodLine f e c st)):=by
    intro x hn hx;subst hx;rw [dec_false hn];exact Ev.step (fun k=>by simp only [impl_IsLine.j0];rw [if_pos trivial]) (Ev.now _)
  unfold impl_IsLine.f impl_isMinute.f
  simp only [within_eq,Option.bind_some,decide_eq_true_eq]
  by_cases h1:0≤f∧f≤2000
  · by_cases h2:1≤e∧e≤2000
    · by_cases h3:1≤c∧c≤60
      · simp only [if_pos h1,if_pos h2,if_pos h3,line_sum h1 h2 h3]
        by_cases h4:f+(c - 1)*e > 2000
        · exact bad (fun g=>by have:=g.last;omega) (decide_eq_true h4)
        · rw [decide_eq_false h4]
          refine Ev.step (fun k=>by simp only [impl_IsLine.j0];rw [if_neg (by simp),within_eq,Option.bind_some]) ?_
          by_cases h5:2≤(st.length:Int)∧(st.length:Int)≤12
          · simp only [if_pos (decide_eq_true h5),if_pos (show 0 < (st.length:Int) by omega)]
            by_cases h6:rd st 0=0
            · simp only [if_pos h6]
              obtain ⟨b,hb,hiff⟩:=increasing_ev st (by omega) 1 (by omega) (by omega);refine Ev.bind (g:=fun k=>impl_increasing.f k st) hb ?_;rw [w64 (x:=(st.length:Int) - 1) (by omega) (by omega)];simp only [if_pos (show 0≤(st.length:Int) - 1 by omega),if_pos (show (st.length:Int) - 1 < st.length by omega)]
              by_cases hb2:b=true
              · simp only [if_pos hb2]
                have:decide (rd st ((st.length:Int) - 1)≤500)=dec (GoodLine f e c st):=dec_of (by
                  rw [decide_eq_true_iff]
                  exact ⟨fun h=>⟨h1,h2,h3,by omega,h5,h6,hiff.1 hb2,h⟩,fun g=>g.top⟩)
                rw [← this];exact Ev.now _
              · rw [dec_false (fun g=>hb2 (hiff.2 g.rise))]
                simp only [if_neg hb2];exact Ev.now _
            · rw [dec_false (fun g=>h6 g.zero)]
              simp only [if_neg h6];exact Ev.now _
          · rw [dec_false (fun g=>h5 g.stops)]
            have:decide (2≤(st.length:Int)∧(st.length:Int)≤12)=false:=decide_eq_false h5;simp only [this,Bool.false_eq_true,if_false];exact Ev.now _
      · simp only [if_pos h1,if_pos h2,if_neg h3]
        exact bad (fun g=>h3 g.count) rfl
    · simp only [if_pos h1,if_neg h2]
      exact bad (fun g=>h2 g.every) rfl
  · simp only [if_neg h1]
    exact bad (fun g=>h1 g.first) rfl
def inB (lo hi:Int) (x:Int):Bool:=decide (lo≤x∧x≤hi)
theorem allWithin_l0_ev (l:List Int) (lo hi:Int) (hl:l.length≤1048576):∀ i:Int,0≤i→i≤l.length→Ev (fun k=>impl_allWithin.l0 k lo hi l l.length i) ((l.drop i.toNat).all (inB lo hi)):=by
  refine downI ?_ (fun i h0 h1 ih=>?_)
  · refine Ev.step (fun k=>by simp only [impl_allWithin.l0];rw [if_neg (by omega)]) ?_
    rw [List.drop_of_length_le (by omega)];exact Ev.now _
  · rw [drop_get l 0 i h0 h1,List.all_cons]
    refine Ev.step (f:=fun k=>if inB lo hi (rd l i)=true then impl_allWithin.l0 k lo hi l l.length (i+1) else some false) (fun k=>by simp only [impl_allWithin.l0,within_eq,Option.bind_some];rw [if_pos h1,if_pos h0,if_pos h1,w64 (x:=i+1) (by omega) (by omega)];rfl) ?_
    show Ev _ (inB lo hi (rd l i) && _)
    cases inB lo hi (rd l i)
    · simp only [Bool.false_and,Bool.false_eq_true,if_false];exact Ev.now _
    · simp only [Bool.true_and,if_true];exact ih
theorem allWithin_ev (l:List Int) (lo hi:Int) (hl:l.length≤1048576):Ev (fun k=>impl_allWithin.f k l lo hi) (l.all (inB lo hi)):=by
  unfold impl_allWithin.f
  exact allWithin_l0_ev l lo hi hl 0 (by omega) (by omega)
def tat (f e:Int) (st:List Int) (b s:Int):Int:=f+b*e+rd st s
def StopOf (st:List Int) (s:Int):Prop:=0≤s∧s < st.length
theorem tat_bd {f e c:Int} {st:List Int} (G:GoodLine f e c st) {b s:Int} (hb:0≤b∧b < c) (hs:StopOf st s):0≤tat f e st b s∧tat f e st b s≤2500∧0≤b*e∧b*e≤(c - 1)*e∧(c - 1)*e≤2000:=by
  have r:=G.range s hs.1 hs.2;have h1:=G.first;have h2:=G.every;have h4:=G.last;have m1:=mul_le_r (c:=e) (by omega) (show b≤c - 1 by omega);have m2:=Int.mul_nonneg hb.1 (show 0≤e by omega)
  unfold tat
  omega
theorem tat_w {f e c:Int} {st:List Int} (G:GoodLine f e c st) {b s:Int} (hb:0≤b∧b < c) (hs:StopOf st s):wrap64 (wrap64 (f+wrap64 (b*e))+rd st s)=tat f e st b s:=by
  have t:=tat_bd G hb hs;have r:=G.range s hs.1 hs.2;have h1:=G.first;rw [w64 (x:=b*e) (by omega) (by omega),w64 (x:=f+b*e) (by omega) (by omega),w64 (by omega) (by omega)]
  rfl
theorem buTime_eq {f e c:Int} {st:List Int} (G:GoodLine f e c st) {b s:Int} (hb:0≤b∧b < c) (hs:StopOf st s):spec_buTime.f f e c st b s=some (tat f e st b s):=by
  unfold spec_buTime.f
  rw [if_pos hs.1,if_pos hs.2,tat_w G hb hs]
theorem timeAt_eq {f e c:Int} {st:List Int} (G:GoodLine f e c st) {b s:Int} (hb:0≤b∧b < c) (hs:StopOf st s):impl_timeAt.f f e c st b s=some (tat f e st b s):=by
  unfold impl_timeAt.f
  rw [if_pos hs.1,if_pos hs.2,tat_w G hb hs]
theorem tat_mono {f e c:Int} {st:List Int} (G:GoodLine f e c st) (b:Int):∀ s:Int,0≤s→s≤st.length - 1→∀ s',s≤s'→s'≤st.length - 1→tat f e st b s≤tat f e st b s':=by
  have up:∀ n:Nat,∀ s:Int,0≤s→s+n≤st.length - 1→rd st s≤rd st (s+n):=by
    intro n
    induction n with
    | zero=>intro s _ _;simp
    | succ n ih =>
      intro s h0 h1;have a:=ih s h0 (by omega);have b:=G.rise (s+((n+1:Nat):Int)) (by omega) (by omega);rw [show s+((n+1:Nat):Int) - 1=s+(n:Int) by omega] at b
      omega
  intro s h0 _ s' h2 h3;have:=up (s' - s).toNat s h0 (by omega);rw [show s+((s' - s).toNat:Int)=s' by omega] at this
  unfold tat
  omega
theorem hasStops_ev (f e c:Int) (st stops:List Int) (hl:stops.length≤1048576):Ev (fun k=>impl_hasStops.f k f e c st stops) (dec (GoodLine f e c st∧∀ s,s∈stops→StopOf st s)):=by
  unfold impl_hasStops.f
  refine Ev.bind (isLine_ev f e c st) ?_
  by_cases g:GoodLine f e c st
  · rw [dec_true g]
    simp only [if_true];have h5:=g.stops;rw [w64 (x:=(st.length:Int) - 1) (by omega) (by omega)]
    have:stops.all (inB 0 ((st.length:Int) - 1))=dec (GoodLine f e c st∧∀ s,s∈stops→StopOf st s):=dec_of (by
      rw [List.all_eq_true];refine ⟨fun h=>⟨g,fun s hs=>?_⟩,fun h s hs=>?_⟩
      · have:=h s hs
        unfold inB at this
        have:=of_decide_eq_true this;exact ⟨by omega,by omega⟩
      · have:=h.2 s hs
        unfold inB
        exact decide_eq_true ⟨this.1,by have:=this.2;omega⟩)
    rw [← this];exact Ev.bind (allWithin_ev stops _ _ hl) (Ev.now _)
  · rw [dec_false g,dec_false (fun h=>g h.1)]
    simp only [Bool.false_eq_true,if_false];exact Ev.now _
theorem hasStops0_ev (f e c:Int) (st:List Int):Ev (fun k=>impl_hasStops.f k f e c st []) (dec (GoodLine f e c st)):=by
  have h:=hasStops_ev f e c st [] (by simp);have:dec (GoodLine f e c st∧∀ s,s∈([]:List Int)→StopOf st s)=dec (GoodLine f e c st):=dec_of (by rw [dec_iff];simp);rw [this] at h;exact h
theorem hasStops1_ev (f e c:Int) (st:List Int) (s:Int):Ev (fun k=>impl_hasStops.f k f e c st [s]) (dec (GoodLine f e c st∧StopOf st s)):=by
  have h:=hasStops_ev f e c st [s] (by simp);have:dec (GoodLine f e c st∧∀ x,x∈[s]→StopOf st x)=dec (GoodLine f e c st∧StopOf st s):=dec_of (by rw [dec_iff];simp);rw [this] at h;exact h
theorem hasStops2_ev (f e c:Int) (st:List Int) (s t:Int):Ev (fun k=>impl_hasStops.f k f e c st [s,t]) (dec (GoodLine f e c st∧StopOf st s∧StopOf st t)):=by
  have h:=hasStops_ev f e c st [s,t] (by simp);have:dec (GoodLine f e c st∧∀ x,x∈[s,t]→StopOf st x)=dec (GoodLine f e c st∧StopOf st s∧StopOf st t):=dec_of (by rw [dec_iff];simp);rw [this] at h;exact h
theorem buStop_ev (f e c:Int) (st:List Int) (s:Int):Ev (fun k=>spec_buStop.f k f e c st s) (dec (GoodLine f e c st∧StopOf st s)):=by
  unfold spec_buStop.f
  refine Ev.bind (buGood_ev f e c st) ?_
  by_cases g:GoodLine f e c st
  · rw [dec_true g]
    have h5:=g.stops;simp only [if_true,in_eq,Option.bind_some];rw [w64 (x:=(st.length:Int) - 1) (by omega) (by omega)]
    have:decide (0≤s∧s≤(st.length:Int) - 1)=dec (GoodLine f e c st∧StopOf st s):=dec_of (by
      rw [decide_eq_true_iff]
      exact ⟨fun h=>⟨g,h.1,by omega⟩,fun h=>⟨h.2.1,by have:=h.2.2;omega⟩⟩)
    rw [← this];exact Ev.now _
  · rw [dec_false g,dec_false (fun h=>g h.1)]
    simp only [Bool.false_eq_true,if_false];exact Ev.now _
theorem buMinute_eq (m:Int):spec_buMinute.f m=some (decide (0≤m∧m≤2000)):=by unfold spec_buMinute.f;rw [in_eq];rfl
theorem isMinute_eq (m:Int):impl_isMinute.f m=some (decide (0≤m∧m≤2000)):=by unfold impl_isMinute.f;rw [within_eq];rfl
def nextB (f e:Int) (st:List Int) (s m:Int):Int:=mx 0 (Int.tdiv (m - tat f e st 0 s+e - 1) e)
theorem nextB_nn (f e:Int) (st:List Int) (s m:Int):0≤nextB f e st s m:=by unfold nextB mx;split <;> omega
theorem nextB_iff {f e:Int} {st:List Int} {s m b:Int} (he:1≤e) (hb:0≤b):m≤tat f e st b s↔nextB f e st s m≤b:=by
  have e0:tat f e st b s=tat f e st 0 s+b*e:=by unfold tat;rw [Int.zero_mul];omega
  rw [e0]
  unfold nextB
  generalize tat f e st 0 s=t;have be:=Int.mul_nonneg hb (show 0≤e by omega);have key:mx 0 (Int.tdiv (m - t+e - 1) e)≤b↔Int.tdiv (m - t+e - 1) e≤b:=by unfold mx;split <;> omega
  rw [key]
  by_cases h:0≤m - t+e - 1
  · rw [Int.tdiv_eq_ediv_of_nonneg h]
    rw [Int.ediv_le_iff_le_mul (show 0 < e by omega)]
    omega
  · have h1:Int.tdiv (m - t+e - 1) e≤0:=by
      have:=Int.neg_tdiv (a := -(m - t+e - 1)) (b:=e);rw [Int.neg_neg] at this;rw [this];have:=Int.tdiv_nonneg (a := -(m - t+e - 1)) (b:=e) (by omega) (by omega)
      omega
    omega
theorem nextBus_eq {f e c:Int} {st:List Int} (G:GoodLine f e c st) {s m:Int} (hs:StopOf st s) (hm0 : -1000000≤m) (hm:m≤1000000) :
    impl_nextBus.f f e c st s m=some (if nextB f e st s m < c then (nextB f e st s m,tat f e st (nextB f e st s m) s,true) else (0,0,false)):=by
  have r:=G.range s hs.1 hs.2;have h1:=G.first;have h2:=G.every;have h3:=G.count;have t0:=tat_bd G (show 0≤(0:Int)∧0 < c by omega) hs
  unfold impl_nextBus.f
  rw [timeAt_eq G (by omega) hs];simp only [Option.bind_some,if_neg (show ¬ e=0 by omega)];rw [w64 (x:=m - tat f e st 0 s) (by omega) (by omega),w64 (x:=m - tat f e st 0 s+e) (by omega) (by omega),w64 (x:=m - tat f e st 0 s+e - 1) (by omega) (by omega)]
  have hd : -9223372036854775808≤Int.tdiv (m - tat f e st 0 s+e - 1) e∧Int.tdiv (m - tat f e st 0 s+e - 1) e≤9223372036854775807:=by
    have:=Int.natAbs_tdiv_le_natAbs (m - tat f e st 0 s+e - 1) e
    omega
  rw [w64 hd.1 hd.2];change (if nextB f e st s m≥c then _ else _)=_
  by_cases h:nextB f e st s m < c
  · rw [if_neg (by omega),if_pos h]
    have:=nextB_nn f e st s m;change (impl_timeAt.f f e c st (nextB f e st s m) s).bind _=_;rw [timeAt_eq G (by omega) hs]
    rfl
  · rw [if_pos (by omega),if_neg h]
theorem buNext_l0_ev {f e c:Int} {st:List Int} (G:GoodLine f e c st) {s:Int} (m:Int) (hs:StopOf st s):∀ i:Int,0≤i→i≤c→i≤nextB f e st s m→Ev (fun k=>spec_buNext.l0 k s m i f e c st) (if nextB f e st s m < c then nextB f e st s m else -1):=by
  have h3:=G.count;refine downI (fun h=>?_) (fun i h0 h1 ih h=>?_)
  · refine Ev.step (fun k=>by simp only [spec_buNext.l0];rw [if_neg (by omega)]) ?_
    rw [if_neg (by omega)];exact Ev.now _
  · have iff:=nextB_iff (f:=f) (st:=st) (s:=s) (m:=m) (b:=i) G.every.1 h0
    by_cases c1:tat f e st i s≥m
    · have:=iff.1 c1
      have e1:nextB f e st s m=i:=by omega
      rw [e1,if_pos h1];exact Ev.step (fun k=>by simp only [spec_buNext.l0];rw [if_pos h1,buTime_eq G ⟨h0,h1⟩ hs,Option.bind_some,if_pos c1]) (Ev.now _)
    · have:¬ nextB f e st s m≤i:=fun h=>c1 (iff.2 h)
      refine Ev.step (fun k=>by simp only [spec_buNext.l0];rw [if_pos h1,buTime_eq G ⟨h0,h1⟩ hs,Option.bind_some,if_neg c1,w64 (x:=i+1) (by omega) (by omega)]) (ih (by omega))
theorem buNext_ev {f e c:Int} {st:List Int} (G:GoodLine f e c st) {s:Int} (m:Int) (hs:StopOf st s):Ev (fun k=>spec_buNext.f k f e c st s m) (if nextB f e st s m < c then nextB f e st s m else -1) :=
  buNext_l0_ev G m hs 0 (by omega) (by have:=G.count;omega) (nextB_nn f e st s m)
theorem buRide_ev (f e c:Int) (st:List Int) (s t:Int):Ev (fun k=>spec_buRide.f k f e c st s t) (dec (GoodLine f e c st∧StopOf st s∧StopOf st t∧s < t)):=by
  unfold spec_buRide.f
  refine Ev.bind (buStop_ev f e c st s) ?_
  by_cases g:GoodLine f e c st∧StopOf st s
  · rw [dec_true g]
    simp only [if_true];refine Ev.bind (buStop_ev f e c st t) ?_
    by_cases g2:GoodLine f e c st∧StopOf st t
    · rw [dec_true g2]
      simp only [if_true]
      have:decide (s < t)=dec (GoodLine f e c st∧StopOf st s∧StopOf st t∧s < t):=dec_of (by
        rw [decide_eq_true_iff]
        exact ⟨fun h=>⟨g.1,g.2,g2.2,h⟩,fun h=>h.2.2.2⟩)
      rw [← this];exact Ev.now _
    · rw [dec_false g2,dec_false (fun h=>g2 ⟨h.1,h.2.2.1⟩)]
      simp only [Bool.false_eq_true,if_false];exact Ev.now _
  · rw [dec_false g,dec_false (fun h=>g ⟨h.1,h.2.1⟩)]
    simp only [Bool.false_eq_true,if_false];exact Ev.now _
def ArriveP (f e c:Int) (st:List Int) (s t m:Int):Prop:=(GoodLine f e c st∧StopOf st s∧StopOf st t∧s < t)∧(0≤m∧m≤2000)∧nextB f e st s m < c
noncomputable def ArriveR (f e c:Int) (st:List Int) (s t m:Int):Int × Bool:=if dec (ArriveP f e c st s t m)=true then (tat f e st (nextB f e st s m) t,true) else (0,false)
theorem buArrive_ev {f e c:Int} {st:List Int} (G:GoodLine f e c st) {s t:Int} (m:Int) (hs:StopOf st s) (ht:StopOf st t):Ev (fun k=>spec_buArrive.f k f e c st s t m) (if nextB f e st s m < c then tat f e st (nextB f e st s m) t else -1):=by
  refine Ev.bind (buNext_ev G m hs) ?_;have n0:=nextB_nn f e st s m
  by_cases h:nextB f e st s m < c
  · simp only [if_pos h,if_neg (show ¬ nextB f e st s m < 0 by omega),buTime_eq G ⟨n0,h⟩ ht,Option.bind_some]
    exact Ev.now _
  · simp only [if_neg h,if_pos (show (-1:Int) < 0 by omega)]
    exact Ev.now _
theorem arriveAt_eq {f e c:Int} {st:List Int} (G:GoodLine f e c st) {s t m:Int} (hs:StopOf st s) (ht:StopOf st t) (hm0 : -1000000≤m) (hm:m≤1000000) :
    impl_arriveAt.f f e c st s t m=some (if nextB f e st s m < c∧s < t then (tat f e st (nextB f e st s m) t,true) else (0,false)):=by
  unfold impl_arriveAt.f
  rw [nextBus_eq G hs hm0 hm];have n0:=nextB_nn f e st s m
  by_cases h:nextB f e st s m < c
  · simp only [if_pos h,Option.bind_some,if_true]
    by_cases q:s < t
    · rw [if_neg (by omega),timeAt_eq G ⟨n0,h⟩ ht,if_pos ⟨h,q⟩];rfl
    · rw [if_pos (by omega),if_neg (fun z=>q z.2)]
  · simp only [if_neg h,Option.bind_some,Bool.false_eq_true,if_false]
    rw [if_neg (fun z=>h z.1)]
theorem implArrive_ev (f e c:Int) (st:List Int) (s t m:Int):Ev (fun k=>impl_ArriveAt.f k f e c st s t m) (ArriveR f e c st s t m):=by
  unfold ArriveR
  refine Ev.bind (hasStops2_ev f e c st s t) ?_
  by_cases g:GoodLine f e c st∧StopOf st s∧StopOf st t
  · rw [dec_true g]
    simp only [if_true]
    by_cases q:s < t
    · simp only [if_neg (show ¬ s≥t by omega),isMinute_eq,Option.bind_some,decide_eq_true_eq]
      by_cases hm:0≤m∧m≤2000
      · simp only [if_pos hm,arriveAt_eq g.1 g.2.1 g.2.2 (show -1000000≤m by omega) (by omega),Option.bind_some]
        by_cases h:nextB f e st s m < c
        · rw [if_pos ⟨h,q⟩,dec_true (p:=ArriveP f e c st s t m) ⟨⟨g.1,g.2.1,g.2.2,q⟩,hm,h⟩]
          exact Ev.now _
        · rw [if_neg (fun z=>h z.1),dec_false (fun z=>h z.2.2)]
          exact Ev.now _
      · rw [dec_false (fun z=>hm z.2.1)]
        simp only [if_neg hm,Bool.false_eq_true,if_false];exact Ev.now _
    · rw [dec_false (fun z=>q z.1.2.2.2)]
      simp only [if_pos (show s≥t by omega),Bool.false_eq_true,if_false];exact Ev.now _
  · rw [dec_false g,dec_false (fun z=>g ⟨z.1.1,z.1.2.1,z.1.2.2.1⟩)]
    simp only [Bool.false_eq_true,if_false];exact Ev.now _
theorem isWalk_eq (m:Int):impl_isWalk.f m=some (decide (0≤m∧m≤100)):=by unfold impl_isWalk.f;rw [within_eq];rfl
def RideP (f e c:Int) (st:List Int) (s t:Int):Prop:=GoodLine f e c st∧StopOf st s∧StopOf st t∧s < t
noncomputable def ChgR (f e c:Int) (st:List Int) (s t:Int) (f' e' c':Int) (st':List Int) (s' t' walk m:Int):Int × Int × Bool :=
  if dec (nextB f e st s m < c∧nextB f' e' st' s' (tat f e st (nextB f e st s m) t+walk) < c')=true then
    (tat f e st (nextB f e st s m) t+walk,tat f' e' st' (nextB f' e' st' s' (tat f e st (nextB f e st s m) t+walk)) t',true)
  else (0,0,false)
theorem buChange_ev {f e c:Int} {st:List Int} {s t:Int} (R:RideP f e c st s t) {f' e' c':Int} {st':List Int} {s' t':Int} (R':RideP f' e' c' st' s' t') {walk m:Int} (hw:0≤walk∧walk≤100) (hm:0≤m∧m≤2000) :
    Ev (fun k=>spec_buChange.f k f e c st s t f' e' c' st' s' t' walk m) (ChgR f e c st s t f' e' c' st' s' t' walk m):=by
  unfold ChgR
  refine Ev.bind (buArrive_ev R.1 m R.2.1 R.2.2.1) ?_;have n0:=nextB_nn f e st s m
  by_cases h:nextB f e st s m < c
  · have tb:=tat_bd R.1 ⟨n0,h⟩ R.2.2.1
    simp only [if_pos h,if_neg (show ¬ tat f e st (nextB f e st s m) t < 0 by omega),w64 (x:=tat f e st (nextB f e st s m) t+walk) (by omega) (by omega)];refine Ev.bind (buArrive_ev R'.1 _ R'.2.1 R'.2.2.1) ?_;have n1:=nextB_nn f' e' st' s' (tat f e st (nextB f e st s m) t+walk)
    by_cases h':nextB f' e' st' s' (tat f e st (nextB f e st s m) t+walk) < c'
    · have tb':=tat_bd R'.1 ⟨n1,h'⟩ R'.2.2.1
      rw [dec_true (p:=nextB f e st s m < c∧nextB f' e' st' s' (tat f e st (nextB f e st s m) t+walk) < c') ⟨h,h'⟩];simp only [if_pos h',if_neg (show ¬ tat f' e' st' (nextB f' e' st' s' (tat f e st (nextB f e st s m) t+walk)) t' < 0 by omega),if_true];exact Ev.now _
    · rw [dec_false (fun q=>h' q.2)]
      simp only [if_neg h',if_pos (show (-1:Int) < 0 by omega),Bool.false_eq_true,if_false];exact Ev.now _
  · rw [dec_false (fun q=>h q.1)]
    simp only [if_neg h,if_pos (show (-1:Int) < 0 by omega),Bool.false_eq_true,if_false];exact Ev.now _
theorem implChange_eq {f e c:Int} {st:List Int} {s t:Int} (R:RideP f e c st s t) {f' e' c':Int} {st':List Int} {s' t':Int} (R':RideP f' e' c' st' s' t') {walk m:Int} (hw:0≤walk∧walk≤100) (hm:0≤m∧m≤2000) :
    impl_changeAt.f f e c st s t f' e' c' st' s' t' walk m=some (ChgR f e c st s t f' e' c' st' s' t' walk m):=by
  unfold ChgR impl_changeAt.f
  rw [arriveAt_eq R.1 R.2.1 R.2.2.1 (by omega) (by omega)];have n0:=nextB_nn f e st s m
  by_cases h:nextB f e st s m < c
  · have tb:=tat_bd R.1 ⟨n0,h⟩ R.2.2.1
    simp only [if_pos (show nextB f e st s m < c∧s < t from ⟨h,R.2.2.2⟩),Option.bind_some,if_true,w64 (x:=tat f e st (nextB f e st s m) t+walk) (by omega) (by omega)];rw [arriveAt_eq R'.1 R'.2.1 R'.2.2.1 (by omega) (by omega)]
    by_cases h':nextB f' e' st' s' (tat f e st (nextB f e st s m) t+walk) < c'
    · rw [dec_true (p:=nextB f e st s m < c∧nextB f' e' st' s' (tat f e st (nextB f e st s m) t+walk) < c') ⟨h,h'⟩]
      simp only [if_pos (show nextB f' e' st' s' (tat f e st (nextB f e st s m) t+walk) < c'∧s' < t' from ⟨h',R'.2.2.2⟩),Option.bind_some,if_true]
    · rw [dec_false (fun q=>h' q.2)]
      simp only [if_neg (show ¬ (nextB f' e' st' s' (tat f e st (nextB f e st s m) t+walk) < c'∧s' < t') from fun q=>h' q.1),Option.bind_some,Bool.false_eq_true,if_false]
  · rw [dec_false (fun q=>h q.1)]
    simp only [if_neg (show ¬ (nextB f e st s m < c∧s < t) from fun q=>h q.1),Option.bind_some,Bool.false_eq_true,if_false]
theorem implChange_any {f e c:Int} {st:List Int} {s t:Int} (g:GoodLine f e c st∧StopOf st s∧StopOf st t) {f' e' c':Int} {st':List Int} {s' t':Int} (g':GoodLine f' e' c' st'∧StopOf st' s'∧StopOf st' t') {walk m:Int} (hw:0≤walk∧walk≤100) (hm:0≤m∧m≤2000) (h:¬ (s < t∧s' < t')) :
    impl_changeAt.f f e c st s t f' e' c' st' s' t' walk m=some (0,0,false):=by
  unfold impl_changeAt.f
  rw [arriveAt_eq g.1 g.2.1 g.2.2 (by omega) (by omega)];have n0:=nextB_nn f e st s m
  by_cases h1:nextB f e st s m < c∧s < t
  · have tb:=tat_bd g.1 ⟨n0,h1.1⟩ g.2.2
    simp only [if_pos h1,Option.bind_some,if_true,w64 (x:=tat f e st (nextB f e st s m) t+walk) (by omega) (by omega)];rw [arriveAt_eq g'.1 g'.2.1 g'.2.2 (by omega) (by omega)];simp only [if_neg (show ¬ (nextB f' e' st' s' (tat f e st (nextB f e st s m) t+walk) < c'∧s' < t') from fun q=>h ⟨h1.2,q.2⟩),Option.bind_some,Bool.false_eq_true,if_false]
  · simp only [if_neg h1,Option.bind_some,Bool.false_eq_true,if_false]
def ChangeP (f e c:Int) (st:List Int) (s t:Int) (f' e' c':Int) (st':List Int) (s' t' walk m:Int):Prop:=RideP f e c st s t∧RideP f' e' c' st' s' t'∧(0≤walk∧walk≤100)∧(0≤m∧m≤2000)
noncomputable def ChangeR (f e c:Int) (st:List Int) (s t:Int) (f' e' c':Int) (st':List Int) (s' t' walk m:Int):Int × Int × Bool :=
  if dec (ChangeP f e c st s t f' e' c' st' s' t' walk m)=true then ChgR f e c st s t f' e' c' st' s' t' walk m else (0,0,false)
theorem specChange_ev (f e c:Int) (st:List Int) (s t:Int) (f' e' c':Int) (st':List Int) (s' t' walk m:Int):Ev (fun k=>spec_ChangeAt.f k f e c st s t f' e' c' st' s' t' walk m) (ChangeR f e c st s t f' e' c' st' s' t' walk m):=by
  unfold ChangeR
  refine Ev.bind (buRide_ev f e c st s t) ?_
  by_cases R:RideP f e c st s t
  · rw [dec_true (p:=GoodLine f e c st∧StopOf st s∧StopOf st t∧s < t) R]
    simp only [if_true];refine Ev.bind (buRide_ev f' e' c' st' s' t') ?_
    by_cases R':RideP f' e' c' st' s' t'
    · rw [dec_true (p:=GoodLine f' e' c' st'∧StopOf st' s'∧StopOf st' t'∧s' < t') R']
      simp only [if_true,in_eq,buMinute_eq,Option.bind_some,decide_eq_true_eq]
      by_cases hw:0≤walk∧walk≤100
      · by_cases hm:0≤m∧m≤2000
        · rw [dec_true (p:=ChangeP f e c st s t f' e' c' st' s' t' walk m) ⟨R,R',hw,hm⟩]
          simp only [if_pos hw,if_pos hm,if_true];exact Ev.bind (buChange_ev R R' hw hm) (Ev.now _)
        · rw [dec_false (fun q=>hm q.2.2.2)]
          simp only [if_pos hw,if_neg hm,Bool.false_eq_true,if_false];exact Ev.now _
      · rw [dec_false (fun q=>hw q.2.2.1)]
        simp only [if_neg hw,Bool.false_eq_true,if_false];exact Ev.now _
    · rw [dec_false (p:=GoodLine f' e' c' st'∧StopOf st' s'∧StopOf st' t'∧s' < t') R',dec_false (fun q=>R' q.2.1)]
      simp only [Bool.false_eq_true,if_false];exact Ev.now _
  · rw [dec_false (p:=GoodLine f e c st∧StopOf st s∧StopOf st t∧s < t) R,dec_false (fun q=>R q.1)]
    simp only [Bool.false_eq_true,if_false];exact Ev.now _
theorem implChange_ev (f e c:Int) (st:List Int) (s t:Int) (f' e' c':Int) (st':List Int) (s' t' walk m:Int):Ev (fun k=>impl_ChangeAt.f k f e c st s t f' e' c' st' s' t' walk m) (ChangeR f e c st s t f' e' c' st' s' t' walk m):=by
  unfold ChangeR
  refine Ev.bind (hasStops2_ev f e c st s t) ?_
  by_cases g:GoodLine f e c st∧StopOf st s∧StopOf st t
  · rw [dec_true g]
    simp only [if_true];refine Ev.bind (hasStops2_ev f' e' c' st' s' t') ?_
    by_cases g':GoodLine f' e' c' st'∧StopOf st' s'∧StopOf st' t'
    · rw [dec_true g']
      simp only [if_true,isWalk_eq,isMinute_eq,Option.bind_some,decide_eq_true_eq]
      by_cases hw:0≤walk∧walk≤100
      · by_cases hm:0≤m∧m≤2000
        · simp only [if_pos hw,if_pos hm]
          by_cases h:s < t∧s' < t'
          · have R:RideP f e c st s t:=⟨g.1,g.2.1,g.2.2,h.1⟩
            have R':RideP f' e' c' st' s' t':=⟨g'.1,g'.2.1,g'.2.2,h.2⟩
            rw [dec_true (p:=ChangeP f e c st s t f' e' c' st' s' t' walk m) ⟨R,R',hw,hm⟩];simp only [if_true,implChange_eq R R' hw hm,Option.bind_some];exact Ev.now _
          · rw [dec_false (fun q=>h ⟨q.1.2.2.2,q.2.1.2.2.2⟩)]
            simp only [Bool.false_eq_true,if_false,implChange_any g g' hw hm h,Option.bind_some];exact Ev.now _
        · rw [dec_false (fun q=>hm q.2.2.2)]
          simp only [if_pos hw,if_neg hm,Bool.false_eq_true,if_false];exact Ev.now _
      · rw [dec_false (fun q=>hw q.2.2.1)]
        simp only [if_neg hw,Bool.false_eq_true,if_false];exact Ev.now _
    · rw [dec_false g',dec_false (fun q=>g' ⟨q.2.1.1,q.2.1.2.1,q.2.1.2.2.1⟩)]
      simp only [Bool.false_eq_true,if_false];exact Ev.now _
  · rw [dec_false g,dec_false (fun q=>g ⟨q.1.1,q.1.2.1,q.1.2.2.1⟩)]
    simp only [Bool.false_eq_true,if_false];exact Ev.now _
theorem l1Own_eq {y:List Int} (h:y.length≤1048576):spec_l1Own.f y=some y:=by
  unfold spec_l1Own.f
  simp only [Option.bind_some,List.nil_append,List.length_nil];rw [if_pos (by omega)]
theorem cloneB_eq {y:List Int} (h:y.length≤1048576):slices_Clone_int_int.f y=some y:=by
  unfold slices_Clone_int_int.f
  simp only [Option.bind_some,List.nil_append,List.length_nil];rw [if_pos (by omega)]
def WalkP (f e c:Int) (st:List Int) (s:Int) (f' e' c':Int) (st':List Int) (t:Int) (y:List Int):Prop :=
  (y.length:Int)=3∧RideP f e c st s (rd y 0)∧RideP f' e' c' st' (rd y 1) t∧(0≤rd y 2∧rd y 2≤100)
noncomputable def bestStep (f e c:Int) (st:List Int) (s:Int) (f' e' c':Int) (st':List Int) (t m:Int) (b:List Int × Int) (y:List Int):List Int × Int :=
  if (ChgR f e c st s (rd y 0) f' e' c' st' (rd y 1) t (rd y 2) m).2.2=true then
    (if (b.1.length:Int)=0 then (y,(ChgR f e c st s (rd y 0) f' e' c' st' (rd y 1) t (rd y 2) m).2.1)
     else if (ChgR f e c st s (rd y 0) f' e' c' st' (rd y 1) t (rd y 2) m).2.1 < b.2 then (y,(ChgR f e c st s (rd y 0) f' e' c' st' (rd y 1) t (rd y 2) m).2.1) else b)
  else b
noncomputable def bestOf (f e c:Int) (st:List Int) (s:Int) (f' e' c':Int) (st':List Int) (t m:Int) (x:List (List Int)) (b:List Int × Int):List Int × Int:=x.foldl (bestStep f e c st s f' e' c' st' t m) b
def bestFin (r:List Int × Int):List Int × Int × Bool:=(r.1,r.2,decide ((r.1.length:Int) > 0))
theorem bestOf_len (f e c:Int) (st:List Int) (s:Int) (f' e' c':Int) (st':List Int) (t m:Int):∀ (x:List (List Int)) (b:List Int × Int),b.1.length≤3→(∀ y,y∈x→y.length≤3)→(bestOf f e c st s f' e' c' st' t m x b).1.length≤3:=by
  intro x
  induction x with
  | nil=>intro b h _;exact h
  | cons y ys ih =>
    intro b h hy;refine ih (bestStep f e c st s f' e' c' st' t m b y) ?_ (fun z hz=>hy z (List.mem_cons_of_mem _ hz));have h3:=hy y List.mem_cons_self
    unfold bestStep
    split
    · split
      · exact h3
      · split
        · exact h3
        · exact h
    · exact h
theorem specBest_l1 {f e c:Int} {st:List Int} {s:Int} {f' e' c':Int} {st':List Int} {t m:Int} (x:List (List Int)) (hl:x.length≤1048576) (hm:0≤m∧m≤2000) (hx:∀ y,y∈x→WalkP f e c st s f' e' c' st' t y):∀ i:Int,0≤i→i≤x.length→∀ b:List Int × Int,
    Ev (fun k=>spec_BestChange.l1 k s t m b.1 b.2 x (x.length:Int) i f e c st f' e' c' st') (bestFin (bestOf f e c st s f' e' c' st' t m (x.drop i.toNat) b)):=by
  refine downI (fun b=>?_) (fun i h0 h1 ih b=>?_)
  · rw [List.drop_of_length_le (by omega)]
    exact Ev.step (fun k=>by simp only [spec_BestChange.l1];rw [if_neg (by omega)];rfl) (Ev.now _)
  · have hw:WalkP f e c st s f' e' c' st' t (rd_L1 x i):=hx _ (get_mem x [] i h0 h1)
    have key:bestOf f e c st s f' e' c' st' t m (x.drop i.toNat) b=bestOf f e c st s f' e' c' st' t m (x.drop (i+1).toNat) (bestStep f e c st s f' e' c' st' t m b (rd_L1 x i)):=by rw [drop_get x [] i h0 h1];rfl
    rw [key];refine Ev.step (fun k=>by simp only [spec_BestChange.l1];rw [if_pos h1,if_pos h0,if_pos h1,if_pos (show 0 < ((rd_L1 x i).length:Int) by have:=hw.1;omega),if_pos (show 1 < ((rd_L1 x i).length:Int) by have:=hw.1;omega),if_pos (show 2 < ((rd_L1 x i).length:Int) by have:=hw.1;omega),w64 (x:=i+1) (by omega) (by omega)]) ?_;generalize rd_L1 x i=y at hw;obtain ⟨w3,wr,wr',ww⟩:=hw;have hy:y.length≤1048576:=by omega
    refine Ev.bind (buChange_ev wr wr' ww hm) ?_
    unfold bestStep
    generalize ChgR f e c st s (rd y 0) f' e' c' st' (rd y 1) t (rd y 2) m=C
    by_cases c1:C.2.2=true
    · simp only [if_pos c1]
      by_cases c2:(b.1.length:Int)=0
      · simp only [if_pos c2,l1Own_eq hy,Option.bind_some]
        exact ih (y,C.2.1)
      · simp only [if_neg c2]
        by_cases c3:C.2.1 < b.2
        · simp only [if_pos c3,l1Own_eq hy,Option.bind_some]
          exact ih (y,C.2.1)
        · simp only [if_neg c3]
          exact ih b
    · simp only [if_neg c1]
      exact ih b
theorem implBest_l1 {f e c:Int} {st:List Int} {s:Int} {f' e' c':Int} {st':List Int} {t m:Int} (x:List (List Int)) (hl:x.length≤1048576) (hm:0≤m∧m≤2000) (hx:∀ y,y∈x→WalkP f e c st s f' e' c' st' t y):∀ i:Int,0≤i→i≤x.length→∀ b:List Int × Int,b.1.length≤3 →
    Ev (fun k=>impl_BestChange.l1 k s t m b.1 b.2 x (x.length:Int) i f e c st f' e' c' st') (bestFin (bestOf f e c st s f' e' c' st' t m (x.drop i.toNat) b)):=by
  refine downI (fun b hb=>?_) (fun i h0 h1 ih b hb=>?_)
  · rw [List.drop_of_length_le (by omega)]
    refine Ev.step (fun k=>by simp only [impl_BestChange.l1];rw [if_neg (by omega),cloneB_eq (y:=b.1) (by omega),Option.bind_some]) ?_
    have e1:(!decide ((b.1.length:Int)=0))=decide ((b.1.length:Int) > 0):=by
      by_cases z:(b.1.length:Int)=0
      · rw [decide_eq_true z,decide_eq_false (show ¬ ((b.1.length:Int) > 0) by omega)];rfl
      · rw [decide_eq_false z,decide_eq_true (show (b.1.length:Int) > 0 by omega)];rfl
    rw [e1];exact Ev.now _
  · have hw:WalkP f e c st s f' e' c' st' t (rd_L1 x i):=hx _ (get_mem x [] i h0 h1)
    have key:bestOf f e c st s f' e' c' st' t m (x.drop i.toNat) b=bestOf f e c st s f' e' c' st' t m (x.drop (i+1).toNat) (bestStep f e c st s f' e' c' st' t m b (rd_L1 x i)):=by rw [drop_get x [] i h0 h1];rfl
    rw [key];refine Ev.step (fun k=>by simp only [impl_BestChange.l1];rw [if_pos h1,if_pos h0,if_pos h1,if_pos (show 0 < ((rd_L1 x i).length:Int) by have:=hw.1;omega),if_pos (show 1 < ((rd_L1 x i).length:Int) by have:=hw.1;omega),if_pos (show 2 < ((rd_L1 x i).length:Int) by have:=hw.1;omega),w64 (x:=i+1) (by omega) (by omega)]) ?_;generalize rd_L1 x i=y at hw;obtain ⟨w3,wr,wr',ww⟩:=hw;have hy:y.length≤1048576:=by omega
    simp only [implChange_eq wr wr' ww hm,Option.bind_some]
    unfold bestStep
    generalize ChgR f e c st s (rd y 0) f' e' c' st' (rd y 1) t (rd y 2) m=C
    by_cases c1:C.2.2=true
    · simp only [if_pos c1]
      by_cases c2:(b.1.length:Int)=0
      · simp only [if_pos c2]
        exact ih (y,C.2.1) (by simp only;omega)
      · simp only [if_neg c2]
        by_cases c3:C.2.1 < b.2
        · simp only [if_pos c3]
          exact ih (y,C.2.1) (by simp only;omega)
        · simp only [if_neg c3]
          exact ih b hb
    · simp only [if_neg c1]
      exact ih b hb
def WalksP (f e c:Int) (st:List Int) (s:Int) (f' e' c':Int) (st':List Int) (t:Int) (x:List (List Int)):Prop := ∀ y,y∈x→WalkP f e c st s f' e' c' st' t y
theorem specBest_l0 {f e c:Int} {st:List Int} {s:Int} {f' e' c':Int} {st':List Int} {t m:Int} (x:List (List Int)) (hl:x.length≤1048576) (R:List Int × Int × Bool) (hR:WalksP f e c st s f' e' c' st' t x→Ev (fun k=>spec_BestChange.l1 k s t m [] 0 x (x.length:Int) 0 f e c st f' e' c' st') R):∀ i:Int,0≤i→i≤x.length→(∀ y,y∈x.take i.toNat→WalkP f e c st s f' e' c' st' t y) →
    Ev (fun k=>spec_BestChange.l0 k s t x m x (x.length:Int) i f e c st f' e' c' st') (if dec (WalksP f e c st s f' e' c' st' t x)=true then R else ([],0,false)):=by
  refine downI (fun ht=>?_) (fun i h0 h1 ih ht=>?_)
  · rw [List.take_of_length_le (by omega)] at ht
    rw [dec_true (p:=WalksP f e c st s f' e' c' st' t x) ht,if_pos rfl];exact Ev.step (fun k=>by simp only [spec_BestChange.l0];rw [if_neg (by omega)]) (hR ht)
  · have hmem:rd_L1 x i∈x:=get_mem x [] i h0 h1
    have hbad:¬ WalkP f e c st s f' e' c' st' t (rd_L1 x i)→dec (WalksP f e c st s f' e' c' st' t x)=false:=fun h=>dec_false (fun q=>h (q _ hmem))
    have hgood:WalkP f e c st s f' e' c' st' t (rd_L1 x i)→Ev (fun k=>spec_BestChange.l0 k s t x m x (x.length:Int) (i+1) f e c st f' e' c' st') (if dec (WalksP f e c st s f' e' c' st' t x)=true then R else ([],0,false)):=fun h=>ih (by
      rw [take_get x [] i h0 h1];intro y hy
      rcases List.mem_append.1 hy with hy|hy
      · exact ht y hy
      · obtain rfl:=List.mem_singleton.1 hy
        exact h)
    refine Ev.step (fun k=>by simp only [spec_BestChange.l0];rw [if_pos h1,if_pos h0,if_pos h1,w64 (x:=i+1) (by omega) (by omega)]) ?_
    unfold WalkP at hbad hgood
    generalize rd_L1 x i=y at hbad hgood
    by_cases w3:(y.length:Int)=3
    · simp only [if_pos w3,if_pos (show 0 < (y.length:Int) by omega),if_pos (show 1 < (y.length:Int) by omega),if_pos (show 2 < (y.length:Int) by omega)]
      refine Ev.bind (buRide_ev f e c st s (rd y 0)) ?_
      by_cases wr:RideP f e c st s (rd y 0)
      · rw [dec_true (p:=GoodLine f e c st∧StopOf st s∧StopOf st (rd y 0)∧s < rd y 0) wr]
        simp only [if_true];refine Ev.bind (buRide_ev f' e' c' st' (rd y 1) t) ?_
        by_cases wr':RideP f' e' c' st' (rd y 1) t
        · rw [dec_true (p:=GoodLine f' e' c' st'∧StopOf st' (rd y 1)∧StopOf st' t∧rd y 1 < t) wr']
          simp only [if_true,in_eq,Option.bind_some,decide_eq_true_eq]
          by_cases ww:0≤rd y 2∧rd y 2≤100
          · simp only [if_pos ww]
            exact hgood ⟨w3,wr,wr',ww⟩
          · simp only [if_neg ww]
            rw [hbad (fun q=>ww q.2.2.2)];exact Ev.now _
        · rw [dec_false (p:=GoodLine f' e' c' st'∧StopOf st' (rd y 1)∧StopOf st' t∧rd y 1 < t) wr',hbad (fun q=>wr' q.2.2.1)]
          simp only [Bool.false_eq_true,if_false];exact Ev.now _
      · rw [dec_false (p:=GoodLine f e c st∧StopOf st s∧StopOf st (rd y 0)∧s < rd y 0) wr,hbad (fun q=>wr q.2.1)]
        simp only [Bool.false_eq_true,if_false];exact Ev.now _
    · simp only [if_neg w3]
      rw [hbad (fun q=>w3 q.1)];exact Ev.now _
theorem implBest_l0 {f e c:Int} {st:List Int} {s:Int} {f' e' c':Int} {st':List Int} {t m:Int} (B:GoodLine f e c st∧StopOf st s) (B':GoodLine f' e' c' st'∧StopOf st' t) (x:List (List Int)) (hl:x.length≤1048576) (R:List Int × Int × Bool) (hR:WalksP f e c st s f' e' c' st' t x→Ev (fun k=>impl_BestChange.l1 k s t m [] 0 x (x.length:Int) 0 f e c st f' e' c' st') R):∀ i:Int,0≤i→i≤x.length→(∀ y,y∈x.take i.toNat→WalkP f e c st s f' e' c' st' t y) →
    Ev (fun k=>impl_BestChange.l0 k s t x m x (x.length:Int) i f e c st f' e' c' st') (if dec (WalksP f e c st s f' e' c' st' t x)=true then R else ([],0,false)):=by
  refine downI (fun ht=>?_) (fun i h0 h1 ih ht=>?_)
  · rw [List.take_of_length_le (by omega)] at ht
    rw [dec_true (p:=WalksP f e c st s f' e' c' st' t x) ht,if_pos rfl];exact Ev.step (fun k=>by simp only [impl_BestChange.l0];rw [if_neg (by omega)]) (hR ht)
  · have hmem:rd_L1 x i∈x:=get_mem x [] i h0 h1
    have hbad:¬ WalkP f e c st s f' e' c' st' t (rd_L1 x i)→dec (WalksP f e c st s f' e' c' st' t x)=false:=fun h=>dec_false (fun q=>h (q _ hmem))
    have hgood:WalkP f e c st s f' e' c' st' t (rd_L1 x i)→Ev (fun k=>impl_BestChange.l0 k s t x m x (x.length:Int) (i+1) f e c st f' e' c' st') (if dec (WalksP f e c st s f' e' c' st' t x)=true then R else ([],0,false)):=fun h=>ih (by
      rw [take_get x [] i h0 h1];intro y hy
      rcases List.mem_append.1 hy with hy|hy
      · exact ht y hy
      · obtain rfl:=List.mem_singleton.1 hy
        exact h)
    refine Ev.step (fun k=>by simp only [impl_BestChange.l0];rw [if_pos h1,if_pos h0,if_pos h1,w64 (x:=i+1) (by omega) (by omega)]) ?_
    unfold WalkP RideP at hbad hgood
    generalize rd_L1 x i=y at hbad hgood
    by_cases w3:(y.length:Int)=3
    · simp only [if_pos w3,if_pos (show 0 < (y.length:Int) by omega),if_pos (show 1 < (y.length:Int) by omega),if_pos (show 2 < (y.length:Int) by omega)]
      refine Ev.bind (hasStops1_ev f e c st (rd y 0)) ?_
      by_cases a0:StopOf st (rd y 0)
      · rw [dec_true (p:=GoodLine f e c st∧StopOf st (rd y 0)) ⟨B.1,a0⟩]
        simp only [if_true];refine Ev.bind (hasStops1_ev f' e' c' st' (rd y 1)) ?_
        by_cases a1:StopOf st' (rd y 1)
        · rw [dec_true (p:=GoodLine f' e' c' st'∧StopOf st' (rd y 1)) ⟨B'.1,a1⟩]
          simp only [if_true]
          by_cases a2:s≥rd y 0
          · simp only [if_pos a2]
            rw [hbad (fun q=>by have:=q.2.1.2.2.2;omega)];exact Ev.now _
          · simp only [if_neg a2]
            by_cases a3:rd y 1≥t
            · simp only [if_pos a3]
              rw [hbad (fun q=>by have:=q.2.2.1.2.2.2;omega)];exact Ev.now _
            · simp only [if_neg a3,isWalk_eq,Option.bind_some,decide_eq_true_eq]
              by_cases ww:0≤rd y 2∧rd y 2≤100
              · simp only [if_pos ww]
                exact hgood ⟨w3,⟨B.1,B.2,a0,by omega⟩,⟨B'.1,a1,B'.2,by omega⟩,ww⟩
              · simp only [if_neg ww]
                rw [hbad (fun q=>ww q.2.2.2)];exact Ev.now _
        · rw [dec_false (p:=GoodLine f' e' c' st'∧StopOf st' (rd y 1)) (fun q=>a1 q.2),hbad (fun q=>a1 q.2.2.1.2.1)]
          simp only [Bool.false_eq_true,if_false];exact Ev.now _
      · rw [dec_false (p:=GoodLine f e c st∧StopOf st (rd y 0)) (fun q=>a0 q.2),hbad (fun q=>a0 q.2.1.2.2.1)]
        simp only [Bool.false_eq_true,if_false];exact Ev.now _
    · simp only [if_neg w3]
      rw [hbad (fun q=>w3 q.1)];exact Ev.now _
def BestP (f e c:Int) (st:List Int) (s:Int) (f' e' c':Int) (st':List Int) (t m:Int) (x:List (List Int)):Prop:=(GoodLine f e c st∧StopOf st s)∧(GoodLine f' e' c' st'∧StopOf st' t)∧(1≤(x.length:Int)∧(x.length:Int)≤20)∧(0≤m∧m≤2000)∧WalksP f e c st s f' e' c' st' t x
noncomputable def BestR (f e c:Int) (st:List Int) (s:Int) (f' e' c':Int) (st':List Int) (t m:Int) (x:List (List Int)):List Int × Int × Bool:=if dec (BestP f e c st s f' e' c' st' t m x)=true then bestFin (bestOf f e c st s f' e' c' st' t m x ([],0)) else ([],0,false)
theorem BestR_len (f e c:Int) (st:List Int) (s:Int) (f' e' c':Int) (st':List Int) (t m:Int) (x:List (List Int)):(BestR f e c st s f' e' c' st' t m x).1.length≤3:=by
  unfold BestR
  split
  · next h =>
    have hp:=dec_iff.1 h;exact bestOf_len f e c st s f' e' c' st' t m x _ (by simp) (fun y hy=>by have:=(hp.2.2.2.2 y hy).1;omega)
  · simp
theorem specBest_ev (f e c:Int) (st:List Int) (s:Int) (f' e' c':Int) (st':List Int) (t m:Int) (x:List (List Int)):Ev (fun k=>spec_BestChange.f k f e c st s f' e' c' st' t x m) (BestR f e c st s f' e' c' st' t m x):=by
  unfold spec_BestChange.f BestR
  have no:Ev (fun k=>spec_BestChange.j0 k s t x m true f e c st f' e' c' st') ([],0,false):=Ev.step (fun k=>by simp only [spec_BestChange.j0];rw [if_pos trivial]) (Ev.now _);refine Ev.bind (buStop_ev f e c st s) ?_
  by_cases g:GoodLine f e c st∧StopOf st s
  · rw [dec_true g]
    simp only [if_true];refine Ev.bind (buStop_ev f' e' c' st' t) ?_
    by_cases g':GoodLine f' e' c' st'∧StopOf st' t
    · rw [dec_true g']
      simp only [if_true,in_eq,buMinute_eq,Option.bind_some,decide_eq_true_eq]
      by_cases hn:1≤(x.length:Int)∧(x.length:Int)≤20
      · simp only [if_pos hn]
        by_cases hm:0≤m∧m≤2000
        · have e1:dec (BestP f e c st s f' e' c' st' t m x)=dec (WalksP f e c st s f' e' c' st' t x):=dec_of (by rw [dec_iff];exact ⟨fun h=>h.2.2.2.2,fun h=>⟨g,g',hn,hm,h⟩⟩)
          rw [e1,decide_eq_true hm];refine Ev.step (fun k=>by simp only [spec_BestChange.j0];rw [if_neg (by simp)]) ?_;exact specBest_l0 x (by omega) _ (fun hw=>specBest_l1 x (by omega) hm hw 0 (by omega) (by omega) ([],0)) 0 (by omega) (by omega) (fun y hy=>by simp at hy)
        · rw [decide_eq_false hm,dec_false (fun q=>hm q.2.2.2.1)]
          simp only [Bool.false_eq_true,if_false];exact no
      · simp only [if_neg hn]
        rw [dec_false (fun q=>hn q.2.2.1)];simp only [Bool.false_eq_true,if_false];exact no
    · rw [dec_false g',dec_false (fun q=>g' q.2.1)]
      simp only [Bool.false_eq_true,if_false];exact no
  · rw [dec_false g,dec_false (fun q=>g q.1)]
    simp only [Bool.false_eq_true,if_false];exact no
theorem implBest_ev (f e c:Int) (st:List Int) (s:Int) (f' e' c':Int) (st':List Int) (t m:Int) (x:List (List Int)):Ev (fun k=>impl_BestChange.f k f e c st s f' e' c' st' t x m) (BestR f e c st s f' e' c' st' t m x):=by
  unfold impl_BestChange.f BestR
  have no:Ev (fun k=>impl_BestChange.j0 k s t x m true f e c st f' e' c' st') ([],0,false):=Ev.step (fun k=>by simp only [impl_BestChange.j0];rw [if_pos trivial]) (Ev.now _);refine Ev.bind (hasStops1_ev f e c st s) ?_
  by_cases g:GoodLine f e c st∧StopOf st s
  · rw [dec_true g]
    simp only [if_true];refine Ev.bind (hasStops1_ev f' e' c' st' t) ?_
    by_cases g':GoodLine f' e' c' st'∧StopOf st' t
    · rw [dec_true g']
      simp only [if_true,within_eq,isMinute_eq,Option.bind_some,decide_eq_true_eq]
      by_cases hn:1≤(x.length:Int)∧(x.length:Int)≤20
      · simp only [if_pos hn]
        by_cases hm:0≤m∧m≤2000
        · have e1:dec (BestP f e c st s f' e' c' st' t m x)=dec (WalksP f e c st s f' e' c' st' t x):=dec_of (by rw [dec_iff];exact ⟨fun h=>h.2.2.2.2,fun h=>⟨g,g',hn,hm,h⟩⟩)
          rw [e1,decide_eq_true hm];refine Ev.step (fun k=>by simp only [impl_BestChange.j0];rw [if_neg (by simp)]) ?_;exact implBest_l0 g g' x (by omega) _ (fun hw=>implBest_l1 x (by omega) hm hw 0 (by omega) (by omega) ([],0) (by simp)) 0 (by omega) (by omega) (fun y hy=>by simp at hy)
        · rw [decide_eq_false hm,dec_false (fun q=>hm q.2.2.2.1)]
          simp only [Bool.false_eq_true,if_false];exact no
      · simp only [if_neg hn]
        rw [dec_false (fun q=>hn q.2.2.1)];simp only [Bool.false_eq_true,if_false];exact no
    · rw [dec_false g',dec_false (fun q=>g' q.2.1)]
      simp only [Bool.false_eq_true,if_false];exact no
  · rw [dec_false g,dec_false (fun q=>g q.1)]
    simp only [Bool.false_eq_true,if_false];exact no
theorem strict_ext:∀ {l m:List Int},l.Pairwise (· < ·)→m.Pairwise (· < ·)→(∀ x,x∈l↔x∈m)→l=m:=by
  intro l
  induction l with
  | nil =>
    intro m _ _ h
    cases m with
    | nil=>rfl
    | cons b m=>exact absurd ((h b).2 List.mem_cons_self) (by simp)
  | cons a l ih =>
    intro m hl hm h
    cases m with
    | nil=>exact absurd ((h a).1 List.mem_cons_self) (by simp)
    | cons b m =>
      obtain ⟨hl1,hl2⟩:=List.pairwise_cons.1 hl;obtain ⟨hm1,hm2⟩:=List.pairwise_cons.1 hm
      have e:a=b:=by
        rcases List.mem_cons.1 ((h a).1 List.mem_cons_self) with e|e
        · exact e
        · rcases List.mem_cons.1 ((h b).2 List.mem_cons_self) with e2|e2
          · exact e2.symm
          · have:=hl1 _ e2
            have:=hm1 _ e
            omega
      subst e;rw [ih hl2 hm2 (fun x=>?_)]
      constructor
      · intro hx
        rcases List.mem_cons.1 ((h x).1 (List.mem_cons_of_mem _ hx)) with e|e
        · have:=hl1 _ hx;omega
        · exact e
      · intro hx
        rcases List.mem_cons.1 ((h x).2 (List.mem_cons_of_mem _ hx)) with e|e
        · have:=hm1 _ hx;omega
        · exact e
theorem tat_rise {f e:Int} (he:1≤e) (st:List Int) (s:Int) {b b':Int} (h:b < b'):tat f e st b s < tat f e st b' s:=by
  unfold tat
  have:=Int.mul_lt_mul_of_pos_right h (show 0 < e by omega)
  omega
def AtOf (f e c:Int) (st:List Int) (s x:Int):Prop := ∃ b,0≤b∧b < c∧x=tat f e st b s
theorem nextB_at {f e c:Int} {st:List Int} (G:GoodLine f e c st) {s m b:Int} (hb:0≤b) (h:m=tat f e st b s):nextB f e st s m=b:=by
  have he:=G.every.1;have n0:=nextB_nn f e st s m;have h1:=(nextB_iff (f:=f) (st:=st) (s:=s) (m:=m) he hb).1 (by omega);have h2:=(nextB_iff (f:=f) (st:=st) (s:=s) (m:=m) he n0).2 (Int.le_refl _)
  by_cases c:nextB f e st s m < b
  · have:=tat_rise (f:=f) he st s c
    omega
  · omega
theorem together_l0_full {f e c:Int} {st:List Int} (G:GoodLine f e c st) {s:Int} (hs:StopOf st s) {f2 e2 c2:Int} {st2:List Int} (G2:GoodLine f2 e2 c2 st2) {s2:Int} (hs2:StopOf st2 s2):∀ i:Int,0≤i→i≤c→∀ acc:List Int,(acc.length:Int)≤i→acc.Pairwise (· < ·)→(∀ x,x∈acc→∃ b,b < i∧x=tat f e st b s) →
    ∃ r:List Int,Ev (fun k=>spec_TimesTogether.l0 k s s2 acc i f e c st f2 e2 c2 st2) (r,true)∧Ev (fun k=>impl_TimesTogether.l0 k s s2 acc c i f e c st f2 e2 c2 st2) (r,true)∧(r.length:Int)≤c∧r.Pairwise (· < ·)∧(∀ x,x∈r↔x∈acc∨∃ b,i≤b∧b < c∧x=tat f e st b s∧AtOf f2 e2 c2 st2 s2 x):=by
  have h3:=G.count;refine downI (fun acc ha hp hm=>?_) (fun i h0 h1 ih acc ha hp hm=>?_)
  · refine ⟨acc,Ev.step (fun k=>by simp only [spec_TimesTogether.l0];rw [if_neg (by omega)]) (Ev.now _),Ev.step (fun k=>by simp only [impl_TimesTogether.l0];rw [if_neg (by omega)]) (Ev.now _),ha,hp,fun x=>⟨.inl,?_⟩⟩
    rintro (h|⟨b,h1,h2,_⟩)
    · exact h
    · omega
  · have w1:wrap64 (i+1)=i+1:=w64 (by omega) (by omega)
    have tb:=tat_bd G ⟨h0,h1⟩ hs
    have sp2:∀ k,spec_TimesTogether.l0 (k+1) s s2 acc i f e c st f2 e2 c2 st2=(spec_buNext.f k f2 e2 c2 st2 s2 (tat f e st i s)).bind (fun t615=>if t615≥0 then ((spec_buTime.f f2 e2 c2 st2 t615 s2).bind fun t616=>(if t616=tat f e st i s then (if acc.length < 17592186044416 then (spec_TimesTogether.l0 k s s2 (acc ++ [tat f e st i s]) (i+1) f e c st f2 e2 c2 st2) else (none)) else (spec_TimesTogether.l0 k s s2 acc (i+1) f e c st f2 e2 c2 st2))) else (spec_TimesTogether.l0 k s s2 acc (i+1) f e c st f2 e2 c2 st2)):=by
      intro k;simp only [spec_TimesTogether.l0];rw [if_pos h1,buTime_eq G ⟨h0,h1⟩ hs,Option.bind_some,w1]
    have im:∀ k,impl_TimesTogether.l0 (k+1) s s2 acc c i f e c st f2 e2 c2 st2=(if nextB f2 e2 st2 s2 (tat f e st i s) < c2 then (if tat f2 e2 st2 (nextB f2 e2 st2 s2 (tat f e st i s)) s2=tat f e st i s then (if acc.length < 17592186044416 then (impl_TimesTogether.l0 k s s2 (acc ++ [tat f2 e2 st2 (nextB f2 e2 st2 s2 (tat f e st i s)) s2]) c (i+1) f e c st f2 e2 c2 st2) else none) else impl_TimesTogether.l0 k s s2 acc c (i+1) f e c st f2 e2 c2 st2) else impl_TimesTogether.l0 k s s2 acc c (i+1) f e c st f2 e2 c2 st2):=by
      intro k;simp only [impl_TimesTogether.l0];rw [if_pos h1,timeAt_eq G ⟨h0,h1⟩ hs,Option.bind_some,nextBus_eq G2 hs2 (by omega) (by omega),w1]
      by_cases d:nextB f2 e2 st2 s2 (tat f e st i s) < c2
      · simp only [if_pos d,Option.bind_some,if_true]
      · simp only [if_neg d,Option.bind_some,Bool.false_eq_true,if_false]
    have nn:=nextB_nn f2 e2 st2 s2 (tat f e st i s)
    have skip:¬ AtOf f2 e2 c2 st2 s2 (tat f e st i s)→∀ r:List Int,(∀ x,x∈r↔x∈acc∨∃ b,i+1≤b∧b < c∧x=tat f e st b s∧AtOf f2 e2 c2 st2 s2 x)→(∀ x,x∈r↔x∈acc∨∃ b,i≤b∧b < c∧x=tat f e st b s∧AtOf f2 e2 c2 st2 s2 x):=by
      intro no r hr x;rw [hr]
      constructor
      · rintro (h|⟨b,p1,p2,p3,p4⟩)
        · exact .inl h
        · exact .inr ⟨b,by omega,p2,p3,p4⟩
      · rintro (h|⟨b,p1,p2,p3,p4⟩)
        · exact .inl h
        · by_cases e:b=i
          · subst e;rw [p3] at p4;exact absurd p4 no
          · exact .inr ⟨b,by omega,p2,p3,p4⟩
    have hm':∀ x,x∈acc→∃ b,b < i+1∧x=tat f e st b s:=fun x hx=>by
      obtain ⟨b,p1,p2⟩:=hm x hx;exact ⟨b,by omega,p2⟩
    by_cases d:nextB f2 e2 st2 s2 (tat f e st i s) < c2
    · by_cases z:tat f2 e2 st2 (nextB f2 e2 st2 s2 (tat f e st i s)) s2=tat f e st i s
      · obtain ⟨r,a1,a2,a3,a4,a5⟩:=ih (acc ++ [tat f e st i s]) (by simp;omega) (by
          rw [List.pairwise_append];refine ⟨hp,by simp,fun a ha' b hb=>?_⟩;rw [List.mem_singleton.1 hb];obtain ⟨q,q1,q2⟩:=hm a ha';rw [q2]
          exact tat_rise G.every.1 st s q1) (fun x hx=>by
          rcases List.mem_append.1 hx with hx|hx
          · exact hm' x hx
          · exact ⟨i,by omega,List.mem_singleton.1 hx⟩)
        refine ⟨r,Ev.step sp2 (Ev.bind (buNext_ev G2 _ hs2) ?_),Ev.step (fun k=>by rw [im,if_pos d,if_pos z,if_pos (by omega),z]) a2,a3,a4,fun x=>?_⟩
        · simp only [if_pos d,if_pos nn,buTime_eq G2 ⟨nn,d⟩ hs2,Option.bind_some,if_pos z,if_pos (show acc.length < 17592186044416 by omega)]
          exact a1
        · rw [a5,List.mem_append,List.mem_singleton]
          constructor
          · rintro ((h|h)|⟨b,p1,p2,p3,p4⟩)
            · exact .inl h
            · exact .inr ⟨i,by omega,h1,h,⟨_,nn,d,by rw [h,z]⟩⟩
            · exact .inr ⟨b,by omega,p2,p3,p4⟩
          · rintro (h|⟨b,p1,p2,p3,p4⟩)
            · exact .inl (.inl h)
            · by_cases e:b=i
              · subst e;exact .inl (.inr p3)
              · exact .inr ⟨b,by omega,p2,p3,p4⟩
      · obtain ⟨r,a1,a2,a3,a4,a5⟩:=ih acc (by omega) hp hm'
        refine ⟨r,Ev.step sp2 (Ev.bind (buNext_ev G2 _ hs2) ?_),Ev.step (fun k=>by rw [im,if_pos d,if_neg z]) a2,a3,a4,skip (fun h=>?_) r a5⟩
        · simp only [if_pos d,if_pos nn,buTime_eq G2 ⟨nn,d⟩ hs2,Option.bind_some,if_neg z]
          exact a1
        · obtain ⟨b,p1,p2,p3⟩:=h
          rw [nextB_at G2 p1 p3] at z;exact z p3.symm
    · obtain ⟨r,a1,a2,a3,a4,a5⟩:=ih acc (by omega) hp hm'
      refine ⟨r,Ev.step sp2 (Ev.bind (buNext_ev G2 _ hs2) ?_),Ev.step (fun k=>by rw [im,if_neg d]) a2,a3,a4,skip (fun h=>?_) r a5⟩
      · simp only [if_neg d,if_neg (show ¬ (-1:Int)≥0 by omega)]
        exact a1
      · obtain ⟨b,p1,p2,p3⟩:=h
        rw [nextB_at G2 p1 p3] at d;exact d p2
def BothP (f e c:Int) (st:List Int) (s:Int) (f2 e2 c2:Int) (st2:List Int) (s2:Int):Prop:=(GoodLine f e c st∧StopOf st s)∧(GoodLine f2 e2 c2 st2∧StopOf st2 s2)
theorem together_full (f e c:Int) (st:List Int) (s:Int) (f2 e2 c2:Int) (st2:List Int) (s2:Int):∃ (r:List Int),Ev (fun k=>spec_TimesTogether.f k f e c st s f2 e2 c2 st2 s2) (r,dec (BothP f e c st s f2 e2 c2 st2 s2))∧Ev (fun k=>impl_TimesTogether.f k f e c st s f2 e2 c2 st2 s2) (r,dec (BothP f e c st s f2 e2 c2 st2 s2))∧r.length≤60∧r.Pairwise (· < ·)∧(BothP f e c st s f2 e2 c2 st2 s2→∀ x,x∈r↔AtOf f e c st s x∧AtOf f2 e2 c2 st2 s2 x):=by
  by_cases g:GoodLine f e c st∧StopOf st s
  · by_cases g2:GoodLine f2 e2 c2 st2∧StopOf st2 s2
    · have h3:=g.1.count
      obtain ⟨r,a1,a2,a3,a4,a5⟩:=together_l0_full g.1 g.2 g2.1 g2.2 0 (by omega) (by omega) [] (by simp) (by simp) (by simp);rw [dec_true (p:=BothP f e c st s f2 e2 c2 st2 s2) ⟨g,g2⟩];refine ⟨r,Ev.bind (buStop_ev f e c st s) ?_,Ev.bind (hasStops1_ev f e c st s) ?_,by omega,a4,fun _ x=>?_⟩
      · rw [dec_true g]
        simp only [if_true];refine Ev.bind (buStop_ev f2 e2 c2 st2 s2) ?_;rw [dec_true g2];exact Ev.step (fun k=>by simp only [spec_TimesTogether.j0];rw [if_neg (by simp)]) a1
      · rw [dec_true g]
        simp only [if_true];refine Ev.bind (hasStops1_ev f2 e2 c2 st2 s2) ?_;rw [dec_true g2];exact Ev.step (fun k=>by simp only [impl_TimesTogether.j0];rw [if_neg (by simp)]) a2
      · rw [a5]
        constructor
        · rintro (h|⟨b,p1,p2,p3,p4⟩)
          · simp at h
          · exact ⟨⟨b,p1,p2,p3⟩,p4⟩
        · rintro ⟨⟨b,p1,p2,p3⟩,p4⟩
          exact .inr ⟨b,p1,p2,p3,p4⟩
    · rw [dec_false (p:=BothP f e c st s f2 e2 c2 st2 s2) (fun h=>g2 h.2)]
      refine ⟨[],Ev.bind (buStop_ev f e c st s) ?_,Ev.bind (hasStops1_ev f e c st s) ?_,by simp,by simp,fun h=>absurd h.2 g2⟩
      · rw [dec_true g]
        simp only [if_true];refine Ev.bind (buStop_ev f2 e2 c2 st2 s2) ?_;rw [dec_false g2];exact Ev.step (fun k=>by simp only [spec_TimesTogether.j0];rw [if_pos (by simp)]) (Ev.now _)
      · rw [dec_true g]
        simp only [if_true];refine Ev.bind (hasStops1_ev f2 e2 c2 st2 s2) ?_;rw [dec_false g2];exact Ev.step (fun k=>by simp only [impl_TimesTogether.j0];rw [if_pos (by simp)]) (Ev.now _)
  · rw [dec_false (p:=BothP f e c st s f2 e2 c2 st2 s2) (fun h=>g h.1)]
    refine ⟨[],Ev.bind (buStop_ev f e c st s) ?_,Ev.bind (hasStops1_ev f e c st s) ?_,by simp,by simp,fun h=>absurd h.1 g⟩
    · rw [dec_false g]
      simp only [Bool.false_eq_true,if_false];exact Ev.step (fun k=>by simp only [spec_TimesTogether.j0];rw [if_pos (by simp)]) (Ev.now _)
    · rw [dec_false g]
      simp only [Bool.false_eq_true,if_false];exact Ev.step (fun k=>by simp only [impl_TimesTogether.j0];rw [if_pos (by simp)]) (Ev.now _)
theorem rd_rise {r:List Int} (h:r.Pairwise (· < ·)) (i:Int) (h0:0 < i) (h1:i < r.length):rd r (i - 1) < rd r i:=by
  have hp:=List.pairwise_iff_getElem.1 h
  have e:∀ q:Int,0≤q→(hq:q < r.length)→rd r q=r[q.toNat]'(by omega):=by
    intro q q0 hq
    unfold rd
    rw [List.getD_eq_getElem?_getD,List.getElem?_eq_getElem (show q.toNat < r.length by omega)]
    rfl
  rw [e (i - 1) (by omega) (by omega),e i (by omega) h1];exact hp _ _ _ _ (by omega)
theorem qSame_l0_ev (l:List Int) (hl:l.length≤1000):∀ i:Int,0≤i→i≤l.length→Ev (fun k=>laws_qSame.l0 k l l l.length i) true:=by
  refine downI ?_ (fun i h0 h1 ih=>?_)
  · exact Ev.step (fun k=>by simp only [laws_qSame.l0];rw [if_neg (by omega)]) (Ev.now _)
  · exact Ev.step (fun k=>by simp only [laws_qSame.l0,if_true];rw [if_pos h1,if_pos h0,if_pos h1,if_pos h1,w64 (x:=i+1) (by omega) (by omega)]) ih
theorem qSame_ev (l:List Int) (hl:l.length≤1000):Ev (fun k=>laws_qSame.f k l l) true:=by
  refine Ev.congr (fun k=>by unfold laws_qSame.f;rw [if_pos rfl]) ?_;exact qSame_l0_ev l hl 0 (by omega) (by omega)
theorem qHas_l0_ev (l:List Int) (x:Int) (hl:l.length≤1000):∀ i:Int,0≤i→i≤l.length→Ev (fun k=>laws_qHas.l0 k x l l.length i) (decide (x∈l.drop i.toNat)):=by
  refine downI ?_ (fun i h0 h1 ih=>?_)
  · rw [List.drop_of_length_le (by omega)]
    rw [decide_eq_false (by simp)];exact Ev.step (fun k=>by simp only [laws_qHas.l0];rw [if_neg (by omega)]) (Ev.now _)
  · rw [drop_get l 0 i h0 h1]
    by_cases e:rd l i=x
    · rw [decide_eq_true (show x∈l.getD i.toNat 0 :: l.drop (i+1).toNat from List.mem_cons.2 (.inl e.symm))]
      exact Ev.step (fun k=>by simp only [laws_qHas.l0];rw [if_pos h1,if_pos h0,if_pos h1,if_pos e]) (Ev.now _)
    · have em:decide (x∈l.getD i.toNat 0 :: l.drop (i+1).toNat)=decide (x∈l.drop (i+1).toNat):=by
        rw [decide_eq_decide,List.mem_cons]
        constructor
        · rintro (h|h)
          · exact absurd h.symm e
          · exact h
        · exact .inr
      rw [em];exact Ev.step (fun k=>by simp only [laws_qHas.l0];rw [if_pos h1,if_pos h0,if_pos h1,if_neg e,w64 (x:=i+1) (by omega) (by omega)]) ih
theorem qHas_ev (l:List Int) (x:Int) (hl:l.length≤1000):Ev (fun k=>laws_qHas.f k l x) (decide (x∈l)):=by
  have h:=qHas_l0_ev l x hl 0 (by omega) (by omega)
  simpa [laws_qHas.f] using h
theorem tat_lt {f e c:Int} {st:List Int} (G:GoodLine f e c st) (b:Int) {s t:Int} (h0:0≤s) (h1:s < t) (h2:t < st.length):tat f e st b s < tat f e st b t:=by
  have a:=tat_mono G b (s+1) (by omega) (by omega) t (by omega) (by omega);have r:=G.rise (s+1) (by omega) (by omega);rw [show s+1 - 1=s by omega] at r
  unfold tat at *
  omega
theorem change_law {f e c:Int} {st:List Int} {s t:Int} {f' e' c':Int} {st':List Int} {s' t' walk m mid last:Int} (h:ChangeR f e c st s t f' e' c' st' s' t' walk m=(mid,last,true)) :
    ∃ at_:Int,ArriveR f e c st s t m=(at_,true)∧(0≤at_∧at_≤2500)∧(0≤walk∧walk≤100)∧mid=at_+walk∧mid < last∧last≤2500∧(mid≤2000→ArriveR f' e' c' st' s' t' mid=(last,true)):=by
  unfold ChangeR at h
  by_cases p:ChangeP f e c st s t f' e' c' st' s' t' walk m
  · rw [dec_true p,if_pos rfl] at h
    obtain ⟨R,R',hw,hm⟩:=p
    unfold ChgR at h
    by_cases q:nextB f e st s m < c∧nextB f' e' st' s' (tat f e st (nextB f e st s m) t+walk) < c'
    · rw [dec_true q,if_pos rfl] at h
      injection h with h1 h
      injection h with h2 h
      have n0:=nextB_nn f e st s m;have n1:=nextB_nn f' e' st' s' (tat f e st (nextB f e st s m) t+walk);have tb:=tat_bd R.1 ⟨n0,q.1⟩ R.2.2.1;have tb':=tat_bd R'.1 ⟨n1,q.2⟩ R'.2.2.1;have g1:=(nextB_iff (f:=f') (st:=st') (s:=s') (m:=tat f e st (nextB f e st s m) t+walk) R'.1.every.1 n1).2 (Int.le_refl _);have g2:=tat_lt R'.1 (nextB f' e' st' s' (tat f e st (nextB f e st s m) t+walk)) R'.2.1.1 R'.2.2.2 R'.2.2.1.2;refine ⟨tat f e st (nextB f e st s m) t,?_,⟨tb.1,tb.2.1⟩,hw,h1.symm,by omega,by omega,fun hq=>?_⟩
      · unfold ArriveR
        rw [dec_true (p:=ArriveP f e c st s t m) ⟨R,hm,q.1⟩,if_pos rfl]
      · subst h1
        unfold ArriveR
        rw [dec_true (p:=ArriveP f' e' c' st' s' t' _) ⟨R',⟨by omega,hq⟩,q.2⟩,if_pos rfl,h2]
    · rw [dec_false q] at h
      simp at h
  · rw [dec_false p] at h
    simp at h
section
variable {f e c:Int} {st:List Int} {s:Int} {f' e' c':Int} {st':List Int} {t m:Int}
noncomputable abbrev chg (f e c:Int) (st:List Int) (s:Int) (f' e' c':Int) (st':List Int) (t m:Int) (y:List Int):Int × Int × Bool:=ChgR f e c st s (rd y 0) f' e' c' st' (rd y 1) t (rd y 2) m
structure BestTo (f e c:Int) (st:List Int) (s:Int) (f' e' c':Int) (st':List Int) (t m:Int) (x:List (List Int)) (n:Int) (b:List Int × Int) (i0:Int):Prop where
  h0:0≤i0
  h1:i0 < n
  at_:rd_L1 x i0=b.1
  ok:(chg f e c st s f' e' c' st' t m b.1).2.2=true
  val:(chg f e c st s f' e' c' st' t m b.1).2.1=b.2
  ahead:∀ i:Int,0≤i→i < i0→(chg f e c st s f' e' c' st' t m (rd_L1 x i)).2.2=true→b.2 < (chg f e c st s f' e' c' st' t m (rd_L1 x i)).2.1
  behind:∀ i:Int,0≤i→i < n→(chg f e c st s f' e' c' st' t m (rd_L1 x i)).2.2=true→b.2≤(chg f e c st s f' e' c' st' t m (rd_L1 x i)).2.1
theorem best_take (x:List (List Int)) (hx:∀ y,y∈x→(y.length:Int)=3):∀ n:Nat,(n:Int)≤x.length→((bestOf f e c st s f' e' c' st' t m (x.take n) ([],0)).1.length=0∧∀ i:Int,0≤i→i < n→(chg f e c st s f' e' c' st' t m (rd_L1 x i)).2.2=false)∨∃ i0,BestTo f e c st s f' e' c' st' t m x n (bestOf f e c st s f' e' c' st' t m (x.take n) ([],0)) i0:=by
  intro n
  induction n with
  | zero=>intro _;exact .inl ⟨by simp [bestOf],fun i h0 h1=>by omega⟩
  | succ n ih =>
    intro hn;have hm:rd_L1 x n∈x:=get_mem x [] n (by omega) (by omega);have h3:=hx _ hm;have tk:=take_get x [] n (by omega) (by omega);rw [show ((n:Int)+1).toNat=n+1 by omega,show ((n:Int)).toNat=n by omega] at tk
    have key:bestOf f e c st s f' e' c' st' t m (x.take (n+1)) ([],0)=bestStep f e c st s f' e' c' st' t m (bestOf f e c st s f' e' c' st' t m (x.take n) ([],0)) (rd_L1 x n):=by
      rw [tk]
      unfold bestOf
      rw [List.foldl_append]
      rfl
    rw [key];have ih:=ih (by omega);generalize bestOf f e c st s f' e' c' st' t m (x.take n) ([],0)=b at ih;have step:bestStep f e c st s f' e' c' st' t m b (rd_L1 x n)=if (chg f e c st s f' e' c' st' t m (rd_L1 x n)).2.2=true then (if (b.1.length:Int)=0 then (rd_L1 x n,(chg f e c st s f' e' c' st' t m (rd_L1 x n)).2.1) else if (chg f e c st s f' e' c' st' t m (rd_L1 x n)).2.1 < b.2 then (rd_L1 x n,(chg f e c st s f' e' c' st' t m (rd_L1 x n)).2.1) else b) else b:=rfl
    rw [step]
    have fresh:(chg f e c st s f' e' c' st' t m (rd_L1 x n)).2.2=true→(∀ i:Int,0≤i→i < n→(chg f e c st s f' e' c' st' t m (rd_L1 x i)).2.2=true→(chg f e c st s f' e' c' st' t m (rd_L1 x n)).2.1 < (chg f e c st s f' e' c' st' t m (rd_L1 x i)).2.1)→BestTo f e c st s f' e' c' st' t m x ((n+1:Nat):Int) (rd_L1 x n,(chg f e c st s f' e' c' st' t m (rd_L1 x n)).2.1) n:=fun ok hl=>⟨by omega,by omega,rfl,ok,rfl,fun i i0 i1 io=>hl i i0 (by omega) io,fun i i0 i1 io=>by
      by_cases q:i=n
      · subst q;exact Int.le_refl _
      · exact Int.le_of_lt (hl i i0 (by omega) io)⟩
    by_cases ok:(chg f e c st s f' e' c' st' t m (rd_L1 x n)).2.2=true
    · rw [if_pos ok]
      rcases ih with ⟨l0,no⟩|⟨i0,B⟩
      · rw [if_pos (by omega)]
        exact .inr ⟨n,fresh ok (fun i i0 i1 io=>by rw [no i i0 i1] at io;cases io)⟩
      · have hb:(b.1.length:Int)=3:=by rw [← B.at_];exact hx _ (get_mem x [] i0 B.h0 (by have:=B.h1;omega))
        rw [if_neg (by omega)]
        by_cases lt:(chg f e c st s f' e' c' st' t m (rd_L1 x n)).2.1 < b.2
        · rw [if_pos lt]
          exact .inr ⟨n,fresh ok (fun i i0 i1 io=>by have:=B.behind i i0 i1 io;omega)⟩
        · rw [if_neg lt]
          refine .inr ⟨i0,B.h0,by have:=B.h1;omega,B.at_,B.ok,B.val,B.ahead,fun i i0 i1 io=>?_⟩
          by_cases q:i=n
          · subst q;omega
          · exact B.behind i i0 (by omega) io
    · rw [if_neg ok]
      rcases ih with ⟨l0,no⟩|⟨i0,B⟩
      · refine .inl ⟨l0,fun i i0 i1=>?_⟩
        by_cases q:i=n
        · subst q;exact Bool.eq_false_iff.2 ok
        · exact no i i0 (by omega)
      · refine .inr ⟨i0,B.h0,by have:=B.h1;omega,B.at_,B.ok,B.val,B.ahead,fun i i0 i1 io=>?_⟩
        by_cases q:i=n
        · subst q;exact absurd io ok
        · exact B.behind i i0 (by omega) io
theorem best_law {x:List (List Int)} {b:List Int} {v:Int} (h:BestR f e c st s f' e' c' st' t m x=(b,v,true)):BestP f e c st s f' e' c' st' t m x∧∃ i0,BestTo f e c st s f' e' c' st' t m x x.length (b,v) i0:=by
  unfold BestR at h
  by_cases p:BestP f e c st s f' e' c' st' t m x
  · rw [dec_true p,if_pos rfl] at h
    refine ⟨p,?_⟩;have k:=best_take (f:=f) (e:=e) (c:=c) (st:=st) (s:=s) (f':=f') (e':=e') (c':=c') (st':=st') (t:=t) (m:=m) x (fun y hy=>(p.2.2.2.2 y hy).1) x.length (Int.le_refl _);rw [List.take_of_length_le (Nat.le_refl _)] at k
    unfold bestFin at h
    injection h with h1 h
    injection h with h2 h3
    rcases k with ⟨l0,_⟩|⟨i0,B⟩
    · rw [l0] at h3;simp at h3
    · refine ⟨i0,?_⟩
      have:bestOf f e c st s f' e' c' st' t m x ([],0)=(b,v):=Prod.ext h1 h2;rw [this] at B;exact B
  · rw [dec_false p] at h
    simp at h
end
theorem filter_two (p:Int→Bool):∀ l:List Int,(l.filter p).length+(l.filter (fun x => !p x)).length=l.length:=by
  intro l
  induction l with
  | nil=>rfl
  | cons x t ih =>
    simp only [List.filter_cons]
    cases p x <;> simp <;> omega
theorem strict_nodup {l:List Int} (h:l.Pairwise (· < ·)):l.Nodup:=h.imp (fun h=>by omega)
theorem count_two {A B U I:List Int} (ha:A.Pairwise (· < ·)) (hb:B.Pairwise (· < ·)) (hu:U.Pairwise (· < ·)) (hi:I.Pairwise (· < ·)) (mu:∀ x,x∈U↔x∈A∨x∈B) (mi:∀ x,x∈I↔x∈A∧x∈B):U.length+I.length=A.length+B.length:=by
  have e1:I=A.filter (fun x=>decide (x∈B)):=strict_ext hi (ha.filter _) (fun x=>by rw [mi,List.mem_filter,decide_eq_true_iff])
  have nd:(A.filter (fun x => !decide (x∈B)) ++ B).Nodup:=by
    unfold List.Nodup
    rw [List.pairwise_append];refine ⟨(strict_nodup ha).filter _,strict_nodup hb,fun x hx y hy=>?_⟩;rintro rfl;have:=(List.mem_filter.1 hx).2
    simp [hy] at this
  have e2:U.Perm (A.filter (fun x => !decide (x∈B)) ++ B):=(List.perm_ext_iff_of_nodup (strict_nodup hu) nd).2 (fun x=>by
    rw [mu,List.mem_append,List.mem_filter]
    by_cases h:x∈B <;> simp [h])
  have l1:=e2.length_eq;have l2:=filter_two (fun x=>decide (x∈B)) A;rw [List.length_append] at l1;rw [e1]
  omega
def atsOf (f e c:Int) (st:List Int) (s:Int):List Int:=(List.range c.toNat).map (fun (b:Nat)=>tat f e st (b:Int) s)
theorem atsOf_mem {f e c:Int} {st:List Int} {s x:Int}:x∈atsOf f e c st s↔AtOf f e c st s x:=by
  unfold atsOf AtOf
  rw [List.mem_map]
  constructor
  · rintro ⟨b,hb,rfl⟩
    have:=List.mem_range.1 hb;exact ⟨b,by omega,by omega,rfl⟩
  · rintro ⟨b,h0,h1,rfl⟩
    exact ⟨b.toNat,List.mem_range.2 (by omega),by rw [show ((b.toNat:Nat):Int)=b by omega]⟩
theorem atsOf_strict {f e c:Int} {st:List Int} {s:Int} (he:1≤e):(atsOf f e c st s).Pairwise (· < ·):=by
  unfold atsOf
  rw [List.pairwise_map];exact List.pairwise_lt_range.imp (fun h=>tat_rise he st s (by omega))
theorem atsOf_len {f e c:Int} {st:List Int} {s:Int}:(atsOf f e c st s).length=c.toNat:=by
  unfold atsOf
  rw [List.length_map,List.length_range]
theorem qRises_l0_ev (l:List Int) (hl:l.length≤1000) (hp:l.Pairwise (· < ·)):∀ i:Int,1≤i→i≤l.length→Ev (fun k=>laws_qRises.l0 k l i) true:=by
  refine downA ?_ (fun i h0 h1 ih=>?_)
  · exact Ev.step (fun k=>by simp only [laws_qRises.l0];rw [if_neg (by omega)]) (Ev.now _)
  · have up:=rd_rise hp i (by omega) h1
    exact Ev.step (fun k=>by simp only [laws_qRises.l0];rw [if_pos h1,w64 (x:=i - 1) (by omega) (by omega),if_pos (by omega),if_pos (by omega),if_pos (by omega),if_neg (by omega),w64 (x:=i+1) (by omega) (by omega)]) ih
theorem qRises_ev (l:List Int) (hl:l.length≤1000) (hp:l.Pairwise (· < ·)):Ev (fun k=>laws_qRises.f k l) true:=by
  unfold laws_qRises.f
  by_cases c:1≤(l.length:Int)
  · exact qRises_l0_ev l hl hp 1 (by omega) c
  · exact Ev.step (fun k=>by simp only [laws_qRises.l0];rw [if_neg (by omega)]) (Ev.now _)
theorem arr_get (zs:List Int) (j:Nat) (h:j < zs.length):zs.toArray[j]! = zs[j]:=by simp [h]
theorem compact_mem (zs:List Int) (x:Int):x∈Lib.compact zs↔x∈zs:=by
  unfold Lib.compact Lib.compactUpTo
  rw [List.mem_map]
  constructor
  · rintro ⟨j,hj,rfl⟩
    have h1:=List.mem_range.1 (List.mem_filter.1 hj).1;rw [arr_get zs j h1];exact List.getElem_mem h1
  · intro hx
    obtain ⟨j,hj,rfl⟩:=List.getElem_of_mem hx
    have key:∀ j (h:j < zs.length),∃ a,a∈(List.range zs.length).filter (Lib.keeps zs.toArray)∧zs.toArray[a]! = zs[j]:=by
      intro j
      induction j with
      | zero=>intro h;exact ⟨0,List.mem_filter.2 ⟨List.mem_range.2 h,by simp [Lib.keeps]⟩,arr_get zs 0 h⟩
      | succ j ih =>
        intro h
        by_cases e:zs[j+1]=zs[j]
        · rw [e];exact ih (by omega)
        · refine ⟨j+1,List.mem_filter.2 ⟨List.mem_range.2 h,?_⟩,arr_get zs _ h⟩
          unfold Lib.keeps
          rw [decide_eq_true_iff]
          right
          rw [arr_get zs _ h,show j+1 - 1=j by omega,arr_get zs j (by omega)];exact e
    exact key j hj
theorem compact_strict (zs:List Int) (h:zs.Pairwise (· ≤ ·)):(Lib.compact zs).Pairwise (· < ·):=by
  unfold Lib.compact Lib.compactUpTo
  rw [List.pairwise_map]
  have le:∀ i j (hi:i < zs.length) (hj:j < zs.length),i≤j→zs[i]≤zs[j]:=by
    intro i j hi hj hij
    by_cases e:i=j
    · subst e;omega
    · exact List.pairwise_iff_getElem.1 h i j hi hj (by omega)
  refine List.Pairwise.imp_of_mem ?_ (List.Pairwise.filter _ (List.pairwise_lt_range (n:=zs.length)));intro a b ha hb hab;obtain ⟨hb1,hb2⟩:=List.mem_filter.1 hb;have ha1:=List.mem_range.1 (List.mem_filter.1 ha).1;have hb1:=List.mem_range.1 hb1
  unfold Lib.keeps at hb2
  rw [decide_eq_true_iff] at hb2;rw [arr_get zs a ha1,arr_get zs b hb1]
  rcases hb2 with hb2|hb2
  · omega
  · rw [arr_get zs b hb1,arr_get zs (b - 1) (by omega)] at hb2
    have h1:=le a (b - 1) ha1 (by omega) (by omega);have h2:=le (b - 1) b (by omega) hb1 (by omega)
    omega
def sorted1 (l:List Int):List Int:=Lib.compact (l.mergeSort fun x y=>decide (x≤y))
theorem sorted1_strict (l:List Int):(sorted1 l).Pairwise (· < ·):=by
  refine compact_strict _ ?_;have h:=List.pairwise_mergeSort (le:=fun (x y:Int)=>decide (x≤y)) (fun a b c h1 h2=>by simp at *;omega) (fun a b=>by simp;omega) l;exact h.imp (fun h=>by simpa using h)
theorem sorted1_mem (l:List Int) (x:Int):x∈sorted1 l↔x∈l:=by
  unfold sorted1
  rw [compact_mem];exact (List.mergeSort_perm l _).mem_iff
theorem l1Has_l0_ev (l:List Int) (x:Int) (hl:l.length≤1048576):∀ i:Int,0≤i→i≤l.length→Ev (fun k=>spec_l1Has.l0 k x l l.length i) (decide (x∈l.drop i.toNat)):=by
  refine downI ?_ (fun i h0 h1 ih=>?_)
  · refine Ev.step (fun k=>by simp only [spec_l1Has.l0];rw [if_neg (by omega)]) ?_
    rw [List.drop_of_length_le (by omega)];exact Ev.now _
  · rw [drop_get l 0 i h0 h1]
    by_cases e:rd l i=x
    · rw [decide_eq_true (show x∈l.getD i.toNat 0 :: l.drop (i+1).toNat from by rw [List.mem_cons];exact .inl e.symm)]
      exact Ev.step (fun k=>by simp only [spec_l1Has.l0];rw [if_pos h1,if_pos h0,if_pos h1,if_pos e]) (Ev.now _)
    · have e2:decide (x∈l.getD i.toNat 0 :: l.drop (i+1).toNat)=decide (x∈l.drop (i+1).toNat):=by
        rw [decide_eq_decide,List.mem_cons];exact ⟨fun h=>h.resolve_left (fun h=>e h.symm),.inr⟩
      rw [e2];exact Ev.step (fun k=>by simp only [spec_l1Has.l0];rw [if_pos h1,if_pos h0,if_pos h1,if_neg e,w64 (x:=i+1) (by omega) (by omega)]) ih
theorem l1Has_ev (l:List Int) (x:Int) (hl:l.length≤1048576):Ev (fun k=>spec_l1Has.f k l x) (decide (x∈l)):=by
  have h:=l1Has_l0_ev l x hl 0 (by omega) (by omega);simp only [Int.toNat_zero,List.drop_zero] at h;exact h
theorem l1Put_l0_ev (l:List Int) (x:Int) (hl:l.length≤1048576) (hs:l.Pairwise (· < ·)) (hx:x ∉ l):∀ i:Int,0≤i→i≤l.length→(∀ y,y∈l.take i.toNat→y < x)→∃ r:List Int,Ev (fun k=>spec_l1Put.l0 k l x i) r∧r.Pairwise (· < ·)∧(∀ y,y∈r↔y=x∨y∈l)∧r.length=l.length+1:=by
  have fin:∀ i:Nat,i≤l.length→(∀ y,y∈l.take i→y < x)→(∀ y,y∈l.drop i→x < y)→(l.take i ++ [x] ++ l.drop i).Pairwise (· < ·)∧(∀ y,y∈l.take i ++ [x] ++ l.drop i↔y=x∨y∈l)∧(l.take i ++ [x] ++ l.drop i).length=l.length+1:=by
    intro i hi h1 h2;refine ⟨?_,fun y=>?_,?_⟩
    · rw [List.pairwise_append,List.pairwise_append]
      refine ⟨⟨hs.sublist (List.take_sublist _ _),by simp,fun a ha b hb=>?_⟩,hs.sublist (List.drop_sublist _ _),fun a ha b hb=>?_⟩
      · rw [List.mem_singleton.1 hb];exact h1 a ha
      · have hbx:=h2 b hb
        rcases List.mem_append.1 ha with ha|ha
        · have:=h1 a ha;omega
        · rw [List.mem_singleton.1 ha];exact hbx
    · have e:y∈l↔y∈l.take i∨y∈l.drop i:=by
        rw [← List.mem_append,List.take_append_drop]
      rw [e,List.mem_append,List.mem_append,List.mem_singleton]
      constructor
      · rintro ((h|h)|h)
        · exact .inr (.inl h)
        · exact .inl h
        · exact .inr (.inr h)
      · rintro (h|h|h)
        · exact .inl (.inr h)
        · exact .inl (.inl h)
        · exact .inr h
    · simp only [List.length_append,List.length_take,List.length_drop,List.length_singleton]
      omega
  refine downI (fun h=>?_) (fun i h0 h1 ih h=>?_)
  · have e:((l.length:Int)).toNat=l.length:=by omega
    refine ⟨l.take l.length ++ [x] ++ l.drop l.length,?_,fin l.length (Nat.le_refl _) (by rw [e] at h;exact h) (by simp)⟩;refine Ev.step (fun k=>by simp only [spec_l1Put.l0,Option.bind_some];rw [if_neg (by omega),if_pos (by omega),if_pos (by omega),if_pos (by simp;omega),if_pos (by simp;omega),if_pos (by simp;omega),e]) ?_;exact Ev.now _
  · have hd:=drop_get l 0 i h0 h1
    have hge:rd l i≠x:=fun e=>hx (by rw [← e];exact get_mem l 0 i h0 h1)
    by_cases c:rd l i < x
    · obtain ⟨r,a1,a2⟩:=ih (by
        intro y hy;rw [show (i+1).toNat=i.toNat+1 by omega,List.take_add_one,List.mem_append] at hy
        rcases hy with hy|hy
        · exact h y hy
        · have hg:l[i.toNat]?=some (rd l i):=by
            unfold rd
            rw [List.getD_eq_getElem?_getD,List.getElem?_eq_getElem (show i.toNat < l.length by omega)]
            rfl
          rw [hg] at hy
          simp at hy
          rw [hy];exact c)
      exact ⟨r,Ev.step (fun k=>by simp only [spec_l1Put.l0];rw [if_pos h1,if_pos h0,if_pos c,w64 (x:=i+1) (by omega) (by omega)]) a1,a2⟩
    · have hgt:∀ y,y∈l.drop i.toNat→x < y:=by
        intro y hy;have hp:=hs.sublist (List.drop_sublist i.toNat l);rw [hd] at hp hy;have hr:l.getD i.toNat 0=rd l i:=rfl;rw [hr] at hp hy;obtain ⟨p1,_⟩:=List.pairwise_cons.1 hp
        rcases List.mem_cons.1 hy with rfl|hy
        · omega
        · have:=p1 y hy;omega
      refine ⟨l.take i.toNat ++ [x] ++ l.drop i.toNat,?_,fin i.toNat (by omega) h hgt⟩;refine Ev.step (fun k=>by simp only [spec_l1Put.l0,Option.bind_some];rw [if_pos h1,if_pos h0,if_neg c,if_neg hge,if_pos (by omega),if_pos (by simp;omega),if_pos (by simp;omega),if_pos (by simp;omega)]) ?_;exact Ev.now _
theorem l1Put_ev (l:List Int) (x:Int) (hl:l.length≤1048576) (hs:l.Pairwise (· < ·)) (hx:x ∉ l):∃ r:List Int,Ev (fun k=>spec_l1Put.f k l x) r∧r.Pairwise (· < ·)∧(∀ y,y∈r↔y=x∨y∈l)∧r.length=l.length+1 :=
  l1Put_l0_ev l x hl hs hx 0 (by omega) (by omega) (by simp)
abbrev rdL (ls:List S30) (i:Int):S30:=rd_T30 ls i
abbrev GoodAt (ls:List S30) (ss:List Int) (j:Int):Prop:=GoodLine (rdL ls j).f0 (rdL ls j).f1 (rdL ls j).f2 (rdL ls j).f3∧StopOf (rdL ls j).f3 (rd ss j)
def TimesFrom (ls:List S30) (ss:List Int) (i x:Int):Prop := ∃ j b,i≤j∧j < ls.length∧0≤b∧b < (rdL ls j).f2∧x=tat (rdL ls j).f0 (rdL ls j).f1 (rdL ls j).f3 b (rd ss j)
structure Lines (ls:List S30) (ss:List Int):Prop where
  many:1≤(ls.length:Int)∧(ls.length:Int)≤5
  same:ss.length=ls.length
  good:∀ j:Int,0≤j→j < ls.length→GoodAt ls ss j
theorem times_bd {ls:List S30} {ss:List Int} (L:Lines ls ss) {i x:Int} (h0:0≤i) (h:TimesFrom ls ss i x):0≤x∧x≤2500:=by
  obtain ⟨j,b,a1,a2,a3,a4,rfl⟩:=h;have g:=L.good j (by omega) a2;have t:=tat_bd g.1 ⟨a3,a4⟩ g.2;exact ⟨t.1,t.2.1⟩
theorem specTimes_ev {ls:List S30} {ss:List Int} (L:Lines ls ss):∀ i:Int,0≤i→i≤ls.length→∀ acc:List Int,acc.Pairwise (· < ·)→(acc.length:Int)≤60*i →
    ∃ r:List Int,Ev (fun k=>spec_buTimes.l1 k ss acc ls ls.length i) (r,true)∧r.Pairwise (· < ·)∧(∀ x,x∈r↔x∈acc∨TimesFrom ls ss i x)∧(r.length:Int)≤300:=by
  have hm:=L.many;refine downI (fun acc hs hl=>?_) (fun i h0 h1 ih acc hs hl=>?_)
  · refine ⟨acc,Ev.step (fun k=>by simp only [spec_buTimes.l1];rw [if_neg (by omega)]) (Ev.now _),hs,fun x=>⟨.inl,?_⟩,by omega⟩
    rintro (h|⟨j,b,a1,a2,_⟩)
    · exact h
    · omega
  · have g:=L.good i h0 h1
    have hc:=g.1.count;have hss:i < (ss.length:Int):=by rw [L.same];exact h1
    have inner:∀ b:Int,0≤b→b≤(rdL ls i).f2→∀ acc:List Int,acc.Pairwise (· < ·)→(acc.length:Int)≤60*i+b →
        ∃ r:List Int,Ev (fun k=>spec_buTimes.l2 k ss acc i b ls ls.length i (rdL ls i).f0 (rdL ls i).f1 (rdL ls i).f2 (rdL ls i).f3) (r,true)∧r.Pairwise (· < ·)∧(∀ x,x∈r↔x∈acc∨(∃ b',b≤b'∧b' < (rdL ls i).f2∧x=tat (rdL ls i).f0 (rdL ls i).f1 (rdL ls i).f3 b' (rd ss i))∨TimesFrom ls ss (i+1) x)∧(r.length:Int)≤300:=by
      refine downI (fun acc hs hl=>?_) (fun b b0 b1 ihb acc hs hl=>?_)
      · obtain ⟨r,a1,a2,a3,a4⟩:=ih acc hs (by omega)
        refine ⟨r,Ev.step (fun k=>by simp only [spec_buTimes.l2];rw [if_neg (by omega),w64 (x:=i+1) (by omega) (by omega)]) a1,a2,fun x=>?_,a4⟩;rw [a3]
        constructor
        · rintro (h|h)
          · exact .inl h
          · exact .inr (.inr h)
        · rintro (h|⟨b',h2,h3,_⟩|h)
          · exact .inl h
          · omega
          · exact .inr h
      · have t:=buTime_eq g.1 ⟨b0,b1⟩ g.2
        have hl2:acc.length≤1048576:=by omega
        by_cases c:tat (rdL ls i).f0 (rdL ls i).f1 (rdL ls i).f3 b (rd ss i)∈acc
        · obtain ⟨r,a1,a2,a3,a4⟩:=ihb acc hs (by omega)
          refine ⟨r,Ev.step (fun k=>by simp only [spec_buTimes.l2];rw [if_pos b1,if_pos h0,if_pos hss,t,Option.bind_some]) (Ev.bind (l1Has_ev acc _ hl2) ?_),a2,fun x=>?_,a4⟩
          · exact Ev.congr (fun k=>by rw [if_pos (decide_eq_true c),w64 (x:=b+1) (by omega) (by omega)]) a1
          · rw [a3]
            constructor
            · rintro (h|⟨b',h2,h3,h4⟩|h)
              · exact .inl h
              · exact .inr (.inl ⟨b',by omega,h3,h4⟩)
              · exact .inr (.inr h)
            · rintro (h|⟨b',h2,h3,h4⟩|h)
              · exact .inl h
              · by_cases e:b'=b
                · subst e;rw [h4];exact .inl c
                · exact .inr (.inl ⟨b',by omega,h3,h4⟩)
              · exact .inr (.inr h)
        · obtain ⟨q,p1,p2,p3,p4⟩:=l1Put_ev acc _ hl2 hs c
          obtain ⟨r,a1,a2,a3,a4⟩:=ihb q p2 (by omega);refine ⟨r,Ev.step (fun k=>by simp only [spec_buTimes.l2];rw [if_pos b1,if_pos h0,if_pos hss,t,Option.bind_some]) (Ev.bind (l1Has_ev acc _ hl2) ?_),a2,fun x=>?_,a4⟩
          · refine Ev.congr (fun k=>by rw [if_neg (by rw [decide_eq_false c];simp)]) (Ev.bind p1 ?_)
            exact Ev.congr (fun k=>by rw [w64 (x:=b+1) (by omega) (by omega)]) a1
          · rw [a3,p3]
            constructor
            · rintro ((h|h)|⟨b',h2,h3,h4⟩|h)
              · exact .inr (.inl ⟨b,by omega,b1,h⟩)
              · exact .inl h
              · exact .inr (.inl ⟨b',by omega,h3,h4⟩)
              · exact .inr (.inr h)
            · rintro (h|⟨b',h2,h3,h4⟩|h)
              · exact .inl (.inr h)
              · by_cases e:b'=b
                · subst e;exact .inl (.inl h4)
                · exact .inr (.inl ⟨b',by omega,h3,h4⟩)
              · exact .inr (.inr h)
    obtain ⟨r,a1,a2,a3,a4⟩:=inner 0 (by omega) (by omega) acc hs (by omega);refine ⟨r,Ev.step (fun k=>by simp only [spec_buTimes.l1];rw [if_pos h1,if_pos h0,if_pos h1]) a1,a2,fun x=>?_,a4⟩;rw [a3]
    constructor
    · rintro (h|⟨b',h2,h3,h4⟩|⟨j,b,h2,h3⟩)
      · exact .inl h
      · exact .inr ⟨i,b',by omega,h1,h2,h3,h4⟩
      · exact .inr ⟨j,b,by omega,h3⟩
    · rintro (h|⟨j,b,h2,h3,h4,h5,h6⟩)
      · exact .inl h
      · by_cases e:j=i
        · subst e;exact .inr (.inl ⟨b,h4,h5,h6⟩)
        · exact .inr (.inr ⟨j,b,by omega,h3,h4,h5,h6⟩)
theorem implTimes_ev {ls:List S30} {ss:List Int} (L:Lines ls ss):∀ i:Int,0≤i→i≤ls.length→∀ acc:List Int,(acc.length:Int)≤60*i →
    ∃ q:List Int,Ev (fun k=>impl_timesOfLines.l0 k ss acc ls ls.length i) (sorted1 q)∧(∀ x,x∈q↔x∈acc∨TimesFrom ls ss i x)∧(q.length:Int)≤300:=by
  have hm:=L.many;refine downI (fun acc hl=>?_) (fun i h0 h1 ih acc hl=>?_)
  · refine ⟨acc,Ev.step (fun k=>by simp only [impl_timesOfLines.l0,slices_Sort_int_int.f,slices_Compact_int_int.f];rw [if_neg (by omega),if_pos (by omega),Option.bind_some,Option.bind_some];rfl) (Ev.now _),fun x=>⟨.inl,?_⟩,by omega⟩
    rintro (h|⟨j,b,a1,a2,_⟩)
    · exact h
    · omega
  · have g:=L.good i h0 h1
    have hc:=g.1.count;have hss:i < (ss.length:Int):=by rw [L.same];exact h1
    have inner:∀ b:Int,0≤b→b≤(rdL ls i).f2→∀ acc:List Int,(acc.length:Int)≤60*i+b →
        ∃ q:List Int,Ev (fun k=>impl_timesOfLines.l1 k ss acc i ls ls.length i (rdL ls i).f2 b (rdL ls i).f0 (rdL ls i).f1 (rdL ls i).f2 (rdL ls i).f3) (sorted1 q)∧(∀ x,x∈q↔x∈acc∨(∃ b',b≤b'∧b' < (rdL ls i).f2∧x=tat (rdL ls i).f0 (rdL ls i).f1 (rdL ls i).f3 b' (rd ss i))∨TimesFrom ls ss (i+1) x)∧(q.length:Int)≤300:=by
      refine downI (fun acc hl=>?_) (fun b b0 b1 ihb acc hl=>?_)
      · obtain ⟨r,a1,a3,a4⟩:=ih acc (by omega)
        refine ⟨r,Ev.step (fun k=>by simp only [impl_timesOfLines.l1];rw [if_neg (by omega),w64 (x:=i+1) (by omega) (by omega)]) a1,fun x=>?_,a4⟩;rw [a3]
        constructor
        · rintro (h|h)
          · exact .inl h
          · exact .inr (.inr h)
        · rintro (h|⟨b',h2,h3,_⟩|h)
          · exact .inl h
          · omega
          · exact .inr h
      · have t:=timeAt_eq g.1 ⟨b0,b1⟩ g.2
        obtain ⟨r,a1,a3,a4⟩:=ihb (acc ++ [tat (rdL ls i).f0 (rdL ls i).f1 (rdL ls i).f3 b (rd ss i)]) (by simp;omega);refine ⟨r,Ev.step (fun k=>by simp only [impl_timesOfLines.l1];rw [if_pos b1,if_pos h0,if_pos hss,t,Option.bind_some,if_pos (by omega),w64 (x:=b+1) (by omega) (by omega)]) a1,fun x=>?_,a4⟩;rw [a3,List.mem_append,List.mem_singleton]
        constructor
        · rintro ((h|h)|⟨b',h2,h3,h4⟩|h)
          · exact .inl h
          · exact .inr (.inl ⟨b,by omega,b1,h⟩)
          · exact .inr (.inl ⟨b',by omega,h3,h4⟩)
          · exact .inr (.inr h)
        · rintro (h|⟨b',h2,h3,h4⟩|h)
          · exact .inl (.inl h)
          · by_cases e:b'=b
            · subst e;exact .inl (.inr h4)
            · exact .inr (.inl ⟨b',by omega,h3,h4⟩)
          · exact .inr (.inr h)
    obtain ⟨r,a1,a3,a4⟩:=inner 0 (by omega) (by omega) acc (by omega);refine ⟨r,Ev.step (fun k=>by simp only [impl_timesOfLines.l0];rw [if_pos h1,if_pos h0,if_pos h1]) a1,fun x=>?_,a4⟩;rw [a3]
    constructor
    · rintro (h|⟨b',h2,h3,h4⟩|⟨j,b,h2,h3⟩)
      · exact .inl h
      · exact .inr ⟨i,b',by omega,h1,h2,h3,h4⟩
      · exact .inr ⟨j,b,by omega,h3⟩
    · rintro (h|⟨j,b,h2,h3,h4,h5,h6⟩)
      · exact .inl h
      · by_cases e:j=i
        · subst e;exact .inr (.inl ⟨b,h4,h5,h6⟩)
        · exact .inr (.inr ⟨j,b,by omega,h3,h4,h5,h6⟩)
theorem times_good {ls:List S30} {ss:List Int} (L:Lines ls ss):∃ r:List Int,Ev (fun k=>spec_buTimes.l1 k ss [] ls ls.length 0) (r,true)∧Ev (fun k=>impl_timesOfLines.f k ls ss) r∧(∀ x,x∈r→0≤x∧x≤2500)∧(r.length:Int)≤300∧r.Pairwise (· < ·)∧∀ x,x∈r↔TimesFrom ls ss 0 x:=by
  have hm:=L.many;obtain ⟨r,a1,a2,a3,a4⟩:=specTimes_ev L 0 (by omega) (by omega) [] (by simp) (by simp);obtain ⟨q,b1,b2,b3⟩:=implTimes_ev L 0 (by omega) (by omega) [] (by simp);have e:sorted1 q=r:=strict_ext (sorted1_strict q) a2 (fun x=>by rw [sorted1_mem,b2,a3]);rw [e] at b1;have a5:∀ x,x∈r↔TimesFrom ls ss 0 x:=fun x=>by rw [a3];simp
  exact ⟨r,a1,b1,fun x hx=>times_bd L (by omega) ((a5 x).1 hx),a4,a2,a5⟩
theorem areLines_l0_ev {ls:List S30} {ss:List Int} (hm:(ls.length:Int)≤5) (hs:ss.length=ls.length):∀ i:Int,0≤i→i≤ls.length→∃ b:Bool,Ev (fun k=>impl_areLines.l0 k ss ls ls.length i) b∧(b=true↔∀ j:Int,i≤j→j < ls.length→GoodAt ls ss j):=by
  refine downI ?_ (fun i h0 h1 ih=>?_)
  · exact ⟨true,Ev.step (fun k=>by simp only [impl_areLines.l0];rw [if_neg (by omega)]) (Ev.now _),by simp;intro j hj hj2;omega⟩
  · have hss:i < (ss.length:Int):=by omega
    obtain ⟨b,a1,a2⟩:=ih
    by_cases g:GoodAt ls ss i
    · refine ⟨b,Ev.step (fun k=>by simp only [impl_areLines.l0];rw [if_pos h1,if_pos h0,if_pos h1,if_pos hss]) (Ev.bind (hasStops1_ev _ _ _ _ _) ?_),?_⟩
      · exact Ev.congr (fun k=>by rw [dec_true g,if_pos rfl,w64 (x:=i+1) (by omega) (by omega)]) a1
      · rw [a2]
        refine ⟨fun h j j0 j1=>?_,fun h j j0 j1=>h j (by omega) j1⟩
        by_cases e:j=i
        · subst e;exact g
        · exact h j (by omega) j1
    · refine ⟨false,Ev.step (fun k=>by simp only [impl_areLines.l0];rw [if_pos h1,if_pos h0,if_pos h1,if_pos hss]) (Ev.bind (hasStops1_ev _ _ _ _ _) ?_),⟨fun h=>(by cases h),fun h=>absurd (h i (by omega) h1) g⟩⟩
      exact Ev.congr (fun k=>by rw [dec_false g,if_neg (by simp)]) (Ev.now _)
theorem specGood_l0_ev {ls:List S30} {ss:List Int} (hm:(ls.length:Int)≤5) (hs:ss.length=ls.length):∀ i:Int,0≤i→i≤ls.length→((∀ j:Int,i≤j→j < ls.length→GoodAt ls ss j)→∀ r,Ev (fun k=>spec_buTimes.l1 k ss [] ls ls.length 0) r→Ev (fun k=>spec_buTimes.l0 k ls ss ls ls.length i) r)∧(¬ (∀ j:Int,i≤j→j < ls.length→GoodAt ls ss j)→Ev (fun k=>spec_buTimes.l0 k ls ss ls ls.length i) ([],false)):=by
  refine downI ?_ (fun i h0 h1 ih=>?_)
  · refine ⟨fun _ r hr=>Ev.step (fun k=>by simp only [spec_buTimes.l0];rw [if_neg (by omega)]) hr,fun h=>absurd (fun j j0 j1=>?_) h⟩
    omega
  · have hss:i < (ss.length:Int):=by omega
    obtain ⟨a1,a2⟩:=ih
    by_cases g:GoodAt ls ss i
    · refine ⟨fun h r hr=>Ev.step (fun k=>by simp only [spec_buTimes.l0];rw [if_pos h1,if_pos h0,if_pos h1,if_pos hss]) (Ev.bind (buStop_ev _ _ _ _ _) ?_),fun h=>Ev.step (fun k=>by simp only [spec_buTimes.l0];rw [if_pos h1,if_pos h0,if_pos h1,if_pos hss]) (Ev.bind (buStop_ev _ _ _ _ _) ?_)⟩
      · exact Ev.congr (fun k=>by rw [dec_true g,if_pos rfl,w64 (x:=i+1) (by omega) (by omega)]) (a1 (fun j j0 j1=>h j (by omega) j1) r hr)
      · refine Ev.congr (fun k=>by rw [dec_true g,if_pos rfl,w64 (x:=i+1) (by omega) (by omega)]) (a2 (fun h2=>h (fun j j0 j1=>?_)))
        by_cases e:j=i
        · subst e;exact g
        · exact h2 j (by omega) j1
    · refine ⟨fun h=>absurd (h i (by omega) h1) g,fun h=>Ev.step (fun k=>by simp only [spec_buTimes.l0];rw [if_pos h1,if_pos h0,if_pos h1,if_pos hss]) (Ev.bind (buStop_ev _ _ _ _ _) ?_)⟩
      exact Ev.congr (fun k=>by rw [dec_false g,if_neg (by simp)]) (Ev.now _)
theorem times_full (ls:List S30) (ss:List Int) (hl:ls.length≤1048576) (hss:ss.length≤1048576):∃ (r:List Int) (q:Bool),Ev (fun k=>spec_buTimes.f k ls ss) (r,q)∧Ev (fun k=>impl_areLines.f k ls ss) q∧(q=true→Ev (fun k=>impl_timesOfLines.f k ls ss) r)∧(q=false→r=[])∧(∀ x,x∈r→0≤x∧x≤2500)∧(r.length:Int)≤300∧(q=true→Lines ls ss∧r.Pairwise (· < ·)∧∀ x,x∈r↔TimesFrom ls ss 0 x)∧(Lines ls ss→q=true):=by
  by_cases hm:1≤(ls.length:Int)∧(ls.length:Int)≤5
  · by_cases hs:ss.length=ls.length
    · obtain ⟨b,a1,a2⟩:=areLines_l0_ev (ls:=ls) (ss:=ss) hm.2 hs 0 (by omega) (by omega)
      have c:=specGood_l0_ev (ls:=ls) (ss:=ss) hm.2 hs 0 (by omega) (by omega)
      have im:Ev (fun k=>impl_areLines.f k ls ss) b:=by
        unfold impl_areLines.f
        refine Ev.congr (fun k=>by rw [within_eq,Option.bind_some,decide_eq_true hm,if_pos rfl]) ?_;exact Ev.step (fun k=>by simp only [impl_areLines.j0];rw [if_neg (by simp [hs])]) a1
      have sp:∀ {r},Ev (fun k=>spec_buTimes.l0 k ls ss ls ls.length 0) r→Ev (fun k=>spec_buTimes.f k ls ss) r:=by
        intro r hr
        unfold spec_buTimes.f
        refine Ev.congr (fun k=>by rw [in_eq,Option.bind_some,decide_eq_true hm,if_pos rfl]) ?_;exact Ev.step (fun k=>by simp only [spec_buTimes.j0];rw [if_neg (by simp [hs])]) hr
      cases b with
      | true =>
        have g:=a2.1 rfl;obtain ⟨r,b1,b2,b3,b4,b5,b6⟩:=times_good (ls:=ls) (ss:=ss) ⟨hm,hs,g⟩;exact ⟨r,true,sp (c.1 g _ b1),im,fun _=>b2,fun h=>(by cases h),b3,b4,fun _=>⟨⟨hm,hs,g⟩,b5,b6⟩,fun _=>rfl⟩
      | false =>
        have g:¬ ∀ j:Int,0≤j→j < ls.length→GoodAt ls ss j:=fun h=>by have:=a2.2 h;cases this
        exact ⟨[],false,sp (c.2 g),im,fun h=>(by cases h),fun _=>rfl,by simp,by simp,fun h=>(by cases h),fun L=>absurd L.good g⟩
    · have hs2:(((ss.length:Int)) != (ls.length:Int))=true:=by simp;omega
      refine ⟨[],false,?_,?_,fun h=>(by cases h),fun _=>rfl,by simp,by simp,fun h=>(by cases h),fun L=>absurd L.same hs⟩
      · unfold spec_buTimes.f
        refine Ev.congr (fun k=>by rw [in_eq,Option.bind_some,decide_eq_true hm,if_pos rfl]) ?_;exact Ev.step (fun k=>by simp only [spec_buTimes.j0];rw [if_pos hs2]) (Ev.now _)
      · unfold impl_areLines.f
        refine Ev.congr (fun k=>by rw [within_eq,Option.bind_some,decide_eq_true hm,if_pos rfl]) ?_;exact Ev.step (fun k=>by simp only [impl_areLines.j0];rw [if_pos hs2]) (Ev.now _)
  · refine ⟨[],false,?_,?_,fun h=>(by cases h),fun _=>rfl,by simp,by simp,fun h=>(by cases h),fun L=>absurd L.many hm⟩
    · unfold spec_buTimes.f
      refine Ev.congr (fun k=>by rw [in_eq,Option.bind_some,decide_eq_false hm,if_neg (by simp)]) ?_;exact Ev.step (fun k=>by simp only [spec_buTimes.j0];rw [if_pos trivial]) (Ev.now _)
    · unfold impl_areLines.f
      refine Ev.congr (fun k=>by rw [within_eq,Option.bind_some,decide_eq_false hm,if_neg (by simp)]) ?_;exact Ev.step (fun k=>by simp only [impl_areLines.j0];rw [if_pos trivial]) (Ev.now _)
structure GapTo (r:List Int) (n m b i0:Int):Prop where
  h0:1≤i0
  h1:i0 < n
  big:rd r i0 - rd r (i0 - 1)=m
  at_:rd r (i0 - 1)=b
  ahead:∀ i:Int,1≤i→i < i0→rd r i - rd r (i - 1) < m
  behind:∀ i:Int,i0≤i→i < n→rd r i - rd r (i - 1)≤m
theorem gap_l0_full (r:List Int) (hb:∀ x,x∈r→0≤x∧x≤2500) (hl:(r.length:Int)≤300) (hp:r.Pairwise (· < ·)):∀ i:Int,1≤i→i≤r.length→∀ m b:Int,((i=1∧m=0)∨∃ i0,GapTo r i m b i0)→∃ m' b':Int,Ev (fun k=>spec_LongestGap.l0 k r m b i) (m',b',true)∧Ev (fun k=>impl_LongestGap.l0 k r m b i) (m',b',decide ((r.length:Int) > 1))∧((r.length:Int)≤1∨∃ i0,GapTo r r.length m' b' i0):=by
  refine downA (fun m b hg=>?_) (fun i h0 h1 ih m b hg=>?_)
  · refine ⟨m,b,Ev.step (fun k=>by simp only [spec_LongestGap.l0];rw [if_neg (by omega)]) (Ev.now _),Ev.step (fun k=>by simp only [impl_LongestGap.l0];rw [if_neg (by omega)]) (Ev.now _),?_⟩
    rcases hg with hg|hg
    · exact .inl (by omega)
    · exact .inr hg
  · have x1:=hb _ (get_mem r 0 i (by omega) h1)
    have x2:=hb _ (get_mem r 0 (i - 1) (by omega) (by omega));have up:=rd_rise hp i (by omega) h1;have e1:wrap64 (i - 1)=i - 1:=w64 (by omega) (by omega);have e2:wrap64 (rd r i - rd r (i - 1))=rd r i - rd r (i - 1):=w64 (by change _≤r.getD _ 0 - r.getD _ 0;omega) (by change r.getD _ 0 - r.getD _ 0≤_;omega);have e3:wrap64 (i+1)=i+1:=w64 (by omega) (by omega)
    by_cases c:rd r i - rd r (i - 1) > m
    · obtain ⟨m',b',a1,a2,a3⟩:=ih (rd r i - rd r (i - 1)) (rd r (i - 1)) (.inr ⟨i,by omega,by omega,rfl,rfl,fun j j0 j1=>by
        rcases hg with ⟨g1,_⟩|⟨i0,g⟩
        · omega
        · by_cases q:j < i0
          · have:=g.ahead j j0 q;omega
          · have:=g.behind j (by omega) j1;omega,fun j j0 j1=>by
        obtain rfl:j=i:=by omega
        exact Int.le_refl _⟩)
      exact ⟨m',b',Ev.step (fun k=>by simp only [spec_LongestGap.l0];rw [if_pos h1,if_pos (by omega),e1,if_pos (by omega),if_pos (by omega),e2,if_pos c,e3]) a1,Ev.step (fun k=>by simp only [impl_LongestGap.l0];rw [if_pos h1,if_pos (by omega),e1,if_pos (by omega),if_pos (by omega),e2,if_pos c,e3]) a2,a3⟩
    · obtain ⟨m',b',a1,a2,a3⟩:=ih m b (by
        rcases hg with ⟨g1,g2⟩|⟨i0,g⟩
        · subst g1;omega
        · refine .inr ⟨i0,g.h0,by have:=g.h1;omega,g.big,g.at_,g.ahead,fun j j0 j1=>?_⟩
          by_cases q:j=i
          · subst q;omega
          · exact g.behind j j0 (by omega))
      exact ⟨m',b',Ev.step (fun k=>by simp only [spec_LongestGap.l0];rw [if_pos h1,if_pos (by omega),e1,if_pos (by omega),if_pos (by omega),e2,if_neg c,e3]) a1,Ev.step (fun k=>by simp only [impl_LongestGap.l0];rw [if_pos h1,if_pos (by omega),e1,if_pos (by omega),if_pos (by omega),e2,if_neg c,e3]) a2,a3⟩
theorem timesOfLines_ev {ls:List S30} {ss:List Int} {r:List Int} {q:Bool} (a1:Ev (fun k=>spec_buTimes.f k ls ss) (r,q)) (a2:Ev (fun k=>impl_areLines.f k ls ss) q) (a3:q=true→Ev (fun k=>impl_timesOfLines.f k ls ss) r) (a4:q=false→r=[]):Ev (fun k=>spec_TimesOfLines.f k ls ss) (r,q)∧Ev (fun k=>impl_TimesOfLines.f k ls ss) (r,q):=by
  constructor
  · unfold spec_TimesOfLines.f
    exact Ev.bind a1 (Ev.now _)
  · unfold impl_TimesOfLines.f
    refine Ev.bind a2 ?_
    cases q with
    | true=>refine Ev.congr (fun k=>by rw [if_pos rfl]) (Ev.bind (a3 rfl) (Ev.now _))
    | false =>
      rw [a4 rfl];exact Ev.congr (fun k=>by rw [if_neg (by simp)]) (Ev.now _)
theorem gap_full {ls:List S30} {ss:List Int} {r:List Int} {q:Bool} (a1:Ev (fun k=>spec_buTimes.f k ls ss) (r,q)) (a2:Ev (fun k=>impl_areLines.f k ls ss) q) (a3:q=true→Ev (fun k=>impl_timesOfLines.f k ls ss) r) (a4:q=false→r=[]) (a5:∀ x,x∈r→0≤x∧x≤2500) (a6:(r.length:Int)≤300) (a7:q=true→r.Pairwise (· < ·)):∃ m b:Int,Ev (fun k=>spec_LongestGap.f k ls ss) (m,b,q && decide ((r.length:Int) > 1))∧Ev (fun k=>impl_LongestGap.f k ls ss) (m,b,q && decide ((r.length:Int) > 1))∧(q=true→(r.length:Int) > 1→∃ i0,GapTo r r.length m b i0):=by
  cases q with
  | false =>
    rw [Bool.false_and];refine ⟨0,0,Ev.bind a1 ?_,Ev.bind a2 ?_,fun h=>by cases h⟩
    · exact Ev.congr (fun k=>by rw [if_neg (by simp)]) (Ev.step (fun k=>by simp only [spec_LongestGap.j0];rw [if_pos trivial]) (Ev.now _))
    · exact Ev.congr (fun k=>by rw [if_neg (by simp)]) (Ev.now _)
  | true =>
    rw [Bool.true_and]
    by_cases c:(r.length:Int) < 2
    · rw [decide_eq_false (show ¬ (r.length:Int) > 1 by omega)]
      refine ⟨0,0,Ev.bind a1 ?_,Ev.bind a2 ?_,fun _ h=>absurd h (by omega)⟩
      · exact Ev.congr (fun k=>by rw [if_pos rfl,decide_eq_true c]) (Ev.step (fun k=>by simp only [spec_LongestGap.j0];rw [if_pos trivial]) (Ev.now _))
      · refine Ev.congr (fun k=>by rw [if_pos rfl]) (Ev.bind (a3 rfl) ?_)
        refine Ev.step (fun k=>by simp only [impl_LongestGap.l0];rw [if_neg (by omega),decide_eq_false (show ¬ (r.length:Int) > 1 by omega)]) (Ev.now _)
    · obtain ⟨m,b,g1,g2,g3⟩:=gap_l0_full r a5 a6 (a7 rfl) 1 (by omega) (by omega) 0 0 (.inl ⟨rfl,rfl⟩)
      rw [decide_eq_true (show (r.length:Int) > 1 by omega)] at g2 ⊢;refine ⟨m,b,Ev.bind a1 ?_,Ev.bind a2 ?_,fun _ _=>?_⟩
      · exact Ev.congr (fun k=>by rw [if_pos rfl,decide_eq_false c]) (Ev.step (fun k=>by simp only [spec_LongestGap.j0];rw [if_neg (by simp)]) g1)
      · exact Ev.congr (fun k=>by rw [if_pos rfl]) (Ev.bind (a3 rfl) g2)
      · rcases g3 with g3|g3
        · omega
        · exact g3
theorem own_eq {l:List Int} (h:l.length≤1048576):spec_l1Own.f l=some l:=by
  unfold spec_l1Own.f
  simp only [Option.bind_some];rw [if_pos (by simp;omega)]
  rfl
theorem clone_eq {l:List Int} (h:l.length≤1048576):slices_Clone_int_int.f l=some l:=by
  unfold slices_Clone_int_int.f
  simp only [Option.bind_some];rw [if_pos (by simp;omega)]
  rfl
def DropP (f e c:Int) (st:List Int) (b:Int):Prop:=GoodLine f e c st∧1≤b∧b≤60
noncomputable def DropR (f e c:Int) (st:List Int) (b:Int):Int × Int × Int × List Int × Bool:=if dec (DropP f e c st b)=true then (f,e,if c < b then c else b,st,true) else (0,0,0,[],false)
theorem specDrop_ev (f e c:Int) (st:List Int) (b:Int):Ev (fun k=>spec_DropBus.f k f e c st b) (DropR f e c st b):=by
  unfold DropR
  refine Ev.bind (buGood_ev f e c st) ?_
  by_cases G:GoodLine f e c st
  · have hl:=G.stops
    rw [dec_true G]
    by_cases hb:1≤b∧b≤60
    · rw [dec_true (p:=DropP f e c st b) ⟨G,hb⟩]
      simp only [if_true,in_eq,Option.bind_some,decide_eq_true hb];refine Ev.step (fun k=>by simp only [spec_DropBus.j0];rw [if_neg (by simp)]) ?_;have e1:spec_l1Least.f c b=some (if c < b then c else b):=by unfold spec_l1Least.f;split <;> rfl
      simp only [e1,own_eq (l:=st) (by omega),Option.bind_some];exact Ev.now _
    · rw [dec_false (p:=DropP f e c st b) (fun h=>hb h.2)]
      simp only [if_true,in_eq,Option.bind_some,decide_eq_false hb,Bool.false_eq_true,if_false];exact Ev.step (fun k=>by simp only [spec_DropBus.j0];rw [if_pos (by simp)]) (Ev.now _)
  · rw [dec_false G,dec_false (p:=DropP f e c st b) (fun h=>G h.1)]
    simp only [Bool.false_eq_true,if_false];exact Ev.step (fun k=>by simp only [spec_DropBus.j0];rw [if_pos (by simp)]) (Ev.now _)
theorem implDrop_ev (f e c:Int) (st:List Int) (b:Int):Ev (fun k=>impl_DropBus.f k f e c st b) (DropR f e c st b):=by
  unfold DropR
  refine Ev.bind (hasStops0_ev f e c st) ?_
  by_cases G:GoodLine f e c st
  · have hl:=G.stops
    rw [dec_true G]
    by_cases hb:1≤b∧b≤60
    · rw [dec_true (p:=DropP f e c st b) ⟨G,hb⟩]
      have e1:mn c b=(if c < b then c else b):=by unfold mn;split <;> split <;> omega
      simp only [if_true,within_eq,Option.bind_some,decide_eq_true hb,clone_eq (l:=st) (by omega),e1];exact Ev.now _
    · rw [dec_false (p:=DropP f e c st b) (fun h=>hb h.2)]
      simp only [if_true,within_eq,Option.bind_some,decide_eq_false hb,Bool.false_eq_true,if_false];exact Ev.now _
  · rw [dec_false G,dec_false (p:=DropP f e c st b) (fun h=>G h.1)]
    simp only [Bool.false_eq_true,if_false];exact Ev.now _
theorem GoodLine.fewer {f e c:Int} {st:List Int} (G:GoodLine f e c st) {b:Int} (hb:1≤b):GoodLine f e (if c < b then c else b) st:=by
  have h:=G.count;have he:=G.every;have hl:=G.last;refine ⟨G.first,G.every,by split <;> omega,?_,G.stops,G.zero,G.rise,G.top⟩
  by_cases q:c < b
  · rw [if_pos q];exact hl
  · rw [if_neg q]
    have:=mul_le_r (c:=e) (by omega) (show b - 1≤c - 1 by omega)
    omega
noncomputable def TimeAtR (f e c:Int) (st:List Int) (b s:Int):Int × Bool:=if dec (GoodLine f e c st∧StopOf st s∧0≤b∧b < c)=true then (tat f e st b s,true) else (0,false)
theorem implTimeAt_ev (f e c:Int) (st:List Int) (b s:Int):Ev (fun k=>impl_TimeAtStop.f k f e c st b s) (TimeAtR f e c st b s):=by
  unfold TimeAtR
  refine Ev.bind (hasStops1_ev f e c st s) ?_
  by_cases g:GoodLine f e c st∧StopOf st s
  · rw [dec_true g]
    have g3:=g.1.count;simp only [if_true,within_eq,Option.bind_some];rw [w64 (x:=c - 1) (by omega) (by omega)]
    by_cases hb:0≤b∧b≤c - 1
    · rw [decide_eq_true hb,dec_true (p:=GoodLine f e c st∧StopOf st s∧0≤b∧b < c) ⟨g.1,g.2,by omega,by omega⟩]
      simp only [if_true,timeAt_eq g.1 (show 0≤b∧b < c by omega) g.2,Option.bind_some];exact Ev.now _
    · rw [decide_eq_false hb,dec_false (fun h=>hb ⟨h.2.2.1,by have:=h.2.2.2;omega⟩)]
      simp only [Bool.false_eq_true,if_false];exact Ev.now _
  · rw [dec_false g,dec_false (fun h=>g ⟨h.1,h.2.1⟩)]
    simp only [Bool.false_eq_true,if_false];exact Ev.now _
theorem u64_wrap (n:Int):IntKind.u64.wrap n=n % 18446744073709551616:=by simp [IntKind.wrap,IntKind.bits,IntKind.signed]
theorem mask255 (y:Int):0≤Go.bits .and .u64 (IntKind.u64.wrap y / 1099511627776) 255∧Go.bits .and .u64 (IntKind.u64.wrap y / 1099511627776) 255≤255:=by
  have h0:0≤IntKind.u64.wrap y / 1099511627776:=by rw [u64_wrap];omega
  have h1:IntKind.u64.wrap y / 1099511627776 < 2 ^ 24:=by rw [u64_wrap];omega
  have e:=Go.bits_mask .u64 24 (by decide) (fun n a b=>by rw [u64_wrap];omega) 8 (by decide) (IntKind.u64.wrap y / 1099511627776) h0 h1;rw [show (255:Int)=2 ^ 8 - 1 by decide,e]
  omega
def Bytes (code:List Int):Prop:=code.length≤1048576∧∀ x,x∈code→0≤x∧x≤255
theorem bytes_of {code:List Int} (hl:code.length≤1048576) (h:∀ x,x∈code→(Lit.int .u8 x).wf=true):Bytes code:=by
  refine ⟨hl,fun x hx=>?_⟩;have:=h x hx;simp only [Lit.wf,IntKind.min,IntKind.max,IntKind.signed,IntKind.bits,Bool.and_eq_true,decide_eq_true_eq] at this
  simp at this
  omega
theorem next_ok {code:List Int} (hc:Bytes code) (p s:Int) (h0:0≤p) (h1:p≤1000000000):∃ x s',spec_l1Cur_next.f code p s=some (x,p+1,s')∧0≤x∧x≤255:=by
  unfold spec_l1Cur_next.f
  have hw:wrap64 (p+1)=p+1:=w64 (by omega) (by omega);rw [hw]
  by_cases c:p < (code.length:Int)
  · rw [if_pos c,if_pos h0]
    obtain ⟨b0,b1⟩:=hc.2 (rd code p) (get_mem code 0 p h0 c);rw [if_pos (by omega),w64 (x:=rd code p) (by omega) (by omega)];exact ⟨_,_,rfl,b0,b1⟩
  · rw [if_neg c]
    by_cases c2:p+1≤(code.length:Int)
    · omega
    · rw [if_neg c2]
      have m:=mask255 (IntKind.u64.wrap (IntKind.u64.wrap (s*6364136223846793005))+1442695040888963407);rw [w64 (by omega) (by omega)];exact ⟨_,_,rfl,m.1,m.2⟩
theorem pick_ok {code:List Int} (hc:Bytes code) (p s n:Int) (h0:0≤p) (h1:p≤999999990) (hn:n≤1000000000):∃ x p' s',spec_l1Cur_pick.f code p s n=some (x,p',s')∧0≤x∧(1≤n→x < n)∧x≤1000000000∧p≤p'∧p'≤p+2:=by
  unfold spec_l1Cur_pick.f
  by_cases c:n≤1
  · rw [if_pos c]
    exact ⟨0,p,s,rfl,by omega,by omega,by omega,by omega,by omega⟩
  · rw [if_neg c]
    obtain ⟨x,s1,e1,x0,x1⟩:=next_ok hc p s h0 (by omega);rw [e1];simp only [Option.bind_some]
    have tm:∀ y:Int,0≤y→0≤Int.tmod y n∧Int.tmod y n < n:=by
      intro y hy;rw [Int.tmod_eq_emod_of_nonneg hy];exact ⟨Int.emod_nonneg _ (by omega),Int.emod_lt_of_pos _ (by omega)⟩
    by_cases c2:n > 200
    · rw [if_pos c2]
      obtain ⟨y,s2,e2,y0,y1⟩:=next_ok hc (p+1) s1 (by omega) (by omega);rw [e2];simp only [Option.bind_some];rw [if_neg (by omega),w64 (x:=x*256) (by omega) (by omega),w64 (x:=x*256+y) (by omega) (by omega)];have:=tm (x*256+y) (by omega);exact ⟨_,_,_,rfl,this.1,fun _=>this.2,by omega,by omega,by omega⟩
    · rw [if_neg c2,if_neg (by omega)]
      have:=tm x (by omega);exact ⟨_,_,_,rfl,this.1,fun _=>this.2,by omega,by omega,by omega⟩
theorem among_ok {code:List Int} (hc:Bytes code) (p s:Int) (l:List Int) (h0:0≤p) (h1:p≤999999990) (hl:0 < l.length) (hl2:l.length≤1000):∃ x p' s',spec_l1Cur_among.f code p s l=some (x,p',s')∧x∈l∧p≤p'∧p'≤p+2:=by
  obtain ⟨x,p',s',e,x0,x1,_,p0,p1⟩:=pick_ok hc p s l.length h0 h1 (by omega);have x1:=x1 (by omega)
  unfold spec_l1Cur_among.f
  rw [e];simp only [Option.bind_some];rw [if_pos x0,if_pos x1];exact ⟨_,_,_,rfl,get_mem l 0 x x0 x1,p0,p1⟩
theorem rd_snoc_l (l:List Int) (y i:Int) (h0:0≤i) (h1:i < l.length):rd (l ++ [y]) i=rd l i:=by
  unfold rd
  rw [List.getD_eq_getElem?_getD,List.getD_eq_getElem?_getD,List.getElem?_append_left (by omega)]
theorem rd_snoc_r (l:List Int) (y i:Int) (h:i=l.length):rd (l ++ [y]) i=y:=by
  subst h
  unfold rd
  simp
theorem sureLine_l0_ok {code:List Int} (hc:Bytes code) (f e c:Int):∀ (d:Nat) (x:Int) (acc:List Int) (p s:Int),d≤4→1≤(acc.length:Int)→acc.length+d≤5→rd acc 0=0→(∀ i:Int,1≤i→i < acc.length→rd acc (i - 1) < rd acc i)→rd acc (acc.length - 1)=x→0≤x→x+9*d≤36→0≤p→p+4*d≤999999000→∃ r p' s',Ev (fun k=>spec_l1Cur_sureLine.l0 k x (d:Int) code p s f e c acc) (f,e,c,r,p',s')∧r.length=acc.length+d∧rd r 0=0∧(∀ i:Int,1≤i→i < r.length→rd r (i - 1) < rd r i)∧rd r (r.length - 1)≤36∧p≤p'∧p'≤p+4*d:=by
  intro d
  induction d with
  | zero =>
    intro x acc p s _ ha hk z up la x0 x1 h0 h1;exact ⟨acc,p,s,Ev.step (fun k=>by simp only [spec_l1Cur_sureLine.l0];rw [if_neg (by omega)]) (Ev.now _),by omega,z,up,by omega,by omega,by omega⟩
  | succ d ih =>
    intro x acc p s hd ha hk z up la x0 x1 h0 h1;obtain ⟨y,p1,s1,e1,y0,y1,_,q0,q1⟩:=pick_ok hc p s 9 h0 (by omega) (by omega);have y1:=y1 (by omega);have w:wrap64 (x+wrap64 (1+y))=x+(1+y):=by rw [w64 (x:=1+y) (by omega) (by omega),w64 (by omega) (by omega)]
    have hlen:(acc ++ [x+(1+y)]).length=acc.length+1:=by simp
    obtain ⟨r,p',s',e,a,b,g,t,u,v⟩:=ih (x+(1+y)) (acc ++ [x+(1+y)]) p1 s1 (by omega) (by omega) (by omega) (by rw [rd_snoc_l _ _ _ (by omega) (by omega)];exact z) (fun i i0 i1=>by
      by_cases q:i < acc.length
      · rw [rd_snoc_l _ _ _ (by omega) (by omega),rd_snoc_l _ _ _ (by omega) q]
        exact up i i0 q
      · rw [rd_snoc_l _ _ _ (by omega) (by omega),rd_snoc_r _ _ i (by omega),show i - 1=(acc.length:Int) - 1 by omega,la]
        omega) (rd_snoc_r _ _ _ (by omega)) (by omega) (by omega) (by omega) (by omega)
    refine ⟨r,p',s',?_,by omega,b,g,t,by omega,by omega⟩;refine Ev.step (fun k=>by simp only [spec_l1Cur_sureLine.l0];rw [if_pos (by omega),e1,Option.bind_some,if_pos (show acc.length < 17592186044416 by omega),w,w64 (x:=((d+1:Nat):Int) - 1) (by omega) (by omega),show ((d+1:Nat):Int) - 1=d by omega]) e
theorem sureLine_ok {code:List Int} (hc:Bytes code) (p s:Int) (h0:0≤p) (h1:p≤999998000):∃ f e c st p' s',Ev (fun k=>spec_l1Cur_sureLine.f k code p s) (f,e,c,st,p',s')∧GoodLine f e c st∧(st.length:Int)≤5∧p≤p'∧p'≤p+30:=by
  obtain ⟨f,p1,s1,e1,f0,f1,_,q0,q1⟩:=pick_ok hc p s 40 h0 (by omega) (by omega);obtain ⟨e,p2,s2,e2,g0,g1,_,q2,q3⟩:=pick_ok hc p1 s1 20 (by omega) (by omega) (by omega);obtain ⟨c,p3,s3,e3,c0,c1,_,q4,q5⟩:=pick_ok hc p2 s2 6 (by omega) (by omega) (by omega);obtain ⟨n,p4,s4,e4,n0,n1,_,q6,q7⟩:=pick_ok hc p3 s3 4 (by omega) (by omega) (by omega);have f1:=f1 (by omega);have g1:=g1 (by omega);have c1:=c1 (by omega);have n1:=n1 (by omega)
  obtain ⟨d,hd⟩:∃ d:Nat,1+n=d:=⟨(1+n).toNat,by omega⟩
  obtain ⟨r,p',s',e5,a,b,g,t,u,v⟩:=sureLine_l0_ok hc f (1+e) (1+c) d 0 [0] p4 s4 (by omega) (by simp) (by simp;omega) rfl (fun i i0 i1=>by simp at i1;omega) rfl (by omega) (by omega) (by omega) (by omega);simp only [List.length_cons,List.length_nil] at a;have m:=mul_bd (A:=5) (B:=20) (by omega:0≤1+c - 1) (by omega) (by omega:0≤1+e) (by omega);refine ⟨f,1+e,1+c,r,p',s',?_,⟨by omega,by omega,by omega,by omega,by omega,b,g,by omega⟩,by omega,by omega,by omega⟩
  unfold spec_l1Cur_sureLine.f
  refine Ev.congr (fun k=>by rw [e1,Option.bind_some,e2,Option.bind_some,e3,Option.bind_some,e4,Option.bind_some,w64 (x:=1+n) (by omega) (by omega),w64 (x:=1+e) (by omega) (by omega),w64 (x:=1+c) (by omega) (by omega),hd]) e5
theorem line_ok {code:List Int} (hc:Bytes code) (p s:Int) (h0:0≤p) (h1:p≤999997000):∃ f e c st p' s',Ev (fun k=>spec_l1Cur_line.f k code p s) (f,e,c,st,p',s')∧1≤(st.length:Int)∧(st.length:Int)≤6∧p≤p'∧p'≤p+40:=by
  obtain ⟨f,e,c,st,p1,s1,e1,G,hl,q0,q1⟩:=sureLine_ok hc p s h0 (by omega);have hl2:=G.stops;obtain ⟨x,p2,s2,e2,x0,x1,_,q2,q3⟩:=pick_ok hc p1 s1 20 (by omega) (by omega) (by omega)
  unfold spec_l1Cur_line.f
  by_cases a0:x=0
  · obtain ⟨y,p3,s3,e3,_,q4,q5⟩:=among_ok hc p2 s2 [(-1),0,2000,2001,4611686018427387904] (by omega) (by omega) (by simp) (by simp)
    exact ⟨y,e,c,st,p3,s3,Ev.bind e1 (Ev.congr (fun k=>by dsimp only;rw [e2,Option.bind_some,if_pos a0,e3,Option.bind_some]) (Ev.now _)),by omega,by omega,by omega,by omega⟩
  by_cases a1:x=1
  · obtain ⟨y,p3,s3,e3,_,q4,q5⟩:=among_ok hc p2 s2 [(-1),0,1,2000,2001,4611686018427387904] (by omega) (by omega) (by simp) (by simp)
    exact ⟨f,y,c,st,p3,s3,Ev.bind e1 (Ev.congr (fun k=>by dsimp only;rw [e2,Option.bind_some,if_neg a0,if_pos a1,e3,Option.bind_some]) (Ev.now _)),by omega,by omega,by omega,by omega⟩
  by_cases a2:x=2
  · obtain ⟨y,p3,s3,e3,_,q4,q5⟩:=among_ok hc p2 s2 [(-1),0,1,60,61,4611686018427387904] (by omega) (by omega) (by simp) (by simp)
    exact ⟨f,e,y,st,p3,s3,Ev.bind e1 (Ev.congr (fun k=>by dsimp only;rw [e2,Option.bind_some,if_neg a0,if_neg a1,if_pos a2,e3,Option.bind_some]) (Ev.now _)),by omega,by omega,by omega,by omega⟩
  by_cases a3:x=3
  · obtain ⟨y,p3,s3,e3,_,q4,q5⟩:=among_ok hc p2 s2 [(-1),0,3,500,501,4611686018427387904] (by omega) (by omega) (by simp) (by simp)
    exact ⟨f,e,c,st ++ [y],p3,s3,Ev.bind e1 (Ev.congr (fun k=>by dsimp only;rw [e2,Option.bind_some,if_neg a0,if_neg a1,if_neg a2,if_pos a3,e3,Option.bind_some,if_pos (show st.length < 17592186044416 by omega)]) (Ev.now _)),by simp;omega,by simp;omega,by omega,by omega⟩
  by_cases a4:x=4
  · have ht:(st.take (1:Int).toNat).length=1:=by rw [List.length_take];omega
    exact ⟨f,e,c,st.take (1:Int).toNat,p2,s2,Ev.bind e1 (Ev.congr (fun k=>by dsimp only;rw [e2,Option.bind_some,if_neg a0,if_neg a1,if_neg a2,if_neg a3,if_pos a4,if_pos (show 1≤(st.length:Int) by omega)]) (Ev.now _)),by omega,by omega,by omega,by omega⟩
  · exact ⟨f,e,c,st,p2,s2,Ev.bind e1 (Ev.congr (fun k=>by dsimp only;rw [e2,Option.bind_some,if_neg a0,if_neg a1,if_neg a2,if_neg a3,if_neg a4]) (Ev.now _)),by omega,by omega,by omega,by omega⟩
theorem stop_ok {code:List Int} (hc:Bytes code) (p s:Int) (h0:0≤p) (h1:p≤999999900):∃ x p' s',spec_l1Cur_stop.f code p s=some (x,p',s')∧p≤p'∧p'≤p+4:=by
  obtain ⟨x,p1,s1,e1,x0,x1,_,q0,q1⟩:=pick_ok hc p s 4 h0 (by omega) (by omega);obtain ⟨y,p2,s2,e2,y0,y1,_,q2,q3⟩:=pick_ok hc p1 s1 9 (by omega) (by omega) (by omega);exact ⟨_,p2,s2,by unfold spec_l1Cur_stop.f;rw [e1,Option.bind_some,e2,Option.bind_some],by omega,by omega⟩
theorem l1Most_eq (a b:Int):spec_l1Most.f a b=some (if a > b then a else b):=by unfold spec_l1Most.f;split <;> rfl
theorem drawBest_l1_ev {code:List Int} (hc:Bytes code) (w f e c:Int) (st:List Int) (f' e' c':Int) (st':List Int):∀ (d:Nat) (acc:List (List Int)) (p s:Int),(acc.length:Int)+d=21→(∀ y,y∈acc→y.length≤3)→0≤p→p+4*d≤999999000→∃ (r:List (List Int)) (m p' s':Int),Ev (fun k=>spec_DrawBestChange.i.l1 k w acc code p s f e c st f' e' c' st') (f,e,c,st,0,f',e',c',st',w,r,m,p',s')∧r.length≤21∧(∀ y,y∈r→y.length≤3):=by
  intro d
  induction d with
  | zero =>
    intro acc p s ha h3 h0 h1;obtain ⟨x,p1,s1,e1,x0,x1,x2,q0,q1⟩:=pick_ok hc p s 2 h0 (by omega) (by omega);obtain ⟨y,p2,s2,e2,y0,y1,y2,q2,q3⟩:=pick_ok hc p1 s1 60 (by omega) (by omega) (by omega);have x1:=x1 (by omega);exact ⟨acc,y,p2,s2,Ev.step (fun k=>by simp only [spec_DrawBestChange.i.l1];rw [e1,Option.bind_some,w64 (x:=20+x) (by omega) (by omega),if_neg (by omega),e2,Option.bind_some]) (Ev.now _),by omega,h3⟩
  | succ d ih =>
    intro acc p s ha h3 h0 h1;obtain ⟨x,p1,s1,e1,x0,x1,x2,q0,q1⟩:=pick_ok hc p s 2 h0 (by omega) (by omega);have x1:=x1 (by omega)
    by_cases g:(acc.length:Int) < 20+x
    · obtain ⟨r,m,p',s',a,b,b3⟩:=ih (acc ++ [[1,0,5]]) p1 s1 (by simp;omega) (fun y hy=>by
        rcases List.mem_append.1 hy with hy|hy
        · exact h3 y hy
        · rw [List.mem_singleton.1 hy];simp) (by omega) (by omega)
      refine ⟨r,m,p',s',?_,b,b3⟩;exact Ev.step (fun k=>by simp only [spec_DrawBestChange.i.l1];rw [e1,Option.bind_some,w64 (x:=20+x) (by omega) (by omega),if_pos g,if_pos (show acc.length < 5864062014805 by omega)]) a
    · obtain ⟨y,p2,s2,e2,y0,y1,y2,q2,q3⟩:=pick_ok hc p1 s1 60 (by omega) (by omega) (by omega)
      exact ⟨acc,y,p2,s2,Ev.step (fun k=>by simp only [spec_DrawBestChange.i.l1];rw [e1,Option.bind_some,w64 (x:=20+x) (by omega) (by omega),if_neg g,e2,Option.bind_some]) (Ev.now _),by omega,h3⟩
theorem drawBest_l0_ev {code:List Int} (hc:Bytes code) (w f e c:Int) (st:List Int) (f' e' c':Int) (st':List Int) (hw:w≤100) (hst:(st.length:Int)≤6):∀ (d:Nat) (acc:List (List Int)) (p s:Int),acc.length+d≤4→(∀ y,y∈acc→y.length≤3)→0≤p→p+8*d≤999990000→∃ (r:List (List Int)) (m p' s':Int),Ev (fun k=>spec_DrawBestChange.i.l0 k w acc (d:Int) code p s f e c st f' e' c' st') (f,e,c,st,0,f',e',c',st',w,r,m,p',s')∧r.length≤21∧(∀ y,y∈r→y.length≤3):=by
  intro d
  induction d with
  | zero =>
    intro acc p s ha h3 h0 h1;obtain ⟨x,p1,s1,e1,x0,x1,x2,q0,q1⟩:=pick_ok hc p s 12 h0 (by omega) (by omega)
    by_cases a0:x=0
    · obtain ⟨z,p2,s2,e2,z0,z1,z2,q2,q3⟩:=pick_ok hc p1 s1 5 (by omega) (by omega) (by omega)
      have z1:=z1 (by omega);obtain ⟨y,p3,s3,e3,_,_,_,q4,q5⟩:=pick_ok hc p2 s2 60 (by omega) (by omega) (by omega)
      have hz:∀ q:Int,0≤q→q < 5→(rd_L1 ([[],[1,0],[1,0,101],[0,0,0],[1,0,-1]]:List (List Int)) q).length≤3:=by
        intro q q0 q1;have:q=0∨q=1∨q=2∨q=3∨q=4:=by omega
        rcases this with rfl|rfl|rfl|rfl|rfl <;> decide
      refine ⟨acc ++ [rd_L1 ([[],[1,0],[1,0,101],[0,0,0],[1,0,-1]]:List (List Int)) z],y,p3,s3,?_,by simp;omega,fun v hv=>?_⟩
      · refine Ev.step (fun k=>by simp only [spec_DrawBestChange.i.l0];rw [if_neg (by omega),e1,Option.bind_some,if_pos a0];simp only [Option.bind_some];rw [e2,Option.bind_some,if_pos z0,if_pos (show z < _ from by simp;omega),if_pos (show acc.length < 5864062014805 by omega),e3,Option.bind_some]) (Ev.now _)
      · rcases List.mem_append.1 hv with hv|hv
        · exact h3 v hv
        · rw [List.mem_singleton.1 hv];exact hz z z0 z1
    · by_cases a1:x=1
      · obtain ⟨r,m,p',s',a,b,b3⟩:=drawBest_l1_ev hc w f e c st f' e' c' st' (21 - acc.length) acc p1 s1 (by omega) h3 (by omega) (by omega)
        exact ⟨r,m,p',s',Ev.step (fun k=>by simp only [spec_DrawBestChange.i.l0];rw [if_neg (by omega),e1,Option.bind_some,if_neg a0,if_pos a1]) a,b,b3⟩
      · obtain ⟨y,p3,s3,e3,_,_,_,q4,q5⟩:=pick_ok hc p1 s1 60 (by omega) (by omega) (by omega)
        exact ⟨acc,y,p3,s3,Ev.step (fun k=>by simp only [spec_DrawBestChange.i.l0];rw [if_neg (by omega),e1,Option.bind_some,if_neg a0,if_neg a1,e3,Option.bind_some]) (Ev.now _),by omega,h3⟩
  | succ d ih =>
    intro acc p s ha h3 h0 h1
    have hn:(if 1 > wrap64 ((st.length:Int) - 1) then 1 else wrap64 ((st.length:Int) - 1))≤1000:=by
      rw [w64 (x:=(st.length:Int) - 1) (by omega) (by omega)]
      split <;> omega
    obtain ⟨x,p1,s1,e1,x0,x1,x2,q0,q1⟩:=pick_ok hc p s (if 1 > wrap64 ((st.length:Int) - 1) then 1 else wrap64 ((st.length:Int) - 1)) h0 (by omega) (by omega);obtain ⟨y,p2,s2,e2,y0,y1,y2,q2,q3⟩:=pick_ok hc p1 s1 w (by omega) (by omega) (by omega);obtain ⟨z,p3,s3,e3,z0,z1,z2,q4,q5⟩:=pick_ok hc p2 s2 12 (by omega) (by omega) (by omega)
    obtain ⟨r,m,p',s',a,b,b3⟩:=ih (acc ++ [[wrap64 (1+x),y,z]]) p3 s3 (by simp;omega) (fun v hv=>by
      rcases List.mem_append.1 hv with hv|hv
      · exact h3 v hv
      · rw [List.mem_singleton.1 hv];simp) (by omega) (by omega)
    refine ⟨r,m,p',s',?_,b,b3⟩;exact Ev.step (fun k=>by simp only [spec_DrawBestChange.i.l0];rw [if_pos (by omega),l1Most_eq,Option.bind_some,e1,Option.bind_some,e2,Option.bind_some,e3,Option.bind_some,if_pos (show acc.length < 5864062014805 by omega),w64 (x:=((d+1:Nat):Int) - 1) (by omega) (by omega),show ((d+1:Nat):Int) - 1=d by omega]) a
theorem drawBest_ev {code:List Int} (hc:Bytes code):∃ (f e c:Int) (st:List Int) (a f' e' c':Int) (st':List Int) (b:Int) (x:List (List Int)) (m:Int),Ev (fun k=>spec_DrawBestChange.f k code) (f,e,c,st,a,f',e',c',st',b,x,m)∧x.length≤21∧(∀ y,y∈x→y.length≤3):=by
  obtain ⟨f,e,c,st,p1,s1,e1,l1,l2,q0,q1⟩:=line_ok hc 0 0 (by omega) (by omega);obtain ⟨f',e',c',st',p2,s2,e2,l1',l2',q2,q3⟩:=line_ok hc p1 s1 (by omega) (by omega);obtain ⟨n,p3,s3,e3,n0,n1,_,q4,q5⟩:=pick_ok hc p2 s2 4 (by omega) (by omega) (by omega);have n1:=n1 (by omega)
  obtain ⟨d,hd⟩:∃ d:Nat,1+n=d:=⟨(1+n).toNat,by omega⟩
  have hw:(if 1 > wrap64 ((st'.length:Int) - 1) then 1 else wrap64 ((st'.length:Int) - 1))≤100:=by
    rw [w64 (x:=(st'.length:Int) - 1) (by omega) (by omega)]
    split <;> omega
  obtain ⟨r,m,p',s',a,b,b3⟩:=drawBest_l0_ev hc _ f e c st f' e' c' st' hw l2 d [] p3 s3 (by simp;omega) (by simp) (by omega) (by omega);refine ⟨f,e,c,st,0,f',e',c',st',(if 1 > wrap64 ((st'.length:Int) - 1) then 1 else wrap64 ((st'.length:Int) - 1)),r,m,?_,b,b3⟩
  unfold spec_DrawBestChange.f spec_DrawBestChange.i.f
  refine Ev.bind (Ev.bind e1 (Ev.bind e2 (Ev.congr (fun k=>by dsimp only;rw [l1Most_eq,Option.bind_some,e3,Option.bind_some,w64 (x:=1+n) (by omega) (by omega),hd]) a))) (Ev.now _)
theorem drawChange_ev {code:List Int} (hc:Bytes code):∃ (f e c:Int) (st:List Int) (a b f' e' c':Int) (st':List Int) (a' b' w m:Int),Ev (fun k=>spec_DrawChangeAt.f k code) (f,e,c,st,a,b,f',e',c',st',a',b',w,m):=by
  obtain ⟨x,p1,s1,e1,_,_,_,q0,q1⟩:=pick_ok hc 0 0 2 (by omega) (by omega) (by omega);obtain ⟨y,p2,s2,e2,_,_,_,q2,q3⟩:=pick_ok hc p1 s1 2 (by omega) (by omega) (by omega);obtain ⟨f,e,c,st,p3,s3,e3,_,_,q4,q5⟩:=line_ok hc p2 s2 (by omega) (by omega);obtain ⟨z,p4,s4,e4,_,_,_,q6,q7⟩:=pick_ok hc p3 s3 2 (by omega) (by omega) (by omega);obtain ⟨f',e',c',st',p5,s5,e5,_,_,q8,q9⟩:=line_ok hc p4 s4 (by omega) (by omega);obtain ⟨u,p6,s6,e6,_,_,_,qa,qb⟩:=pick_ok hc p5 s5 2 (by omega) (by omega) (by omega);obtain ⟨w,p7,s7,e7,_,qc,qd⟩:=among_ok hc p6 s6 [0,0,1,3,10,100,101,(-1)] (by omega) (by omega) (by simp) (by simp);obtain ⟨m,p8,s8,e8,_,_,_,qe,qf⟩:=pick_ok hc p7 s7 60 (by omega) (by omega) (by omega);refine ⟨f,e,c,st,x,wrap64 (wrap64 (x+1)+z),f',e',c',st',y,wrap64 (wrap64 (y+1)+u),w,m,?_⟩
  unfold spec_DrawChangeAt.f spec_DrawChangeAt.i.f
  refine Ev.bind (Ev.congr (fun k=>by rw [e1,Option.bind_some,e2,Option.bind_some]) (Ev.bind e3 (Ev.congr (fun k=>by dsimp only;rw [e4,Option.bind_some]) (Ev.bind e5 (Ev.congr (fun k=>by dsimp only;rw [e6,Option.bind_some,e7,Option.bind_some,e8,Option.bind_some]) (Ev.now _)))))) (Ev.now _)
theorem drawTogether_ev {code:List Int} (hc:Bytes code):∃ (f e c:Int) (st:List Int) (a f' e' c':Int) (st':List Int) (b:Int),Ev (fun k=>spec_DrawTimesTogether.f k code) (f,e,c,st,a,f',e',c',st',b):=by
  obtain ⟨f,e,c,st,p1,s1,e1,l1,l2,q0,q1⟩:=line_ok hc 0 0 (by omega) (by omega);obtain ⟨a,p2,s2,e2,q2,q3⟩:=stop_ok hc p1 s1 (by omega) (by omega);obtain ⟨f',e',c',st',p3,s3,e3,l1',l2',q4,q5⟩:=line_ok hc p2 s2 (by omega) (by omega);obtain ⟨b,p4,s4,e4,q6,q7⟩:=stop_ok hc p3 s3 (by omega) (by omega);refine ⟨f,e,c,st,a,f',e',c',st',b,?_⟩
  unfold spec_DrawTimesTogether.f spec_DrawTimesTogether.i.f
  refine Ev.bind (Ev.bind e1 (Ev.congr (fun k=>by dsimp only;rw [e2,Option.bind_some]) (Ev.bind e3 (Ev.congr (fun k=>by dsimp only;rw [e4,Option.bind_some]) (Ev.now _))))) (Ev.now _)
theorem drawTimes_l1_ev {code:List Int} (hc:Bytes code):∀ (d:Nat) (ls:List S30) (ss:List Int) (p s:Int),(ls.length:Int)+d=6→ss.length≤100 - d→0≤p→p+40*d≤999990000→∃ (r:List S30) (t:List Int) (p' s':Int),Ev (fun k=>spec_DrawTimesOfLines.i.l1 k ls ss code p s) (r,t,p',s')∧r.length≤10∧t.length≤100:=by
  intro d
  induction d with
  | zero =>
    intro ls ss p s ha hs h0 h1;obtain ⟨x,p1,s1,e1,x0,x1,x2,q0,q1⟩:=pick_ok hc p s 2 h0 (by omega) (by omega);have x1:=x1 (by omega);exact ⟨ls,ss,p1,s1,Ev.step (fun k=>by simp only [spec_DrawTimesOfLines.i.l1];rw [e1,Option.bind_some,w64 (x:=5+x) (by omega) (by omega),if_neg (by omega)]) (Ev.now _),by omega,by omega⟩
  | succ d ih =>
    intro ls ss p s ha hs h0 h1;obtain ⟨x,p1,s1,e1,x0,x1,x2,q0,q1⟩:=pick_ok hc p s 2 h0 (by omega) (by omega);have x1:=x1 (by omega)
    by_cases g:(ls.length:Int) < 5+x
    · obtain ⟨f,e,c,st,p2,s2,e2,_,_,q2,q3⟩:=sureLine_ok hc p1 s1 (by omega) (by omega)
      obtain ⟨r,t,p',s',a,b,b2⟩:=ih (ls ++ [⟨f,e,c,st⟩]) (ss ++ [0]) p2 s2 (by simp;omega) (by simp;omega) (by omega) (by omega);refine ⟨r,t,p',s',?_,b,b2⟩;refine Ev.step (fun k=>by simp only [spec_DrawTimesOfLines.i.l1];rw [e1,Option.bind_some,w64 (x:=5+x) (by omega) (by omega),if_pos g]) (Ev.bind e2 (Ev.congr (fun k=>by dsimp only;rw [if_pos (show ls.length < 2932031007402 by omega),if_pos (show ss.length < 17592186044416 by omega)]) a))
    · exact ⟨ls,ss,p1,s1,Ev.step (fun k=>by simp only [spec_DrawTimesOfLines.i.l1];rw [e1,Option.bind_some,w64 (x:=5+x) (by omega) (by omega),if_neg g]) (Ev.now _),by omega,by omega⟩
theorem drawTimes_l0_ev {code:List Int} (hc:Bytes code):∀ (d:Nat) (ls:List S30) (ss:List Int) (p s:Int),ls.length+d≤3→ss.length+d≤3→0≤p→p+50*d≤999980000→∃ (r:List S30) (t:List Int) (p' s':Int),Ev (fun k=>spec_DrawTimesOfLines.i.l0 k ls ss (d:Int) code p s) (r,t,p',s')∧r.length≤10∧t.length≤100:=by
  intro d
  induction d with
  | zero =>
    intro ls ss p s ha hs h0 h1;obtain ⟨x,p1,s1,e1,x0,x1,x2,q0,q1⟩:=pick_ok hc p s 16 h0 (by omega) (by omega)
    by_cases a0:x=0
    · exact ⟨[],[],p1,s1,Ev.step (fun k=>by simp only [spec_DrawTimesOfLines.i.l0];rw [if_neg (by omega),e1,Option.bind_some,if_pos a0]) (Ev.now _),by simp,by simp⟩
    by_cases a1:x=1
    · exact ⟨ls,ss ++ [0],p1,s1,Ev.step (fun k=>by simp only [spec_DrawTimesOfLines.i.l0];rw [if_neg (by omega),e1,Option.bind_some,if_neg a0,if_pos a1,if_pos (show ss.length < 17592186044416 by omega)]) (Ev.now _),by omega,by simp;omega⟩
    by_cases a2:x=2
    · obtain ⟨r,t,p',s',a,b,b2⟩:=drawTimes_l1_ev hc (6 - ls.length) ls ss p1 s1 (by omega) (by omega) (by omega) (by omega)
      exact ⟨r,t,p',s',Ev.step (fun k=>by simp only [spec_DrawTimesOfLines.i.l0];rw [if_neg (by omega),e1,Option.bind_some,if_neg a0,if_neg a1,if_pos a2]) a,b,b2⟩
    · exact ⟨ls,ss,p1,s1,Ev.step (fun k=>by simp only [spec_DrawTimesOfLines.i.l0];rw [if_neg (by omega),e1,Option.bind_some,if_neg a0,if_neg a1,if_neg a2]) (Ev.now _),by omega,by omega⟩
  | succ d ih =>
    intro ls ss p s ha hs h0 h1;obtain ⟨f,e,c,st,p1,s1,e1,_,_,q0,q1⟩:=line_ok hc p s h0 (by omega);obtain ⟨x,p2,s2,e2,_,_,_,q2,q3⟩:=pick_ok hc p1 s1 2 (by omega) (by omega) (by omega);obtain ⟨y,p3,s3,e3,_,_,_,q4,q5⟩:=pick_ok hc p2 s2 9 (by omega) (by omega) (by omega);obtain ⟨r,t,p',s',a,b,b2⟩:=ih (ls ++ [⟨f,e,c,st⟩]) (ss ++ [wrap64 (x+wrap64 (Int.tdiv y 8))]) p3 s3 (by simp;omega) (by simp;omega) (by omega) (by omega);refine ⟨r,t,p',s',?_,b,b2⟩;refine Ev.step (fun k=>by simp only [spec_DrawTimesOfLines.i.l0];rw [if_pos (by omega)]) (Ev.bind e1 (Ev.congr (fun k=>by dsimp only;rw [if_pos (show ls.length < 2932031007402 by omega),e2,Option.bind_some,e3,Option.bind_some,if_pos (show ss.length < 17592186044416 by omega),w64 (x:=((d+1:Nat):Int) - 1) (by omega) (by omega),show ((d+1:Nat):Int) - 1=d by omega]) a))
theorem drawTimes_ev {code:List Int} (hc:Bytes code):∃ (r:List S30) (t:List Int),Ev (fun k=>spec_DrawTimesOfLines.f k code) (r,t)∧r.length≤10∧t.length≤100:=by
  obtain ⟨n,p3,s3,e3,n0,n1,_,q4,q5⟩:=pick_ok hc 0 0 3 (by omega) (by omega) (by omega);have n1:=n1 (by omega)
  obtain ⟨d,hd⟩:∃ d:Nat,1+n=d:=⟨(1+n).toNat,by omega⟩
  obtain ⟨r,t,p',s',a,b,b2⟩:=drawTimes_l0_ev hc d [] [] p3 s3 (by simp;omega) (by simp;omega) (by omega) (by omega);refine ⟨r,t,?_,b,b2⟩
  unfold spec_DrawTimesOfLines.f spec_DrawTimesOfLines.i.f
  refine Ev.bind (Ev.congr (fun k=>by rw [e3,Option.bind_some,w64 (x:=1+n) (by omega) (by omega),hd]) a) (Ev.now _)
theorem drawDrop_ev {code:List Int} (hc:Bytes code):∃ (f e c:Int) (st:List Int) (a:Int),Ev (fun k=>spec_DrawDropBus.f k code) (f,e,c,st,a)∧(st.length:Int)≤6:=by
  obtain ⟨f,e,c,st,p1,s1,e1,l1,l2,q0,q1⟩:=line_ok hc 0 0 (by omega) (by omega);obtain ⟨a,p2,s2,e2,_,q2,q3⟩:=among_ok hc p1 s1 [1,2,3,5,60,61,0,(-1)] (by omega) (by omega) (by simp) (by simp);refine ⟨f,e,c,st,a,?_,l2⟩
  unfold spec_DrawDropBus.f spec_DrawDropBus.i.f
  refine Ev.bind (Ev.bind e1 (Ev.congr (fun k=>by dsimp only;rw [e2,Option.bind_some]) (Ev.now _))) (Ev.now _)
theorem qLine_ev (f e c:Int) (st:List Int) (h:st.length≤1000):Ev (fun k=>laws_qLine.f k f e c st f e c st) true:=by
  unfold laws_qLine.f
  simp only [if_true];exact Ev.bind (qSame_ev st h) (Ev.now _)
theorem j15_ev (f e c:Int) (st:List Int) (b:Int):Ev (fun k=>lw_.j15 k b (DropR f e c st b).2.2.2.2 f e c st (DropR f e c st b).1 (DropR f e c st b).2.1 (DropR f e c st b).2.2.1 (DropR f e c st b).2.2.2.1) true:=by
  unfold DropR
  by_cases p:DropP f e c st b
  · have G:=p.1
    have hs:=G.stops;rw [dec_true p];simp only [if_true];refine Ev.step (fun k=>by simp only [lw_.j15,if_true];rfl) ?_;refine Ev.bind (isLine_ev _ _ _ _) ?_;rw [dec_true (G.fewer p.2.1)];simp only [if_true]
    by_cases h:c < b
    · simp only [if_pos h,if_neg (show ¬ c > b by omega),if_neg (show ¬ c > c by omega),if_neg (show ¬ c=b by omega)]
      refine Ev.bind (qSame_ev st (by omega)) ?_;simp only [if_true];exact Ev.now _
    · simp only [if_neg h,if_neg (show ¬ b > b by omega),if_neg (show ¬ b > c by omega),if_true]
      refine Ev.bind (qSame_ev st (by omega)) ?_;simp only [if_true];exact Ev.now _
  · rw [dec_false p]
    simp only [Bool.false_eq_true,if_false];exact Ev.step (fun k=>by simp only [lw_.j15,Bool.false_eq_true,if_false]) (Ev.now _)
section
variable {n:Int} {nb:Bool} {f e c:Int} {st:List Int} {f' e' c':Int} {st':List Int} (hE:Ev (fun k=>lw_.j15 k n nb f e c st f' e' c' st') true)
include hE
theorem l4_ev {r:List Int} (hb:∀ x,x∈r→0≤x∧x≤2500) (hl:(r.length:Int)≤300) {m b i0:Int} (G:GapTo r r.length m b i0):∀ i:Int,1≤i→i≤r.length→Ev (fun k=>lw_.l4 k r m b n nb (decide (i0 < i)) i f e c st f' e' c' st') true:=by
  refine downA ?_ (fun i h0 h1 ih=>?_)
  · rw [decide_eq_true G.h1]
    exact Ev.step (fun k=>by simp only [lw_.l4,if_true];rw [if_neg (by omega)]) hE
  · have x1:=hb _ (get_mem r 0 i (by omega) h1)
    have x2:=hb _ (get_mem r 0 (i - 1) (by omega) (by omega));have e1:wrap64 (i - 1)=i - 1:=w64 (by omega) (by omega);have e2:wrap64 (rd r i - rd r (i - 1))=rd r i - rd r (i - 1):=w64 (by change _≤r.getD _ 0 - r.getD _ 0;omega) (by change r.getD _ 0 - r.getD _ 0≤_;omega);have e3:wrap64 (i+1)=i+1:=w64 (by omega) (by omega)
    by_cases q:i0 < i
    · have le:=G.behind i (by omega) h1
      rw [decide_eq_true (show i0 < i+1 by omega)] at ih;rw [decide_eq_true q];refine Ev.step (fun k=>by simp only [lw_.l4,if_true];rw [if_pos h1,if_pos (by omega),e1,if_pos (by omega),if_pos (by omega),e2,if_neg (by omega),e3]) ?_
      by_cases z:rd r i - rd r (i - 1)=m
      · exact Ev.congr (fun k=>by rw [if_pos z]) ih
      · exact Ev.congr (fun k=>by rw [if_neg z]) ih
    · rw [decide_eq_false q]
      by_cases z:i=i0
      · subst z
        have big:=G.big;have at_:=G.at_;rw [decide_eq_true (show i < i+1 by omega)] at ih;refine Ev.step (fun k=>by simp only [lw_.l4,Bool.false_eq_true,if_false];rw [if_pos h1,if_pos (by omega),e1,if_pos (by omega),if_pos (by omega),e2,if_neg (by omega),if_pos big,if_pos at_,e3,big,beq_self_eq_true]) ih
      · have lt:=G.ahead i h0 (by omega)
        rw [decide_eq_false (show ¬ i0 < i+1 by omega)] at ih;refine Ev.step (fun k=>by simp only [lw_.l4,Bool.false_eq_true,if_false];rw [if_pos h1,if_pos (by omega),e1,if_pos (by omega),if_pos (by omega),e2,if_neg (by omega),if_neg (show ¬ rd r i - rd r (i - 1)=m by omega),e3,beq_eq_false_iff_ne.2 (show rd r i - rd r (i - 1)≠m by omega)]) ih
theorem j13_ev {r:List Int} (hb:∀ x,x∈r→0≤x∧x≤2500) (hl:(r.length:Int)≤300) {m b:Int} {q:Bool} (G:q=true→(r.length:Int) > 1∧∃ i0,GapTo r r.length m b i0):Ev (fun k=>lw_.j13 k r m b q n nb f e c st f' e' c' st') true:=by
  cases q with
  | false=>exact Ev.step (fun k=>by simp only [lw_.j13,Bool.false_eq_true,if_false]) hE
  | true =>
    obtain ⟨hn,i0,g⟩:=G rfl;have h:=l4_ev hE hb hl g 1 (by omega) (by omega);rw [decide_eq_false (show ¬ i0 < 1 by have:=g.h0;omega)] at h;exact Ev.step (fun k=>by simp only [lw_.j13,if_true]) h
end
section
variable {m b:Int} {g:Bool} {n:Int} {nb:Bool} {f e c:Int} {st:List Int} {f' e' c':Int} {st':List Int} {r:List Int} (hE:Ev (fun k=>lw_.j13 k r m b g n nb f e c st f' e' c' st') true)
include hE
theorem l2_ev {ls:List S30} {ss:List Int} (L:Lines ls ss) (hl:(r.length:Int)≤300) (hm:∀ x,x∈r↔TimesFrom ls ss 0 x):∀ i:Int,0≤i→i≤ls.length→Ev (fun k=>lw_.l2 k ss r m b g n nb ls ls.length i f e c st f' e' c' st') true:=by
  have hn:=L.many;refine downI ?_ (fun i h0 h1 ih=>?_)
  · exact Ev.step (fun k=>by simp only [lw_.l2];rw [if_neg (by omega)]) hE
  · have G:=L.good i h0 h1
    have hc:=G.1.count;have hss:i < (ss.length:Int):=by rw [L.same];exact h1
    have inner:∀ j:Int,0≤j→j≤(rdL ls i).f2→Ev (fun k=>lw_.l3 k ss r m b g n nb i j ls ls.length i f e c st f' e' c' st' (rdL ls i).f0 (rdL ls i).f1 (rdL ls i).f2 (rdL ls i).f3) true:=by
      refine downI ?_ (fun j j0 j1 ihj=>?_)
      · exact Ev.step (fun k=>by simp only [lw_.l3];rw [if_neg (by omega),w64 (x:=i+1) (by omega) (by omega)]) ih
      · refine Ev.step (fun k=>by simp only [lw_.l3];rw [if_pos j1,if_pos h0,if_pos hss,w64 (x:=j+1) (by omega) (by omega)]) ?_
        refine Ev.bind (implTimeAt_ev _ _ _ _ _ _) ?_
        unfold TimeAtR
        rw [dec_true (p:=GoodLine (rdL ls i).f0 (rdL ls i).f1 (rdL ls i).f2 (rdL ls i).f3∧StopOf (rdL ls i).f3 (rd ss i)∧0≤j∧j < (rdL ls i).f2) ⟨G.1,G.2,j0,j1⟩];simp only [if_true];refine Ev.bind (qHas_ev r _ (by omega)) ?_;rw [decide_eq_true ((hm _).2 ⟨i,j,h0,h1,j0,j1,rfl⟩)];simp only [if_true];exact ihj
    exact Ev.step (fun k=>by simp only [lw_.l2];rw [if_pos h1,if_pos h0,if_pos h1]) (inner 0 (by omega) (by omega))
theorem j9_ev {ls:List S30} {ss:List Int} {q:Bool} (hl:(r.length:Int)≤300) (hq:q=true→Lines ls ss∧r.Pairwise (· < ·)∧∀ x,x∈r↔TimesFrom ls ss 0 x):Ev (fun k=>lw_.j9 k ls ss r q m b g n nb f e c st f' e' c' st') true:=by
  cases q with
  | false=>exact Ev.step (fun k=>by simp only [lw_.j9,Bool.false_eq_true,if_false]) hE
  | true =>
    obtain ⟨L,hp,hm⟩:=hq rfl;have hn:=L.many;have G:=L.good 0 (by omega) (by omega);have hc:=G.1.count
    have hr:¬ (r.length:Int) < 1:=by
      intro h;have:r=[]:=List.length_eq_zero_iff.1 (by omega);have h2:=(hm (tat (rdL ls 0).f0 (rdL ls 0).f1 (rdL ls 0).f3 0 (rd ss 0))).2 ⟨0,0,by omega,by omega,by omega,by omega,rfl⟩;rw [this] at h2
      simp at h2
    refine Ev.step (fun k=>by simp only [lw_.j9,if_true];rfl) ?_;refine Ev.bind (qRises_ev r (by omega) hp) ?_;simp only [if_true,decide_eq_false hr];refine Ev.step (fun k=>by simp only [lw_.j10,Bool.false_eq_true,if_false];rfl) ?_;exact l2_ev hE L hl hm 0 (by omega) (by omega)
end
section
variable {ls:List S30} {ss r:List Int} {q:Bool} {m b:Int} {g:Bool} {n:Int} {nb:Bool} {f e c:Int} {st:List Int} {f' e' c':Int} {st':List Int} (hE:Ev (fun k=>lw_.j9 k ls ss r q m b g n nb f e c st f' e' c' st') true)
include hE
theorem l1_ev {both whole:List Int} (hl:both.length≤60) (hw:(whole.length:Int)≤300) (hm:∀ x,x∈both→x∈whole):∀ i:Int,0≤i→i≤both.length→Ev (fun k=>lw_.l1 k ls ss r q m b g n nb whole both both.length i f e c st f' e' c' st') true:=by
  refine downI ?_ (fun i h0 h1 ih=>?_)
  · exact Ev.step (fun k=>by simp only [lw_.l1];rw [if_neg (by omega)]) hE
  · refine Ev.step (fun k=>by simp only [lw_.l1];rw [if_pos h1,if_pos h0,if_pos h1,w64 (x:=i+1) (by omega) (by omega)]) ?_
    refine Ev.bind (qHas_ev whole _ (by omega)) ?_;rw [decide_eq_true (show rd both i∈whole from hm _ (get_mem both 0 i h0 h1))];simp only [if_true];exact ih
theorem j5_ev {a0 a1 a2:Int} {a3:List Int} {i:Int} {d0 d1 d2:Int} {d3:List Int} {j:Int} {both:List Int} (hl:both.length≤60) (hp:both.Pairwise (· < ·)) (hm:BothP a0 a1 a2 a3 i d0 d1 d2 d3 j→∀ x,x∈both↔AtOf a0 a1 a2 a3 i x∧AtOf d0 d1 d2 d3 j x):Ev (fun k=>lw_.j5 k i j both (dec (BothP a0 a1 a2 a3 i d0 d1 d2 d3 j)) ls ss r q m b g n nb a0 a1 a2 a3 d0 d1 d2 d3 f e c st f' e' c' st') true:=by
  by_cases B:BothP a0 a1 a2 a3 i d0 d1 d2 d3 j
  · have hm:=hm B
    have ca:=B.1.1.count;have cd:=B.2.1.count;rw [dec_true B];obtain ⟨back,b1,b2,b3,b4,b5⟩:=together_full d0 d1 d2 d3 j a0 a1 a2 a3 i
    have B':BothP d0 d1 d2 d3 j a0 a1 a2 a3 i:=⟨B.2,B.1⟩
    have eb:back=both:=strict_ext b4 hp (fun x=>by rw [b5 B',hm,and_comm]);rw [dec_true B',eb] at b2
    have L:Lines [(⟨a0,a1,a2,a3⟩:S30),⟨d0,d1,d2,d3⟩] [i,j]:=⟨by simp,rfl,fun k k0 k1=>by
      simp only [List.length_cons,List.length_nil] at k1;have:k=0∨k=1:=by omega
      rcases this with rfl|rfl
      · exact B.1
      · exact B.2⟩
    obtain ⟨whole,w,t1,t2,t3,t4,t5,t6,t7,t8⟩:=times_full [(⟨a0,a1,a2,a3⟩:S30),⟨d0,d1,d2,d3⟩] [i,j] (by simp) (by simp);have hw:=t8 L;subst hw;obtain ⟨_,t9,t10⟩:=t7 rfl;have ti:=(timesOfLines_ev t1 t2 t3 t4).2
    have mu:∀ x,x∈whole↔AtOf a0 a1 a2 a3 i x∨AtOf d0 d1 d2 d3 j x:=fun x=>by
      rw [t10]
      constructor
      · rintro ⟨k,y,k0,k1,y0,y1,hx⟩
        simp only [List.length_cons,List.length_nil] at k1;have:k=0∨k=1:=by omega
        rcases this with rfl|rfl
        · exact .inl ⟨y,y0,y1,hx⟩
        · exact .inr ⟨y,y0,y1,hx⟩
      · rintro (⟨y,y0,y1,hx⟩|⟨y,y0,y1,hx⟩)
        · exact ⟨0,y,by omega,by simp,y0,y1,hx⟩
        · exact ⟨1,y,by omega,by simp,y0,y1,hx⟩
    have cnt:=count_two (A:=atsOf a0 a1 a2 a3 i) (B:=atsOf d0 d1 d2 d3 j) (atsOf_strict B.1.1.every.1) (atsOf_strict B.2.1.every.1) t9 hp (fun x=>by rw [mu,atsOf_mem,atsOf_mem]) (fun x=>by rw [hm,atsOf_mem,atsOf_mem]);rw [atsOf_len,atsOf_len] at cnt;refine Ev.step (fun k=>by simp only [lw_.j5,if_true];rfl) ?_;refine Ev.bind b2 ?_;simp only [if_true];refine Ev.bind (qSame_ev both (by omega)) ?_;simp only [if_true];refine Ev.bind (qRises_ev both (by omega) hp) ?_;refine Ev.step (fun k=>by simp only [lw_.j6,Bool.not_true,Bool.false_eq_true,if_false];rfl) ?_;refine Ev.bind ti ?_
    have e1:((wrap64 ((whole.length:Int)+(both.length:Int))) != (wrap64 (a2+d2)))=false:=by
      rw [w64 (x:=(whole.length:Int)+(both.length:Int)) (by omega) (by omega),w64 (x:=a2+d2) (by omega) (by omega),bne_eq_false_iff_eq]
      omega
    simp only [if_true,e1];refine Ev.step (fun k=>by simp only [lw_.j7,Bool.false_eq_true,if_false];rfl) ?_;exact l1_ev hE hl t6 (fun x hx=>(mu x).2 (.inl ((hm x).1 hx).1)) 0 (by omega) (by omega)
  · rw [dec_false B]
    exact Ev.step (fun k=>by simp only [lw_.j5,Bool.false_eq_true,if_false]) hE
end
theorem j3_ev {a0 a1 a2:Int} {a3:List Int} {i off:Int} {b0 b1 b2:Int} {b3:List Int} {on goal walk time:Int} {j k':Int} {both:List Int} {three:Bool} {ls:List S30} {ss r:List Int} {q:Bool} {m b:Int} {g:Bool} {n:Int} {nb:Bool} {c0 c1 c2:Int} {c3:List Int} {d0 d1 d2:Int} {d3:List Int} {f e c:Int} {st:List Int} {f' e' c':Int} {st':List Int}
    (hE:Ev (fun k=>lw_.j5 k j k' both three ls ss r q m b g n nb c0 c1 c2 c3 d0 d1 d2 d3 f e c st f' e' c' st') true):Ev (fun k=>lw_.j3 k i off on goal walk time (ChangeR a0 a1 a2 a3 i off b0 b1 b2 b3 on goal walk time).1 (ChangeR a0 a1 a2 a3 i off b0 b1 b2 b3 on goal walk time).2.1 (ChangeR a0 a1 a2 a3 i off b0 b1 b2 b3 on goal walk time).2.2 j k' both three ls ss r q m b g n nb false a0 a1 a2 a3 b0 b1 b2 b3 c0 c1 c2 c3 d0 d1 d2 d3 f e c st f' e' c' st') true:=by
  cases h:(ChangeR a0 a1 a2 a3 i off b0 b1 b2 b3 on goal walk time).2.2 with
  | false=>exact Ev.step (fun k=>by simp only [lw_.j3,Bool.false_eq_true,if_false]) hE
  | true =>
    obtain ⟨at_,g1,g2,g3,g4,g5,g6,g7⟩:=change_law (mid:=(ChangeR a0 a1 a2 a3 i off b0 b1 b2 b3 on goal walk time).1) (last:=(ChangeR a0 a1 a2 a3 i off b0 b1 b2 b3 on goal walk time).2.1) (Prod.ext rfl (Prod.ext rfl h));generalize (ChangeR a0 a1 a2 a3 i off b0 b1 b2 b3 on goal walk time).1=mid at *;generalize (ChangeR a0 a1 a2 a3 i off b0 b1 b2 b3 on goal walk time).2.1=last at *;refine Ev.step (fun k=>by simp only [lw_.j3,Bool.false_eq_true,if_false,if_true];rfl) ?_;refine Ev.bind (implArrive_ev a0 a1 a2 a3 i off time) ?_;rw [g1];have w:wrap64 (at_+walk)=at_+walk:=w64 (by omega) (by omega);simp only [if_true,w,if_pos g4,decide_eq_false (show ¬ last≤mid by omega)]
    by_cases hq:mid≤2000
    · refine Ev.step (fun k=>by simp only [lw_.j4,Bool.false_eq_true,if_false];rw [if_pos hq]) ?_
      refine Ev.bind (implArrive_ev b0 b1 b2 b3 on goal mid) ?_;rw [g7 hq];simp only [if_true];exact hE
    · exact Ev.step (fun k=>by simp only [lw_.j4,Bool.false_eq_true,if_false];rw [if_neg hq]) hE
theorem j2_ev {more:List Int} (hb:Bytes more):Ev (fun k=>lw_.j2 k more) true:=by
  obtain ⟨a0,a1,a2,a3,i,off,b0,b1,b2,b3,on,goal,walk,time,u1⟩:=drawChange_ev hb;obtain ⟨c0,c1,c2,c3,j,d0,d1,d2,d3,k',u2⟩:=drawTogether_ev hb;obtain ⟨ls,ss,u3,v1,v2⟩:=drawTimes_ev hb;obtain ⟨f,e,c,st,least,u4,v3⟩:=drawDrop_ev hb;obtain ⟨both,p1,p2,p3,p4,p5⟩:=together_full c0 c1 c2 c3 j d0 d1 d2 d3 k';obtain ⟨r,q,t1,t2,t3,t4,t5,t6,t7,_⟩:=times_full ls ss (by omega) (by omega);obtain ⟨m,b,s1,s2,s3⟩:=gap_full t1 t2 t3 t4 t5 t6 (fun h=>(t7 h).2.1);obtain ⟨w1,w2⟩:=timesOfLines_ev t1 t2 t3 t4;have e15:=j15_ev f e c st least
  have e13:=j13_ev e15 (r:=r) t5 t6 (m:=m) (b:=b) (q:=q && decide ((r.length:Int) > 1)) (fun h=>by
    rw [Bool.and_eq_true,decide_eq_true_iff] at h
    exact ⟨h.2,s3 h.1 h.2⟩)
  have e9:=j9_ev e13 (ls:=ls) (ss:=ss) (q:=q) t6 t7;have e5:=j5_ev e9 p3 p4 p5;have e3:=j3_ev (a0:=a0) (a1:=a1) (a2:=a2) (a3:=a3) (i:=i) (off:=off) (b0:=b0) (b1:=b1) (b2:=b2) (b3:=b3) (on:=on) (goal:=goal) (walk:=walk) (time:=time) e5
  have hs:(DropR f e c st least).2.2.2.1.length≤1000:=by
    unfold DropR
    split
    · simp only;omega
    · simp
  refine Ev.step (fun k=>by simp only [lw_.j2];rfl) ?_;refine Ev.bind u1 (Ev.bind (implChange_ev a0 a1 a2 a3 i off b0 b1 b2 b3 on goal walk time) (Ev.bind (specChange_ev a0 a1 a2 a3 i off b0 b1 b2 b3 on goal walk time) (Ev.bind u2 (Ev.bind p2 (Ev.bind p1 (Ev.bind u3 (Ev.bind w2 (Ev.bind w1 (Ev.bind s2 (Ev.bind s1 (Ev.bind u4 (Ev.bind (implDrop_ev f e c st least) (Ev.bind (specDrop_ev f e c st least) ?_)))))))))))));simp only [bne_self_eq_false,Bool.false_eq_true,if_false,if_true];refine Ev.bind (qSame_ev both (by omega)) ?_;simp only [if_true];refine Ev.bind (qSame_ev r (by omega)) ?_;simp only [if_true];refine Ev.bind (qLine_ev _ _ _ _ hs) ?_;simp only [if_true]
  cases q with
  | false=>exact e3
  | true =>
    simp only [if_true,Bool.true_and,bne_self_eq_false];exact e3
theorem l0_ev {more:List Int} (hN:Ev (fun k=>lw_.j2 k more) true) {f e c:Int} {st:List Int} {s:Int} {f' e' c':Int} {st':List Int} {t m:Int} {x:List (List Int)} {b:List Int} {v i0:Int} (P:BestP f e c st s f' e' c' st' t m x) (B:BestTo f e c st s f' e' c' st' t m x x.length (b,v) i0):∀ i:Int,0≤i→i≤x.length→Ev (fun k=>lw_.l0 k more s t m b v (decide (i0 < i)) x x.length i f e c st f' e' c' st') true:=by
  have hn:=P.2.2.1;refine downI ?_ (fun i h0 h1 ih=>?_)
  · rw [decide_eq_true B.h1]
    exact Ev.step (fun k=>by simp only [lw_.l0,if_true];rw [if_neg (by omega)]) hN
  · have W:=P.2.2.2.2 _ (get_mem x [] i h0 h1)
    change WalkP f e c st s f' e' c' st' t (rd_L1 x i) at W;obtain ⟨w3,wr,wr',ww⟩:=W
    have hC:ChangeR f e c st s (rd (rd_L1 x i) 0) f' e' c' st' (rd (rd_L1 x i) 1) t (rd (rd_L1 x i) 2) m=chg f e c st s f' e' c' st' t m (rd_L1 x i):=by
      unfold ChangeR
      rw [dec_true (p:=ChangeP f e c st s (rd (rd_L1 x i) 0) f' e' c' st' (rd (rd_L1 x i) 1) t (rd (rd_L1 x i) 2) m) ⟨wr,wr',ww,P.2.2.2.1⟩,if_pos rfl]
    have be:=B.behind i h0 h1;have ah:=B.ahead i h0;have ok:=B.ok;have val:=B.val;have at_:=B.at_;simp only at be ah ok val at_;refine Ev.step (fun k=>by simp only [lw_.l0];rw [if_pos h1,if_pos h0,if_pos h1,if_pos w3,if_pos (show 0 < ((rd_L1 x i).length:Int) by omega),if_pos (show 1 < ((rd_L1 x i).length:Int) by omega),if_pos (show 2 < ((rd_L1 x i).length:Int) by omega),w64 (x:=i+1) (by omega) (by omega)]) ?_;refine Ev.bind (implChange_ev _ _ _ _ _ _ _ _ _ _ _ _ _ _) ?_;rw [hC]
    by_cases q:i0 < i
    · rw [decide_eq_true (show i0 < i+1 by omega)] at ih
      simp only [decide_eq_true q,if_true]
      by_cases o:(chg f e c st s f' e' c' st' t m (rd_L1 x i)).2.2=true
      · have le:=be o
        simp only [if_pos o,if_neg (show ¬ (chg f e c st s f' e' c' st' t m (rd_L1 x i)).2.1 < v by omega)]
        by_cases z:(chg f e c st s f' e' c' st' t m (rd_L1 x i)).2.1=v
        · exact Ev.congr (fun k=>by rw [if_pos z]) ih
        · exact Ev.congr (fun k=>by rw [if_neg z]) ih
      · simp only [if_neg o]
        exact ih
    · simp only [decide_eq_false q,Bool.false_eq_true,if_false]
      by_cases z:i=i0
      · subst z
        rw [decide_eq_true (show i < i+1 by omega)] at ih;rw [at_];simp only [if_pos ok,val,if_neg (show ¬ v < v by omega),if_true,beq_self_eq_true];rw [at_] at w3;refine Ev.bind (qSame_ev b (by omega)) ?_;simp only [if_true];exact ih
      · rw [decide_eq_false (show ¬ i0 < i+1 by omega)] at ih
        by_cases o:(chg f e c st s f' e' c' st' t m (rd_L1 x i)).2.2=true
        · have lt:=ah (by omega) o
          simp only [if_pos o,if_neg (show ¬ (chg f e c st s f' e' c' st' t m (rd_L1 x i)).2.1 < v by omega),if_neg (show ¬ (chg f e c st s f' e' c' st' t m (rd_L1 x i)).2.1=v by omega),beq_eq_false_iff_ne.2 (show (chg f e c st s f' e' c' st' t m (rd_L1 x i)).2.1≠v by omega)];exact ih
        · simp only [if_neg o]
          exact ih
theorem FnBusesChange:lw_.Pure:=by
  intro l0 l1 _ h0 _ h1;refine Ev.rounds ?_
  unfold lw_.f laws_big.f
  by_cases c0:(l0.length:Int) > 1048576
  · exact Ev.congr (fun k=>by rw [if_pos c0];rfl) (Ev.now _)
  refine Ev.congr (fun k=>by rw [if_neg c0,Option.bind_some,w64 (x:=1048576 - (l0.length:Int)) (by omega) (by omega)]) ?_
  by_cases c1:(l1.length:Int) > 1048576 - (l0.length:Int)
  · exact Ev.congr (fun k=>by rw [if_pos (decide_eq_true c1)]) (Ev.now _)
  refine Ev.congr (fun k=>by rw [if_neg (by simpa using c1)]) ?_;have b0:=bytes_of (show l0.length≤1048576 by omega) h0;have b1:=bytes_of (show l1.length≤1048576 by omega) h1;obtain ⟨f,e,c,st,s,f',e',c',st',t,x,m,d,hx,h3⟩:=drawBest_ev b0;have hN:=j2_ev b1;have hl:=BestR_len f e c st s f' e' c' st' t m x;refine Ev.bind d (Ev.bind (implBest_ev f e c st s f' e' c' st' t m x) (Ev.bind (specBest_ev f e c st s f' e' c' st' t m x) ?_));simp only [bne_self_eq_false,Bool.false_eq_true,if_false];refine Ev.bind (qSame_ev _ (by omega)) ?_;simp only [if_true]
  cases h:(BestR f e c st s f' e' c' st' t m x).2.2 with
  | false=>exact Ev.step (fun k=>by simp only [lw_.j0,Bool.false_eq_true,if_false]) hN
  | true =>
    obtain ⟨P,i0,B⟩:=best_law (b:=(BestR f e c st s f' e' c' st' t m x).1) (v:=(BestR f e c st s f' e' c' st' t m x).2.1) (Prod.ext rfl (Prod.ext rfl h));have hL:=l0_ev hN P B 0 (by omega) (by omega);rw [decide_eq_false (show ¬ i0 < 0 by have:=B.h0;omega)] at hL;exact Ev.step (fun k=>by simp only [lw_.j0,Bool.false_eq_true,if_false,if_true]) hL
end Go.Proofs.Ythdnodmidbcgpaa.Pure
