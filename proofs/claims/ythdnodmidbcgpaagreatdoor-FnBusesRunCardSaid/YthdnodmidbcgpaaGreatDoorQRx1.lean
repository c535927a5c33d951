import Derived.Test.YthdnodmidbcgpaaGreatDoorQRx0
namespace Go.Proofs.YthdnodmidbcgpaaGreatDoor.QR
open Go.Proofs.YthdnodmidbcgpaaGreatDoor.X Go.RowKit Go.Proofs.YthdnodmidbcgpaaGreatDoorW.PrintWords Go.Proofs.YthdnodmidbcgpaaGreatDoorW.PrintLast Go.Proofs.YthdnodmidbcgpaaGreatDoorW.PrintMore
set_option maxHeartbeats 8000000
set_option maxRecDepth 100000
attribute [local go_sem] max2_int min2_int max_two min_two max_three min_three max_four min_four
set_option linter.unusedVariables false
set_option linter.unusedSimpArgs false
def laws_big.f (l0:List Int) (l1:List Int):Option (Bool):=if (l0.length:Int) > 1048576 then (some true) else (some (decide ((l1.length:Int) > (wrap64 (1048576 - (l0.length:Int))))))
theorem laws_big.calls (A0:Option Addr) (c0:Nat) (l0:List Int) (A1:Option Addr) (c1:Nat) (l1:List Int) (r:Bool) (w:World) (hr0:Kd.C (Kd.int .u8) w A0 l0.length l0) (hc0:l0.length≤c0) (hr1:Kd.C (Kd.int .u8) w A1 l1.length l1) (hc1:l1.length≤c1) (h:laws_big.f l0 l1=some r) :
  Calls Tryz.prog 4 #[.slice A0 l0.length c0,.slice A1 l1.length c1] w fun e w'=>e=.returned (.bool r)∧Drawn0 w w':=by
 have HR0:=ai_ hr0
 have HC0:=ai_ hc0
 clear hr0 hc0
 have HR1:=ai_ hr1
 have HC1:=ai_ hc1
 clear hr1 hc1
 have H:=h
 unfold laws_big.f at H
 clear h
 by_cases c3:(l0.length:Int) > 1048576
 ·rw [if_pos c3] at H
  have j2x:=decide_eq_true c3
  have jbk:decide (1048576 < l0.length)=true:=decide_eq_true (by omega)
  clear c3
  obtain rfl:=Option.some.inj H
  go_enter Tryz.func4,Tryz.ntmps4
  go_wp2
  go_ret
  exact ⟨rt_,d0_⟩
 ·rw [if_neg c3] at H
  have j2x:=decide_eq_false c3
  have jbk:decide (1048576 < l0.length)=false:=decide_eq_false (by omega)
  clear c3
  obtain rfl:=Option.some.inj H
  go_enter Tryz.func4,Tryz.ntmps4
  go_wp2
  go_ret
  exact ⟨rt_,d0_⟩
def IsS55 (w0 W:World) (g:Nat) (f0:List Int) (f1:Int) (f2:Int):Prop := ∃ A0 c0,W.heap[g]?=some (.cells #[.slice A0 f0.length c0,.int .i64 f1,.int .u64 f2] 55 (0,0))∧w0.heap.size≤g∧Kd.C (Kd.int .u8) w0 A0 f0.length f0
theorem IsS55.grown {w0 W:World} {g:Nat} {f0:List Int} {f1:Int} {f2:Int} {W1:World} {row:Option Nat} (h:IsS55 w0 W g f0 f1 f2) (hw:W.grownBy W1 row) (hne:some g≠row):IsS55 w0 W1 g f0 f1 f2:=by
 obtain ⟨A0,c0,hb,hg,hr0⟩:=h
 exact ⟨A0,c0,blk_grown hb hw hne,hg,hr0⟩
theorem IsS55.own_neN {w0 W:World} {g:Nat} {f0:List Int} {f1:Int} {f2:Int} {α:Type} {d:Kd α} {e:Nat} {base:Nat} {ok:Nat→Prop} {v:Value} {xs:List α} (h:IsS55 w0 W g f0 f1 f2) (ho:Kd.N d e W base ok v xs) (ht:e≠55):some g≠v.ownBlock:=by
 obtain ⟨A0,c0,hb,hg,hr0⟩:=h
 exact Kd.N_ne ho hb ht
theorem IsS55.fresh {w0 W:World} {g:Nat} {f0:List Int} {f1:Int} {f2:Int} (h:IsS55 w0 W g f0 f1 f2):∀ k,W.heap.size≤k→k≠g:=by
 obtain ⟨A0,c0,hb,hg,hr0⟩:=h
 exact Kd.freshB hb
theorem IsS55.kept {w0 W:World} {g:Nat} {f0:List Int} {f1:Int} {f2:Int} {W1:World} {S:Nat→Prop} (h:IsS55 w0 W g f0 f1 f2) (hk:Kept W W1 S) (hne:¬ S g):IsS55 w0 W1 g f0 f1 f2:=by
 obtain ⟨A0,c0,hb,hg,hr0⟩:=h
 exact ⟨A0,c0,blk_kept hb hk hne,hg,hr0⟩
theorem IsS55.below {w0 W:World} {g:Nat} {f0:List Int} {f1:Int} {f2:Int} {W1:World} (h:IsS55 w0 W g f0 f1 f2) (hw:Below W.heap.size W W1):IsS55 w0 W1 g f0 f1 f2:=h.grown (grown_of_below hw none) (by simp)
theorem IsS55.alloc {w0 W:World} {g:Nat} {f0:List Int} {f1:Int} {f2:Int} (h:IsS55 w0 W g f0 f1 f2) (o:Obj):IsS55 w0 (W.alloc o) g f0 f1 f2:=h.below (below_alloc (Below.refl _ _) o)
theorem IsS55.drewN {w0 W:World} {g:Nat} {f0:List Int} {f1:Int} {f2:Int} (h:IsS55 w0 W g f0 f1 f2) (m:Nat):IsS55 w0 (W.drewN m) g f0 f1 f2:=h
theorem IsS55.drew {w0 W:World} {g:Nat} {f0:List Int} {f1:Int} {f2:Int} (h:IsS55 w0 W g f0 f1 f2):IsS55 w0 W.drew g f0 f1 f2:=h
theorem IsS55.at_ {w0 W:World} {g:Nat} {f0:List Int} {f1:Int} {f2:Int} {w':World} {m:Nat} (hq:W.drewN m=w') (h:IsS55 w0 W g f0 f1 f2):IsS55 w0 w' g f0 f1 f2:=by subst hq;exact IsS55.drewN h m
theorem IsS55.apart {w0 W:World} {g:Nat} {f0:List Int} {f1:Int} {f2:Int} {α:Type} {d:Kd α} {e:Nat} {base:Nat} {ok:Nat→Prop} {v:Value} {xs:List α} (h:IsS55 w0 W g f0 f1 f2) (ho:d.R e W base ok v xs) (ht:∀ q,q∈e :: d.E→q≠55):d.R e W base (fun k=>ok k∧k≠g) v xs:=by
 obtain ⟨A0,c0,hb,hg,hr0⟩:=h
 exact Kd.R_types ho hb ht
theorem IsS55.own_ne {w0 W:World} {g:Nat} {f0:List Int} {f1:Int} {f2:Int} {α:Type} {d:Kd α} {e:Nat} {base:Nat} {ok:Nat→Prop} {v:Value} {xs:List α} (h:IsS55 w0 W g f0 f1 f2) (ho:d.R e W base ok v xs) (ht:e≠55):some g≠v.ownBlock:=by
 obtain ⟨A0,c0,hb,hg,hr0⟩:=h
 exact Kd.R_ne ho hb ht
theorem IsS55.apartQ {w0 W:World} {g:Nat} {f0:List Int} {f1:Int} {f2:Int} {α:Type} {d:Kd α} {e:Nat} {base:Nat} {ok:Nat→Prop} {v:Value} {xs:List α} (h:IsS55 w0 W g f0 f1 f2) (ho:d.Q e W base ok v xs) (ht:∀ q,q∈e :: d.E→q≠55):d.Q e W base (fun k=>ok k∧k≠g) v xs:=by
 obtain ⟨A0,c0,hb,hg,hr0⟩:=h
 exact Kd.Q_types ho hb ht
theorem IsS55.own_neQ {w0 W:World} {g:Nat} {f0:List Int} {f1:Int} {f2:Int} {α:Type} {d:Kd α} {e:Nat} {base:Nat} {ok:Nat→Prop} {v:Value} {xs:List α} (h:IsS55 w0 W g f0 f1 f2) (ho:d.Q e W base ok v xs) (ht:e≠55):some g≠v.ownBlock:=by
 obtain ⟨A0,c0,hb,hg,hr0⟩:=h
 exact Kd.Q_ne ho hb ht
theorem IsS55.apartS {w0 W:World} {g:Nat} {f0:List Int} {f1:Int} {f2:Int} {α:Type} {d:Kd α} {e:Nat} {base:Nat} {ok:Nat→Prop} {v:Value} {xs:List α} (h:IsS55 w0 W g f0 f1 f2) (ho:d.S e W base ok v xs) (ht:∀ q,q∈e :: d.E→q≠55):d.S e W base (fun k=>ok k∧k≠g) v xs:=by
 obtain ⟨A0,c0,hb,hg,hr0⟩:=h
 exact Kd.S_types ho hb ht
theorem IsS55.own_neS {w0 W:World} {g:Nat} {f0:List Int} {f1:Int} {f2:Int} {α:Type} {d:Kd α} {e:Nat} {base:Nat} {ok:Nat→Prop} {v:Value} {xs:List α} (h:IsS55 w0 W g f0 f1 f2) (ho:d.S e W base ok v xs) (ht:e≠55):some g≠v.ownBlock:=by
 obtain ⟨A0,c0,hb,hg,hr0⟩:=h
 exact Kd.S_ne ho hb ht
theorem IsS55.lt {w0 W:World} {g:Nat} {f0:List Int} {f1:Int} {f2:Int} (h:IsS55 w0 W g f0 f1 f2):g < W.heap.size:=by
 obtain ⟨A0,c0,hb,hg,hr0⟩:=h
 exact blk_lt hb
theorem IsS55.ge {w0 W:World} {g:Nat} {f0:List Int} {f1:Int} {f2:Int} (h:IsS55 w0 W g f0 f1 f2):w0.heap.size≤g:=by
 obtain ⟨A0,c0,hb,hg,hr0⟩:=h
 exact hg
theorem IsS55.ne_blk {w0 W:World} {g:Nat} {f0:List Int} {f1:Int} {f2:Int} {a:Nat} {cs:Array Value} {t:TypeId} {fr:Nat × Nat} (h:IsS55 w0 W g f0 f1 f2) (hb2:W.heap[a]?=some (.cells cs t fr)) (ht:t≠55):g≠a:=by
 obtain ⟨A0,c0,hb,hg,hr0⟩:=h
 rintro rfl
 rw [hb] at hb2
 injection hb2 with hb2
 injection hb2 with _ ht2
 exact ht ht2.symm
theorem IsS55.far {w0 W:World} {g:Nat} {f0:List Int} {f1:Int} {f2:Int} {p:Addr} (h:IsS55 w0 W g f0 f1 f2) (hne:g≠p.block) (u:Value):IsS55 w0 (W.setCell p u) g f0 f1 f2:=by
 obtain ⟨A0,c0,hb,hg,hr0⟩:=h
 exact ⟨A0,c0,blk_far hb hne u,hg,hr0⟩
theorem cellS55_0 {W:World} {g:Nat} {A0:Option Addr} {c0:Nat} {f0:List Int} {f1:Int} {f2:Int} (h:W.heap[g]?=some (.cells #[.slice A0 f0.length c0,.int .i64 f1,.int .u64 f2] 55 (0,0))):W.cell? ⟨g,0,none⟩=some (.slice A0 f0.length c0):=(blk_cell h 0).trans rfl
theorem cellS55_1 {W:World} {g:Nat} {A0:Option Addr} {c0:Nat} {f0:List Int} {f1:Int} {f2:Int} (h:W.heap[g]?=some (.cells #[.slice A0 f0.length c0,.int .i64 f1,.int .u64 f2] 55 (0,0))):W.cell? ⟨g,1,none⟩=some (.int .i64 f1):=(blk_cell h 1).trans rfl
theorem IsS55.set_1 {w0 W:World} {g:Nat} {f0:List Int} {f1:Int} {f2:Int} (h:IsS55 w0 W g f0 f1 f2) (x:Int):IsS55 w0 (W.setCell ⟨g,1,none⟩ (.int .i64 x)) g f0 x f2:=by
 obtain ⟨A0,c0,hb,hg,hr0⟩:=h
 exact ⟨A0,c0,by simpa using blk_set hb 1 (.int .i64 x),hg,hr0⟩
theorem cellS55_2 {W:World} {g:Nat} {A0:Option Addr} {c0:Nat} {f0:List Int} {f1:Int} {f2:Int} (h:W.heap[g]?=some (.cells #[.slice A0 f0.length c0,.int .i64 f1,.int .u64 f2] 55 (0,0))):W.cell? ⟨g,2,none⟩=some (.int .u64 f2):=(blk_cell h 2).trans rfl
theorem IsS55.set_2 {w0 W:World} {g:Nat} {f0:List Int} {f1:Int} {f2:Int} (h:IsS55 w0 W g f0 f1 f2) (x:Int):IsS55 w0 (W.setCell ⟨g,2,none⟩ (.int .u64 x)) g f0 f1 x:=by
 obtain ⟨A0,c0,hb,hg,hr0⟩:=h
 exact ⟨A0,c0,by simpa using blk_set hb 2 (.int .u64 x),hg,hr0⟩
theorem IsS55.new (w0 W:World) (A0:Option Addr) (c0:Nat) (f0:List Int) (f1:Int) (f2:Int) (hB:Below w0.heap.size w0 W) (hr0:Kd.C (Kd.int .u8) w0 A0 f0.length f0):IsS55 w0 (W.alloc (.cells #[.slice A0 f0.length c0,.int .i64 f1,.int .u64 f2] 55)) W.heap.size f0 f1 f2:=⟨A0,c0,by simpa using heap_alloc_new W _,hB.size,hr0⟩
theorem IsS55.to {w0 w W:World} {g:Nat} {f0:List Int} {f1:Int} {f2:Int} (h:Aside0 (IsS55 w0 w g f0 f1 f2)) (s:IsS55 w0 w g f0 f1 f2→IsS55 w0 W g f0 f1 f2:=by intro h_;repeat (first|(with_reducible first|exact h_|apply IsS55.alloc|apply IsS55.drewN|apply IsS55.drew|apply IsS55.set_1|apply IsS55.set_2)|exact h_)):IsS55 w0 W g f0 f1 f2:=s h.out
theorem IsS55.to1 {w0 w W:World} {g:Nat} {f0:List Int} {f1:Int} {f2:Int} {p1:Prop} (h:Aside0 (IsS55 w0 w g f0 f1 f2)) (y1_:Aside0 p1) (s:IsS55 w0 w g f0 f1 f2→p1→IsS55 w0 W g f0 f1 f2:=by intro h_ y1_;repeat (first|(with_reducible first|exact h_|apply IsS55.alloc|apply IsS55.drewN|apply IsS55.drew|apply IsS55.set_1|apply IsS55.set_2|refine IsS55.far ?_ y1_ _)|exact h_)):IsS55 w0 W g f0 f1 f2:=s h.out y1_.out
theorem IsS55.to2 {w0 w W:World} {g:Nat} {f0:List Int} {f1:Int} {f2:Int} {p1 p2:Prop} (h:Aside0 (IsS55 w0 w g f0 f1 f2)) (y1_:Aside0 p1) (y2_:Aside0 p2) (s:IsS55 w0 w g f0 f1 f2→p1→p2→IsS55 w0 W g f0 f1 f2:=by intro h_ y1_ y2_;repeat (first|(with_reducible first|exact h_|apply IsS55.alloc|apply IsS55.drewN|apply IsS55.drew|apply IsS55.set_1|apply IsS55.set_2|refine IsS55.far ?_ y1_ _|refine IsS55.far ?_ y2_ _)|exact h_)):IsS55 w0 W g f0 f1 f2:=s h.out y1_.out y2_.out
theorem IsS55.tg {w0 w W:World} {g:Nat} {f0:List Int} {f1:Int} {f2:Int} {f0':List Int} {f1':Int} {f2':Int} (h:Aside0 (IsS55 w0 w g f0 f1 f2)) (s:IsS55 w0 w g f0 f1 f2→IsS55 w0 W g f0' f1' f2':=by intro h_;repeat (first|(with_reducible first|exact h_|apply IsS55.alloc|apply IsS55.drewN|apply IsS55.drew|apply IsS55.set_1|apply IsS55.set_2)|exact h_)):IsS55 w0 W g f0' f1' f2':=s h.out
theorem IsS55.tg1 {w0 w W:World} {g:Nat} {f0:List Int} {f1:Int} {f2:Int} {f0':List Int} {f1':Int} {f2':Int} {p1:Prop} (h:Aside0 (IsS55 w0 w g f0 f1 f2)) (y1_:Aside0 p1) (s:IsS55 w0 w g f0 f1 f2→p1→IsS55 w0 W g f0' f1' f2':=by intro h_ y1_;repeat (first|(with_reducible first|exact h_|apply IsS55.alloc|apply IsS55.drewN|apply IsS55.drew|apply IsS55.set_1|apply IsS55.set_2|refine IsS55.far ?_ y1_ _)|exact h_)):IsS55 w0 W g f0' f1' f2':=s h.out y1_.out
theorem IsS55.tg2 {w0 w W:World} {g:Nat} {f0:List Int} {f1:Int} {f2:Int} {f0':List Int} {f1':Int} {f2':Int} {p1 p2:Prop} (h:Aside0 (IsS55 w0 w g f0 f1 f2)) (y1_:Aside0 p1) (y2_:Aside0 p2) (s:IsS55 w0 w g f0 f1 f2→p1→p2→IsS55 w0 W g f0' f1' f2':=by intro h_ y1_ y2_;repeat (first|(with_reducible first|exact h_|apply IsS55.alloc|apply IsS55.drewN|apply IsS55.drew|apply IsS55.set_1|apply IsS55.set_2|refine IsS55.far ?_ y1_ _|refine IsS55.far ?_ y2_ _)|exact h_)):IsS55 w0 W g f0' f1' f2':=s h.out y1_.out y2_.out
def spec_l1Cur_next.f (jh:List Int) (jk:Int) (jr:Int):Option (Int × Int × Int):=if jk < (jh.length:Int) then (if 0≤jk then (if (wrap64 (jk+1))≤(jh.length:Int) then (some (wrap64 (rd jh jk),wrap64 (jk+1),IntKind.u64.wrap ((IntKind.u64.wrap ((IntKind.u64.wrap (jr*6364136223846793005))+(IntKind.u64.wrap (wrap64 (rd jh jk)))))+1442695040888963407))) else (some (wrap64 (Go.bits .and .u64 ((IntKind.u64.wrap ((IntKind.u64.wrap ((IntKind.u64.wrap (jr*6364136223846793005))+(IntKind.u64.wrap (wrap64 (rd jh jk)))))+1442695040888963407)) / 1099511627776) 255),wrap64 (jk+1),IntKind.u64.wrap ((IntKind.u64.wrap ((IntKind.u64.wrap (jr*6364136223846793005))+(IntKind.u64.wrap (wrap64 (rd jh jk)))))+1442695040888963407)))) else (none)) else (if (wrap64 (jk+1))≤(jh.length:Int) then (some (0,wrap64 (jk+1),IntKind.u64.wrap ((IntKind.u64.wrap (IntKind.u64.wrap (jr*6364136223846793005)))+1442695040888963407))) else (some (wrap64 (Go.bits .and .u64 ((IntKind.u64.wrap ((IntKind.u64.wrap (IntKind.u64.wrap (jr*6364136223846793005)))+1442695040888963407)) / 1099511627776) 255),wrap64 (jk+1),IntKind.u64.wrap ((IntKind.u64.wrap (IntKind.u64.wrap (jr*6364136223846793005)))+1442695040888963407))))
theorem spec_l1Cur_next.calls (g:Nat) (jh:List Int) (jk:Int) (jr:Int) (r1:Int) (r2:Int) (r3:Int) (w0 w:World) (hI:IsS55 w0 w g jh jk jr) (hB:Below w0.heap.size w0 w) (h:spec_l1Cur_next.f jh jk jr=some (r1,r2,r3)) :
  Calls Tryz.prog 79 #[.pointer (some ⟨g,0,none⟩)] w fun e w'=>e=.returned (.int .i64 r1)∧IsS55 w0 w' g jh r2 r3∧Below w0.heap.size w0 w'∧KeepBut w w' g none:=by
 have HI0:=ai_ hI
 have HK:=ai_ (KeepBut.refl w g none)
 have HL:=ai_ hB.size
 clear hI
 have HW0:=ai_ hB.size
 have HB:=ai_ hB
 clear hB
 have H:=h
 unfold spec_l1Cur_next.f at H
 clear h
 by_cases c2:jk < (jh.length:Int)
 rotate_left
 ·rw [if_neg c2] at H
  have jbl:=decide_eq_false c2
  clear c2
  by_cases c7:(wrap64 (jk+1))≤(jh.length:Int)
  ·rw [if_pos c7] at H
   have j4i:=decide_eq_true c7
   clear c7
   simp only [Option.some.injEq,Prod.mk.injEq] at H
   obtain ⟨rfl,rfl,rfl⟩:=H
   obtain ⟨ASz8_0,cSz8_0,HGz8,hgz8,HSz8_0⟩:=HI0.out
   have jbm:=cellS55_0 HGz8
   have jbn:=cellS55_1 HGz8
   have jbo:=cellS55_2 HGz8
   have jbp:=blk_frozen HGz8 1
   have jbq:=blk_frozen HGz8 2
   clear HGz8 hgz8
   go_enter Tryz.func79,Tryz.ntmps79
   go_wp2
   repeat (go_quiet (fail);try go_wp2)
   go_ret
   exact ⟨rtE_,IsS55.tg HI0,below_to1 HB (IsS55.ge HI0.out),by repeat (first|(with_reducible first|exact HK.out|apply KeepBut.set_|apply keep_drewN|apply keep_drew|apply keep_alloc)|exact HK.out)⟩
  ·rw [if_neg c7] at H
   have j4i:=decide_eq_false c7
   clear c7
   simp only [Option.some.injEq,Prod.mk.injEq] at H
   obtain ⟨rfl,rfl,rfl⟩:=H
   obtain ⟨ASz9_0,cSz9_0,HGz9,hgz9,HSz9_0⟩:=HI0.out
   have jbr:=cellS55_0 HGz9
   have jbs:=cellS55_1 HGz9
   have jbt:=cellS55_2 HGz9
   have jbu:=blk_frozen HGz9 1
   have jbv:=blk_frozen HGz9 2
   clear HGz9 hgz9
   go_enter Tryz.func79,Tryz.ntmps79
   go_wp2
   repeat (go_quiet (fail);try go_wp2)
   go_ret
   exact ⟨rtE_,IsS55.tg HI0,below_to1 HB (IsS55.ge HI0.out),by repeat (first|(with_reducible first|exact HK.out|apply KeepBut.set_|apply keep_drewN|apply keep_drew|apply keep_alloc)|exact HK.out)⟩
 rw [if_pos c2] at H
 have jbl:=decide_eq_true c2
 clear c2
 by_cases c3:0≤jk
 rotate_left
 ·rw [if_neg c3] at H
  cases H
 rw [if_pos c3] at H
 have j2x:=decide_eq_true c3
 clear c3
 by_cases c4:(wrap64 (jk+1))≤(jh.length:Int)
 rotate_left
 ·rw [if_neg c4] at H
  have j2y:=decide_eq_false c4
  clear c4
  simp only [Option.some.injEq,Prod.mk.injEq] at H
  obtain ⟨rfl,rfl,rfl⟩:=H
  obtain ⟨ASz6_0,cSz6_0,HGz6,hgz6,HSz6_0⟩:=HI0.out
  have jbw:=cellS55_0 HGz6
  have jbx:=cellS55_1 HGz6
  have jby:=cellS55_2 HGz6
  have jbz:=blk_frozen HGz6 1
  have jc0:=blk_frozen HGz6 2
  clear HGz6 hgz6
  have j2d:0≤(jk:Int):=odt_
  have j2e:jk < (jh.length:Int):=odt_
  obtain ⟨j4j,e101,j1j⟩:=Kd.at_int HSz6_0 jk j2d j2e
  cases e101
  replace j1j:=pw_cell_below HB.out j1j
  replace j2d:=eq_true j2d
  replace j2e:=eq_true j2e
  go_enter Tryz.func79,Tryz.ntmps79
  go_wp2
  repeat (go_quiet (fail);try go_wp2)
  go_ret
  exact ⟨rtE_,IsS55.tg HI0,below_to1 HB (IsS55.ge HI0.out),by repeat (first|(with_reducible first|exact HK.out|apply KeepBut.set_|apply keep_drewN|apply keep_drew|apply keep_alloc)|exact HK.out)⟩
 rw [if_pos c4] at H
 have j2y:=decide_eq_true c4
 clear c4
 simp only [Option.some.injEq,Prod.mk.injEq] at H
 obtain ⟨rfl,rfl,rfl⟩:=H
 obtain ⟨ASz5_0,cSz5_0,HGz5,hgz5,HSz5_0⟩:=HI0.out
 have jc1:=cellS55_0 HGz5
 have jc2:=cellS55_1 HGz5
 have jc3:=cellS55_2 HGz5
 have jc4:=blk_frozen HGz5 1
 have jc5:=blk_frozen HGz5 2
 clear HGz5 hgz5
 have j2d:0≤(jk:Int):=odt_
 have j2e:jk < (jh.length:Int):=odt_
 obtain ⟨j4j,e101,j1j⟩:=Kd.at_int HSz5_0 jk j2d j2e
 cases e101
 replace j1j:=pw_cell_below HB.out j1j
 replace j2d:=eq_true j2d
 replace j2e:=eq_true j2e
 go_enter Tryz.func79,Tryz.ntmps79
 go_wp2
 repeat (go_quiet (fail);try go_wp2)
 go_ret
 exact ⟨rtE_,IsS55.tg HI0,below_to1 HB (IsS55.ge HI0.out),by repeat (first|(with_reducible first|exact HK.out|apply KeepBut.set_|apply keep_drewN|apply keep_drew|apply keep_alloc)|exact HK.out)⟩
def spec_l1Cur_pick.f (jh:List Int) (jk:Int) (jr:Int) (a1:Int):Option (Int × Int × Int):=if a1≤1 then (some (0,jk,jr)) else ((spec_l1Cur_next.f jh jk jr).bind fun bt102=>(if a1 > 200 then ((spec_l1Cur_next.f jh bt102.2.1 bt102.2.2).bind fun bt105=>(if a1=0 then (none) else (some (Int.tmod (wrap64 ((wrap64 (bt102.1*256))+bt105.1)) a1,bt105.2.1,bt105.2.2)))) else (if a1=0 then (none) else (some (Int.tmod bt102.1 a1,bt102.2.1,bt102.2.2)))))
theorem spec_l1Cur_pick.calls (g:Nat) (jh:List Int) (jk:Int) (jr:Int) (a1:Int) (r1:Int) (r2:Int) (r3:Int) (w0 w:World) (hI:IsS55 w0 w g jh jk jr) (hB:Below w0.heap.size w0 w) (h:spec_l1Cur_pick.f jh jk jr a1=some (r1,r2,r3)) :
  Calls Tryz.prog 58 #[.pointer (some ⟨g,0,none⟩),.int .i64 a1] w fun e w'=>e=.returned (.int .i64 r1)∧IsS55 w0 w' g jh r2 r3∧Below w0.heap.size w0 w'∧KeepBut w w' g none:=by
 have HI0:=ai_ hI
 have HK:=ai_ (KeepBut.refl w g none)
 have HL:=ai_ hB.size
 clear hI
 have HW0:=ai_ hB.size
 have HB:=ai_ hB
 clear hB
 have H:=h
 unfold spec_l1Cur_pick.f at H
 clear h
 by_cases c3:a1≤1
 ·rw [if_pos c3] at H
  have j2x:=decide_eq_true c3
  clear c3
  simp only [Option.some.injEq,Prod.mk.injEq] at H
  obtain ⟨rfl,rfl,rfl⟩:=H
  go_enter Tryz.func58,Tryz.ntmps58
  go_wp2
  go_ret
  exact ⟨rtE_,IsS55.tg HI0,below_to1 HB (IsS55.ge HI0.out),by repeat (first|(with_reducible first|exact HK.out|apply KeepBut.set_|apply keep_drewN|apply keep_drew|apply keep_alloc)|exact HK.out)⟩
 rw [if_neg c3] at H
 have j2x:=decide_eq_false c3
 clear c3
 obtain ⟨⟨j4k,j3x,j3y⟩,A4,H⟩:=bs_ H
 (try dsimp only at H)
 by_cases c5:a1 > 200
 rotate_left
 ·rw [if_neg c5] at H
  have j4l:=decide_eq_false c5
  clear c5
  by_cases c10:a1=0
  ·rw [if_pos c10] at H
   cases H
  ·rw [if_neg c10] at H
   have jck:=beq_eq_false_iff_ne.mpr c10
   have jcl:=bne_iff_ne.mpr c10
   simp only [Option.some.injEq,Prod.mk.injEq] at H
   obtain ⟨rfl,rfl,rfl⟩:=H
   go_enter Tryz.func58,Tryz.ntmps58
   go_wp2_with (first|((with_reducible refine gate_callee (f:=79) rfl ?_);refine gl_ (some 9) Tryz.func79 #[.pointer (some ⟨g,0,none⟩)] ?_;(with_reducible refine (spec_l1Cur_next.calls g jh jk jr j4k j3x j3y w0 _ ?side1 ?side2 A4.out).mono ?_);(case side1=>exact IsS55.to HI0);(case side2=>exact below_to1 HB (IsS55.ge HI0.out));rintro e w11 ⟨rfl,hi,hb,hk⟩;refine ⟨_,rfl,?_⟩;replace HK:=ai_ (KeepBut.trans (keep_to HK) hk (.inl rfl));replace HB:=ai_ (hb);replace HI0:=ai_ (hi);clear hb hk hi))
   go_ret
   exact ⟨rtE_,IsS55.tg HI0,below_to1 HB (IsS55.ge HI0.out),by repeat (first|(with_reducible first|exact HK.out|apply KeepBut.set_|apply keep_drewN|apply keep_drew|apply keep_alloc)|exact HK.out)⟩
 rw [if_pos c5] at H
 have j4l:=decide_eq_true c5
 clear c5
 obtain ⟨⟨jc6,jc7,jc8⟩,A6,H⟩:=bs_ H
 (try dsimp only at H)
 by_cases c7:a1=0
 ·rw [if_pos c7] at H
  cases H
 ·rw [if_neg c7] at H
  have j4i:=beq_eq_false_iff_ne.mpr c7
  have jdy:=bne_iff_ne.mpr c7
  simp only [Option.some.injEq,Prod.mk.injEq] at H
  obtain ⟨rfl,rfl,rfl⟩:=H
  go_enter Tryz.func58,Tryz.ntmps58
  go_wp2_with (first|((with_reducible refine gate_callee (f:=79) rfl ?_);refine gl_ (some 9) Tryz.func79 #[.pointer (some ⟨g,0,none⟩)] ?_;(with_reducible refine (spec_l1Cur_next.calls g jh jk jr j4k j3x j3y w0 _ ?side1 ?side2 A4.out).mono ?_);(case side1=>exact IsS55.to HI0);(case side2=>exact below_to1 HB (IsS55.ge HI0.out));rintro e w8 ⟨rfl,hi,hb,hk⟩;refine ⟨_,rfl,?_⟩;replace HK:=ai_ (KeepBut.trans (keep_to HK) hk (.inl rfl));replace HB:=ai_ (hb);replace HI0:=ai_ (hi);clear hb hk hi)|((with_reducible refine gate_callee (f:=79) rfl ?_);refine gl_ (some 15) Tryz.func79 #[.pointer (some ⟨g,0,none⟩)] ?_;(with_reducible refine (spec_l1Cur_next.calls g jh j3x j3y jc6 jc7 jc8 w0 _ ?side1 ?side2 A6.out).mono ?_);(case side1=>exact IsS55.to HI0);(case side2=>exact below_to1 HB (IsS55.ge HI0.out));rintro e w9 ⟨rfl,hi,hb,hk⟩;refine ⟨_,rfl,?_⟩;replace HK:=ai_ (KeepBut.trans (keep_to HK) hk (.inl rfl));replace HB:=ai_ (hb);replace HI0:=ai_ (hi);clear hb hk hi))
  go_ret
  exact ⟨rtE_,IsS55.tg HI0,below_to1 HB (IsS55.ge HI0.out),by repeat (first|(with_reducible first|exact HK.out|apply KeepBut.set_|apply keep_drewN|apply keep_drew|apply keep_alloc)|exact HK.out)⟩
def spec_l1Cur_sureLine.l0:Nat→Int→Int→List Int→Int→Int→Int→Int→Int→List Int→Option (Int × Int × Int × List Int × Int × Int)
 | 0,_,_,_,_,_,_,_,_,_=>none
 | k+1,x4,x5,j3m,j3n,j3o,j2g,j2h,j2i,j2b=>if x5 > 0 then ((spec_l1Cur_pick.f j3m j3n j3o 9).bind fun bt125=>(if j2b.length < 17592186044416 then (spec_l1Cur_sureLine.l0 k (wrap64 (x4+(wrap64 (1+bt125.1)))) (wrap64 (x5 - 1)) j3m bt125.2.1 bt125.2.2 j2g j2h j2i (j2b ++ [wrap64 (x4+(wrap64 (1+bt125.1)))])) else (none))) else (some (j2g,j2h,j2i,j2b,j3n,j3o))
def spec_l1Cur_sureLine.f (k:Nat) (jh:List Int) (jk:Int) (jr:Int):Option (Int × Int × Int × List Int × Int × Int):=(spec_l1Cur_pick.f jh jk jr 40).bind fun bt109=>((spec_l1Cur_pick.f jh bt109.2.1 bt109.2.2 20).bind fun bt112=>((spec_l1Cur_pick.f jh bt112.2.1 bt112.2.2 6).bind fun bt115=>((spec_l1Cur_pick.f jh bt115.2.1 bt115.2.2 4).bind fun bt122=>(spec_l1Cur_sureLine.l0 k 0 (wrap64 (1+bt122.1)) jh bt122.2.1 bt122.2.2 bt109.1 (wrap64 (1+bt112.1)) (wrap64 (1+bt115.1)) (([0]:List Int))))))
theorem spec_l1Cur_sureLine.calls (k:Nat) (g:Nat) (jh:List Int) (jk:Int) (jr:Int) (r1:Int) (r2:Int) (r3:Int) (r4:List Int) (r5:Int) (r6:Int) (w0 w:World) (hI:IsS55 w0 w g jh jk jr) (hB:Below w0.heap.size w0 w) (h:spec_l1Cur_sureLine.f k jh jk jr=some (r1,r2,r3,r4,r5,r6)) :
  Calls Tryz.prog 65 #[.pointer (some ⟨g,0,none⟩)] w fun e w' => ∃ Aa:Value,e=.returned (.agg #[.int .i64 r1,.int .i64 r2,.int .i64 r3,Aa])∧Kd.R Ki_ 3 w' w.heap.size (fun _=>True) Aa r4∧IsS55 w0 w' g jh r5 r6∧Below w0.heap.size w0 w'∧KeepBut w w' g none:=by
 have hu26:=Tryz.underlying26
 have HI0:=ai_ hI
 have HK:=ai_ (KeepBut.refl w g none)
 have HL:=ai_ hB.size
 clear hI
 have HW0:=ai_ hB.size
 have HB:=ai_ hB
 clear hB
 have H:=h
 unfold spec_l1Cur_sureLine.f at H
 clear h
 obtain ⟨⟨j1t,j4m,j4n⟩,A2,H⟩:=bs_ H
 (try dsimp only at H)
 obtain ⟨⟨j1u,j4o,j4p⟩,A3,H⟩:=bs_ H
 (try dsimp only at H)
 obtain ⟨⟨j1v,j3z,j4a⟩,A4,H⟩:=bs_ H
 (try dsimp only at H)
 obtain ⟨j2z,hy118⟩:∃ y_:List Int,y_=(([0]:List Int)):=⟨_,rfl⟩
 replace H:((spec_l1Cur_pick.f jh j3z j4a 4).bind fun bt122=>(spec_l1Cur_sureLine.l0 k 0 (wrap64 (1+bt122.1)) jh bt122.2.1 bt122.2.2 j1t (wrap64 (1+j1u)) (wrap64 (1+j1v)) j2z))=some (r1,r2,r3,r4,r5,r6):=by first|(rw [hy118];with_reducible exact H)|(have H2_:=(Option.bind_some _ _).symm.trans H;rw [hy118];with_reducible exact H2_)|(have H2_:=(Option.bind_some _ _).symm.trans H;with_reducible exact H2_)|with_reducible exact H|(rw [hy118];exact H)|exact H
 have j3p:=ai_ hy118
 clear hy118
 obtain ⟨⟨j4q,j4r,j4s⟩,A5,H⟩:=bs_ H
 (try dsimp only at H)
 have H':=ai_ H
 clear H
 go_enter Tryz.func65,Tryz.ntmps65
 go_wp2_with (first|((with_reducible refine gate_dst (N:=2) rfl ?_);refine bxe_ #[.int .i64 0,.int .i64 0,.int .i64 0,.slice none 0 0] 26 ?_;intro j1r hg w6 hbox hb;replace HB:=ai_ (below_step (below_to1 HB (IsS55.ge HI0.out)) hb);have jv:=ai_ (hbox);have j1d:=ai_ (gb_ hg (keep_size (keep_to HK)));replace HK:=ai_ (KeepBut.trans (keep_to HK) (KeepBut.of_below hb g none) (.inl rfl));have j1e:=ai_ (Nat.le_trans HW0.out j1d.out);have jp:=ai_ (ne_ hg (IsS55.lt (IsS55.to HI0)));replace HI0:=ai_ (IsS55.below (IsS55.to HI0) hb);have j1g:=ai_ jp.out.symm;clear hb hbox hg)|((with_reducible refine gate_callee (f:=58) rfl ?_);refine gl_ (some 7) Tryz.func58 #[.pointer (some ⟨g,0,none⟩),.int .i64 40] ?_;(with_reducible refine (spec_l1Cur_pick.calls g jh jk jr 40 j1t j4m j4n w0 _ ?side1 ?side2 A2.out).mono ?_);(case side1=>exact IsS55.tg1 HI0 jp);(case side2=>exact below_to2 HB (IsS55.ge HI0.out) j1e.out);rintro e w7 ⟨rfl,hi,hb,hk⟩;refine ⟨_,rfl,?_⟩;replace jv:=ai_ (KeepBut.blk hk (blk_to jv) j1g.out (by simp));replace HK:=ai_ (KeepBut.trans (keep_f1 HK j1d) hk (.inl rfl));replace HB:=ai_ (hb);replace HI0:=ai_ (hi);clear hb hk hi)|((with_reducible refine gate_callee (f:=58) rfl ?_);refine gl_ (some 9) Tryz.func58 #[.pointer (some ⟨g,0,none⟩),.int .i64 20] ?_;(with_reducible refine (spec_l1Cur_pick.calls g jh j4m j4n 20 j1u j4o j4p w0 _ ?side1 ?side2 A3.out).mono ?_);(case side1=>exact IsS55.tg1 HI0 jp);(case side2=>exact below_to2 HB (IsS55.ge HI0.out) j1e.out);rintro e w8 ⟨rfl,hi,hb,hk⟩;refine ⟨_,rfl,?_⟩;replace jv:=ai_ (KeepBut.blk hk (blk_to jv) j1g.out (by simp));replace HK:=ai_ (KeepBut.trans (keep_f1 HK j1d) hk (.inl rfl));replace HB:=ai_ (hb);replace HI0:=ai_ (hi);clear hb hk hi)|((with_reducible refine gate_callee (f:=58) rfl ?_);refine gl_ (some 12) Tryz.func58 #[.pointer (some ⟨g,0,none⟩),.int .i64 6] ?_;(with_reducible refine (spec_l1Cur_pick.calls g jh j4o j4p 6 j1v j3z j4a w0 _ ?side1 ?side2 A4.out).mono ?_);(case side1=>exact IsS55.tg1 HI0 jp);(case side2=>exact below_to2 HB (IsS55.ge HI0.out) j1e.out);rintro e w9 ⟨rfl,hi,hb,hk⟩;refine ⟨_,rfl,?_⟩;replace jv:=ai_ (KeepBut.blk hk (blk_to jv) j1g.out (by simp));replace HK:=ai_ (KeepBut.trans (keep_f1 HK j1d) hk (.inl rfl));replace HB:=ai_ (hb);replace HI0:=ai_ (hi);clear hb hk hi)|((with_reducible refine gate_dst (N:=14) rfl ?_);refine Kd.R_lit Ki_ _ 3 ?hg (N:=14) ?hd (xs:=([0]:List Int)) (inner:=[.int .i64 0]) (ok:=fun _=>True) (okp:=fun _=>True) ?hr ?hp (fun _ hk=>hk) trivial (Below.refl _ _) (Nat.le_refl _) (by simp) ?_;(case hd=>rfl);(case hg=>rfl);(case hr=>first|(go_simp;done)|(go_simp;rfl));(case hp=>exact (Reps.one (show Kd.M Ki_ _ _ _ 0 [.int .i64 0] from rfl) (Reps.none _ _)));intro jdz w10 j2t hb hg_ hnew_;clear hg_ hnew_;(first|rw [← j3p.out] at j2t|(simp only [Int.reduceToNat] at j2t;rw [← j3p.out] at j2t));have j1w:=ai_ (Kd.R_lower j2t (keep_size (w:=w) (g:=g) (row:=none) (keep_f1 HK j1d)));replace jv:=bb_ jv hb;replace HK:=ai_ (KeepBut.trans (keep_f1 HK j1d) (KeepBut.of_below hb g none) (.inl rfl));replace HB:=ai_ (below_step (below_to2 HB (IsS55.ge HI0.out) j1e.out) hb);replace HI0:=ai_ (IsS55.below (IsS55.tg1 HI0 jp) hb);clear hb j2t;obtain ⟨Ao12,co12,eo12⟩:=Kd.R_slice j1w.out;subst eo12)|((with_reducible refine gate_dst (N:=3) rfl ?_);refine bxe_ #[.int .i64 0,.int .i64 0,.int .i64 0,.slice none 0 0] 26 ?_;intro j2j hg w13 hbox hb;replace j1w:=rb_ j1w hb;replace HB:=ai_ (below_step (below_to2 HB (IsS55.ge HI0.out) j1e.out) hb);have j1b:=ai_ (hbox);have j1m:=ai_ (gb_ hg (keep_size (keep_f1 HK j1d)));replace HK:=ai_ (KeepBut.trans (keep_f1 HK j1d) (KeepBut.of_below hb g none) (.inl rfl));have j1x:=ai_ (Nat.le_trans HW0.out j1m.out);have j1c:=ai_ (ne_ hg (blk_lt (blk_to jv)));replace jv:=bb_ jv hb;have j1l:=ai_ j1c.out.symm;have jz:=ai_ (ne_ hg (IsS55.lt (IsS55.to1 HI0 jp)));replace HI0:=ai_ (IsS55.below (IsS55.tg1 HI0 jp) hb);have j1k:=ai_ jz.out.symm;clear hb hbox hg;have jcm:=j1l.out;have jcn:=j1c.out;have jco:=j1k.out;have jcp:=jz.out;obtain ⟨j3a,j3b,j3c,j3d,j3e,j3f,j3g,j3h⟩:=blk4_ j1b)|((with_reducible refine gate_callee (f:=58) rfl ?_);refine gl_ (some 17) Tryz.func58 #[.pointer (some ⟨g,0,none⟩),.int .i64 4] ?_;(with_reducible refine (spec_l1Cur_pick.calls g jh j3z j4a 4 j4q j4r j4s w0 _ ?side1 ?side2 A5.out).mono ?_);(case side1=>exact IsS55.tg2 HI0 jp jz);(case side2=>exact below_to3 HB (IsS55.ge HI0.out) j1e.out j1x.out);rintro e w17 ⟨rfl,hi,hb,hk⟩;refine ⟨_,rfl,?_⟩;replace jv:=ai_ (KeepBut.blk hk (blk_f1 jv j1c) j1g.out (by simp));replace j1w:=ai_ (Kd.R_mono (Kd.R_keep (IsS55.apart (IsS55.to2 HI0 jp jz) (rtf_ j1w j1b) (by decide)) hk (fun _ h=>h.2)) (fun _ h=>h.1));replace j1b:=ai_ (KeepBut.blk hk (g':=j2j) (o:=.cells #[.int .i64 j1t,.int .i64 (wrap64 (1+j1u)),.int .i64 (wrap64 (1+j1v)),.slice Ao12 j2z.length co12] 26 (0,0)) (bput4 j1b) j1k.out (by simp));replace HK:=ai_ (KeepBut.trans (keep_f2 HK j1d j1m) hk (.inl rfl));replace HB:=ai_ (hb);replace HI0:=ai_ (hi);clear hb hk hi))
 go_loopg [4,5] k (fun kq v4 v5 w' => ∃ (j2c:Int) (j2l:Int) (j1p:Int) (j1q:Int) (j1a:List Int) (u122003:Value),v4=.int .i64 j2c∧v5=.int .i64 j2l∧Aside0 (spec_l1Cur_sureLine.l0 kq j2c j2l jh j1p j1q j1t (wrap64 (1+j1u)) (wrap64 (1+j1v)) j1a=some (r1,r2,r3,r4,r5,r6))∧Aside0 (kq≤k)∧Aside0 (Kd.R Ki_ 3 w' w.heap.size (fun _=>True) u122003 j1a)∧Aside0 (w'.heap[j1r]?=some (.cells #[.int .i64 0,.int .i64 0,.int .i64 0,(.slice none 0 0)] 26 (0,0)))∧Aside0 (w'.heap[j2j]?=some (.cells #[.int .i64 j1t,.int .i64 (wrap64 (1+j1u)),.int .i64 (wrap64 (1+j1v)),u122003] 26 (0,0)))∧Aside0 (IsS55 w0 w' g jh j1p j1q)∧Aside0 (KeepBut w w' g none)∧Aside0 (Below w0.heap.size w0 w'))
 case atStart=>exact ⟨(0),(wrap64 (1+j4q)),(j4r),(j4s),(j2z),(.slice Ao12 j2z.length co12),rt_,rt_,H',⟨Nat.le_refl _⟩,⟨kd_to j1w⟩,⟨blk_to jv⟩,⟨blk_to j1b⟩,⟨IsS55.tg2 HI0 jp jz⟩,⟨keep_f2 HK j1d j1m⟩,⟨below_to3 HB (IsS55.ge HI0.out) j1e.out j1x.out⟩⟩
 clear H'
 try clear c1
 try clear p2
 try clear c5
 try clear c6
 try clear p6
 try clear c14
 try clear c15
 try clear j3a
 try clear j3b
 try clear j3c
 try clear j3d
 try clear j3e
 try clear j3f
 try clear j3g
 try clear j3h
 obtain ⟨j2c,j2l,j1p,j1q,j1a,u122003,rfl,rfl,HA,HK1,jt,jv,j1b,HI0,HK,HB⟩:=hrel
 cases gk with
 | zero=>exact absurd HA.out (by simp [spec_l1Cur_sureLine.l0])
 | succ k1 =>
  have H:=HA.out
  clear HA
  simp only [spec_l1Cur_sureLine.l0] at H
  by_cases c18:j2l > 0
  ·rw [if_pos c18] at H
   have j4t:=decide_eq_true c18
   clear c18
   obtain ⟨⟨j2m,j4b,j4c⟩,A19,H⟩:=bs_ H
   (try dsimp only at H)
   by_cases c20:j1a.length < 17592186044416
   ·rw [if_pos c20] at H
    have j4u:=ai_ c20
    clear c20
    obtain ⟨j3i,hy128⟩:∃ y_:List Int,y_=(j1a ++ [wrap64 (j2c+(wrap64 (1+j2m)))]):=⟨_,rfl⟩
    replace H:(spec_l1Cur_sureLine.l0 k1 (wrap64 (j2c+(wrap64 (1+j2m)))) (wrap64 (j2l - 1)) jh j4b j4c j1t (wrap64 (1+j1u)) (wrap64 (1+j1v)) j3i)=some (r1,r2,r3,r4,r5,r6):=by first|(rw [hy128];with_reducible exact H)|(have H2_:=(Option.bind_some _ _).symm.trans H;rw [hy128];with_reducible exact H2_)|(have H2_:=(Option.bind_some _ _).symm.trans H;with_reducible exact H2_)|with_reducible exact H|(rw [hy128];exact H)|exact H
    have j4v:=ai_ hy128
    clear hy128
    have H':=ai_ H
    clear H
    go_wp2_with (first|((with_reducible refine gate_callee (f:=58) rfl ?_);refine gl_ (some 25) Tryz.func58 #[.pointer (some ⟨g,0,none⟩),.int .i64 9] ?_;(with_reducible refine (spec_l1Cur_pick.calls g jh j1p j1q 9 j2m j4b j4c w0 _ ?side1 ?side2 A19.out).mono ?_);(case side1=>exact IsS55.tg2 HI0 jp jz);(case side2=>exact below_to3 HB (IsS55.ge HI0.out) j1e.out j1x.out);rintro e w21 ⟨rfl,hi,hb,hk⟩;refine ⟨_,rfl,?_⟩;replace jt:=ai_ (Kd.R_mono (Kd.R_keep (IsS55.apart (IsS55.to2 HI0 jp jz) (kd_to jt) (by decide)) hk (fun _ h=>h.2)) (fun _ h=>h.1));replace jv:=ai_ (KeepBut.blk hk (blk_to jv) j1g.out (by simp));replace j1b:=ai_ (KeepBut.blk hk (blk_to j1b) j1k.out (by simp));replace HK:=ai_ (KeepBut.trans (keep_f2 HK j1d j1m) hk (.inl rfl));replace HB:=ai_ (hb);replace HI0:=ai_ (hi);clear hb hk hi;have jcq:=j1l.out;have jcr:=j1c.out;have jcs:=j1k.out;have jct:=jz.out;obtain ⟨j5s,j5t,j5u,j5v,j5w,j5x,j5y,j5z⟩:=blk4_ j1b)|((with_reducible refine gate_builtin (b:=.append) (xs:=#[.tmp 29,.tmp 31]) rfl ?_);at_builtin;refine Kd.R_append Ki_ w.heap.size rfl (.tmp 29) (.tmp 31) 24 3 (.int .i64 0) 8 rfl Tryz.underlying24 info3 rfl (by decide) (by omega) u122003 j1a (wrap64 (j2c+(wrap64 (1+j2m)))) [.int .i64 (wrap64 (j2c+(wrap64 (1+j2m))))] (fun _=>True) (fun _=>False) rfl rfl ?aP (fun _ hk=>hk.elim) ?aF ?aO (Below.refl _ _) ?aS ?aL ?_;(case aP=>exact rfl);(case aF=>exact (fun _ _=>trivial));(case aO=>exact (kd_to jt));(case aS=>exact (keep_size (w:=w) (g:=g) (row:=none) (keep_f2 HK j1d j1m)));(case aL=>have:=j4u.out;omega);intro je0 w25 ho hb hg hat;rw [← j4v.out] at ho;replace jv:=ai_ (blk_grown (g:=j1r) (o:=.cells #[.int .i64 0,.int .i64 0,.int .i64 0,.slice none 0 0] 26 (0,0)) (blk_to jv) hg (Kd.R_ne jt.out jv.out (by decide)));replace j1b:=ai_ (blk_grown (g:=j2j) (o:=.cells #[.int .i64 j1t,.int .i64 (wrap64 (1+j1u)),.int .i64 (wrap64 (1+j1v)),u122003] 26 (0,0)) (blk_to j1b) hg (Kd.R_ne jt.out j1b.out (by decide)));replace HB:=ai_ (below_weaken (below_to3 HB (IsS55.ge HI0.out) j1e.out j1x.out) HL.out hb);replace HI0:=ai_ (IsS55.grown (IsS55.tg2 HI0 jp jz) hg (IsS55.own_ne HI0.out jt.out (by decide)));replace HK:=ai_ (KeepBut.trans (keep_f2 HK j1d j1m) (KeepBut.of_grown hg g) (Kd.R_base2 jt.out));have j3q:=ai_ (ho);clear jt;clear ho hb hg hat;obtain ⟨Ao26,co26,eo26⟩:=Kd.R_slice j3q.out;subst eo26;obtain ⟨j6a,j6b,j6c,j6d,j6e,j6f,j6g,j6h⟩:=blk4_ j1b))
    go_roundg k1
    case measure=>have:=HK1.out;omega
    case rel=>exact ⟨(wrap64 (j2c+(wrap64 (1+j2m)))),(wrap64 (j2l - 1)),(j4b),(j4c),(j3i),(.slice Ao26 j3i.length co26),rt_,rt_,H',⟨by have:=HK1.out;omega⟩,⟨by (with_reducible repeat (first|apply Kd.R_alloc|apply Kd.R_drewN|apply Kd.R_drew));exact Kd.R_mono (Kd.R_far (p:=⟨j2j,3,none⟩) (Kd.R_types j3q.out j1b.out (by decide)) (fun _ hk=>hk.2) (.slice Ao26 j3i.length co26)) (fun _ hk=>trivial)⟩,⟨by (with_reducible repeat (first|refine blk_drewN ?_ _|refine blk_drew ?_|refine blk_alloc ?_ _));refine blk_far ?_ j1c.out _;(with_reducible repeat (first|refine blk_drewN ?_ _|refine blk_drew ?_|refine blk_alloc ?_ _));exact jv.out⟩,⟨by (with_reducible repeat (first|refine blk_drewN ?_ _|refine blk_drew ?_|refine blk_alloc ?_ _));refine blk_put (cs:=#[.int .i64 j1t,.int .i64 (wrap64 (1+j1u)),.int .i64 (wrap64 (1+j1v)),u122003]) ?_ 3 _ rfl;(with_reducible repeat (first|refine blk_drewN ?_ _|refine blk_drew ?_|refine blk_alloc ?_ _));exact j1b.out⟩,⟨IsS55.tg2 HI0 jp jz⟩,⟨keep_f2 HK j1d j1m⟩,⟨below_to3 HB (IsS55.ge HI0.out) j1e.out j1x.out⟩⟩
   ·rw [if_neg c20] at H
    cases H
  rw [if_neg c18] at H
  have j4t:=decide_eq_false c18
  clear c18
  simp only [Option.some.injEq,Prod.mk.injEq] at H
  obtain ⟨rfl,rfl,rfl,rfl,rfl,rfl⟩:=H
  have jcu:=j1l.out
  have jcv:=j1c.out
  have jcw:=j1k.out
  have jcx:=jz.out
  obtain ⟨j6i,j6j,j6k,j6l,j6m,j6n,j6o,j6p⟩:=blk4_ j1b
  have jcy:=j1g.out
  have jcz:=jp.out
  obtain ⟨j6q,j6r,j6s,j6t,j6u,j6v,j6w,j6x⟩:=blk4_ jv
  obtain ⟨Ao33,co33,eo33⟩:=Kd.R_slice jt.out
  subst eo33
  go_wp2
  refine bodyPost_ret (results_cell_row rfl _ _ j1r 26 #[.int .i64 j1t,.int .i64 (wrap64 (1+j1u)),.int .i64 (wrap64 (1+j1v)),.slice Ao33 j1a.length co33] (0,0) _ rfl (bput4 jv) Tryz.underlying26 rfl (by kernel_rfl)) rfl ?_
  exact ⟨_,rtE_,by (with_reducible repeat (first|apply Kd.R_alloc|apply Kd.R_drewN|apply Kd.R_drew));exact Kd.R_mono (Kd.R_far (p:=⟨j1r,3,none⟩) (Kd.R_far (p:=⟨j1r,2,none⟩) (Kd.R_far (p:=⟨j1r,1,none⟩) (Kd.R_far (p:=⟨j1r,0,none⟩) (Kd.R_types jt.out jv.out (by decide)) (fun _ hk=>hk.2) (.int .i64 j1t)) (fun _ hk=>hk.2) (.int .i64 (wrap64 (1+j1u)))) (fun _ hk=>hk.2) (.int .i64 (wrap64 (1+j1v)))) (fun _ hk=>hk.2) (.slice Ao33 j1a.length co33)) (fun _ hk=>trivial),IsS55.tg2 HI0 jp jz,below_to3 HB (IsS55.ge HI0.out) j1e.out j1x.out,keep_f2 HK j1d j1m⟩
def spec_l1Cur_among.f (jh:List Int) (jk:Int) (jr:Int) (l1:List Int):Option (Int × Int × Int):=(spec_l1Cur_pick.f jh jk jr (l1.length:Int)).bind fun bt131=>(if 0≤bt131.1 then (if bt131.1 < (l1.length:Int) then (some (rd l1 bt131.1,bt131.2.1,bt131.2.2)) else (none)) else (none))
theorem spec_l1Cur_among.calls (g:Nat) (jh:List Int) (jk:Int) (jr:Int) (A1:Option Addr) (c1:Nat) (l1:List Int) (r1:Int) (r2:Int) (r3:Int) (w0 w:World) (hI:IsS55 w0 w g jh jk jr) (hB:Below w0.heap.size w0 w) (hr1:Kd.C Ki_ w A1 l1.length l1) (hc1:l1.length≤c1) (hf1:∀ ad,A1=some ad→0 < l1.length→ad.block≠g) (h:spec_l1Cur_among.f jh jk jr l1=some (r1,r2,r3)) :
  Calls Tryz.prog 70 #[.pointer (some ⟨g,0,none⟩),.slice A1 l1.length c1] w fun e w'=>e=.returned (.int .i64 r1)∧IsS55 w0 w' g jh r2 r3∧Below w0.heap.size w0 w'∧KeepBut w w' g none:=by
 have HR1:=ai_ hr1
 have HC1:=ai_ hc1
 clear hr1 hc1
 have HI0:=ai_ hI
 have HK:=ai_ (KeepBut.refl w g none)
 have HL:=ai_ hB.size
 clear hI
 have HW0:=ai_ hB.size
 have HB:=ai_ hB
 clear hB
 have H:=h
 unfold spec_l1Cur_among.f at H
 clear h
 obtain ⟨⟨j2n,jc9,jca⟩,A3,H⟩:=bs_ H
 (try dsimp only at H)
 by_cases c4:0≤j2n
 ·rw [if_pos c4] at H
  have j2y:=decide_eq_true c4
  clear c4
  by_cases c5:j2n < (l1.length:Int)
  ·rw [if_pos c5] at H
   have j4l:=decide_eq_true c5
   clear c5
   simp only [Option.some.injEq,Prod.mk.injEq] at H
   obtain ⟨rfl,rfl,rfl⟩:=H
   go_enter Tryz.func70,Tryz.ntmps70
   go_wp2_with (first|((with_reducible refine gate_callee (f:=58) rfl ?_);refine gl_ (some 9) Tryz.func58 #[.pointer (some ⟨g,0,none⟩),.int .i64 (l1.length:Int)] ?_;(with_reducible refine (spec_l1Cur_pick.calls g jh jk jr (l1.length:Int) j2n jc9 jca w0 _ ?side1 ?side2 A3.out).mono ?_);(case side1=>exact IsS55.to HI0);(case side2=>exact below_to1 HB (IsS55.ge HI0.out));rintro e w6 ⟨rfl,hi,hb,hk⟩;refine ⟨_,rfl,?_⟩;replace HK:=ai_ (KeepBut.trans (keep_to HK) hk (.inl rfl));replace HB:=ai_ (hb);replace HI0:=ai_ (hi);clear hb hk hi;have j4d:0≤(j2n:Int):=of_decide_eq_true (by first|(with_reducible assumption)|assumption);have j4e:j2n < (l1.length:Int):=of_decide_eq_true (by first|(with_reducible assumption)|assumption);obtain ⟨j4w,e134,j2k⟩:=Kd.at_int HR1.out j2n j4d j4e;cases e134;replace j2k:=keep_cell HK.out j2k (by first|(rw [add_block];exact hf1 _ rfl (by omega))|exact hf1 _ rfl (by omega)|exact hf1 j4w rfl (by omega));replace j4d:=eq_true j4d;replace j4e:=eq_true j4e))
   go_ret
   exact ⟨rtE_,IsS55.tg HI0,below_to1 HB (IsS55.ge HI0.out),by repeat (first|(with_reducible first|exact HK.out|apply KeepBut.set_|apply keep_drewN|apply keep_drew|apply keep_alloc)|exact HK.out)⟩
  ·rw [if_neg c5] at H
   cases H
 ·rw [if_neg c4] at H
  cases H
def spec_l1Cur_line.f (k:Nat) (jh:List Int) (jk:Int) (jr:Int):Option (Int × Int × Int × List Int × Int × Int):=(spec_l1Cur_sureLine.f k jh jk jr).bind fun bt136=>((spec_l1Cur_pick.f jh bt136.2.2.2.2.1 bt136.2.2.2.2.2 20).bind fun bt145=>(if bt145.1=0 then ((spec_l1Cur_among.f jh bt145.2.1 bt145.2.2 (([(-1),0,2000,2001,4611686018427387904]:List Int))).bind fun bt151=>(some (bt151.1,bt136.2.1,bt136.2.2.1,bt136.2.2.2.1,bt151.2.1,bt151.2.2))) else (if bt145.1=1 then ((spec_l1Cur_among.f jh bt145.2.1 bt145.2.2 (([(-1),0,1,2000,2001,4611686018427387904]:List Int))).bind fun bt157=>(some (bt136.1,bt157.1,bt136.2.2.1,bt136.2.2.2.1,bt157.2.1,bt157.2.2))) else (if bt145.1=2 then ((spec_l1Cur_among.f jh bt145.2.1 bt145.2.2 (([(-1),0,1,60,61,4611686018427387904]:List Int))).bind fun bt163=>(some (bt136.1,bt136.2.1,bt163.1,bt136.2.2.2.1,bt163.2.1,bt163.2.2))) else (if bt145.1=3 then ((spec_l1Cur_among.f jh bt145.2.1 bt145.2.2 (([(-1),0,3,500,501,4611686018427387904]:List Int))).bind fun bt169=>(if bt136.2.2.2.1.length < 17592186044416 then (some (bt136.1,bt136.2.1,bt136.2.2.1,(bt136.2.2.2.1 ++ [bt169.1]),bt169.2.1,bt169.2.2)) else (none))) else (if bt145.1=4 then (if 1≤(bt136.2.2.2.1.length:Int) then (some (bt136.1,bt136.2.1,bt136.2.2.1,(bt136.2.2.2.1.take (1:Int).toNat),bt145.2.1,bt145.2.2)) else (none)) else (some (bt136.1,bt136.2.1,bt136.2.2.1,bt136.2.2.2.1,bt145.2.1,bt145.2.2))))))))
def spec_l1Cur_line.T10:Bool × List (List Nat × List Nat):=(true,[([],[]),([0],[0]),([],[]),([],[]),([2,3],[2,3]),([4],[4]),([1,5,4],[1,5]),([0,1,2,3,4,5,6],[]),([7,6,6,0,1,2,3,4,5,6],[6,7])])
def spec_l1Cur_line.B10:List Nat:=[0,1,0,0,12,28,63,127,255]
theorem spec_l1Cur_line.tab10:rtab .any (opsOf Tryz.f40 10)=spec_l1Cur_line.T10:=by kernel_rfl
theorem spec_l1Cur_line.bits10:waitsOk spec_l1Cur_line.T10.2 spec_l1Cur_line.B10=true:=by kernel_rfl
theorem spec_l1Cur_line.calls (k:Nat) (g:Nat) (jh:List Int) (jk:Int) (jr:Int) (r1:Int) (r2:Int) (r3:Int) (r4:List Int) (r5:Int) (r6:Int) (w0 w:World) (hI:IsS55 w0 w g jh jk jr) (hB:Below w0.heap.size w0 w) (h:spec_l1Cur_line.f k jh jk jr=some (r1,r2,r3,r4,r5,r6)) :
  Calls Tryz.prog 40 #[.pointer (some ⟨g,0,none⟩)] w fun e w' => ∃ Aa:Value,e=.returned (.agg #[.int .i64 r1,.int .i64 r2,.int .i64 r3,Aa])∧Kd.R Ki_ 3 w' w.heap.size (fun _=>True) Aa r4∧IsS55 w0 w' g jh r5 r6∧Below w0.heap.size w0 w'∧KeepBut w w' g none:=by
 have hu26:=Tryz.underlying26
 have HI0:=ai_ hI
 have HK:=ai_ (KeepBut.refl w g none)
 have HL:=ai_ hB.size
 clear hI
 have HW0:=ai_ hB.size
 have HB:=ai_ hB
 clear hB
 have H:=h
 unfold spec_l1Cur_line.f at H
 clear h
 obtain ⟨⟨jq,ju,jy,jw,j1n,j1o⟩,A2,H⟩:=bs_ H
 (try dsimp only at H)
 obtain ⟨⟨j1s,j1h,j1i⟩,A3,H⟩:=bs_ H
 (try dsimp only at H)
 by_cases c4:j1s=0
 ·rw [if_pos c4] at H
  have j2y:=beq_iff_eq.mpr c4
  have jcb:=bne_eq_false_iff_eq.mpr c4
  clear c4
  obtain ⟨j4f,hy148⟩:∃ y_:List Int,y_=(([(-1),0,2000,2001,4611686018427387904]:List Int)):=⟨_,rfl⟩
  replace H:((spec_l1Cur_among.f jh j1h j1i j4f).bind fun bt151=>(some (bt151.1,ju,jy,jw,bt151.2.1,bt151.2.2)))=some (r1,r2,r3,r4,r5,r6):=by first|(rw [hy148];with_reducible exact H)|(have H2_:=(Option.bind_some _ _).symm.trans H;rw [hy148];with_reducible exact H2_)|(have H2_:=(Option.bind_some _ _).symm.trans H;with_reducible exact H2_)|with_reducible exact H|(rw [hy148];exact H)|exact H
  have j3r:=ai_ hy148
  clear hy148
  obtain ⟨⟨j2f,jcc,jcd⟩,A5,H⟩:=bs_ H
  (try dsimp only at H)
  simp only [Option.some.injEq,Prod.mk.injEq] at H
  obtain ⟨rfl,rfl,rfl,rfl,rfl,rfl⟩:=H
  go_enter Tryz.func40,Tryz.ntmps40
  go_wp2_with (first|((with_reducible refine gate_dst (N:=2) rfl ?_);refine bxe_ #[.int .i64 0,.int .i64 0,.int .i64 0,.slice none 0 0] 26 ?_;intro jm hg w6 hbox hb;replace HB:=ai_ (below_step (below_to1 HB (IsS55.ge HI0.out)) hb);have jb:=ai_ (hbox);have jg:=ai_ (gb_ hg (keep_size (keep_to HK)));replace HK:=ai_ (KeepBut.trans (keep_to HK) (KeepBut.of_below hb g none) (.inl rfl));have jj:=ai_ (Nat.le_trans HW0.out jg.out);have ja:=ai_ (ne_ hg (IsS55.lt (IsS55.to HI0)));replace HI0:=ai_ (IsS55.below (IsS55.to HI0) hb);have ji:=ai_ ja.out.symm;clear hb hbox hg)|((with_reducible refine gate_callee (f:=65) rfl ?_);refine gl_ (some 5) Tryz.func65 #[.pointer (some ⟨g,0,none⟩)] ?_;(with_reducible refine (spec_l1Cur_sureLine.calls k g jh jk jr jq ju jy jw j1n j1o w0 _ ?side1 ?side2 A2.out).mono ?_);(case side1=>exact IsS55.tg1 HI0 ja);(case side2=>exact below_to2 HB (IsS55.ge HI0.out) jj.out);rintro e w7 ⟨j2u,rfl,ho0,hi,hb,hk⟩;refine ⟨_,rfl,?_⟩;replace jb:=ai_ (KeepBut.blk hk (blk_to jb) ji.out (by simp));have je:=ai_ (Kd.R_lower ho0 (keep_size (w:=w) (g:=g) (row:=none) (keep_f1 HK jg)));replace HK:=ai_ (KeepBut.trans (keep_f1 HK jg) hk (.inl rfl));replace HB:=ai_ (hb);replace HI0:=ai_ (hi);clear hb hk hi;(try clear ho0))|((with_reducible refine gate_dst (N:=3) rfl ?_);refine bxe_ #[.int .i64 0,.int .i64 0,.int .i64 0,.slice none 0 0] 26 ?_;intro jx hg w8 hbox hb;replace je:=rb_ je hb;replace HB:=ai_ (below_step (below_to2 HB (IsS55.ge HI0.out) jj.out) hb);have jc:=ai_ (hbox);have jl:=ai_ (gb_ hg (keep_size (keep_f1 HK jg)));replace HK:=ai_ (KeepBut.trans (keep_f1 HK jg) (KeepBut.of_below hb g none) (.inl rfl));have js:=ai_ (Nat.le_trans HW0.out jl.out);have jf:=ai_ (ne_ hg (blk_lt (blk_to jb)));replace jb:=bb_ jb hb;have jo:=ai_ jf.out.symm;have jd:=ai_ (ne_ hg (IsS55.lt (IsS55.to1 HI0 ja)));replace HI0:=ai_ (IsS55.below (IsS55.tg1 HI0 ja) hb);have jn:=ai_ jd.out.symm;clear hb hbox hg;have je1:=jo.out;have je2:=jf.out;have jd0:=jn.out;have jd1:=jd.out;obtain ⟨j6y,j6z,j7a,j7b,j7c,j7d,j7e,j7f⟩:=blk4_ jc;obtain ⟨Ao12,co12,eo12⟩:=Kd.R_slice je.out;subst eo12)|((with_reducible refine gate_callee (f:=58) rfl ?_);refine gl_ (some 7) Tryz.func58 #[.pointer (some ⟨g,0,none⟩),.int .i64 20] ?_;(with_reducible refine (spec_l1Cur_pick.calls g jh j1n j1o 20 j1s j1h j1i w0 _ ?side1 ?side2 A3.out).mono ?_);(case side1=>exact IsS55.tg2 HI0 ja jd);(case side2=>exact below_to3 HB (IsS55.ge HI0.out) jj.out js.out);rintro e w13 ⟨rfl,hi,hb,hk⟩;refine ⟨_,rfl,?_⟩;replace jb:=ai_ (KeepBut.blk hk (blk_f1 jb jf) ji.out (by simp));replace je:=ai_ (Kd.R_mono (Kd.R_keep (IsS55.apart (IsS55.to2 HI0 ja jd) (rtf_ je jc) (by decide)) hk (fun _ h=>h.2)) (fun _ h=>h.1));replace jc:=ai_ (KeepBut.blk hk (g':=jx) (o:=.cells #[.int .i64 jq,.int .i64 ju,.int .i64 jy,.slice Ao12 jw.length co12] 26 (0,0)) (bput4 jc) jn.out (by simp));replace HK:=ai_ (KeepBut.trans (keep_f2 HK jg jl) hk (.inl rfl));replace HB:=ai_ (hb);replace HI0:=ai_ (hi);clear hb hk hi)|((with_reducible refine gate_dst (N:=11) rfl ?_);refine Kd.R_lit Ki_ _ 3 ?hg (N:=11) ?hd (xs:=([(-1),0,2000,2001,4611686018427387904]:List Int)) (inner:=[.int .i64 (-1),.int .i64 0,.int .i64 2000,.int .i64 2001,.int .i64 4611686018427387904]) (ok:=fun _=>True) (okp:=fun _=>True) ?hr ?hp (fun _ hk=>hk) trivial (Below.refl _ _) (Nat.le_refl _) (by simp) ?_;(case hd=>rfl);(case hg=>rfl);(case hr=>first|(go_simp;done)|(go_simp;rfl));(case hp=>exact (Reps.one (show Kd.M Ki_ _ _ _ (-1) [.int .i64 (-1)] from rfl) (Reps.one (show Kd.M Ki_ _ _ _ 0 [.int .i64 0] from rfl) (Reps.one (show Kd.M Ki_ _ _ _ 2000 [.int .i64 2000] from rfl) (Reps.one (show Kd.M Ki_ _ _ _ 2001 [.int .i64 2001] from rfl) (Reps.one (show Kd.M Ki_ _ _ _ 4611686018427387904 [.int .i64 4611686018427387904] from rfl) (Reps.none _ _)))))));intro je3 w14 j2o hb hg_ hnew_;clear hg_ hnew_;(first|rw [← j3r.out] at j2o|(simp only [Int.reduceToNat] at j2o;rw [← j3r.out] at j2o));have j1y:=ai_ (Kd.R_lower (Kd.R_new' j2o (Kd.R_lt (kd_to je))) (keep_size (w:=w) (g:=g) (row:=none) (keep_f2 HK jg jl)));replace je:=ai_ (Kd.R_elder' (kd_to je) (Kd.R_base j2o) hb);replace jb:=bb_ jb hb;replace jc:=bb_ jc hb;replace HK:=ai_ (KeepBut.trans (keep_f2 HK jg jl) (KeepBut.of_below hb g none) (.inl rfl));replace HB:=ai_ (below_step (below_to3 HB (IsS55.ge HI0.out) jj.out js.out) hb);replace HI0:=ai_ (IsS55.below (IsS55.tg2 HI0 ja jd) hb);clear hb j2o;obtain ⟨Ao16,co16,eo16⟩:=Kd.R_slice j1y.out;subst eo16)|((with_reducible refine gate_callee (f:=70) rfl ?_);refine gl_ (some 12) Tryz.func70 #[.pointer (some ⟨g,0,none⟩),.slice Ao16 j4f.length co16] ?_;(with_reducible refine (spec_l1Cur_among.calls g jh j1h j1i _ _ j4f j2f jcc jcd w0 _ ?side1 ?side2 ?side3 ?side4 ?side5 A5.out).mono ?_);(case side1=>exact IsS55.tg2 HI0 ja jd);(case side2=>exact below_to3 HB (IsS55.ge HI0.out) jj.out js.out);(case side3=>exact cR_ j1y);(case side4=>exact (Kd.R_reads' j1y.out).2.1);(case side5=>exact far_slice (IsS55.own_ne HI0.out j1y.out (by decide)));rintro e w17 ⟨rfl,hi,hb,hk⟩;refine ⟨_,rfl,?_⟩;replace jb:=ai_ (KeepBut.blk hk (blk_to jb) ji.out (by simp));replace je:=ai_ (Kd.R_mono (Kd.R_keep (IsS55.apart (IsS55.to2 HI0 ja jd) (kd_to je) (by decide)) hk (fun _ h=>h.2)) (fun _ h=>h.1));replace jc:=ai_ (KeepBut.blk hk (blk_to jc) jn.out (by simp));replace j1y:=ai_ (Kd.R_mono (Kd.R_keep (IsS55.apart (IsS55.to2 HI0 ja jd) (kd_to j1y) (by decide)) hk (fun _ h=>h.2)) (fun _ h=>h.1));replace HK:=ai_ (KeepBut.trans (keep_f2 HK jg jl) hk (.inl rfl));replace HB:=ai_ (hb);replace HI0:=ai_ (hi);clear hb hk hi;obtain ⟨j7g,j7h,j7i,j7j,j7k,j7l,j7m,j7n⟩:=blk4_ jc;have jd2:=ji.out;have jd3:=ja.out;obtain ⟨j7o,j7p,j7q,j7r,j7s,j7t,j7u,j7v⟩:=blk4_ jb))
  refine bodyPost_ret (results_cell_row rfl _ _ jm 26 #[.int .i64 j2f,.int .i64 ju,.int .i64 jy,.slice Ao12 jw.length co12] (0,0) _ rfl (by (with_reducible repeat (first|refine blk_drewN ?_ _|refine blk_drew ?_|refine blk_alloc ?_ _));refine blk_put (cs:=#[.int .i64 j2f,.int .i64 ju,.int .i64 jy,.slice none 0 0]) ?_ 3 _ rfl;(with_reducible repeat (first|refine blk_drewN ?_ _|refine blk_drew ?_|refine blk_alloc ?_ _));refine blk_put (cs:=#[.int .i64 j2f,.int .i64 ju,.int .i64 0,.slice none 0 0]) ?_ 2 _ rfl;(with_reducible repeat (first|refine blk_drewN ?_ _|refine blk_drew ?_|refine blk_alloc ?_ _));refine blk_put (cs:=#[.int .i64 j2f,.int .i64 0,.int .i64 0,.slice none 0 0]) ?_ 1 _ rfl;(with_reducible repeat (first|refine blk_drewN ?_ _|refine blk_drew ?_|refine blk_alloc ?_ _));refine blk_put (cs:=#[.int .i64 0,.int .i64 0,.int .i64 0,.slice none 0 0]) ?_ 0 _ rfl;(with_reducible repeat (first|refine blk_drewN ?_ _|refine blk_drew ?_|refine blk_alloc ?_ _));refine blk_far ?_ jf.out _;(with_reducible repeat (first|refine blk_drewN ?_ _|refine blk_drew ?_|refine blk_alloc ?_ _));exact jb.out) Tryz.underlying26 rfl (by kernel_rfl)) rfl ?_
  exact ⟨_,rtE_,by (with_reducible repeat (first|apply Kd.R_alloc|apply Kd.R_drewN|apply Kd.R_drew));exact Kd.R_mono (Kd.R_far (p:=⟨jm,3,none⟩) (Kd.R_far (p:=⟨jm,2,none⟩) (Kd.R_far (p:=⟨jm,1,none⟩) (Kd.R_far (p:=⟨jm,0,none⟩) (Kd.R_far (p:=⟨jx,0,none⟩) (Kd.R_types (Kd.R_types je.out jc.out (by decide)) jb.out (by decide)) (fun _ hk=>hk.1.2) (.int .i64 j2f)) (fun _ hk=>hk.2) (.int .i64 j2f)) (fun _ hk=>hk.2) (.int .i64 ju)) (fun _ hk=>hk.2) (.int .i64 jy)) (fun _ hk=>hk.2) (.slice Ao12 jw.length co12)) (fun _ hk=>trivial),IsS55.tg2 HI0 ja jd,below_to3 HB (IsS55.ge HI0.out) jj.out js.out,keep_f2 HK jg jl⟩
 rw [if_neg c4] at H
 have j2y:=beq_eq_false_iff_ne.mpr c4
 have jcb:=bne_iff_ne.mpr c4
 by_cases c21:j1s=1
 ·rw [if_pos c21] at H
  have j4x:=beq_iff_eq.mpr c21
  have j4y:=bne_eq_false_iff_eq.mpr c21
  clear c21
  obtain ⟨j4g,hy154⟩:∃ y_:List Int,y_=(([(-1),0,1,2000,2001,4611686018427387904]:List Int)):=⟨_,rfl⟩
  replace H:((spec_l1Cur_among.f jh j1h j1i j4g).bind fun bt157=>(some (jq,bt157.1,jy,jw,bt157.2.1,bt157.2.2)))=some (r1,r2,r3,r4,r5,r6):=by first|(rw [hy154];with_reducible exact H)|(have H2_:=(Option.bind_some _ _).symm.trans H;rw [hy154];with_reducible exact H2_)|(have H2_:=(Option.bind_some _ _).symm.trans H;with_reducible exact H2_)|with_reducible exact H|(rw [hy154];exact H)|exact H
  have j3s:=ai_ hy154
  clear hy154
  obtain ⟨⟨j2p,jce,jcf⟩,A22,H⟩:=bs_ H
  (try dsimp only at H)
  simp only [Option.some.injEq,Prod.mk.injEq] at H
  obtain ⟨rfl,rfl,rfl,rfl,rfl,rfl⟩:=H
  go_enter Tryz.func40,Tryz.ntmps40
  go_wp2_with (first|((with_reducible refine gate_dst (N:=2) rfl ?_);refine bxe_ #[.int .i64 0,.int .i64 0,.int .i64 0,.slice none 0 0] 26 ?_;intro jm hg w23 hbox hb;replace HB:=ai_ (below_step (below_to1 HB (IsS55.ge HI0.out)) hb);have jb:=ai_ (hbox);have jg:=ai_ (gb_ hg (keep_size (keep_to HK)));replace HK:=ai_ (KeepBut.trans (keep_to HK) (KeepBut.of_below hb g none) (.inl rfl));have jj:=ai_ (Nat.le_trans HW0.out jg.out);have ja:=ai_ (ne_ hg (IsS55.lt (IsS55.to HI0)));replace HI0:=ai_ (IsS55.below (IsS55.to HI0) hb);have ji:=ai_ ja.out.symm;clear hb hbox hg)|((with_reducible refine gate_callee (f:=65) rfl ?_);refine gl_ (some 5) Tryz.func65 #[.pointer (some ⟨g,0,none⟩)] ?_;(with_reducible refine (spec_l1Cur_sureLine.calls k g jh jk jr jq ju jy jw j1n j1o w0 _ ?side1 ?side2 A2.out).mono ?_);(case side1=>exact IsS55.tg1 HI0 ja);(case side2=>exact below_to2 HB (IsS55.ge HI0.out) jj.out);rintro e w24 ⟨j2u,rfl,ho0,hi,hb,hk⟩;refine ⟨_,rfl,?_⟩;replace jb:=ai_ (KeepBut.blk hk (blk_to jb) ji.out (by simp));have je:=ai_ (Kd.R_lower ho0 (keep_size (w:=w) (g:=g) (row:=none) (keep_f1 HK jg)));replace HK:=ai_ (KeepBut.trans (keep_f1 HK jg) hk (.inl rfl));replace HB:=ai_ (hb);replace HI0:=ai_ (hi);clear hb hk hi;(try clear ho0))|((with_reducible refine gate_dst (N:=3) rfl ?_);refine bxe_ #[.int .i64 0,.int .i64 0,.int .i64 0,.slice none 0 0] 26 ?_;intro jx hg w25 hbox hb;replace je:=rb_ je hb;replace HB:=ai_ (below_step (below_to2 HB (IsS55.ge HI0.out) jj.out) hb);have jc:=ai_ (hbox);have jl:=ai_ (gb_ hg (keep_size (keep_f1 HK jg)));replace HK:=ai_ (KeepBut.trans (keep_f1 HK jg) (KeepBut.of_below hb g none) (.inl rfl));have js:=ai_ (Nat.le_trans HW0.out jl.out);have jf:=ai_ (ne_ hg (blk_lt (blk_to jb)));replace jb:=bb_ jb hb;have jo:=ai_ jf.out.symm;have jd:=ai_ (ne_ hg (IsS55.lt (IsS55.to1 HI0 ja)));replace HI0:=ai_ (IsS55.below (IsS55.tg1 HI0 ja) hb);have jn:=ai_ jd.out.symm;clear hb hbox hg;have jd4:=jo.out;have jd5:=jf.out;have jd6:=jn.out;have jd7:=jd.out;obtain ⟨j7w,j7x,j7y,j7z,j8a,j8b,j8c,j8d⟩:=blk4_ jc;obtain ⟨Ao29,co29,eo29⟩:=Kd.R_slice je.out;subst eo29)|((with_reducible refine gate_callee (f:=58) rfl ?_);refine gl_ (some 7) Tryz.func58 #[.pointer (some ⟨g,0,none⟩),.int .i64 20] ?_;(with_reducible refine (spec_l1Cur_pick.calls g jh j1n j1o 20 j1s j1h j1i w0 _ ?side1 ?side2 A3.out).mono ?_);(case side1=>exact IsS55.tg2 HI0 ja jd);(case side2=>exact below_to3 HB (IsS55.ge HI0.out) jj.out js.out);rintro e w30 ⟨rfl,hi,hb,hk⟩;refine ⟨_,rfl,?_⟩;replace jb:=ai_ (KeepBut.blk hk (blk_f1 jb jf) ji.out (by simp));replace je:=ai_ (Kd.R_mono (Kd.R_keep (IsS55.apart (IsS55.to2 HI0 ja jd) (rtf_ je jc) (by decide)) hk (fun _ h=>h.2)) (fun _ h=>h.1));replace jc:=ai_ (KeepBut.blk hk (g':=jx) (o:=.cells #[.int .i64 jq,.int .i64 ju,.int .i64 jy,.slice Ao29 jw.length co29] 26 (0,0)) (bput4 jc) jn.out (by simp));replace HK:=ai_ (KeepBut.trans (keep_f2 HK jg jl) hk (.inl rfl));replace HB:=ai_ (hb);replace HI0:=ai_ (hi);clear hb hk hi)|((with_reducible refine gate_dst (N:=17) rfl ?_);refine Kd.R_lit Ki_ _ 3 ?hg (N:=17) ?hd (xs:=([(-1),0,1,2000,2001,4611686018427387904]:List Int)) (inner:=[.int .i64 (-1),.int .i64 0,.int .i64 1,.int .i64 2000,.int .i64 2001,.int .i64 4611686018427387904]) (ok:=fun _=>True) (okp:=fun _=>True) ?hr ?hp (fun _ hk=>hk) trivial (Below.refl _ _) (Nat.le_refl _) (by simp) ?_;(case hd=>rfl);(case hg=>rfl);(case hr=>first|(go_simp;done)|(go_simp;rfl));(case hp=>exact (Reps.one (show Kd.M Ki_ _ _ _ (-1) [.int .i64 (-1)] from rfl) (Reps.one (show Kd.M Ki_ _ _ _ 0 [.int .i64 0] from rfl) (Reps.one (show Kd.M Ki_ _ _ _ 1 [.int .i64 1] from rfl) (Reps.one (show Kd.M Ki_ _ _ _ 2000 [.int .i64 2000] from rfl) (Reps.one (show Kd.M Ki_ _ _ _ 2001 [.int .i64 2001] from rfl) (Reps.one (show Kd.M Ki_ _ _ _ 4611686018427387904 [.int .i64 4611686018427387904] from rfl) (Reps.none _ _))))))));intro je4 w31 j2q hb hg_ hnew_;clear hg_ hnew_;(first|rw [← j3s.out] at j2q|(simp only [Int.reduceToNat] at j2q;rw [← j3s.out] at j2q));have j1z:=ai_ (Kd.R_lower (Kd.R_new' j2q (Kd.R_lt (kd_to je))) (keep_size (w:=w) (g:=g) (row:=none) (keep_f2 HK jg jl)));replace je:=ai_ (Kd.R_elder' (kd_to je) (Kd.R_base j2q) hb);replace jb:=bb_ jb hb;replace jc:=bb_ jc hb;replace HK:=ai_ (KeepBut.trans (keep_f2 HK jg jl) (KeepBut.of_below hb g none) (.inl rfl));replace HB:=ai_ (below_step (below_to3 HB (IsS55.ge HI0.out) jj.out js.out) hb);replace HI0:=ai_ (IsS55.below (IsS55.tg2 HI0 ja jd) hb);clear hb j2q;obtain ⟨Ao33,co33,eo33⟩:=Kd.R_slice j1z.out;subst eo33)|((with_reducible refine gate_callee (f:=70) rfl ?_);refine gl_ (some 18) Tryz.func70 #[.pointer (some ⟨g,0,none⟩),.slice Ao33 j4g.length co33] ?_;(with_reducible refine (spec_l1Cur_among.calls g jh j1h j1i _ _ j4g j2p jce jcf w0 _ ?side1 ?side2 ?side3 ?side4 ?side5 A22.out).mono ?_);(case side1=>exact IsS55.tg2 HI0 ja jd);(case side2=>exact below_to3 HB (IsS55.ge HI0.out) jj.out js.out);(case side3=>exact cR_ j1z);(case side4=>exact (Kd.R_reads' j1z.out).2.1);(case side5=>exact far_slice (IsS55.own_ne HI0.out j1z.out (by decide)));rintro e w34 ⟨rfl,hi,hb,hk⟩;refine ⟨_,rfl,?_⟩;replace jb:=ai_ (KeepBut.blk hk (blk_to jb) ji.out (by simp));replace je:=ai_ (Kd.R_mono (Kd.R_keep (IsS55.apart (IsS55.to2 HI0 ja jd) (kd_to je) (by decide)) hk (fun _ h=>h.2)) (fun _ h=>h.1));replace jc:=ai_ (KeepBut.blk hk (blk_to jc) jn.out (by simp));replace j1z:=ai_ (Kd.R_mono (Kd.R_keep (IsS55.apart (IsS55.to2 HI0 ja jd) (kd_to j1z) (by decide)) hk (fun _ h=>h.2)) (fun _ h=>h.1));replace HK:=ai_ (KeepBut.trans (keep_f2 HK jg jl) hk (.inl rfl));replace HB:=ai_ (hb);replace HI0:=ai_ (hi);clear hb hk hi;obtain ⟨j8e,j8f,j8g,j8h,j8i,j8j,j8k,j8l⟩:=blk4_ jc;have jd8:=ji.out;have jd9:=ja.out;obtain ⟨j8m,j8n,j8o,j8p,j8q,j8r,j8s,j8t⟩:=blk4_ jb))
  refine bodyPost_ret (results_cell_row rfl _ _ jm 26 #[.int .i64 jq,.int .i64 j2p,.int .i64 jy,.slice Ao29 jw.length co29] (0,0) _ rfl (by (with_reducible repeat (first|refine blk_drewN ?_ _|refine blk_drew ?_|refine blk_alloc ?_ _));refine blk_put (cs:=#[.int .i64 jq,.int .i64 j2p,.int .i64 jy,.slice none 0 0]) ?_ 3 _ rfl;(with_reducible repeat (first|refine blk_drewN ?_ _|refine blk_drew ?_|refine blk_alloc ?_ _));refine blk_put (cs:=#[.int .i64 jq,.int .i64 j2p,.int .i64 0,.slice none 0 0]) ?_ 2 _ rfl;(with_reducible repeat (first|refine blk_drewN ?_ _|refine blk_drew ?_|refine blk_alloc ?_ _));refine blk_put (cs:=#[.int .i64 jq,.int .i64 0,.int .i64 0,.slice none 0 0]) ?_ 1 _ rfl;(with_reducible repeat (first|refine blk_drewN ?_ _|refine blk_drew ?_|refine blk_alloc ?_ _));refine blk_put (cs:=#[.int .i64 0,.int .i64 0,.int .i64 0,.slice none 0 0]) ?_ 0 _ rfl;(with_reducible repeat (first|refine blk_drewN ?_ _|refine blk_drew ?_|refine blk_alloc ?_ _));refine blk_far ?_ jf.out _;(with_reducible repeat (first|refine blk_drewN ?_ _|refine blk_drew ?_|refine blk_alloc ?_ _));exact jb.out) Tryz.underlying26 rfl (by kernel_rfl)) rfl ?_
  exact ⟨_,rtE_,by (with_reducible repeat (first|apply Kd.R_alloc|apply Kd.R_drewN|apply Kd.R_drew));exact Kd.R_mono (Kd.R_far (p:=⟨jm,3,none⟩) (Kd.R_far (p:=⟨jm,2,none⟩) (Kd.R_far (p:=⟨jm,1,none⟩) (Kd.R_far (p:=⟨jm,0,none⟩) (Kd.R_far (p:=⟨jx,1,none⟩) (Kd.R_types (Kd.R_types je.out jc.out (by decide)) jb.out (by decide)) (fun _ hk=>hk.1.2) (.int .i64 j2p)) (fun _ hk=>hk.2) (.int .i64 jq)) (fun _ hk=>hk.2) (.int .i64 j2p)) (fun _ hk=>hk.2) (.int .i64 jy)) (fun _ hk=>hk.2) (.slice Ao29 jw.length co29)) (fun _ hk=>trivial),IsS55.tg2 HI0 ja jd,below_to3 HB (IsS55.ge HI0.out) jj.out js.out,keep_f2 HK jg jl⟩
 rw [if_neg c21] at H
 have j4x:=beq_eq_false_iff_ne.mpr c21
 have j4y:=bne_iff_ne.mpr c21
 by_cases c38:j1s=2
 ·rw [if_pos c38] at H
  have j4z:=beq_iff_eq.mpr c38
  have j5a:=bne_eq_false_iff_eq.mpr c38
  clear c38
  obtain ⟨j4h,hy160⟩:∃ y_:List Int,y_=(([(-1),0,1,60,61,4611686018427387904]:List Int)):=⟨_,rfl⟩
  replace H:((spec_l1Cur_among.f jh j1h j1i j4h).bind fun bt163=>(some (jq,ju,bt163.1,jw,bt163.2.1,bt163.2.2)))=some (r1,r2,r3,r4,r5,r6):=by first|(rw [hy160];with_reducible exact H)|(have H2_:=(Option.bind_some _ _).symm.trans H;rw [hy160];with_reducible exact H2_)|(have H2_:=(Option.bind_some _ _).symm.trans H;with_reducible exact H2_)|with_reducible exact H|(rw [hy160];exact H)|exact H
  have j3t:=ai_ hy160
  clear hy160
  obtain ⟨⟨j2v,jcg,jch⟩,A39,H⟩:=bs_ H
  (try dsimp only at H)
  simp only [Option.some.injEq,Prod.mk.injEq] at H
  obtain ⟨rfl,rfl,rfl,rfl,rfl,rfl⟩:=H
  go_enter Tryz.func40,Tryz.ntmps40
  go_wp2_with (first|((with_reducible refine gate_dst (N:=2) rfl ?_);refine bxe_ #[.int .i64 0,.int .i64 0,.int .i64 0,.slice none 0 0] 26 ?_;intro jm hg w40 hbox hb;replace HB:=ai_ (below_step (below_to1 HB (IsS55.ge HI0.out)) hb);have jb:=ai_ (hbox);have jg:=ai_ (gb_ hg (keep_size (keep_to HK)));replace HK:=ai_ (KeepBut.trans (keep_to HK) (KeepBut.of_below hb g none) (.inl rfl));have jj:=ai_ (Nat.le_trans HW0.out jg.out);have ja:=ai_ (ne_ hg (IsS55.lt (IsS55.to HI0)));replace HI0:=ai_ (IsS55.below (IsS55.to HI0) hb);have ji:=ai_ ja.out.symm;clear hb hbox hg)|((with_reducible refine gate_callee (f:=65) rfl ?_);refine gl_ (some 5) Tryz.func65 #[.pointer (some ⟨g,0,none⟩)] ?_;(with_reducible refine (spec_l1Cur_sureLine.calls k g jh jk jr jq ju jy jw j1n j1o w0 _ ?side1 ?side2 A2.out).mono ?_);(case side1=>exact IsS55.tg1 HI0 ja);(case side2=>exact below_to2 HB (IsS55.ge HI0.out) jj.out);rintro e w41 ⟨j2u,rfl,ho0,hi,hb,hk⟩;refine ⟨_,rfl,?_⟩;replace jb:=ai_ (KeepBut.blk hk (blk_to jb) ji.out (by simp));have je:=ai_ (Kd.R_lower ho0 (keep_size (w:=w) (g:=g) (row:=none) (keep_f1 HK jg)));replace HK:=ai_ (KeepBut.trans (keep_f1 HK jg) hk (.inl rfl));replace HB:=ai_ (hb);replace HI0:=ai_ (hi);clear hb hk hi;(try clear ho0))|((with_reducible refine gate_dst (N:=3) rfl ?_);refine bxe_ #[.int .i64 0,.int .i64 0,.int .i64 0,.slice none 0 0] 26 ?_;intro jx hg w42 hbox hb;replace je:=rb_ je hb;replace HB:=ai_ (below_step (below_to2 HB (IsS55.ge HI0.out) jj.out) hb);have jc:=ai_ (hbox);have jl:=ai_ (gb_ hg (keep_size (keep_f1 HK jg)));replace HK:=ai_ (KeepBut.trans (keep_f1 HK jg) (KeepBut.of_below hb g none) (.inl rfl));have js:=ai_ (Nat.le_trans HW0.out jl.out);have jf:=ai_ (ne_ hg (blk_lt (blk_to jb)));replace jb:=bb_ jb hb;have jo:=ai_ jf.out.symm;have jd:=ai_ (ne_ hg (IsS55.lt (IsS55.to1 HI0 ja)));replace HI0:=ai_ (IsS55.below (IsS55.tg1 HI0 ja) hb);have jn:=ai_ jd.out.symm;clear hb hbox hg;have jda:=jo.out;have jdb:=jf.out;have jdc:=jn.out;have jdd:=jd.out;obtain ⟨j8u,j8v,j8w,j8x,j8y,j8z,j9a,j9b⟩:=blk4_ jc;obtain ⟨Ao46,co46,eo46⟩:=Kd.R_slice je.out;subst eo46)|((with_reducible refine gate_callee (f:=58) rfl ?_);refine gl_ (some 7) Tryz.func58 #[.pointer (some ⟨g,0,none⟩),.int .i64 20] ?_;(with_reducible refine (spec_l1Cur_pick.calls g jh j1n j1o 20 j1s j1h j1i w0 _ ?side1 ?side2 A3.out).mono ?_);(case side1=>exact IsS55.tg2 HI0 ja jd);(case side2=>exact below_to3 HB (IsS55.ge HI0.out) jj.out js.out);rintro e w47 ⟨rfl,hi,hb,hk⟩;refine ⟨_,rfl,?_⟩;replace jb:=ai_ (KeepBut.blk hk (blk_f1 jb jf) ji.out (by simp));replace je:=ai_ (Kd.R_mono (Kd.R_keep (IsS55.apart (IsS55.to2 HI0 ja jd) (rtf_ je jc) (by decide)) hk (fun _ h=>h.2)) (fun _ h=>h.1));replace jc:=ai_ (KeepBut.blk hk (g':=jx) (o:=.cells #[.int .i64 jq,.int .i64 ju,.int .i64 jy,.slice Ao46 jw.length co46] 26 (0,0)) (bput4 jc) jn.out (by simp));replace HK:=ai_ (KeepBut.trans (keep_f2 HK jg jl) hk (.inl rfl));replace HB:=ai_ (hb);replace HI0:=ai_ (hi);clear hb hk hi)|((with_reducible refine gate_dst (N:=23) rfl ?_);refine Kd.R_lit Ki_ _ 3 ?hg (N:=23) ?hd (xs:=([(-1),0,1,60,61,4611686018427387904]:List Int)) (inner:=[.int .i64 (-1),.int .i64 0,.int .i64 1,.int .i64 60,.int .i64 61,.int .i64 4611686018427387904]) (ok:=fun _=>True) (okp:=fun _=>True) ?hr ?hp (fun _ hk=>hk) trivial (Below.refl _ _) (Nat.le_refl _) (by simp) ?_;(case hd=>rfl);(case hg=>rfl);(case hr=>first|(go_simp;done)|(go_simp;rfl));(case hp=>exact (Reps.one (show Kd.M Ki_ _ _ _ (-1) [.int .i64 (-1)] from rfl) (Reps.one (show Kd.M Ki_ _ _ _ 0 [.int .i64 0] from rfl) (Reps.one (show Kd.M Ki_ _ _ _ 1 [.int .i64 1] from rfl) (Reps.one (show Kd.M Ki_ _ _ _ 60 [.int .i64 60] from rfl) (Reps.one (show Kd.M Ki_ _ _ _ 61 [.int .i64 61] from rfl) (Reps.one (show Kd.M Ki_ _ _ _ 4611686018427387904 [.int .i64 4611686018427387904] from rfl) (Reps.none _ _))))))));intro je5 w48 j2r hb hg_ hnew_;clear hg_ hnew_;(first|rw [← j3t.out] at j2r|(simp only [Int.reduceToNat] at j2r;rw [← j3t.out] at j2r));have j2a:=ai_ (Kd.R_lower (Kd.R_new' j2r (Kd.R_lt (kd_to je))) (keep_size (w:=w) (g:=g) (row:=none) (keep_f2 HK jg jl)));replace je:=ai_ (Kd.R_elder' (kd_to je) (Kd.R_base j2r) hb);replace jb:=bb_ jb hb;replace jc:=bb_ jc hb;replace HK:=ai_ (KeepBut.trans (keep_f2 HK jg jl) (KeepBut.of_below hb g none) (.inl rfl));replace HB:=ai_ (below_step (below_to3 HB (IsS55.ge HI0.out) jj.out js.out) hb);replace HI0:=ai_ (IsS55.below (IsS55.tg2 HI0 ja jd) hb);clear hb j2r;obtain ⟨Ao50,co50,eo50⟩:=Kd.R_slice j2a.out;subst eo50)|((with_reducible refine gate_callee (f:=70) rfl ?_);refine gl_ (some 24) Tryz.func70 #[.pointer (some ⟨g,0,none⟩),.slice Ao50 j4h.length co50] ?_;(with_reducible refine (spec_l1Cur_among.calls g jh j1h j1i _ _ j4h j2v jcg jch w0 _ ?side1 ?side2 ?side3 ?side4 ?side5 A39.out).mono ?_);(case side1=>exact IsS55.tg2 HI0 ja jd);(case side2=>exact below_to3 HB (IsS55.ge HI0.out) jj.out js.out);(case side3=>exact cR_ j2a);(case side4=>exact (Kd.R_reads' j2a.out).2.1);(case side5=>exact far_slice (IsS55.own_ne HI0.out j2a.out (by decide)));rintro e w51 ⟨rfl,hi,hb,hk⟩;refine ⟨_,rfl,?_⟩;replace jb:=ai_ (KeepBut.blk hk (blk_to jb) ji.out (by simp));replace je:=ai_ (Kd.R_mono (Kd.R_keep (IsS55.apart (IsS55.to2 HI0 ja jd) (kd_to je) (by decide)) hk (fun _ h=>h.2)) (fun _ h=>h.1));replace jc:=ai_ (KeepBut.blk hk (blk_to jc) jn.out (by simp));replace j2a:=ai_ (Kd.R_mono (Kd.R_keep (IsS55.apart (IsS55.to2 HI0 ja jd) (kd_to j2a) (by decide)) hk (fun _ h=>h.2)) (fun _ h=>h.1));replace HK:=ai_ (KeepBut.trans (keep_f2 HK jg jl) hk (.inl rfl));replace HB:=ai_ (hb);replace HI0:=ai_ (hi);clear hb hk hi;obtain ⟨j9c,j9d,j9e,j9f,j9g,j9h,j9i,j9j⟩:=blk4_ jc;have jde:=ji.out;have jdf:=ja.out;obtain ⟨j9k,j9l,j9m,j9n,j9o,j9p,j9q,j9r⟩:=blk4_ jb))
  refine bodyPost_ret (results_cell_row rfl _ _ jm 26 #[.int .i64 jq,.int .i64 ju,.int .i64 j2v,.slice Ao46 jw.length co46] (0,0) _ rfl (by (with_reducible repeat (first|refine blk_drewN ?_ _|refine blk_drew ?_|refine blk_alloc ?_ _));refine blk_put (cs:=#[.int .i64 jq,.int .i64 ju,.int .i64 j2v,.slice none 0 0]) ?_ 3 _ rfl;(with_reducible repeat (first|refine blk_drewN ?_ _|refine blk_drew ?_|refine blk_alloc ?_ _));refine blk_put (cs:=#[.int .i64 jq,.int .i64 ju,.int .i64 0,.slice none 0 0]) ?_ 2 _ rfl;(with_reducible repeat (first|refine blk_drewN ?_ _|refine blk_drew ?_|refine blk_alloc ?_ _));refine blk_put (cs:=#[.int .i64 jq,.int .i64 0,.int .i64 0,.slice none 0 0]) ?_ 1 _ rfl;(with_reducible repeat (first|refine blk_drewN ?_ _|refine blk_drew ?_|refine blk_alloc ?_ _));refine blk_put (cs:=#[.int .i64 0,.int .i64 0,.int .i64 0,.slice none 0 0]) ?_ 0 _ rfl;(with_reducible repeat (first|refine blk_drewN ?_ _|refine blk_drew ?_|refine blk_alloc ?_ _));refine blk_far ?_ jf.out _;(with_reducible repeat (first|refine blk_drewN ?_ _|refine blk_drew ?_|refine blk_alloc ?_ _));exact jb.out) Tryz.underlying26 rfl (by kernel_rfl)) rfl ?_
  exact ⟨_,rtE_,by (with_reducible repeat (first|apply Kd.R_alloc|apply Kd.R_drewN|apply Kd.R_drew));exact Kd.R_mono (Kd.R_far (p:=⟨jm,3,none⟩) (Kd.R_far (p:=⟨jm,2,none⟩) (Kd.R_far (p:=⟨jm,1,none⟩) (Kd.R_far (p:=⟨jm,0,none⟩) (Kd.R_far (p:=⟨jx,2,none⟩) (Kd.R_types (Kd.R_types je.out jc.out (by decide)) jb.out (by decide)) (fun _ hk=>hk.1.2) (.int .i64 j2v)) (fun _ hk=>hk.2) (.int .i64 jq)) (fun _ hk=>hk.2) (.int .i64 ju)) (fun _ hk=>hk.2) (.int .i64 j2v)) (fun _ hk=>hk.2) (.slice Ao46 jw.length co46)) (fun _ hk=>trivial),IsS55.tg2 HI0 ja jd,below_to3 HB (IsS55.ge HI0.out) jj.out js.out,keep_f2 HK jg jl⟩
 rw [if_neg c38] at H
 have j4z:=beq_eq_false_iff_ne.mpr c38
 have j5a:=bne_iff_ne.mpr c38
 by_cases c55:j1s=3
 rotate_left
 ·rw [if_neg c55] at H
  have j5b:=beq_eq_false_iff_ne.mpr c55
  have j5c:=bne_iff_ne.mpr c55
  by_cases c77:j1s=4
  ·rw [if_pos c77] at H
   have j5d:=beq_iff_eq.mpr c77
   have j5e:=bne_eq_false_iff_eq.mpr c77
   clear c77
   by_cases c78:1≤(jw.length:Int)
   ·rw [if_pos c78] at H
    have jdg:=eq_true c78
    have jdh:=decide_eq_true c78
    clear c78
    obtain ⟨j2w,hy175⟩:∃ y_:List Int,y_=(jw.take (1:Int).toNat):=⟨_,rfl⟩
    replace H:(some (jq,ju,jy,j2w,j1h,j1i))=some (r1,r2,r3,r4,r5,r6):=by first|(rw [hy175];with_reducible exact H)|(have H2_:=(Option.bind_some _ _).symm.trans H;rw [hy175];with_reducible exact H2_)|(have H2_:=(Option.bind_some _ _).symm.trans H;with_reducible exact H2_)|with_reducible exact H|(rw [hy175];exact H)|exact H
    have j3u:=ai_ hy175
    clear hy175
    simp only [Option.some.injEq,Prod.mk.injEq] at H
    obtain ⟨rfl,rfl,rfl,rfl,rfl,rfl⟩:=H
    go_enter Tryz.func40,Tryz.ntmps40
    go_wp2_with (first|((with_reducible refine gate_dst (N:=2) rfl ?_);refine bxe_ #[.int .i64 0,.int .i64 0,.int .i64 0,.slice none 0 0] 26 ?_;intro jm hg w79 hbox hb;replace HB:=ai_ (below_step (below_to1 HB (IsS55.ge HI0.out)) hb);have jb:=ai_ (hbox);have jg:=ai_ (gb_ hg (keep_size (keep_to HK)));replace HK:=ai_ (KeepBut.trans (keep_to HK) (KeepBut.of_below hb g none) (.inl rfl));have jj:=ai_ (Nat.le_trans HW0.out jg.out);have ja:=ai_ (ne_ hg (IsS55.lt (IsS55.to HI0)));replace HI0:=ai_ (IsS55.below (IsS55.to HI0) hb);have ji:=ai_ ja.out.symm;clear hb hbox hg)|((with_reducible refine gate_callee (f:=65) rfl ?_);refine gl_ (some 5) Tryz.func65 #[.pointer (some ⟨g,0,none⟩)] ?_;(with_reducible refine (spec_l1Cur_sureLine.calls k g jh jk jr jq ju jy jw j1n j1o w0 _ ?side1 ?side2 A2.out).mono ?_);(case side1=>exact IsS55.tg1 HI0 ja);(case side2=>exact below_to2 HB (IsS55.ge HI0.out) jj.out);rintro e w80 ⟨j2u,rfl,ho0,hi,hb,hk⟩;refine ⟨_,rfl,?_⟩;replace jb:=ai_ (KeepBut.blk hk (blk_to jb) ji.out (by simp));have je:=ai_ (Kd.R_lower ho0 (keep_size (w:=w) (g:=g) (row:=none) (keep_f1 HK jg)));replace HK:=ai_ (KeepBut.trans (keep_f1 HK jg) hk (.inl rfl));replace HB:=ai_ (hb);replace HI0:=ai_ (hi);clear hb hk hi;(try clear ho0))|((with_reducible refine gate_dst (N:=3) rfl ?_);refine bxe_ #[.int .i64 0,.int .i64 0,.int .i64 0,.slice none 0 0] 26 ?_;intro jx hg w81 hbox hb;replace je:=rb_ je hb;replace HB:=ai_ (below_step (below_to2 HB (IsS55.ge HI0.out) jj.out) hb);have jc:=ai_ (hbox);have jl:=ai_ (gb_ hg (keep_size (keep_f1 HK jg)));replace HK:=ai_ (KeepBut.trans (keep_f1 HK jg) (KeepBut.of_below hb g none) (.inl rfl));have js:=ai_ (Nat.le_trans HW0.out jl.out);have jf:=ai_ (ne_ hg (blk_lt (blk_to jb)));replace jb:=bb_ jb hb;have jo:=ai_ jf.out.symm;have jd:=ai_ (ne_ hg (IsS55.lt (IsS55.to1 HI0 ja)));replace HI0:=ai_ (IsS55.below (IsS55.tg1 HI0 ja) hb);have jn:=ai_ jd.out.symm;clear hb hbox hg;have jdi:=jo.out;have jdj:=jf.out;have jdk:=jn.out;have jdl:=jd.out;obtain ⟨j9s,j9t,j9u,j9v,j9w,j9x,j9y,j9z⟩:=blk4_ jc;obtain ⟨Ao85,co85,eo85⟩:=Kd.R_slice je.out;subst eo85)|((with_reducible refine gate_callee (f:=58) rfl ?_);refine gl_ (some 7) Tryz.func58 #[.pointer (some ⟨g,0,none⟩),.int .i64 20] ?_;(with_reducible refine (spec_l1Cur_pick.calls g jh j1n j1o 20 j1s j1h j1i w0 _ ?side1 ?side2 A3.out).mono ?_);(case side1=>exact IsS55.tg2 HI0 ja jd);(case side2=>exact below_to3 HB (IsS55.ge HI0.out) jj.out js.out);rintro e w86 ⟨rfl,hi,hb,hk⟩;refine ⟨_,rfl,?_⟩;replace jb:=ai_ (KeepBut.blk hk (blk_f1 jb jf) ji.out (by simp));replace je:=ai_ (Kd.R_mono (Kd.R_keep (IsS55.apart (IsS55.to2 HI0 ja jd) (rtf_ je jc) (by decide)) hk (fun _ h=>h.2)) (fun _ h=>h.1));replace jc:=ai_ (KeepBut.blk hk (g':=jx) (o:=.cells #[.int .i64 jq,.int .i64 ju,.int .i64 jy,.slice Ao85 jw.length co85] 26 (0,0)) (bput4 jc) jn.out (by simp));replace HK:=ai_ (KeepBut.trans (keep_f2 HK jg jl) hk (.inl rfl));replace HB:=ai_ (hb);replace HI0:=ai_ (hi);clear hb hk hi;obtain ⟨ja0,ja1,ja2,ja3,ja4,ja5,ja6,ja7⟩:=blk4_ jc;have q88:(1:Int)≤((jw.length:Int):Int):=of_decide_eq_true (by first|(with_reducible assumption)|assumption);obtain ⟨i088,hi088,_,hsz88,_⟩:=info_parts info3;have hcut88:=cut_to (P:=Tryz.prog) 24 3 .i64 Tryz.underlying24 hi088 Ao85 jw.length co85 1 (by omega) q88 (Kd.R_reads' je.out).2.1;have hr88:=Kd.R_take (m:=(1:Int).toNat) je.out (by omega);have hy88:j2w.length=(1:Int).toNat:=(by rw [j3u.out,List.length_take];omega);rw [← j3u.out] at hr88;rw [← hy88] at hr88 hcut88;clear hy88 hi088 hsz88 je;have j5f:=ai_ hr88;clear hr88;replace q88:=eq_true q88;have jdm:=ji.out;have jdn:=ja.out;obtain ⟨ja8,ja9,jaa,jab,jac,jad,jae,jaf⟩:=blk4_ jb))
    refine bodyPost_ret (results_cell_row rfl _ _ jm 26 #[.int .i64 jq,.int .i64 ju,.int .i64 jy,.slice Ao85 j2w.length co85] (0,0) _ rfl (by (with_reducible repeat (first|refine blk_drewN ?_ _|refine blk_drew ?_|refine blk_alloc ?_ _));refine blk_put (cs:=#[.int .i64 jq,.int .i64 ju,.int .i64 jy,.slice none 0 0]) ?_ 3 _ rfl;(with_reducible repeat (first|refine blk_drewN ?_ _|refine blk_drew ?_|refine blk_alloc ?_ _));refine blk_put (cs:=#[.int .i64 jq,.int .i64 ju,.int .i64 0,.slice none 0 0]) ?_ 2 _ rfl;(with_reducible repeat (first|refine blk_drewN ?_ _|refine blk_drew ?_|refine blk_alloc ?_ _));refine blk_put (cs:=#[.int .i64 jq,.int .i64 0,.int .i64 0,.slice none 0 0]) ?_ 1 _ rfl;(with_reducible repeat (first|refine blk_drewN ?_ _|refine blk_drew ?_|refine blk_alloc ?_ _));refine blk_put (cs:=#[.int .i64 0,.int .i64 0,.int .i64 0,.slice none 0 0]) ?_ 0 _ rfl;(with_reducible repeat (first|refine blk_drewN ?_ _|refine blk_drew ?_|refine blk_alloc ?_ _));refine blk_far ?_ jf.out _;(with_reducible repeat (first|refine blk_drewN ?_ _|refine blk_drew ?_|refine blk_alloc ?_ _));exact jb.out) Tryz.underlying26 rfl (by kernel_rfl)) rfl ?_
    exact ⟨_,rtE_,by (with_reducible repeat (first|apply Kd.R_alloc|apply Kd.R_drewN|apply Kd.R_drew));exact Kd.R_mono (Kd.R_far (p:=⟨jm,3,none⟩) (Kd.R_far (p:=⟨jm,2,none⟩) (Kd.R_far (p:=⟨jm,1,none⟩) (Kd.R_far (p:=⟨jm,0,none⟩) (Kd.R_far (p:=⟨jx,3,none⟩) (Kd.R_types (Kd.R_types j5f.out jc.out (by decide)) jb.out (by decide)) (fun _ hk=>hk.1.2) (.slice Ao85 j2w.length co85)) (fun _ hk=>hk.2) (.int .i64 jq)) (fun _ hk=>hk.2) (.int .i64 ju)) (fun _ hk=>hk.2) (.int .i64 jy)) (fun _ hk=>hk.2) (.slice Ao85 j2w.length co85)) (fun _ hk=>trivial),IsS55.tg2 HI0 ja jd,below_to3 HB (IsS55.ge HI0.out) jj.out js.out,keep_f2 HK jg jl⟩
   ·rw [if_neg c78] at H
    cases H
  ·rw [if_neg c77] at H
   have j5d:=beq_eq_false_iff_ne.mpr c77
   have j5e:=bne_iff_ne.mpr c77
   simp only [Option.some.injEq,Prod.mk.injEq] at H
   obtain ⟨rfl,rfl,rfl,rfl,rfl,rfl⟩:=H
   go_enter Tryz.func40,Tryz.ntmps40
   go_wp2_with (first|((with_reducible refine gate_dst (N:=2) rfl ?_);refine bxe_ #[.int .i64 0,.int .i64 0,.int .i64 0,.slice none 0 0] 26 ?_;intro jm hg w91 hbox hb;replace HB:=ai_ (below_step (below_to1 HB (IsS55.ge HI0.out)) hb);have jb:=ai_ (hbox);have jg:=ai_ (gb_ hg (keep_size (keep_to HK)));replace HK:=ai_ (KeepBut.trans (keep_to HK) (KeepBut.of_below hb g none) (.inl rfl));have jj:=ai_ (Nat.le_trans HW0.out jg.out);have ja:=ai_ (ne_ hg (IsS55.lt (IsS55.to HI0)));replace HI0:=ai_ (IsS55.below (IsS55.to HI0) hb);have ji:=ai_ ja.out.symm;clear hb hbox hg)|((with_reducible refine gate_callee (f:=65) rfl ?_);refine gl_ (some 5) Tryz.func65 #[.pointer (some ⟨g,0,none⟩)] ?_;(with_reducible refine (spec_l1Cur_sureLine.calls k g jh jk jr jq ju jy jw j1n j1o w0 _ ?side1 ?side2 A2.out).mono ?_);(case side1=>exact IsS55.tg1 HI0 ja);(case side2=>exact below_to2 HB (IsS55.ge HI0.out) jj.out);rintro e w92 ⟨j2u,rfl,ho0,hi,hb,hk⟩;refine ⟨_,rfl,?_⟩;replace jb:=ai_ (KeepBut.blk hk (blk_to jb) ji.out (by simp));have je:=ai_ (Kd.R_lower ho0 (keep_size (w:=w) (g:=g) (row:=none) (keep_f1 HK jg)));replace HK:=ai_ (KeepBut.trans (keep_f1 HK jg) hk (.inl rfl));replace HB:=ai_ (hb);replace HI0:=ai_ (hi);clear hb hk hi;(try clear ho0))|((with_reducible refine gate_dst (N:=3) rfl ?_);refine bxe_ #[.int .i64 0,.int .i64 0,.int .i64 0,.slice none 0 0] 26 ?_;intro jx hg w93 hbox hb;replace je:=rb_ je hb;replace HB:=ai_ (below_step (below_to2 HB (IsS55.ge HI0.out) jj.out) hb);have jc:=ai_ (hbox);have jl:=ai_ (gb_ hg (keep_size (keep_f1 HK jg)));replace HK:=ai_ (KeepBut.trans (keep_f1 HK jg) (KeepBut.of_below hb g none) (.inl rfl));have js:=ai_ (Nat.le_trans HW0.out jl.out);have jf:=ai_ (ne_ hg (blk_lt (blk_to jb)));replace jb:=bb_ jb hb;have jo:=ai_ jf.out.symm;have jd:=ai_ (ne_ hg (IsS55.lt (IsS55.to1 HI0 ja)));replace HI0:=ai_ (IsS55.below (IsS55.tg1 HI0 ja) hb);have jn:=ai_ jd.out.symm;clear hb hbox hg;have jdo:=jo.out;have jdp:=jf.out;have jdq:=jn.out;have jdr:=jd.out;obtain ⟨jag,jah,jai,jaj,jak,jal,jam,jan⟩:=blk4_ jc;obtain ⟨Ao97,co97,eo97⟩:=Kd.R_slice je.out;subst eo97)|((with_reducible refine gate_callee (f:=58) rfl ?_);refine gl_ (some 7) Tryz.func58 #[.pointer (some ⟨g,0,none⟩),.int .i64 20] ?_;(with_reducible refine (spec_l1Cur_pick.calls g jh j1n j1o 20 j1s j1h j1i w0 _ ?side1 ?side2 A3.out).mono ?_);(case side1=>exact IsS55.tg2 HI0 ja jd);(case side2=>exact below_to3 HB (IsS55.ge HI0.out) jj.out js.out);rintro e w98 ⟨rfl,hi,hb,hk⟩;refine ⟨_,rfl,?_⟩;replace jb:=ai_ (KeepBut.blk hk (blk_f1 jb jf) ji.out (by simp));replace je:=ai_ (Kd.R_mono (Kd.R_keep (IsS55.apart (IsS55.to2 HI0 ja jd) (rtf_ je jc) (by decide)) hk (fun _ h=>h.2)) (fun _ h=>h.1));replace jc:=ai_ (KeepBut.blk hk (g':=jx) (o:=.cells #[.int .i64 jq,.int .i64 ju,.int .i64 jy,.slice Ao97 jw.length co97] 26 (0,0)) (bput4 jc) jn.out (by simp));replace HK:=ai_ (KeepBut.trans (keep_f2 HK jg jl) hk (.inl rfl));replace HB:=ai_ (hb);replace HI0:=ai_ (hi);clear hb hk hi;obtain ⟨jao,jap,jaq,jar,jas,jat,jau,jav⟩:=blk4_ jc;have jci:=ji.out;have jcj:=ja.out;obtain ⟨j5g,j5h,j5i,j5j,j5k,j5l,j5m,j5n⟩:=blk4_ jb))
   refine bodyPost_ret (results_cell_row rfl _ _ jm 26 #[.int .i64 jq,.int .i64 ju,.int .i64 jy,.slice Ao97 jw.length co97] (0,0) _ rfl (bput4 jb) Tryz.underlying26 rfl (by kernel_rfl)) rfl ?_
   exact ⟨_,rtE_,by (with_reducible repeat (first|apply Kd.R_alloc|apply Kd.R_drewN|apply Kd.R_drew));exact Kd.R_mono (Kd.R_far (p:=⟨jm,3,none⟩) (Kd.R_far (p:=⟨jm,2,none⟩) (Kd.R_far (p:=⟨jm,1,none⟩) (Kd.R_far (p:=⟨jm,0,none⟩) (Kd.R_types je.out jb.out (by decide)) (fun _ hk=>hk.2) (.int .i64 jq)) (fun _ hk=>hk.2) (.int .i64 ju)) (fun _ hk=>hk.2) (.int .i64 jy)) (fun _ hk=>hk.2) (.slice Ao97 jw.length co97)) (fun _ hk=>trivial),IsS55.tg2 HI0 ja jd,below_to3 HB (IsS55.ge HI0.out) jj.out js.out,keep_f2 HK jg jl⟩
 rw [if_pos c55] at H
 have j5b:=beq_iff_eq.mpr c55
 have j5c:=bne_eq_false_iff_eq.mpr c55
 clear c55
 obtain ⟨j3j,hy166⟩:∃ y_:List Int,y_=(([(-1),0,3,500,501,4611686018427387904]:List Int)):=⟨_,rfl⟩
 replace H:((spec_l1Cur_among.f jh j1h j1i j3j).bind fun bt169=>(if jw.length < 17592186044416 then (some (jq,ju,jy,(jw ++ [bt169.1]),bt169.2.1,bt169.2.2)) else (none)))=some (r1,r2,r3,r4,r5,r6):=by first|(rw [hy166];with_reducible exact H)|(have H2_:=(Option.bind_some _ _).symm.trans H;rw [hy166];with_reducible exact H2_)|(have H2_:=(Option.bind_some _ _).symm.trans H;with_reducible exact H2_)|with_reducible exact H|(rw [hy166];exact H)|exact H
 have j3v:=ai_ hy166
 clear hy166
 obtain ⟨⟨j3k,j5o,j5p⟩,A56,H⟩:=bs_ H
 (try dsimp only at H)
 by_cases c57:jw.length < 17592186044416
 rotate_left
 ·rw [if_neg c57] at H
  cases H
 rw [if_pos c57] at H
 have j5q:=ai_ c57
 clear c57
 obtain ⟨j3l,hy172⟩:∃ y_:List Int,y_=(jw ++ [j3k]):=⟨_,rfl⟩
 replace H:(some (jq,ju,jy,j3l,j5o,j5p))=some (r1,r2,r3,r4,r5,r6):=by first|(rw [hy172];with_reducible exact H)|(have H2_:=(Option.bind_some _ _).symm.trans H;rw [hy172];with_reducible exact H2_)|(have H2_:=(Option.bind_some _ _).symm.trans H;with_reducible exact H2_)|with_reducible exact H|(rw [hy172];exact H)|exact H
 have j5r:=ai_ hy172
 clear hy172
 simp only [Option.some.injEq,Prod.mk.injEq] at H
 obtain ⟨rfl,rfl,rfl,rfl,rfl,rfl⟩:=H
 go_enter Tryz.func40,Tryz.ntmps40
 try go_wp2_with (first|((with_reducible refine gate_dst (N:=2) rfl ?_);refine bxe_ #[.int .i64 0,.int .i64 0,.int .i64 0,.slice none 0 0] 26 ?_;intro jm hg w58 hbox hb;replace HB:=ai_ (below_step (below_to1 HB (IsS55.ge HI0.out)) hb);have jb:=ai_ (hbox);have jg:=ai_ (gb_ hg (keep_size (keep_to HK)));replace HK:=ai_ (KeepBut.trans (keep_to HK) (KeepBut.of_below hb g none) (.inl rfl));have jj:=ai_ (Nat.le_trans HW0.out jg.out);have ja:=ai_ (ne_ hg (IsS55.lt (IsS55.to HI0)));replace HI0:=ai_ (IsS55.below (IsS55.to HI0) hb);have ji:=ai_ ja.out.symm;clear hb hbox hg)|((with_reducible refine gate_callee (f:=65) rfl ?_);refine gl_ (some 5) Tryz.func65 #[.pointer (some ⟨g,0,none⟩)] ?_;(with_reducible refine (spec_l1Cur_sureLine.calls k g jh jk jr jq ju jy jw j1n j1o w0 _ ?side1 ?side2 A2.out).mono ?_);(case side1=>exact IsS55.tg1 HI0 ja);(case side2=>exact below_to2 HB (IsS55.ge HI0.out) jj.out);rintro e w59 ⟨j2u,rfl,ho0,hi,hb,hk⟩;refine ⟨_,rfl,?_⟩;replace jb:=ai_ (KeepBut.blk hk (blk_to jb) ji.out (by simp));have je:=ai_ (Kd.R_lower ho0 (keep_size (w:=w) (g:=g) (row:=none) (keep_f1 HK jg)));replace HK:=ai_ (KeepBut.trans (keep_f1 HK jg) hk (.inl rfl));replace HB:=ai_ (hb);replace HI0:=ai_ (hi);clear hb hk hi;(try clear ho0))|((with_reducible refine gate_dst (N:=3) rfl ?_);refine bxe_ #[.int .i64 0,.int .i64 0,.int .i64 0,.slice none 0 0] 26 ?_;intro jx hg w60 hbox hb;replace je:=rb_ je hb;replace HB:=ai_ (below_step (below_to2 HB (IsS55.ge HI0.out) jj.out) hb);have jc:=ai_ (hbox);have jl:=ai_ (gb_ hg (keep_size (keep_f1 HK jg)));replace HK:=ai_ (KeepBut.trans (keep_f1 HK jg) (KeepBut.of_below hb g none) (.inl rfl));have js:=ai_ (Nat.le_trans HW0.out jl.out);have jf:=ai_ (ne_ hg (blk_lt (blk_to jb)));replace jb:=bb_ jb hb;have jo:=ai_ jf.out.symm;have jd:=ai_ (ne_ hg (IsS55.lt (IsS55.to1 HI0 ja)));replace HI0:=ai_ (IsS55.below (IsS55.tg1 HI0 ja) hb);have jn:=ai_ jd.out.symm;clear hb hbox hg;have jds:=jo.out;have jdt:=jf.out;have jdu:=jn.out;have jdv:=jd.out;obtain ⟨jaw,jax,jay,jaz,jb0,jb1,jb2,jb3⟩:=blk4_ jc;obtain ⟨Ao64,co64,eo64⟩:=Kd.R_slice je.out;subst eo64)|((with_reducible refine gate_callee (f:=58) rfl ?_);refine gl_ (some 7) Tryz.func58 #[.pointer (some ⟨g,0,none⟩),.int .i64 20] ?_;(with_reducible refine (spec_l1Cur_pick.calls g jh j1n j1o 20 j1s j1h j1i w0 _ ?side1 ?side2 A3.out).mono ?_);(case side1=>exact IsS55.tg2 HI0 ja jd);(case side2=>exact below_to3 HB (IsS55.ge HI0.out) jj.out js.out);rintro e w65 ⟨rfl,hi,hb,hk⟩;refine ⟨_,rfl,?_⟩;replace jb:=ai_ (KeepBut.blk hk (blk_f1 jb jf) ji.out (by simp));replace je:=ai_ (Kd.R_mono (Kd.R_keep (IsS55.apart (IsS55.to2 HI0 ja jd) (rtf_ je jc) (by decide)) hk (fun _ h=>h.2)) (fun _ h=>h.1));replace jc:=ai_ (KeepBut.blk hk (g':=jx) (o:=.cells #[.int .i64 jq,.int .i64 ju,.int .i64 jy,.slice Ao64 jw.length co64] 26 (0,0)) (bput4 jc) jn.out (by simp));replace HK:=ai_ (KeepBut.trans (keep_f2 HK jg jl) hk (.inl rfl));replace HB:=ai_ (hb);replace HI0:=ai_ (hi);clear hb hk hi))
 have n0_:=ai_ (Kd.R_drew je.out)
 have n1_:=ai_ (blk_drew jb.out)
 have n2_:=ai_ (blk_drew jc.out)
 have n3_:=ai_ (IsS55.drew HI0.out)
 have n4_:=ai_ (keep_drew HK.out)
 have n5_:=ai_ (below_drew1 HB.out)
 clear je
 clear jb
 clear jc
 clear HI0
 clear HK
 clear HB
 have je:=n0_
 have jb:=n1_
 have jc:=n2_
 have HI0:=n3_
 have HK:=n4_
 have HB:=n5_
 clear n0_ n1_ n2_ n3_ n4_ n5_
 refine start_ (n:=9) (S:=fun w'=>w'.cell? ⟨jx,0,none⟩=some (.int .i64 jq)∧w'.cell? ⟨jx,1,none⟩=some (.int .i64 ju)∧w'.cell? ⟨jx,2,none⟩=some (.int .i64 jy)∧w'.cell? ⟨jx,3,none⟩=some (.slice Ao64 jw.length co64)) (ds:=[8]) #[false,false,false,false,false,false,false,false,false] (by kernel_rfl) rfl rfl ⟨(blk_cell jc.out 0).trans rfl,(blk_cell jc.out 1).trans rfl,(blk_cell jc.out 2).trans rfl,(blk_cell jc.out 3).trans rfl⟩ (fun hHeld=>?_);refine with_tabW spec_l1Cur_line.tab10 spec_l1Cur_line.bits10 (fun HT_ HW_=>?_)
 generalize w65.drew=w66 at je jb jc HI0 HK HB hHeld ⊢
 refine purS_ (i:=0) (N:=some 28) (fl_ 9 1) HT_.out ?_
 refine purS_ (i:=2) (N:=some 30) #[true,false,true,false,false,false,false,false,false] HT_.out ?_
 refine take_ (i:=1) (N:=some 29) (v:=?_) (a':=?_) #[true,true,true,false,false,false,false,false,false] rfl rfl (take_ofW HT_.out HW_.out (by kernel_rfl)) (fun _ _ _ h=>h) (Or.inl ⟨by rfl,?_⟩) hHeld ?_ ?_
 rotate_left
 ·rintro w' ⟨s0,s1,s2,s3⟩
  go_simp
  with_reducible rfl
 rotate_left
 ·simp only [Act.put,List.setIfInBounds_toArray,List.set_cons_zero,List.set_cons_succ,i64_w,i32_w]
  rfl
 refine one_ (i:=3) (N:=some 31) #[true,true,true,true,false,false,false,false,false] rfl rfl (one_of HT_.out (by kernel_rfl)) (by decide) (fun K hK=>?_)
 refine Kd.R_lit_step Ki_ _ 3 ?hg (N:=31) ?hd (xs:=([(-1),0,3,500,501,4611686018427387904]:List Int)) (inner:=[.int .i64 (-1),.int .i64 0,.int .i64 3,.int .i64 500,.int .i64 501,.int .i64 4611686018427387904]) (ok:=fun _=>True) (okp:=fun _=>True) ?hr ?hp (fun _ hk=>hk) trivial (Below.refl _ _) (Nat.le_refl _) (by simp) ?_;(case hd=>rfl);(case hg=>rfl);(case hr=>first|(go_simp;done)|(go_simp;rfl));(case hp=>exact (Reps.one (show Kd.M Ki_ _ _ _ (-1) [.int .i64 (-1)] from rfl) (Reps.one (show Kd.M Ki_ _ _ _ 0 [.int .i64 0] from rfl) (Reps.one (show Kd.M Ki_ _ _ _ 3 [.int .i64 3] from rfl) (Reps.one (show Kd.M Ki_ _ _ _ 500 [.int .i64 500] from rfl) (Reps.one (show Kd.M Ki_ _ _ _ 501 [.int .i64 501] from rfl) (Reps.one (show Kd.M Ki_ _ _ _ 4611686018427387904 [.int .i64 4611686018427387904] from rfl) (Reps.none _ _))))))))
 intro je6 w67 j2s hb hg_ hnew_
 clear hg_ hnew_
 (first|rw [← j3v.out] at j2s|(simp only [Int.reduceToNat] at j2s;rw [← j3v.out] at j2s))
 have n0_:=ai_ (Kd.R_elder' (kd_to je) (Kd.R_base j2s) hb)
 have n1_:=ai_ (Kd.R_lower (Kd.R_new' j2s (Kd.R_lt (kd_to je))) (keep_size (w:=w) (g:=g) (row:=none) (keep_f2 HK jg jl)))
 have n2_:=ai_ (IsS55.below (IsS55.tg2 HI0 ja jd) hb)
 have n3_:=bb_ jb hb
 have n4_:=bb_ jc hb
 have n5_:=ai_ (KeepBut.trans (keep_f2 HK jg jl) (KeepBut.of_below hb g none) (.inl rfl))
 have n6_:=ai_ (below_step (below_to3 HB (IsS55.ge HI0.out) jj.out js.out) hb)
 clear je
 clear HI0
 clear jb
 clear jc
 clear HK
 clear HB
 have je:=n0_
 have j1f:=n1_
 have HI0:=n2_
 have jb:=n3_
 have jc:=n4_
 have HK:=n5_
 have HB:=n6_
 clear n0_ n1_ n2_ n3_ n4_ n5_ n6_
 clear hb j2s
 obtain ⟨Ao69,co69,eo69⟩:=Kd.R_slice j1f.out
 (first|subst eo69|(injection eo69 with f1_ f2_ f3_;have f4_:=f1_.symm;have f5_:=f3_.symm;clear f1_ f2_ f3_;subst f4_;subst f5_))
 refine hK.out _ _ ⟨(blk_cell jc.out 0).trans rfl,(blk_cell jc.out 1).trans rfl,(blk_cell jc.out 2).trans rfl,(blk_cell jc.out 3).trans rfl⟩ (fun hHeld=>?_)
 clear hK K
 refine norm_ (a':=?_) ?_ ?_
 rotate_left
 ·show Act.put _ (some 31) _=_
  simp only [Act.put,List.setIfInBounds_toArray,List.set_cons_zero,List.set_cons_succ,i64_w,i32_w]
  rfl
 refine one_ (i:=4) (N:=some 32) #[true,true,true,true,true,false,false,false,false] rfl rfl (one_of HT_.out (by kernel_rfl)) (by decide) (fun K hK=>?_)
 refine goes_ Tryz.func70 (by kernel_rfl) rfl #[.pointer (some ⟨g,0,none⟩),.slice Ao69 j3j.length co69] (by rfl) rfl rfl am_ ?_
 with_reducible refine (spec_l1Cur_among.calls g jh j1h j1i _ _ j3j j3k j5o j5p w0 _ ?side1 ?side2 ?side3 ?side4 ?side5 A56.out).mono ?_
 (case side1=>exact IsS55.tg2 HI0 ja jd)
 (case side2=>exact below_to3 HB (IsS55.ge HI0.out) jj.out js.out)
 (case side3=>exact cR_ j1f)
 (case side4=>exact (Kd.R_reads' j1f.out).2.1)
 (case side5=>exact far_slice (IsS55.own_ne HI0.out j1f.out (by decide)))
 rintro e w70 ⟨rfl,hi,hb,hk⟩
 refine ⟨_,rfl,?_⟩
 have n0_:=ai_ (KeepBut.blk hk (blk_to jb) ji.out (by simp))
 have n1_:=ai_ (Kd.R_mono (Kd.R_keep (IsS55.apart (IsS55.to2 HI0 ja jd) (kd_to je) (by decide)) hk (fun _ h=>h.2)) (fun _ h=>h.1))
 have n2_:=ai_ (KeepBut.blk hk (blk_to jc) jn.out (by simp))
 have n3_:=ai_ (Kd.R_mono (Kd.R_keep (IsS55.apart (IsS55.to2 HI0 ja jd) (kd_to j1f) (by decide)) hk (fun _ h=>h.2)) (fun _ h=>h.1))
 have n4_:=ai_ (KeepBut.trans (keep_f2 HK jg jl) hk (.inl rfl))
 have n5_:=ai_ (hb)
 have n6_:=ai_ (hi)
 clear jb
 clear je
 clear jc
 clear j1f
 clear HK
 clear HB
 clear HI0
 have jb:=n0_
 have je:=n1_
 have jc:=n2_
 have j1f:=n3_
 have HK:=n4_
 have HB:=n5_
 have HI0:=n6_
 clear n0_ n1_ n2_ n3_ n4_ n5_ n6_
 (try clear hb)
 (try clear hb2)
 (try clear hk)
 (try clear hi)
 refine hK.out _ _ ⟨(blk_cell jc.out 0).trans rfl,(blk_cell jc.out 1).trans rfl,(blk_cell jc.out 2).trans rfl,(blk_cell jc.out 3).trans rfl⟩ (fun hHeld=>?_)
 clear hK K
 refine norm_ (a':=?_) ?_ ?_
 rotate_left
 ·show Act.put _ (some 32) _=_
  simp only [Act.put,List.setIfInBounds_toArray,List.set_cons_zero,List.set_cons_succ,i64_w,i32_w]
  rfl
 refine one_ (i:=5) (N:=some 33) #[true,true,true,true,true,true,false,false,false] rfl rfl (one_of HT_.out (by kernel_rfl)) (by decide) (fun K hK=>?_)
 refine value_ (w1:=?_) (v:=?_) (by rfl) rfl ?_ ?_
 rotate_left 2
 ·go_simp
  constructor
  ·rfl
  ·rfl
 refine hK.out _ _ ⟨(blk_cell (blk_alloc jc.out _) 0).trans rfl,(blk_cell (blk_alloc jc.out _) 1).trans rfl,(blk_cell (blk_alloc jc.out _) 2).trans rfl,(blk_cell (blk_alloc jc.out _) 3).trans rfl⟩ (fun hHeld=>?_)
 clear hK K
 refine norm_ (a':=?_) ?_ ?_
 rotate_left
 ·show Act.put _ (some 33) _=_
  simp only [Act.put,List.setIfInBounds_toArray,List.set_cons_zero,List.set_cons_succ,i64_w,i32_w]
  rfl
 refine one_ (i:=6) (N:=some 34) #[true,true,true,true,true,true,true,false,false] rfl rfl (one_of HT_.out (by kernel_rfl)) (by decide) (fun K hK=>?_)
 refine Kd.R_append_step Ki_ w.heap.size (by rfl) (.tmp 29) (.tmp 33) 24 3 (.int .i64 0) 8 rfl Tryz.underlying24 info3 rfl (by decide) (by omega) (.slice Ao64 jw.length co64) jw j3k [.int .i64 j3k] (fun k_=>some k_≠(.slice Ao69 j3j.length co69:Value).ownBlock) (fun _=>False) rfl rfl ?aP (fun _ hk=>hk.elim) ?aF ?aO (Below.refl _ _) ?aS ?aL ?_
 (case aP=>exact rfl)
 (case aF=>exact (fun k_ hk=>Kd.fresh' (Kd.R_lt (kd_to j1f)) k_ hk))
 (case aO=>exact (by (with_reducible repeat (first|apply Kd.R_alloc|apply Kd.R_drewN|apply Kd.R_drew));exact Kd.R_mono je.out (fun _ hk=>hk.2)))
 (case aS=>exact (keep_size (w:=w) (g:=g) (row:=none) (keep_f2 HK jg jl)))
 (case aL=>have:=j5q.out;omega)
 intro je7 w71 ho hb hg hat
 rw [← j5r.out] at ho
 have n0_:=ai_ (IsS55.grown (IsS55.tg2 HI0 ja jd) hg (IsS55.own_ne HI0.out je.out (by decide)))
 have n1_:=ai_ (blk_grown (g:=jm) (o:=.cells #[.int .i64 0,.int .i64 0,.int .i64 0,.slice none 0 0] 26 (0,0)) (blk_to jb) hg (Kd.R_ne je.out jb.out (by decide)))
 have n2_:=ai_ (blk_grown (g:=jx) (o:=.cells #[.int .i64 jq,.int .i64 ju,.int .i64 jy,.slice Ao64 jw.length co64] 26 (0,0)) (blk_to jc) hg (Kd.R_ne je.out jc.out (by decide)))
 have n3_:=ai_ (Kd.R_after (ok:=(fun _=>True)) (kd_to j1f) hg hat)
 have n4_:=ai_ (below_weaken (below_to3 HB (IsS55.ge HI0.out) jj.out js.out) HL.out hb)
 have n5_:=ai_ (KeepBut.trans (keep_f2 HK jg jl) (KeepBut.of_grown hg g) (Kd.R_base2 je.out))
 have n6_:=ai_ (ho)
 clear HI0
 clear jb
 clear jc
 clear j1f
 clear HB
 clear HK
 clear je
 have HI0:=n0_
 have jb:=n1_
 have jc:=n2_
 have j1f:=n3_
 have HB:=n4_
 have HK:=n5_
 have j3w:=n6_
 clear n0_ n1_ n2_ n3_ n4_ n5_ n6_
 clear ho hb hg hat
 obtain ⟨Ao72,co72,eo72⟩:=Kd.R_slice j3w.out
 (first|subst eo72|(injection eo72 with f1_ f2_ f3_;have f4_:=f1_.symm;have f5_:=f3_.symm;clear f1_ f2_ f3_;subst f4_;subst f5_))
 refine hK.out _ _ ⟨(blk_cell jc.out 0).trans rfl,(blk_cell jc.out 1).trans rfl,(blk_cell jc.out 2).trans rfl,(blk_cell jc.out 3).trans rfl⟩ (fun hHeld=>?_)
 clear hK K
 refine norm_ (a':=?_) ?_ ?_
 rotate_left
 ·show Act.put _ (some 34) _=_
  simp only [Act.put,List.setIfInBounds_toArray,List.set_cons_zero,List.set_cons_succ,i64_w,i32_w]
  rfl
 refine purS_ (i:=7) (N:=some 35) (fl_ 9 8) HT_.out ?_
 refine last_ (i:=8) (N:=none) #[true,true,true,true,true,true,true,true,true] rfl rfl (one_of HT_.out (by kernel_rfl)) (by decide) (fun K hK=>?_)
 have hs73:w71.cell? ⟨jx,3,none⟩=some (.slice Ao64 jw.length co64):=(blk_cell jc.out 3).trans rfl
 have hfs73:=blk_frozen jc.out 3
 have hns73_0:=jf.out
 have hms73_0:=jo.out
 refine skip_ (w1:=?_) (by rfl) rfl ?_ ?_
 rotate_left
 ·go_simp
  rfl
 refine hK.out _ _ ?_
 clear hK K
 refine done_ (done_of HT_.out (by kernel_rfl)) ?_
 obtain ⟨jb4,jb5,jb6,jb7,jb8,jb9,jba,jbb⟩:=blk4_ jc
 have jdw:=ji.out
 have jdx:=ja.out
 obtain ⟨jbc,jbd,jbe,jbf,jbg,jbh,jbi,jbj⟩:=blk4_ jb
 try go_wp2
 refine bodyPost_ret (results_cell_row rfl _ _ jm 26 #[.int .i64 jq,.int .i64 ju,.int .i64 jy,.slice Ao72 j3l.length co72] (0,0) _ rfl (by (with_reducible repeat (first|refine blk_drewN ?_ _|refine blk_drew ?_|refine blk_alloc ?_ _));refine blk_put (cs:=#[.int .i64 jq,.int .i64 ju,.int .i64 jy,.slice none 0 0]) ?_ 3 _ rfl;(with_reducible repeat (first|refine blk_drewN ?_ _|refine blk_drew ?_|refine blk_alloc ?_ _));refine blk_put (cs:=#[.int .i64 jq,.int .i64 ju,.int .i64 0,.slice none 0 0]) ?_ 2 _ rfl;(with_reducible repeat (first|refine blk_drewN ?_ _|refine blk_drew ?_|refine blk_alloc ?_ _));refine blk_put (cs:=#[.int .i64 jq,.int .i64 0,.int .i64 0,.slice none 0 0]) ?_ 1 _ rfl;(with_reducible repeat (first|refine blk_drewN ?_ _|refine blk_drew ?_|refine blk_alloc ?_ _));refine blk_put (cs:=#[.int .i64 0,.int .i64 0,.int .i64 0,.slice none 0 0]) ?_ 0 _ rfl;(with_reducible repeat (first|refine blk_drewN ?_ _|refine blk_drew ?_|refine blk_alloc ?_ _));refine blk_far ?_ jf.out _;(with_reducible repeat (first|refine blk_drewN ?_ _|refine blk_drew ?_|refine blk_alloc ?_ _));exact jb.out) Tryz.underlying26 rfl (by kernel_rfl)) rfl ?_
 exact ⟨_,rtE_,by (with_reducible repeat (first|apply Kd.R_alloc|apply Kd.R_drewN|apply Kd.R_drew));exact Kd.R_mono (Kd.R_far (p:=⟨jm,3,none⟩) (Kd.R_far (p:=⟨jm,2,none⟩) (Kd.R_far (p:=⟨jm,1,none⟩) (Kd.R_far (p:=⟨jm,0,none⟩) (Kd.R_far (p:=⟨jx,3,none⟩) (Kd.R_types (Kd.R_types j3w.out jc.out (by decide)) jb.out (by decide)) (fun _ hk=>hk.1.2) (.slice Ao72 j3l.length co72)) (fun _ hk=>hk.2) (.int .i64 jq)) (fun _ hk=>hk.2) (.int .i64 ju)) (fun _ hk=>hk.2) (.int .i64 jy)) (fun _ hk=>hk.2) (.slice Ao72 j3l.length co72)) (fun _ hk=>trivial),IsS55.tg2 HI0 ja jd,below_to3 HB (IsS55.ge HI0.out) jj.out js.out,keep_f2 HK jg jl⟩
end Go.Proofs.YthdnodmidbcgpaaGreatDoor.QR
