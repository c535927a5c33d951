import Derived.Test.YthdnodmidbcgpaaGreatDoorProg
import Derived.Below
import Derived.Deep.Draws
import Derived.Deep.AppendLies
import Derived.Maps.AppendAt
import Derived.OwnWalk
import Derived.Laws.BytesArg
import Derived.Laws.MakeOwn
import Derived.Laws.OwnMore
import Derived.Deep.OwnRows
import Derived.Tactics
import Derived.Lib.ConvBytes
import Derived.Laws.Slices
import Derived.WalkKit
import Derived.KernelRfl
import Derived.RowKit3
import Derived.Deep.LoopGhost
import Derived.Deep.QuietTactic
import Derived.BigQuiet
import Derived.WideLaws
import Derived.Deep.DeepCutAuto
import Derived.Deep.CutBlock
import Derived.Deep.RegionHeld3
import Derived.Laws.Rows
import Derived.Lib.AppendStr
import Derived.ArgAppend
import Derived.Laws.IdiomCopy
import Derived.OrdersHeld
import Derived.Laws.BitsLemmas
import Derived.RowKit
import Derived.Test.YthdnodmidbcgpaaGreatDoorWFour
import Derived.Test.YthdnodmidbcgpaaGreatDoorWEqStruct
import Derived.Test.YthdnodmidbcgpaaGreatDoorWRepsOne
import Derived.Test.YthdnodmidbcgpaaGreatDoorWInvWords
import Derived.Test.YthdnodmidbcgpaaGreatDoorWGuard
import Derived.Test.YthdnodmidbcgpaaGreatDoorX
namespace Go.Proofs.YthdnodmidbcgpaaGreatDoor.QR
open Go.Proofs.YthdnodmidbcgpaaGreatDoor.X Go.RowKit Go.Proofs.YthdnodmidbcgpaaGreatDoorW.PrintWords Go.Proofs.YthdnodmidbcgpaaGreatDoorW.PrintLast Go.Proofs.YthdnodmidbcgpaaGreatDoorW.PrintMore
attribute [local go_sem] max2_int min2_int max_two min_two max_three min_three max_four min_four
set_option linter.unusedVariables false
set_option linter.unusedSimpArgs false
def errW:Option Int→Value
  | none => .nilIface
  | some c => .iface 0 (.int .i64 c)
theorem errW_none:errW none=.nilIface:=rfl
theorem errW_some (c:Int):errW (some c)=.iface 0 (.int .i64 c):=rfl
theorem info3:(Tryz.prog.info? 3).map (fun i=>(i.zero,i.size,i.bytes))=some (some (.int .i64 0),1,8):=by kernel_rfl
theorem info5:(Tryz.prog.info? 5).map (fun i=>(i.zero,i.size,i.bytes))=some (some (.int .u8 0),1,1):=by kernel_rfl
theorem info9:(Tryz.prog.info? 9).map (fun i=>(i.zero,i.size,i.bytes))=some (some (.string ⟨#[]⟩),1,16):=by kernel_rfl
def rd_L3 (xs:List (List Int)) (i:Int):(List Int):=xs.getD i.toNat ([]:List Int)
theorem at_L3 {w:World} {A:Option Addr} {n:Nat} {xs:List (List Int)} (h:Kd.C (Kd.slice 5 (Kd.int .u8)) w A n xs) (i:Int) (h0:0≤i) (h1:i < n):∃ ad A0 c0,A=some ad∧w.cell? (ad.add i.toNat)=some (.slice A0 (rd_L3 xs i).length c0)∧(rd_L3 xs i).length≤c0∧(Kd.int .u8).C w A0 (rd_L3 xs i).length (rd_L3 xs i):=by
  obtain ⟨ad,c,e,_,hK,hc0⟩:=Kd.C_get h ([]:List Int) i h0 h1
  have hc:∀ j u,c[j]?=some u→w.cell? (ad.add (i.toNat*1+j))=some u:=hc0
  obtain ⟨A0,c0,rfl,l0,g0⟩:=hK
  exact ⟨ad,A0,c0,e,by have hq:=hc 0 _ rfl;rwa [Nat.mul_one,Nat.add_zero] at hq,l0,g0⟩
theorem kd_to {α:Type} {d:Kd α} {e:Nat} {w W:World} {base:Nat} {ok:Nat→Prop} {v:Value} {xs:List α} (h:Aside0 (d.R e w base ok v xs)) (s:d.R e w base ok v xs→d.R e W base ok v xs:=by intro h_;(with_reducible repeat (first|apply Kd.R_alloc|apply Kd.R_drewN|apply Kd.R_drew));exact h_):d.R e W base ok v xs:=s h.out
theorem below_to {n:Nat} {w w1 w2:World} (h:Aside0 (Below n w w1)) (s:Below n w w1→Below n w w2:=by intro h_;repeat (first|(with_reducible first|exact h_|apply below_alloc|apply pw_below_drewN|apply below_drew1)|exact h_)):Below n w w2:=s h.out
theorem blk_to {w W:World} {g:Nat} {o:Obj} (h:Aside0 (w.heap[g]?=some o)) (s:w.heap[g]?=some o→W.heap[g]?=some o:=by intro h_;(with_reducible repeat (first|refine blk_drewN ?_ _|refine blk_drew ?_|refine blk_alloc ?_ _));exact h_):W.heap[g]?=some o:=s h.out
theorem below_to1 {n g:Nat} {w w1 w2:World} (h:Aside0 (Below n w w1)) (y:n≤g) (s:Below n w w1→n≤g→Below n w w2:=by intro h_ y_;repeat (first|(with_reducible first|exact h_|apply below_alloc|apply pw_below_drewN|apply below_drew1|refine below_set ?_ y_)|exact h_)):Below n w w2:=s h.out y
theorem below_to2 {n g g2:Nat} {w w1 w2:World} (h:Aside0 (Below n w w1)) (y:n≤g) (z:n≤g2) (s:Below n w w1→n≤g→n≤g2→Below n w w2:=by intro h_ y_ z_;repeat (first|(with_reducible first|exact h_|apply below_alloc|apply pw_below_drewN|apply below_drew1|refine below_set ?_ y_|refine below_set ?_ z_)|exact h_)):Below n w w2:=s h.out y z
theorem keep_to {w w1 w2:World} {g:Nat} {row:Option Nat} (h:Aside0 (KeepBut w w1 g row)) (s:KeepBut w w1 g row→KeepBut w w2 g row:=by intro h_;repeat (first|(with_reducible first|exact h_|apply KeepBut.set_|apply keep_drewN|apply keep_drew|apply keep_alloc)|exact h_)):KeepBut w w2 g row:=s h.out
theorem am_ {α:Type} {a b:α} (s:a=b:=by (try simp only [List.map_toArray,List.map_cons,List.map_nil]);first|done|rfl|(simp only [List.length_drop,List.length_take];rfl)):a=b:=s
theorem purS_ {P:Program} {md:Region.Mode} {ops:Array Oper} {Q:Exit→Act→World→Prop} {S:World→Prop} {ds:List Nat} {T:Bool × List (List Nat × List Nat)} {i:Nat} {N:Option Tmp} {oi:Oper} {v:Value} {fuel:Nat} {l:Array Bool} {a:Act} {w:World} (l':Array Bool) (hT:rtab md ops=T) {a':Act} (h:wpAnyLast P md ops Q S ds fuel l' a' w) (hi:ops[i]?=some oi:=by rfl) (hN:oi.dst=N:=by rfl) (hc:anyT T l.toList l'.toList i=true:=by kernel_rfl) (hQ:∀ c a w,Q (.panic c) (a.put oi.dst v) w→Q (.panic c) a w:=by exact (fun _ _ _ h=>h)) (hy:Yields P ops oi v a:=by (refine Or.inl ⟨by rfl,?_⟩;intro w';go_simp;with_reducible rfl)) (ha:a.put N v=a':=by (simp only [Act.put,List.setIfInBounds_toArray,List.set_cons_zero,List.set_cons_succ,i64_w,i32_w];rfl)):wpAnyLast P md ops Q S ds (fuel+1) l a w:=pure_ l' hi hN (any_of hT hc) hQ hy ha h
abbrev fl_ (n i:Nat):Array Bool:=⟨List.replicate i true ++ List.replicate (n - i) false⟩
theorem cb_ {α:Type} {d:Kd α} {w W W2:World} {A:Option Addr} {n:Nat} {l:List α} (h:Aside0 (Kd.C d w A n l)) (b:Aside0 (Below w.heap.size w W)) (s:Kd.C d W A n l→Kd.C d W2 A n l:=by intro h_;repeat (first|exact h_|(with_reducible refine Kd.C_alloc ?_ _)|(with_reducible refine Kd.C_drewN ?_ _)|(with_reducible refine Kd.C_drew ?_))):Kd.C d W2 A n l:=s (Kd.C_below h.out b.out)
theorem c_to {α:Type} {d:Kd α} {W W2:World} {A:Option Addr} {n:Nat} {l:List α} (h:Aside0 (Kd.C d W A n l)) (s:Kd.C d W A n l→Kd.C d W2 A n l:=by intro h_;repeat (first|exact h_|(with_reducible refine Kd.C_alloc ?_ _)|(with_reducible refine Kd.C_drewN ?_ _)|(with_reducible refine Kd.C_drew ?_))):Kd.C d W2 A n l:=s h.out
theorem odt_ {p:Prop} [Decidable p] (h:decide p=true:=by first|(with_reducible assumption)|assumption):p:=of_decide_eq_true h
theorem bx_ {w W:World} {p:Addr} {v:Value} (h:Aside0 (Below w.heap.size w W)) (x:w.cell? p=some v):W.cell? p=some v:=(h.out.cell (World.block_lt_of_cell? w _ x)).trans x
theorem rt_ {α:Sort _} {a b:α} (s:a=b:=by first|rfl|(simp;done)|(simp [*];done)):a=b:=s
theorem d0_ {w W:World} (s:Drawn0 w W:=by repeat (first|exact Drawn0.refl _|apply Drawn0.step)):Drawn0 w W:=s
def rl_:Bool→List Nat→List Bool
  | _,[]=>[]
  | b,n :: l=>List.replicate n b ++ rl_ (!b) l
abbrev fr_ (l:List Nat):Array Bool:=⟨rl_ true l⟩
theorem rtE_ {α:Sort _} {a b:α} (s:a=b:=by first|rfl|(simp [errW_none,errW_some] <;> rfl)|(simp [*,errW_none,errW_some] <;> rfl)):a=b:=s
theorem sd_to {α:Type} {d:Kd α} {e:Nat} {w W:World} {base:Nat} {ok:Nat→Prop} {v:Value} {xs:List α} (h:Aside0 (Kd.S d e w base ok v xs)) (s:Kd.S d e w base ok v xs→Kd.S d e W base ok v xs:=by intro h_;(with_reducible repeat (first|apply Kd.S_alloc|apply Kd.S_drewN|apply Kd.S_drew));exact h_):Kd.S d e W base ok v xs:=s h.out
theorem vd_to {α:Type} {d:Kd α} {e:Nat} {w W:World} {base:Nat} {ok:Nat→Prop} {v:Value} {xs:List α} (h:Aside0 (Kd.V d e w base ok v xs)) (s:Kd.V d e w base ok v xs→Kd.V d e W base ok v xs:=by intro h_;(with_reducible repeat (first|apply Kd.V_alloc|apply Kd.V_drewN|apply Kd.V_drew));exact h_):Kd.V d e W base ok v xs:=s h.out
theorem cR_ {α:Type} {d:Kd α} {e:Nat} {w W:World} {base:Nat} {ok:Nat→Prop} {A:Option Addr} {n c:Nat} {xs:List α} (h:Aside0 (d.R e w base ok (.slice A n c) xs)) (s:Kd.C d w A xs.length xs→Kd.C d W A xs.length xs:=by intro h_;repeat (first|exact h_|(with_reducible refine Kd.C_alloc ?_ _)|(with_reducible refine Kd.C_drewN ?_ _)|(with_reducible refine Kd.C_drew ?_))):Kd.C d W A xs.length xs:=s (Kd.R_reads' h.out).2.2
theorem ft_:¬ (false=true):=by decide
theorem nof_ {r:Bool} {P:Prop} (h:Aside0 (r=true)) (H:some false=some r):P:=absurd (Option.some.inj H).symm (by rw [h.out];decide)
abbrev Ki_:Kd Int:=Kd.int .i64
theorem bs_ {α β:Type} {o:Option α} {f:α→Option β} {r:β} (h:o.bind f=some r):∃ b,Aside0 (o=some b)∧f b=some r:=(Option.bind_eq_some_iff.mp h).imp (fun _ q=>⟨⟨q.1⟩,q.2⟩)
theorem ai_ {p:Prop} (h:p):Aside0 p:=Aside0.mk h
theorem blk4_ {w:World} {g:Nat} {c0 c1 c2 c3:Value} {t:TypeId} (h:Aside0 (w.heap[g]?=some (.cells #[c0,c1,c2,c3] t (0,0)))):w.cell? ⟨g,0,none⟩=some c0∧w.cell? ⟨g,1,none⟩=some c1∧w.cell? ⟨g,2,none⟩=some c2∧w.cell? ⟨g,3,none⟩=some c3∧w.frozen? ⟨g,0,none⟩=false∧w.frozen? ⟨g,1,none⟩=false∧w.frozen? ⟨g,2,none⟩=false∧w.frozen? ⟨g,3,none⟩=false:=⟨(blk_cell h.out 0).trans rfl,(blk_cell h.out 1).trans rfl,(blk_cell h.out 2).trans rfl,(blk_cell h.out 3).trans rfl,blk_frozen h.out 0,blk_frozen h.out 1,blk_frozen h.out 2,blk_frozen h.out 3⟩
theorem keep_f1 {w w1 w2:World} {g:Nat} {row:Option Nat} {p1:Prop} (h:Aside0 (KeepBut w w1 g row)) (y1_:Aside0 p1) (s:KeepBut w w1 g row→p1→KeepBut w w2 g row:=by intro h_ y1_;repeat (first|(with_reducible first|exact h_|apply KeepBut.set_|apply keep_drewN|apply keep_drew|apply keep_alloc|refine keep_far ?_ y1_ _)|exact h_)):KeepBut w w2 g row:=s h.out y1_.out
theorem blk_f1 {w W:World} {g:Nat} {o:Obj} {p1:Prop} (h:Aside0 (w.heap[g]?=some o)) (y1_:Aside0 p1) (s:w.heap[g]?=some o→p1→W.heap[g]?=some o:=by intro h_ y1_;repeat (first|(with_reducible exact h_)|(with_reducible first|refine blk_drewN ?_ _|refine blk_drew ?_|refine blk_alloc ?_ _)|refine blk_far ?_ y1_ _|exact h_)):W.heap[g]?=some o:=s h.out y1_.out
theorem keep_f2 {w w1 w2:World} {g:Nat} {row:Option Nat} {p1 p2:Prop} (h:Aside0 (KeepBut w w1 g row)) (y1_:Aside0 p1) (y2_:Aside0 p2) (s:KeepBut w w1 g row→p1→p2→KeepBut w w2 g row:=by intro h_ y1_ y2_;repeat (first|(with_reducible first|exact h_|apply KeepBut.set_|apply keep_drewN|apply keep_drew|apply keep_alloc|refine keep_far ?_ y1_ _|refine keep_far ?_ y2_ _)|exact h_)):KeepBut w w2 g row:=s h.out y1_.out y2_.out
theorem below_to3 {n:Nat} {w w1 w2:World} {p1 p2 p3:Prop} (h:Aside0 (Below n w w1)) (y1_:p1) (y2_:p2) (y3_:p3) (s:Below n w w1→p1→p2→p3→Below n w w2:=by intro h_ y1_ y2_ y3_;repeat (first|(with_reducible first|exact h_|apply below_alloc|apply pw_below_drewN|apply below_drew1|refine below_set ?_ y1_|refine below_set ?_ y2_|refine below_set ?_ y3_)|exact h_)):Below n w w2:=s h.out y1_ y2_ y3_
theorem below_to4 {n:Nat} {w w1 w2:World} {p1 p2 p3 p4:Prop} (h:Aside0 (Below n w w1)) (y1_:p1) (y2_:p2) (y3_:p3) (y4_:p4) (s:Below n w w1→p1→p2→p3→p4→Below n w w2:=by intro h_ y1_ y2_ y3_ y4_;repeat (first|(with_reducible first|exact h_|apply below_alloc|apply pw_below_drewN|apply below_drew1|refine below_set ?_ y1_|refine below_set ?_ y2_|refine below_set ?_ y3_|refine below_set ?_ y4_)|exact h_)):Below n w w2:=s h.out y1_ y2_ y3_ y4_
theorem bput4_ {w:World} {g:Nat} {a0 a1 a2 a3 b0 b1 b2 b3:Value} {t:TypeId} (h:w.heap[g]?=some (.cells #[b0,b1,b2,b3] t (0,0))):((((w.setCell ⟨g,0,none⟩ a0).setCell ⟨g,1,none⟩ a1).setCell ⟨g,2,none⟩ a2).setCell ⟨g,3,none⟩ a3).heap[g]?=some (.cells #[a0,a1,a2,a3] t (0,0)):=(blk_put (blk_put (blk_put (blk_put h 0 a0 rfl) 1 a1 rfl) 2 a2 rfl) 3 a3 rfl)
theorem bput4 {w W:World} {g:Nat} {a0 a1 a2 a3 b0 b1 b2 b3:Value} {t:TypeId} (h:Aside0 (w.heap[g]?=some (.cells #[b0,b1,b2,b3] t (0,0)))) (s:w.heap[g]?=some (.cells #[b0,b1,b2,b3] t (0,0))→W.heap[g]?=some (.cells #[a0,a1,a2,a3] t (0,0)):=by intro h_;(with_reducible repeat (first|refine blk_drewN ?_ _|refine blk_drew ?_|refine blk_alloc ?_ _));exact bput4_ h_):W.heap[g]?=some (.cells #[a0,a1,a2,a3] t (0,0)):=s h.out
theorem below_to5 {n:Nat} {w w1 w2:World} {p1 p2 p3 p4 p5:Prop} (h:Aside0 (Below n w w1)) (y1_:p1) (y2_:p2) (y3_:p3) (y4_:p4) (y5_:p5) (s:Below n w w1→p1→p2→p3→p4→p5→Below n w w2:=by intro h_ y1_ y2_ y3_ y4_ y5_;repeat (first|(with_reducible first|exact h_|apply below_alloc|apply pw_below_drewN|apply below_drew1|refine below_set ?_ y1_|refine below_set ?_ y2_|refine below_set ?_ y3_|refine below_set ?_ y4_|refine below_set ?_ y5_)|exact h_)):Below n w w2:=s h.out y1_ y2_ y3_ y4_ y5_
theorem below_to6 {n:Nat} {w w1 w2:World} {p1 p2 p3 p4 p5 p6:Prop} (h:Aside0 (Below n w w1)) (y1_:p1) (y2_:p2) (y3_:p3) (y4_:p4) (y5_:p5) (y6_:p6) (s:Below n w w1→p1→p2→p3→p4→p5→p6→Below n w w2:=by intro h_ y1_ y2_ y3_ y4_ y5_ y6_;repeat (first|(with_reducible first|exact h_|apply below_alloc|apply pw_below_drewN|apply below_drew1|refine below_set ?_ y1_|refine below_set ?_ y2_|refine below_set ?_ y3_|refine below_set ?_ y4_|refine below_set ?_ y5_|refine below_set ?_ y6_)|exact h_)):Below n w w2:=s h.out y1_ y2_ y3_ y4_ y5_ y6_
theorem below_to7 {n:Nat} {w w1 w2:World} {p1 p2 p3 p4 p5 p6 p7:Prop} (h:Aside0 (Below n w w1)) (y1_:p1) (y2_:p2) (y3_:p3) (y4_:p4) (y5_:p5) (y6_:p6) (y7_:p7) (s:Below n w w1→p1→p2→p3→p4→p5→p6→p7→Below n w w2:=by intro h_ y1_ y2_ y3_ y4_ y5_ y6_ y7_;repeat (first|(with_reducible first|exact h_|apply below_alloc|apply pw_below_drewN|apply below_drew1|refine below_set ?_ y1_|refine below_set ?_ y2_|refine below_set ?_ y3_|refine below_set ?_ y4_|refine below_set ?_ y5_|refine below_set ?_ y6_|refine below_set ?_ y7_)|exact h_)):Below n w w2:=s h.out y1_ y2_ y3_ y4_ y5_ y6_ y7_
theorem gb_ {n m k:Nat} (hg:k=m) (h:n≤m):n≤k:=hg ▸ h
theorem ne_ {a b c:Nat} (hg:b=c) (h:a < c):a≠b:=by rw [hg];exact Nat.ne_of_lt h
theorem bb_ {w W W2:World} {g:Nat} {o:Obj} (h:Aside0 (w.heap[g]?=some o)) (hb:Below W.heap.size W W2) (s:w.heap[g]?=some o→W.heap[g]?=some o:=by intro h_;(with_reducible repeat (first|refine blk_drewN ?_ _|refine blk_drew ?_|refine blk_alloc ?_ _));exact h_):Aside0 (W2.heap[g]?=some o):=⟨blk_below (s h.out) hb⟩
theorem rb_ {α:Type} {d:Kd α} {e:Nat} {w W W2:World} {base:Nat} {ok:Nat→Prop} {v:Value} {xs:List α} (h:Aside0 (d.R e w base ok v xs)) (hb:Below W.heap.size W W2) (s:d.R e w base ok v xs→d.R e W base ok v xs:=by intro h_;(with_reducible repeat (first|apply Kd.R_alloc|apply Kd.R_drewN|apply Kd.R_drew));exact h_):Aside0 (d.R e W2 base ok v xs):=⟨Kd.R_below (s h.out) hb⟩
theorem rtf_ {α:Type} {d:Kd α} {e:Nat} {w W:World} {base:Nat} {ok:Nat→Prop} {v:Value} {xs:List α} {g t:Nat} {cs:Array Value} (h:Aside0 (d.R e w base ok v xs)) (b:Aside0 (w.heap[g]?=some (.cells cs t (0,0)))) (ne:∀ q,q∈e :: d.E→q≠t:=by decide) (s:d.R e w base (fun k=>ok k∧k≠g) v xs→d.R e W base (fun k=>ok k∧k≠g) v xs:=by intro h_;repeat (first|(with_reducible first|exact h_|apply Kd.R_alloc|apply Kd.R_drewN|apply Kd.R_drew)|refine Kd.R_far ?_ (fun _ hk=>hk.2) _|exact h_)):d.R e W base ok v xs:=Kd.R_mono (s (Kd.R_types h.out b.out ne)) (fun _ h_=>h_.1)
theorem gl_ {P:Program} {ops:Array Oper} {rest:List Oper} {oi:Oper} {a:Act} {Q:Exit→Act→World→Prop} {w:World} (N:Option Tmp) {f:FuncId} {fn:Func} {as_:Array Operand} {ts:Array TypeId} (hf:P.funcs[f]?=some fn) (args:Array Value) (h:Calls P f args w fun e w' => ∃ v,e=.returned v∧wpList P ops Q rest (a.put N v) w') (hd:oi.dst=N:=by rfl) (hg:oi.guard=none:=by rfl) (hname:(fn.name == "runtime.NumGoroutine")=false:=by kernel_rfl) (hb:fn.body.isSome=true:=by rfl) (hop:oi.op=.call { callee:=.value (.func f),args:=as_,argTypes:=ts } := by rfl) (hargs:as_.map a.eval=args:=by (try simp only [List.map_toArray,List.map_cons,List.map_nil]);first|done|rfl|(simp only [List.length_drop,List.length_take];rfl)):wpList P ops Q (oi :: rest) a w:=goesL_ N hd hg hf hname hb args hop hargs h
section
variable {P:Program} {ops:Array Oper} {o:Oper} {rest:List Oper} {a:Act} {Q:Exit→Act→World→Prop} {W:World}
theorem bxe_ (cs:Array Value) (t:TypeId) (h:∀ g,g=W.heap.size→∀ w1,w1.heap[g]?=some (.cells cs t (0,0))→Below W.heap.size W w1→wpList P ops Q rest (a.put o.dst (.pointer (some ⟨g,0,none⟩))) w1) (hgd:o.guard=none:=by rfl) (hrun:(execOp a.eval o).run P W=.ok (.value (.pointer (some ⟨W.heap.size,0,none⟩))) (W.alloc (.cells cs t (0,0))):=by first|(go_simp;done)|(go_simp;rfl)):wpList P ops Q (o :: rest) a W:=Kd.event_run hgd hrun (h _ rfl _ (blk_new W _) (below_alloc (Below.refl _ _) _))
end
end Go.Proofs.YthdnodmidbcgpaaGreatDoor.QR
