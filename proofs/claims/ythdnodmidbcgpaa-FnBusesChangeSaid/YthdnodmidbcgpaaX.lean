/- Arguments of a call that can be read as data, told as the values that the printed functions take; and a call of a function value that is known. -/
import Derived.Test.YthdnodmidbcgpaaWMore
import Derived.Deep.Slices
import Derived.ChangeArms
import Derived.WideShapes
import Derived.Lib.SliceRun
import Derived.Laws.EntriesVeiled
set_option linter.unusedVariables false
set_option linter.unusedSimpArgs false
namespace Go.Proofs.Ythdnodmidbcgpaa.X
open Go.RowKit Go.Proofs.YthdnodmidbcgpaaW.PrintWords Go.Proofs.YthdnodmidbcgpaaW.PrintLast Go.Proofs.YthdnodmidbcgpaaW.PrintMore
open Go.Deep
def Opens (P:Program) {α:Type} (d:Kd α) (t:TypeId) (G:α→Prop):Prop :=
 ∀ (H:Type) (enc:TypeId × Value→H) (w:World) (base:Nat) (sp:Nat→Bool) (held:Bool) (fuel:Nat) (cs:List Value) (x:DataW H × List MemPlace),
  DataW.trod enc P w base sp held fuel t cs=some x→∃ a:α,d.K w a cs∧G a
theorem opens_int {P:Program} {t:TypeId} {k:IntKind} (ht:P.underlying t=some (.int k)):Opens P (Kd.int k) t (fun n=>(Lit.int k n).wf=true):=by
 intro H enc w base sp held fuel cs x h;obtain ⟨n,rfl,_,hw⟩:=DataW.trod_int ht h;exact ⟨n,rfl,hw⟩
theorem collect {α:Type} {p:Nat→α→Prop}:∀ n,(∀ i,i < n→∃ a,p i a)→∃ xs:List α,xs.length=n∧∀ i (hi:i < xs.length),p i xs[i]:=by
 intro n
 induction n with
 | zero=>exact fun _=>⟨[],rfl,fun i hi=>absurd hi (by simp)⟩
 | succ n ih =>
  intro key;obtain ⟨xs,hxl,hxs⟩:=ih (fun i hi=>key i (by omega));obtain ⟨a,ha⟩:=key n (by omega);refine ⟨xs ++ [a],by simp [hxl],fun i hi=>?_⟩
  by_cases hlt:i < xs.length
  ·rw [List.getElem_append_left hlt]
   exact hxs i hlt
  ·have hi2:i=xs.length:=by simp at hi;omega
   subst hi2;rw [List.getElem_append_right (Nat.le_refl _)]
   simpa [hxl] using ha
theorem opens_slice {P:Program} {α:Type} {d:Kd α} {t e:TypeId} {G:α→Prop} (ht:P.underlying t=some (.slice e)) (hd:Opens P d e G) (hs:P.cellsOf e=d.sz) :
  Opens P (Kd.slice e d) t (fun l=>l.length≤maxLen∧∀ a,a∈l→G a):=by
 intro H enc w base sp held fuel cs x h
 rcases open_slice ht h with ⟨rfl,_⟩|⟨ad,len,cap,m,n,D,Pl,rfl,_,hl,hm,hmm,_,hx⟩
 ·exact ⟨[],⟨none,0,rfl,Nat.le_refl _,rfl,by simp,fun h=>absurd h (by simp)⟩,by simp [maxLen],by simp⟩
 ·have hlm:len≤m:=by rw [hmm];split <;> omega
  have key:∀ i,i < len→∃ (a:α) (cs':List Value),w.cells? base (ad.add (i*P.cellsOf e)) (P.cellsOf e)=some cs'∧d.K w a cs'∧G a:=by
   intro i hi;obtain ⟨cs',h1,h2⟩:=hx i (by omega);obtain ⟨a,h3,h4⟩:=hd H enc w base sp held n cs' _ h2;exact ⟨a,cs',h1,h3,h4⟩
  obtain ⟨xs,hxl,hxs⟩:=collect len key;refine ⟨xs,⟨some ad,cap,by rw [hxl],by omega,?_⟩,?_,?_⟩
  ·refine ⟨rfl,by rw [hxl];simp only [maxLen] at hm;omega,fun hpos=>⟨ad,rfl,fun j p hp=>?_⟩⟩
   have hj:j < xs.length:=by
    by_cases hj:j < xs.length
    ·exact hj
    ·rw [List.getElem?_eq_none (by omega)] at hp;cases hp
   rw [List.getElem?_eq_getElem hj] at hp;obtain rfl:=Option.some.inj hp;obtain ⟨cs',h1,h2,_⟩:=hxs j hj;obtain ⟨_,hlen,hcell⟩:=World.cells?_some h1;refine ⟨cs',by rw [hlen,hs],h2,fun i u hu=>?_⟩
   have hi:i < cs'.length:=by
    by_cases hi:i < cs'.length
    ·exact hi
    ·rw [List.getElem?_eq_none (by omega)] at hu;cases hu
   have:=hcell i (by omega);rw [hu] at this;rw [← this,Go.Deep.add_add,hs]
  ·rw [hxl];omega
  ·intro a ha
   obtain ⟨i,hi,rfl⟩:=List.getElem_of_mem ha;obtain ⟨_,_,_,h3⟩:=hxs i hi;exact h3
theorem arg_slice {P:Program} {α:Type} {d:Kd α} {t e:TypeId} {G:List α→Prop} (ht:P.underlying t=some (.slice e)) (ho:Opens P (Kd.slice e d) t G) {r:Reach} {b0:Nat} {w:World} {v:Value} (hv:Value.okWide P w r b0 t v)
  {H:Type} {enc:TypeId × Value→H} {base:Nat} {sp:Nat→Bool} {held:Bool} {dd:DataW H} {ps:List MemPlace} (h:DataW.Trod enc P w base sp held t v dd ps) :
  ∃ (A:Option Addr) (c:Nat) (l:List α),v=.slice A l.length c∧Kd.C d w A l.length l∧l.length≤c∧G l:=by
 obtain ⟨a,len,cap,rfl⟩:=Go.WideShapes.okWide_slice ht hv;obtain ⟨fuel,hf⟩:=h;obtain ⟨l,⟨A,c,he,hl,hc⟩,hg⟩:=ho H enc w base sp held fuel _ _ hf;simp only [Value.cells,List.cons.injEq,and_true] at he;exact ⟨A,c,l,he,hc,hl,hg⟩
section
variable {P:Program} {ops:Array Oper} {Q:Exit→Act→World→Prop}
end
end Go.Proofs.Ythdnodmidbcgpaa.X
