/- strconv.Itoa and strings.Join, as the printed functions tell them: the library's contracts, turned; the table that Itoa reads is handed from world to world. No conditions. -/
import Derived.Test.YthdnodmidbcgpaaGreatDoorX
import Derived.Test.YthdnodmidbcgpaaGreatDoorShelf
import Derived.Lib.AppendIntMem
namespace Go.Proofs.YthdnodmidbcgpaaGreatDoor.XText
open Go.RowKit Go.Proofs.YthdnodmidbcgpaaGreatDoorW.PrintWords
def T1 (w:World):Prop:=Lib.TabIs Tryz.prog w "internal/strconv.uint64pow10" .u64 Lib.pow10Tab
theorem T1.on {w w':World} (h:T1 w) (hb:Below w.heap.size w w'):T1 w':=Lib.tabBelow_of_tabIs h w' hb
theorem T1_of {W:World} {rest:List (String × DataW Unit)} (h:laidMet Tryz.prog (("internal/strconv.uint64pow10", Lib.tabData .u64 Lib.pow10Tab) :: rest) W):T1 W :=
 Lib.tabIs_of_head (g:=1) (t:=120) (e:=53) (n:=20) (by kernel_rfl) (by kernel_rfl) Tryz.underlying120 Tryz.underlying53 (by kernel_rfl) (by kernel_rfl) h
theorem below_grown (w:World) (k:Nat) (os:Array Obj):Below w.heap.size w (Go.Sort.grow (w.drewN k) os):=by
 refine ⟨rfl,rfl,rfl,?_,fun i hi=>?_⟩
 ·show w.heap.size≤(w.heap ++ os).size
  rw [Array.size_append]
  omega
 ·show (w.heap ++ os)[i]?=w.heap[i]?
  rw [Array.getElem?_append_left hi]
theorem itoa_calls (n:Int) (w:World) (h0 : -9223372036854775808≤n) (h1:n≤9223372036854775807) (hT:T1 w) :
  Calls Tryz.prog 73 #[.int .i64 n] w fun e w'=>e=.returned (.string (⟨(Lib.itoa n).toArray⟩:ByteArray))∧Below w.heap.size w w':=by
 refine (Tryz.strconv_Itoa n h0 h1 w hT).mono ?_
 rintro e w' ⟨rfl,k,os,rfl⟩
 exact ⟨rfl,below_grown w k os⟩
theorem join_calls (P0_:Nat→Prop) (u:Value) (l:List ByteArray) (sep:ByteArray) (w0 w:World) (hB:Below w0.heap.size w0 w) (ho0:Kd.R Kd.string 9 w w0.heap.size P0_ u l) (hN:l.length≤140737488355328) (hlen:(Lib.join (l.map (·.data.toList)) sep.data.toList).length≤140737488355328) :
  Calls Tryz.prog 85 #[u,.string sep] w fun e w'=>e=.returned (.string (⟨(Lib.join (l.map (·.data.toList)) sep.data.toList).toArray⟩:ByteArray))∧Kd.R Kd.string 9 w' w0.heap.size (fun k_=>(P0_ k_∨w.heap.size≤k_)) u l∧Below w0.heap.size w0 w'∧Kept w w' (fun k_=>P0_ k_):=by
 have ho:=Kd.R_mono (ok':=fun k_=>(P0_ k_∨w.heap.size≤k_)) ho0 (fun k hk => .inl hk)
 by_cases hp:0 < l.length
 ·obtain ⟨g,cap,rfl,hb,hlt,cells,hc⟩:=Kd.R_form ho hp
  obtain ⟨_,hcap,hC⟩:=Kd.R_reads' ho
  have hR:=Kd.reads_of_C (d:=ByteArray.empty) hC
  obtain ⟨ad,he,hcell⟩:=hR.2.2 hp
  injection he with he
  subst he
  refine (Tryz.strings_Join g 0 cap l sep w (fun j x hj=>?_) hlt hN hcap hlen).mono ?_
  ·have hjl:j < l.length:=(List.getElem?_eq_some_iff.1 hj).1
   have h:=hcell j hjl
   have e:(Addr.add ⟨g,0,none⟩ j)=⟨g,0+j,none⟩:=by
    unfold Addr.add
    split
    ·next h=>subst h;rfl
    ·rfl
   rw [e] at h
   rw [h,List.getD_eq_getElem?_getD,hj]
   rfl
  ·rintro e w' ⟨rfl,hb2⟩
   exact ⟨rfl,Kd.R_below ho hb2,below_step hB hb2,⟨hb2.size,fun i hi hn=>hb2.block i hi⟩⟩
 ·obtain rfl:l=[]:=List.eq_nil_of_length_eq_zero (by omega)
  obtain ⟨A,c,rfl⟩:=Kd.R_slice ho
  refine (Tryz.strings_Join_none A c sep w).mono ?_
  rintro e w' ⟨rfl,rfl⟩
  exact ⟨rfl,ho,hB,Kept.refl _ _⟩
end Go.Proofs.YthdnodmidbcgpaaGreatDoor.XText
