/- slices.Sort and slices.Compact at []int, as the printed functions tell a row of the call's own: the library's contracts, turned. No conditions. -/
import Derived.Test.YthdnodmidbcgpaaX
import Derived.Test.YthdnodmidbcgpaaShelf
namespace Go.Proofs.Ythdnodmidbcgpaa.XSort
open Go.RowKit Go.Sort Go.Proofs.YthdnodmidbcgpaaW.PrintWords
theorem grown_put (w:World) (blk n:Nat) (d:Array Int) (os:Array Obj):w.grownBy (grow (putRow (Value.int .i64) (Sort.ahead w n) blk 0 d) os) (some blk):=by
 refine ⟨rfl,rfl,rfl,?_,fun k hk hne=>?_⟩
 ·simp [grow,putRow,mapBlock,Sort.ahead]
 ·have hs:k < (putRow (Value.int .i64) (Sort.ahead w n) blk 0 d).heap.size:=by simp [putRow,mapBlock,Sort.ahead];omega
  have hb:blk≠k:=fun e=>hne (by rw [e])
  simp only [grow];rw [Array.getElem?_append_left hs]
  simp [putRow,mapBlock,Sort.ahead,Array.getElem?_modify,hb]
theorem holds_of {w:World} {base:Nat} {ok:Nat→Prop} {g n cap:Nat} {l:List Int} (h:(Kd.int .i64).R 3 w base ok (.slice (some ⟨g,0,none⟩) n cap) l):Holds (Value.int .i64) w g 0 l.toArray:=by
 intro j hj;have hn:=(Kd.R_reads' h).1;have hj2:j < l.length:=by simpa using hj
 obtain ⟨h1,h2⟩:=Kd.R_celln 0 h (j:Int) (by omega) (by omega);simp only [Int.toNat_natCast] at h1 h2;refine ⟨?_,by simpa using h2⟩;rw [Nat.zero_add,h1]
 congr 2
 unfold rdOf
 simp [List.getD_eq_getElem?_getD,hj2]
theorem R_putRow {w:World} {base:Nat} {ok:Nat→Prop} {g n cap:Nat} {l d:List Int} (h:(Kd.int .i64).R 3 w base ok (.slice (some ⟨g,0,none⟩) n cap) l) (hd:d.length=l.length) (m:Nat) (hm:m≤l.length) (q:Nat) (os:Array Obj) :
  (Kd.int .i64).R 3 (grow (putRow (Value.int .i64) (Sort.ahead w q) g 0 d.toArray) os) base ok (.slice (some ⟨g,0,none⟩) m cap) (d.take m):=by
 have hn:=(Kd.R_reads' h).1;obtain ⟨h0,inner,⟨ho1,ho2⟩,hr⟩:=h
 rcases ho2 with ⟨hv,_⟩|⟨g',cap',cur,hv,hb,hg,hl,hc,hs,ht⟩
 ·cases hv
 injection hv with hv1 hv2 hv3
 injection hv1 with hv1
 injection hv1 with hv1 _ _
 subst hv1;subst hv3
 have hglt:g < w.heap.size:=by
  rcases Nat.lt_or_ge g w.heap.size with hlt|hge
  ·exact hlt
  ·rw [Array.getElem?_eq_none hge] at hg;cases hg
 refine Kd.R_of_own (enc:=Value.int .i64) (h1:=fun _=>rfl) ?_ (fun k hk=>h0 k (by simpa [Value.ownBlock] using hk));have htl:(d.take m).length=m:=by rw [List.length_take];omega
 rw [htl];have hs:cur.size=cap:=hs.trans (Nat.mul_one cap);refine ⟨by rw [encs_length,htl,Nat.mul_one],.inr ⟨g,cap,putCells (Value.int .i64) 0 d.toArray cur,rfl,hb,?_,by omega,hc,by rw [Nat.mul_one,← hs];simp [putCells],?_⟩⟩
 ·have hs2:g < (putRow (Value.int .i64) (Sort.ahead w q) g 0 d.toArray).heap.size:=by simp [putRow,mapBlock,Sort.ahead];exact hglt
  simp only [grow];rw [Array.getElem?_append_left hs2]
  simp [putRow,mapBlock,Sort.ahead,Array.getElem?_modify,hg,onCells]
 ·apply List.ext_getElem?
  intro j;simp only [List.getElem?_take,Nat.mul_one,encs,List.getElem?_map]
  by_cases hj:j < m
  ·rw [if_pos hj,if_pos hj,Array.getElem?_toList]
   have hjd:j < d.length:=by omega
   have hjc:j < cur.size:=by rw [hs];omega
   simp [putCells,Array.getElem?_mapIdx,Array.getElem?_eq_getElem hjc,hjd]
  ·rw [if_neg hj,if_neg hj]
   rfl
theorem below_put {w0 w w':World} {g:Nat} (hB:Below w0.heap.size w0 w) (hg:w.grownBy w' (some g)) (hge:w0.heap.size≤g):Below w0.heap.size w0 w' :=
 ⟨hg.os.trans hB.os,hg.tape.trans hB.tape,hg.output.trans hB.output,Nat.le_trans hB.size hg.size,fun k hk=>(hg.block k (Nat.lt_of_lt_of_le hk hB.size) (fun e=>by injection e with e;omega)).trans (hB.block k hk)⟩
theorem kept_put {w w':World} {g:Nat} {S:Nat→Prop} (hg:w.grownBy w' (some g)) (hS:S g):Kept w w' S :=
 ⟨hg.size,fun i hi hn=>hg.block i hi (fun e=>by injection e with e;subst e;exact hn hS)⟩
theorem sort_calls (P0_:Nat→Prop) (u:Value) (l:List Int) (w0 w:World) (hB:Below w0.heap.size w0 w) (ho0:Kd.R (Kd.int .i64) 3 w w0.heap.size P0_ u l) (hlen:l.length < 4611686018427387904) :
  Calls Try.prog 75 #[u] w fun e w'=>e=.returned (.tuple #[])∧Kd.R (Kd.int .i64) 3 w' w0.heap.size (fun k_=>(P0_ k_∨w.heap.size≤k_)) u (l.mergeSort fun x y=>decide (x≤y))∧Below w0.heap.size w0 w'∧Kept w w' (fun k_=>P0_ k_):=by
 have ho:=Kd.R_mono (ok':=fun k_=>(P0_ k_∨w.heap.size≤k_)) ho0 (fun k hk => .inl hk)
 by_cases hp:0 < l.length
 ·obtain ⟨g,cap,rfl,hb,hlt,cells,hc⟩:=Kd.R_form ho hp
  refine (Try.slices_Sort_int g 0 cap l w (holds_of ho) hlt hlen).mono ?_;rintro e w' ⟨rfl,n,os,rfl⟩;have hg:=grown_put w g n (l.mergeSort fun x y=>decide (x≤y)).toArray os;refine ⟨rfl,?_,below_put hB hg hb,kept_put hg (ho0.1 g rfl)⟩;have h:=R_putRow ho (d:=l.mergeSort fun x y=>decide (x≤y)) (List.length_mergeSort l) l.length (Nat.le_refl _) n os;rw [List.take_of_length_le (by rw [List.length_mergeSort];exact Nat.le_refl _)] at h;exact h
 ·have hl:l=[]:=List.eq_nil_of_length_eq_zero (by omega)
  subst hl;obtain ⟨A,c,rfl⟩:=Kd.R_slice ho;refine (Try.slices_Sort_int_none A c w).mono ?_;rintro e w' ⟨rfl,rfl⟩;exact ⟨rfl,by rw [List.mergeSort_nil];exact ho,hB,Kept.refl _ _⟩
theorem compact_length (l:List Int):(Lib.compact l).length≤l.length:=by
 unfold Lib.compact Lib.compactUpTo
 rw [List.length_map];refine Nat.le_trans (List.length_filter_le _ _) ?_;rw [List.length_range];exact Nat.le_refl _
theorem compact_calls (P0_:Nat→Prop) (u:Value) (l:List Int) (w0 w:World) (hB:Below w0.heap.size w0 w) (ho0:Kd.R (Kd.int .i64) 3 w w0.heap.size P0_ u l) :
  Calls Try.prog 76 #[u] w fun e w' => ∃ Ab:Value,e=.returned (Ab)∧Kd.R (Kd.int .i64) 3 w' w0.heap.size (fun k_=>(P0_ k_∨w.heap.size≤k_)) Ab (Lib.compact l)∧Below w0.heap.size w0 w'∧Kept w w' (fun k_=>P0_ k_):=by
 have ho:=Kd.R_mono (ok':=fun k_=>(P0_ k_∨w.heap.size≤k_)) ho0 (fun k hk => .inl hk)
 by_cases hp:0 < l.length
 ·obtain ⟨g,cap,rfl,hb,hlt,cells,hc⟩:=Kd.R_form ho hp
  have hl:l.length≤maxLen∧l.length≤cap:=by
   obtain ⟨_,inner,⟨_,ho2⟩,_⟩:=ho
   rcases ho2 with ⟨_,hz⟩|⟨_,_,_,hv,_,_,h1,h2,_⟩
   ·omega
   ·injection hv with _ _ hv
    omega
  have hcl:=compact_length l;refine (Try.slices_Compact_int g 0 cap l w (holds_of ho) (by have:=hl.1;unfold maxLen at this;omega) hl.2).mono ?_;rintro e w' ⟨rfl,n,rfl⟩;have hg:=grown_put w g n (Lib.compact l ++ List.replicate (l.length - (Lib.compact l).length) 0).toArray #[];have h:=R_putRow ho (d:=Lib.compact l ++ List.replicate (l.length - (Lib.compact l).length) 0) (by rw [List.length_append,List.length_replicate];omega) (Lib.compact l).length hcl n #[];rw [List.take_left] at h;rw [grow_empty] at hg h;exact ⟨_,rfl,h,below_put hB hg hb,kept_put hg (ho0.1 g rfl)⟩
 ·have hl:l=[]:=List.eq_nil_of_length_eq_zero (by omega)
  subst hl;obtain ⟨A,c,rfl⟩:=Kd.R_slice ho;refine (Try.slices_Compact_int_empty A c w).mono ?_;rintro e w' ⟨rfl,rfl⟩;exact ⟨_,rfl,ho,hB,Kept.refl _ _⟩
end Go.Proofs.Ythdnodmidbcgpaa.XSort
