/- Fractions in lowest terms: plain facts on whole numbers. -/
namespace Go.Proofs.Ythdnodmidbcgpaa.Plain
def gg (n d:Int):Int:=(Int.gcd n d:Int)
def lo (n d:Int):Int × Int:=(n / gg n d,d / gg n d)
theorem mul_bd {a b A B:Int} (ha:0≤a) (hA:a≤A) (hb:0≤b) (hB:b≤B):0≤a*b∧a*b≤A*B :=
 ⟨Int.mul_nonneg ha hb,Int.le_trans (Int.mul_le_mul_of_nonneg_right hA hb) (Int.mul_le_mul_of_nonneg_left hB (Int.le_trans ha hA))⟩
theorem downI {P:Int→Prop} {n:Int} (hn:P n) (hs:∀ i,0≤i→i < n→P (i+1)→P i):∀ i,0≤i→i≤n→P i:=by
 intro i h0 h1
 obtain ⟨d,hd⟩:∃ d:Nat,n - i=d:=⟨(n - i).toNat,by omega⟩
 induction d generalizing i with
 | zero=>rw [show i=n by omega];exact hn
 | succ d ih=>exact hs i h0 (by omega) (ih (i+1) (by omega) (by omega) (by omega))
theorem drop_get {α:Type} (xs:List α) (z:α) (i:Int) (h0:0≤i) (h:i < (xs.length:Int)):xs.drop i.toNat=xs.getD i.toNat z :: xs.drop (i+1).toNat:=by
 have hl:i.toNat < xs.length:=by omega
 rw [List.drop_eq_getElem_cons hl,List.getD_eq_getElem?_getD,List.getElem?_eq_getElem hl,show (i+1).toNat=i.toNat+1 by omega]
 rfl
theorem take_get {α:Type} (xs:List α) (z:α) (i:Int) (h0:0≤i) (h:i < (xs.length:Int)):xs.take (i+1).toNat=xs.take i.toNat ++ [xs.getD i.toNat z]:=by
 have hl:i.toNat < xs.length:=by omega
 rw [show (i+1).toNat=i.toNat+1 by omega,List.take_succ_eq_append_getElem hl,List.getD_eq_getElem?_getD,List.getElem?_eq_getElem hl]
 rfl
theorem get_mem {α:Type} (xs:List α) (z:α) (i:Int) (h0:0≤i) (h:i < (xs.length:Int)):xs.getD i.toNat z∈xs:=by
 have hl:i.toNat < xs.length:=by omega
 rw [List.getD_eq_getElem?_getD,List.getElem?_eq_getElem hl];exact List.getElem_mem hl
theorem downA {P:Int→Prop} {a n:Int} (hn:P n) (hs:∀ i,a≤i→i < n→P (i+1)→P i):∀ i,a≤i→i≤n→P i:=by
 intro i h0 h1
 obtain ⟨d,hd⟩:∃ d:Nat,n - i=d:=⟨(n - i).toNat,by omega⟩
 induction d generalizing i with
 | zero=>rw [show i=n by omega];exact hn
 | succ d ih=>exact hs i h0 (by omega) (ih (i+1) (by omega) (by omega) (by omega))
noncomputable def dec (p:Prop):Bool:=@decide p (Classical.propDecidable p)
theorem dec_iff {p:Prop}:dec p=true↔p:=by unfold dec;exact @decide_eq_true_iff p (Classical.propDecidable p)
theorem dec_of {p:Prop} {b:Bool} (h:b=true↔p):b=dec p:=by
 cases b with
 | true=>exact (dec_iff.2 (h.1 rfl)).symm
 | false =>
  cases h2:dec p with
  | true=>exact absurd (h.2 (dec_iff.1 h2)) (by simp)
  | false=>rfl
theorem dec_true {p:Prop} (h:p):dec p=true:=dec_iff.2 h
theorem dec_false {p:Prop} (h:¬ p):dec p=false:=by
 cases h2:dec p with
 | true=>exact absurd (dec_iff.1 h2) h
 | false=>rfl
theorem mul_le_r {a b c:Int} (hc:0≤c) (h:a≤b):a*c≤b*c:=Int.mul_le_mul_of_nonneg_right h hc
end Go.Proofs.Ythdnodmidbcgpaa.Plain
