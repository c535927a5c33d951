/- Fractions in lowest terms: plain facts on whole numbers. -/
namespace Go.Proofs.YthdnodmidbcgpaaGreatDoor.Plain
def gg (n d:Int):Int:=(Int.gcd n d:Int)
def lo (n d:Int):Int × Int:=(n / gg n d,d / gg n d)
theorem gg_l (n d:Int):gg n d ∣ n:=Int.gcd_dvd_left n d
theorem gg_r (n d:Int):gg n d ∣ d:=Int.gcd_dvd_right n d
theorem gg_pos {n d:Int} (hd:0 < d):0 < gg n d:=by
 unfold gg
 have:0 < Int.gcd n d:=Int.gcd_pos_iff.2 (.inr (by omega))
 omega
theorem gg_comm (n d:Int):gg n d=gg d n:=by unfold gg;rw [Int.gcd_comm]
theorem lo_l (n d:Int):(lo n d).1*gg n d=n:=Int.ediv_mul_cancel (gg_l n d)
theorem lo_r (n d:Int):(lo n d).2*gg n d=d:=Int.ediv_mul_cancel (gg_r n d)
theorem pos_of_mul_pos {a b:Int} (hb:0 < b) (h:0 < a*b):0 < a:=by
 by_cases ha:0 < a
 ·exact ha
 ·exact absurd (Int.mul_nonpos_of_nonpos_of_nonneg (Int.not_lt.1 ha) (Int.le_of_lt hb)) (by omega)
theorem nonneg_of_mul {a b:Int} (hb:0 < b) (h:0≤a*b):0≤a:=by
 by_cases ha:0≤a
 ·exact ha
 ·exact absurd (Int.mul_neg_of_neg_of_pos (Int.not_le.1 ha) hb) (by omega)
theorem lo_pos (n:Int) {d:Int} (hd:0 < d):0 < (lo n d).2 :=
 pos_of_mul_pos (gg_pos (n:=n) hd) (by rw [lo_r];exact hd)
theorem lo_nonneg {n d:Int} (hd:0 < d) (hn:0≤n):0≤(lo n d).1 :=
 nonneg_of_mul (gg_pos (n:=n) hd) (by rw [lo_l];exact hn)
theorem lo_cross (n d:Int):(lo n d).1*d=n*(lo n d).2:=by
 have h1:=lo_l n d
 have h2:=lo_r n d
 generalize (lo n d).1=a at *
 generalize (lo n d).2=b at *
 generalize gg n d=g at *
 subst h1
 rw [← h2]
 rw [Int.mul_assoc,Int.mul_comm b g]
theorem le_mul_pos {a g:Int} (ha:0≤a) (hg:0 < g):a≤a*g:=by
 have:=Int.mul_le_mul_of_nonneg_left (show (1:Int)≤g by omega) ha
 omega
theorem lo_le2 (n:Int) {d:Int} (hd:0 < d):(lo n d).2≤d:=by
 have h:=le_mul_pos (Int.le_of_lt (lo_pos n hd)) (gg_pos (n:=n) hd)
 rw [lo_r] at h
 exact h
theorem lo_le1 {n d:Int} (hd:0 < d) (hn:0≤n):(lo n d).1≤n:=by
 have h:=le_mul_pos (lo_nonneg hd hn) (gg_pos (n:=n) hd)
 rw [lo_l] at h
 exact h
theorem gg_mul (n d k:Int) (hk:0≤k):gg (n*k) (d*k)=gg n d*k:=by
 unfold gg
 rw [Int.gcd_mul_right]
 rw [Int.natCast_mul,Int.natAbs_of_nonneg hk]
theorem lo_gcd (n:Int) {d:Int} (hd:0 < d):gg (lo n d).1 (lo n d).2=1:=by
 have h0:=gg_pos (n:=n) hd
 have h:=gg_mul (lo n d).1 (lo n d).2 (gg n d) (Int.le_of_lt h0)
 rw [lo_l,lo_r] at h
 have h2:1*gg n d=gg (lo n d).1 (lo n d).2*gg n d:=by omega
 exact (Int.eq_of_mul_eq_mul_right (Int.ne_of_gt h0) h2).symm
theorem gg_step {a b:Int} (ha:0≤a) (hb:0 < b):gg b (a.tmod b)=gg a b∧0≤a.tmod b∧a.tmod b < b:=by
 rw [Int.tmod_eq_emod_of_nonneg ha]
 refine ⟨?_,Int.emod_nonneg a (by omega),Int.emod_lt_of_pos a hb⟩
 obtain ⟨a,rfl⟩:=Int.eq_ofNat_of_zero_le ha
 obtain ⟨b,rfl⟩:=Int.eq_ofNat_of_zero_le (Int.le_of_lt hb)
 unfold gg
 have e:((a:Int) % (b:Int))=((a % b:Nat):Int):=by simp
 rw [e]
 simp only [Int.gcd,Int.natAbs_natCast]
 rw [Nat.gcd_comm a b,Nat.gcd_comm b (a % b),← Nat.gcd_rec b a]
theorem gg_zero {a:Int} (ha:0≤a):gg a 0=a:=by
 unfold gg
 simp
 omega
theorem gg_abs (n d:Int):gg (if n < -n then -n else n) d=gg n d:=by
 split
 ·unfold gg;rw [Int.neg_gcd]
 ·rfl
theorem lo_bd1 {n d M:Int} (hd:0 < d) (h1 : -M≤n) (h2:n≤M) : -M≤(lo n d).1∧(lo n d).1≤M:=by
 by_cases hn:0≤n
 ·have a:=lo_nonneg hd hn
  have b:=lo_le1 hd hn
  omega
 ·have g:=gg_pos (n:=n) hd
  have e:=lo_l n d
  by_cases ha:0≤(lo n d).1
  ·exact absurd (Int.mul_nonneg ha (Int.le_of_lt g)) (by omega)
  ·have:=Int.mul_le_mul_of_nonpos_left (a:=(lo n d).1) (by omega) (show (1:Int)≤gg n d by omega)
   omega
theorem mul_bd {a b A B:Int} (ha:0≤a) (hA:a≤A) (hb:0≤b) (hB:b≤B):0≤a*b∧a*b≤A*B :=
 ⟨Int.mul_nonneg ha hb,Int.le_trans (Int.mul_le_mul_of_nonneg_right hA hb) (Int.mul_le_mul_of_nonneg_left hB (Int.le_trans ha hA))⟩
theorem downI {P:Int→Prop} {n:Int} (hn:P n) (hs:∀ i,0≤i→i < n→P (i+1)→P i):∀ i,0≤i→i≤n→P i:=by
 intro i h0 h1
 obtain ⟨d,hd⟩:∃ d:Nat,n - i=d:=⟨(n - i).toNat,by omega⟩
 induction d generalizing i with
 | zero=>rw [show i=n by omega];exact hn
 | succ d ih=>exact hs i h0 (by omega) (ih (i+1) (by omega) (by omega) (by omega))
theorem drop_get {α:Type} (xs:List α) (z:α) (i:Int) (h0:0≤i) (h:i < (xs.length:Int)):xs.drop i.toNat=xs.getD i.toNat z :: xs.drop (i+1).toNat:=by
 have hl:i.toNat < xs.length:=by omega
 rw [List.drop_eq_getElem_cons hl,List.getD_eq_getElem?_getD,List.getElem?_eq_getElem hl,show (i+1).toNat=i.toNat+1 by omega]
 rfl
theorem take_get {α:Type} (xs:List α) (z:α) (i:Int) (h0:0≤i) (h:i < (xs.length:Int)):xs.take (i+1).toNat=xs.take i.toNat ++ [xs.getD i.toNat z]:=by
 have hl:i.toNat < xs.length:=by omega
 rw [show (i+1).toNat=i.toNat+1 by omega,List.take_succ_eq_append_getElem hl,List.getD_eq_getElem?_getD,List.getElem?_eq_getElem hl]
 rfl
theorem get_mem {α:Type} (xs:List α) (z:α) (i:Int) (h0:0≤i) (h:i < (xs.length:Int)):xs.getD i.toNat z∈xs:=by
 have hl:i.toNat < xs.length:=by omega
 rw [List.getD_eq_getElem?_getD,List.getElem?_eq_getElem hl]
 exact List.getElem_mem hl
theorem downA {P:Int→Prop} {a n:Int} (hn:P n) (hs:∀ i,a≤i→i < n→P (i+1)→P i):∀ i,a≤i→i≤n→P i:=by
 intro i h0 h1
 obtain ⟨d,hd⟩:∃ d:Nat,n - i=d:=⟨(n - i).toNat,by omega⟩
 induction d generalizing i with
 | zero=>rw [show i=n by omega];exact hn
 | succ d ih=>exact hs i h0 (by omega) (ih (i+1) (by omega) (by omega) (by omega))
noncomputable def dec (p:Prop):Bool:=@decide p (Classical.propDecidable p)
theorem dec_iff {p:Prop}:dec p=true↔p:=by unfold dec;exact @decide_eq_true_iff p (Classical.propDecidable p)
theorem dec_of {p:Prop} {b:Bool} (h:b=true↔p):b=dec p:=by
 cases b with
 | true=>exact (dec_iff.2 (h.1 rfl)).symm
 | false =>
  cases h2:dec p with
  | true=>exact absurd (h.2 (dec_iff.1 h2)) (by simp)
  | false=>rfl
theorem dec_true {p:Prop} (h:p):dec p=true:=dec_iff.2 h
theorem dec_false {p:Prop} (h:¬ p):dec p=false:=by
 cases h2:dec p with
 | true=>exact absurd (dec_iff.1 h2) h
 | false=>rfl
theorem mul_le_r {a b c:Int} (hc:0≤c) (h:a≤b):a*c≤b*c:=Int.mul_le_mul_of_nonneg_right h hc
end Go.Proofs.YthdnodmidbcgpaaGreatDoor.Plain
