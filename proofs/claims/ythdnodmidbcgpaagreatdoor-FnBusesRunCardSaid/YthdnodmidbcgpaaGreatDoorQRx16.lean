import Derived.Test.YthdnodmidbcgpaaGreatDoorQRx7
namespace Go.Proofs.YthdnodmidbcgpaaGreatDoor.QR
open Go.Proofs.YthdnodmidbcgpaaGreatDoor.X Go.RowKit Go.Proofs.YthdnodmidbcgpaaGreatDoorW.PrintWords Go.Proofs.YthdnodmidbcgpaaGreatDoorW.PrintLast Go.Proofs.YthdnodmidbcgpaaGreatDoorW.PrintMore
set_option maxHeartbeats 8000000
set_option maxRecDepth 100000
attribute [local go_sem] max2_int min2_int max_two min_two max_three min_three max_four min_four
set_option linter.unusedVariables false
set_option linter.unusedSimpArgs false
mutual
def spec_l1Cur_spoilt.l0:Nat→ByteArray→ByteArray→Int→List Int→Int→Int→Option (ByteArray × Int × Int)
  | 0,_,_,_,_,_,_=>none
  | k+1,x1,x2,x7,jo,j1e,j1f=>if x7 > 0 then (spec_l1Cur_spoilt.j1 k x1 x2 x7 (decide ((x1.size:Int) > 0)) jo j1e j1f) else (spec_l1Cur_spoilt.j1 k x1 x2 x7 false jo j1e j1f)
def spec_l1Cur_spoilt.j1:Nat→ByteArray→ByteArray→Int→Bool→List Int→Int→Int→Option (ByteArray × Int × Int)
  | 0,_,_,_,_,_,_,_=>none
  | k+1,x1,x2,x7,x19,jo,j1e,j1f=>if x19=true then ((spec_l1Cur_pick.f jo j1e j1f (x1.size:Int)).bind fun bt559=>((spec_l1Cur_pick.f jo bt559.2.1 bt559.2.2 (x2.size:Int)).bind fun bt562=>(if 0≤bt562.1 then (if bt562.1 < (x2.size:Int) then ((some (([bt x2 bt562.1]:List Int):List Int)).bind fun jg=>((spec_l1Cur_pick.f jo bt562.2.1 bt562.2.2 3).bind fun bt568=>(if bt568.1=0 then (if 0≤bt559.1 then (if bt559.1≤(x1.size:Int) then (if (x1.extract 0 (bt559.1:Int).toNat).size+(strOfNums jg).size≤9223372036854775807 then (if ((x1.extract 0 (bt559.1:Int).toNat) ++ (strOfNums jg)).size+(x1.extract (bt559.1:Int).toNat x1.size).size≤9223372036854775807 then (spec_l1Cur_spoilt.l0 k (((x1.extract 0 (bt559.1:Int).toNat) ++ (strOfNums jg)) ++ (x1.extract (bt559.1:Int).toNat x1.size)) x2 (wrap64 (x7 - 1)) jo bt568.2.1 bt568.2.2) else (none)) else (none)) else (none)) else (none)) else (if bt568.1=1 then (if 0≤bt559.1 then (if bt559.1≤(x1.size:Int) then (if (x1.extract 0 (bt559.1:Int).toNat).size+(strOfNums jg).size≤9223372036854775807 then (if 0≤(wrap64 (bt559.1+1)) then (if (wrap64 (bt559.1+1))≤(x1.size:Int) then (if ((x1.extract 0 (bt559.1:Int).toNat) ++ (strOfNums jg)).size+(x1.extract ((wrap64 (bt559.1+1)):Int).toNat x1.size).size≤9223372036854775807 then (spec_l1Cur_spoilt.l0 k (((x1.extract 0 (bt559.1:Int).toNat) ++ (strOfNums jg)) ++ (x1.extract ((wrap64 (bt559.1+1)):Int).toNat x1.size)) x2 (wrap64 (x7 - 1)) jo bt568.2.1 bt568.2.2) else (none)) else (none)) else (none)) else (none)) else (none)) else (none)) else (if 0≤bt559.1 then (if bt559.1≤(x1.size:Int) then (if 0≤(wrap64 (bt559.1+1)) then (if (wrap64 (bt559.1+1))≤(x1.size:Int) then (if (x1.extract 0 (bt559.1:Int).toNat).size+(x1.extract ((wrap64 (bt559.1+1)):Int).toNat x1.size).size≤9223372036854775807 then (spec_l1Cur_spoilt.l0 k ((x1.extract 0 (bt559.1:Int).toNat) ++ (x1.extract ((wrap64 (bt559.1+1)):Int).toNat x1.size)) x2 (wrap64 (x7 - 1)) jo bt568.2.1 bt568.2.2) else (none)) else (none)) else (none)) else (none)) else (none)))))) else (none)) else (none)))) else (some (x1,j1e,j1f))
end
def spec_l1Cur_spoilt.f (k:Nat) (je:List Int) (j1g:Int) (j1h:Int) (a1:ByteArray) (a2:ByteArray):Option (ByteArray × Int × Int):=(spec_l1Cur_pick.f je j1g j1h 2).bind fun bt556=>(spec_l1Cur_spoilt.l0 k a1 a2 (wrap64 (1+bt556.1)) je bt556.2.1 bt556.2.2)
theorem spec_l1Cur_spoilt.calls (k:Nat) (g:Nat) (je:List Int) (j1g:Int) (j1h:Int) (a1:ByteArray) (a2:ByteArray) (r1:ByteArray) (r2:Int) (r3:Int) (w0 w:World) (hI:IsS55 w0 w g je j1g j1h) (hB:Below w0.heap.size w0 w) (h:spec_l1Cur_spoilt.f k je j1g j1h a1 a2=some (r1,r2,r3)) :
    Calls Tryz.prog 67 #[.pointer (some ⟨g,0,none⟩),.string a1,.string a2] w fun e w'=>e=.returned (.string r1)∧IsS55 w0 w' g je r2 r3∧Below w0.heap.size w0 w'∧KeepBut w w' g none:=by
  have HI0:=ai_ hI
  have HK:=ai_ (KeepBut.refl w g none)
  have HL:=ai_ hB.size
  clear hI
  have HW0:=ai_ hB.size
  have HB:=ai_ hB
  clear hB
  have H:=h
  unfold spec_l1Cur_spoilt.f at H
  clear h
  obtain ⟨⟨j1s,j1t,j1u⟩,A4,H⟩:=bs_ H
  (try dsimp only at H)
  have H':=ai_ H
  clear H
  go_enter Tryz.func67,Tryz.ntmps67
  go_wp2_with (first|(go_at_call 58;(with_reducible refine (spec_l1Cur_pick.calls g je j1g j1h 2 j1s j1t j1u w0 _ ?side1 ?side2 A4.out).mono ?_);(case side1=>exact IsS55.to HI0);(case side2=>exact below_to1 HB (IsS55.ge HI0.out));rintro e w5 ⟨rfl,hi,hb,hk⟩;replace HK:=ai_ (KeepBut.trans (keep_to HK) hk (.inl rfl));replace HB:=ai_ (hb);replace HI0:=ai_ (hi);clear hb hk hi))
  repeat (go_quiet (first|(go_at_call 58;(with_reducible refine (spec_l1Cur_pick.calls g je j1g j1h 2 j1s j1t j1u w0 _ ?side1 ?side2 A4.out).mono ?_);(case side1=>exact IsS55.to HI0);(case side2=>exact below_to1 HB (IsS55.ge HI0.out));rintro e w5 ⟨rfl,hi,hb,hk⟩;replace HK:=ai_ (KeepBut.trans (keep_to HK) hk (.inl rfl));replace HB:=ai_ (hb);replace HI0:=ai_ (hi);clear hb hk hi));try go_wp2_with (first|(go_at_call 58;(with_reducible refine (spec_l1Cur_pick.calls g je j1g j1h 2 j1s j1t j1u w0 _ ?side1 ?side2 A4.out).mono ?_);(case side1=>exact IsS55.to HI0);(case side2=>exact below_to1 HB (IsS55.ge HI0.out));rintro e w5 ⟨rfl,hi,hb,hk⟩;replace HK:=ai_ (KeepBut.trans (keep_to HK) hk (.inl rfl));replace HB:=ai_ (hb);replace HI0:=ai_ (hi);clear hb hk hi)))
  go_loopg [1,7] k (fun kq v1 v7 w' => ∃ (ja:ByteArray) (jf:Int) (jh:Int) (ji:Int),v1=.string ja∧v7=.int .i64 jf∧Aside0 (spec_l1Cur_spoilt.l0 kq ja a2 jf je jh ji=some (r1,r2,r3))∧Aside0 (kq≤k)∧Aside0 (IsS55 w0 w' g je jh ji)∧Aside0 (KeepBut w w' g none)∧Aside0 (Below w0.heap.size w0 w'))
  case atStart=>exact ⟨(a1),(wrap64 (1+j1s)),(j1t),(j1u),rt_,rt_,H',⟨Nat.le_refl _⟩,⟨IsS55.tg HI0⟩,⟨keep_to HK⟩,⟨below_to1 HB (IsS55.ge HI0.out)⟩⟩
  clear H'
  try clear p2
  obtain ⟨ja,jf,jh,ji,rfl,rfl,HA,HK1,HI0,HK,HB⟩:=hrel
  cases gk with
  | zero=>exact absurd HA.out (by simp [spec_l1Cur_spoilt.l0])
  | succ k1 =>
    have H:=HA.out
    clear HA
    simp only [spec_l1Cur_spoilt.l0] at H
    have HC6:=ai_ H
    clear H
    go_upto_region 2 with (fail)
    repeat (go_quiet (fail);go_upto_region 2 with (fail))
    go_cut [19] (fun v19 wc => ∃ (kq:Nat) (j1j:Bool),v19=.bool j1j∧Aside0 (spec_l1Cur_spoilt.j1 kq ja a2 jf j1j je jh ji=some (r1,r2,r3))∧Aside0 (kq≤k1)∧Aside0 (IsS55 w0 wc g je jh ji)∧Aside0 (KeepBut w wc g none)∧Aside0 (Below w0.heap.size w0 wc))
    case first =>
      have H:=HC6.out
      clear HC6
      by_cases c7:jf > 0
      · rw [if_pos c7] at H
        have jv:=decide_eq_true c7
        clear c7
        (first|rw [jv]|(simp only [i64_w,i32_w];rw [jv])|skip)
        have H':=ai_ H
        clear H
        go_wp2
        repeat (go_quiet (fail);try go_wp2)
        go_meet
        case rel=>exact ⟨_,(decide ((ja.size:Int) > 0)),rt_,H',⟨by have:=HK1.out;first|omega|exact Nat.le_refl _⟩,⟨IsS55.tg HI0⟩,⟨keep_to HK⟩,⟨below_to1 HB (IsS55.ge HI0.out)⟩⟩
      · rw [if_neg c7] at H
        have jv:=decide_eq_false c7
        clear c7
        (first|rw [jv]|(simp only [i64_w,i32_w];rw [jv])|skip)
        have H':=ai_ H
        clear H
        go_wp2
        repeat (go_quiet (fail);try go_wp2)
        go_meet
        case rel=>exact ⟨_,(false),rt_,H',⟨by have:=HK1.out;first|omega|exact Nat.le_refl _⟩,⟨IsS55.tg HI0⟩,⟨keep_to HK⟩,⟨below_to1 HB (IsS55.ge HI0.out)⟩⟩
    clear HC6
    try clear p2
    try clear c6
    try clear p6
    try clear c7
    try clear jv
    try clear p2
    obtain ⟨kq,j1j,rfl,HA,HJ5,HI0,HK,HB⟩:=hcut
    cases kq with
    | zero=>exact absurd HA.out (by simp [spec_l1Cur_spoilt.j1])
    | succ kj5 =>
      have H:=HA.out
      clear HA
      simp only [spec_l1Cur_spoilt.j1] at H
      by_cases c8:j1j=true
      rotate_left
      · replace c8:=Bool.eq_false_iff.mpr c8
        subst c8
        rw [if_neg ft_] at H
        simp only [Option.some.injEq,Prod.mk.injEq] at H
        obtain ⟨rfl,rfl,rfl⟩:=H
        go_wp2
        repeat (go_quiet (fail);try go_wp2)
        go_ret
        exact ⟨rtE_,IsS55.tg HI0,below_to1 HB (IsS55.ge HI0.out),by repeat (first|(with_reducible first|exact HK.out|apply KeepBut.set_|apply keep_drewN|apply keep_drew|apply keep_alloc)|exact HK.out)⟩
      subst c8
      rw [if_pos rfl] at H
      obtain ⟨⟨jb,js,jt⟩,A9,H⟩:=bs_ H
      (try dsimp only at H)
      obtain ⟨⟨jc,jm,jn⟩,A10,H⟩:=bs_ H
      (try dsimp only at H)
      by_cases c11:0≤jc
      rotate_left
      · rw [if_neg c11] at H
        cases H
      rw [if_pos c11] at H
      have j3f:=decide_eq_true c11
      clear c11
      by_cases c12:jc < (a2.size:Int)
      rotate_left
      · rw [if_neg c12] at H
        cases H
      rw [if_pos c12] at H
      have j1p:=decide_eq_true c12
      clear c12
      obtain ⟨jg,hy565⟩:∃ y_:List Int,y_=(([bt a2 jc]:List Int)):=⟨_,rfl⟩
      replace H:((spec_l1Cur_pick.f je jm jn 3).bind fun bt568=>(if bt568.1=0 then (if 0≤jb then (if jb≤(ja.size:Int) then (if (ja.extract 0 (jb:Int).toNat).size+(strOfNums jg).size≤9223372036854775807 then (if ((ja.extract 0 (jb:Int).toNat) ++ (strOfNums jg)).size+(ja.extract (jb:Int).toNat ja.size).size≤9223372036854775807 then (spec_l1Cur_spoilt.l0 kj5 (((ja.extract 0 (jb:Int).toNat) ++ (strOfNums jg)) ++ (ja.extract (jb:Int).toNat ja.size)) a2 (wrap64 (jf - 1)) je bt568.2.1 bt568.2.2) else (none)) else (none)) else (none)) else (none)) else (if bt568.1=1 then (if 0≤jb then (if jb≤(ja.size:Int) then (if (ja.extract 0 (jb:Int).toNat).size+(strOfNums jg).size≤9223372036854775807 then (if 0≤(wrap64 (jb+1)) then (if (wrap64 (jb+1))≤(ja.size:Int) then (if ((ja.extract 0 (jb:Int).toNat) ++ (strOfNums jg)).size+(ja.extract ((wrap64 (jb+1)):Int).toNat ja.size).size≤9223372036854775807 then (spec_l1Cur_spoilt.l0 kj5 (((ja.extract 0 (jb:Int).toNat) ++ (strOfNums jg)) ++ (ja.extract ((wrap64 (jb+1)):Int).toNat ja.size)) a2 (wrap64 (jf - 1)) je bt568.2.1 bt568.2.2) else (none)) else (none)) else (none)) else (none)) else (none)) else (none)) else (if 0≤jb then (if jb≤(ja.size:Int) then (if 0≤(wrap64 (jb+1)) then (if (wrap64 (jb+1))≤(ja.size:Int) then (if (ja.extract 0 (jb:Int).toNat).size+(ja.extract ((wrap64 (jb+1)):Int).toNat ja.size).size≤9223372036854775807 then (spec_l1Cur_spoilt.l0 kj5 ((ja.extract 0 (jb:Int).toNat) ++ (ja.extract ((wrap64 (jb+1)):Int).toNat ja.size)) a2 (wrap64 (jf - 1)) je bt568.2.1 bt568.2.2) else (none)) else (none)) else (none)) else (none)) else (none)))))=some (r1,r2,r3):=by first|(rw [hy565];with_reducible exact H)|(have H2_:=(Option.bind_some _ _).symm.trans H;rw [hy565];with_reducible exact H2_)|(have H2_:=(Option.bind_some _ _).symm.trans H;with_reducible exact H2_)|with_reducible exact H|(rw [hy565];exact H)|exact H
      have jl:=ai_ hy565
      clear hy565
      obtain ⟨⟨jw,jp,jq⟩,A14,H⟩:=bs_ H
      (try dsimp only at H)
      by_cases c15:jw=0
      · rw [if_pos c15] at H
        have j2e:=beq_iff_eq.mpr c15
        have j2f:=bne_eq_false_iff_eq.mpr c15
        clear c15
        by_cases c16:0≤jb
        rotate_left
        · rw [if_neg c16] at H
          cases H
        rw [if_pos c16] at H
        have j3g:=eq_true c16
        have j3h:=decide_eq_true c16
        clear c16
        by_cases c17:jb≤(ja.size:Int)
        rotate_left
        · rw [if_neg c17] at H
          cases H
        rw [if_pos c17] at H
        have j3i:=eq_true c17
        have j3j:=decide_eq_true c17
        clear c17
        by_cases c18:(ja.extract 0 (jb:Int).toNat).size+(strOfNums jg).size≤9223372036854775807
        rotate_left
        · rw [if_neg c18] at H
          cases H
        rw [if_pos c18] at H
        have j3k:=eq_true c18
        have j3l:=decide_eq_true c18
        try have j3m:(9223372036854775807 < (ja.extract 0 (jb:Int).toNat).size+(strOfNums jg).size)=False:=eq_false (Nat.not_lt.2 c18)
        have j3n:=eq_true (of_decide_eq_true (by first|(with_reducible assumption)|assumption):0≤jb)
        have j3o:=eq_true (of_decide_eq_true (by first|(with_reducible assumption)|assumption):jb≤(ja.size:Int))
        by_cases c21:((ja.extract 0 (jb:Int).toNat) ++ (strOfNums jg)).size+(ja.extract (jb:Int).toNat ja.size).size≤9223372036854775807
        · rw [if_pos c21] at H
          have j3p:=eq_true c21
          have j3q:=decide_eq_true c21
          try have j3r:(9223372036854775807 < ((ja.extract 0 (jb:Int).toNat) ++ (strOfNums jg)).size+(ja.extract (jb:Int).toNat ja.size).size)=False:=eq_false (Nat.not_lt.2 c21)
          have j3s:(9223372036854775807 < (ja.extract 0 (jb:Int).toNat).size+(strOfNums jg).size+(ja.extract (jb:Int).toNat ja.size).size)=False:=eq_false (by have h_:=c21;simp only [ByteArray.size_append] at h_;omega)
          have j3t:decide ((ja.extract 0 (jb:Int).toNat).size+(strOfNums jg).size+(ja.extract (jb:Int).toNat ja.size).size≤9223372036854775807)=true:=decide_eq_true (by have h_:=c21;simp only [ByteArray.size_append] at h_;omega)
          have H':=ai_ H
          clear H
          go_wp2_with (first|(go_at_call 58;(with_reducible refine (spec_l1Cur_pick.calls g je jh ji (ja.size:Int) jb js jt w0 _ ?side1 ?side2 A9.out).mono ?_);(case side1=>exact IsS55.to HI0);(case side2=>exact below_to1 HB (IsS55.ge HI0.out));rintro e w22 ⟨rfl,hi,hb,hk⟩;replace HK:=ai_ (KeepBut.trans (keep_to HK) hk (.inl rfl));replace HB:=ai_ (hb);replace HI0:=ai_ (hi);clear hb hk hi)|(go_at_call 58;(with_reducible refine (spec_l1Cur_pick.calls g je js jt (a2.size:Int) jc jm jn w0 _ ?side1 ?side2 A10.out).mono ?_);(case side1=>exact IsS55.to HI0);(case side2=>exact below_to1 HB (IsS55.ge HI0.out));rintro e w23 ⟨rfl,hi,hb,hk⟩;replace HK:=ai_ (KeepBut.trans (keep_to HK) hk (.inl rfl));replace HB:=ai_ (hb);replace HI0:=ai_ (hi);clear hb hk hi;have p13:0≤(jc:Int):=of_decide_eq_true (by first|(with_reducible assumption)|assumption);have q13:jc < (a2.size:Int):=of_decide_eq_true (by first|(with_reducible assumption)|assumption);have hx13:=bt_at a2 jc;replace p13:=eq_true p13;replace q13:=eq_true q13)|((with_reducible refine gate_dst (N:=32) rfl ?_);(try (refine gate_guard (by rfl) ?_;dsimp only));refine Kd.R_lit (Kd.int .u8) _ 5 ?hg (N:=32) ?hd (xs:=([bt a2 jc]:List Int)) (inner:=[.int .u8 (bt a2 jc)]) (ok:=fun _=>True) (okp:=fun _=>True) ?hr ?hp (fun _ hk=>hk) trivial (Below.refl _ _) (Nat.le_refl _) (by simp) ?_;(case hd=>rfl);(case hg=>rfl);(case hr=>first|(go_simp;done)|(go_simp;rfl));(case hp=>exact (Reps.one (show Kd.M (Kd.int .u8) _ _ _ (bt a2 jc) [.int .u8 (bt a2 jc)] from rfl) (Reps.none _ _)));intro j1q w24 jx hb hg_ hnew_;clear hg_ hnew_;(first|rw [← jl.out] at jx|(simp only [Int.reduceToNat] at jx;rw [← jl.out] at jx));have jd:=ai_ (Kd.R_lower jx (keep_size (w:=w) (g:=g) (row:=none) (keep_to HK)));replace HK:=ai_ (KeepBut.trans (keep_to HK) (KeepBut.of_below hb g none) (.inl rfl));replace HB:=ai_ (below_step (below_to1 HB (IsS55.ge HI0.out)) hb);replace HI0:=ai_ (IsS55.below (IsS55.to HI0) hb);clear hb jx;have hcv26:=own_string (P:=Tryz.prog) Tryz.underlying22 Tryz.underlying5 Tryz.underlying9 (Kd.own_of_R jd.out))|(go_at_call 58;(with_reducible refine (spec_l1Cur_pick.calls g je jm jn 3 jw jp jq w0 _ ?side1 ?side2 A14.out).mono ?_);(case side1=>exact IsS55.to HI0);(case side2=>exact below_to1 HB (IsS55.ge HI0.out));rintro e w27 ⟨rfl,hi,hb,hk⟩;replace jd:=ai_ (Kd.R_mono (Kd.R_keep (IsS55.apart (IsS55.to HI0) (kd_to jd) (by decide)) hk (fun _ h=>h.2)) (fun _ h=>h.1));replace HK:=ai_ (KeepBut.trans (keep_to HK) hk (.inl rfl));replace HB:=ai_ (hb);replace HI0:=ai_ (hi);clear hb hk hi))
          repeat (go_quiet (first|(go_at_call 58;(with_reducible refine (spec_l1Cur_pick.calls g je jh ji (ja.size:Int) jb js jt w0 _ ?side1 ?side2 A9.out).mono ?_);(case side1=>exact IsS55.to HI0);(case side2=>exact below_to1 HB (IsS55.ge HI0.out));rintro e w22 ⟨rfl,hi,hb,hk⟩;replace HK:=ai_ (KeepBut.trans (keep_to HK) hk (.inl rfl));replace HB:=ai_ (hb);replace HI0:=ai_ (hi);clear hb hk hi)|(go_at_call 58;(with_reducible refine (spec_l1Cur_pick.calls g je js jt (a2.size:Int) jc jm jn w0 _ ?side1 ?side2 A10.out).mono ?_);(case side1=>exact IsS55.to HI0);(case side2=>exact below_to1 HB (IsS55.ge HI0.out));rintro e w23 ⟨rfl,hi,hb,hk⟩;replace HK:=ai_ (KeepBut.trans (keep_to HK) hk (.inl rfl));replace HB:=ai_ (hb);replace HI0:=ai_ (hi);clear hb hk hi;have p13:0≤(jc:Int):=of_decide_eq_true (by first|(with_reducible assumption)|assumption);have q13:jc < (a2.size:Int):=of_decide_eq_true (by first|(with_reducible assumption)|assumption);have hx13:=bt_at a2 jc;replace p13:=eq_true p13;replace q13:=eq_true q13)|((with_reducible refine gate_dst (N:=32) rfl ?_);(try (refine gate_guard (by rfl) ?_;dsimp only));refine Kd.R_lit (Kd.int .u8) _ 5 ?hg (N:=32) ?hd (xs:=([bt a2 jc]:List Int)) (inner:=[.int .u8 (bt a2 jc)]) (ok:=fun _=>True) (okp:=fun _=>True) ?hr ?hp (fun _ hk=>hk) trivial (Below.refl _ _) (Nat.le_refl _) (by simp) ?_;(case hd=>rfl);(case hg=>rfl);(case hr=>first|(go_simp;done)|(go_simp;rfl));(case hp=>exact (Reps.one (show Kd.M (Kd.int .u8) _ _ _ (bt a2 jc) [.int .u8 (bt a2 jc)] from rfl) (Reps.none _ _)));intro j1q w24 jx hb hg_ hnew_;clear hg_ hnew_;(first|rw [← jl.out] at jx|(simp only [Int.reduceToNat] at jx;rw [← jl.out] at jx));have jd:=ai_ (Kd.R_lower jx (keep_size (w:=w) (g:=g) (row:=none) (keep_to HK)));replace HK:=ai_ (KeepBut.trans (keep_to HK) (KeepBut.of_below hb g none) (.inl rfl));replace HB:=ai_ (below_step (below_to1 HB (IsS55.ge HI0.out)) hb);replace HI0:=ai_ (IsS55.below (IsS55.to HI0) hb);clear hb jx;have hcv26:=own_string (P:=Tryz.prog) Tryz.underlying22 Tryz.underlying5 Tryz.underlying9 (Kd.own_of_R jd.out))|(go_at_call 58;(with_reducible refine (spec_l1Cur_pick.calls g je jm jn 3 jw jp jq w0 _ ?side1 ?side2 A14.out).mono ?_);(case side1=>exact IsS55.to HI0);(case side2=>exact below_to1 HB (IsS55.ge HI0.out));rintro e w27 ⟨rfl,hi,hb,hk⟩;replace jd:=ai_ (Kd.R_mono (Kd.R_keep (IsS55.apart (IsS55.to HI0) (kd_to jd) (by decide)) hk (fun _ h=>h.2)) (fun _ h=>h.1));replace HK:=ai_ (KeepBut.trans (keep_to HK) hk (.inl rfl));replace HB:=ai_ (hb);replace HI0:=ai_ (hi);clear hb hk hi));try go_wp2_with (first|(go_at_call 58;(with_reducible refine (spec_l1Cur_pick.calls g je jm jn 3 jw jp jq w0 _ ?side1 ?side2 A14.out).mono ?_);(case side1=>exact IsS55.to HI0);(case side2=>exact below_to1 HB (IsS55.ge HI0.out));rintro e w27 ⟨rfl,hi,hb,hk⟩;replace jd:=ai_ (Kd.R_mono (Kd.R_keep (IsS55.apart (IsS55.to HI0) (kd_to jd) (by decide)) hk (fun _ h=>h.2)) (fun _ h=>h.1));replace HK:=ai_ (KeepBut.trans (keep_to HK) hk (.inl rfl));replace HB:=ai_ (hb);replace HI0:=ai_ (hi);clear hb hk hi)))
          go_roundg kj5
          case measure=>have:=HK1.out;have:=HJ5.out;omega
          case rel=>exact ⟨(((ja.extract 0 (jb:Int).toNat) ++ (strOfNums jg)) ++ (ja.extract (jb:Int).toNat ja.size)),(wrap64 (jf - 1)),(jp),(jq),rt_,rt_,H',⟨by have:=HK1.out;have:=HJ5.out;omega⟩,⟨IsS55.tg HI0⟩,⟨keep_to HK⟩,⟨below_to1 HB (IsS55.ge HI0.out)⟩⟩
        · rw [if_neg c21] at H
          cases H
      rw [if_neg c15] at H
      have j2e:=beq_eq_false_iff_ne.mpr c15
      have j2f:=bne_iff_ne.mpr c15
      by_cases c28:jw=1
      rotate_left
      · rw [if_neg c28] at H
        have j2g:=beq_eq_false_iff_ne.mpr c28
        have j2h:=bne_iff_ne.mpr c28
        by_cases c42:0≤jb
        rotate_left
        · rw [if_neg c42] at H
          cases H
        rw [if_pos c42] at H
        have j3u:=eq_true c42
        have j3v:=decide_eq_true c42
        clear c42
        by_cases c43:jb≤(ja.size:Int)
        rotate_left
        · rw [if_neg c43] at H
          cases H
        rw [if_pos c43] at H
        have j3w:=eq_true c43
        have j3x:=decide_eq_true c43
        clear c43
        obtain ⟨j1c,jy⟩:∃ j_:Int,(wrap64 (jb+1))=j_:=⟨_,rfl⟩
        replace H:(if 0≤(j1c) then (if (j1c)≤(ja.size:Int) then (if (ja.extract 0 (jb:Int).toNat).size+(ja.extract ((j1c):Int).toNat ja.size).size≤9223372036854775807 then (spec_l1Cur_spoilt.l0 kj5 ((ja.extract 0 (jb:Int).toNat) ++ (ja.extract ((j1c):Int).toNat ja.size)) a2 (wrap64 (jf - 1)) je jp jq) else (none)) else (none)) else (none))=some (r1,r2,r3):=by first|(rw [jy] at H;exact H)|(simp only [jy] at H ⊢;exact H)
        (try rw [jy] at A9)
        (try rw [jy] at A10)
        (try rw [jy] at A14)
        have j2s:(IntKind.i64.wrap (jb+1))=j1c:=(i64_w _).trans jy
        by_cases c45:0≤(j1c)
        rotate_left
        · rw [if_neg c45] at H
          cases H
        rw [if_pos c45] at H
        have j3y:=eq_true c45
        have j3z:=decide_eq_true c45
        clear c45
        by_cases c46:(j1c)≤(ja.size:Int)
        · rw [if_pos c46] at H
          have j4a:=eq_true c46
          have j4b:=decide_eq_true c46
          clear c46
          by_cases c47:(ja.extract 0 (jb:Int).toNat).size+(ja.extract ((j1c):Int).toNat ja.size).size≤9223372036854775807
          · rw [if_pos c47] at H
            have j4c:=eq_true c47
            have j4d:=decide_eq_true c47
            try have j4e:(9223372036854775807 < (ja.extract 0 (jb:Int).toNat).size+(ja.extract ((j1c):Int).toNat ja.size).size)=False:=eq_false (Nat.not_lt.2 c47)
            have H':=ai_ H
            clear H
            go_wp2_with (first|(go_at_call 58;(with_reducible refine (spec_l1Cur_pick.calls g je jh ji (ja.size:Int) jb js jt w0 _ ?side1 ?side2 A9.out).mono ?_);(case side1=>exact IsS55.to HI0);(case side2=>exact below_to1 HB (IsS55.ge HI0.out));rintro e w48 ⟨rfl,hi,hb,hk⟩;replace HK:=ai_ (KeepBut.trans (keep_to HK) hk (.inl rfl));replace HB:=ai_ (hb);replace HI0:=ai_ (hi);clear hb hk hi)|(go_at_call 58;(with_reducible refine (spec_l1Cur_pick.calls g je js jt (a2.size:Int) jc jm jn w0 _ ?side1 ?side2 A10.out).mono ?_);(case side1=>exact IsS55.to HI0);(case side2=>exact below_to1 HB (IsS55.ge HI0.out));rintro e w49 ⟨rfl,hi,hb,hk⟩;replace HK:=ai_ (KeepBut.trans (keep_to HK) hk (.inl rfl));replace HB:=ai_ (hb);replace HI0:=ai_ (hi);clear hb hk hi;have p13:0≤(jc:Int):=of_decide_eq_true (by first|(with_reducible assumption)|assumption);have q13:jc < (a2.size:Int):=of_decide_eq_true (by first|(with_reducible assumption)|assumption);have hx13:=bt_at a2 jc;replace p13:=eq_true p13;replace q13:=eq_true q13)|((with_reducible refine gate_dst (N:=32) rfl ?_);(try (refine gate_guard (by rfl) ?_;dsimp only));refine Kd.R_lit (Kd.int .u8) _ 5 ?hg (N:=32) ?hd (xs:=([bt a2 jc]:List Int)) (inner:=[.int .u8 (bt a2 jc)]) (ok:=fun _=>True) (okp:=fun _=>True) ?hr ?hp (fun _ hk=>hk) trivial (Below.refl _ _) (Nat.le_refl _) (by simp) ?_;(case hd=>rfl);(case hg=>rfl);(case hr=>first|(go_simp;done)|(go_simp;rfl));(case hp=>exact (Reps.one (show Kd.M (Kd.int .u8) _ _ _ (bt a2 jc) [.int .u8 (bt a2 jc)] from rfl) (Reps.none _ _)));intro j1q w50 jz hb hg_ hnew_;clear hg_ hnew_;(first|rw [← jl.out] at jz|(simp only [Int.reduceToNat] at jz;rw [← jl.out] at jz));have jd:=ai_ (Kd.R_lower jz (keep_size (w:=w) (g:=g) (row:=none) (keep_to HK)));replace HK:=ai_ (KeepBut.trans (keep_to HK) (KeepBut.of_below hb g none) (.inl rfl));replace HB:=ai_ (below_step (below_to1 HB (IsS55.ge HI0.out)) hb);replace HI0:=ai_ (IsS55.below (IsS55.to HI0) hb);clear hb jz;have hcv52:=own_string (P:=Tryz.prog) Tryz.underlying22 Tryz.underlying5 Tryz.underlying9 (Kd.own_of_R jd.out))|(go_at_call 58;(with_reducible refine (spec_l1Cur_pick.calls g je jm jn 3 jw jp jq w0 _ ?side1 ?side2 A14.out).mono ?_);(case side1=>exact IsS55.to HI0);(case side2=>exact below_to1 HB (IsS55.ge HI0.out));rintro e w53 ⟨rfl,hi,hb,hk⟩;replace jd:=ai_ (Kd.R_mono (Kd.R_keep (IsS55.apart (IsS55.to HI0) (kd_to jd) (by decide)) hk (fun _ h=>h.2)) (fun _ h=>h.1));replace HK:=ai_ (KeepBut.trans (keep_to HK) hk (.inl rfl));replace HB:=ai_ (hb);replace HI0:=ai_ (hi);clear hb hk hi))
            repeat (go_quiet (first|(go_at_call 58;(with_reducible refine (spec_l1Cur_pick.calls g je jh ji (ja.size:Int) jb js jt w0 _ ?side1 ?side2 A9.out).mono ?_);(case side1=>exact IsS55.to HI0);(case side2=>exact below_to1 HB (IsS55.ge HI0.out));rintro e w48 ⟨rfl,hi,hb,hk⟩;replace HK:=ai_ (KeepBut.trans (keep_to HK) hk (.inl rfl));replace HB:=ai_ (hb);replace HI0:=ai_ (hi);clear hb hk hi)|(go_at_call 58;(with_reducible refine (spec_l1Cur_pick.calls g je js jt (a2.size:Int) jc jm jn w0 _ ?side1 ?side2 A10.out).mono ?_);(case side1=>exact IsS55.to HI0);(case side2=>exact below_to1 HB (IsS55.ge HI0.out));rintro e w49 ⟨rfl,hi,hb,hk⟩;replace HK:=ai_ (KeepBut.trans (keep_to HK) hk (.inl rfl));replace HB:=ai_ (hb);replace HI0:=ai_ (hi);clear hb hk hi;have p13:0≤(jc:Int):=of_decide_eq_true (by first|(with_reducible assumption)|assumption);have q13:jc < (a2.size:Int):=of_decide_eq_true (by first|(with_reducible assumption)|assumption);have hx13:=bt_at a2 jc;replace p13:=eq_true p13;replace q13:=eq_true q13)|((with_reducible refine gate_dst (N:=32) rfl ?_);(try (refine gate_guard (by rfl) ?_;dsimp only));refine Kd.R_lit (Kd.int .u8) _ 5 ?hg (N:=32) ?hd (xs:=([bt a2 jc]:List Int)) (inner:=[.int .u8 (bt a2 jc)]) (ok:=fun _=>True) (okp:=fun _=>True) ?hr ?hp (fun _ hk=>hk) trivial (Below.refl _ _) (Nat.le_refl _) (by simp) ?_;(case hd=>rfl);(case hg=>rfl);(case hr=>first|(go_simp;done)|(go_simp;rfl));(case hp=>exact (Reps.one (show Kd.M (Kd.int .u8) _ _ _ (bt a2 jc) [.int .u8 (bt a2 jc)] from rfl) (Reps.none _ _)));intro j1q w50 jz hb hg_ hnew_;clear hg_ hnew_;(first|rw [← jl.out] at jz|(simp only [Int.reduceToNat] at jz;rw [← jl.out] at jz));have jd:=ai_ (Kd.R_lower jz (keep_size (w:=w) (g:=g) (row:=none) (keep_to HK)));replace HK:=ai_ (KeepBut.trans (keep_to HK) (KeepBut.of_below hb g none) (.inl rfl));replace HB:=ai_ (below_step (below_to1 HB (IsS55.ge HI0.out)) hb);replace HI0:=ai_ (IsS55.below (IsS55.to HI0) hb);clear hb jz;have hcv52:=own_string (P:=Tryz.prog) Tryz.underlying22 Tryz.underlying5 Tryz.underlying9 (Kd.own_of_R jd.out))|(go_at_call 58;(with_reducible refine (spec_l1Cur_pick.calls g je jm jn 3 jw jp jq w0 _ ?side1 ?side2 A14.out).mono ?_);(case side1=>exact IsS55.to HI0);(case side2=>exact below_to1 HB (IsS55.ge HI0.out));rintro e w53 ⟨rfl,hi,hb,hk⟩;replace jd:=ai_ (Kd.R_mono (Kd.R_keep (IsS55.apart (IsS55.to HI0) (kd_to jd) (by decide)) hk (fun _ h=>h.2)) (fun _ h=>h.1));replace HK:=ai_ (KeepBut.trans (keep_to HK) hk (.inl rfl));replace HB:=ai_ (hb);replace HI0:=ai_ (hi);clear hb hk hi));try go_wp2_with (first|(go_at_call 58;(with_reducible refine (spec_l1Cur_pick.calls g je jm jn 3 jw jp jq w0 _ ?side1 ?side2 A14.out).mono ?_);(case side1=>exact IsS55.to HI0);(case side2=>exact below_to1 HB (IsS55.ge HI0.out));rintro e w53 ⟨rfl,hi,hb,hk⟩;replace jd:=ai_ (Kd.R_mono (Kd.R_keep (IsS55.apart (IsS55.to HI0) (kd_to jd) (by decide)) hk (fun _ h=>h.2)) (fun _ h=>h.1));replace HK:=ai_ (KeepBut.trans (keep_to HK) hk (.inl rfl));replace HB:=ai_ (hb);replace HI0:=ai_ (hi);clear hb hk hi)))
            go_roundg kj5
            case measure=>have:=HK1.out;have:=HJ5.out;omega
            case rel=>exact ⟨((ja.extract 0 (jb:Int).toNat) ++ (ja.extract ((j1c):Int).toNat ja.size)),(wrap64 (jf - 1)),(jp),(jq),(by first|rfl|(simp;done)|(simp only [← jy] <;> (first|rfl|simp))|(simp [*];done)),rt_,H',⟨by have:=HK1.out;have:=HJ5.out;omega⟩,⟨IsS55.tg HI0⟩,⟨keep_to HK⟩,⟨below_to1 HB (IsS55.ge HI0.out)⟩⟩
          · rw [if_neg c47] at H
            cases H
        · rw [if_neg c46] at H
          cases H
      rw [if_pos c28] at H
      have j2g:=beq_iff_eq.mpr c28
      have j2h:=bne_eq_false_iff_eq.mpr c28
      clear c28
      by_cases c29:0≤jb
      rotate_left
      · rw [if_neg c29] at H
        cases H
      rw [if_pos c29] at H
      have j4f:=eq_true c29
      have j4g:=decide_eq_true c29
      clear c29
      by_cases c30:jb≤(ja.size:Int)
      rotate_left
      · rw [if_neg c30] at H
        cases H
      rw [if_pos c30] at H
      have j4h:=eq_true c30
      have j4i:=decide_eq_true c30
      clear c30
      by_cases c31:(ja.extract 0 (jb:Int).toNat).size+(strOfNums jg).size≤9223372036854775807
      rotate_left
      · rw [if_neg c31] at H
        cases H
      rw [if_pos c31] at H
      have j4j:=eq_true c31
      have j4k:=decide_eq_true c31
      try have j4l:(9223372036854775807 < (ja.extract 0 (jb:Int).toNat).size+(strOfNums jg).size)=False:=eq_false (Nat.not_lt.2 c31)
      obtain ⟨ju,j1a⟩:∃ j_:Int,(wrap64 (jb+1))=j_:=⟨_,rfl⟩
      replace H:(if 0≤(ju) then (if (ju)≤(ja.size:Int) then (if ((ja.extract 0 (jb:Int).toNat) ++ (strOfNums jg)).size+(ja.extract ((ju):Int).toNat ja.size).size≤9223372036854775807 then (spec_l1Cur_spoilt.l0 kj5 (((ja.extract 0 (jb:Int).toNat) ++ (strOfNums jg)) ++ (ja.extract ((ju):Int).toNat ja.size)) a2 (wrap64 (jf - 1)) je jp jq) else (none)) else (none)) else (none))=some (r1,r2,r3):=by first|(rw [j1a] at H;exact H)|(simp only [j1a] at H ⊢;exact H)
      (try rw [j1a] at A9)
      (try rw [j1a] at A10)
      (try rw [j1a] at A14)
      have j2t:(IntKind.i64.wrap (jb+1))=ju:=(i64_w _).trans j1a
      by_cases c33:0≤(ju)
      rotate_left
      · rw [if_neg c33] at H
        cases H
      rw [if_pos c33] at H
      have j4m:=eq_true c33
      have j4n:=decide_eq_true c33
      clear c33
      by_cases c34:(ju)≤(ja.size:Int)
      · rw [if_pos c34] at H
        have j4o:=eq_true c34
        have j4p:=decide_eq_true c34
        clear c34
        by_cases c35:((ja.extract 0 (jb:Int).toNat) ++ (strOfNums jg)).size+(ja.extract ((ju):Int).toNat ja.size).size≤9223372036854775807
        · rw [if_pos c35] at H
          have j4q:=eq_true c35
          have j4r:=decide_eq_true c35
          try have j4s:(9223372036854775807 < ((ja.extract 0 (jb:Int).toNat) ++ (strOfNums jg)).size+(ja.extract ((ju):Int).toNat ja.size).size)=False:=eq_false (Nat.not_lt.2 c35)
          have j4t:(9223372036854775807 < (ja.extract 0 (jb:Int).toNat).size+(strOfNums jg).size+(ja.extract ((ju):Int).toNat ja.size).size)=False:=eq_false (by have h_:=c35;simp only [ByteArray.size_append] at h_;omega)
          have j4u:decide ((ja.extract 0 (jb:Int).toNat).size+(strOfNums jg).size+(ja.extract ((ju):Int).toNat ja.size).size≤9223372036854775807)=true:=decide_eq_true (by have h_:=c35;simp only [ByteArray.size_append] at h_;omega)
          have H':=ai_ H
          clear H
          go_wp2_with (first|(go_at_call 58;(with_reducible refine (spec_l1Cur_pick.calls g je jh ji (ja.size:Int) jb js jt w0 _ ?side1 ?side2 A9.out).mono ?_);(case side1=>exact IsS55.to HI0);(case side2=>exact below_to1 HB (IsS55.ge HI0.out));rintro e w36 ⟨rfl,hi,hb,hk⟩;replace HK:=ai_ (KeepBut.trans (keep_to HK) hk (.inl rfl));replace HB:=ai_ (hb);replace HI0:=ai_ (hi);clear hb hk hi)|(go_at_call 58;(with_reducible refine (spec_l1Cur_pick.calls g je js jt (a2.size:Int) jc jm jn w0 _ ?side1 ?side2 A10.out).mono ?_);(case side1=>exact IsS55.to HI0);(case side2=>exact below_to1 HB (IsS55.ge HI0.out));rintro e w37 ⟨rfl,hi,hb,hk⟩;replace HK:=ai_ (KeepBut.trans (keep_to HK) hk (.inl rfl));replace HB:=ai_ (hb);replace HI0:=ai_ (hi);clear hb hk hi;have p13:0≤(jc:Int):=of_decide_eq_true (by first|(with_reducible assumption)|assumption);have q13:jc < (a2.size:Int):=of_decide_eq_true (by first|(with_reducible assumption)|assumption);have hx13:=bt_at a2 jc;replace p13:=eq_true p13;replace q13:=eq_true q13)|((with_reducible refine gate_dst (N:=32) rfl ?_);(try (refine gate_guard (by rfl) ?_;dsimp only));refine Kd.R_lit (Kd.int .u8) _ 5 ?hg (N:=32) ?hd (xs:=([bt a2 jc]:List Int)) (inner:=[.int .u8 (bt a2 jc)]) (ok:=fun _=>True) (okp:=fun _=>True) ?hr ?hp (fun _ hk=>hk) trivial (Below.refl _ _) (Nat.le_refl _) (by simp) ?_;(case hd=>rfl);(case hg=>rfl);(case hr=>first|(go_simp;done)|(go_simp;rfl));(case hp=>exact (Reps.one (show Kd.M (Kd.int .u8) _ _ _ (bt a2 jc) [.int .u8 (bt a2 jc)] from rfl) (Reps.none _ _)));intro j1q w38 j1b hb hg_ hnew_;clear hg_ hnew_;(first|rw [← jl.out] at j1b|(simp only [Int.reduceToNat] at j1b;rw [← jl.out] at j1b));have jd:=ai_ (Kd.R_lower j1b (keep_size (w:=w) (g:=g) (row:=none) (keep_to HK)));replace HK:=ai_ (KeepBut.trans (keep_to HK) (KeepBut.of_below hb g none) (.inl rfl));replace HB:=ai_ (below_step (below_to1 HB (IsS55.ge HI0.out)) hb);replace HI0:=ai_ (IsS55.below (IsS55.to HI0) hb);clear hb j1b;have hcv40:=own_string (P:=Tryz.prog) Tryz.underlying22 Tryz.underlying5 Tryz.underlying9 (Kd.own_of_R jd.out))|(go_at_call 58;(with_reducible refine (spec_l1Cur_pick.calls g je jm jn 3 jw jp jq w0 _ ?side1 ?side2 A14.out).mono ?_);(case side1=>exact IsS55.to HI0);(case side2=>exact below_to1 HB (IsS55.ge HI0.out));rintro e w41 ⟨rfl,hi,hb,hk⟩;replace jd:=ai_ (Kd.R_mono (Kd.R_keep (IsS55.apart (IsS55.to HI0) (kd_to jd) (by decide)) hk (fun _ h=>h.2)) (fun _ h=>h.1));replace HK:=ai_ (KeepBut.trans (keep_to HK) hk (.inl rfl));replace HB:=ai_ (hb);replace HI0:=ai_ (hi);clear hb hk hi))
          repeat (go_quiet (first|(go_at_call 58;(with_reducible refine (spec_l1Cur_pick.calls g je jh ji (ja.size:Int) jb js jt w0 _ ?side1 ?side2 A9.out).mono ?_);(case side1=>exact IsS55.to HI0);(case side2=>exact below_to1 HB (IsS55.ge HI0.out));rintro e w36 ⟨rfl,hi,hb,hk⟩;replace HK:=ai_ (KeepBut.trans (keep_to HK) hk (.inl rfl));replace HB:=ai_ (hb);replace HI0:=ai_ (hi);clear hb hk hi)|(go_at_call 58;(with_reducible refine (spec_l1Cur_pick.calls g je js jt (a2.size:Int) jc jm jn w0 _ ?side1 ?side2 A10.out).mono ?_);(case side1=>exact IsS55.to HI0);(case side2=>exact below_to1 HB (IsS55.ge HI0.out));rintro e w37 ⟨rfl,hi,hb,hk⟩;replace HK:=ai_ (KeepBut.trans (keep_to HK) hk (.inl rfl));replace HB:=ai_ (hb);replace HI0:=ai_ (hi);clear hb hk hi;have p13:0≤(jc:Int):=of_decide_eq_true (by first|(with_reducible assumption)|assumption);have q13:jc < (a2.size:Int):=of_decide_eq_true (by first|(with_reducible assumption)|assumption);have hx13:=bt_at a2 jc;replace p13:=eq_true p13;replace q13:=eq_true q13)|((with_reducible refine gate_dst (N:=32) rfl ?_);(try (refine gate_guard (by rfl) ?_;dsimp only));refine Kd.R_lit (Kd.int .u8) _ 5 ?hg (N:=32) ?hd (xs:=([bt a2 jc]:List Int)) (inner:=[.int .u8 (bt a2 jc)]) (ok:=fun _=>True) (okp:=fun _=>True) ?hr ?hp (fun _ hk=>hk) trivial (Below.refl _ _) (Nat.le_refl _) (by simp) ?_;(case hd=>rfl);(case hg=>rfl);(case hr=>first|(go_simp;done)|(go_simp;rfl));(case hp=>exact (Reps.one (show Kd.M (Kd.int .u8) _ _ _ (bt a2 jc) [.int .u8 (bt a2 jc)] from rfl) (Reps.none _ _)));intro j1q w38 j1b hb hg_ hnew_;clear hg_ hnew_;(first|rw [← jl.out] at j1b|(simp only [Int.reduceToNat] at j1b;rw [← jl.out] at j1b));have jd:=ai_ (Kd.R_lower j1b (keep_size (w:=w) (g:=g) (row:=none) (keep_to HK)));replace HK:=ai_ (KeepBut.trans (keep_to HK) (KeepBut.of_below hb g none) (.inl rfl));replace HB:=ai_ (below_step (below_to1 HB (IsS55.ge HI0.out)) hb);replace HI0:=ai_ (IsS55.below (IsS55.to HI0) hb);clear hb j1b;have hcv40:=own_string (P:=Tryz.prog) Tryz.underlying22 Tryz.underlying5 Tryz.underlying9 (Kd.own_of_R jd.out))|(go_at_call 58;(with_reducible refine (spec_l1Cur_pick.calls g je jm jn 3 jw jp jq w0 _ ?side1 ?side2 A14.out).mono ?_);(case side1=>exact IsS55.to HI0);(case side2=>exact below_to1 HB (IsS55.ge HI0.out));rintro e w41 ⟨rfl,hi,hb,hk⟩;replace jd:=ai_ (Kd.R_mono (Kd.R_keep (IsS55.apart (IsS55.to HI0) (kd_to jd) (by decide)) hk (fun _ h=>h.2)) (fun _ h=>h.1));replace HK:=ai_ (KeepBut.trans (keep_to HK) hk (.inl rfl));replace HB:=ai_ (hb);replace HI0:=ai_ (hi);clear hb hk hi));try go_wp2_with (first|(go_at_call 58;(with_reducible refine (spec_l1Cur_pick.calls g je jm jn 3 jw jp jq w0 _ ?side1 ?side2 A14.out).mono ?_);(case side1=>exact IsS55.to HI0);(case side2=>exact below_to1 HB (IsS55.ge HI0.out));rintro e w41 ⟨rfl,hi,hb,hk⟩;replace jd:=ai_ (Kd.R_mono (Kd.R_keep (IsS55.apart (IsS55.to HI0) (kd_to jd) (by decide)) hk (fun _ h=>h.2)) (fun _ h=>h.1));replace HK:=ai_ (KeepBut.trans (keep_to HK) hk (.inl rfl));replace HB:=ai_ (hb);replace HI0:=ai_ (hi);clear hb hk hi)))
          go_roundg kj5
          case measure=>have:=HK1.out;have:=HJ5.out;omega
          case rel=>exact ⟨(((ja.extract 0 (jb:Int).toNat) ++ (strOfNums jg)) ++ (ja.extract ((ju):Int).toNat ja.size)),(wrap64 (jf - 1)),(jp),(jq),(by first|rfl|(simp;done)|(simp only [← j1a] <;> (first|rfl|simp))|(simp [*];done)),rt_,H',⟨by have:=HK1.out;have:=HJ5.out;omega⟩,⟨IsS55.tg HI0⟩,⟨keep_to HK⟩,⟨below_to1 HB (IsS55.ge HI0.out)⟩⟩
        · rw [if_neg c35] at H
          cases H
      · rw [if_neg c34] at H
        cases H
def spec_DrawParseLine.i.f (k:Nat) (l0:List Int) (j2a:List Int) (j2u:Int) (j2v:Int):Option (ByteArray × Int × Int):=(spec_l1Cur_sureLine.f k j2a j2u j2v).bind fun bt571=>((spec_buText.f k bt571.1 bt571.2.1 bt571.2.2.1 bt571.2.2.2.1).bind fun j1i=>((spec_l1Cur_one.f j2a bt571.2.2.2.2.1 bt571.2.2.2.2.2 3).bind fun bt580=>(if bt580.1=true then ((spec_l1Cur_spoilt.f k j2a bt580.2.1 bt580.2.2 j1i (⟨#[48,49,50,51,43,120,58,44]⟩:ByteArray)).bind fun bt583=>(some (bt583.1,bt583.2.1,bt583.2.2))) else (some (j1i,bt580.2.1,bt580.2.2)))))
def spec_DrawParseLine.f (k:Nat) (l0:List Int):Option (ByteArray):=(spec_DrawParseLine.i.f k l0 l0 0 0).bind fun b=>some (b.1)
theorem spec_DrawParseLine.calls (k:Nat) (A0:Option Addr) (c0:Nat) (l0:List Int) (r1:ByteArray) (wz_:World) (hr0:Kd.C (Kd.int .u8) wz_ A0 l0.length l0) (hc0:l0.length≤c0) (h:spec_DrawParseLine.f k l0=some r1) :
  Calls Tryz.prog 37 #[.slice A0 l0.length c0] wz_ fun e w'=>e=.returned (.string r1)∧Below wz_.heap.size wz_ w':=by
 obtain ⟨b_,hb0_,h⟩:=Option.bind_eq_some_iff.mp h
 obtain ⟨r1z_,r2,r3⟩:=b_
 simp only [Option.some.injEq] at h
 have hq0_:=h
 obtain rfl:=hq0_.symm
 suffices hh_:∀ (w0 w:World) (g:Nat),w0=wz_→g=wz_.heap.size→w=wz_.alloc (.cells #[.slice A0 l0.length c0,.int .i64 0,.int .u64 0] 55 (0,0))→Calls Tryz.prog 37 #[.slice A0 l0.length c0] wz_ fun e w'=>e=.returned (.string r1)∧IsS55 w0 w' g l0 r2 r3∧Below w0.heap.size w0 w'∧KeepBut w w' g none by
  refine (hh_ wz_ _ _ rfl rfl rfl).mono ?_
  rintro e w' ⟨he_,_,hb_,_⟩
  exact ⟨he_,hb_⟩
 intro w0 w g HW0_ HG_ HW_
 have hI:IsS55 w0 w g l0 0 0:=by rw [HG_,HW_,HW0_];exact IsS55.new _ _ _ c0 _ _ _ (Below.refl _ _) hr0
 have hB:Below w0.heap.size w0 w:=by rw [HW0_,HW_];exact below_alloc (Below.refl _ _) _
 have hf0:∀ ad,A0=some ad→0 < l0.length→ad.block≠g:=by
  intro ad hA_ hn_ he_
  obtain ⟨ad2_,e2_,hx_⟩:=Kd.at_int hr0 0 (by omega) (by omega)
  rw [hA_] at e2_
  injection e2_ with e2_
  subst e2_
  have hlt_:=World.block_lt_of_cell? wz_ _ hx_
  rw [add_block,he_,HG_] at hlt_
  omega
 have hr0':Kd.C (Kd.int .u8) w A0 l0.length l0:=by rw [HW_];exact Kd.C_alloc hr0 _
 clear hr0
 have hr0:=hr0'
 clear hr0'
 have HWZ:=ai_ HW_
 have HGZ:=ai_ HG_
 clear HW_ HG_ HW0_
 have h:=hb0_
 clear hb0_
 have HR0:=ai_ hr0
 have HC0:=ai_ hc0
 clear hr0 hc0
 have HI1:=ai_ hI
 have HK:=ai_ (KeepBut.refl w g none)
 have HL:=ai_ hB.size
 clear hI
 have HW0:=ai_ hB.size
 have HB:=ai_ hB
 clear hB
 have H:=h
 unfold spec_DrawParseLine.f at H
 clear h
 obtain ⟨⟨j1l,j1m,j1n,j1o,j1v,j1w⟩,A3,H⟩:=bs_ H
 (try dsimp only at H)
 obtain ⟨j1i,A4,H⟩:=bs_ H
 (try dsimp only at H)
 obtain ⟨⟨j2w,j2b,j2c⟩,A5,H⟩:=bs_ H
 (try dsimp only at H)
 by_cases c6:j2w=true
 ·subst c6
  rw [if_pos rfl] at H
  obtain ⟨⟨j2x,j2y,j2z⟩,A7,H⟩:=bs_ H
  (try dsimp only at H)
  simp only [Option.some.injEq,Prod.mk.injEq] at H
  obtain ⟨rfl,rfl,rfl⟩:=H
  go_enter Tryz.func37,Tryz.ntmps37
  go_upto_region 2 with (fail)
  rw [← HWZ.out,← HGZ.out]
  go_wp2_with (first|((with_reducible refine gate_callee (f:=65) rfl ?_);refine gl_ (some 9) Tryz.func65 #[.pointer (some ⟨g,0,none⟩)] ?_;(with_reducible refine (spec_l1Cur_sureLine.calls k g l0 0 0 j1l j1m j1n j1o j1v j1w w0 _ ?side1 ?side2 A3.out).mono ?_);(case side1=>exact IsS55.to HI1);(case side2=>exact below_to1 HB (IsS55.ge HI1.out));rintro e w8 ⟨j3a,rfl,ho0,hi,hb,hk⟩;refine ⟨_,rfl,?_⟩;have jk:=ai_ (Kd.R_lower ho0 (keep_size (w:=w) (g:=g) (row:=none) (keep_to HK)));replace HK:=ai_ (KeepBut.trans (keep_to HK) hk (.inl rfl));replace HB:=ai_ (hb);replace HI1:=ai_ (hi);(try clear hb);(try clear hk);(try clear hi);(try clear ho0);obtain ⟨Ao9,co9,eo9⟩:=Kd.R_slice jk.out;subst eo9)|((with_reducible refine gate_callee (f:=54) rfl ?_);refine gl_ (some 10) Tryz.func54 #[.agg #[.int .i64 j1l,.int .i64 j1m,.int .i64 j1n,.slice Ao9 j1o.length co9]] ?_;(with_reducible refine (spec_buText.calls k j1l j1m j1n _ _ j1o j1i _ ?side1 ?side2 A4.out).mono ?_);(case side1=>exact cR_ jk);(case side2=>exact (Kd.R_reads' jk.out).2.1);rintro e w10 ⟨rfl,hb⟩;refine ⟨_,rfl,?_⟩;replace jk:=rb_ jk hb;replace HK:=ai_ (KeepBut.trans (keep_to HK) (KeepBut.of_below hb g none) (.inl rfl));replace HB:=ai_ (below_step (below_to1 HB (IsS55.ge HI1.out)) hb);replace HI1:=ai_ (IsS55.below (IsS55.to HI1) hb);(try clear hb);(try clear hk);(try clear hi))|((with_reducible refine gate_callee (f:=66) rfl ?_);refine gl_ (some 12) Tryz.func66 #[.pointer (some ⟨g,0,none⟩),.int .i64 3] ?_;(with_reducible refine (spec_l1Cur_one.calls g l0 j1v j1w 3 true j2b j2c w0 _ ?side1 ?side2 A5.out).mono ?_);(case side1=>exact IsS55.to HI1);(case side2=>exact below_to1 HB (IsS55.ge HI1.out));rintro e w11 ⟨rfl,hi,hb,hk⟩;refine ⟨_,rfl,?_⟩;replace jk:=ai_ (Kd.R_mono (Kd.R_keep (IsS55.apart (IsS55.to HI1) (kd_to jk) (by decide)) hk (fun _ h=>h.2)) (fun _ h=>h.1));replace HK:=ai_ (KeepBut.trans (keep_to HK) hk (.inl rfl));replace HB:=ai_ (hb);replace HI1:=ai_ (hi);(try clear hb);(try clear hk);(try clear hi))|((with_reducible refine gate_callee (f:=67) rfl ?_);refine gl_ (some 15) Tryz.func67 #[.pointer (some ⟨g,0,none⟩),.string j1i,.string (⟨#[48,49,50,51,43,120,58,44]⟩:ByteArray)] ?_;(with_reducible refine (spec_l1Cur_spoilt.calls k g l0 j2b j2c j1i (⟨#[48,49,50,51,43,120,58,44]⟩:ByteArray) j2x j2y j2z w0 _ ?side1 ?side2 A7.out).mono ?_);(case side1=>exact IsS55.to HI1);(case side2=>exact below_to1 HB (IsS55.ge HI1.out));rintro e w12 ⟨rfl,hi,hb,hk⟩;refine ⟨_,rfl,?_⟩;replace jk:=ai_ (Kd.R_mono (Kd.R_keep (IsS55.apart (IsS55.to HI1) (kd_to jk) (by decide)) hk (fun _ h=>h.2)) (fun _ h=>h.1));replace HK:=ai_ (KeepBut.trans (keep_to HK) hk (.inl rfl));replace HB:=ai_ (hb);replace HI1:=ai_ (hi);(try clear hb);(try clear hk);(try clear hi)))
  go_ret
  exact ⟨rtE_,IsS55.tg HI1,below_to1 HB (IsS55.ge HI1.out),by repeat (first|(with_reducible first|exact HK.out|apply KeepBut.set_|apply keep_drewN|apply keep_drew|apply keep_alloc)|exact HK.out)⟩
 ·replace c6:=Bool.eq_false_iff.mpr c6
  subst c6
  rw [if_neg ft_] at H
  simp only [Option.some.injEq,Prod.mk.injEq] at H
  obtain ⟨rfl,rfl,rfl⟩:=H
  go_enter Tryz.func37,Tryz.ntmps37
  go_upto_region 2 with (fail)
  rw [← HWZ.out,← HGZ.out]
  go_wp2_with (first|((with_reducible refine gate_callee (f:=65) rfl ?_);refine gl_ (some 9) Tryz.func65 #[.pointer (some ⟨g,0,none⟩)] ?_;(with_reducible refine (spec_l1Cur_sureLine.calls k g l0 0 0 j1l j1m j1n j1o j1v j1w w0 _ ?side1 ?side2 A3.out).mono ?_);(case side1=>exact IsS55.to HI1);(case side2=>exact below_to1 HB (IsS55.ge HI1.out));rintro e w13 ⟨j3a,rfl,ho0,hi,hb,hk⟩;refine ⟨_,rfl,?_⟩;have jk:=ai_ (Kd.R_lower ho0 (keep_size (w:=w) (g:=g) (row:=none) (keep_to HK)));replace HK:=ai_ (KeepBut.trans (keep_to HK) hk (.inl rfl));replace HB:=ai_ (hb);replace HI1:=ai_ (hi);(try clear hb);(try clear hk);(try clear hi);(try clear ho0);obtain ⟨Ao14,co14,eo14⟩:=Kd.R_slice jk.out;subst eo14)|((with_reducible refine gate_callee (f:=54) rfl ?_);refine gl_ (some 10) Tryz.func54 #[.agg #[.int .i64 j1l,.int .i64 j1m,.int .i64 j1n,.slice Ao14 j1o.length co14]] ?_;(with_reducible refine (spec_buText.calls k j1l j1m j1n _ _ j1o j1i _ ?side1 ?side2 A4.out).mono ?_);(case side1=>exact cR_ jk);(case side2=>exact (Kd.R_reads' jk.out).2.1);rintro e w15 ⟨rfl,hb⟩;refine ⟨_,rfl,?_⟩;replace jk:=rb_ jk hb;replace HK:=ai_ (KeepBut.trans (keep_to HK) (KeepBut.of_below hb g none) (.inl rfl));replace HB:=ai_ (below_step (below_to1 HB (IsS55.ge HI1.out)) hb);replace HI1:=ai_ (IsS55.below (IsS55.to HI1) hb);(try clear hb);(try clear hk);(try clear hi))|((with_reducible refine gate_callee (f:=66) rfl ?_);refine gl_ (some 12) Tryz.func66 #[.pointer (some ⟨g,0,none⟩),.int .i64 3] ?_;(with_reducible refine (spec_l1Cur_one.calls g l0 j1v j1w 3 false j2b j2c w0 _ ?side1 ?side2 A5.out).mono ?_);(case side1=>exact IsS55.to HI1);(case side2=>exact below_to1 HB (IsS55.ge HI1.out));rintro e w16 ⟨rfl,hi,hb,hk⟩;refine ⟨_,rfl,?_⟩;replace jk:=ai_ (Kd.R_mono (Kd.R_keep (IsS55.apart (IsS55.to HI1) (kd_to jk) (by decide)) hk (fun _ h=>h.2)) (fun _ h=>h.1));replace HK:=ai_ (KeepBut.trans (keep_to HK) hk (.inl rfl));replace HB:=ai_ (hb);replace HI1:=ai_ (hi);(try clear hb);(try clear hk);(try clear hi)))
  go_ret
  exact ⟨rtE_,IsS55.tg HI1,below_to1 HB (IsS55.ge HI1.out),by repeat (first|(with_reducible first|exact HK.out|apply KeepBut.set_|apply keep_drewN|apply keep_drew|apply keep_alloc)|exact HK.out)⟩
def spec_l1Split.l0:Nat→ByteArray→Int→List ByteArray→Int→Int→Option (List ByteArray)
  | 0,_,_,_,_,_=>none
  | k+1,x0,x1,x5,x6,x7=>if x7 < (x0.size:Int) then (if 0≤x7 then (if (bt x0 x7)=x1 then (if 0≤x6 then (if x6≤x7 then (if x7≤(x0.size:Int) then (if x5.length < 8796093022208 then (spec_l1Split.l0 k x0 x1 (x5 ++ [x0.extract (x6:Int).toNat (x7:Int).toNat]) (wrap64 (x7+1)) (wrap64 (x7+1))) else (none)) else (none)) else (none)) else (none)) else (spec_l1Split.l0 k x0 x1 x5 x6 (wrap64 (x7+1)))) else (none)) else (if 0≤x6 then (if x6≤(x0.size:Int) then (if x5.length < 8796093022208 then (some (x5 ++ [x0.extract (x6:Int).toNat x0.size])) else (none)) else (none)) else (none))
def spec_l1Split.f (k:Nat) (a0:ByteArray) (a1:Int):Option (List ByteArray):=spec_l1Split.l0 k a0 a1 ([]:List ByteArray) 0 0
theorem spec_l1Split.calls (k:Nat) (a0:ByteArray) (a1:Int) (r:List ByteArray) (w:World) (h:spec_l1Split.f k a0 a1=some r) :
    Calls Tryz.prog 82 #[.string a0,.int .u8 a1] w fun e w' => ∃ Ab:Value,e=.returned (Ab)∧Kd.R Kd.string 9 w' w.heap.size (fun _=>True) Ab r∧Below w.heap.size w w':=by
  have HB:=ai_ (Below.refl w.heap.size w)
  have H:(spec_l1Split.l0 k a0 a1 ([]:List ByteArray) 0 0)=some r:=h
  clear h
  have H':=ai_ H
  clear H
  go_enter Tryz.func82,Tryz.ntmps82
  go_wp2
  go_loopg [5,6,7] k (fun kq v5 v6 v7 w' => ∃ (j1d:List ByteArray) (jr:Int) (jf:Int),v6=.int .i64 jr∧v7=.int .i64 jf∧Aside0 (spec_l1Split.l0 kq a0 a1 j1d jr jf=some r)∧Aside0 (kq≤k)∧Aside0 (Kd.R Kd.string 9 w' w.heap.size (fun _=>True) v5 j1d)∧Aside0 (Below w.heap.size w w'))
  case atStart=>exact ⟨(([]:List ByteArray)),(0),(0),rt_,rt_,H',⟨Nat.le_refl _⟩,⟨by first|exact Kd.R_nil _ _ _ _ _|exact Kd.N_nil _ _ _ _ _|exact Kd.V_nil _ _ _ _ _|exact Kd.Q_nil _ _ _ _ _|exact Kd.S_nil _ _ _ _ _⟩,⟨below_to HB⟩⟩
  clear H'
  try clear p2
  obtain ⟨j1d,jr,jf,rfl,rfl,HA,HK1,j1r,HB⟩:=hrel
  cases gk with
  | zero=>exact absurd HA.out (by simp [spec_l1Split.l0])
  | succ k1 =>
    have H:=HA.out
    clear HA
    simp only [spec_l1Split.l0] at H
    by_cases c3:jf < (a0.size:Int)
    rotate_left
    · rw [if_neg c3] at H
      have j3b:=decide_eq_false c3
      clear c3
      by_cases c12:0≤jr
      rotate_left
      · rw [if_neg c12] at H
        cases H
      rw [if_pos c12] at H
      have j1p:=eq_true c12
      have j4v:=decide_eq_true c12
      clear c12
      by_cases c13:jr≤(a0.size:Int)
      rotate_left
      · rw [if_neg c13] at H
        cases H
      rw [if_pos c13] at H
      have j4w:=eq_true c13
      have j4x:=decide_eq_true c13
      clear c13
      by_cases c14:j1d.length < 8796093022208
      · rw [if_pos c14] at H
        have j2i:=ai_ c14
        clear c14
        obtain ⟨j3c,hy589⟩:∃ y_:List ByteArray,y_=(j1d ++ [a0.extract (jr:Int).toNat a0.size]):=⟨_,rfl⟩
        replace H:(some j3c)=some r:=by first|(rw [hy589];with_reducible exact H)|(have H2_:=(Option.bind_some _ _).symm.trans H;rw [hy589];with_reducible exact H2_)|(have H2_:=(Option.bind_some _ _).symm.trans H;with_reducible exact H2_)|with_reducible exact H|(rw [hy589];exact H)|exact H
        have j2j:=ai_ hy589
        clear hy589
        obtain rfl:=Option.some.inj H
        go_wp2_with (first|((with_reducible refine gate_builtin (b:=.append) (xs:=#[.tmp 28,.tmp 32]) rfl ?_);at_builtin;refine Kd.R_append Kd.string (w0:=w) w.heap.size rfl (.tmp 28) (.tmp 32) 79 9 (.string ⟨#[]⟩) 16 rfl Tryz.underlying79 info9 rfl (by decide) (by omega) u5 j1d (a0.extract (jr:Int).toNat a0.size) [.string (a0.extract (jr:Int).toNat a0.size)] (fun _=>True) (fun _=>False) rfl rfl ?aP (fun _ hk=>hk.elim) ?aF ?aO ?aB ?aS ?aL ?_;(case aP=>exact rfl);(case aB=>exact (below_to HB));(case aF=>exact (fun _ _=>trivial));(case aO=>exact (kd_to j1r));(case aS=>exact (below_size (below_to HB)));(case aL=>have:=j2i.out;omega);intro j4z w15 ho hb hg hat;rw [← j2j.out] at ho;replace HB:=ai_ (hb);have j2k:=ai_ (ho);clear j1r;clear ho hb hg hat))
        go_ret
        exact ⟨_,rtE_,kd_to j2k,below_to HB⟩
      · rw [if_neg c14] at H
        cases H
    rw [if_pos c3] at H
    have j3b:=decide_eq_true c3
    clear c3
    by_cases c4:0≤jf
    rotate_left
    · rw [if_neg c4] at H
      cases H
    rw [if_pos c4] at H
    have j5a:=decide_eq_true c4
    clear c4
    by_cases c6:(bt a0 jf)=a1
    rotate_left
    · rw [if_neg c6] at H
      have j3d:=beq_eq_false_iff_ne.mpr c6
      have j3e:=bne_iff_ne.mpr c6
      have H':=ai_ H
      clear H
      have p5:0≤(jf:Int):=odt_
      have q5:jf < (a0.size:Int):=odt_
      have hx5:=bt_at a0 jf
      replace p5:=eq_true p5
      replace q5:=eq_true q5
      go_wp2
      go_roundg k1
      case measure=>have:=HK1.out;omega
      case rel=>exact ⟨(j1d),(jr),(wrap64 (jf+1)),rt_,rt_,H',⟨by have:=HK1.out;omega⟩,⟨kd_to j1r⟩,⟨below_to HB⟩⟩
    rw [if_pos c6] at H
    have j3d:=beq_iff_eq.mpr c6
    have j3e:=bne_eq_false_iff_eq.mpr c6
    clear c6
    by_cases c7:0≤jr
    rotate_left
    · rw [if_neg c7] at H
      cases H
    rw [if_pos c7] at H
    have jv:=eq_true c7
    have j1x:=decide_eq_true c7
    clear c7
    by_cases c8:jr≤jf
    rotate_left
    · rw [if_neg c8] at H
      cases H
    rw [if_pos c8] at H
    have j5b:=eq_true c8
    have j5c:=decide_eq_true c8
    clear c8
    by_cases c9:jf≤(a0.size:Int)
    rotate_left
    · rw [if_neg c9] at H
      cases H
    rw [if_pos c9] at H
    have j2l:=eq_true c9
    have j5d:=decide_eq_true c9
    clear c9
    by_cases c10:j1d.length < 8796093022208
    rotate_left
    · rw [if_neg c10] at H
      cases H
    rw [if_pos c10] at H
    have j2m:=ai_ c10
    clear c10
    obtain ⟨j2n,hy586⟩:∃ y_:List ByteArray,y_=(j1d ++ [a0.extract (jr:Int).toNat (jf:Int).toNat]):=⟨_,rfl⟩
    replace H:(spec_l1Split.l0 k1 a0 a1 j2n (wrap64 (jf+1)) (wrap64 (jf+1)))=some r:=by first|(rw [hy586];with_reducible exact H)|(have H2_:=(Option.bind_some _ _).symm.trans H;rw [hy586];with_reducible exact H2_)|(have H2_:=(Option.bind_some _ _).symm.trans H;with_reducible exact H2_)|with_reducible exact H|(rw [hy586];exact H)|exact H
    have j2o:=ai_ hy586
    clear hy586
    have H':=ai_ H
    clear H
    have p5:0≤(jf:Int):=odt_
    have q5:jf < (a0.size:Int):=odt_
    have hx5:=bt_at a0 jf
    replace p5:=eq_true p5
    replace q5:=eq_true q5
    go_wp2_with (first|((with_reducible refine gate_builtin (b:=.append) (xs:=#[.tmp 19,.tmp 24]) rfl ?_);at_builtin;refine Kd.R_append Kd.string (w0:=w) w.heap.size rfl (.tmp 19) (.tmp 24) 79 9 (.string ⟨#[]⟩) 16 rfl Tryz.underlying79 info9 rfl (by decide) (by omega) u5 j1d (a0.extract (jr:Int).toNat (jf:Int).toNat) [.string (a0.extract (jr:Int).toNat (jf:Int).toNat)] (fun _=>True) (fun _=>False) rfl rfl ?aP (fun _ hk=>hk.elim) ?aF ?aO ?aB ?aS ?aL ?_;(case aP=>exact rfl);(case aB=>exact (below_to HB));(case aF=>exact (fun _ _=>trivial));(case aO=>exact (kd_to j1r));(case aS=>exact (below_size (below_to HB)));(case aL=>have:=j2m.out;omega);intro j5e w11 ho hb hg hat;rw [← j2o.out] at ho;replace HB:=ai_ (hb);have j2p:=ai_ (ho);clear j1r;clear ho hb hg hat))
    go_roundg k1
    case measure=>have:=HK1.out;omega
    case rel=>exact ⟨(j2n),(wrap64 (jf+1)),(wrap64 (jf+1)),rt_,rt_,H',⟨by have:=HK1.out;omega⟩,⟨kd_to j2p⟩,⟨below_to HB⟩⟩
mutual
def spec_l1Read.j0:Nat→ByteArray→Bool→Option (Int)
  | 0,_,_=>none
  | k+1,x0,x18=>if x18=true then (some (-1)) else (spec_l1Read.l0 k x0 0 0)
def spec_l1Read.l0:Nat→ByteArray→Int→Int→Option (Int)
  | 0,_,_,_=>none
  | k+1,x0,x3,x4=>if x4 < (x0.size:Int) then (if 0≤x4 then (if (bt x0 x4) < 48 then (some (-1)) else (if (bt x0 x4) > 57 then (some (-1)) else (spec_l1Read.l0 k x0 (wrap64 ((wrap64 (10*x3))+(((bt x0 x4) - 48) % 256))) (wrap64 (x4+1))))) else (none)) else (some x3)
end
def spec_l1Read.f (k:Nat) (a0:ByteArray):Option (Int):=(spec_l1In.f (a0.size:Int) 1 6).bind fun j2d=>(if j2d=true then (if 0 < (a0.size:Int) then (if (bt a0 0)=48 then (spec_l1Read.j0 k a0 (decide ((a0.size:Int) > 1))) else (spec_l1Read.j0 k a0 false)) else (none)) else (spec_l1Read.j0 k a0 true))
theorem spec_l1Read.calls (k:Nat) (a0:ByteArray) (r:Int) (w:World) (h:spec_l1Read.f k a0=some r) :
    Calls Tryz.prog 83 #[.string a0] w fun e w'=>e=.returned (.int .i64 r)∧Drawn0 w w':=by
  have H:=h
  unfold spec_l1Read.f at H
  clear h
  have HC2:=ai_ H
  clear H
  go_enter Tryz.func83,Tryz.ntmps83
  go_upto_region 1 with (fail)
  go_cut [18] (fun v18 wc => ∃ (kq:Nat) (j1k:Bool),v18=.bool j1k∧Aside0 (spec_l1Read.j0 kq a0 j1k=some r)∧Aside0 (kq≤k)∧Drawn0 w wc)
  case first =>
    have H:=HC2.out
    clear HC2
    obtain ⟨j2d,A3,H⟩:=bs_ H
    (try dsimp only at H)
    by_cases c4:j2d=true
    rotate_left
    · replace c4:=Bool.eq_false_iff.mpr c4
      subst c4
      rw [if_neg ft_] at H
      have H':=ai_ H
      clear H
      go_wp2_with (first|((with_reducible refine gate_callee (f:=64) rfl ?_);refine gl_ (some 7) Tryz.func64 #[.int .i64 (a0.size:Int),.int .i64 1,.int .i64 6] ?_;(with_reducible refine (spec_l1In.calls (a0.size:Int) 1 6 false _ A3.out).mono ?_);rintro e w' ⟨rfl,⟨nd,rfl⟩⟩;refine ⟨_,rfl,?_⟩))
      go_meet
      case rel=>exact ⟨_,(true),rt_,H',⟨by first|omega|exact Nat.le_refl _⟩,d0_⟩
    subst c4
    rw [if_pos rfl] at H
    by_cases c5:0 < (a0.size:Int)
    rotate_left
    · rw [if_neg c5] at H
      cases H
    rw [if_pos c5] at H
    have j1y:=decide_eq_true c5
    have j2q:decide (0 < a0.size)=true:=decide_eq_true (by omega)
    clear c5
    (first|rw [j1y]|(simp only [i64_w,i32_w];rw [j1y])|skip)
    by_cases c7:(bt a0 0)=48
    · rw [if_pos c7] at H
      have jv:=beq_iff_eq.mpr c7
      have j1x:=bne_eq_false_iff_eq.mpr c7
      clear c7
      have H':=ai_ H
      clear H
      go_wp2_with (first|((with_reducible refine gate_callee (f:=64) rfl ?_);refine gl_ (some 7) Tryz.func64 #[.int .i64 (a0.size:Int),.int .i64 1,.int .i64 6] ?_;(with_reducible refine (spec_l1In.calls (a0.size:Int) 1 6 true _ A3.out).mono ?_);rintro e w' ⟨rfl,⟨nd,rfl⟩⟩;refine ⟨_,rfl,?_⟩;have p6:0≤(0:Int):=(by omega);have q6:0 < a0.size:=(by have:(0:Int) < (a0.size:Int):=of_decide_eq_true (by first|(with_reducible assumption)|assumption);omega);have hx6:∀ h:0 < a0.size,((a0[0]'h).toNat:Int)=bt a0 0:=bt_at a0 0;clear p6;have qi6:(0 < (a0.size:Int))=True:=eq_true (of_decide_eq_true (by first|(with_reducible assumption)|assumption));replace q6:=eq_true q6))
      go_meet
      case rel=>exact ⟨_,(decide ((a0.size:Int) > 1)),rt_,H',⟨by first|omega|exact Nat.le_refl _⟩,d0_⟩
    · rw [if_neg c7] at H
      have jv:=beq_eq_false_iff_ne.mpr c7
      have j1x:=bne_iff_ne.mpr c7
      have H':=ai_ H
      clear H
      go_wp2_with (first|((with_reducible refine gate_callee (f:=64) rfl ?_);refine gl_ (some 7) Tryz.func64 #[.int .i64 (a0.size:Int),.int .i64 1,.int .i64 6] ?_;(with_reducible refine (spec_l1In.calls (a0.size:Int) 1 6 true _ A3.out).mono ?_);rintro e w' ⟨rfl,⟨nd,rfl⟩⟩;refine ⟨_,rfl,?_⟩;have p6:0≤(0:Int):=(by omega);have q6:0 < a0.size:=(by have:(0:Int) < (a0.size:Int):=of_decide_eq_true (by first|(with_reducible assumption)|assumption);omega);have hx6:∀ h:0 < a0.size,((a0[0]'h).toNat:Int)=bt a0 0:=bt_at a0 0;clear p6;have qi6:(0 < (a0.size:Int))=True:=eq_true (of_decide_eq_true (by first|(with_reducible assumption)|assumption));replace q6:=eq_true q6))
      go_meet
      case rel=>exact ⟨_,(false),rt_,H',⟨by first|omega|exact Nat.le_refl _⟩,d0_⟩
  clear HC2
  try clear p2
  try clear c4
  try clear c5
  try clear j1y
  try clear j2q
  try clear c6
  try clear p6
  try clear q6
  try clear hx6
  try clear qi6
  try clear c7
  try clear jv
  try clear j1x
  try clear p6
  try clear q6
  obtain ⟨kq,j1k,rfl,HA,HJ1,⟨mc1,rfl⟩⟩:=hcut
  cases kq with
  | zero=>exact absurd HA.out (by simp [spec_l1Read.j0])
  | succ kj1 =>
    have H:=HA.out
    clear HA
    simp only [spec_l1Read.j0] at H
    by_cases c8:j1k=true
    · subst c8
      rw [if_pos rfl] at H
      obtain rfl:=Option.some.inj H
      go_wp2
      go_ret
      exact ⟨rt_,d0_⟩
    replace c8:=Bool.eq_false_iff.mpr c8
    subst c8
    rw [if_neg ft_] at H
    have H':=ai_ H
    clear H
    go_wp2
    go_loopg [3,4] kj1 (fun kq v3 v4 w' => ∃ (j1z:Int) (jj:Int),v3=.int .i64 j1z∧v4=.int .i64 jj∧Aside0 (spec_l1Read.l0 kq a0 j1z jj=some r)∧Aside0 (kq≤kj1)∧Drawn0 w w')
    case atStart=>exact ⟨(0),(0),rt_,rt_,H',⟨Nat.le_refl _⟩,d0_⟩
    clear H'
    try clear c1
    try clear p2
    try clear c4
    try clear c5
    try clear j1y
    try clear j2q
    try clear c6
    try clear p6
    try clear q6
    try clear hx6
    try clear qi6
    try clear c7
    try clear jv
    try clear j1x
    try clear c8
    try clear p2
    try clear p6
    try clear q6
    obtain ⟨j1z,jj,rfl,rfl,HA,HK2,⟨m2,rfl⟩⟩:=hrel
    cases gk with
    | zero=>exact absurd HA.out (by simp [spec_l1Read.l0])
    | succ k2 =>
      have H:=HA.out
      clear HA
      simp only [spec_l1Read.l0] at H
      by_cases c9:jj < (a0.size:Int)
      rotate_left
      · rw [if_neg c9] at H
        have j2l:=decide_eq_false c9
        clear c9
        obtain rfl:=Option.some.inj H
        go_wp2
        go_ret
        exact ⟨rt_,d0_⟩
      rw [if_pos c9] at H
      have j2l:=decide_eq_true c9
      clear c9
      by_cases c10:0≤jj
      rotate_left
      · rw [if_neg c10] at H
        cases H
      rw [if_pos c10] at H
      have j4y:=decide_eq_true c10
      clear c10
      by_cases c12:(bt a0 jj) < 48
      · rw [if_pos c12] at H
        have j1p:=decide_eq_true c12
        clear c12
        obtain rfl:=Option.some.inj H
        have p11:0≤(jj:Int):=odt_
        have q11:jj < (a0.size:Int):=odt_
        have hx11:=bt_at a0 jj
        replace p11:=eq_true p11
        replace q11:=eq_true q11
        go_wp2
        go_ret
        exact ⟨rt_,d0_⟩
      rw [if_neg c12] at H
      have j1p:=decide_eq_false c12
      clear c12
      by_cases c14:(bt a0 jj) > 57
      · rw [if_pos c14] at H
        have j2r:=decide_eq_true c14
        clear c14
        obtain rfl:=Option.some.inj H
        have p11:0≤(jj:Int):=odt_
        have q11:jj < (a0.size:Int):=odt_
        have hx11:=bt_at a0 jj
        replace p11:=eq_true p11
        replace q11:=eq_true q11
        have p13:0≤(jj:Int):=odt_
        have q13:jj < (a0.size:Int):=odt_
        have hx13:=bt_at a0 jj
        replace p13:=eq_true p13
        replace q13:=eq_true q13
        go_wp2
        go_ret
        exact ⟨rt_,d0_⟩
      rw [if_neg c14] at H
      have j2r:=decide_eq_false c14
      clear c14
      have H':=ai_ H
      clear H
      have p11:0≤(jj:Int):=odt_
      have q11:jj < (a0.size:Int):=odt_
      have hx11:=bt_at a0 jj
      replace p11:=eq_true p11
      replace q11:=eq_true q11
      have p13:0≤(jj:Int):=odt_
      have q13:jj < (a0.size:Int):=odt_
      have hx13:=bt_at a0 jj
      replace p13:=eq_true p13
      replace q13:=eq_true q13
      have p15:0≤(jj:Int):=odt_
      have q15:jj < (a0.size:Int):=odt_
      have hx15:=bt_at a0 jj
      replace p15:=eq_true p15
      replace q15:=eq_true q15
      go_wp2
      go_roundg k2
      case measure=>have:=HJ1.out;have:=HK2.out;omega
      case rel=>exact ⟨(wrap64 ((wrap64 (10*j1z))+(((bt a0 jj) - 48) % 256))),(wrap64 (jj+1)),rt_,rt_,H',⟨by have:=HJ1.out;have:=HK2.out;omega⟩,d0_⟩
end Go.Proofs.YthdnodmidbcgpaaGreatDoor.QR
