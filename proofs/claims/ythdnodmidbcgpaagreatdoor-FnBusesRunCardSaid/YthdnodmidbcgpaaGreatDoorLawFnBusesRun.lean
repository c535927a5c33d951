import Derived.Test.YthdnodmidbcgpaaGreatDoorQRx19
import Derived.Test.YthdnodmidbcgpaaGreatDoorPureFnBusesRun
import Derived.Test.YthdnodmidbcgpaaGreatDoorCards
import Derived.Test.YthdnodmidbcgpaaGreatDoorTie
import Derived.WalkKit
import Derived.ProofKit
import Derived.OpenShut
import Derived.ShutString
import Derived.ChangeOld
import Derived.Below
import Derived.SizedLaws
import Derived.LaidMore
import Derived.LaidHandle
import Derived.MakeChecks
import Derived.Lib.LaidTab
import Derived.Stop.LaidErr
import Derived.SevenTiedAt
import Derived.Test.YthdnodmidbcgpaaGreatDoorXLaid
namespace Go.Proofs.YthdnodmidbcgpaaGreatDoor.fnBusesRun
open Go.ChangeShapes Go.WideShapes Go.ChangeAt Go.RowKit
open Go.ChangeMaps (open_string shut_string)
open Go.Proofs.YthdnodmidbcgpaaGreatDoorW.PrintWords (Kd Drawn0)
open Go.Proofs.YthdnodmidbcgpaaGreatDoor.X Go.Proofs.YthdnodmidbcgpaaGreatDoor.QR
set_option linter.unusedVariables false
theorem own:ownKnob Tryz.prog.godebug=none:=by kernel_rfl
theorem laidOut:laidOutB Tryz.prog=true:=by kernel_rfl
def laidL:List (String × DataW Unit):=[("math/bits.deBruijn32tab", Rows.laid_math_bits_deBruijn32tab),("math/bits.deBruijn64tab", Rows.laid_math_bits_deBruijn64tab),("internal/strconv.uint64pow10", Rows.laid_internal_strconv_uint64pow10),("unicode/utf8.acceptRanges", Rows.laid_unicode_utf8_acceptRanges),("strconv.ErrRange", Rows.laid_strconv_ErrRange),("strconv.ErrSyntax", Rows.laid_strconv_ErrSyntax),("unicode/utf8.first", Rows.laid_unicode_utf8_first)]
noncomputable def laidWorld (os:Os):World :=
  let w0:=World.doorLaid Tryz.prog 72 os
  { w0 with heap:=w0.heap.modify 4 fun
      | .cells _ t frozen => .cells (Go.Pinned.utf8FirstZ.map fun (n:Nat)=>Value.int .u8 (n:Int)).toArray t frozen
      | o=>o }
theorem door_met (os:Os) (args:Array Value):laidMetH Tryz.prog laidL ((laidWorld os).forCall (fun _ _=>0) ⟨#[],args,[]⟩).memory :=
  laidMetH_of_parts3 (fuel:=8) (laidMet_of_run' 8 (by kernel_rfl) (by kernel_rfl)) (by kernel_rfl) (by kernel_rfl)
set_option maxRecDepth 100000 in
theorem lifted (os:Os) (started:os.Started) (H:Type) (enc:TypeId × Value→H) :
    ReturnsInHanded {} Tryz.checked os 3 .any (fun w args=>(Rows.fnBusesRunSpec.pre enc Tryz.prog Tryz.f3 Rows.fnBusesRunRow.domain false w args∧laidMetH Tryz.prog laidL w)∧sizedMet enc Tryz.prog Tryz.f3 (OpenSpec.ofChange Rows.fnBusesRunSpec) false w args)
      (Rows.fnBusesRunSpec.post enc Tryz.prog Tryz.f3 false true false false):=by
  refine Go.Proofs.YthdnodmidbcgpaaGreatDoor.XText.change_and_shaped (C:=Tryz.checked) (X:=fun w _=>laidMetH Tryz.prog laidL w) (fun _ _ _ hh h=>h.of_heap hh) own started (by kernel_rfl) Tryz.func3
    (ChangeSpec.witness_shaped (enc:=enc) (C:=Tryz.checked) (os:=os) (X:=fun w _=>laidMetH Tryz.prog laidL w) false (laidWorld os) #[.slice none 0 0,.slice none 0 0] 8 rfl (World.shaped_of_RefB (by kernel_rfl) (by kernel_rfl)) (by kernel_rfl) (by kernel_rfl) (by kernel_rfl) (door_met os _)) ?_
  intro W base args ds gs before hval0 hW hsz0 hL hsh
  have hL1:laidMet Tryz.prog laidL W:=by rw [MakeChecks.laidMetH_plain _ _ _ (by kernel_rfl)] at hL;exact hL
  unfold laidL at hL1
  have hT1:Go.Proofs.YthdnodmidbcgpaaGreatDoor.XText.T1 W:=Go.Proofs.YthdnodmidbcgpaaGreatDoor.XText.T1_of (laidMet.tail (laidMet.tail hL1))
  have hT:Go.Proofs.YthdnodmidbcgpaaGreatDoor.XText.T2 W:=⟨hT1,Go.Proofs.YthdnodmidbcgpaaGreatDoor.XText.maxLen_of hsh,Go.Proofs.YthdnodmidbcgpaaGreatDoor.XText.syntax_of (laidMet.tail (laidMet.tail (laidMet.tail (laidMet.tail (laidMet.tail hL1))))),Go.Proofs.YthdnodmidbcgpaaGreatDoor.XText.range_of (laidMet.tail (laidMet.tail (laidMet.tail (laidMet.tail hL1))))⟩
  have hsz:(DataW.weightsEach Tryz.prog (Tryz.f3.params.toList ++ Rows.fnBusesRunSpec.plain.varTypes Tryz.prog) (ds ++ gs)).all (· ≤ reachBytes)=true:=hsz0
  have hval:∀ (j:Nat) t v,Tryz.f3.params[j]?=some t→args[j]?=some v→Value.okWide Tryz.prog W .any base t v:=hval0
  have hW':=hW
  obtain ⟨p,q,hA0,hV,rfl,hfz,hnd⟩:=hW
  have hA:DataW.TrodAll enc Tryz.prog W 0 (fun _=>true) true Tryz.f3.params.toList args.toList ds p:=hA0
  rw [Tryz.params3] at hA hval hsz
  obtain ⟨v0,vs0,d0,ds0,p0,q0,hargs,rfl,rfl,h0,r0⟩:=trodAll_cons hA
  obtain ⟨v1,vs1,d1,ds1,p1,q1,rfl,rfl,rfl,h1,r1⟩:=trodAll_cons r0
  obtain ⟨rfl,rfl,rfl⟩:=trodAll_nil r1
  obtain rfl:args=#[v0,v1]:=by cases args;simp_all
  obtain ⟨rfl,rfl⟩:=trodVars_none hV
  have k0:=h0
  have lt0:∀ x∈p0,x.block < W.heap.size:=by obtain ⟨m,hm⟩:=k0;exact DataW.trod_lt m _ _ _ hm
  obtain ⟨A0,c0,l0,rfl,hr0,hc0,hg0⟩:=arg_slice Tryz.underlying22 (show Opens Tryz.prog (Kd.slice 5 (Kd.int .u8)) 22 _ from (opens_slice Tryz.underlying22 (opens_int Tryz.underlying5) (by kernel_rfl))) (hval 0 22 v0 rfl rfl) h0
  have k1:=h1
  have lt1:∀ x∈p1,x.block < W.heap.size:=by obtain ⟨m,hm⟩:=k1;exact DataW.trod_lt m _ _ _ hm
  obtain ⟨A1,c1,l1,rfl,hr1,hc1,hg1⟩:=arg_slice Tryz.underlying22 (show Opens Tryz.prog (Kd.slice 5 (Kd.int .u8)) 22 _ from (opens_slice Tryz.underlying22 (opens_int Tryz.underlying5) (by kernel_rfl))) (hval 1 22 v1 rfl rfl) h1
  clear hA0 hval0 hsz0 hsz
  obtain ⟨k,hk⟩:=Pure.FnBusesRun l0 l1 hg0.1 (fun x_ hx_=>(hg0.2 x_ hx_)) hg1.1 (fun x_ hx_=>(hg1.2 x_ hx_))
  refine (lw_.calls k A0 c0 l0 A1 c1 l1 true W hr0 hc0 hr1 hc1 hk rfl hT).mono fun e W' ⟨he,bel⟩=>?_
  subst he
  exact ⟨_,rfl,_,_,_,[],_,[],hW',trodAll_mk1 (shut_bool Tryz.underlying4 _),(trodAll_cons_mk (Below.trod laidOut (by kernel_rfl) (of_decide_eq_true (by kernel_rfl)) k0 bel lt0) (trodAll_cons_mk (Below.trod laidOut (by kernel_rfl) (of_decide_eq_true (by kernel_rfl)) k1 bel lt1) trodAll_mk0)),rfl,bel.frame _,fun h=>by cases h⟩
theorem over:Rows.fnBusesRunRow.holds Tryz.pinned (OpenSpec.ofChange Rows.fnBusesRunSpec) :=
  OpenClaim.holds_of_wide 3 Tryz.f3 rfl rfl rfl rfl rfl rfl rfl ⟨rfl,rfl,rfl,rfl,rfl⟩ rfl rfl rfl rfl rfl (by kernel_rfl) Tryz.func3 (by kernel_rfl)
    (of_decide_eq_true (by kernel_rfl)) (by unfold Func.isWrapper;first|(rw [if_pos (by decide +kernel)];kernel_rfl)|(rw [if_neg (by decide +kernel)];exact ⟨rfl,rfl⟩))
    (fun os started H enc _=>lifted os started H enc)
theorem proved:Rows.FnBusesRunCardSaid :=
  Claim7.holds_tied_plain_at .later [] [.data,.data,.data,.data,.sentinel,.sentinel,.pinned] true (true, "7b83286aa57d4593924d34a949715f63c8b4b3df9ca75ad70a8858a5af5b4512") true
    over (fun _ h=>by cases h) (by kernel_rfl) (fun _ h=>by cases h) fnBusesRun_row_tie rfl ⟨rfl,rfl⟩ (by kernel_rfl) rfl
    (fun f fn hf hfn=>by
      obtain rfl:f=3:=Option.some.inj ((show Tryz.prog.funcNamed "loop.example/g01335/laws.FnBusesRun" = some 3 by kernel_rfl).symm.trans hf) |>.symm
      obtain rfl:fn=Tryz.f3:=(Option.some.inj (Tryz.func3.symm.trans hfn)).symm
      exact ⟨by kernel_rfl,fun j t ht=>by
        rw [Tryz.params3] at ht
        have hm:t∈[22,22]:=by simpa using Array.mem_of_getElem? ht
        have hall:([22,22].all fun u => !Tryz.prog.wantsStandIn u)=true:=by kernel_rfl
        exact (show Tryz.prog.wantsStandIn t=false by simpa using List.all_eq_true.1 hall t hm)⟩)
    (by kernel_rfl)
end Go.Proofs.YthdnodmidbcgpaaGreatDoor.fnBusesRun
namespace Go.Proofs.YthdnodmidbcgpaaGreatDoor
theorem fnBusesRun_holds:Rows.FnBusesRunCardSaid:=fnBusesRun.proved
end Go.Proofs.YthdnodmidbcgpaaGreatDoor
