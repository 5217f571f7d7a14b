/- Part of the proof: a machine over plain data, its proof, the functions of the program run on symbols, what they answer. Condition: none. -/
import Derived.Test.YtcdjbelccndadaaGreatDoorRows
import Derived.Test.YtcdjbelccndadaaGreatDoorTie
import Derived.Test.YtcdjbelccndadaaGreatDoorCards
import Derived.ProofKit
import Derived.LaidMore
import Derived.OpenShut
import Derived.ShutString
import Derived.ChangeOld
import Derived.Below
import Derived.Stop.LaidErr
import Derived.Stop.Joined
import Derived.SevenTiedAt
import Derived.Lib.LaidTab
import Derived.Test.YtcdjbelccndadaaGreatDoorZz13
import Derived.Test.YtcdjbelccndadaaGreatDoorZz16
set_option linter.unusedVariables false
set_option linter.unusedSimpArgs false
open List renaming all_eq_true->aS
open Option.some renaming inj->eJ
namespace Go.Proofs.YtcdjbelccndadaaGreatDoor.fnExactCommonTree
section
open Go.ChangeShapes Go.WideShapes Go.ChangeAt Go.RowKit
open Go.ChangeMaps (open_string shut_string)
theorem own:ownKnob Tryz.prog.godebug=none:=by kernel_rfl
theorem laidOut:laidOutB Tryz.prog=true:=by kernel_rfl
theorem mixed:Tryz.prog.follows .mixedOrders=true:=by kernel_rfl
def rel:List (TypeId×Nat):=[(3,0),(4,1),(9,2),(22,24),(23,7),(39,3),(51,14),(53,15),(54,22),(56,23),(59,6),(117,19),(119,20),(121,21),(153,13),(177,17),(179,18),(202,16)]
theorem Kq:R2 Tryz.prog rel=true:=by kernel_rfl
theorem PM(os:Os)(args:Array Value):laidMetH Tryz.prog Rows.fnExactCommonTreeRow.laid ((World.doorLaid Tryz.prog 4000 os).forCall (λ_ _=>0) ⟨#[],args,[]⟩).memory:=
 laidMetH_of_parts3 (fuel:=8) (laidMet_of_run' 8 (by kernel_rfl) (by kernel_rfl)) (by kernel_rfl) (by kernel_rfl)
theorem Yo{W:World}(h:laidMetH Tryz.prog Rows.fnExactCommonTreeRow.laid W):OO Tryz.prog W []:=by
 rw[MakeChecks.laidMetH_plain _ _ _ (by kernel_rfl)]at h;intro g hg;have ht:Lib.TabIs Tryz.prog W zt .u64 Lib.pow10Tab:=Lib.tabIs_of_head (g:=0) (t:=232) (e:=224) (n:=20) (by kernel_rfl) (by kernel_rfl) (by kernel_rfl) (by kernel_rfl) (by kernel_rfl) (by kernel_rfl) (h.tail.tail);exact⟨Bf (ht.cell hg 0 (by decide)),by simp,ht⟩
set_option maxRecDepth 100000 in
theorem lifted(os:Os)(started:os.Started)(H:Type)(enc:TypeId×Value->H) :
  ReturnsInHanded {} Tryz.checked os 4 .any (λw args=>(Rows.fnExactCommonTreeSpec.pre enc Tryz.prog Tryz.f4 Rows.fnExactCommonTreeRow.domain false w args/\laidMetH Tryz.prog Rows.fnExactCommonTreeRow.laid w)/\sizedMet enc Tryz.prog Tryz.f4 (OpenSpec.ofChange Rows.fnExactCommonTreeSpec) false w args) (Rows.fnExactCommonTreeSpec.post enc Tryz.prog Tryz.f4 false true false false):=by
 refine returnsInHanded_of_change_and (C:=Tryz.checked) (X:=λw _=>laidMetH Tryz.prog Rows.fnExactCommonTreeRow.laid w) (λ_ _ _ hh h=>h.of_heap hh) own started (by kernel_rfl) Tryz.func4
  (ChangeSpec.witness_shaped (enc:=enc) (C:=Tryz.checked) (os:=os) (X:=λw _=>laidMetH Tryz.prog Rows.fnExactCommonTreeRow.laid w) false (World.doorLaid Tryz.prog 4000 os) #[(Value.slice none 0 0),(Value.slice none 0 0),(Value.slice none 0 0)] 8 rfl (World.shaped_of_RefB (by kernel_rfl) (by kernel_rfl)) (by kernel_rfl) (by kernel_rfl) (by kernel_rfl) (PM os _)) ?_
 intro W base args ds gs before Wr hW aiq _ hL _;have J4:∀(j:Nat) t v,Tryz.f4.params[j]?=some t->args[j]?=some v->Value.okWide Tryz.prog W .any base t v:=Wr;have hW':=hW;obtain⟨p,q,hA0,hV,rfl,Gw,jk⟩:=hW;have hA:DataW.TrodAll enc Tryz.prog W 0 (λ_=>true) true Tryz.f4.params.toList args.toList ds p:=hA0;rw[Tryz.params4]at hA J4;obtain⟨v0,vs0,d0,ds0,p0,q0,ain,rfl,rfl,h0,r0⟩:=trodAll_cons hA;obtain⟨v1,ZS,d1,ds1,p1,q1,rfl,rfl,rfl,h1,r1⟩:=trodAll_cons r0;obtain⟨v2,vs2,d2,ds2,p2,q2,rfl,rfl,rfl,h2,r2⟩:=trodAll_cons r1;obtain⟨rfl,rfl,rfl⟩:=trodAll_nil r2;obtain rfl:args=#[v0,v1,v2]:=by cases args;simp_all
 obtain⟨rfl,rfl⟩:=trodVars_none hV;have k0:=h0;have lt0:∀x∈p0,x.block < W.heap.size:=by obtain⟨m,hm⟩:=k0;exact DataW.trod_lt m _ _ _ hm
 obtain⟨a0,n0,c0,rfl⟩:=okWide_slice Tryz.underlying22 (J4 0 22 v0 rfl rfl);obtain⟨x0,F0,ag8,rp0⟩:∃ds F,eO maxLen (qi 24) ds/\ee W ds [.slice a0 n0 c0] F:=by
  obtain⟨fuel,hf⟩:=h0;exact IC (FP Kq) fuel 22 24 _ _ hf (by decide)
 obtain⟨y0,ys0,rfl,oy0,on0⟩:=eO.cons_inv (t:=.list 12) (ts:=[]) ag8;obtain rfl:=on0.jX;obtain⟨xs0,rfl,lb0,ok0⟩:=oy0.fL;have k1:=h1;have lt1:∀x∈p1,x.block < W.heap.size:=by obtain⟨m,hm⟩:=k1;exact DataW.trod_lt m _ _ _ hm
 obtain⟨a1,n1,c1,rfl⟩:=okWide_slice Tryz.underlying23 (J4 1 23 v1 rfl rfl);obtain⟨x1,F1,ag9,rp1⟩:∃ds F,eO maxLen (qi 7) ds/\ee W ds [.slice a1 n1 c1] F:=by
  obtain⟨fuel,hf⟩:=h1;exact IC (FP Kq) fuel 23 7 _ _ hf (by decide)
 obtain⟨y1,ys1,rfl,oy1,on1⟩:=eO.cons_inv (t:=.list 2) (ts:=[]) ag9;obtain rfl:=on1.jX;obtain⟨xs1,rfl,lb1,ok1⟩:=oy1.fL;have k2:=h2;have lt2:∀x∈p2,x.block < W.heap.size:=by obtain⟨m,hm⟩:=k2;exact DataW.trod_lt m _ _ _ hm
 obtain⟨a2,n2,c2,rfl⟩:=okWide_slice Tryz.underlying23 (J4 2 23 v2 rfl rfl);obtain⟨x2,F2,ag_,rp2⟩:∃ds F,eO maxLen (qi 7) ds/\ee W ds [.slice a2 n2 c2] F:=by
  obtain⟨fuel,hf⟩:=h2;exact IC (FP Kq) fuel 23 7 _ _ hf (by decide)
 obtain⟨y2,ys2,rfl,oy2,on2⟩:=eO.cons_inv (t:=.list 2) (ts:=[]) ag_;obtain rfl:=on2.jX;obtain⟨I2,rfl,lb2,ok2⟩:=oy2.fL;clear hA0 Wr;have hc:Calls Tryz.prog 4 #[.slice a0 n0 c0,.slice a1 n1 c1,.slice a2 n2 c2] W λe w'=>e=.returned (.bool true)/\Below W.heap.size W w':=Rq (f:=338) mixed ag6 aco acn (qY xs0 lb0 ok0 xs1 lb1 ok1 I2 lb2 ok2) (Yo hL) (tK (zF rp0) (tK (zF rp1) (tK (zF rp2) M8)));refine hc.mono λe W' ⟨he,GP⟩=>?_;subst he;exact⟨_,rfl,_,_,_,[],_,[],hW',trodAll_mk1 (shut_bool Tryz.underlying4 _),(trodAll_cons_mk (Below.trod laidOut (by kernel_rfl) (of_decide_eq_true (by kernel_rfl)) k0 GP lt0) (trodAll_cons_mk (Below.trod laidOut (by kernel_rfl) (of_decide_eq_true (by kernel_rfl)) k1 GP lt1) (trodAll_cons_mk (Below.trod laidOut (by kernel_rfl) (of_decide_eq_true (by kernel_rfl)) k2 GP lt2) trodAll_mk0))),rfl,GP.frame _,λh=>by cases h⟩
theorem over:Rows.fnExactCommonTreeRow.holds Tryz.pinned (OpenSpec.ofChange Rows.fnExactCommonTreeSpec):=
 OpenClaim.holds_of_wide 4 Tryz.f4 rfl rfl rfl rfl rfl rfl rfl ⟨rfl,rfl,rfl,rfl,rfl⟩ rfl rfl rfl rfl rfl (by kernel_rfl) Tryz.func4 (by kernel_rfl)
  (of_decide_eq_true (by kernel_rfl)) (by unfold Func.isWrapper;first|(rw[if_pos (by decide +kernel)];kernel_rfl)|(rw[if_neg (by decide +kernel)];exact⟨rfl,rfl⟩))
  (λos started H enc _=>lifted os started H enc)
theorem proved:Rows.FnExactCommonTreeCardSaid:=
 Claim7.holds_tied_plain_at .later [] [.data,.data,.data] true (true,"f7fcdf0f21de66cdffa9a08c38b5cb3c9e36ccb28f9dcf73d7683c2a684f2b0e") false
  over (λ_ h=>by cases h) (by kernel_rfl) (λ_ h=>by cases h) fnExactCommonTree_row_tie rfl ⟨rfl,rfl⟩ (by kernel_rfl) rfl
  (λf fn hf EC=>by
   obtain rfl:f=4:=eJ ((show Tryz.prog.funcNamed "loop.example/g03013/laws.FnExactCommonTree"=some 4 by kernel_rfl).symm.trans hf) |>.symm;obtain rfl:fn=Tryz.f4:=(eJ (Tryz.func4.symm.trans EC)).symm;exact⟨by kernel_rfl,λj t ht=>by
    rw[Tryz.params4]at ht;have hm:t∈[22,23,23]:=by simpa using Array.mem_of_getElem? ht
    have jU:([22,23,23].all λu=>!Tryz.prog.wantsStandIn u)=true:=by kernel_rfl
    exact (show Tryz.prog.wantsStandIn t=false by simpa using aS.1 jU t hm)⟩)
  (by kernel_rfl)
#print axioms proved
end
end Go.Proofs.YtcdjbelccndadaaGreatDoor.fnExactCommonTree
