/- Part of the proof: a machine over plain data, its proof, the functions of the program run on symbols, what they answer. Condition: none. -/
import Derived.Test.YtcdjbelccndadaaGreatDoorRows
import Derived.Test.YtcdjbelccndadaaGreatDoorTie
import Derived.Test.YtcdjbelccndadaaGreatDoorCards
import Derived.ProofKit
import Derived.LaidMore
import Derived.OpenShut
import Derived.ShutString
import Derived.ChangeOld
import Derived.Below
import Derived.Stop.LaidErr
import Derived.Stop.Joined
import Derived.SevenTiedAt
import Derived.Lib.LaidTab
import Derived.Test.YtcdjbelccndadaaGreatDoorZy13
import Derived.Test.YtcdjbelccndadaaGreatDoorZy16
set_option linter.unusedVariables false
set_option linter.unusedSimpArgs false
open List renaming all_eq_true->aS
open Option.some renaming inj->eM
namespace Go.Proofs.YtcdjbelccndadaaGreatDoor.fnExactViewTree
section
open Go.ChangeShapes Go.WideShapes Go.ChangeAt Go.RowKit
open Go.ChangeMaps (open_string shut_string)
theorem own:ownKnob Tryz.prog.godebug=none:=by kernel_rfl
theorem laidOut:laidOutB Tryz.prog=true:=by kernel_rfl
theorem mixed:Tryz.prog.follows .mixedOrders=true:=by kernel_rfl
def rel:List (TypeId×Nat):=[(3,0),(4,1),(9,2),(22,24),(23,7),(38,5),(39,3),(51,14),(53,15),(54,22),(56,23),(59,6),(79,4),(117,19),(119,20),(121,21),(153,13),(177,17),(179,18),(202,16)]
theorem FL:Sc Tryz.prog rel=true:=by kernel_rfl
theorem PX(os:Os)(args:Array Value):laidMetH Tryz.prog Rows.fnExactViewTreeRow.laid ((World.doorLaid Tryz.prog 4000 os).forCall (λ_ _=>0) ⟨#[],args,[]⟩).memory:=
 laidMetH_of_parts3 (fuel:=8) (laidMet_of_run' 8 (by kernel_rfl) (by kernel_rfl)) (by kernel_rfl) (by kernel_rfl)
theorem YD{W:World}(h:laidMetH Tryz.prog Rows.fnExactViewTreeRow.laid W):OU Tryz.prog W []:=by
 rw[MakeChecks.laidMetH_plain _ _ _ (by kernel_rfl)]at h;intro g hg;have ht:Lib.TabIs Tryz.prog W zk .u64 Lib.pow10Tab:=Lib.tabIs_of_head (g:=0) (t:=232) (e:=224) (n:=20) (by kernel_rfl) (by kernel_rfl) (by kernel_rfl) (by kernel_rfl) (by kernel_rfl) (by kernel_rfl) (h.tail.tail);exact⟨A8 (ht.cell hg 0 (by decide)),by simp,ht⟩
set_option maxRecDepth 100000 in
theorem lifted(os:Os)(started:os.Started)(H:Type)(enc:TypeId×Value->H) :
  ReturnsInHanded {} Tryz.checked os 5 .any (λw args=>(Rows.fnExactViewTreeSpec.pre enc Tryz.prog Tryz.f5 Rows.fnExactViewTreeRow.domain false w args/\laidMetH Tryz.prog Rows.fnExactViewTreeRow.laid w)/\sizedMet enc Tryz.prog Tryz.f5 (OpenSpec.ofChange Rows.fnExactViewTreeSpec) false w args) (Rows.fnExactViewTreeSpec.post enc Tryz.prog Tryz.f5 false true false false):=by
 refine returnsInHanded_of_change_and (C:=Tryz.checked) (X:=λw _=>laidMetH Tryz.prog Rows.fnExactViewTreeRow.laid w) (λ_ _ _ hh h=>h.of_heap hh) own started (by kernel_rfl) Tryz.func5
  (ChangeSpec.witness_shaped (enc:=enc) (C:=Tryz.checked) (os:=os) (X:=λw _=>laidMetH Tryz.prog Rows.fnExactViewTreeRow.laid w) false (World.doorLaid Tryz.prog 4000 os) #[(Value.slice none 0 0),(Value.slice none 0 0),(Value.slice none 0 0),(Value.slice none 0 0)] 8 rfl (World.shaped_of_RefB (by kernel_rfl) (by kernel_rfl)) (by kernel_rfl) (by kernel_rfl) (by kernel_rfl) (PX os _)) ?_
 intro W base args ds gs before WI hW aiD _ hL _;have HE:∀(j:Nat) t v,Tryz.f5.params[j]?=some t->args[j]?=some v->Value.okWide Tryz.prog W .any base t v:=WI;have hW':=hW;obtain⟨p,q,hA0,hV,rfl,Gn,jm⟩:=hW;have hA:DataW.TrodAll enc Tryz.prog W 0 (λ_=>true) true Tryz.f5.params.toList args.toList ds p:=hA0;rw[Tryz.params5]at hA HE;obtain⟨v0,vs0,d0,ds0,p0,q0,aiA,rfl,rfl,h0,r0⟩:=trodAll_cons hA;obtain⟨v1,vs1,d1,ds1,p1,q1,rfl,rfl,rfl,h1,r1⟩:=trodAll_cons r0;obtain⟨v2,vs2,d2,ds2,p2,q2,rfl,rfl,rfl,h2,r2⟩:=trodAll_cons r1;obtain⟨v3,vs3,d3,ds3,p3,q3,rfl,rfl,rfl,h3,r3⟩:=trodAll_cons r2;obtain⟨rfl,rfl,rfl⟩:=trodAll_nil r3;obtain rfl:args=#[v0,v1,v2,v3]:=by cases args;simp_all
 obtain⟨rfl,rfl⟩:=trodVars_none hV;have k0:=h0;have lt0:∀x∈p0,x.block < W.heap.size:=by obtain⟨m,hm⟩:=k0;exact DataW.trod_lt m _ _ _ hm
 obtain⟨a0,n0,c0,rfl⟩:=okWide_slice Tryz.underlying22 (HE 0 22 v0 rfl rfl);obtain⟨x0,F0,ahj,rp0⟩:∃ds F,eE maxLen (pB 24) ds/\eb W ds [.slice a0 n0 c0] F:=by
  obtain⟨fuel,hf⟩:=h0;exact DG (zh FL) fuel 22 24 _ _ hf (by decide)
 obtain⟨y0,ys0,rfl,oy0,on0⟩:=eE.cons_inv (t:=.list 12) (ts:=[]) ahj;obtain rfl:=on0.iT;obtain⟨xs0,rfl,lb0,ok0⟩:=oy0.fh;have k1:=h1;have lt1:∀x∈p1,x.block < W.heap.size:=by obtain⟨m,hm⟩:=k1;exact DataW.trod_lt m _ _ _ hm
 obtain⟨a1,n1,c1,rfl⟩:=okWide_slice Tryz.underlying23 (HE 1 23 v1 rfl rfl);obtain⟨x1,F1,ahk,rp1⟩:∃ds F,eE maxLen (pB 7) ds/\eb W ds [.slice a1 n1 c1] F:=by
  obtain⟨fuel,hf⟩:=h1;exact DG (zh FL) fuel 23 7 _ _ hf (by decide)
 obtain⟨y1,ys1,rfl,oy1,on1⟩:=eE.cons_inv (t:=.list 2) (ts:=[]) ahk;obtain rfl:=on1.iT;obtain⟨xs1,rfl,lb1,ok1⟩:=oy1.fh;have k2:=h2;have lt2:∀x∈p2,x.block < W.heap.size:=by obtain⟨m,hm⟩:=k2;exact DataW.trod_lt m _ _ _ hm
 obtain⟨a2,n2,c2,rfl⟩:=okWide_slice Tryz.underlying38 (HE 2 38 v2 rfl rfl);obtain⟨x2,F2,ahl,rp2⟩:∃ds F,eE maxLen (pB 5) ds/\eb W ds [.slice a2 n2 c2] F:=by
  obtain⟨fuel,hf⟩:=h2;exact DG (zh FL) fuel 38 5 _ _ hf (by decide)
 obtain⟨y2,ys2,rfl,oy2,on2⟩:=eE.cons_inv (t:=.list 1) (ts:=[]) ahl;obtain rfl:=on2.iT;obtain⟨IT,rfl,lb2,ok2⟩:=oy2.fh;have k3:=h3;have lt3:∀x∈p3,x.block < W.heap.size:=by obtain⟨m,hm⟩:=k3;exact DataW.trod_lt m _ _ _ hm
 obtain⟨a3,n3,c3,rfl⟩:=okWide_slice Tryz.underlying39 (HE 3 39 v3 rfl rfl);obtain⟨x3,F3,ahm,rp3⟩:∃ds F,eE maxLen (pB 3) ds/\eb W ds [.slice a3 n3 c3] F:=by
  obtain⟨fuel,hf⟩:=h3;exact DG (zh FL) fuel 39 3 _ _ hf (by decide)
 obtain⟨y3,ys3,rfl,oy3,on3⟩:=eE.cons_inv (t:=.list 0) (ts:=[]) ahm;obtain rfl:=on3.iT;obtain⟨xs3,rfl,lb3,ok3⟩:=oy3.fh;clear hA0 WI;have hc:Calls Tryz.prog 5 #[.slice a0 n0 c0,.slice a1 n1 c1,.slice a2 n2 c2,.slice a3 n3 c3] W λe w'=>e=.returned (.bool true)/\Below W.heap.size W w':=RF (f:=345) mixed ahh acy acx (tz xs0 lb0 ok0 xs1 lb1 ok1 IT lb2 ok2 xs3 lb3 ok3) (YD hL) (pW (uP rp0) (pW (uP rp1) (pW (uP rp2) (pW (uP rp3) M9))));refine hc.mono λe W' ⟨he,Gj⟩=>?_;subst he;exact⟨_,rfl,_,_,_,[],_,[],hW',trodAll_mk1 (shut_bool Tryz.underlying4 _),(trodAll_cons_mk (Below.trod laidOut (by kernel_rfl) (of_decide_eq_true (by kernel_rfl)) k0 Gj lt0) (trodAll_cons_mk (Below.trod laidOut (by kernel_rfl) (of_decide_eq_true (by kernel_rfl)) k1 Gj lt1) (trodAll_cons_mk (Below.trod laidOut (by kernel_rfl) (of_decide_eq_true (by kernel_rfl)) k2 Gj lt2) (trodAll_cons_mk (Below.trod laidOut (by kernel_rfl) (of_decide_eq_true (by kernel_rfl)) k3 Gj lt3) trodAll_mk0)))),rfl,Gj.frame _,λh=>by cases h⟩
theorem over:Rows.fnExactViewTreeRow.holds Tryz.pinned (OpenSpec.ofChange Rows.fnExactViewTreeSpec):=
 OpenClaim.holds_of_wide 5 Tryz.f5 rfl rfl rfl rfl rfl rfl rfl ⟨rfl,rfl,rfl,rfl,rfl⟩ rfl rfl rfl rfl rfl (by kernel_rfl) Tryz.func5 (by kernel_rfl)
  (of_decide_eq_true (by kernel_rfl)) (by unfold Func.isWrapper;first|(rw[if_pos (by decide +kernel)];kernel_rfl)|(rw[if_neg (by decide +kernel)];exact⟨rfl,rfl⟩))
  (λos started H enc _=>lifted os started H enc)
theorem proved:Rows.FnExactViewTreeCardSaid:=
 Claim7.holds_tied_plain_at .later [] [.data,.data,.data] true (true,"f7fcdf0f21de66cdffa9a08c38b5cb3c9e36ccb28f9dcf73d7683c2a684f2b0e") false
  over (λ_ h=>by cases h) (by kernel_rfl) (λ_ h=>by cases h) fnExactViewTree_row_tie rfl ⟨rfl,rfl⟩ (by kernel_rfl) rfl
  (λf fn hf Et=>by
   obtain rfl:f=5:=eM ((show Tryz.prog.funcNamed "loop.example/g03013/laws.FnExactViewTree"=some 5 by kernel_rfl).symm.trans hf) |>.symm;obtain rfl:fn=Tryz.f5:=(eM (Tryz.func5.symm.trans Et)).symm;exact⟨by kernel_rfl,λj t ht=>by
    rw[Tryz.params5]at ht;have hm:t∈[22,23,38,39]:=by simpa using Array.mem_of_getElem? ht
    have jU:([22,23,38,39].all λu=>!Tryz.prog.wantsStandIn u)=true:=by kernel_rfl
    exact (show Tryz.prog.wantsStandIn t=false by simpa using aS.1 jU t hm)⟩)
  (by kernel_rfl)
#print axioms proved
end
end Go.Proofs.YtcdjbelccndadaaGreatDoor.fnExactViewTree
