/- Part of the proof: a machine over plain data, its proof, the functions of the program run on symbols, what they answer. Condition: none. -/
import Derived.Test.YtcdjbelccndadaaGreatDoorRows
import Derived.Test.YtcdjbelccndadaaGreatDoorTie
import Derived.Test.YtcdjbelccndadaaGreatDoorCards
import Derived.ProofKit
import Derived.LaidMore
import Derived.OpenShut
import Derived.ShutString
import Derived.ChangeOld
import Derived.Below
import Derived.Stop.LaidErr
import Derived.Stop.Joined
import Derived.SevenTiedAt
import Derived.Lib.LaidTab
import Derived.Test.YtcdjbelccndadaaGreatDoorZz10
import Derived.Test.YtcdjbelccndadaaGreatDoorZz13
set_option linter.unusedVariables false
set_option linter.unusedSimpArgs false
namespace Go.Proofs.YtcdjbelccndadaaGreatDoor.fnExactIsPart
section
open Go.ChangeShapes Go.WideShapes Go.ChangeAt Go.RowKit
open Go.ChangeMaps (open_string shut_string)
theorem own:ownKnob Tryz.prog.godebug=none:=by kernel_rfl
theorem laidOut:laidOutB Tryz.prog=true:=by kernel_rfl
theorem mixed:Tryz.prog.follows .mixedOrders=true:=by kernel_rfl
def rel:List (TypeId×Nat):=[(3,0),(4,1),(9,2),(22,24),(23,7),(39,3),(51,14),(53,15),(54,22),(56,23),(59,6),(117,19),(119,20),(121,21),(153,13),(177,17),(179,18),(202,16)]
theorem rel_ok:relOkK Tryz.prog rel=true:=by kernel_rfl
theorem door_met(os:Os)(args:Array Value):laidMetH Tryz.prog Rows.fnExactIsPartRow.laid ((World.doorLaid Tryz.prog 4000 os).forCall (fun _ _=>0) ⟨#[],args,[]⟩).memory:=
 laidMetH_of_parts3 (fuel:=8) (laidMet_of_run' 8 (by kernel_rfl) (by kernel_rfl)) (by kernel_rfl) (by kernel_rfl)
theorem lay_of{W:World}(h:laidMetH Tryz.prog Rows.fnExactIsPartRow.laid W):Lay Tryz.prog W []:=by
 rw[MakeChecks.laidMetH_plain _ _ _ (by kernel_rfl)]at h;intro g hg;have ht:Lib.TabIs Tryz.prog W tabName .u64 Lib.pow10Tab:=Lib.tabIs_of_head (g:=0) (t:=232) (e:=224) (n:=20) (by kernel_rfl) (by kernel_rfl) (by kernel_rfl) (by kernel_rfl) (by kernel_rfl) (by kernel_rfl) (h.tail.tail);exact⟨lt_of_cell (ht.cell hg 0 (by decide)),by simp,ht⟩
set_option maxRecDepth 100000 in
theorem lifted(os:Os)(started:os.Started)(H:Type)(enc:TypeId×Value→H) :
  ReturnsInHanded {} Tryz.checked os 3 .any (fun w args=>(Rows.fnExactIsPartSpec.pre enc Tryz.prog Tryz.f3 Rows.fnExactIsPartRow.domain false w args∧laidMetH Tryz.prog Rows.fnExactIsPartRow.laid w)∧sizedMet enc Tryz.prog Tryz.f3 (OpenSpec.ofChange Rows.fnExactIsPartSpec) false w args) (Rows.fnExactIsPartSpec.post enc Tryz.prog Tryz.f3 false true false false):=by
 refine returnsInHanded_of_change_and (C:=Tryz.checked) (X:=fun w _=>laidMetH Tryz.prog Rows.fnExactIsPartRow.laid w) (fun _ _ _ hh h=>h.of_heap hh) own started (by kernel_rfl) Tryz.func3
  (ChangeSpec.witness_shaped (enc:=enc) (C:=Tryz.checked) (os:=os) (X:=fun w _=>laidMetH Tryz.prog Rows.fnExactIsPartRow.laid w) false (World.doorLaid Tryz.prog 4000 os) #[(Value.slice none 0 0),(Value.slice none 0 0),(Value.slice none 0 0)] 8 rfl (World.shaped_of_RefB (by kernel_rfl) (by kernel_rfl)) (by kernel_rfl) (by kernel_rfl) (by kernel_rfl) (door_met os _)) ?_
 intro W base args ds gs before hval0 hW hcnd _ hL _;have hval:∀(j:Nat) t v,Tryz.f3.params[j]?=some t→args[j]?=some v→Value.okWide Tryz.prog W .any base t v:=hval0;have hW':=hW;obtain⟨p,q,hA0,hV,rfl,hfz,hnd⟩:=hW;have hA:DataW.TrodAll enc Tryz.prog W 0 (fun _=>true) true Tryz.f3.params.toList args.toList ds p:=hA0;rw[Tryz.params3]at hA hval;obtain⟨v0,vs0,d0,ds0,p0,q0,hargs,rfl,rfl,h0,r0⟩:=trodAll_cons hA;obtain⟨v1,vs1,d1,ds1,p1,q1,rfl,rfl,rfl,h1,r1⟩:=trodAll_cons r0;obtain⟨v2,vs2,d2,ds2,p2,q2,rfl,rfl,rfl,h2,r2⟩:=trodAll_cons r1;obtain⟨rfl,rfl,rfl⟩:=trodAll_nil r2;obtain rfl:args=#[v0,v1,v2]:=by cases args;simp_all
 obtain⟨rfl,rfl⟩:=trodVars_none hV;have k0:=h0;have lt0:∀x∈p0,x.block < W.heap.size:=by obtain⟨m,hm⟩:=k0;exact DataW.trod_lt m _ _ _ hm
 obtain⟨a0,n0,c0,rfl⟩:=okWide_slice Tryz.underlying22 (hval 0 22 v0 rfl rfl);obtain⟨x0,F0,okx0,rp0⟩:∃ds F,OkC maxLen (flay 24) ds∧RpC W ds [.slice a0 n0 c0] F:=by
  obtain⟨fuel,hf⟩:=h0;exact readK (relK_of rel_ok) fuel 22 24 _ _ hf (by decide)
 obtain⟨y0,ys0,rfl,oy0,on0⟩:=OkC.cons_inv (t:=.list 12) (ts:=[]) okx0;obtain rfl:=on0.nil_inv;obtain⟨xs0,rfl,lb0,ok0⟩:=oy0.list_inv;have k1:=h1;have lt1:∀x∈p1,x.block < W.heap.size:=by obtain⟨m,hm⟩:=k1;exact DataW.trod_lt m _ _ _ hm
 obtain⟨a1,n1,c1,rfl⟩:=okWide_slice Tryz.underlying23 (hval 1 23 v1 rfl rfl);obtain⟨x1,F1,okx1,rp1⟩:∃ds F,OkC maxLen (flay 7) ds∧RpC W ds [.slice a1 n1 c1] F:=by
  obtain⟨fuel,hf⟩:=h1;exact readK (relK_of rel_ok) fuel 23 7 _ _ hf (by decide)
 obtain⟨y1,ys1,rfl,oy1,on1⟩:=OkC.cons_inv (t:=.list 2) (ts:=[]) okx1;obtain rfl:=on1.nil_inv;obtain⟨xs1,rfl,lb1,ok1⟩:=oy1.list_inv;have k2:=h2;have lt2:∀x∈p2,x.block < W.heap.size:=by obtain⟨m,hm⟩:=k2;exact DataW.trod_lt m _ _ _ hm
 obtain⟨a2,n2,c2,rfl⟩:=okWide_slice Tryz.underlying23 (hval 2 23 v2 rfl rfl);obtain⟨x2,F2,okx2,rp2⟩:∃ds F,OkC maxLen (flay 7) ds∧RpC W ds [.slice a2 n2 c2] F:=by
  obtain⟨fuel,hf⟩:=h2;exact readK (relK_of rel_ok) fuel 23 7 _ _ hf (by decide)
 obtain⟨y2,ys2,rfl,oy2,on2⟩:=OkC.cons_inv (t:=.list 2) (ts:=[]) okx2;obtain rfl:=on2.nil_inv;obtain⟨xs2,rfl,lb2,ok2⟩:=oy2.list_inv;clear hA0 hval0;have hc:Calls Tryz.prog 3 #[.slice a0 n0 c0,.slice a1 n1 c1,.slice a2 n2 c2] W fun e w'=>e=.returned (.bool true)∧Below W.heap.size W w':=law_lim (f:=332) mixed okJn okAll (law_FnExactIsPart xs0 lb0 ok0 xs1 lb1 ok1 xs2 lb2 ok2) (lay_of hL) (argRs_cons (argR_one rp0) (argRs_cons (argR_one rp1) (argRs_cons (argR_one rp2) argRs_nil)));refine hc.mono fun e W' ⟨he,bel⟩=>?_;subst he;exact⟨_,rfl,_,_,_,[],_,[],hW',trodAll_mk1 (shut_bool Tryz.underlying4 _),(trodAll_cons_mk (Below.trod laidOut (by kernel_rfl) (of_decide_eq_true (by kernel_rfl)) k0 bel lt0) (trodAll_cons_mk (Below.trod laidOut (by kernel_rfl) (of_decide_eq_true (by kernel_rfl)) k1 bel lt1) (trodAll_cons_mk (Below.trod laidOut (by kernel_rfl) (of_decide_eq_true (by kernel_rfl)) k2 bel lt2) trodAll_mk0))),rfl,bel.frame _,fun h=>by cases h⟩
theorem over:Rows.fnExactIsPartRow.holds Tryz.pinned (OpenSpec.ofChange Rows.fnExactIsPartSpec):=
 OpenClaim.holds_of_wide 3 Tryz.f3 rfl rfl rfl rfl rfl rfl rfl ⟨rfl,rfl,rfl,rfl,rfl⟩ rfl rfl rfl rfl rfl (by kernel_rfl) Tryz.func3 (by kernel_rfl)
  (of_decide_eq_true (by kernel_rfl)) (by unfold Func.isWrapper;first|(rw[if_pos (by decide +kernel)];kernel_rfl)|(rw[if_neg (by decide +kernel)];exact⟨rfl,rfl⟩))
  (fun os started H enc _=>lifted os started H enc)
theorem proved:Rows.FnExactIsPartCardSaid:=
 Claim7.holds_tied_plain_at .later [] [.data,.data,.data] true (true,"f7fcdf0f21de66cdffa9a08c38b5cb3c9e36ccb28f9dcf73d7683c2a684f2b0e") false
  over (fun _ h=>by cases h) (by kernel_rfl) (fun _ h=>by cases h) fnExactIsPart_row_tie rfl ⟨rfl,rfl⟩ (by kernel_rfl) rfl
  (fun f fn hf hfn=>by
   obtain rfl:f=3:=Option.some.inj ((show Tryz.prog.funcNamed "loop.example/g03013/laws.FnExactIsPart"=some 3 by kernel_rfl).symm.trans hf) |>.symm;obtain rfl:fn=Tryz.f3:=(Option.some.inj (Tryz.func3.symm.trans hfn)).symm;exact⟨by kernel_rfl,fun j t ht=>by
    rw[Tryz.params3]at ht;have hm:t∈[22,23,23]:=by simpa using Array.mem_of_getElem? ht
    have hall:([22,23,23].all fun u=>!Tryz.prog.wantsStandIn u)=true:=by kernel_rfl
    exact (show Tryz.prog.wantsStandIn t=false by simpa using List.all_eq_true.1 hall t hm)⟩)
  (by kernel_rfl)
#print axioms proved
end
end Go.Proofs.YtcdjbelccndadaaGreatDoor.fnExactIsPart
