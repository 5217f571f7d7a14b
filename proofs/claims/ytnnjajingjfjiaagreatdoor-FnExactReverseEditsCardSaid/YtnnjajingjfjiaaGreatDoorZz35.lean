/- Part of the proof: a machine over plain data, its proof, the functions of the program run on symbols, what they answer. Condition: none. -/
import Derived.Test.YtnnjajingjfjiaaGreatDoorRows
import Derived.Test.YtnnjajingjfjiaaGreatDoorTie
import Derived.Test.YtnnjajingjfjiaaGreatDoorCards
import Derived.ProofKit
import Derived.LaidMore
import Derived.OpenShut
import Derived.ShutString
import Derived.ChangeOld
import Derived.Below
import Derived.Stop.LaidErr
import Derived.Stop.Joined
import Derived.SevenTiedAt
import Derived.Lib.LaidTab
import Derived.Test.YtnnjajingjfjiaaGreatDoorZz30
import Derived.Test.YtnnjajingjfjiaaGreatDoorZz34
set_option linter.unusedVariables false
set_option linter.unusedSimpArgs false
open Option renaming some->Z,none->O
open Bool renaming true->I,false->J
namespace Go.Proofs.YtnnjajingjfjiaaGreatDoor.fnExactReverseEdits
section
open Go.ChangeShapes Go.WideShapes Go.ChangeAt Go.RowKit
open Go.ChangeMaps (open_string shut_string)
theorem own:ownKnob Tryz.prog.godebug=O:=by kernel_rfl
theorem laidOut:laidOutB Tryz.prog=I:=by kernel_rfl
theorem mixed:Tryz.prog.follows .mixedOrders=I:=by kernel_rfl
def rel:M (TypeId×Nat):=[(3,0),(4,1),(9,2),(22,24),(23,7),(45,9),(74,14),(75,3),(77,15),(78,22),(80,23),(109,6),(112,8),(165,19),(167,20),(169,21),(209,13),(248,17),(250,18),(275,16)]
theorem u0:LV Tryz.prog rel=I:=by kernel_rfl
theorem v7(os:Os)(args:Array Value):laidMetH Tryz.prog Rows.fnExactReverseEditsRow.laid ((World.doorLaid Tryz.prog 4000 os).forCall (λ_ _=>0) ⟨#[],args,[]⟩).memory:=
 laidMetH_of_parts3 (fuel:=8) (laidMet_of_run' 8 (by kernel_rfl) (by kernel_rfl)) (by kernel_rfl) (by kernel_rfl)
theorem F4{W:World}(h:laidMetH Tryz.prog Rows.fnExactReverseEditsRow.laid W):R8 Tryz.prog W []:=by
 rw[MakeChecks.laidMetH_plain _ _ _ (by kernel_rfl)]at h;intro g b;have a:Lib.TabIs Tryz.prog W xJ .u64 Lib.pow10Tab:=Lib.tabIs_of_head (g:=0) (t:=306) (e:=298) (n:=20) (by kernel_rfl) (by kernel_rfl) (by kernel_rfl) (by kernel_rfl) (by kernel_rfl) (by kernel_rfl) (h.tail.tail);exact⟨uK (a.cell b 0 (by decide)),by simp,a⟩
set_option maxRecDepth 100000 in
theorem lifted(os:Os)(started:os.Started)(H:Type)(enc:TypeId×Value->H) :
  ReturnsInHanded {} Tryz.checked os 4 .any (λw args=>(Rows.fnExactReverseEditsSpec.pre enc Tryz.prog Tryz.f4 Rows.fnExactReverseEditsRow.domain J w args/\laidMetH Tryz.prog Rows.fnExactReverseEditsRow.laid w)/\sizedMet enc Tryz.prog Tryz.f4 (OpenSpec.ofChange Rows.fnExactReverseEditsSpec) J w args) (Rows.fnExactReverseEditsSpec.post enc Tryz.prog Tryz.f4 J I J J):=by
 refine returnsInHanded_of_change_and (C:=Tryz.checked) (X:=λw _=>laidMetH Tryz.prog Rows.fnExactReverseEditsRow.laid w) (λ_ _ _ hh h=>h.of_heap hh) own started (by kernel_rfl) Tryz.func4
  (ChangeSpec.witness_shaped (enc:=enc) (C:=Tryz.checked) (os:=os) (X:=λw _=>laidMetH Tryz.prog Rows.fnExactReverseEditsRow.laid w) J (World.doorLaid Tryz.prog 4000 os) #[(Value.slice O 0 0),(Value.slice O 0 0),(Value.slice O 0 0)] 8 rfl (World.shaped_of_RefB (by kernel_rfl) (by kernel_rfl)) (by kernel_rfl) (by kernel_rfl) (by kernel_rfl) (v7 os _)) ?_
 intro W i args b gs l CX hW aiG _ hL _;have k:∀(j:Nat) t v,Tryz.f4.params[j]?=Z t->args[j]?=Z v->Value.okWide Tryz.prog W .any i t v:=CX;have hW':=hW;obtain⟨p,q,g,hV,rfl,yL,kl⟩:=hW;have hA:DataW.TrodAll enc Tryz.prog W 0 (λ_=>I) I Tryz.f4.params.toList args.toList b p:=g;rw[Tryz.params4]at hA k;obtain⟨v0,vs0,d0,ds0,p0,q0,adE,rfl,rfl,h0,r0⟩:=trodAll_cons hA;obtain⟨v1,vs1,d1,ds1,p1,q1,rfl,rfl,rfl,h1,r1⟩:=trodAll_cons r0;obtain⟨v2,vs2,d2,ds2,p2,q2,rfl,rfl,rfl,h2,r2⟩:=trodAll_cons r1;obtain⟨rfl,rfl,rfl⟩:=trodAll_nil r2;obtain rfl:args=#[v0,v1,v2]:=by cases args;simp_all
 obtain⟨rfl,rfl⟩:=trodVars_none hV;have k0:=h0;have T:∀x∈p0,x.block < W.heap.size:=by obtain⟨m,c⟩:=k0;exact DataW.trod_lt m _ _ _ c
 obtain⟨a0,n0,c0,rfl⟩:=okWide_slice Tryz.underlying22 (k 0 22 v0 rfl rfl);obtain⟨x0,F0,afs,y⟩:∃b F,eu maxLen (qO 24) b/\fp W b [.slice a0 n0 c0] F:=by
  obtain⟨a,d⟩:=h0;exact AQ (uZ u0) a 22 24 _ _ d (by decide)
 obtain⟨y0,ys0,rfl,D,L⟩:=eu.cons_inv (t:=.list 12) (ts:=[]) afs;obtain rfl:=L.gQ;obtain⟨o,rfl,Y,Q⟩:=D.ek;have k1:=h1;have S:∀x∈p1,x.block < W.heap.size:=by obtain⟨m,c⟩:=k1;exact DataW.trod_lt m _ _ _ c
 obtain⟨a1,n1,c1,rfl⟩:=okWide_slice Tryz.underlying23 (k 1 23 v1 rfl rfl);obtain⟨x1,F1,anx,s⟩:∃b F,eu maxLen (qO 7) b/\fp W b [.slice a1 n1 c1] F:=by
  obtain⟨a,d⟩:=h1;exact AQ (uZ u0) a 23 7 _ _ d (by decide)
 obtain⟨y1,ys1,rfl,B,K⟩:=eu.cons_inv (t:=.list 2) (ts:=[]) anx;obtain rfl:=K.gQ;obtain⟨n,rfl,V,P⟩:=B.ek;have k2:=h2;have R:∀x∈p2,x.block < W.heap.size:=by obtain⟨m,c⟩:=k2;exact DataW.trod_lt m _ _ _ c
 obtain⟨a2,n2,c2,rfl⟩:=okWide_slice Tryz.underlying45 (k 2 45 v2 rfl rfl);obtain⟨x2,F2,afu,r⟩:∃b F,eu maxLen (qO 9) b/\fp W b [.slice a2 n2 c2] F:=by
  obtain⟨a,d⟩:=h2;exact AQ (uZ u0) a 45 9 _ _ d (by decide)
 obtain⟨y2,ys2,rfl,A,G⟩:=eu.cons_inv (t:=.list 3) (ts:=[]) afu;obtain rfl:=G.gQ;obtain⟨Ms,rfl,U,N⟩:=A.ek;clear g CX;have hc:Calls Tryz.prog 4 #[.slice a0 n0 c0,.slice a1 n1 c1,.slice a2 n2 c2] W λe w'=>e=.returned (.bool I)/\Below W.heap.size W w':=FZ (f:=381) mixed acn Zw akq (tI o Y Q n V P Ms U N) (F4 hL) (lL (tu y) (lL (tu s) (lL (tu r) Bg)));refine hc.mono λe W' ⟨he,Bi⟩=>?_;subst he;exact⟨_,rfl,_,_,_,[],_,[],hW',trodAll_mk1 (shut_bool Tryz.underlying4 _),(trodAll_cons_mk (Below.trod laidOut (by kernel_rfl) (of_decide_eq_true (by kernel_rfl)) k0 Bi T) (trodAll_cons_mk (Below.trod laidOut (by kernel_rfl) (of_decide_eq_true (by kernel_rfl)) k1 Bi S) (trodAll_cons_mk (Below.trod laidOut (by kernel_rfl) (of_decide_eq_true (by kernel_rfl)) k2 Bi R) trodAll_mk0))),rfl,Bi.frame _,λh=>by cases h⟩
end
end Go.Proofs.YtnnjajingjfjiaaGreatDoor.fnExactReverseEdits
