/- Part of the proof: a machine over plain data, its proof, the functions of the program run on symbols, what they answer. Condition: none. -/
import Derived.Test.YtnnjajingjfjiaaGreatDoorRows
import Derived.Test.YtnnjajingjfjiaaGreatDoorTie
import Derived.Test.YtnnjajingjfjiaaGreatDoorCards
import Derived.ProofKit
import Derived.LaidMore
import Derived.OpenShut
import Derived.ShutString
import Derived.ChangeOld
import Derived.Below
import Derived.Stop.LaidErr
import Derived.Stop.Joined
import Derived.SevenTiedAt
import Derived.Lib.LaidTab
import Derived.Test.YtnnjajingjfjiaaGreatDoorZz34
import Derived.Test.YtnnjajingjfjiaaGreatDoorZz49
set_option linter.unusedVariables false
set_option linter.unusedSimpArgs false
open Option renaming some->Z,none->O
open Bool renaming true->I,false->J
namespace Go.Proofs.YtnnjajingjfjiaaGreatDoor.fnExactEditDraft
section
open Go.ChangeShapes Go.WideShapes Go.ChangeAt Go.RowKit
open Go.ChangeMaps (open_string shut_string)
theorem own:ownKnob Tryz.prog.godebug=O:=by kernel_rfl
theorem laidOut:laidOutB Tryz.prog=I:=by kernel_rfl
theorem mixed:Tryz.prog.follows .mixedOrders=I:=by kernel_rfl
def rel:M (TypeId×Nat):=[(3,0),(4,1),(9,2),(22,24),(23,7),(45,9),(56,26),(58,27),(60,28),(74,14),(75,3),(77,15),(78,22),(80,23),(109,6),(112,8),(157,25),(165,19),(167,20),(169,21),(209,13),(248,17),(250,18),(275,16)]
theorem u0:LV Tryz.prog rel=I:=by kernel_rfl
theorem v7(os:Os)(args:Array Value):laidMetH Tryz.prog Rows.fnExactEditDraftRow.laid ((World.doorLaid Tryz.prog 4000 os).forCall (λ_ _=>0) ⟨#[],args,[]⟩).memory:=
 laidMetH_of_parts3 (fuel:=8) (laidMet_of_run' 8 (by kernel_rfl) (by kernel_rfl)) (by kernel_rfl) (by kernel_rfl)
theorem F4{W:World}(h:laidMetH Tryz.prog Rows.fnExactEditDraftRow.laid W):R8 Tryz.prog W []:=by
 rw[MakeChecks.laidMetH_plain _ _ _ (by kernel_rfl)]at h;intro g b;have a:Lib.TabIs Tryz.prog W xJ .u64 Lib.pow10Tab:=Lib.tabIs_of_head (g:=0) (t:=306) (e:=298) (n:=20) (by kernel_rfl) (by kernel_rfl) (by kernel_rfl) (by kernel_rfl) (by kernel_rfl) (by kernel_rfl) (h.tail.tail);exact⟨uK (a.cell b 0 (by decide)),by simp,a⟩
set_option maxRecDepth 100000 in
theorem lifted(os:Os)(started:os.Started)(H:Type)(enc:TypeId×Value->H) :
  ReturnsInHanded {} Tryz.checked os 5 .any (λw args=>(Rows.fnExactEditDraftSpec.pre enc Tryz.prog Tryz.f5 Rows.fnExactEditDraftRow.domain J w args/\laidMetH Tryz.prog Rows.fnExactEditDraftRow.laid w)/\sizedMet enc Tryz.prog Tryz.f5 (OpenSpec.ofChange Rows.fnExactEditDraftSpec) J w args) (Rows.fnExactEditDraftSpec.post enc Tryz.prog Tryz.f5 J I J J):=by
 refine returnsInHanded_of_change_and (C:=Tryz.checked) (X:=λw _=>laidMetH Tryz.prog Rows.fnExactEditDraftRow.laid w) (λ_ _ _ hh h=>h.of_heap hh) own started (by kernel_rfl) Tryz.func5
  (ChangeSpec.witness_shaped (enc:=enc) (C:=Tryz.checked) (os:=os) (X:=λw _=>laidMetH Tryz.prog Rows.fnExactEditDraftRow.laid w) J (World.doorLaid Tryz.prog 4000 os) #[(Value.agg #[(Value.slice O 0 0),(Value.slice O 0 0),(Value.slice O 0 0),(Value.int .i64 0),(Value.slice O 0 0),(Value.bool J),(Value.int .i64 0),(Value.int .i64 0),(Value.string (⟨#[]⟩)),(Value.slice O 0 0)]),(Value.int .i64 0),(Value.slice O 0 0)] 8 rfl (World.shaped_of_RefB (by kernel_rfl) (by kernel_rfl)) (by kernel_rfl) (by kernel_rfl) (by kernel_rfl) (v7 os _)) ?_
 intro W i args b gs l CX V aiG _ hL _;have k:∀(j:Nat) t v,Tryz.f5.params[j]?=Z t->args[j]?=Z v->Value.okWide Tryz.prog W .any i t v:=CX;have N:=V;obtain⟨p,q,d,hV,rfl,yL,kl⟩:=V;have Y:DataW.TrodAll enc Tryz.prog W 0 (λ_=>I) I Tryz.f5.params.toList args.toList b p:=d;rw[Tryz.params5]at Y k;obtain⟨v0,vs0,d0,ds0,p0,q0,adE,rfl,rfl,h0,r0⟩:=trodAll_cons Y;obtain⟨v1,vs1,d1,ds1,p1,q1,rfl,rfl,rfl,h1,r1⟩:=trodAll_cons r0;obtain⟨v2,vs2,d2,ds2,p2,q2,rfl,rfl,rfl,h2,r2⟩:=trodAll_cons r1;obtain⟨rfl,rfl,rfl⟩:=trodAll_nil r2;obtain rfl:args=#[v0,v1,v2]:=by cases args;simp_all
 obtain⟨rfl,rfl⟩:=trodVars_none hV;have T:=h0;have D:∀x∈p0,x.block < W.heap.size:=by obtain⟨m,K⟩:=T;exact DataW.trod_lt m _ _ _ K
 obtain⟨Q,rfl,sz0⟩:=okWide_struct Tryz.underlying60 (k 0 60 v0 rfl rfl);obtain⟨g⟩:=Q;obtain⟨x0,F0,A,o⟩:∃b F,eu maxLen (qO 28) b/\fp W b g F:=by
  obtain⟨a,L⟩:=h0;exact AQ (uZ u0) a 60 28 _ _ L (by decide)
 obtain⟨U,rfl,rfl,rfl,c⟩:=Go.ChangeShapes.open_int Tryz.underlying3 (k 1 3 v1 rfl rfl) h1;have P:=bounds_i64 c;have S:=h2;have B:∀x∈p2,x.block < W.heap.size:=by obtain⟨m,K⟩:=S;exact DataW.trod_lt m _ _ _ K
 obtain⟨a2,n2,c2,rfl⟩:=okWide_slice Tryz.underlying45 (k 2 45 v2 rfl rfl);obtain⟨x2,F2,R,n⟩:∃b F,eu maxLen (qO 9) b/\fp W b [.slice a2 n2 c2] F:=by
  obtain⟨a,L⟩:=h2;exact AQ (uZ u0) a 45 9 _ _ L (by decide)
 obtain⟨y2,ys2,rfl,r,s⟩:=eu.cons_inv (t:=.list 3) (ts:=[]) R;obtain rfl:=s.gQ;obtain⟨Ms,rfl,G,y⟩:=r.ek;clear d CX;have hc:Calls Tryz.prog 5 #[.agg ⟨g⟩,.int .i64 U,.slice a2 n2 c2] W λe w'=>e=.returned (.bool I)/\Below W.heap.size W w':=FZ (f:=384) mixed acn Zw akr (wJ x0 A U P Ms G y) (F4 hL) (lL (MN o) (lL (WY (bH (by omega))) (lL (tu n) Bg)));refine hc.mono λe W' ⟨he,Bi⟩=>?_;subst he;exact⟨_,rfl,_,_,_,[],_,[],N,trodAll_mk1 (shut_bool Tryz.underlying4 _),(trodAll_cons_mk (Below.trod laidOut (by kernel_rfl) (of_decide_eq_true (by kernel_rfl)) T Bi D) (trodAll_cons_mk (shut_int Tryz.underlying3 c) (trodAll_cons_mk (Below.trod laidOut (by kernel_rfl) (of_decide_eq_true (by kernel_rfl)) S Bi B) trodAll_mk0))),rfl,Bi.frame _,λh=>by cases h⟩
end
end Go.Proofs.YtnnjajingjfjiaaGreatDoor.fnExactEditDraft
