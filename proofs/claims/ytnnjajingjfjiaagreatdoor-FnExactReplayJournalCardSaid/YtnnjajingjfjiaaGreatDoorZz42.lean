/- Part of the proof: a machine over plain data, its proof, the functions of the program run on symbols, what they answer. Condition: none. -/
import Derived.Test.YtnnjajingjfjiaaGreatDoorRows
import Derived.Test.YtnnjajingjfjiaaGreatDoorTie
import Derived.Test.YtnnjajingjfjiaaGreatDoorCards
import Derived.ProofKit
import Derived.LaidMore
import Derived.OpenShut
import Derived.ShutString
import Derived.ChangeOld
import Derived.Below
import Derived.Stop.LaidErr
import Derived.Stop.Joined
import Derived.SevenTiedAt
import Derived.Lib.LaidTab
import Derived.Test.YtnnjajingjfjiaaGreatDoorZz34
import Derived.Test.YtnnjajingjfjiaaGreatDoorZz41
set_option linter.unusedVariables false
set_option linter.unusedSimpArgs false
open Option renaming some->Z,none->O
open Bool renaming true->I,false->J
namespace Go.Proofs.YtnnjajingjfjiaaGreatDoor.fnExactReplayJournal
section
open Go.ChangeShapes Go.WideShapes Go.ChangeAt Go.RowKit
open Go.ChangeMaps (open_string shut_string)
theorem own:ownKnob Tryz.prog.godebug=O:=by kernel_rfl
theorem laidOut:laidOutB Tryz.prog=I:=by kernel_rfl
theorem mixed:Tryz.prog.follows .mixedOrders=I:=by kernel_rfl
def rel:M (TypeId×Nat):=[(3,0),(4,1),(9,2),(22,24),(23,7),(24,11),(26,12),(45,9),(74,14),(75,3),(77,15),(78,22),(80,23),(109,6),(112,8),(133,10),(165,19),(167,20),(169,21),(209,13),(248,17),(250,18),(275,16)]
theorem u0:LV Tryz.prog rel=I:=by kernel_rfl
theorem v7(os:Os)(args:Array Value):laidMetH Tryz.prog Rows.fnExactReplayJournalRow.laid ((World.doorLaid Tryz.prog 4000 os).forCall (λ_ _=>0) ⟨#[],args,[]⟩).memory:=
 laidMetH_of_parts3 (fuel:=8) (laidMet_of_run' 8 (by kernel_rfl) (by kernel_rfl)) (by kernel_rfl) (by kernel_rfl)
theorem F4{W:World}(h:laidMetH Tryz.prog Rows.fnExactReplayJournalRow.laid W):R8 Tryz.prog W []:=by
 rw[MakeChecks.laidMetH_plain _ _ _ (by kernel_rfl)]at h;intro g b;have a:Lib.TabIs Tryz.prog W xJ .u64 Lib.pow10Tab:=Lib.tabIs_of_head (g:=0) (t:=306) (e:=298) (n:=20) (by kernel_rfl) (by kernel_rfl) (by kernel_rfl) (by kernel_rfl) (by kernel_rfl) (by kernel_rfl) (h.tail.tail);exact⟨uK (a.cell b 0 (by decide)),by simp,a⟩
set_option maxRecDepth 100000 in
theorem lifted(os:Os)(started:os.Started)(H:Type)(enc:TypeId×Value->H) :
  ReturnsInHanded {} Tryz.checked os 3 .any (λw args=>(Rows.fnExactReplayJournalSpec.pre enc Tryz.prog Tryz.f3 Rows.fnExactReplayJournalRow.domain J w args/\laidMetH Tryz.prog Rows.fnExactReplayJournalRow.laid w)/\sizedMet enc Tryz.prog Tryz.f3 (OpenSpec.ofChange Rows.fnExactReplayJournalSpec) J w args) (Rows.fnExactReplayJournalSpec.post enc Tryz.prog Tryz.f3 J I J J):=by
 refine returnsInHanded_of_change_and (C:=Tryz.checked) (X:=λw _=>laidMetH Tryz.prog Rows.fnExactReplayJournalRow.laid w) (λ_ _ _ hh h=>h.of_heap hh) own started (by kernel_rfl) Tryz.func3
  (ChangeSpec.witness_shaped (enc:=enc) (C:=Tryz.checked) (os:=os) (X:=λw _=>laidMetH Tryz.prog Rows.fnExactReplayJournalRow.laid w) J (World.doorLaid Tryz.prog 4000 os) #[(Value.slice O 0 0),(Value.agg #[(Value.slice O 0 0),(Value.slice O 0 0)])] 8 rfl (World.shaped_of_RefB (by kernel_rfl) (by kernel_rfl)) (by kernel_rfl) (by kernel_rfl) (by kernel_rfl) (v7 os _)) ?_
 intro W g args b gs i CX T aiG _ hL _;have l:∀(j:Nat) t v,Tryz.f3.params[j]?=Z t->args[j]?=Z v->Value.okWide Tryz.prog W .any g t v:=CX;have N:=T;obtain⟨p,q,c,hV,rfl,yL,kl⟩:=T;have U:DataW.TrodAll enc Tryz.prog W 0 (λ_=>I) I Tryz.f3.params.toList args.toList b p:=c;rw[Tryz.params3]at U l;obtain⟨v0,vs0,d0,ds0,p0,q0,adE,rfl,rfl,Y,r0⟩:=trodAll_cons U;obtain⟨v1,vs1,d1,ds1,p1,q1,rfl,rfl,rfl,V,r1⟩:=trodAll_cons r0;obtain⟨rfl,rfl,rfl⟩:=trodAll_nil r1;obtain rfl:args=#[v0,v1]:=by cases args;simp_all
 obtain⟨rfl,rfl⟩:=trodVars_none hV;have S:=Y;have D:∀x∈p0,x.block < W.heap.size:=by obtain⟨m,K⟩:=S;exact DataW.trod_lt m _ _ _ K
 obtain⟨a0,n0,c0,rfl⟩:=okWide_slice Tryz.underlying22 (l 0 22 v0 rfl rfl);obtain⟨x0,F0,Q,o⟩:∃b F,eu maxLen (qO 24) b/\fp W b [.slice a0 n0 c0] F:=by
  obtain⟨a,L⟩:=Y;exact AQ (uZ u0) a 22 24 _ _ L (by decide)
 obtain⟨y0,ys0,rfl,r,s⟩:=eu.cons_inv (t:=.list 12) (ts:=[]) Q;obtain rfl:=s.gQ;obtain⟨k,rfl,G,A⟩:=r.ek;have R:=V;have B:∀x∈p1,x.block < W.heap.size:=by obtain⟨m,K⟩:=R;exact DataW.trod_lt m _ _ _ K
 obtain⟨P,rfl,sz1⟩:=okWide_struct Tryz.underlying26 (l 1 26 v1 rfl rfl);obtain⟨d⟩:=P;obtain⟨x1,F1,y,n⟩:∃b F,eu maxLen (qO 12) b/\fp W b d F:=by
  obtain⟨a,L⟩:=V;exact AQ (uZ u0) a 26 12 _ _ L (by decide)
 clear c CX;have hc:Calls Tryz.prog 3 #[.slice a0 n0 c0,.agg ⟨d⟩] W λe w'=>e=.returned (.bool I)/\Below W.heap.size W w':=FZ (f:=372) mixed acn Zw akp (sO k G A x1 y) (F4 hL) (lL (tu o) (lL (MN n) Bg));refine hc.mono λe W' ⟨he,Bi⟩=>?_;subst he;exact⟨_,rfl,_,_,_,[],_,[],N,trodAll_mk1 (shut_bool Tryz.underlying4 _),(trodAll_cons_mk (Below.trod laidOut (by kernel_rfl) (of_decide_eq_true (by kernel_rfl)) S Bi D) (trodAll_cons_mk (Below.trod laidOut (by kernel_rfl) (of_decide_eq_true (by kernel_rfl)) R Bi B) trodAll_mk0)),rfl,Bi.frame _,λh=>by cases h⟩
end
end Go.Proofs.YtnnjajingjfjiaaGreatDoor.fnExactReplayJournal
