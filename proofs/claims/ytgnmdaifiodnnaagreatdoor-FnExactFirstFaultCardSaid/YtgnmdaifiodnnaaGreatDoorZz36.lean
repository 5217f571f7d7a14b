/- Part. Condition: none. -/
import Derived.Test.YtgnmdaifiodnnaaGreatDoorRows
import Derived.ProofKit
import Derived.LaidMore
import Derived.OpenShut
import Derived.ShutString
import Derived.ChangeOld
import Derived.Below
import Derived.Stop.LaidErr
import Derived.Stop.Joined
import Derived.SevenTiedAt
import Derived.Lib.LaidTab
import Derived.Test.YtgnmdaifiodnnaaGreatDoorZz26
import Derived.Test.YtgnmdaifiodnnaaGreatDoorZz35
set_option linter.all false
open Option renaming some->Z,none->O
open Bool renaming true->I,false->J
namespace Go.Proofs.YtgnmdaifiodnnaaGreatDoor.fnExactFirstFault
section
open Go.ChangeShapes Go.WideShapes Go.ChangeAt Go.RowKit
open Go.ChangeMaps (open_string shut_string)
def own:ownKnob Tryz.prog.godebug=O:=by kernel_rfl
def laidOut:laidOutB Tryz.prog=I:=by kernel_rfl
def mixed:Tryz.prog.follows .mixedOrders=I:=by kernel_rfl
def rel:M (TypeId×Nat):=[(3,0),(4,1),(9,2),(22,24),(23,7),(42,14),(43,3),(45,15),(46,22),(48,23),(51,6),(118,19),(120,20),(122,21),(157,13),(227,17),(229,18),(271,16)]
def G8:Rs Tryz.prog rel=I:=by kernel_rfl
def EF(os:Os)(args:Array Value):laidMetH Tryz.prog Rows.fnExactFirstFaultRow.laid ((World.doorLaid Tryz.prog 4000 os).forCall (λ_ _=>0) ⟨#[],args,[]⟩).memory:=
 laidMetH_of_parts3 (fuel:=8) (laidMet_of_run' 8 (by kernel_rfl) (by kernel_rfl)) (by kernel_rfl) (by kernel_rfl)
def Q0{W:World}(h:laidMetH Tryz.prog Rows.fnExactFirstFaultRow.laid W):UI Tryz.prog W []:=by rw[MakeChecks.laidMetH_plain _ _ _ (by kernel_rfl)]at h;intro g b;have a:Lib.TabIs Tryz.prog W AY .u64 Lib.pow10Tab:=Lib.tabIs_of_head (g:=1) (t:=304) (e:=294) (n:=20) (by kernel_rfl) (by kernel_rfl) (by kernel_rfl) (by kernel_rfl) (by kernel_rfl) (by kernel_rfl) (h.tail.tail);exact⟨yU (a.cell b 0 (by decide)),by simp,a⟩
set_option maxRecDepth 100000 in
def lifted(os:Os)(started:os.Started)(H:Type)(enc:TypeId×Value->H) :
  ReturnsInHanded {} Tryz.checked os 4 .any (λw args=>(Rows.fnExactFirstFaultSpec.pre enc Tryz.prog Tryz.f4 Rows.fnExactFirstFaultRow.domain J w args/\laidMetH Tryz.prog Rows.fnExactFirstFaultRow.laid w)/\sizedMet enc Tryz.prog Tryz.f4 (OpenSpec.ofChange Rows.fnExactFirstFaultSpec) J w args) (Rows.fnExactFirstFaultSpec.post enc Tryz.prog Tryz.f4 J I J J):=by
 refine returnsInHanded_of_change_and (C:=Tryz.checked) (X:=λw _=>laidMetH Tryz.prog Rows.fnExactFirstFaultRow.laid w) (λ_ _ _ hh h=>h.of_heap hh) own started (by kernel_rfl) Tryz.func4
  (ChangeSpec.witness_shaped (enc:=enc) (C:=Tryz.checked) (os:=os) (X:=λw _=>laidMetH Tryz.prog Rows.fnExactFirstFaultRow.laid w) J (World.doorLaid Tryz.prog 4000 os) #[(Value.slice O 0 0),(Value.slice O 0 0)] 8 rfl (World.shaped_of_RefB (by kernel_rfl) (by kernel_rfl)) (by kernel_rfl) (by kernel_rfl) (by kernel_rfl) (EF os _)) ?_
 intro W d args b gs g On Y apC _ hL _;have T:∀(j:Nat) t v,Tryz.f4.params[j]?=Z t->args[j]?=Z v->Value.okWide Tryz.prog W .any d t v:=On;have Q:=Y;obtain⟨p,q,c,hV,rfl,Tg,ju⟩:=Y;have hA:DataW.TrodAll enc Tryz.prog W 0 (λ_=>I) I Tryz.f4.params.toList args.toList b p:=c;rw[Tryz.params4]at hA T;obtain⟨v0,vs0,d0,ds0,p0,q0,ak8,rfl,rfl,h0,r0⟩:=trodAll_cons hA;obtain⟨v1,vs1,d1,ds1,p1,q1,rfl,rfl,rfl,h1,r1⟩:=trodAll_cons r0;obtain⟨rfl,rfl,rfl⟩:=trodAll_nil r1;(obtain rfl:args=#[v0,v1]:=by cases args;simp_all);obtain⟨rfl,rfl⟩:=trodVars_none hV;have V:=h0;(have G:∀x∈p0,x.block<W.heap.size:=by obtain⟨m,N⟩:=V;exact DataW.trod_lt m _ _ _ N);obtain⟨a0,n0,c0,rfl⟩:=okWide_slice Tryz.underlying22 (T 0 22 v0 rfl rfl);(obtain⟨x0,F0,S,n⟩:∃b F,gE maxLen (qG 24) b/\fR W b [.slice a0 n0 c0] F:=by{obtain⟨a,P⟩:=h0;exact JL (Ea G8) a 22 24 _ _ P (by decide)});obtain⟨y0,ys0,rfl,r,y⟩:=gE.cons_inv (t:=.list 12) (ts:=[]) S;obtain rfl:=y.lr;obtain⟨k,rfl,L,B⟩:=r.iw;have U:=h1;(have D:∀x∈p1,x.block<W.heap.size:=by obtain⟨m,N⟩:=U;exact DataW.trod_lt m _ _ _ N);obtain⟨a1,n1,c1,rfl⟩:=okWide_slice Tryz.underlying23 (T 1 23 v1 rfl rfl);(obtain⟨x1,F1,R,l⟩:∃b F,gE maxLen (qG 7) b/\fR W b [.slice a1 n1 c1] F:=by{obtain⟨a,P⟩:=h1;exact JL (Ea G8) a 23 7 _ _ P (by decide)});obtain⟨y1,ys1,rfl,o,s⟩:=gE.cons_inv (t:=.list 2) (ts:=[]) R;obtain rfl:=s.lr;obtain⟨i,rfl,K,A⟩:=o.iw;clear c On;have hc:Calls Tryz.prog 4 #[.slice a0 n0 c0,.slice a1 n1 c1] W λe w'=>e=.returned (.bool I)/\Below W.heap.size W w':=TG (f:=531) mixed ahH afW (vd k L B i K A) (Q0 hL) (tI (zH n) (tI (zH l) IE));refine hc.mono λe W' ⟨he,Ka⟩=>?_;subst he;exact⟨_,rfl,_,_,_,[],_,[],Q,trodAll_mk1 (shut_bool Tryz.underlying4 _),(trodAll_cons_mk (Below.trod laidOut (by kernel_rfl) (of_decide_eq_true (by kernel_rfl)) V Ka G) (trodAll_cons_mk (Below.trod laidOut (by kernel_rfl) (of_decide_eq_true (by kernel_rfl)) U Ka D) trodAll_mk0)),rfl,Ka.frame _,λh=>by cases h⟩
end
end Go.Proofs.YtgnmdaifiodnnaaGreatDoor.fnExactFirstFault
