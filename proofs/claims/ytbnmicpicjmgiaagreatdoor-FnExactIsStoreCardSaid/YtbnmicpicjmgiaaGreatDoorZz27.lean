/- Part of the proof. Condition: none. -/
import Derived.Test.YtbnmicpicjmgiaaGreatDoorRows
import Derived.Test.YtbnmicpicjmgiaaGreatDoorTie
import Derived.Test.YtbnmicpicjmgiaaGreatDoorCards
import Derived.ProofKit
import Derived.LaidMore
import Derived.OpenShut
import Derived.ShutString
import Derived.ChangeOld
import Derived.Below
import Derived.Stop.LaidErr
import Derived.Stop.Joined
import Derived.SevenTiedAt
import Derived.Lib.LaidTab
import Derived.Test.YtbnmicpicjmgiaaGreatDoorZz22
import Derived.Test.YtbnmicpicjmgiaaGreatDoorZz26
set_option linter.all false
open Option renaming some->Z,none->O
open Bool renaming true->I,false->J
namespace Go.Proofs.YtbnmicpicjmgiaaGreatDoor.fnExactIsStore
section
open Go.ChangeShapes Go.WideShapes Go.ChangeAt Go.RowKit
open Go.ChangeMaps (open_string shut_string)
def own:ownKnob Tryz.prog.godebug=O:=by kernel_rfl
def laidOut:laidOutB Tryz.prog=I:=by kernel_rfl
def mixed:Tryz.prog.follows .mixedOrders=I:=by kernel_rfl
def rel:M (TypeId×Nat):=[(3,0),(4,1),(9,2),(22,24),(23,7),(24,26),(26,27),(28,28),(59,3),(72,14),(74,15),(75,22),(77,23),(80,6),(119,25),(169,19),(171,20),(173,21),(226,13),(278,17),(280,18),(319,16)]
def ajK:acd Tryz.prog rel=I:=by kernel_rfl
def ZE(os:Os)(args:Array Value):laidMetH Tryz.prog Rows.fnExactIsStoreRow.laid ((World.doorLaid Tryz.prog 4000 os).forCall (λ_ _=>0) ⟨#[],args,[]⟩).memory:=
 laidMetH_of_parts3 (fuel:=8) (laidMet_of_run' 8 (by kernel_rfl) (by kernel_rfl)) (by kernel_rfl) (by kernel_rfl)
def aii{W:World}(h:laidMetH Tryz.prog Rows.fnExactIsStoreRow.laid W):Ya Tryz.prog W []:=by rw[MakeChecks.laidMetH_plain _ _ _ (by kernel_rfl)]at h;intro g b;have a:Lib.TabIs Tryz.prog W Ek .u64 Lib.pow10Tab:=Lib.tabIs_of_head (g:=1) (t:=336) (e:=328) (n:=20) (by kernel_rfl) (by kernel_rfl) (by kernel_rfl) (by kernel_rfl) (by kernel_rfl) (by kernel_rfl) (h.tail.tail);exact⟨GI (a.cell b 0 (by decide)),by simp,a⟩
set_option maxRecDepth 100000 in
def lifted(os:Os)(started:os.Started)(H:Type)(enc:TypeId×Value->H) :
  ReturnsInHanded {} Tryz.checked os 3 .any (λw args=>(Rows.fnExactIsStoreSpec.pre enc Tryz.prog Tryz.f3 Rows.fnExactIsStoreRow.domain J w args/\laidMetH Tryz.prog Rows.fnExactIsStoreRow.laid w)/\sizedMet enc Tryz.prog Tryz.f3 (OpenSpec.ofChange Rows.fnExactIsStoreSpec) J w args) (Rows.fnExactIsStoreSpec.post enc Tryz.prog Tryz.f3 J I J J):=by
 refine returnsInHanded_of_change_and (C:=Tryz.checked) (X:=λw _=>laidMetH Tryz.prog Rows.fnExactIsStoreRow.laid w) (λ_ _ _ T h=>h.of_heap T) own started (by kernel_rfl) Tryz.func3
  (ChangeSpec.witness_shaped (enc:=enc) (C:=Tryz.checked) (os:=os) (X:=λw _=>laidMetH Tryz.prog Rows.fnExactIsStoreRow.laid w) J (World.doorLaid Tryz.prog 4000 os) #[(Value.agg #[(Value.slice O 0 0),(Value.slice O 0 0),(Value.slice O 0 0),(Value.int .i64 0),(Value.slice O 0 0),(Value.bool J),(Value.int .i64 0),(Value.int .i64 0),(Value.string (⟨#[]⟩)),(Value.slice O 0 0)])] 8 rfl (World.shaped_of_RefB (by kernel_rfl) (by kernel_rfl)) (by kernel_rfl) (by kernel_rfl) (by kernel_rfl) (ZE os _)) ?_
 intro W d args i gs k g A atv _ hL _;have G:∀(j:Nat) t v,Tryz.f3.params[j]?=Z t->args[j]?=Z v->Value.okWide Tryz.prog W .any d t v:=g;have r:=A;obtain⟨p,q,a,hV,rfl,VJ,jy⟩:=A;have B:DataW.TrodAll enc Tryz.prog W 0 (λ_=>I) I Tryz.f3.params.toList args.toList i p:=a;rw[Tryz.params3]at B G;obtain⟨v0,N,d0,ds0,R,q0,atr,rfl,rfl,D,Q⟩:=trodAll_cons B;obtain⟨rfl,rfl,rfl⟩:=trodAll_nil Q;(obtain rfl:args=#[v0]:=by cases args;simp_all);obtain⟨rfl,rfl⟩:=trodVars_none hV;have y:=D;(have o:∀x∈R,x.block<W.heap.size:=by obtain⟨m,S⟩:=y;exact DataW.trod_lt m _ _ _ S);obtain⟨s,rfl,P⟩:=okWide_struct Tryz.underlying28 (G 0 28 v0 rfl rfl);obtain⟨c⟩:=s;(obtain⟨K,F0,n,l⟩:∃i F,fX maxLen (tQ 28) i/\gK W i c F:=by{obtain⟨b,U⟩:=D;exact acb (afm ajK) b 28 28 _ _ U (by decide)});clear a g;have Y:Calls Tryz.prog 3 #[.agg ⟨c⟩] W λe L=>e=.returned (.bool I)/\Below W.heap.size W L:=aei (f:=547) mixed an3 an2 (yR K n) (aii hL) (Qp (YS l) U7);refine Y.mono λe W' ⟨V,SM⟩=>?_;subst V;exact⟨_,rfl,_,_,_,[],_,[],r,trodAll_mk1 (shut_bool Tryz.underlying4 _),(trodAll_cons_mk (Below.trod laidOut (by kernel_rfl) (of_decide_eq_true (by kernel_rfl)) y SM o) trodAll_mk0),rfl,SM.frame _,λh=>by cases h⟩
end
end Go.Proofs.YtbnmicpicjmgiaaGreatDoor.fnExactIsStore
