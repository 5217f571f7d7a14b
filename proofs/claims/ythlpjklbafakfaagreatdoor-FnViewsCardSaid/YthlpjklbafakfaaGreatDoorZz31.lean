/- Part of the proof: a machine over plain data, its proof, the functions of the program run on symbols, what they answer. Condition: none. -/
import Derived.Test.YthlpjklbafakfaaGreatDoorRows
import Derived.Test.YthlpjklbafakfaaGreatDoorTie
import Derived.Test.YthlpjklbafakfaaGreatDoorCards
import Derived.ProofKit
import Derived.LaidMore
import Derived.OpenShut
import Derived.ShutString
import Derived.ChangeOld
import Derived.Below
import Derived.Stop.LaidErr
import Derived.Stop.Joined
import Derived.SevenTiedAt
import Derived.Lib.LaidTab
import Derived.Test.YthlpjklbafakfaaGreatDoorZz26
import Derived.Test.YthlpjklbafakfaaGreatDoorZz30
set_option linter.unusedVariables false
set_option linter.unusedSimpArgs false
open Option renaming some->Z,none->O
open Bool renaming true->I,false->J
namespace Go.Proofs.YthlpjklbafakfaaGreatDoor.fnViews
section
open Go.ChangeShapes Go.WideShapes Go.ChangeAt Go.RowKit
open Go.ChangeMaps (open_string shut_string)
theorem own:ownKnob Tryz.prog.godebug=O:=by kernel_rfl
theorem laidOut:laidOutB Tryz.prog=I:=by kernel_rfl
theorem mixed:Tryz.prog.follows .mixedOrders=I:=by kernel_rfl
def rel:M (TypeId×Nat):=[(5,29),(22,30)]
theorem ae6:Xk Tryz.prog rel=I:=by kernel_rfl
theorem UH(os:Os)(args:Array Value):laidMetH Tryz.prog Rows.fnViewsRow.laid ((World.doorLaid Tryz.prog 4000 os).forCall (λ_ _=>0) ⟨#[],args,[]⟩).memory:=
 laidMetH_of_parts3 (fuel:=8) (laidMet_of_run' 8 (by kernel_rfl) (by kernel_rfl)) (by kernel_rfl) (by kernel_rfl)
theorem adQ{W:World}(h:laidMetH Tryz.prog Rows.fnViewsRow.laid W):TJ Tryz.prog W []:=by
 rw[MakeChecks.laidMetH_plain _ _ _ (by kernel_rfl)]at h;intro g b;have a:Lib.TabIs Tryz.prog W CF .u64 Lib.pow10Tab:=Lib.tabIs_of_head (g:=0) (t:=261) (e:=253) (n:=20) (by kernel_rfl) (by kernel_rfl) (by kernel_rfl) (by kernel_rfl) (by kernel_rfl) (by kernel_rfl) (h.tail.tail);exact⟨Eg (a.cell b 0 (by decide)),by simp,a⟩
set_option maxRecDepth 100000 in
theorem lifted(os:Os)(started:os.Started)(H:Type)(enc:TypeId×Value->H) :
  ReturnsInHanded {} Tryz.checked os 3 .any (λw args=>(Rows.fnViewsSpec.pre enc Tryz.prog Tryz.f3 Rows.fnViewsRow.domain J w args/\laidMetH Tryz.prog Rows.fnViewsRow.laid w)/\sizedMet enc Tryz.prog Tryz.f3 (OpenSpec.ofChange Rows.fnViewsSpec) J w args) (Rows.fnViewsSpec.post enc Tryz.prog Tryz.f3 J I J J):=by
 refine returnsInHanded_of_change_and (C:=Tryz.checked) (X:=λw _=>laidMetH Tryz.prog Rows.fnViewsRow.laid w) (λ_ _ _ Y h=>h.of_heap Y) own started (by kernel_rfl) Tryz.func3
  (ChangeSpec.witness_shaped (enc:=enc) (C:=Tryz.checked) (os:=os) (X:=λw _=>laidMetH Tryz.prog Rows.fnViewsRow.laid w) J (World.doorLaid Tryz.prog 4000 os) #[(Value.slice O 0 0)] 8 rfl (World.shaped_of_RefB (by kernel_rfl) (by kernel_rfl)) (by kernel_rfl) (by kernel_rfl) (by kernel_rfl) (UH os _)) ?_
 intro W c args g gs i d G anH _ hL _;have P:∀(j:Nat) t v,Tryz.f3.params[j]?=Z t->args[j]?=Z v->Value.okWide Tryz.prog W .any c t v:=d;have A:=G;obtain⟨p,q,a,hV,rfl,Av,mb⟩:=G;have K:DataW.TrodAll enc Tryz.prog W 0 (λ_=>I) I Tryz.f3.params.toList args.toList g p:=a;rw[Tryz.params3]at K P;obtain⟨v0,S,d0,ds0,U,q0,anB,rfl,rfl,L,T⟩:=trodAll_cons K;obtain⟨rfl,rfl,rfl⟩:=trodAll_nil T;obtain rfl:args=#[v0]:=by cases args;simp_all
 obtain⟨rfl,rfl⟩:=trodVars_none hV;have D:=L;have s:∀x∈U,x.block < W.heap.size:=by obtain⟨m,V⟩:=D;exact DataW.trod_lt m _ _ _ V
 obtain⟨a0,n0,N,rfl⟩:=okWide_slice Tryz.underlying22 (P 0 22 v0 rfl rfl);obtain⟨x0,F0,B,l⟩:∃g F,gX maxLen (sP 30) g/\fV W g [.slice a0 n0 N] F:=by
  obtain⟨b,hf⟩:=L;exact Xj (aaT ae6) b 22 30 _ _ hf (by decide)
 obtain⟨y0,Q,rfl,n,o⟩:=gX.cons_inv (t:=.list 16) (ts:=[]) B;obtain rfl:=o.jF;obtain⟨k,rfl,y,r⟩:=n.jE;clear a d;have hc:Calls Tryz.prog 3 #[.slice a0 n0 N] W λe R=>e=.returned (.bool I)/\Below W.heap.size W R:=aaa (f:=437) mixed aim ail (Lw k y r) (adQ hL) (MU (Ue l) Ra);refine hc.mono λe W' ⟨he,Mv⟩=>?_;subst he;exact⟨_,rfl,_,_,_,[],_,[],A,trodAll_mk1 (shut_bool Tryz.underlying4 _),(trodAll_cons_mk (Below.trod laidOut (by kernel_rfl) (of_decide_eq_true (by kernel_rfl)) D Mv s) trodAll_mk0),rfl,Mv.frame _,λh=>by cases h⟩
end
end Go.Proofs.YthlpjklbafakfaaGreatDoor.fnViews
