/- Part of the proof. Condition: none. -/
import Derived.Test.YtbnmicpicjmgiaaGreatDoorZz09
import Derived.Test.YtbnmicpicjmgiaaGreatDoorZz20
set_option linter.all false
open List.cons renaming injEq->eB
open Option renaming map_some->cV,some->Z
open Option.some renaming injEq->bq
open Prod.mk renaming injEq->cH
open Bool renaming true->I,false->J
namespace Go.Proofs.YtbnmicpicjmgiaaGreatDoor
section
open Go.RowKit
theorem arb{i f:Nat}{e:M D}{k:M A}(h:GF T o0 i e=Z (0,[.bool I]))(c:adF i e=Z k)(a:(look o0 i).map (λs=>(s.f,nth s.res 0))=Z (f,Z ([.val J [.d]],[])))(m:f<100000:=by decide) :
  fI T f k=Z ([.val J [.d (.bool I)]],[]):=by cases b:look o0 i with|none=>{rw[b]at a;cases a}|some l=>obtain⟨q,r,v,p,o,n,j⟩:=En T o0 i l b _ _ _ h;simp only[adF,b]at c;rw[p]at c;cases c;rw[b,cV,bq,cH]at a;obtain⟨rfl,g⟩:=a;rw[ED m]at j;rw[o]at g;cases g;cases n;exact j
def aei{P:Program}{num:Nat->FuncId}{T:Nat->u KF}(y:P.follows .mixedOrders=I)(B:YG P num)(D:∀f o,T f=Z o->OkK P num f o){f:Nat}{args:M A}(t:fI T f args=Z ([.val J [.d (.bool I)]],[]))
  {w:World} {vs:M Value} {G:Fp} (F:Ya P w []) (r:vh w args vs G):Calls P (num f) vs.toArray w λe l=>e=.returned (.bool I)/\Below w.heap.size w l:=by obtain⟨n,x⟩:=(wU T f args _).1 t;have H:=Bz y B D n f args _ _ x;refine (H w (hOf w.heap.size (Rq G)) vs [] F (YT r (λK q=>?_)) List.nodup_nil (λg i=>by simp at i) (λg i=>?_)).mono λe l ⟨v,Q,W,V,R,C,b,p,_,_,_,h⟩=>?_;{have:=Nb r K q;simp only[hOf,this,if_true];exact Uc q};{simp only[hOf];rw[if_neg (by omega)]};simp only[ly,AR,jN,P3]at p;obtain⟨a,S,_,_,rfl,_,⟨j,⟨v1,s,_,_,c,_,⟨_,U,m,_⟩,L,_⟩,_,N⟩,rfl,_⟩:=p;have k:j=[a]:=N trivial;rw[L]at c;rw[c]at k;simp only[eB,and_true]at k;subst k;simp only[Rp]at m;rcases b with b|⟨b,_⟩;{simp only[eB,and_true]at b;subst b;exact⟨by rw[C,m.1],⟨h.os,h.tape,h.output,h.size,λg i=>h.block g i (by simp)⟩⟩};simp at b
end
end Go.Proofs.YtbnmicpicjmgiaaGreatDoor
