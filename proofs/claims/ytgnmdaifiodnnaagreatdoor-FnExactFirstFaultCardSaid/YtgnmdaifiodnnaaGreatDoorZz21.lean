/- Part of the proof. Condition: none. -/
import Derived.Test.YtgnmdaifiodnnaaGreatDoorZz09
import Derived.Test.YtgnmdaifiodnnaaGreatDoorZz20
set_option linter.all false
open List.cons renaming injEq->cr
open Option renaming map_some->aX,some->Z
open Option.some renaming injEq->ao
open Prod.mk renaming injEq->aP
open Bool renaming true->I,false->J
namespace Go.Proofs.YtgnmdaifiodnnaaGreatDoor
section
open Go.RowKit
theorem ami{i f:Nat}{e:M D}{k:M A}(h:GF T o9 i e=Z (0,[.bool I]))(c:ac4 i e=Z k)(a:(look o9 i).map (λs=>(s.f,nth s.res 0))=Z (f,Z ([.val J [.d]],[])))(m:f<100000:=by decide) :
  fK T f k=Z ([.val J [.d (.bool I)]],[]):=by cases b:look o9 i with|none=>{rw[b]at a;cases a}|some l=>obtain⟨q,r,v,p,o,n,j⟩:=Ei T o9 i l b _ _ _ h;simp only[ac4,b]at c;rw[p]at c;cases c;rw[b,aX,ao,aP]at a;obtain⟨rfl,g⟩:=a;rw[Ew m]at j;rw[o]at g;cases g;cases n;exact j
def TG{P:Program}{num:Nat->FuncId}{T:Nat->u KF}(y:P.follows .mixedOrders=I)(B:Yk P num)(D:∀f o,T f=Z o->OkK P num f o){f:Nat}{args:M A}(t:fK T f args=Z ([.val J [.d (.bool I)]],[]))
  {w:World} {vs:M Value} {G:Fp} (F:UI P w []) (r:vn w args vs G):Calls P (num f) vs.toArray w λe l=>e=.returned (.bool I)/\Below w.heap.size w l:=by obtain⟨n,x⟩:=(w_ T f args _).1 t;have H:=Bw y B D n f args _ _ x;refine (H w (hOf w.heap.size (Q8 G)) vs [] F (Yv r (λK q=>?_)) List.nodup_nil (λg i=>by simp at i) (λg i=>?_)).mono λe l ⟨v,Q,W,V,R,C,b,p,_,_,_,h⟩=>?_;{have:=M4 r K q;simp only[hOf,this,if_true];exact TN q};{simp only[hOf];rw[if_neg (by omega)]};simp only[kg,AR,iE,Dg]at p;obtain⟨a,S,_,_,rfl,_,⟨j,⟨v1,s,_,_,c,_,⟨_,U,m,_⟩,L,_⟩,_,N⟩,rfl,_⟩:=p;have k:j=[a]:=N trivial;rw[L]at c;rw[c]at k;simp only[cr,and_true]at k;subst k;simp only[Rp]at m;rcases b with b|⟨b,_⟩;{simp only[cr,and_true]at b;subst b;exact⟨by rw[C,m.1],⟨h.os,h.tape,h.output,h.size,λg i=>h.block g i (by simp)⟩⟩};simp at b
end
end Go.Proofs.YtgnmdaifiodnnaaGreatDoor
