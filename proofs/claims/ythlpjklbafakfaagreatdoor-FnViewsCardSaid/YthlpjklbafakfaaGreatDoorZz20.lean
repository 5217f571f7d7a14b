/- Part of the proof: a machine over plain data, its proof, the functions of the program run on symbols, what they answer. Condition: none. -/
import Derived.Test.YthlpjklbafakfaaGreatDoorZz13
import Derived.Test.YthlpjklbafakfaaGreatDoorZz19
set_option linter.unusedVariables false
set_option linter.unusedSimpArgs false
set_option linter.unusedSectionVars false
open List.cons renaming injEq->bZ
open Option renaming map_some->aH,some->Z
open Option.some renaming injEq->aa
open Prod.mk renaming injEq->aA
open Bool renaming true->I,false->J
namespace Go.Proofs.YthlpjklbafakfaaGreatDoor
section
open Go.RowKit
theorem alD{i f:Nat}{e:M D}{j:M A}(h:GF T nY i e=Z (0,[.bool I]))(c:Rq i e=Z j)(a:(look nY i).map (λs=>(s.f,nth s.res 0))=Z (f,Z ([.val J [.d]],[]))) :
  fP T f j=Z ([.val J [.d (.bool I)]],[]):=by
 cases b:look nY i with
 |none=>rw[b]at a;cases a
 |some k=>
  obtain⟨p,r,v,o,n,m,l⟩:=CK T nY i k b _ _ _ h;simp only[Rq,b]at c;rw[o]at c;cases c;rw[b,aH,aa,aA]at a;obtain⟨rfl,g⟩:=a;rw[n]at g;cases g;cases m;exact l
theorem aaa{P:Program}{num:Nat->FuncId}{T:Nat->u KF}(B:P.follows .mixedOrders=I)(C:T_ P num)(F:∀f kf,T f=Z kf->YP P num f kf){f:Nat}{args:M A}(x:fP T f args=Z ([.val J [.d (.bool I)]],[]))
  {w:World} {j:M Value} {G:Fp} (H:TJ P w []) (r:uu w args j G):Calls P (num f) j.toArray w λe o=>e=.returned (.bool I)/\Below w.heap.size w o:=by
 obtain⟨n,y⟩:=(vS T f args _).1 x;have K:=Ai B C F n f args _ _ y;refine (K w (hOf w.heap.size (NO G)) j [] H (Uf r (λL q=>?_)) List.nodup_nil (λg i=>by simp at i) (λg i=>?_)).mono λe o ⟨v,Q,W,V,R,D,b,p,_,_,_,h⟩=>?_
 ·have:=Ka r L q;simp only[hOf,this,if_true];exact P8 q
 ·simp only[hOf];rw[if_neg (by omega)]
 ·simp only[ml,AR,jr,JP]at p;obtain⟨a,S,_,_,rfl,_,⟨k,⟨v1,t,_,_,c,_,⟨_,U,s,_⟩,N,_⟩,_,l⟩,rfl,_⟩:=p;have m:k=[a]:=l trivial;rw[N]at c;rw[c]at m;simp only[bZ,and_true]at m;subst m;simp only[Rp]at s;rcases b with b|⟨b,_⟩
  ·simp only[bZ,and_true]at b;subst b;exact⟨by rw[D,s.1],⟨h.os,h.tape,h.output,h.size,λg i=>h.block g i (by simp)⟩⟩
  ·simp at b
end
end Go.Proofs.YthlpjklbafakfaaGreatDoor
