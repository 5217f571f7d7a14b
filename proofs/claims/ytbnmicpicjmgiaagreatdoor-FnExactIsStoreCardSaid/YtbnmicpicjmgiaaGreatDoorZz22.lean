/- Part of the proof. Condition: none. -/
import Derived.Test.YtbnmicpicjmgiaaGreatDoorZz19
import Derived.Test.YtbnmicpicjmgiaaGreatDoorZz21
set_option linter.all false
open List renaming nil_append->au,cons_append->av
open Option renaming some->Z
open Bool renaming true->I,false->J
namespace Go.Proofs.YtbnmicpicjmgiaaGreatDoor
set_option maxRecDepth 100000
set_option maxHeartbeats 4000000
def aar{e:M D}(o:fX maxLen (lay 15) e):G 547 e=Z (0,[.bool I]):=by obtain⟨A,a,F⟩:=XQ o 1048576 (by omega) (by omega);rcases F with rfl|⟨S,H⟩;{obtain⟨y,x,w,g,t,f,d,c,b,s,rfl,_⟩:=pH o;simp only[av,au]at a;exact bW afP rfl (by simp only[go_sem,afP,a])};(have m:dV e<=1048576:=by omega);have h:=fX.small (B':=mg) (lay 15) _ o (by simp only[mg];omega);have t0:=X4 h;have l:=Vm h;obtain⟨y,x,w,g,t,f,d,c,b,s,rfl,⟨R,r⟩,⟨Q,c1⟩,⟨P,q⟩,i3,⟨N,p⟩,i5,C,B,L,⟨K,n⟩⟩:=pH o;simp only[av,au]at a t0 l;(have d0:¬A<0:=by omega);obtain⟨i,rfl⟩:=QE r;obtain⟨y1,rfl⟩:=zO c1;obtain⟨y2,rfl⟩:=zO q;obtain⟨y4,rfl⟩:=Nw p;obtain⟨y9,rfl⟩:=zO n;have z0:dV (ff ⟨i,y1,y2,g,y4,f,d,c,b,y9⟩)<=1048576:=m;have k:=atd z0;have j:=atf z0;generalize OB ⟨i,y1,y2,g,y4,f,d,c,b,y9⟩=v at *;simp only[ff]at k j;clear h o R Q P N L K r c1 q p n i3 i5 C B H z0 m;exact bW afP rfl (by simp only[go_sem,afP,a,d0,t0,l,k,j])
def yR(e:M D)(o:fX maxLen (lay 15) e):fI T 547 [.val I (e.map .d)]=Z ([.val J [.d (.bool I)]],[]):=by have h:=aar o;obtain⟨m,l,k,j,i,g,f,c,b,a,rfl,_⟩:=pH o;exact arb h rfl rfl
end Go.Proofs.YtbnmicpicjmgiaaGreatDoor
