/- Part of the proof. Condition: none. -/
import Derived.Test.YtgnmdaifiodnnaaGreatDoorZz19
import Derived.Test.YtgnmdaifiodnnaaGreatDoorZz21
set_option linter.all false
open List renaming length_map->aj
open Option renaming some->Z
open Bool renaming true->I,false->J
namespace Go.Proofs.YtgnmdaifiodnnaaGreatDoor
set_option maxRecDepth 100000
set_option maxHeartbeats 4000000
def N0{s a:M (M D)}(o:s.length<=maxLen)(os:gY maxLen 12 s)(p:a.length<=maxLen)(e:gY maxLen 2 a) :
  G 531 [.list 19 J s,.list 3 J a]=Z (0,[.bool I]):=by obtain⟨n,h,F⟩:=Hw o os 1048576 (by omega) (by omega);rcases F with rfl|⟨B,t⟩;{exact ch XF rfl (by simp only[go_sem,XF,h])};(have w:¬n<0:=by omega);obtain⟨A,q,C⟩:=Pd p e n B (by omega);rcases C with rfl|⟨H,r⟩;{exact ch XF rfl (by simp only[go_sem,XF,h,w,q])};(have c1:¬A<0:=by omega);(have c:s.length<=mg:=by simp only[mg];omega);(have d:a.length<=mg:=by simp only[mg];omega);have k:gY mg 12 s:=gY.small 12 s os (by simp only[mg];omega);have b:gY mg 2 a:=gY.small 2 a e (by simp only[mg];omega);have t0:=Hz c k;have t1:=Ps d b;have j:=EM c k;have i:=NF d b;obtain⟨l,rfl⟩:=EB os;obtain⟨m,rfl⟩:=Nn e;rw[aj]at t r;(have f:bQ aC l<=1048576:=by simp only[bQ];omega);(have g:bQ bl m<=1048576:=by simp only[bQ];omega);have y:=ar3 f g;have x:=ar4 f g;generalize QB (tR l m)=v at *;clear c d k b os e o p t r f g;exact ch XF rfl (by simp only[go_sem,XF,h,w,q,c1,t0,t1,j,i,y,x,ne_self])
def vd(s:M (M D))(c:s.length<=maxLen)(os:gY maxLen 12 s)(a:M (M D))(e:a.length<=maxLen)(b:gY maxLen 2 a) :
  fK T 531 [.val J [.d (.list 19 J s)],.val J [.d (.list 3 J a)]]=Z ([.val J [.d (.bool I)]],[]):=
 ami (N0 c os e b) rfl rfl
end Go.Proofs.YtgnmdaifiodnnaaGreatDoor
