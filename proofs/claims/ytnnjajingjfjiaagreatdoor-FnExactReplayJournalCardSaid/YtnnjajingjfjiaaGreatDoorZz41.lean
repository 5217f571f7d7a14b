/- Part of the proof: a machine over plain data, its proof, the functions of the program run on symbols, what they answer. Condition: none. -/
import Derived.Test.YtnnjajingjfjiaaGreatDoorZz29
import Derived.Test.YtnnjajingjfjiaaGreatDoorZz40
set_option linter.unusedVariables false
set_option linter.unusedSimpArgs false
set_option linter.unusedSectionVars false
open List renaming cons_append->au,nil_append->av,length_map->ay,map_cons->aW,map_nil->bD
open Nat renaming reduceEqDiff->aA,le_trans->aG,reduceLeDiff->bl,reduceBNe->bz,reduceAdd->bF,add_zero->cd,reduceMul->qp
open Option renaming some->Z
open Bool renaming true->I,false->J
namespace Go.Proofs.YtnnjajingjfjiaaGreatDoor
set_option maxRecDepth 100000
set_option maxHeartbeats 4000000
section
open Go.RowKit
theorem sO(a:M (M D))(K:a.length<=maxLen)(l:dw maxLen 12 a)(m:M D)(H:eu maxLen (lay 5) m) :
  run T (gl T) ae4 [.val J [.d (.list 19 J a)],.val I (m.map .d)]=Z ([.val J [.d (.bool I)]],[]):=by
 unfold ae4;refine (Rh (np:=2) rfl).trans ?_;have N:((-1:Int) < 0)=True:=by simp
 obtain⟨o,g0,h0⟩:=zh K l 1048576 (by omega) (by omega);have F:dM T 56 [.val J [.d (.list 19 J a)],.val J [.d (.int .i64 1048576)]]=Z ([.val J [.d (.int .i64 o)]],[]):=nA g0 rfl rfl rfl;have p:=H;obtain⟨b,c,rfl,⟨lb,s⟩,⟨lc,r⟩⟩:=o9 H;simp only[aW,bD];rcases h0 with rfl|⟨p0,R⟩
 ·simp -implicitDefEqProofs only [F,N,go_sem,aA,bl]
 have S:¬o < 0:=by omega
 obtain⟨G,P,h1⟩:=O4 p o p0 (by omega);simp only[au,av]at P;have Q:dM T 30 [.val I [.d (.list 3 J b),.d (.list 3 J c)],.val J [.d (.int .i64 o)]]=Z ([.val J [.d (.int .i64 G)]],[]):=nA P rfl rfl rfl;rcases h1 with rfl|⟨p1,m⟩
 ·simp -implicitDefEqProofs only [F,S,Q,N,go_sem,bF,aA,bl]
 have c1:¬G < 0:=by omega
 simp only[ee,D.sz]at m;have k:a.length<=mg:=by simp only[mg];omega
 have j:dw mg 12 a:=dw.small 12 a l (by simp only[mg];omega);have i:=eu.small (B':=mg) (lay 5) _ p (by simp only[ee,D.sz,mg];omega);have t0:dM T 71 [.val J [.d (.list 19 J a)]]=Z ([.val J [.row (oH 19 J a)]],[]):=nA (zj k j) rfl rfl rfl;have q0:dM T 120 [.val J [.d (.list 19 J a)],.val J [.d (.list 19 J a)]]=Z ([.val J [.d (.bool I)]],[]):=nA (yD k j) rfl rfl rfl;have t1:dM T 35 [.val I [.d (.list 3 J b),.d (.list 3 J c)]]=Z ([.val I [.row (oH 3 J b),.row (oH 3 J c)]],[]):=nA (Pa i) rfl rfl rfl;have q1:dM T 15 [.val I [.d (.list 3 J b),.d (.list 3 J c)],.val I [.d (.list 3 J b),.d (.list 3 J c)]]=Z ([.val J [.d (.bool I)]],[]):=nA (Nn i) rfl rfl rfl;have y:=mq 12 a l;have x:=mq 2 b s;have t:=mq 4 c r;have V:dw gq 12 a:=dw.small 12 a l (by simp only[gq];omega);have U:=eu.small (B':=gq) (lay 5) _ p (by simp only[ee,D.sz,gq];omega);have k0:=uO a (by simp only[gq];omega) V 1 (by omega) (by omega);have L:=Lx _ U (1+aT a) (by omega) (by simp only[ox,D.ox];omega);simp only[Bd,D.Bd,ox,D.ox,cd]at L;have c2:¬((1:Int)+aT a+((aT b+aT c:Nat):Int) < 0):=by omega
 obtain⟨g,rfl⟩:=yA l;obtain⟨f,rfl⟩:=tz s;obtain⟨e,rfl⟩:=Qa r;simp only[ay]at R m;have z0:bK ax g<=mg:=by simp only[bK,mg];omega
 have q:e.length<=mg:=by simp only[mg];omega
 have z2:bK aU f+21 * bK gM e<=mg:=by simp only[bK,mg];omega
 have X:dM T 369 [.val J [.d (.list 19 J (g.map ax))],.val I [.d (.list 3 J (f.map aU)),.d (.list 3 J (e.map gM))]]=Z ([.val J [.row (oH 3 J ((AS g f e).1.map aU))],.val J [.d (.bool (AS g f e).2)]],[]):=nA (aoV z0 q z2) rfl rfl rfl;have W:dM T 371 [.val J [.d (.list 19 J (g.map ax))],.val I [.d (.list 3 J (f.map aU)),.d (.list 3 J (e.map gM))]]=Z ([.val J [.row (oH 3 J ((AS g f e).1.map aU))],.val J [.d (.bool (AS g f e).2)]],[]):=nA (aoX z0 q z2) rfl rfl rfl;have C:bK aU (AS g f e).1<=23068672:=by
  refine aG acQ ?_;simp only[bK];omega
 generalize AS g f e=v at *;obtain⟨v,w⟩:=v;have n:∀B,23068672<=B->dw B 2 (v.map aU):=λB h=>TU v (by decide) h C;have lv:(v.map aU).length<=23068672:=by simp only[bK,ay]at *;omega
 have Y:dM T 10 [.val J [.d (.list 3 J (v.map aU))],.val J [.d (.list 3 J (v.map aU))]]=Z ([.val J [.d (.bool I)]],[]):=nA (qM (by simp only[mg];omega) (n mg (by decide))) rfl rfl rfl;have nv:=mq 2 _ (n maxLen (by decide));have A:oM (v.map aU)<=23068672:=by simp only[bK]at C;omega
 have k3:=nf (v.map aU) (by simp only[gq];omega) (n gq (by decide)) 1 (by omega) (by omega);have k4:=qR (v.map aU) (by simp only[gq];omega) (n gq (by decide)) 1 (by omega) (by omega);have c4:¬((1:Int)+aT (v.map aU) < 0):=by omega
 clear k j i K l p s r R m z0 q z2 V U y x t C n lv nv A;simp -implicitDefEqProofs only [F,S,Q,c1,X,W,t0,t1,q0,q1,Y,k0,L,k3,k4,c2,c4,go_sem,bF,aA,qp,bl,Nat.reduceBEq,bz]
end
end Go.Proofs.YtnnjajingjfjiaaGreatDoor
