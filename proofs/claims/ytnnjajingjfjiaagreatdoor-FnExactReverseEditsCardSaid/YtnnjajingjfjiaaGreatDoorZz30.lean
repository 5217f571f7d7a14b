/- Part of the proof: a machine over plain data, its proof, the functions of the program run on symbols, what they answer. Condition: none. -/
import Derived.Test.YtnnjajingjfjiaaGreatDoorZz25
import Derived.Test.YtnnjajingjfjiaaGreatDoorZz26
import Derived.Test.YtnnjajingjfjiaaGreatDoorZz29
set_option linter.unusedVariables false
set_option linter.unusedSimpArgs false
set_option linter.unusedSectionVars false
open List renaming length_map->ay
open Nat renaming reduceEqDiff->aA,le_trans->aG,reduceLeDiff->bl,reduceBNe->bz,reduceAdd->bF,reduceMul->qp
open Option renaming some->Z
open Bool renaming true->I,false->J
namespace Go.Proofs.YtnnjajingjfjiaaGreatDoor
set_option maxRecDepth 100000
set_option maxHeartbeats 4000000
section
open Go.RowKit
theorem tI(a:M (M D))(Q:a.length<=maxLen)(q:dw maxLen 12 a)(b:M (M D))(P:b.length<=maxLen)(p:dw maxLen 2 b)(c:M (M D))(N:c.length<=maxLen)(o:dw maxLen 3 c) :
  run T (gl T) ae5 [.val J [.d (.list 19 J a)],.val J [.d (.list 3 J b)],.val J [.d (.list 4 J c)]]=Z ([.val J [.d (.bool I)]],[]):=by
 unfold ae5;refine (Rh (np:=3) rfl).trans ?_;have F:((-1:Int) < 0)=True:=by simp
 obtain⟨s,g0,h0⟩:=zh Q q 1048576 (by omega) (by omega);have x:dM T 56 [.val J [.d (.list 19 J a)],.val J [.d (.int .i64 1048576)]]=Z ([.val J [.d (.int .i64 s)]],[]):=nA g0 rfl rfl rfl;rcases h0 with rfl|⟨p0,V⟩
 ·simp -implicitDefEqProofs only [x,F,go_sem,bF,aA,bl]
 have H:¬s < 0:=by omega
 obtain⟨r,g1,h1⟩:=tW P p s p0 (by omega);have G:dM T 4 [.val J [.d (.list 3 J b)],.val J [.d (.int .i64 s)]]=Z ([.val J [.d (.int .i64 r)]],[]):=nA g1 rfl rfl rfl;rcases h1 with rfl|⟨p1,U⟩
 ·simp -implicitDefEqProofs only [x,H,G,F,go_sem,bF,aA,bl]
 have c1:¬r < 0:=by omega
 obtain⟨L,g2,h2⟩:=Hi N o r p1 (by omega);have R:dM T 27 [.val J [.d (.list 4 J c)],.val J [.d (.int .i64 r)]]=Z ([.val J [.d (.int .i64 L)]],[]):=nA g2 rfl rfl rfl;rcases h2 with rfl|⟨p2,S⟩
 ·simp -implicitDefEqProofs only [x,H,G,c1,R,F,go_sem,bF,aA,bl]
 have c2:¬L < 0:=by omega
 have n:a.length<=mg:=by simp only[mg];omega
 have l:dw mg 12 a:=dw.small 12 a q (by simp only[mg];omega);have m:b.length<=mg:=by simp only[mg];omega
 have k:dw mg 2 b:=dw.small 2 b p (by simp only[mg];omega);have K:c.length<=mg:=by simp only[mg];omega
 have j:dw mg 3 c:=dw.small 3 c o (by simp only[mg];omega);have t0:dM T 71 [.val J [.d (.list 19 J a)]]=Z ([.val J [.row (oH 19 J a)]],[]):=nA (zj n l) rfl rfl rfl;have q0:dM T 120 [.val J [.d (.list 19 J a)],.val J [.d (.list 19 J a)]]=Z ([.val J [.d (.bool I)]],[]):=nA (yD n l) rfl rfl rfl;have C:=mq 12 a q;have Y:dw gq 12 a:=dw.small 12 a q (by simp only[gq];omega);have t1:dM T 6 [.val J [.d (.list 3 J b)]]=Z ([.val J [.row (oH 3 J b)]],[]):=nA (tY m k) rfl rfl rfl;have q1:dM T 10 [.val J [.d (.list 3 J b)],.val J [.d (.list 3 J b)]]=Z ([.val J [.d (.bool I)]],[]):=nA (qM m k) rfl rfl rfl;have A:=mq 2 b p;have X:dw gq 2 b:=dw.small 2 b p (by simp only[gq];omega);have t2:dM T 32 [.val J [.d (.list 4 J c)]]=Z ([.val J [.row (oH 4 J c)]],[]):=nA (Hk K j) rfl rfl rfl;have q2:dM T 12 [.val J [.d (.list 4 J c)],.val J [.d (.list 4 J c)]]=Z ([.val J [.d (.bool I)]],[]):=nA (Ae K j) rfl rfl rfl;have y:=mq 3 c o;have W:dw gq 3 c:=dw.small 3 c o (by simp only[gq];omega);have k0:=uO a (by simp only[gq];omega) Y 1 (by omega) (by omega);have k1:=nf b (by simp only[gq];omega) X (1+aT a) (by omega) (by omega);have k2:=uN c (by simp only[gq];omega) W (1+aT a+aT b) (by omega) (by omega);have c3:¬((1:Int)+aT a+aT b+aT c < 0):=by omega
 obtain⟨g,rfl⟩:=yA q;obtain⟨e,rfl⟩:=tz p;obtain⟨f,rfl⟩:=EE o;simp only[ay]at V U S;have z0:bK ax g<=mg:=by simp only[bK,mg];omega
 have z1:bK aU e<=mg:=by simp only[bK,mg];omega
 have z2:bK cK f<=mg:=by simp only[bK,mg];omega
 have z3:bK ax g+(bK aU e+zE f)+bK aU e<=mg:=by simp only[bK,mg,zE];omega
 have w0:dM T 376 [.val J [.d (.list 19 J (g.map ax))],.val J [.d (.list 3 J (e.map aU))],.val J [.d (.list 4 J (f.map cK))]]=Z ([.val J [.row (oH 4 J ((zd g e f).1.map cK))],.val J [.d (.bool (zd g e f).2)]],[]):=nA (aoZ z3) rfl rfl rfl;have w1:dM T 380 [.val J [.d (.list 19 J (g.map ax))],.val J [.d (.list 3 J (e.map aU))],.val J [.d (.list 4 J (f.map cK))]]=Z ([.val J [.row (oH 4 J ((zd g e f).1.map cK))],.val J [.d (.bool (zd g e f).2)]],[]):=nA (ao1 z3) rfl rfl rfl;obtain⟨ok,lv,mv⟩:=acS z3;generalize zd g e f=v at *;obtain⟨v,w⟩:=v;dsimp only at ok lv mv;have t:∀B,mg<=B->dw B 3 (v.map cK):=λB h=>dw.mono h 3 _ ok;have i:(v.map cK).length<=mg:=by rw[ay];exact lv
 have q3:dM T 12 [.val J [.d (.list 4 J (v.map cK))],.val J [.d (.list 4 J (v.map cK))]]=Z ([.val J [.d (.bool I)]],[]):=nA (Ae i (t mg (by decide))) rfl rfl rfl;have k3:=uN (v.map cK) (aG i (by decide)) (t gq (by decide)) 1 (by omega) (by omega);have k4:=QA (v.map cK) (aG i (by decide)) (t gq (by decide)) 1 (by omega) (by omega);have c4:¬((1:Int)+aT (v.map cK) < 0):=by omega
 clear n l Q q V z0 Y C m k P p U z1 X A K j N o S z2 W y ok t lv mv i;simp -implicitDefEqProofs only [x,H,G,c1,R,c2,w0,w1,t0,t1,t2,q0,q1,q2,q3,k0,k1,k2,k3,k4,c3,c4,go_sem,bF,aA,qp,bl,bz]
end
end Go.Proofs.YtnnjajingjfjiaaGreatDoor
