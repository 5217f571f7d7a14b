/- Part of the proof: a machine over plain data, its proof, the functions of the program run on symbols, what they answer. Condition: none. -/
import Derived.Test.YtgfcijiikgjbcaaGreatDoorZz18
import Derived.Test.YtgfcijiikgjbcaaGreatDoorZz21
set_option linter.unusedVariables false
set_option linter.unusedSimpArgs false
set_option linter.unusedSectionVars false
open List renaming length_map->aA
open Nat renaming le_trans->aH,reduceEqDiff->aN,reduceLeDiff->bm,reduceBNe->bq,reduceAdd->bM,reduceMul->cF,reduceBEq->cJ,reduceSub->cK,reduceLT->cS
open Option renaming some->Z
open Bool renaming true->I,false->J
namespace Go.Proofs.YtgfcijiikgjbcaaGreatDoor
set_option maxRecDepth 100000
set_option maxHeartbeats 4000000
section
open Go.RowKit
theorem uq(a:M (M D))(R:a.length<=maxLen)(p:eJ maxLen 12 a)(b:M (M D))(Q:b.length<=maxLen)(o:eJ maxLen 2 b)(c:M (M D))(P:c.length<=maxLen)(n:eJ maxLen 2 c) :
  run T (iD T) acR [.val J [.d (.list 19 J a)],.val J [.d (.list 3 J b)],.val J [.d (.list 3 J c)]]=Z ([.val J [.d (.bool I)]],[]):=by
 unfold acR;refine (Xm (np:=3) rfl).trans ?_;have G:((-1:Int) < 0)=True:=by simp
 obtain⟨s,g0,h0⟩:=FA R p 1048576 (by omega) (by omega);have t:ej T 56 [.val J [.d (.list 19 J a)],.val J [.d (.int .i64 1048576)]]=Z ([.val J [.d (.int .i64 s)]],[]):=pI g0 rfl rfl rfl;rcases h0 with rfl|⟨p0,W⟩
 ·simp -implicitDefEqProofs only [t,G,go_sem,reduceIte,bM,aN,cF,bm,cJ,bq,cK,cS]
 have K:¬s < 0:=by omega
 obtain⟨r,g1,h1⟩:=Fz Q o s p0 (by omega);have H:ej T 4 [.val J [.d (.list 3 J b)],.val J [.d (.int .i64 s)]]=Z ([.val J [.d (.int .i64 r)]],[]):=pI g1 rfl rfl rfl;rcases h1 with rfl|⟨p1,V⟩
 ·simp -implicitDefEqProofs only [t,K,H,G,go_sem,reduceIte,bM,aN,cF,bm,cJ,bq,cK,cS]
 have c1:¬r < 0:=by omega
 obtain⟨N,g2,h2⟩:=Fz P n r p1 (by omega);have S:ej T 4 [.val J [.d (.list 3 J c)],.val J [.d (.int .i64 r)]]=Z ([.val J [.d (.int .i64 N)]],[]):=pI g2 rfl rfl rfl;rcases h2 with rfl|⟨p2,U⟩
 ·simp -implicitDefEqProofs only [t,K,H,c1,S,G,go_sem,reduceIte,bM,aN,cF,bm,cJ,bq,cK,cS]
 have c2:¬N < 0:=by omega
 have m:a.length<=mg:=by simp only[mg];omega
 have k:eJ mg 12 a:=eJ.small 12 a p (by simp only[mg];omega);have l:b.length<=mg:=by simp only[mg];omega
 have j:eJ mg 2 b:=eJ.small 2 b o (by simp only[mg];omega);have L:c.length<=mg:=by simp only[mg];omega
 have i:eJ mg 2 c:=eJ.small 2 c n (by simp only[mg];omega);have t0:ej T 71 [.val J [.d (.list 19 J a)]]=Z ([.val J [.row (EY 19 J a)]],[]):=pI (FE m k) rfl rfl rfl;have q0:ej T 120 [.val J [.d (.list 19 J a)],.val J [.d (.list 19 J a)]]=Z ([.val J [.d (.bool I)]],[]):=pI (Dn m k) rfl rfl rfl;have A:=rO 12 a p;have b0:eJ lF 12 a:=eJ.small 12 a p (by simp only[lF];omega);have t1:ej T 6 [.val J [.d (.list 3 J b)]]=Z ([.val J [.row (EY 3 J b)]],[]):=pI (FD l j) rfl rfl rfl;have q1:ej T 10 [.val J [.d (.list 3 J b)],.val J [.d (.list 3 J b)]]=Z ([.val J [.d (.bool I)]],[]):=pI (uW l j) rfl rfl rfl;have y:=rO 2 b o;have Y:eJ lF 2 b:=eJ.small 2 b o (by simp only[lF];omega);have t2:ej T 6 [.val J [.d (.list 3 J c)]]=Z ([.val J [.row (EY 3 J c)]],[]):=pI (FD L i) rfl rfl rfl;have q2:ej T 10 [.val J [.d (.list 3 J c)],.val J [.d (.list 3 J c)]]=Z ([.val J [.d (.bool I)]],[]):=pI (uW L i) rfl rfl rfl;have x:=rO 2 c n;have X:eJ lF 2 c:=eJ.small 2 c n (by simp only[lF];omega);have k0:=zo a (by simp only[lF];omega) b0 1 (by omega) (by omega);have k1:=qo b (by simp only[lF];omega) Y (1+ch a) (by omega) (by omega);have k2:=qo c (by simp only[lF];omega) X (1+ch a+ch b) (by omega) (by omega);have c3:¬((1:Int)+ch a+ch b+ch c < 0):=by omega
 obtain⟨g,rfl⟩:=Df p;obtain⟨f,rfl⟩:=Dd o;obtain⟨e,rfl⟩:=Dd n;simp only[aA]at W V U;have z0:bW ay g<=mg:=by simp only[bW,mg];omega
 have z1:bW bl f<=mg:=by simp only[bW,mg];omega
 have z2:bW bl e<=mg:=by simp only[bW,mg];omega
 have z3:bW bl f+21 * bW bl e<=mg:=by simp only[bW,mg];omega
 have w0:ej T 356 [.val J [.d (.list 19 J (g.map ay))],.val J [.d (.list 3 J (f.map bl))],.val J [.d (.list 3 J (e.map bl))]]=Z ([.val J [.row (EY 3 J ((QH g f e).1.map bl))],.val J [.d (.int .i64 (QH g f e).2)]],[]):=pI (alB z0 z3) rfl rfl rfl;have w1:ej T 366 [.val J [.d (.list 19 J (g.map ay))],.val J [.d (.list 3 J (f.map bl))],.val J [.d (.list 3 J (e.map bl))]]=Z ([.val J [.row (EY 3 J ((QH g f e).1.map bl))],.val J [.d (.int .i64 (QH g f e).2)]],[]):=pI (alI z0 z3) rfl rfl rfl;have F:bW bl (QH g f e).1<=23068672:=by
  refine aH ac6 ?_;simp only[bW];omega
 generalize QH g f e=v at *;obtain⟨v,w⟩:=v;have q:∀B,23068672<=B->eJ B 2 (v.map bl):=λB h=>QV v (by decide) h F;have lv:(v.map bl).length<=23068672:=by simp only[bW,aA]at *;omega
 have q3:ej T 10 [.val J [.d (.list 3 J (v.map bl))],.val J [.d (.list 3 J (v.map bl))]]=Z ([.val J [.d (.bool I)]],[]):=pI (uW (by simp only[mg];omega) (q mg (by decide))) rfl rfl rfl;have nv:=rO 2 _ (q maxLen (by decide));have C:qy (v.map bl)<=23068672:=by simp only[bW]at F;omega
 have k3:=qo (v.map bl) (by simp only[lF];omega) (q lF (by decide)) 1 (by omega) (by omega);have k4:=DJ (v.map bl) (by simp only[lF];omega) (q lF (by decide)) 1 (by omega) (by omega);have c4:¬((1:Int)+ch (v.map bl) < 0):=by omega
 clear m k R p W z0 b0 A l j Q o V z1 Y y L i P n U z2 X x F q lv nv C;simp -implicitDefEqProofs only [t,K,H,c1,S,c2,w0,w1,t0,t1,t2,q0,q1,q2,q3,k0,k1,k2,k3,k4,c3,c4,ne_self,go_sem,reduceIte,bM,aN,cF,bm,cJ,bq,cK,cS]
end
end Go.Proofs.YtgfcijiikgjbcaaGreatDoor
