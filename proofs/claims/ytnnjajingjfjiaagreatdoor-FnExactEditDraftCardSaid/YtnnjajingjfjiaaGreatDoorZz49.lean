/- Part of the proof: a machine over plain data, its proof, the functions of the program run on symbols, what they answer. Condition: none. -/
import Derived.Test.YtnnjajingjfjiaaGreatDoorZz29
import Derived.Test.YtnnjajingjfjiaaGreatDoorZz48
set_option linter.unusedVariables false
set_option linter.unusedSimpArgs false
set_option linter.unusedSectionVars false
open Int renaming natCast_zero->bU,add_zero->dh
open List renaming cons_append->au,nil_append->av,length_map->ay,map_cons->aW,map_nil->bD
open Nat renaming reduceEqDiff->aA,le_trans->aG,reduceLeDiff->bl,zero_add->bo,reduceBNe->bz,reduceAdd->bF,add_zero->cd,reduceMul->qp
open Option renaming some->Z
open Bool renaming true->I,false->J
namespace Go.Proofs.YtnnjajingjfjiaaGreatDoor
set_option maxRecDepth 100000
set_option maxHeartbeats 4000000
section
open Go.RowKit
theorem wJ(e:M D)(o:eu maxLen (lay 15) e)(n:Int)(hb:-9223372036854775808<=n/\n<=9223372036854775807)(a:M (M D))(l2:a.length<=maxLen)(A:dw maxLen 3 a) :
  run T (gl T) ae6 [.val I (e.map .d),.val J [.d (.int .i64 n)],.val J [.d (.list 4 J a)]]=Z ([.val J [.d (.bool I)]],[]):=by
 unfold ae6;refine (Rh (np:=3) rfl).trans ?_;have hn:((-1:Int) < 0)=True:=by simp
 obtain⟨G,g0,h0⟩:=V2 o 1048576 (by omega) (by omega);have K:=o;obtain⟨s,r,q,i,p,g,f,c,b,m,rfl,⟨b0,U⟩,⟨b1,c1⟩,⟨b2,S⟩,i3,⟨b4,R⟩,i5,i6,i7,b8,⟨b9,Q⟩⟩:=qx o;simp only[aW,bD];simp only[au,av]at g0;have P:dM T 127 [.val I [.d (.list 19 J s),.d (.list 3 J r),.d (.list 3 J q),.d (.int .i64 i),.d (.list 3 J p),.d (.bool g),.d (.int .i64 f),.d (.int .i64 c),.d (.str b),.d (.list 3 J m)],.val J [.d (.int .i64 1048576)]]=Z ([.val J [.d (.int .i64 G)]],[]):=nA g0 rfl rfl rfl;rcases h0 with rfl|⟨p0,e0⟩
 ·simp -implicitDefEqProofs only [P,hn,go_sem,bF,aA,bl]
 have d0:¬G < 0:=by omega
 obtain⟨X,g1,y⟩:=Hi l2 A G p0 (by omega);have f1:dM T 27 [.val J [.d (.list 4 J a)],.val J [.d (.int .i64 G)]]=Z ([.val J [.d (.int .i64 X)]],[]):=nA g1 rfl rfl rfl;rcases y with rfl|⟨p1,e1⟩
 ·simp -implicitDefEqProofs only [P,d0,f1,hn,go_sem,bF,aA,bl]
 have d1:¬X < 0:=by omega
 have l:=eu.small (B':=mg) (lay 15) _ K (by simp only[mg];omega);have t:=eu.small (B':=gq) (lay 15) _ K (by simp only[gq];omega);have x:=e0;simp only[ee,D.sz]at x;have V:a.length<=mg:=by simp only[mg];omega
 have v:dw mg 3 a:=dw.small 3 a A (by simp only[mg];omega);have F:dw gq 3 a:=dw.small 3 a A (by simp only[gq];omega);have t0:dM T 131 [.val I [.d (.list 19 J s),.d (.list 3 J r),.d (.list 3 J q),.d (.int .i64 i),.d (.list 3 J p),.d (.bool g),.d (.int .i64 f),.d (.int .i64 c),.d (.str b),.d (.list 3 J m)]]=Z ([.val I [.row (oH 19 J s),.row (oH 3 J r),.row (oH 3 J q),.d (.int .i64 i),.row (oH 3 J p),.d (.bool g),.d (.int .i64 f),.d (.int .i64 c),.d (.str b),.row (oH 3 J m)]],[]):=nA (V_ l) rfl rfl rfl;have q0:dM T 147 [.val I [.d (.list 19 J s),.d (.list 3 J r),.d (.list 3 J q),.d (.int .i64 i),.d (.list 3 J p),.d (.bool g),.d (.int .i64 f),.d (.int .i64 c),.d (.str b),.d (.list 3 J m)],.val I [.d (.list 19 J s),.d (.list 3 J r),.d (.list 3 J q),.d (.int .i64 i),.d (.list 3 J p),.d (.bool g),.d (.int .i64 f),.d (.int .i64 c),.d (.str b),.d (.list 3 J m)]]=Z ([.val J [.d (.bool I)]],[]):=nA (IG l) rfl rfl rfl;have t2:dM T 32 [.val J [.d (.list 4 J a)]]=Z ([.val J [.row (oH 4 J a)]],[]):=nA (Hk V v) rfl rfl rfl;have q2:dM T 12 [.val J [.d (.list 4 J a)],.val J [.d (.list 4 J a)]]=Z ([.val J [.d (.bool I)]],[]):=nA (Ae V v) rfl rfl rfl;have n0:=mq 12 s U;have n1:=mq 2 r c1;have n2:=mq 2 q S;have n4:=mq 13 p R;have n9:=mq 2 m Q;have m2:=mq 3 a A;have k0:=Gn _ t 1 (by omega) (by simp only[ox,D.ox];omega);simp only[Bd,D.Bd,ox,D.ox,cd,bo,bU,dh]at k0;have k2:=uN a (by simp only[gq];omega) F (1+((aT s+(aT r+(aT q+(aT p+aT m))):Nat):Int)) (by omega) (by omega);have d2:¬(1+((aT s+(aT r+(aT q+(aT p+aT m))):Nat):Int)+aT a < 0):=by omega
 obtain⟨j,rfl⟩:=yA U;obtain⟨y1,rfl⟩:=tz c1;obtain⟨y2,rfl⟩:=tz S;obtain⟨y4,rfl⟩:=M9 R;obtain⟨y9,rfl⟩:=tz Q;obtain⟨k,rfl⟩:=EE A;simp only[ay]at x e1 n0 n1 n2 n4 n9 m2;have z0:ee (fm ⟨j,y1,y2,i,y4,g,f,c,b,y9⟩)+zE k<=mg:=by
  rw[mb];simp only[bK,mg,zE];omega
 have v0:=ao2 (n:=n) z0;have v1:=ao3 (n:=n) z0;obtain⟨d,cc,hd,C⟩:=aeu ⟨j,y1,y2,i,y4,g,f,c,b,y9⟩ n k;obtain⟨w,W⟩:=cc;rw[hd]at v0 v1;simp only[fm,au,av]at v0 v1;have C:bK aU d<=23068672:=by
  refine aG C ?_;simp only[bK,zE];omega
 have w0:dM T 382 [.val I [.d (.list 19 J (j.map ax)),.d (.list 3 J (y1.map aU)),.d (.list 3 J (y2.map aU)),.d (.int .i64 i),.d (.list 3 J (y4.map fE)),.d (.bool g),.d (.int .i64 f),.d (.int .i64 c),.d (.str b),.d (.list 3 J (y9.map aU))],.val J [.d (.int .i64 n)],.val J [.d (.list 4 J (k.map cK))]]=Z ([.val I [.row (oH 19 J (j.map ax)),.row (oH 3 J (y1.map aU)),.row (oH 3 J (d.map aU)),.d (.int .i64 i),.row (oH 3 J (y4.map fE)),.d (.bool g),.d (.int .i64 f),.d (.int .i64 c),.d (.str b),.row (oH 3 J (y9.map aU))],.val J [.d (.int .i64 w)],.val J [.d (.int .i64 W)]],[]):=nA v0 rfl rfl rfl;have w1:dM T 383 [.val I [.d (.list 19 J (j.map ax)),.d (.list 3 J (y1.map aU)),.d (.list 3 J (y2.map aU)),.d (.int .i64 i),.d (.list 3 J (y4.map fE)),.d (.bool g),.d (.int .i64 f),.d (.int .i64 c),.d (.str b),.d (.list 3 J (y9.map aU))],.val J [.d (.int .i64 n)],.val J [.d (.list 4 J (k.map cK))]]=Z ([.val I [.row (oH 19 J (j.map ax)),.row (oH 3 J (y1.map aU)),.row (oH 3 J (d.map aU)),.d (.int .i64 i),.row (oH 3 J (y4.map fE)),.d (.bool g),.d (.int .i64 f),.d (.int .i64 c),.d (.str b),.row (oH 3 J (y9.map aU))],.val J [.d (.int .i64 w)],.val J [.d (.int .i64 W)]],[]):=nA v1 rfl rfl rfl;have H:∀B,23068672<=B->dw B 2 (d.map aU):=λB h=>TU d (by decide) h C;have ld:(d.map aU).length<=23068672:=by simp only[bK,ay]at *;omega
 have os:∀B,23068672<=B->eu B (lay 15) [.list 19 J (j.map ax),.list 3 J (y1.map aU),.list 3 J (y2.map aU),.int .i64 i,.list 3 J (y4.map fE),.bool g,.int .i64 f,.int .i64 c,.str b,.list 3 J (y9.map aU)]->eu B (lay 15) [.list 19 J (j.map ax),.list 3 J (y1.map aU),.list 3 J (d.map aU),.int .i64 i,.list 3 J (y4.map fE),.bool g,.int .i64 f,.int .i64 c,.str b,.list 3 J (y9.map aU)]:=λB h y=>by
  simp only[lay,eu,Ok]at y ⊢;exact⟨y.1,y.2.1,⟨rfl,rfl,aG ld h,H B h⟩,y.2.2.2⟩
 have Y:=os mg (by decide) l;have L:=os gq (by decide) t;have q3:dM T 147 [.val I [.d (.list 19 J (j.map ax)),.d (.list 3 J (y1.map aU)),.d (.list 3 J (d.map aU)),.d (.int .i64 i),.d (.list 3 J (y4.map fE)),.d (.bool g),.d (.int .i64 f),.d (.int .i64 c),.d (.str b),.d (.list 3 J (y9.map aU))],.val I [.d (.list 19 J (j.map ax)),.d (.list 3 J (y1.map aU)),.d (.list 3 J (d.map aU)),.d (.int .i64 i),.d (.list 3 J (y4.map fE)),.d (.bool g),.d (.int .i64 f),.d (.int .i64 c),.d (.str b),.d (.list 3 J (y9.map aU))]]=Z ([.val J [.d (.bool I)]],[]):=nA (IG Y) rfl rfl rfl;have nd:=mq 2 _ (H maxLen (by decide));have N:oM (d.map aU)<=23068672:=by simp only[bK]at C;omega
 have k3:=Gn _ L 1 (by omega) (by simp only[ox,D.ox];omega);have k4:=QC _ L 1 (by omega) (by simp only[ox,D.ox];omega);simp only[Bd,D.Bd,ox,D.ox,cd,bo,bU,dh,aW,bD]at k3 k4;have d4:¬(1+((aT (j.map ax)+(aT (y1.map aU)+(aT (d.map aU)+(aT (y4.map fE)+aT (y9.map aU)))):Nat):Int) < 0):=by omega
 clear K l t Y L os H ld nd C N e0 x e1 z0 v0 v1 l2 V v F n0 n1 n2 n4 n9 m2 i3 i5 i6 i7 b0 b1 b2 b4 b8 b9 U c1 S R Q hd hb;simp -implicitDefEqProofs only [P,d0,f1,d1,w0,w1,t0,t2,q0,q2,q3,k0,k2,k3,k4,d2,d4,go_sem,bF,aA,qp,bl,Nat.reduceBEq,bz]
end
end Go.Proofs.YtnnjajingjfjiaaGreatDoor
