/- Part of the proof: a machine over plain data, its proof, the functions of the program run on symbols, what they answer. Condition: none. -/
import Derived.Test.YtcdjbelccndadaaGreatDoorZy09
import Derived.Test.YtcdjbelccndadaaGreatDoorZy12
set_option linter.unusedVariables false
set_option linter.unusedSimpArgs false
open List renaming length_map->au
open Nat renaming reduceEqDiff->aw,le_trans->aA,reduceLeDiff->aY,reduceBNe->aZ,reduceAdd->bD
namespace Go.Proofs.YtcdjbelccndadaaGreatDoor
set_option maxRecDepth 100000
set_option maxHeartbeats 4000000
section
open Go.RowKit
theorem tz(s0:List (List D))(l0:s0.length<=maxLen)(o0:dL maxLen 12 s0)(s1:List (List D))(l1:s1.length<=maxLen)(o1:dL maxLen 2 s1)(s2:List (List D))(l2:s2.length<=maxLen)(o2:dL maxLen 1 s2)(s3:List (List D))(l3:s3.length<=maxLen)(o3:dL maxLen 0 s3) :
  run T (gF T) Yz [.val false [.d (.list 19 false s0)],.val false [.d (.list 3 false s1)],.val false [.d (.list 4 false s2)],.val false [.d (.list 1 true s3)]]=some ([.val false [.d (.bool true)]],[]):=by
 unfold Yz;refine (ZL (np:=4) rfl).trans ?_;have hn:((-1:Int) < 0)=True:=by simp
 obtain⟨r0,g0,h0⟩:=KC l0 o0 1048576 (by omega) (by omega);have f0:db T 56 [.val false [.d (.list 19 false s0)],.val false [.d (.int .i64 1048576)]]=some ([.val false [.d (.int .i64 r0)]],[]):=uk g0 rfl rfl rfl;rcases h0 with rfl|⟨p0,e0⟩
 ·simp -implicitDefEqProofs only [f0,hn,go_sem,bD,aw,aY]
 have c0:¬r0 < 0:=by omega
 obtain⟨r1,g1,h1⟩:=SL l1 o1 r0 p0 (by omega);have f1:db T 4 [.val false [.d (.list 3 false s1)],.val false [.d (.int .i64 r0)]]=some ([.val false [.d (.int .i64 r1)]],[]):=uk g1 rfl rfl rfl;rcases h1 with rfl|⟨p1,e1⟩
 ·simp -implicitDefEqProofs only [f0,c0,f1,hn,go_sem,bD,aw,aY]
 have c1:¬r1 < 0:=by omega
 obtain⟨r2,g2,h2⟩:=SM l2 o2 r1 p1 (by omega);have f2:db T 58 [.val false [.d (.list 4 false s2)],.val false [.d (.int .i64 r1)]]=some ([.val false [.d (.int .i64 r2)]],[]):=uk g2 rfl rfl rfl;rcases h2 with rfl|⟨p2,e2⟩
 ·simp -implicitDefEqProofs only [f0,c0,f1,c1,f2,hn,go_sem,bD,aw,aY]
 have c2:¬r2 < 0:=by omega
 obtain⟨r3,g3,h3⟩:=vJ l3 o3 r2 p2 (by omega);have f3:db T 46 [.val false [.d (.list 1 true s3)],.val false [.d (.int .i64 r2)]]=some ([.val false [.d (.int .i64 r3)]],[]):=uk g3 rfl rfl rfl;rcases h3 with rfl|⟨p3,e3⟩
 ·simp -implicitDefEqProofs only [f0,c0,f1,c1,f2,c2,f3,hn,go_sem,bD,aw,aY]
 have c3:¬r3 < 0:=by omega
 have l0':s0.length<=mg:=by simp only[mg];omega
 have o0':dL mg 12 s0:=dL.small 12 s0 o0 (by simp only[mg];omega);have l1':s1.length<=mg:=by simp only[mg];omega
 have o1':dL mg 2 s1:=dL.small 2 s1 o1 (by simp only[mg];omega);have NT:s2.length<=mg:=by simp only[mg];omega
 have o2':dL mg 1 s2:=dL.small 1 s2 o2 (by simp only[mg];omega);have l3':s3.length<=mg:=by simp only[mg];omega
 have o3':dL mg 0 s3:=dL.small 0 s3 o3 (by simp only[mg];omega);have t0:db T 71 [.val false [.d (.list 19 false s0)]]=some ([.val false [.row (Kf 19 false s0)]],[]):=uk (KU l0' o0') rfl rfl rfl;have q0:db T 120 [.val false [.d (.list 19 false s0)],.val false [.d (.list 19 false s0)]]=some ([.val false [.d (.bool true)]],[]):=uk (JB l0' o0') rfl rfl rfl;have n0':=ur 12 s0 o0;have b0:dL kZ 12 s0:=dL.small 12 s0 o0 (by simp only[kZ];omega);have t1:db T 6 [.val false [.d (.list 3 false s1)]]=some ([.val false [.row (Kf 3 false s1)]],[]):=uk (S9 l1' o1') rfl rfl rfl;have q1:db T 10 [.val false [.d (.list 3 false s1)],.val false [.d (.list 3 false s1)]]=some ([.val false [.d (.bool true)]],[]):=uk (Hb l1' o1') rfl rfl rfl;have n1':=ur 2 s1 o1;have b1:dL kZ 2 s1:=dL.small 2 s1 o1 (by simp only[kZ];omega);have t2:db T 73 [.val false [.d (.list 4 false s2)]]=some ([.val false [.row (Kf 4 false s2)]],[]):=uk (Ta NT o2') rfl rfl rfl;have q2:db T 122 [.val false [.d (.list 4 false s2)],.val false [.d (.list 4 false s2)]]=some ([.val false [.d (.bool true)]],[]):=uk (Qi NT o2') rfl rfl rfl;have n2':=ur 1 s2 o2;have b2:dL kZ 1 s2:=dL.small 1 s2 o2 (by simp only[kZ];omega);have t3:db T 61 [.val false [.d (.list 1 true s3)]]=some ([.val false [.row (Kf 1 true s3)]],[]):=uk (vL l3' o3') rfl rfl rfl;have q3:db T 110 [.val false [.d (.list 1 true s3)],.val false [.d (.list 1 true s3)]]=some ([.val false [.d (.bool true)]],[]):=uk (u6 l3' o3') rfl rfl rfl;have n3':=ur 0 s3 o3;have b3:dL kZ 0 s3:=dL.small 0 s3 o3 (by simp only[kZ];omega);have k0:=Fv s0 (by simp only[kZ];omega) b0 1 (by omega) (by omega);have k1:=A_ s1 (by simp only[kZ];omega) b1 (1+bq s0) (by omega) (by omega);have k2:=J1 s2 (by simp only[kZ];omega) b2 (1+bq s0+bq s1) (by omega) (by omega);have k3:=lp s3 (by simp only[kZ];omega) b3 (1+bq s0+bq s1+bq s2) (by omega) (by omega);have c4:¬((1:Int)+bq s0+bq s1+bq s2+bq s3 < 0):=by omega
 obtain⟨x0,rfl⟩:=Ju o0;obtain⟨x1,rfl⟩:=PJ o1;obtain⟨x2,rfl⟩:=PK o2;obtain⟨x3,rfl⟩:=uW o3;simp only[au]at e0 e1 e2 e3;have z0:cD ax x0<=mg:=by simp only[cD,mg];omega
 have z1:cD bI x1<=mg:=by simp only[cD,mg];omega
 have z2:cD qK x2<=mg:=by simp only[cD,mg];omega
 have z3:cD fm x3<=mg:=by simp only[cD,mg];omega
 have z4:x2.length<=mg:=by simp only[cD]at z2;omega
 have z5:x3.length<=mg:=by simp only[cD]at z3;omega
 have z6:∀r∈x2,r.names.length<=mg:=λr hr=>OC z2 hr;have w0:db T 341 [.val false [.d (.list 19 false (x0.map ax))],.val false [.d (.list 3 false (x1.map bI))],.val false [.d (.list 4 false (x2.map qK))],.val false [.d (.list 1 true (x3.map fm))]]=some ([.val false [.row (Kf 3 false ((pQ x2 x3 x0 x1).1.map bI))],.val false [.d (.bool (pQ x2 x3 x0 x1).2)]],[]):=uk (aio z4 z5 z6 z0 z1) rfl rfl rfl;have w1:db T 343 [.val false [.d (.list 19 false (x0.map ax))],.val false [.d (.list 3 false (x1.map bI))],.val false [.d (.list 4 false (x2.map qK))],.val false [.d (.list 1 true (x3.map fm))]]=some ([.val false [.row (Kf 3 false ((pQ x2 x3 x0 x1).1.map bI))],.val false [.d (.bool (pQ x2 x3 x0 x1).2)]],[]):=uk (aip z4 z5 z6 z0 z1) rfl rfl rfl;have hz:cD bI (pQ x2 x3 x0 x1).1<=1048576:=by
  unfold pQ;split
  ·exact aA (V1 _) (by simp only[cD];omega)
  ·simp[cD,nw]
 generalize pQ x2 x3 x0 x1=v at *;obtain⟨v,w⟩:=v;have ov:∀B,1048576<=B->dL B 2 (v.map bI):=λB h=>Vi v h hz;have lv:(v.map bI).length<=1048576:=by simp only[cD,au]at *;omega
 have q4:db T 10 [.val false [.d (.list 3 false (v.map bI))],.val false [.d (.list 3 false (v.map bI))]]=some ([.val false [.d (.bool true)]],[]):=uk (Hb (by simp only[mg];omega) (ov mg (by decide))) rfl rfl rfl;have nv:=ur 2 _ (ov maxLen (by decide));have hz':nw (v.map bI)<=1048576:=by simp only[cD]at hz;omega
 have k4:=A_ (v.map bI) (by simp only[kZ];omega) (ov kZ (by decide)) 1 (by omega) (by omega);have k5:=JN (v.map bI) (by simp only[kZ];omega) (ov kZ (by decide)) 1 (by omega) (by omega);have c5:¬((1:Int)+bq (v.map bI) < 0):=by omega
 clear l0' o0' l0 o0 e0 z0 b0 n0' l1' o1' l1 o1 e1 z1 b1 n1' NT o2' l2 o2 e2 z2 b2 n2' l3' o3' l3 o3 e3 z3 b3 n3' hz ov lv nv hz';simp -implicitDefEqProofs only [f0,c0,f1,c1,f2,c2,f3,c3,w0,w1,t0,t1,t2,t3,q0,q1,q2,q3,q4,k0,k1,k2,k3,k4,k5,c4,c5,go_sem,bD,aw,Nat.reduceMul,aY,aZ]
end
end Go.Proofs.YtcdjbelccndadaaGreatDoor
