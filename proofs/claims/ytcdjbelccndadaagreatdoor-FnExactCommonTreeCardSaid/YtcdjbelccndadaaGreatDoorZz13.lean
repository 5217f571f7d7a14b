/- Part of the proof: a machine over plain data, its proof, the functions of the program run on symbols, what they answer. Condition: none. -/
import Derived.Test.YtcdjbelccndadaaGreatDoorZz07
import Derived.Test.YtcdjbelccndadaaGreatDoorZz09
import Derived.Test.YtcdjbelccndadaaGreatDoorZz12
set_option linter.unusedVariables false
set_option linter.unusedSimpArgs false
open List renaming length_map->av
open Nat renaming reduceEqDiff->ax,le_trans->az,reduceLeDiff->aZ,reduceBNe->ba,reduceAdd->bI
namespace Go.Proofs.YtcdjbelccndadaaGreatDoor
set_option maxRecDepth 100000
set_option maxHeartbeats 4000000
section
open Go.RowKit
theorem qY(s:List (List D))(ls:s.length<=maxLen)(os:eh maxLen 12 s)(a:List (List D))(la:a.length<=maxLen)(oa:eh maxLen 2 a)(b:List (List D))(lb:b.length<=maxLen)(ob:eh maxLen 2 b) :
  run T (gK T) Yl [.val false [.d (.list 19 false s)],.val false [.d (.list 3 false a)],.val false [.d (.list 3 false b)]]=some ([.val false [.d (.bool true)]],[]):=by
 unfold Yl;refine (Zu (np:=3) rfl).trans ?_;have hn:((-1:Int) < 0)=True:=by simp
 obtain⟨r0,g0,h0⟩:=KL ls os 1048576 (by omega) (by omega);have f0:dd T 56 [.val false [.d (.list 19 false s)],.val false [.d (.int .i64 1048576)]]=some ([.val false [.d (.int .i64 r0)]],[]):=yA g0 rfl rfl rfl;rcases h0 with rfl|⟨p0,e0⟩
 ·simp -implicitDefEqProofs only [f0,hn,go_sem,bI,ax,aZ]
 have c0:¬r0 < 0:=by omega
 obtain⟨r1,g1,h1⟩:=IQ la oa r0 p0 (by omega);have f1:dd T 4 [.val false [.d (.list 3 false a)],.val false [.d (.int .i64 r0)]]=some ([.val false [.d (.int .i64 r1)]],[]):=yA g1 rfl rfl rfl;rcases h1 with rfl|⟨p1,e1⟩
 ·simp -implicitDefEqProofs only [f0,c0,f1,hn,go_sem,bI,ax,aZ]
 have c1:¬r1 < 0:=by omega
 obtain⟨r2,g2,h2⟩:=IQ lb ob r1 p1 (by omega);have f2:dd T 4 [.val false [.d (.list 3 false b)],.val false [.d (.int .i64 r1)]]=some ([.val false [.d (.int .i64 r2)]],[]):=yA g2 rfl rfl rfl;rcases h2 with rfl|⟨p2,e2⟩
 ·simp -implicitDefEqProofs only [f0,c0,f1,c1,f2,hn,go_sem,bI,ax,aZ]
 have c2:¬r2 < 0:=by omega
 have ls':s.length<=mg:=by simp only[mg];omega
 have la':a.length<=mg:=by simp only[mg];omega
 have lb':b.length<=mg:=by simp only[mg];omega
 have RM:eh mg 12 s:=eh.small 12 s os (by simp only[mg];omega);have oa':eh mg 2 a:=eh.small 2 a oa (by simp only[mg];omega);have ob':eh mg 2 b:=eh.small 2 b ob (by simp only[mg];omega);have t0:dd T 71 [.val false [.d (.list 19 false s)]]=some ([.val false [.row (Om 19 false s)]],[]):=yA (K0 ls' RM) rfl rfl rfl;have t1:dd T 6 [.val false [.d (.list 3 false a)]]=some ([.val false [.row (Om 3 false a)]],[]):=yA (IV la' oa') rfl rfl rfl;have t2:dd T 6 [.val false [.d (.list 3 false b)]]=some ([.val false [.row (Om 3 false b)]],[]):=yA (IV lb' ob') rfl rfl rfl;have q0:dd T 120 [.val false [.d (.list 19 false s)],.val false [.d (.list 19 false s)]]=some ([.val false [.d (.bool true)]],[]):=yA (JJ ls' RM) rfl rfl rfl;have q1:dd T 10 [.val false [.d (.list 3 false a)],.val false [.d (.list 3 false a)]]=some ([.val false [.d (.bool true)]],[]):=yA (zZ la' oa') rfl rfl rfl;have q2:dd T 10 [.val false [.d (.list 3 false b)],.val false [.d (.list 3 false b)]]=some ([.val false [.d (.bool true)]],[]):=yA (zZ lb' ob') rfl rfl rfl;have n0:=xg 12 s os;have n1:=xg 2 a oa;have n2:=xg 2 b ob;have os2:eh mm 12 s:=eh.small 12 s os (by simp only[mm];omega);have oa2:eh mm 2 a:=eh.small 2 a oa (by simp only[mm];omega);have ob2:eh mm 2 b:=eh.small 2 b ob (by simp only[mm];omega);have k0:=FB s (by simp only[mm];omega) os2 1 (by omega) (by omega);have k1:=uk a (by simp only[mm];omega) oa2 (1+bz s) (by omega) (by omega);have k2:=uk b (by simp only[mm];omega) ob2 (1+bz s+bz a) (by omega) (by omega);have c3:¬((1:Int)+bz s+bz a+bz b < 0):=by omega
 obtain⟨xs,rfl⟩:=JD os;obtain⟨xa,rfl⟩:=Ha oa;obtain⟨xb,rfl⟩:=Ha ob;rw[av]at e0 e1 e2;have hs:cA aw xs<=mg:=by simp only[cA,mg];omega
 have ha:cA bD xa<=mg:=by simp only[cA,mg];omega
 have hb:cA bD xb<=mg:=by simp only[cA,mg];omega
 have w0:dd T 335 [.val false [.d (aA xs)],.val false [.d (bl xa)],.val false [.d (bl xb)]]=some ([.val false [.row (Om 3 false ((v7 xs xa xb).1.map bD))],.val false [.d (.bool (v7 xs xa xb).2)]],[]):=yA (aia hs ha hb) rfl rfl rfl;have w1:dd T 337 [.val false [.d (aA xs)],.val false [.d (bl xa)],.val false [.d (bl xb)]]=some ([.val false [.row (Om 3 false ((v7 xs xa xb).1.map bD))],.val false [.d (.bool (v7 xs xa xb).2)]],[]):=yA (aib hs ha hb) rfl rfl rfl;have hz:cA bD (v7 xs xa xb).1<=1048576:=by
  unfold v7;split
  ·exact az (Xe _) (by simp only[cA];omega)
  ·simp[cA,n7]
 generalize v7 xs xa xb=v at *;obtain⟨v,w⟩:=v;have ov:∀B,1048576<=B->eh B 2 (v.map bD):=λB h=>U2 v h hz;have lv:(v.map bD).length<=1048576:=by simp only[cA,av]at *;omega
 have q3:dd T 10 [.val false [.d (.list 3 false (v.map bD))],.val false [.d (.list 3 false (v.map bD))]]=some ([.val false [.d (.bool true)]],[]):=yA (zZ (by simp only[mg];omega) (ov mg (by decide))) rfl rfl rfl;have nv:=xg 2 _ (ov maxLen (by decide));have hz':n7 (v.map bD)<=1048576:=by simp only[cA]at hz;omega
 have k3:=uk (v.map bD) (by simp only[mm];omega) (ov mm (by decide)) 1 (by omega) (by omega);have k4:=JV (v.map bD) (by simp only[mm];omega) (ov mm (by decide)) 1 (by omega) (by omega);have c4:¬((1:Int)+bz (v.map bD) < 0):=by omega
 clear ls' la' lb' RM oa' ob' os oa ob ls la lb e0 e1 e2 hs ha hb hz ov lv nv hz' os2 oa2 ob2 n0 n1 n2;simp -implicitDefEqProofs only [f0,c0,f1,c1,f2,c2,t0,t1,t2,q0,q1,q2,w0,w1,q3,k0,k1,k2,k3,k4,c3,c4,go_sem,bI,ax,Nat.reduceMul,aZ,ba]
end
end Go.Proofs.YtcdjbelccndadaaGreatDoor
