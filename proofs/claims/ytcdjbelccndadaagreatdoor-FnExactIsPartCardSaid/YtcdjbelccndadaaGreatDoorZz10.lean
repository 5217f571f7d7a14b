/- Part of the proof: a machine over plain data, its proof, the functions of the program run on symbols, what they answer. Condition: none. -/
import Derived.Test.YtcdjbelccndadaaGreatDoorZz07
import Derived.Test.YtcdjbelccndadaaGreatDoorZz09
set_option linter.unusedVariables false
set_option linter.unusedSimpArgs false
namespace Go.Proofs.YtcdjbelccndadaaGreatDoor
section
set_option maxRecDepth 100000
set_option maxHeartbeats 4000000
theorem gIsPart{s a b:List (List D)}(ls:s.length≤maxLen)(os:OkE maxLen 12 s)(la:a.length≤maxLen)(oa:OkE maxLen 2 a)(lb:b.length≤maxLen)(ob:OkE maxLen 2 b) :
  G 332 [.list 19 false s,.list 3 false a,.list 3 false b]=some (0,[.bool true]):=by
 obtain⟨r0,f0,h0⟩:=szL_Schema ls os 1048576 (by omega) (by omega);rcases h0 with rfl|⟨p0,e0⟩
 ·exact gOf s332 rfl (by simp only[go_sem,t332,f0])
 have c0:¬r0 < 0:=by omega
 obtain⟨r1,f1,h1⟩:=szL_Node la oa r0 p0 (by omega);rcases h1 with rfl|⟨p1,e1⟩
 ·exact gOf s332 rfl (by simp only[go_sem,t332,f0,c0,f1])
 have c1:¬r1 < 0:=by omega
 obtain⟨r2,f2,h2⟩:=szL_Node lb ob r1 p1 (by omega);rcases h2 with rfl|⟨p2,e2⟩
 ·exact gOf s332 rfl (by simp only[go_sem,t332,f0,c0,f1,c1,f2])
 have c2:¬r2 < 0:=by omega
 have ls':s.length≤mg:=by simp only[mg];omega
 have la':a.length≤mg:=by simp only[mg];omega
 have lb':b.length≤mg:=by simp only[mg];omega
 have os':OkE mg 12 s:=OkE.small 12 s os (by simp only[mg];omega);have oa':OkE mg 2 a:=OkE.small 2 a oa (by simp only[mg];omega);have ob':OkE mg 2 b:=OkE.small 2 b ob (by simp only[mg];omega);have t0:=toL_Schema ls' os';have t1:=toL_Node la' oa';have t2:=toL_Node lb' ob';have q0:=eqL_Schema ls' os';have q1:=eqL_Node la' oa';have q2:=eqL_Node lb' ob';obtain⟨xs,rfl⟩:=dec_Schema os;obtain⟨xa,rfl⟩:=dec_Node oa;obtain⟨xb,rfl⟩:=dec_Node ob;rw[List.length_map]at e0 e1 e2;have hs:szl eSchema xs≤mg:=by simp only[szl,mg];omega
 have ha:szl eNode xa≤mg:=by simp only[szl,mg];omega
 have hb:szl eNode xb≤mg:=by simp only[szl,mg];omega
 have w0:=q254 hs ha hb;have w1:=q331 hs ha hb;generalize isPart xs xa xb=v at *;clear ls' la' lb' os' oa' ob' os oa ob ls la lb e0 e1 e2 hs ha hb;exact gOf s332 rfl (by simp only[go_sem,t332,f0,c0,f1,c1,f2,c2,t0,t1,t2,q0,q1,q2,w0,w1])
theorem law_FnExactIsPart(s:List (List D))(ls:s.length≤maxLen)(os:OkE maxLen 12 s)(a:List (List D))(la:a.length≤maxLen)(oa:OkE maxLen 2 a)(b:List (List D))(lb:b.length≤maxLen)(ob:OkE maxLen 2 b) :
  lim T 332 [.val false [.d (.list 19 false s)],.val false [.d (.list 3 false a)],.val false [.d (.list 3 false b)]]=some ([.val false [.d (.bool true)]],[]):=
 lawT (gIsPart ls os la oa lb ob) rfl rfl
end
end Go.Proofs.YtcdjbelccndadaaGreatDoor
