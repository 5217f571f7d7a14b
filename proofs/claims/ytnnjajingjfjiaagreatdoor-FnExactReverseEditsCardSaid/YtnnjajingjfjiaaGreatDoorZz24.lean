/- Part of the proof: a machine over plain data, its proof, the functions of the program run on symbols, what they answer. Condition: none. -/
import Derived.Test.YtnnjajingjfjiaaGreatDoorZz23
set_option linter.unusedVariables false
set_option linter.unusedSimpArgs false
set_option linter.unusedSectionVars false
open Bool renaming false_eq_true->aF,true->I,false->J
open List renaming cons_append->au,nil_append->av,length_cons->aH,length_nil->aJ,append_nil->aK,take_length->aR,take_zero->aV,map_cons->aW,length_append->bh,sizeOf_lt_of_mem->bj,append_assoc->bB,map_nil->bD,length_take_le'->jU,flatMap_nil->pL
open Nat renaming lt_irrefl->aC,le_trans->aG
open Option renaming isSome_none->dX,isSome_some->gT,some->Z
open SizeOf renaming sizeOf->aw
open Decidable renaming decide->Z'
namespace Go.Proofs.YtnnjajingjfjiaaGreatDoor
set_option maxRecDepth 100000
set_option maxHeartbeats 4000000
section
theorem anD(a:z):aZ .pl [.str a]=Z (.bool J):=(rfl)
theorem agC(e:Nat):∀(s:M ah) (a b:M az),aw b < e->bK ax s+bK aU a+bK aU b<=mg->Rt mh Dx (dk s) a->Rt mh Dx (dk s) b->
  G 378 [aB s,aE a,aE b]=Z (0,[dm (kL hX e s a b)]):=by
 induction e with
 |zero=>intro s a b h;omega
 |succ e ih=>
  intro s a b hz hs hA hB;have hss:bK ax s<=mg:=by omega
  have hsa:bK aU a<=mg:=by omega
  have hsb:bK aU b<=mg:=by omega
  have vC:a.length+b.length<=mg:=by simp only[bK]at hs;omega
  have hdk:=lN (es:=s);have As:=cN (b:=lB G Cg) a (λi t=>(0,[aB s,aE a,aE b,aE a,E a.length,E (i:Int),dm t])) (λi=>(a.take i).flatMap (mE hX s b)) (0,[aB s,aE a,aE b,aE a,E a.length,E a.length,.bool J,dm (a.flatMap (mE hX s b))]) (by
   intro i x p;have q:=bp p;have r:=wj q (by omega);have w:=iI p;obtain⟨k,n,V,P,h3,_⟩:=vJ hA (bc p);have L:dQ s x.aj=Z n:=by simp only[dQ,V,P]
   have N:=(dy L).choose_spec.2.2.1;have o:=ZQ (l:=s) (nm:=x.aj) hss;rw[V]at o;simp only[P,bu,aW,bD,fe]at o;have sH:ee (ax n)<=mg:=by have:=cG ax (bc P);omega
   obtain⟨x1,x2⟩:=lV hsa (bc p);have f:=agt (n:=n) (l:=b) (x:=x) sH hsb x1;have T:=alk (n:=n) (x:=x) sH x1 h3;have v:=QY x.aj;have ht:=aG (qc (g:=mE hX s b) vW (a.take i)) (aG (jU _ _) (show a.length<=mg by omega));rw[ur p];generalize (a.take i).flatMap _=t at *;simp only[af,aN,au,av]at o f T;cases B:hX n b x with
   |some j=>
    have hd:mE hX s b x=[]:=by simp only[mE,L,B,gT,if_true]
    rw[B]at f;have K:=ajs j;rw[hd];simp only[go_sem,bG,Cg,q,w,aN x,o,v,ij,f,vo,r,K,aK]
   |none=>
    rw[B]at f;by_cases c4:n.aq=4
    ·have hd:mE hX s b x=[⟨4,x.aj,x.aS,zC n x⟩]:=by simp only[mE,L,B,dX,aF,if_false,c4,if_true,N]
     have d4:Z' (n.aq=4)=I:=by simp[c4]
     have H:=Ra 4 x.aj x.aS;have F:=LC 4 x.aj x.aS (zC n x);have D:=vi ht 4 x.aj x.aS (zC n x);rw[hd];simp only[go_sem,bG,Cg,q,w,aN x,o,v,ij,f,vo,r,T,d4,H,F,D]
    ·have hd:mE hX s b x=[⟨4,x.aj,kU,zC n x⟩]:=by simp only[mE,L,B,dX,aF,if_false,c4,N]
     have d4:Z' (n.aq=4)=J:=by simp[c4]
     have H:=Ra 4 x.aj kU;have F:=LC 4 x.aj kU (zC n x);have D:=vi ht 4 x.aj kU (zC n x);rw[hd];simp only[go_sem,bG,Cg,q,w,aN x,o,v,ij,f,vo,r,T,d4,H,F,D,dt]
   ) (by simp only[go_sem,bG,Cg,aC,aR]) a.length 0 (by omega)
  rw[n0,aV,pL]at As;have hal:=qc (g:=mE hX s b) vW a;have e0:kL hX (e+1) s a b=a.flatMap (mE hX s b)++b.flatMap (pd hX (λn d y=>kL hX e n.aa d.aa y.aa) s a):=rfl;rw[e0];generalize a.flatMap (mE hX s b)=A at *;have NT:=cN (b:=lB G qZ) b (λi t=>(0,[aB s,aE a,aE b,E b.length,E (i:Int),dm t])) (λi=>A++(b.take i).flatMap (pd hX (λn d y=>kL hX e n.aa d.aa y.aa) s a)) (0,[aB s,aE a,aE b,E b.length,E b.length,.bool J,dm (A++b.flatMap (pd hX (λn d y=>kL hX e n.aa d.aa y.aa) s a))]) (by
   intro i y p;have q:=bp p;have r:=wj q (by omega);have w:=iI p;obtain⟨k,n,V,P,h3,_⟩:=vJ hB (bc p);have L:dQ s y.aj=Z n:=by simp only[dQ,V,P]
   have N:=(dy L).choose_spec.2.2.1;have o:=ZQ (l:=s) (nm:=y.aj) hss;rw[V]at o;simp only[P,bu,aW,bD,fe]at o;have sH:ee (ax n)<=mg:=by have:=cG ax (bc P);omega
   obtain⟨y1,y2⟩:=lV hsb (bc p);have f:=agt (n:=n) (l:=a) (x:=y) sH hsa y1;have T:=alk (n:=n) (x:=y) sH y1 h3;have v:=QY y.aj;have ht:(A++(b.take i).flatMap (pd hX (λn d y=>kL hX e n.aa d.aa y.aa) s a)).length<=mg:=by
    have V:=qc (g:=pd hX (λn d y=>kL hX e n.aa d.aa y.aa) s a) Gu (b.take i);have P:=jU i b;rw[bh];omega
   rw[ur p,<- bB];generalize A++(b.take i).flatMap _=t at *;simp only[af,aN,au,av]at o f T;cases B:hX n a y with
   |none=>
    have hd:pd hX (λn d y=>kL hX e n.aa d.aa y.aa) s a y=[lO 3 y]:=by simp only[pd,L,B]
    rw[B]at f;have R:G 357 [E 3,aE [y]]=Z (0,[dm [lO 3 y]]):=aoP (op:=3) (l:=[y]) (by rw[er];have:=cG aU (bc p);simp only[bK,bD,aJ,oM]at *;omega);have H:=ab_ y;have F:=Sc (a:=t) (b:=[lO 3 y]) (by simp only[mg,aH,aJ]at *;omega);have D:=npN y.aj y.aS y.aa;rw[hd];simp only[go_sem,bG,qZ,q,w,aN y,o,v,ij,f,vo,r,H,R,F,D]
   |some j=>
    obtain⟨d,Dt,_⟩:=du (show ml _ a 0=Z j from B);obtain⟨s1,s2,s3⟩:=Tj hs (bc P) (bc Dt) (bc p);obtain⟨r1,r2⟩:=QE IX hA hB (bc p) L B Dt;have hd:pd hX (λn d y=>kL hX e n.aa d.aa y.aa) s a y=HW (λn d y=>kL hX e n.aa d.aa y.aa) n d y:=by simp only[pd,L,B,Dt]
    have K:=Vb j;have X:=iI Dt;have W:=aN d;rw[B]at f;rw[hd];unfold HW;rw[N];by_cases Y:n.aq=3
    ·have S:Z' (n.aq=3)=I:=by simp[Y]
     have C:Z' (n.aq=1)=J:=by simp[Y]
     have U:Z' (n.aq=2)=J:=by simp[Y]
     rw[if_pos Y];by_cases cv:d.aS=y.aS
     ·rw[if_pos cv];simp only[go_sem,bG,qZ,q,w,aN y,o,v,ij,f,vo,r,K,S,C,U,X,W,cv,aK]
     ·have H:=OM y.aj y.aS;have F:=ab9 2 y.aj y.aS;have D:=vi ht 2 y.aj y.aS [];rw[if_neg cv];simp only[go_sem,bG,qZ,q,w,aN y,o,v,ij,f,vo,r,K,S,X,W,cv,H,F,D]
    ·have S:Z' (n.aq=3)=J:=by simp[Y]
     rw[if_neg Y];by_cases Q:n.aq=1\/n.aq=2
     ·have R:=anT (a:=d.aa) (b:=y.aa) (by omega) y2;have f5:=ih n.aa d.aa y.aa (by have:=bj (bc p);have:=az.dL y;omega) s1 r1 r2;have H:=Sc (a:=zC n y) (b:=kL hX e n.aa d.aa y.aa) (by have:=DK (ix:=hX) (m:=e) (s:=n.aa) (a:=d.aa) (b:=y.aa);simp only[mg]at s3;omega);generalize IT:kL hX e n.aa d.aa y.aa=ds at *;have F:=anD y.aj;have D:=LC 1 y.aj kU (zC n y++ds);have g6:=vi ht 1 y.aj kU (zC n y++ds);cases hsm:n6 d.aa y.aa with
      |true=>
       rw[hsm]at R;rw[if_neg (by simp)];rcases Q with c|c
       ·have C:Z' (n.aq=1)=I:=by simp[c]
        simp only[go_sem,bG,qZ,q,w,aN y,o,v,ij,f,vo,r,K,S,C,X,W,R,aK]
       ·have C:Z' (n.aq=1)=J:=by simp[c]
        have U:Z' (n.aq=2)=I:=by simp[c]
        simp only[go_sem,bG,qZ,q,w,aN y,o,v,ij,f,vo,r,K,S,C,U,X,W,R,aK]
      |false=>
       rw[hsm]at R;rw[if_pos ⟨Q,rfl⟩];rcases Q with c|c
       ·have C:Z' (n.aq=1)=I:=by simp[c]
        simp only[go_sem,bG,qZ,q,w,aN y,o,v,ij,f,vo,r,K,S,C,X,W,R,T,f5,H,F,D,g6,dt,IT]
       ·have C:Z' (n.aq=1)=J:=by simp[c]
        have U:Z' (n.aq=2)=I:=by simp[c]
        simp only[go_sem,bG,qZ,q,w,aN y,o,v,ij,f,vo,r,K,S,C,U,X,W,R,T,f5,H,F,D,g6,dt,IT]
     ·have C:Z' (n.aq=1)=J:=by simp only[decide_eq_false_iff_not];omega
      have U:Z' (n.aq=2)=J:=by simp only[decide_eq_false_iff_not];omega
      rw[if_neg (λh=>Q h.1)];simp only[go_sem,bG,qZ,q,w,aN y,o,v,ij,f,vo,r,K,S,C,U,aK]
   ) (by simp only[go_sem,bG,qZ,aC,aR]) b.length 0 (by omega)
  rw[n0,aV,pL,aK]at NT;refine ct alM rfl ?_;simp only[go_sem,alM,AG,As,NT]
end
end Go.Proofs.YtnnjajingjfjiaaGreatDoor
