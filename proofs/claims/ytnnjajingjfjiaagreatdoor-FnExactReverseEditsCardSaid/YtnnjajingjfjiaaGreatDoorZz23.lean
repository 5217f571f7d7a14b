/- Part of the proof: a machine over plain data, its proof, the functions of the program run on symbols, what they answer. Condition: none. -/
import Derived.Test.YtnnjajingjfjiaaGreatDoorZz21
import Derived.Test.YtnnjajingjfjiaaGreatDoorZz22
set_option linter.unusedVariables false
set_option linter.unusedSimpArgs false
set_option linter.unusedSectionVars false
open Bool renaming false_eq_true->aF,true->I,false->J
open Int renaming toNat_natCast->bW,natCast_nonneg->ch
open List renaming cons_append->au,nil_append->av,length_map->ay,length_cons->aH,length_nil->aJ,append_nil->aK,take_length->aR,take_zero->aV,length_take->aY,length_append->bh,sizeOf_lt_of_mem->bj,append_assoc->bB,map_nil->bD,map_append->bN,length_take_le'->jU,map_take->kg,flatMap_cons->l7,map_drop->nC,flatMap_nil->pL,drop_append_of_le_length->qo
open Nat renaming lt_irrefl->aC,le_trans->aG,lt_succ_self->aP
open Option renaming isSome_none->dX,isSome_some->gT,some->Z
open SizeOf renaming sizeOf->aw
open Decidable renaming decide->Z'
namespace Go.Proofs.YtnnjajingjfjiaaGreatDoor
set_option maxRecDepth 100000
set_option maxHeartbeats 4000000
section
theorem Sc{a b:M ck}(h:a.length+b.length<=2147483648):aZ (.app 4 64) [dm a,dm b]=Z (dm (a++b)):=by
 rw[eN 4 64 J _ _ (by decide) (by simpa using h),dm,bN]
theorem ajs(j:Nat):Z' ((0:Int)<=(j:Int))=I:=by simp
theorem ur{b:Type}{a:M az}{g:az->M b}{i:Nat}{x:az}(c:nth a i=Z x):(a.take (i+1)).flatMap g=(a.take i).flatMap g++g x:=by
 rw[bZ a i x c,List.flatMap_append,l7,pL,aK]
theorem apb{l:M az}{i:Nat}{y:az}(h:nth l i=Z y):aZ (.AZ 3 I) [aE l,E (i:Int),E ((i+1:Nat):Int)]=Z (aE [y]):=by
 have b:=bp h;have a:(l.take (i+1)).drop i=[y]:=by
  rw[bZ l i y h,qo (by rw[aY];omega),List.drop_eq_nil_of_le (by rw[aY];omega)];rfl
 simp only[aZ,dI,ch,if_true,bW,ay];rw[if_pos ⟨trivial,by omega,by omega⟩,<- kg,<- nC,a]
theorem Tj{s:M ah}{a b:M az}{n:ah}{c y:az}(g:bK ax s+bK aU a+bK aU b<=mg)(f:n∈dk s)(d:c∈a)(e:y∈b) :
  bK ax n.aa+bK aU c.aa+bK aU y.aa<=mg/\ee (ax n)<=mg/\(zC n y).length+(c.aa.length+y.aa.length)<=mg:=by
 have l:=cG ax f;have k:=cG aU d;have j:=cG aU e;have i:=lN (es:=s);have h:=Kv n y;rw[dO]at *;rw[fF]at *;simp only[bK]at *;omega
theorem agB(e:Nat):∀(s:M ah) (a b:M az),aw b < e->bK ax s+bK aU a+bK aU b<=mg->Rt mh Dx (dk s) a->Rt mh Dx (dk s) b->
  G 374 [aB s,aE a,aE b]=Z (0,[dm (kL uF e s a b)]):=by
 induction e with
 |zero=>intro s a b h;omega
 |succ e ih=>
  intro s a b hz hs hA hB;have hss:bK ax s<=mg:=by omega
  have hsa:bK aU a<=mg:=by omega
  have hsb:bK aU b<=mg:=by omega
  have vC:a.length+b.length<=mg:=by simp only[bK]at hs;omega
  have hdk:=lN (es:=s);have qw:(dk s).length<=mg:=by simp only[bK]at hdk hss;omega
  have f0:=q81 hss;have As:=cN (b:=lB G Ce) a (λi t=>(0,[aE a,aE b,E (i:Int),dm t,aB (dk s)])) (λi=>(a.take i).flatMap (mE uF s b)) (0,[aE a,aE b,E a.length,.bool J,dm (a.flatMap (mE uF s b)),aB (dk s)]) (by
   intro i x o;have p:=bp o;have r:=wj p (by omega);have C:=iI o;obtain⟨k,n,V,v,h3,_⟩:=vJ hA (bc o);have S:dQ s x.aj=Z n:=by simp only[dQ,V,v]
   have q:=ZP (l:=dk s) (nm:=x.aj) qw;rw[V]at q;have Y:ee (ax n)<=mg:=by have:=cG ax (bc v);omega
   obtain⟨x1,x2⟩:=lV hsa (bc o);have f:=ak5 (n:=n) (l:=b) (x:=x) Y hsb x1;have T:=alj (n:=n) (x:=x) Y x1 h3;have B:=jd 19 J ((dk s).map ax) k (by rw[ay];exact bp v);have w:=Ni v;have ht:=aG (qc (g:=mE uF s b) vW (a.take i)) (aG (jU _ _) (show a.length<=mg by omega));rw[ur o];generalize (a.take i).flatMap _=t at *;simp only[af,aN,au,av]at f T;cases D:uF n b x with
   |some j=>
    have hd:mE uF s b x=[]:=by simp only[mE,S,D,gT,if_true]
    rw[D]at f;have L:=ajs j;rw[hd];simp only[go_sem,bG,Ce,p,C,aN,af n,q,ij,f,B,w,n_,r,L,aK]
   |none=>
    rw[D]at f;by_cases c4:n.aq=4
    ·have hd:mE uF s b x=[⟨4,n.aj,x.aS,zC n x⟩]:=by simp only[mE,S,D,dX,aF,if_false,c4,if_true]
     have d4:Z' (n.aq=4)=I:=by simp[c4]
     have K:=Ra 4 n.aj x.aS;have H:=LC 4 n.aj x.aS (zC n x);have P:=vi ht 4 n.aj x.aS (zC n x);rw[hd];simp only[go_sem,bG,Ce,p,C,aN,af n,q,ij,f,B,w,n_,r,T,d4,K,H,P]
    ·have hd:mE uF s b x=[⟨4,n.aj,kU,zC n x⟩]:=by simp only[mE,S,D,dX,aF,if_false,c4]
     have d4:Z' (n.aq=4)=J:=by simp[c4]
     have K:=Ra 4 n.aj kU;have H:=LC 4 n.aj kU (zC n x);have P:=vi ht 4 n.aj kU (zC n x);rw[hd];simp only[go_sem,bG,Ce,p,C,aN,af n,q,ij,f,B,w,n_,r,T,d4,K,H,P,dt]
   ) (by simp only[go_sem,bG,Ce,aC,aR]) a.length 0 (by omega)
  rw[n0,aV,pL]at As;have hal:=qc (g:=mE uF s b) vW a;have e0:kL uF (e+1) s a b=a.flatMap (mE uF s b)++b.flatMap (pd uF (λn d y=>kL uF e n.aa d.aa y.aa) s a):=rfl;rw[e0];generalize a.flatMap (mE uF s b)=A at *;have NT:=cN (b:=lB G qY) b (λi t=>(0,[aE a,aE b,E (i:Int),dm t,aB (dk s)])) (λi=>A++(b.take i).flatMap (pd uF (λn d y=>kL uF e n.aa d.aa y.aa) s a)) (0,[aE a,aE b,E b.length,.bool J,dm (A++b.flatMap (pd uF (λn d y=>kL uF e n.aa d.aa y.aa) s a)),aB (dk s)]) (by
   intro i y o;have p:=bp o;have r:=wj p (by omega);have C:=iI o;obtain⟨k,n,V,v,h3,_⟩:=vJ hB (bc o);have S:dQ s y.aj=Z n:=by simp only[dQ,V,v]
   have DT:=zZ (zX _ s (aP _) n (bc v));have q:=ZP (l:=dk s) (nm:=y.aj) qw;rw[V]at q;have Y:ee (ax n)<=mg:=by have:=cG ax (bc v);omega
   obtain⟨y1,y2⟩:=lV hsb (bc o);have f:=ak5 (n:=n) (l:=a) (x:=y) Y hsa y1;have T:=alj (n:=n) (x:=y) Y y1 h3;have B:=jd 19 J ((dk s).map ax) k (by rw[ay];exact bp v);have w:=Ni v;have ht:(A++(b.take i).flatMap (pd uF (λn d y=>kL uF e n.aa d.aa y.aa) s a)).length<=mg:=by
    have V:=qc (g:=pd uF (λn d y=>kL uF e n.aa d.aa y.aa) s a) Gu (b.take i);have v:=jU i b;rw[bh];omega
   rw[ur o,<- bB];generalize A++(b.take i).flatMap _=t at *;simp only[af,aN,au,av]at f T;cases D:uF n a y with
   |none=>
    have hd:pd uF (λn d y=>kL uF e n.aa d.aa y.aa) s a y=[lO 3 y]:=by simp only[pd,S,D]
    rw[D]at f;have Q:G 346 [E 3,aE [y]]=Z (0,[dm [lO 3 y]]):=aoJ (op:=3) (l:=[y]) (by rw[er];have:=cG aU (bc o);simp only[bK,bD,aJ,oM]at *;omega);have K:=apb o;have H:=Sc (a:=t) (b:=[lO 3 y]) (by simp only[mg,aH,aJ]at *;omega);rw[hd];simp only[go_sem,bG,qY,p,C,aN,af n,q,ij,f,B,w,n_,r,K,Q,H]
   |some j=>
    obtain⟨d,Dt,_⟩:=du (show ml _ a 0=Z j from D);obtain⟨s1,s2,s3⟩:=Tj hs (bc v) (bc Dt) (bc o);obtain⟨r1,r2⟩:=QE YT hA hB (bc o) S D Dt;have hd:pd uF (λn d y=>kL uF e n.aa d.aa y.aa) s a y=HW (λn d y=>kL uF e n.aa d.aa y.aa) n d y:=by simp only[pd,S,D,Dt]
    have L:=Vb j;have W:=iI Dt;rw[D]at f;rw[hd];unfold HW;by_cases X:n.aq=3
    ·have R:Z' (n.aq=3)=I:=by simp[X]
     have F:Z' (n.aq=1)=J:=by simp[X]
     have U:Z' (n.aq=2)=J:=by simp[X]
     rw[if_pos X];by_cases cv:d.aS=y.aS
     ·rw[if_pos cv];simp only[go_sem,bG,qY,p,C,aN,af n,q,ij,f,B,w,n_,r,L,R,F,U,W,cv,aK]
     ·have K:=OM n.aj y.aS;have H:=ab9 2 n.aj y.aS;have P:=vi ht 2 n.aj y.aS [];rw[if_neg cv];simp only[go_sem,bG,qY,p,C,aN,af n,q,ij,f,B,w,n_,r,L,R,W,cv,K,H,P]
    ·have R:Z' (n.aq=3)=J:=by simp[X]
     rw[if_neg X];by_cases N:n.aq=1\/n.aq=2
     ·have Q:=anS (a:=d.aa) (b:=y.aa) (by omega) y2;have f5:=ih n.aa d.aa y.aa (by have:=bj (bc o);have:=az.dL y;omega) s1 r1 r2;have K:=Sc (a:=zC n y) (b:=kL uF e n.aa d.aa y.aa) (by have:=DK (ix:=uF) (m:=e) (s:=n.aa) (a:=d.aa) (b:=y.aa);simp only[mg]at s3;omega);generalize IT:kL uF e n.aa d.aa y.aa=ds at *;have H:=Ra 1 n.aj kU;have P:=LC 1 n.aj kU (zC n y++ds);have g6:=vi ht 1 n.aj kU (zC n y++ds);cases hsm:n6 d.aa y.aa with
      |true=>
       rw[hsm]at Q;rw[if_neg (by simp)];rcases N with c|c
       ·have F:Z' (n.aq=1)=I:=by simp[c]
        simp only[go_sem,bG,qY,p,C,aN,af n,q,ij,f,B,w,n_,r,L,R,F,W,Q,aK]
       ·have F:Z' (n.aq=1)=J:=by simp[c]
        have U:Z' (n.aq=2)=I:=by simp[c]
        simp only[go_sem,bG,qY,p,C,aN,af n,q,ij,f,B,w,n_,r,L,R,F,U,W,Q,aK]
      |false=>
       rw[hsm]at Q;rw[if_pos ⟨N,rfl⟩];rcases N with c|c
       ·have F:Z' (n.aq=1)=I:=by simp[c]
        simp only[go_sem,bG,qY,p,C,aN,af n,q,ij,f,B,w,n_,r,L,R,F,W,Q,T,f5,K,H,P,g6,dt,IT]
       ·have F:Z' (n.aq=1)=J:=by simp[c]
        have U:Z' (n.aq=2)=I:=by simp[c]
        simp only[go_sem,bG,qY,p,C,aN,af n,q,ij,f,B,w,n_,r,L,R,F,U,W,Q,T,f5,K,H,P,g6,dt,IT]
     ·have F:Z' (n.aq=1)=J:=by simp only[decide_eq_false_iff_not];omega
      have U:Z' (n.aq=2)=J:=by simp only[decide_eq_false_iff_not];omega
      rw[if_neg (λh=>N h.1)];simp only[go_sem,bG,qY,p,C,aN,af n,q,ij,f,B,w,n_,r,L,R,F,U,aK]
   ) (by simp only[go_sem,bG,qY,aC,aR]) b.length 0 (by omega)
  rw[n0,aV,pL,aK]at NT;refine ct alL rfl ?_;simp only[go_sem,alL,f0,AG,As,NT]
end
end Go.Proofs.YtnnjajingjfjiaaGreatDoor
