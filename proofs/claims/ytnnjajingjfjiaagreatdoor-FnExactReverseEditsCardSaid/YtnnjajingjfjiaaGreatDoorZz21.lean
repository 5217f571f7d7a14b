/- Part of the proof: a machine over plain data, its proof, the functions of the program run on symbols, what they answer. Condition: none. -/
import Derived.Test.YtnnjajingjfjiaaGreatDoorZz20
set_option linter.unusedVariables false
set_option linter.unusedSimpArgs false
set_option linter.unusedSectionVars false
open Bool renaming and_eq_true->ai,eq_iff_iff->cR,true->I,false->J
open Int renaming toNat_natCast->bW
open List renaming cons_append->au,nil_append->av,length_map->ay,take_length->aR,take_zero->aV,map_cons->aW,length_take->aY,sizeOf_lt_of_mem->bj,drop_zero->bm,forall_mem_cons->br,append_assoc->bB,map_nil->bD,map_append->bN,not_mem_nil->ei,singleton_append->ye
open Nat renaming lt_irrefl->aC,lt_succ_self->aP,zero_add->bo
open Option renaming map_eq_some_iff->ak,map_some->aQ,getD_some->jo,some->Z
open SizeOf renaming sizeOf->aw
open Decidable renaming decide->Z'
namespace Go.Proofs.YtnnjajingjfjiaaGreatDoor
set_option maxRecDepth 100000
set_option maxHeartbeats 4000000
section
def G6(sm:M az->M az->Bool)(b:M az)(i:Nat)(x:az):Bool:=match nth b i with
 |some y=>Z' (x.aj=y.aj) && (Z' (x.aS=y.aS) && sm x.aa y.aa)
 |none=>J
theorem Oy:∀{a b:M az},a.length=b.length->(∀j x,nth a j=Z x->nth b j=Z x)->a=b
 |[],[],_,_=>rfl
 |x::a,y::b,h,d=>by
  have f:=d 0 x rfl;cases f;rw[Oy (a:=a) (b:=b) (by simpa using h) λj c e=>d (j+1) c e]
theorem tS{a b:M az}:n6 a b=I↔a=b:=by simp[n6]
theorem Jw{a b:M az}(h:a.length=b.length):allI (G6 n6 b) 0 a=n6 a b:=by
 rw[cR,mD,tS];simp only[bo]
 constructor
 ·intro f;refine Oy h λj x d=>?_;have c:=f j x d;unfold G6 at c;cases e:nth b j with
  |none=>rw[e]at c;cases c
  |some y=>
   rw[e]at c;simp only[ai,decide_eq_true_eq,tS]at c;cases x;cases y;simp only at c
   rw[c.1,c.2.1,c.2.2]
 ·rintro rfl j x d
  unfold G6;rw[d];simp[tS]
theorem afV(c:Nat):∀a b:M az,aw a < c->bK aU a<=mg->bK aU b<=mg->G 194 [aE a,aE b]=Z (0,[.bool (n6 a b)]):=by
 induction c with
 |zero=>intro a b h;omega
 |succ c r=>
  intro a b w n v;refine ct t194 rfl ?_;by_cases j:a.length=b.length
  ·have k:a.length<=mg:=by simp only[bK]at n;omega
   have g:(a.length:Int)=(b.length:Int):=by omega
   have h:=nP (b:=lB G BV) a (λi=>(0,[aE a,aE b,E (i:Int)])) (G6 n6 b) (1,[aE a,aE b,E a.length,.bool J]) (0,[.bool J]) (by
    intro i x e;have f:=bp e;have s:=wj f k;have m:=iI e;have d:nth b i=Z (b[i]'(by omega)):=cI (by omega);generalize (b[i]'(by omega))=y at d;have l:=iI d;have o:=r x.aa y.aa (by have:=bj (bc e);have:=az.dL x;omega) (lV n (bc e)).2 (lV v (bc d)).2;unfold G6;simp only[d];by_cases c1:x.aj=y.aj
    ·by_cases p:x.aS=y.aS
     ·cases t:n6 x.aa y.aa<;>rw[t]at o<;>simp only[go_sem,bG,BV,f,s,m,l,aN x,aN y,c1,p,o]
     ·simp only[go_sem,bG,BV,f,m,l,aN x,aN y,c1,p]
    ·simp only[go_sem,bG,BV,f,m,l,aN x,aN y,c1]) (by simp only[go_sem,bG,BV,aC]) a.length 0 (by omega)
   rw[n0,bm,Jw j]at h;rw[j]at h;cases hd:n6 a b<;>rw[hd]at h<;>simp only[go_sem]at h<;>simp only[go_sem,t194,g,h]
  ·have g:¬(a.length:Int)=(b.length:Int):=by omega
   have q:n6 a b=J:=by
    rw[<- Bool.not_eq_true,tS];exact λh=>j (by rw[h])
   simp only[go_sem,t194,g,q]
theorem anS{a b:M az}(d:bK aU a<=mg)(c:bK aU b<=mg):G 194 [aE a,aE b]=Z (0,[.bool (n6 a b)]):=afV _ a b (aP _) d c
theorem afW(c:Nat):∀a b:M az,aw a < c->bK aU a<=mg->bK aU b<=mg->G 197 [aE a,aE b]=Z (0,[.bool (n6 a b)]):=by
 induction c with
 |zero=>intro a b h;omega
 |succ c r=>
  intro a b w n v;refine ct t197 rfl ?_;by_cases j:a.length=b.length
  ·have k:a.length<=mg:=by simp only[bK]at n;omega
   have g:(a.length:Int)=(b.length:Int):=by omega
   have h:=nP (b:=lB G BW) a (λi=>(0,[aE a,aE b,E a.length,E (i:Int)])) (G6 n6 b) (1,[aE a,aE b,E a.length,E a.length,.bool J]) (0,[.bool J]) (by
    intro i x e;have f:=bp e;have s:=wj f k;have m:=iI e;have d:nth b i=Z (b[i]'(by omega)):=cI (by omega);generalize (b[i]'(by omega))=y at d;have l:=iI d;have o:=r x.aa y.aa (by have:=bj (bc e);have:=az.dL x;omega) (lV n (bc e)).2 (lV v (bc d)).2;unfold G6;simp only[d];by_cases c1:x.aj=y.aj
    ·by_cases p:x.aS=y.aS
     ·cases t:n6 x.aa y.aa<;>rw[t]at o<;>simp only[go_sem,bG,BW,f,s,m,l,aN x,aN y,c1,p,o]
     ·simp only[go_sem,bG,BW,f,m,l,aN x,aN y,c1,p]
    ·simp only[go_sem,bG,BW,f,m,l,aN x,aN y,c1]) (by simp only[go_sem,bG,BW,aC]) a.length 0 (by omega)
   rw[n0,bm,Jw j]at h;rw[j]at h;cases hd:n6 a b<;>rw[hd]at h<;>simp only[go_sem]at h<;>simp only[go_sem,t197,g,h]
  ·have g:¬(a.length:Int)=(b.length:Int):=by omega
   have q:n6 a b=J:=by
    rw[<- Bool.not_eq_true,tS];exact λh=>j (by rw[h])
   simp only[go_sem,t197,g,q]
theorem anT{a b:M az}(d:bK aU a<=mg)(c:bK aU b<=mg):G 197 [aE a,aE b]=Z (0,[.bool (n6 a b)]):=afW _ a b (aP _) d c
def Th(l:M az)(k:z):ck:=⟨1,k,(eZ l k).getD kU,[]⟩
theorem YX(n:ah)(x:az):zC n x=if n.aq=2 then n.a_.map (Th x.aa) else []:=rfl
theorem N5{l:M az}:∀{ks t:M z},(sL l t ks).2=I->(∀k∈ks,∃v,eZ l k=Z v)/\(sL l t ks).1=t++ks.map λk=>(eZ l k).getD kU
 |[],t,_=>⟨λk h=>(ei h).elim,by simp[sL]⟩
 |k::ks,t,h=>by
  simp only[sL]at h ⊢;cases a:eZ l k with
  |none=>rw[a]at h;cases h
  |some v=>
   rw[a]at h;obtain⟨c,b⟩:=N5 (ks:=ks) h;refine⟨br.2 ⟨⟨v,a⟩,c⟩,?_⟩;simp only[b,aW,a,jo,bB,ye]
theorem I1{n:ah}{x:az}(d:n.aq=2)(h:(keyOf n x).2=I):(∀k∈n.a_,∃v,eZ x.aa k=Z v)/\(keyOf n x).1=n.a_.map λk=>(eZ x.aa k).getD kU:=by
 unfold keyOf at h ⊢;rw[if_pos d]at h ⊢
 split at h
 ·rename_i a;obtain⟨c,b⟩:=N5 a;rw[if_pos a];exact⟨c,by simpa using b⟩
 ·cases h
theorem Zt{l:M az}{k v:z}(h:eZ l k=Z v):∃j y,r9 l k=Z j/\nth l j=Z y/\y.aS=v:=by
 unfold eZ at h
 split at h
 ·rename_i j a;obtain⟨y,c,b⟩:=ak.1 h;exact⟨j,y,a,c,b⟩
 ·cases h
theorem dE0:dm []=.list 4 J []:=(rfl)
theorem ab9(o:Int)(k v:z):aZ (.sV 4 J) [E o,.str k,.str v,.list 4 J []]=Z (.list 4 J [[E o,.str k,.str v,dm []]]):=LC o k v []
theorem alj{n:ah}{x:az}(a:ee (ax n)<=mg)(p:x.aa.length<=mg)(r:n.aq=2->(keyOf n x).2=I):G 373 (ax n++aU x)=Z (0,[dm (zC n x)]):=by
 have m:=mT a;refine ct agP (by rw[af,aN];rfl) ?_;rw[YX];by_cases c:n.aq=2
 ·rw[if_pos c];obtain⟨A,_⟩:=I1 c (r c);have h:=cN (b:=lB G Cd) n.a_ (λi t=>(0,[E (i:Int)]++ax n++aU x++[dm t])) (λi=>(n.a_.take i).map (Th x.aa)) (0,[E n.a_.length,.bool J]++ax n++aU x++[dm (n.a_.map (Th x.aa))]) (by
   intro i k a;have e:=bp a;have q:=wj e m;obtain⟨v,d⟩:=A k (bc a);obtain⟨j,y,s,o,rfl⟩:=Zt d;have f:=ak1 (l:=x.aa) (nm:=k) p;rw[s]at f;have F:=iI o;have D:=ab9 1 k y.aS;have C:=vi (l:=(n.a_.take i).map (Th x.aa)) (by simp only[ay,aY];omega) 1 k y.aS [];have B:=OM k y.aS;have g:(n.a_.take (i+1)).map (Th x.aa)=(n.a_.take i).map (Th x.aa)++[⟨1,k,y.aS,[]⟩]:=by
    rw[bZ n.a_ i k a,bN,aW,bD];simp only[Th,d,jo]
   rw[g];generalize (n.a_.take i).map (Th x.aa)=t at *;simp only[go_sem,bG,Cd,e,q,aX,a,af n,aN,fe,c,f,ij,F,D,C,B]) (by simp only[go_sem,bG,Cd,aC,aR,af n,aN x]) n.a_.length 0 (by omega)
  rw[n0,aV,bD]at h;simp only[af n,aN x,au,av]at h;simp only[go_sem,agP,af n,aN x,AG,h]
 ·rw[if_neg c];have h:cm (lB G Cd) (0,[E 0]++ax n++aU x++[dm []])=Z (0,[E 0,.bool J]++ax n++aU x++[dm []]):=by
   refine bg ?_;cases w:Z' ((0:Int) < (n.a_.length:Int))<;>simp only[go_sem,bG,Cd,af n,aN x,c,w]
  simp only[af n,aN x,au,av]at h;simp only[go_sem,agP,af n,aN x,AG,h]
theorem aml{l:M z}{i:Nat}{v:z}(h:nth l i=Z v):aZ (.Wn 1 0 1 I) [bu l,E (i:Int)]=Z (.list 0 J [[.str v]]):=by
 simp only[aZ,bW,aX,h,aQ,fe];simp[dV,D.plain]
theorem alk{n:ah}{x:az}(d:ee (ax n)<=mg)(o:x.aa.length<=mg)(j:n.aq=2->(keyOf n x).2=I):G 377 (ax n++aU x)=Z (0,[dm (zC n x)]):=by
 have g:=mT d;refine ct agR (by rw[af,aN];rfl) ?_;rw[YX];by_cases c:n.aq=2
 ·rw[if_pos c];obtain⟨D,r⟩:=I1 c (j c);have f:=VW (n:=n) (x:=x) g o;rw[r,j c]at f;have h:=cN (b:=lB G Lh) n.a_ (λi t=>(0,[bu n.a_,E n.a_.length,E (i:Int),dm t,bu (n.a_.map λk=>(eZ x.aa k).getD kU)])) (λi=>(n.a_.take i).map (Th x.aa)) (0,[bu n.a_,E n.a_.length,E n.a_.length,.bool J,dm (n.a_.map (Th x.aa)),bu (n.a_.map λk=>(eZ x.aa k).getD kU)]) (by
   intro i k d;have e:=bp d;have p:=wj e g;have B:=ab9 1 k ((eZ x.aa k).getD kU);have A:=vi (l:=(n.a_.take i).map (Th x.aa)) (by simp only[ay,aY];omega) 1 k ((eZ x.aa k).getD kU) [];have y:=OM k ((eZ x.aa k).getD kU);have q:nth (n.a_.map λk=>(eZ x.aa k).getD kU) i=Z ((eZ x.aa k).getD kU):=by rw[aX,d];rfl
   have v:=aml q;have s:=jd 1 I ((n.a_.map λk=>(eZ x.aa k).getD kU).map fe) i (by simp only[ay];exact e);have m:(n.a_.take (i+1)).map (Th x.aa)=(n.a_.take i).map (Th x.aa)++[⟨1,k,(eZ x.aa k).getD kU,[]⟩]:=by
    rw[bZ n.a_ i k d,bN,aW,bD];rfl
   rw[m];have C:aZ (.el 1) [bu n.a_,E (i:Int)]=Z (.list 0 J [[.str k]]):=by rw[mu,aX,d];rfl
   generalize (n.a_.take i).map (Th x.aa)=t at *;generalize (n.a_.map λk=>(eZ x.aa k).getD kU)=a at *;generalize (eZ x.aa k).getD kU=w at *;simp only[go_sem,bG,Lh,e,p,C,B,A,y,v,s]) (by simp only[go_sem,bG,Lh,aC,aR]) n.a_.length 0 (by omega)
  rw[n0,aV,bD]at h;generalize (n.a_.map λk=>(eZ x.aa k).getD kU)=a at *;simp only[af n,aN x,au,av,c]at f;simp only[go_sem,agR,af n,aN x,c,AG,f,h]
 ·rw[if_neg c];simp only[go_sem,agR,af n,aN x,c,AG]
end
end Go.Proofs.YtnnjajingjfjiaaGreatDoor
