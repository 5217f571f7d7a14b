/- Part of the proof: a machine over plain data, its proof, the functions of the program run on symbols, what they answer. Condition: none. -/
import Derived.Test.YtnnjajingjfjiaaGreatDoorZz18
set_option linter.unusedVariables false
set_option linter.unusedSimpArgs false
set_option linter.unusedSectionVars false
open Bool renaming and_eq_true->ai,true->I,false->J
open Int renaming toNat_natCast->bW
open List renaming cons_append->au,nil_append->av,length_map->ay,length_cons->aH,length_nil->aJ,append_nil->aK,take_length->aR,take_zero->aV,map_cons->aW,length_take->aY,length_append->bh,sizeOf_lt_of_mem->bj,drop_zero->bm,map_nil->bD,drop_length->bE,map_append->bN,mem_cons_self->bQ,eraseIdx_sublist->fC,filter_cons->gZ,length_take_le'->jU,map_take->kg,set_cons_succ->lr,map_drop->nC,mem_filter->nE,length_set->rz,filter_sublist->rF,map_set->rK,filter_nil->xM
open Nat renaming lt_irrefl->aC,le_trans->aG,lt_succ_self->aP,zero_add->bo,add_zero->cd,le_add_right->mY
open Option renaming map_some->aQ,some->Z,none->O
open SizeOf renaming sizeOf->aw
open Decidable renaming decide->Z'
namespace Go.Proofs.YtnnjajingjfjiaaGreatDoor
set_option maxRecDepth 100000
set_option maxHeartbeats 4000000
section
theorem Y5{n d:ah}{e:ck}{i j:Nat}{nm:z}(W:dC n.aa nm=Z j)(N:nth n.aa j=Z d)(Y:d.aq=3)(hn:ee (ax n)<=mg)(R:bK cK e.aa<=mg):∀(m k c:Nat) (o:M az),k+m=e.aa.length->c<=k->o.length+m<=134217728->
  match va d.type ((e.aa.drop k).filter (Du nm)) with
  |none=>∃x,cm (lB G pH) (0,kA nm n e i c k++kB n e++[aE o])=Z (0,[E 4,.str kU,.str kU,x])
  |some p=>cm (lB G pH) (0,kA nm n e i c k++kB n e++[aE o])=Z (1,kA nm n e i (c+p.length) e.aa.length++[.bool J]++kB n e++[aE (o++N4 nm p)]):=by
 have g:e.aa.length<=mg:=by simp only[bK]at R;omega
 have T:n.aa.length<=mg:=by have:=eh n;simp only[bK]at this;omega
 have L:ee (ax d)<=mg:=by have:=cG ax (bc N);have:=eh n;omega
 have r:=acM (l:=n.aa) (nm:=nm) T;rw[Oe W N Y]at r;simp only[N]at r;simp only[af d,au,av]at r;have mx:=mkX;intro m
 induction m with
 |zero=>
  intro k c o V _ _;obtain rfl:k=e.aa.length:=by omega
  rw[bE];simp only[xM,va,N4,bD,aK,aJ,cd];refine bg ?_;simp only[go_sem,kA,kB,bG,pH,aC,af,aO]
 |succ m P=>
  intro k c o V hc ho;have h:k < e.aa.length:=by omega
  have a1:=cI (l:=e.aa) (i:=k) h;have hd:=eg e.aa k _ a1;generalize e.aa[k]'h=y at a1 hd;have Q:=wj h g;have H:=wj (show c < e.aa.length by omega) g;have B:=EH a1;obtain⟨y1,y2,y3,y4⟩:=XC R (bc a1);have f:=VQ (t:=d.type) (s:=y.aS) (aG (Di d) L) y2;simp only[ew,au,av]at f;rw[hd,gZ];by_cases q:y.aj=nm
  ·have K:Du nm y=I:=by simp[Du,q]
   rw[if_pos K];simp only[va];by_cases F:y.op=4
   ·rw[if_pos (by simp[F])];refine⟨aE o,bg ?_⟩;cases w:ez d.type y.aS<;>rw[w]at f<;>simp only[go_sem,kA,kB,bG,pH,h,B,af,aO,q,H,r,f,gz,F,dt]
   ·by_cases D:y.op=5
    ·rw[if_pos (by simp[D])];refine⟨aE o,bg ?_⟩;cases w:ez d.type y.aS<;>rw[w]at f<;>simp only[go_sem,kA,kB,bG,pH,h,B,af,aO,q,H,r,f,gz,D,dt]
    ·rw[if_neg (by simp[F,D])];cases w:ez d.type y.aS with
     |none=>
      rw[w]at f;refine⟨aE o,bg ?_⟩;simp only[go_sem,kA,kB,bG,pH,h,B,af,aO,q,H,r,f,gz,dt]
     |some v=>
      rw[w]at f;have A:=P (k+1) (c+1) (o++[⟨nm,v,[]⟩]) (by omega) (by omega) (by simp;omega);have g2:=Dl (a:=o) (b:=[⟨nm,v,[]⟩]) (by simp;omega);have g3:=OM nm v;have C:lB G pH (0,kA nm n e i c k++kB n e++[aE o])=Z (.go (0,kA nm n e i (c+1) (k+1)++kB n e++[aE (o++[⟨nm,v,[]⟩])])):=by
       simp only[go_sem,kA,kB,bG,pH,h,B,af,aO,q,H,r,f,gz,F,D,g3,mx,g2,Q]
      cases S:va d.type ((e.aa.drop (k+1)).filter (Du nm)) with
      |none=>
       rw[S]at A;obtain⟨x,U⟩:=A;exact⟨x,by rw[bY C,U]⟩
      |some p=>
       rw[S]at A;dsimp only at A;dsimp only[aQ];have X:o++[⟨nm,v,[]⟩]++N4 nm p=o++N4 nm (v::p):=by simp[N4]
       rw[bY C,A,X,aH,show c+1+p.length=c+(p.length+1) by omega]
  ·have K:Du nm y=J:=by simp[Du,q]
   rw[if_neg (by simp[K])];have i0:=P (k+1) c o (by omega) (by omega) (by omega);have C:lB G pH (0,kA nm n e i c k++kB n e++[aE o])=Z (.go (0,kA nm n e i c (k+1)++kB n e++[aE o])):=by
    simp only[go_sem,kA,kB,bG,pH,h,B,af,aO,q,Q]
   rw[bY C];exact i0
def R4(b a:M z):M az:=(b.zip a).map λp=>⟨p.1,p.2,[]⟩
def kO(n:ah)(i:Nat):M D:=[bu n.a_,.int .i64 n.a_.length,.int .i64 (i:Int)]
theorem Y6{n:ah}{e:ck}(C:ee (ax n)<=mg)(F:bK cK e.aa<=mg)(U:CL n):∀(m i:Nat) (o:M az),i+m=n.a_.length->o.length<=i->
  match mM ez n.aa e.aa (n.a_.drop i) with
  |none=>∃r,cm (lB G mm) (kS (kO n i) (kB n e) 0 1 o)=Z r/\(r=(0,[E 4,.str kU,.str kU])\/∃x,r=(1,[E 4,.str kU,.str kU,x]))
  |some t=>cm (lB G mm) (kS (kO n i) (kB n e) 0 1 o)=Z (kS (kO n n.a_.length++[.bool J]) (kB n e) 2 3 (o++R4 (n.a_.drop i) t)):=by
 have S:=mT C;have Y:e.aa.length<=mg:=by simp only[bK]at F;omega
 intro m
 induction m with
 |zero=>
  intro i o V _;obtain rfl:i=n.a_.length:=by omega
  rw[bE];simp only[mM,R4,List.zip_nil_left,bD,aK];refine bg ?_;cases o with
  |nil=>simp only[go_sem,kS,kO,kB,bG,mm,aC,af,aO]
  |cons x o=>simp only[go_sem,kS,kO,kB,bG,mm,aC,af,aO]
 |succ m L=>
  intro i o V X;have g:i < n.a_.length:=by omega
  have a1:=cI (l:=n.a_) (i:=i) g;have hd:=eg n.a_ i _ a1;generalize n.a_[i]'g=f at a1 hd;have N:=wj g S;have q:aZ (.el 1) [bu n.a_,E (i:Int)]=Z (.list 0 J [fe f]):=by rw[mu,aX,a1];rfl
  obtain⟨j,B,D,H,Q⟩:=U f (bc a1);have T:oF n.aa f=B.type:=by simp only[oF,D,H]
  have R:=N7 n.aa e.aa f;rw[T]at R;rw[hd];simp only[mM,R];have P:∀r:M z,Z' (((r.length+1+1:Nat):Int)=1)=J:=λr=>by simp only[decide_eq_false_iff_not];omega
  have K:((0+1:Nat):Int)=1:=rfl;cases o with
  |nil=>
   have d:=abZ (i:=i) D H Q C F e.aa.length 0 0 [] (by omega) (by omega) (by simp only[mg,aJ]at *;omega);rw[bm]at d;cases y:va B.type (e.aa.filter (Du f)) with
   |none=>
    rw[y]at d;obtain⟨r,p,h⟩:=d;simp only[kS,kA,kB,af,aO,au,av,n0]at p;rcases h with rfl|⟨x,rfl⟩
    ·refine⟨_,bg ?_,.inl rfl⟩;simp only[go_sem,kS,kO,kB,bG,mm,g,q,fe,af,aO,p]
    ·refine⟨_,bg ?_,.inr ⟨x,rfl⟩⟩;simp only[go_sem,kS,kO,kB,bG,mm,g,q,fe,af,aO,p]
   |some t=>
    rw[y]at d;dsimp only at d
    match t,d with
    |[],d=>
     simp only[N4,bD,aK,aJ,cd,kS,kA,kB,af,aO,au,av,n0]at d;refine⟨_,bg ?_,.inl rfl⟩;simp only[go_sem,kS,kO,kB,bG,mm,g,q,fe,af,aO,d,dt]
    |a::b::r,d=>
     simp only[N4,aW,aH,bo,kS,kA,kB,af,aO,au,av,n0]at d;refine⟨_,bg ?_,.inr ⟨aE (N4 f (a::b::r)),rfl⟩⟩;simp only[go_sem,kS,kO,kB,bG,mm,g,q,fe,af,aO,d,dt,P];rfl
    |[v],d=>
     simp only[N4,aW,bD,aH,aJ,kS,kA,kB,af,aO,au,av,n0,K,bo]at d;have w:lB G mm (kS (kO n i) (kB n e) 0 1 [])=Z (.go (kS (kO n (i+1)) (kB n e) 0 1 [⟨f,v,[]⟩])):=by
      simp only[go_sem,kS,kO,kB,bG,mm,g,q,fe,af,aO,d,N]
     have k:=L (i+1) [⟨f,v,[]⟩] (by omega) (by simp);cases s:mM ez n.aa e.aa (n.a_.drop (i+1)) with
     |none=>
      rw[s]at k;obtain⟨r,p,h⟩:=k;exact⟨r,by rw[bY w,p],h⟩
     |some A=>
      rw[s]at k;dsimp only at k;dsimp only[aQ];rw[bY w,k];rfl
  |cons x o=>
   have d:=Y5 (i:=i) D H Q C F e.aa.length 0 0 (x::o) (by omega) (by omega) (by simp only[mg,aH]at *;omega);rw[bm]at d;cases y:va B.type (e.aa.filter (Du f)) with
   |none=>
    rw[y]at d;obtain⟨c,p⟩:=d;simp only[kA,kB,af,aO,au,av,n0]at p;refine⟨_,bg ?_,.inr ⟨c,rfl⟩⟩;simp only[go_sem,kS,kO,kB,bG,mm,g,q,fe,af,aO,p]
   |some t=>
    rw[y]at d;dsimp only at d
    match t,d with
    |[],d=>
     simp only[N4,bD,aK,aJ,cd,kA,kB,af,aO,au,av,n0]at d;refine⟨_,bg ?_,.inr ⟨aE (x::o),rfl⟩⟩;simp only[go_sem,kS,kO,kB,bG,mm,g,q,fe,af,aO,d,dt]
    |a::b::r,d=>
     simp only[aH,bo,kA,kB,af,aO,au,av,n0]at d;refine⟨_,bg ?_,.inr ⟨aE (x::(o++N4 f (a::b::r))),rfl⟩⟩;simp only[go_sem,kS,kO,kB,bG,mm,g,q,fe,af,aO,d,dt,P]
    |[v],d=>
     simp only[N4,aW,bD,aH,aJ,kA,kB,af,aO,au,av,n0,K,bo]at d;have w:lB G mm (kS (kO n i) (kB n e) 0 1 (x::o))=Z (.go (kS (kO n (i+1)) (kB n e) 0 1 (x::o++[⟨f,v,[]⟩]))):=by
      rw[YZ];simp only[go_sem,kS,kO,kB,bG,mm,g,q,fe,af,aO,d,N]
     have k:=L (i+1) (x::o++[⟨f,v,[]⟩]) (by omega) (by simp only[bh,aH,aJ]at *;omega);cases s:mM ez n.aa e.aa (n.a_.drop (i+1)) with
     |none=>
      rw[s]at k;obtain⟨r,p,h⟩:=k;exact⟨r,by rw[bY w,p],h⟩
     |some A=>
      rw[s]at k;dsimp only at k;dsimp only[aQ];have W:x::o++[⟨f,v,[]⟩]++R4 (n.a_.drop (i+1)) A=x::o++R4 (f::n.a_.drop (i+1)) (v::A):=by simp[R4]
      rw[bY w,k,W]
theorem aoR{n:ah}{e:ck}{v:z}(hd:n.aq=1\/n.aq=2\/n.aq=3\/n.aq=4)(l:ee (ax n)<=mg)(o:e.aS.size<=mg)(q:bK cK e.aa<=mg)(p:n.aq=2->CL n)(c:HX n e=.inr v) :
  G 359 (ax n++cK e)=Z (0,if n.aq=2 then (match mM ez n.aa e.aa n.a_ with
   |none=>[.str kU,.str kU,.list 3 J [],E 4]
   |some d=>[.str n.aj,.str kU,aE (R4 n.a_ d),E 0]) else [.str n.aj,.str (if n.aq=4 then v else kU),.list 3 J [],E 0]):=by
 refine ct V5 (by rw[af,aO];rfl) ?_;by_cases i:n.aq=4
 ·have g:=VQ (t:=n.type) (s:=e.aS) (aG (Di n) l) o;rw[Ph]at g;have y:ez n.type e.aS=Z v:=by
   unfold HX at c;simp only[i]at c
   split at c
   ·cases c
   ·split at c
    ·cases c
    ·split at c
     ·cases c
     ·rename_i w m;cases c
      simpa using m
  rw[y]at g;simp only[gz]at g;rw[if_neg (by omega)];simp only[go_sem,V5,af,aO,i,g,dt]
 ·by_cases b:n.aq=2
  ·have h:=Y6 l q (p b) n.a_.length 0 [] (by omega) (by simp);rw[bm]at h;rw[if_pos b];cases j:mM ez n.aa e.aa n.a_ with
   |none=>
    rw[j]at h;obtain⟨r,k,h⟩:=h;simp only[kS,kO,kB,af,aO,au,av,n0,b]at k;rcases h with rfl|⟨x,rfl⟩<;>simp only[go_sem,V5,af,aO,b,k,dt]
   |some d=>
    rw[j]at h;dsimp only at h;rw[av]at h;cases f:R4 n.a_ d with
    |nil=>
     rw[f]at h;simp only[kS,kO,kB,af,aO,au,av,n0,b]at h;dsimp only;rw[f];simp only[go_sem,V5,af,aO,b,h,dt];rfl
    |cons a A=>
     rw[f]at h;simp only[kS,kO,kB,af,aO,au,av,n0,b]at h;dsimp only;rw[f];simp only[go_sem,V5,af,aO,b,h,dt]
  ·rw[if_neg b];simp only[go_sem,V5,af,aO,b,i,dt]
end
section
theorem ab1{s:M ah}{l:M az}{n:ah}{e:ck}{ns:M z}(c:l.length<=mg)(k:ns.length<=mg) :
  cm (lB G FT) (0,[aB s,aE l,aE l,E l.length,E 0]++ax n++cK e++[aE [],bu ns]) =
   Z (0,[aB s,aE l,aE l,E l.length,E l.length,.bool J]++ax n++cK e++[aE (Be ns l),bu ns]):=by
 have h:=cN (b:=lB G FT) l (λi t=>(0,[aB s,aE l,aE l,E l.length,E (i:Int)]++ax n++cK e++[aE t,bu ns])) (λi=>Be ns (l.take i))
  (0,[aB s,aE l,aE l,E l.length,E l.length,.bool J]++ax n++cK e++[aE (Be ns l),bu ns]) (by
  intro i x a;have d:=bp a;have g:=wj d c;have r:=iI a;have j:(Be ns (l.take i)).length<=mg:=aG aaK (aG (jU _ _) c);rw[Ug a];generalize Be ns (l.take i)=t at *;have f:=q99 (v:=x.aj) k;have q:=Zl x.aj x.aS x.aa;have p:=aaU j x;have o:=npN x.aj x.aS x.aa;cases m:nS ns x.aj<;>rw[m]at f<;>simp only[go_sem,bG,FT,d,r,aN x,af,aO,f,q,p,o,g,aK,plb]) (by simp only[go_sem,bG,FT,aC,aR,af,aO]) l.length 0 (by omega)
 rw[n0,aV]at h;exact h
theorem ali{s:M ah}{n:ah}{l:M az}{e:ck}{v:z}{mk:M ah->M az->M ck->Int ⊕ M az}
  (H:bK ax s<=mg) (L:bK aU l<=mg) (R:ee (ax n)<=mg) (U:e.aS.size<=mg) (DT:∀y∈l,Kd (dk s) y) (V:∀d,Kd (dk s) ⟨n.aj,v,d⟩)
  (K:n.aq=3\/n.aq=4->ez n.type e.aS=Z v) (F:n.aq=1\/n.aq=2->v=kU) (hd:n.aq=1\/n.aq=2\/n.aq=3\/n.aq=4) (W:(n.aq=1\/n.aq=2)->Orc 361 mk n [] e.aa) :
  G 363 ([aB s,aE l]++ax n++cK e)=Z (0,mO (sv fL mk oJ s n l e v)):=by
 have Q:l.length<=mg:=by simp only[bK]at L;omega
 obtain⟨b,X⟩:=TW s n.aj;have k:=anH (nm:=n.aj) H;rw[X]at k;have a:=ab1 (s:=s) (n:=n) (e:=e) (ns:=fL s n.aj) Q (aG (TV s n.aj) H);simp only[af,aO,au,av]at a;have T:bK aU (Be (fL s n.aj) l)<=mg:=aG (u9 rF) L;have D:∀y∈Be (fL s n.aj) l,Kd (dk s) y:=λy S=>DT y (nE.1 S).1;have P:=λ(d:M az) (h:d.length<=mg)=>aoT (x:=⟨n.aj,v,d⟩) H T h D (V d);have C:=VQ (t:=n.type) (s:=e.aS) (aG (Di n) R) U;rw[Ph]at C;have B:∀l,aZ .Ww [aE l]=Z (.bool J):=λl=>rfl;refine ct RJ (by rw[af,aO];rfl) ?_;unfold sv;generalize Be (fL s n.aj) l=w at *;by_cases m:n.aq=1\/n.aq=2
 ·rw[if_pos m];obtain⟨i,g2,g4⟩:=W m;rw[dN0]at i;have g:=F m;have q:¬n.aq=3:=by omega
  have Y:¬n.aq=4:=by omega
  cases r:mk n.aa [] e.aa with
  |inl c=>
   rw[r]at i;have K:Z' (c=0)=J:=by simpa using g2 c r
   simp only[go_sem,RJ,af,aO,k,mo,a,q,Y,i,mO,K,dt]
  |inr d=>
   rw[r]at i;have j:=P d (g4 d r);simp only[aN,au,av,g]at j;dsimp only;by_cases A:n.aq=1/\n.df=J/\d=[]
   ·rw[if_pos A];obtain⟨f,N,rfl⟩:=A;rw[f,N]at a;simp only[go_sem,RJ,af,aO,k,mo,a,f,N,i,mO,aJ,de0,dt]
   ·rw[if_neg A];rcases m with f|f
    ·cases o:n.df
     ·cases d with
      |nil=>exact absurd ⟨f,o,rfl⟩ A
      |cons y d=>
       rw[f,o]at a;simp only[go_sem,RJ,af,aO,k,mo,a,f,o,i,mO,aH,Pu,j,B,dt,g]
     ·rw[f,o]at a;simp only[go_sem,RJ,af,aO,k,mo,a,f,o,i,mO,j,B,dt,g]
    ·rw[f]at a;simp only[go_sem,RJ,af,aO,k,mo,a,f,i,mO,j,B,dt,g]
 ·rw[if_neg m];have j:=P [] (by simp[mg]);simp only[aN,au,av]at j;rw[dN0]at j;have p:n.aq=3\/n.aq=4:=by omega
  rw[K p]at C;simp only[gz]at C;rcases p with q|q<;>rw[q]at a<;>simp only[go_sem,RJ,af,aO,k,mo,a,q,C,mO,j,B,dt]
theorem alA{l:M az}{j:Nat}{y:az}(h:nth l j=Z y)(b:z):aZ (.set 1) [aE l,E (j:Int),.str b]=Z (aE (l.set j ⟨y.aj,b,y.aa⟩)):=by
 simp only[aZ,bW,aX,h,aQ,gG,aH,aJ];rw[if_pos ⟨by omega,by simp⟩];show _=Z (D.list 3 J ((l.set j ⟨y.aj,b,y.aa⟩).map aU));rw[rK,aN ⟨y.aj,b,y.aa⟩,aN];rfl
theorem alB{l:M az}{j:Nat}{y:az}(h:nth l j=Z y)(a:M az):aZ (.set 2) [aE l,E (j:Int),aE a]=Z (aE (l.set j ⟨y.aj,y.aS,a⟩)):=by
 simp only[aZ,bW,aX,h,aQ,gG,aH,aJ];rw[if_pos ⟨by omega,by simp⟩];show _=Z (D.list 3 J ((l.set j ⟨y.aj,y.aS,a⟩).map aU));rw[rK,aN ⟨y.aj,y.aS,a⟩,aN];rfl
theorem aie{l:M az}{j:Nat}{y:az}(h:nth l j=Z y):aZ (.Wn 3 2 1 J) [aE l,E (j:Int)]=Z (.list 0 J [aU y]):=by
 simp only[aZ,bW,aX,h,aQ];rw[aN];simp
theorem ahZ{l:M az}{j:Nat}(h:j < l.length)(a:l.length<=mg):aZ (.yv J) [aE l,E (j:Int),E ((j+1:Nat):Int)]=Z (aE (l.eraseIdx j)):=by
 simp only[aZ,bW,ay];rw[if_pos ⟨by omega,by omega,by omega,by simp only[mg,room]at *;omega⟩,<- kg,<- nC,<- bN,<- erase_eq]
theorem IH{a:Type}{x:a}:∀(l:M a) (j:Nat),(l.set j x).eraseIdx j=l.eraseIdx j
 |[],j=>by simp
 |y::l,0=>by simp
 |y::l,j+1=>by simp[IH l j]
theorem OV{a:Type}:∀{l:M a} {j:Nat} {y:a},nth l j=Z y->l.set j y=l
 |x::l,0,y,h=>by cases h;rfl
 |x::l,j+1,y,h=>by rw[lr,OV (l:=l) h]
theorem aoS{n:ah}{l:M az}{e:ck}{v:z}{j:Nat}{y:az}{mk:M ah->M az->M ck->Int ⊕ M az}
  (P:bK aU l<=mg) (K:ee (ax n)<=mg) (N:e.aS.size<=mg) (k:nth l j=Z y)
  (C:n.aq=3\/n.aq=4->ez n.type e.aS=Z v) (hd:n.aq=1\/n.aq=2\/n.aq=3\/n.aq=4) (Q:(n.aq=1\/n.aq=2)->Orc 361 mk n y.aa e.aa) :
  G 360 ([aE l,E (j:Int)]++ax n++cK e)=Z (0,mO (Cj mk n l e v j y (if n.aq=3 then ⟨y.aj,v,y.aa⟩ else y))):=by
 have F:l.length<=mg:=by simp only[bK]at P;omega
 have D:=bp k;have f:aZ (.app 3 56) [aE [],aE l]=Z (aE l):=Dl (a:=[]) (by simp only[mg,aJ]at *;omega);have h:=jd 3 J (l.map aU) j (by rw[ay];exact D);have T:=alA k v;have w:=λg=>alB k g;have o:=aie k;have L:=wj D F;have r:=VQ (t:=n.type) (s:=e.aS) (aG (Di n) K) N;rw[Ph]at r;refine ct O_ (by rw[af,aO];rfl) ?_;unfold Cj;by_cases i:n.aq=1\/n.aq=2
 ·rw[if_pos i,if_neg (by omega)];obtain⟨d,S,U⟩:=Q i;cases B:mk n.aa y.aa e.aa with
  |inl c=>
   rw[B]at d;have C:Z' (c=0)=J:=by simpa using S c B
   rcases i with b|b<;>simp only[go_sem,O_,af,aO,mo,f,h,o,aN y,b,d,mO,C]
  |inr g=>
   rw[B]at d;dsimp only;have H:=ahZ (l:=l.set j ⟨y.aj,y.aS,g⟩) (j:=j) (by rw[rz];exact D) (by rw[rz];exact F);rw[IH]at H;by_cases p:n.aq=1/\n.df=J/\g=[]
   ·rw[if_pos p];obtain⟨b,R,rfl⟩:=p;simp only[go_sem,O_,af,aO,mo,f,h,o,aN y,b,R,d,mO,w,aJ,de0,L,H]
   ·rw[if_neg p];rcases i with b|b
    ·cases A:n.df
     ·cases g with
      |nil=>exact absurd ⟨b,A,rfl⟩ p
      |cons x g=>simp only[go_sem,O_,af,aO,mo,f,h,o,aN y,b,A,d,mO,w,aH,Pu]
     ·simp only[go_sem,O_,af,aO,mo,f,h,o,aN y,b,A,d,mO,w]
    ·simp only[go_sem,O_,af,aO,mo,f,h,o,aN y,b,d,mO,w]
 ·rw[if_neg i];have m:n.aq=3\/n.aq=4:=by omega
  rw[C m]at r;simp only[gz]at r;rcases m with q|q
  ·rw[if_pos q];simp only[go_sem,O_,af,aO,mo,f,h,q,r,mO,T]
  ·rw[if_neg (by omega),OV k];simp only[go_sem,O_,af,aO,mo,f,q,mO]
end
section
theorem YL{n:ah}(h:jF n.aq=J)(l:M az)(x a:az):hX n l x=hX n l a:=by simp[hX,pV,AX,h]
theorem YK{n:ah}{l:M az}{x:az}{j:Nat}(h:hX n l x=Z j):∃y,nth l j=Z y/\y.aj=n.aj:=by
 obtain⟨y,b,a⟩:=du h;simp only[ai,decide_eq_true_eq]at a;exact⟨y,b,a.1⟩
theorem plN(e:ah)(b:Bool):aZ .pl [E e.aq,.str e.aj,E e.type.aq,.str e.type.pattern,.str e.type.path,.str e.default,.bool e.given,.bool e.fo,.bool e.df,.bool e.fixed,E e.min,E e.max,.bool b]=Z (.bool J):=(rfl)
theorem acC{n:ah}{e:ck}{v:z}(hd:n.aq=1\/n.aq=2\/n.aq=3\/n.aq=4)(h:HX n e=.inr v) :
  fO 1 5 e.op=I/\(n.aq=4->ez n.type e.aS=Z v)/\(n.aq=3->e.op < 4->ez n.type e.aS=Z v)/\(n.aq=1\/n.aq=2->v=kU):=by
 unfold HX at h;simp only at h
 split at h
 ·cases h
 ·split at h
  ·cases h
  ·rename_i d
   split at h
   ·cases h
   ·rename_i w a;cases h;refine⟨by simpa using d,λb=>?_,λc f=>?_,λg=>?_⟩
    ·simpa [b] using a
    ·simpa [c,f] using a
    ·have c:¬n.aq=3:=by omega
     have b:¬n.aq=4:=by omega
     simp[c,b]at a;exact a.symm
theorem afF{n:ah}{e:ck}{c:Int}(h:HX n e=.inl c):c≠0:=by
 have:=Sk n e;rw[h]at this;exact P6 this
theorem aoU{s:M ah}{l:M az}{e:ck}{mk:M ah->M az->M ck->Int ⊕ M az}
  (W:bK ax s<=mg) (S:bK aU l<=mg) (he:ee (cK e)<=mg) (DT:∀y∈l,Kd (dk s) y) (hki:∀n,dQ s e.aj=Z n->n.aq=2->CL n)
  (hg:∀n,dQ s e.aj=Z n->(n.aq=1\/n.aq=2)->∀l0,(l0=[]\/∃y∈l,y.aj=n.aj/\l0=y.aa)->Orc 361 mk n l0 e.aa) :
  G 364 ([aB s,aE l]++cK e)=Z (0,mO (vx ez fL mk oJ (λn l v f=>hX n l (AA n v f)) (λn y v=>if n.aq=3 then (⟨y.aj,v,y.aa⟩:az) else y) s l e)):=by
 have vE:l.length<=mg:=by simp only[bK]at S;omega
 have Pw:bK ax (dk s)<=mg:=aG lN W;have i:=ZQ (l:=s) (nm:=e.aj) W;have m:=QY e.aj;rw[tV]at he;refine ct zi (by rw[aO];rfl) ?_;cases C:dC (dk s) e.aj with
 |none=>
  have Q:dQ s e.aj=O:=by simp only[dQ,C]
  rw[C]at i;have d:=acN (n:=Dy) (e:=e);unfold vx;rw[Q];simp only[bu,aW,bD,fe,af,aO,au,av]at i d;simp only[go_sem,zi,aO,m,i,plN,d,mO]
 |some j=>
  obtain⟨n,X,hnn⟩:=du C;have Q:dQ s e.aj=Z n:=by simp only[dQ,C,X]
  have YC:n.aj=e.aj:=by simpa using hnn
  have A:ee (ax n)<=mg:=by have:=cG ax (bc X);omega
  have hd:=zZ (zX _ s (aP _) n (bc X));rw[C]at i;simp only[X]at i;have d:=aoQ (n:=n) (e:=e) hd A (by omega);have r:=Sk n e;simp only[bu,aW,bD,fe,af,aO,au,av]at i d;have q:=vo;unfold vx;rw[Q];dsimp only;cases R:HX n e with
  |inl c=>
   rw[R]at d r;have SY:Z' (c=0)=J:=by simpa using afF R
   rw[r];simp only[go_sem,zi,aO,m,i,q,d,Cs,SY,mO]
   done
  |inr v=>
   rw[R]at d r;dsimp only at r;obtain⟨p1,p2,p3,p4⟩:=acC hd R;have b:=aoR hd A (by omega) (by omega) (hki n Q) R;have T:∀ks,Kd (dk s) ⟨n.aj,v,ks⟩:=λks=>⟨j,by rw[YC];exact C⟩
   have U0:=hg n Q;have kN:1<=e.op/\e.op<=5:=by simpa [fO] using p1
   have w:∀(K:az) (f:M z),G 359 (ax n++cK e)=Z (0,[.str K.aj,.str K.aS,aE K.aa,E 0])->vt ez n e=.inr (v,f)->hX n l (AA n v f)=hX n l K->K.aa.length<=mg->
     eV G zi.t 0 ([aB s,aE l]++cK e)=Z (0,mO (match vt ez n e with
      | .inl c=>.inl c
      | .inr (v,f)=>
       let k:=hX n l (AA n v f)
       if e.op=3/\k.isSome=I then .inl 5
       else if e.op=4/\k=O then .inl 6
       else if e.op=4\/e.op=5 then .inr (vu l k)
       else if e.op=2 then sv fL mk oJ s n (vu l k) e v
       else match k with
        |none=>sv fL mk oJ s n l e v
        |some j=>match nth l j with
         |none=>.inr l
         |some y=>Cj mk n l e v j y (if n.aq=3 then (⟨y.aj,v,y.aa⟩:az) else y))):=by
    clear b;intro K f b hck Ar hK;have o:=agt (n:=n) (l:=l) (x:=K) A S hK;rw[hck];dsimp only;rw[Ar];simp only[bu,af,aN,aO,au,av]at b o;cases hi:hX n l K with
    |none=>
     rw[hi]at o;by_cases H:e.op=4
     ·rw[H]at d b;simp only[go_sem,zi,aO,m,i,q,d,Cs,b,o,ij,n_,H,mO]
      try simp[mO]
     by_cases F:e.op=5
     ·rw[F]at d b;simp only[go_sem,zi,aO,m,i,q,d,Cs,b,o,ij,n_,F,mO]
      try simp[vu]
     have g:=ali (n:=n) (e:=e) (v:=v) W S A (by omega) DT T (λh=>h.elim (λU=>p3 U (by omega)) p2) p4 hd (λh=>U0 h [] (.inl rfl));obtain⟨ra,rb,p⟩:=AH (sv fL mk oJ s n l e v);rw[p]at g;simp only[bu,af,aO,au,av]at g;by_cases L:e.op=3
     ·rw[L]at d b g;simp only[go_sem,zi,aO,m,i,q,d,Cs,b,o,ij,n_,L,g];simp[p]
     by_cases P:e.op=1
     ·rw[P]at d b g;simp only[go_sem,zi,aO,m,i,q,d,Cs,b,o,ij,n_,P,g];simp[p]
     ·have N:e.op=2:=by omega
      rw[N]at d b g;simp only[go_sem,zi,aO,m,i,q,d,Cs,b,o,ij,n_,N,g];simp[vu,p]
    |some k=>
     rw[hi]at o;obtain⟨y,B,QL⟩:=YK hi;have qe:=bp B;have wo:=Vb k;have D:=ge0 k;have hw:=wj qe vE;have b1:aZ (.app 3 56) [aE [],aE l]=Z (aE l):=Dl (a:=[]) (by simp only[mg,aJ]at *;omega);have b2:=ahZ qe vE;by_cases L:e.op=3
     ·rw[L]at d b;simp only[go_sem,zi,aO,m,i,q,d,Cs,b,o,ij,n_,L,D,mO]
      try simp[mO]
     by_cases H:e.op=4
     ·rw[H]at d b;simp only[go_sem,zi,aO,m,i,q,d,Cs,b,o,ij,n_,H,wo,D,mo,b1,hw,b2,mO]
      try simp[vu]
     by_cases F:e.op=5
     ·rw[F]at d b;simp only[go_sem,zi,aO,m,i,q,d,Cs,b,o,ij,n_,F,wo,D,mo,b1,hw,b2,mO]
      try simp[vu]
     by_cases N:e.op=2
     ·have hcz:bK aU (l.eraseIdx k)<=mg:=aG (u9 (fC l k)) S;have g:=ali (n:=n) (e:=e) (v:=v) W hcz A (by omega) (λy B=>DT y ((fC l k).subset B)) T (λh=>h.elim (λU=>p3 U (by omega)) p2) p4 hd (λh=>U0 h [] (.inl rfl));obtain⟨ra,rb,p⟩:=AH (sv fL mk oJ s n (l.eraseIdx k) e v);rw[p]at g;simp only[bu,af,aO,au,av]at g;have g6:aZ .Ww [ra,rb]=Z (.bool J):=by
       cases hA:sv fL mk oJ s n (l.eraseIdx k) e v<;>rw[hA]at p<;>cases p<;>rfl
      rw[N]at d b g;simp only[go_sem,zi,aO,m,i,q,d,Cs,b,o,ij,n_,N,D,mo,b1,hw,b2,g,g6];simp[vu,p]
     ·have P:e.op=1:=by omega
      have g:=aoS (n:=n) (e:=e) (v:=v) S A (by omega) B (λh=>h.elim (λU=>p3 U (by omega)) p2) hd (λh=>U0 h y.aa (.inr ⟨y,bc B,QL,rfl⟩));obtain⟨ra,rb,p⟩:=AH (Cj mk n l e v k y (if n.aq=3 then ⟨y.aj,v,y.aa⟩ else y));rw[p]at g;simp only[bu,af,aO,au,av]at g;rw[P]at d b g;simp only[go_sem,zi,aO,m,i,q,d,Cs,b,o,ij,n_,P,D,g];simp[B,p]
   by_cases V:n.aq=2
   ·have hv:=p4 (.inr V);subst hv;rw[if_pos V]at b r;cases Y:mM ez n.aa e.aa n.a_ with
    |none=>
     rw[Y]at b r;rw[r];simp only[bu,af,aO,au,av]at b;simp only[go_sem,zi,aO,m,i,q,d,Cs,b,mO]
    |some f=>
     rw[Y]at b r;refine w (AA n kU f) f b r rfl ?_;have h1:=(wB Y).1;have V:=mT A;simp only[AA,ay,List.length_zip];omega
   ·rw[if_neg V]at b r;refine w ⟨n.aj,if n.aq=4 then v else kU,[]⟩ [] b r ?_ (by simp);by_cases h4:n.aq=4
    ·simp[AA,h4]
    ·exact YL (by simp[jF,V,h4]) l _ _
end
section
theorem agz(m:Nat):Mk 361 (yq ez fL) m:=by
 induction m with
 |zero=>intro s l es h;omega
 |succ m F=>
  intro s l es hz V j L W f;have t:es.length<=mg:=by simp only[bK,zE]at j;omega
  have loop:∀r i l,i+r=es.length->bK aU l+zE (es.drop i)<=mg->Wl (m+1) s l->∃o,cm (lB G FR) (0,[aB s,aE l,dm es,E es.length,.int .i64 (i:Int)])=Z o/\match xQ (Q6 ez fL m) s l (es.drop i) with
    | .inl c=>c≠0/\o=(0,[.list 3 J [],E c])
    | .inr l'=>o=(1,[aB s,aE l',dm es,E es.length,E es.length,.bool J]):=by
   intro r
   induction r with
   |zero=>
    intro i l hi _ _;obtain rfl:i=es.length:=by omega
    rw[bE];refine⟨_,bg ?_,rfl⟩;simp only[go_sem,bG,FR,aC]
   |succ r ih=>
    intro i l hi j f;have A:i < es.length:=by omega
    have a1:=cI (l:=es) (i:=i) A;have hd:=eg es i _ a1;generalize es[i]'A=e at a1 hd;have H:=wj A t;have Y:=EH a1;have K:bK aU l<=mg:=by omega
    rw[hd]at j ⊢;have N:ee (cK e)<=mg:=by simp only[zE,er]at j;omega
    have U0:∀n,dQ s e.aj=Z n->(n.aq=1\/n.aq=2)->∀a,(a=[]\/∃y∈l,y.aj=n.aj/\a=y.aa)->Orc 361 (yq ez fL m) n a e.aa:=
     λn d q a B=>ZB F (λs l es h w=>(tL m s l es h w).1) bQ (adB (bc a1) hz) V j L W f d q B
    have p:=aoU (mk:=yq ez fL m) V K N f.kd (λn d=>by obtain⟨k,b1,b2,b3,S⟩:=dy d;exact (W n S).1) U0;have T:∀n,dQ s e.aj=Z n->(n.aq=1\/n.aq=2)->∀a,(a=[]\/∃y∈l,y.aj=n.aj/\a=y.aa)->∀c,kt ez fL m n.aa a e.aa=.inl c->c≠0:=λn d q a B c h=>by
     obtain⟨_,_,_,_,S⟩:=dy d;exact (U0 n d q a B).2.1 c (by rw[(tL m n.aa a e.aa ((L n S).2 q) (Y2 f d q B)).1];exact h)
    have U:∀c,yX ez fL m s l e=.inl c->c≠0:=λc=>Zz (oN:=fL) T;have R:=Q7 (tL (can:=ez) m) L f e;have nz:=λl' h=>Q8 (oN:=fL) (mk:=kt ez fL m) (λs l es l' h=>q_ m h) (s:=s) (l:=l) (l':=l') (e:=e) h;simp only[aO,au,av]at p;rw[xQ,R.1];have Q:yX ez fL m s l e=vx ez fL (kt ez fL m) ko yM (λn y v=>(⟨n.aj,v,y.aa⟩:az)) s l e:=rfl;have P:Q6 ez fL m s l e=vx ez fL (yq ez fL m) oJ (λn l v D=>hX n l (AA n v D)) (λn y v=>if n.aq=3 then (⟨y.aj,v,y.aa⟩:az) else y) s l e:=rfl;rw[<- P,R.1]at p;cases g:yX ez fL m s l e with
    |inl c=>
     rw[g]at p;have SY:Z' (c=0)=J:=by simpa using U c g
     refine⟨_,bg ?_,U c g,rfl⟩;simp only[go_sem,bG,FR,A,Y,aO e,p,mO,SY]
    |inr C=>
     rw[g]at p;have hs1:=nz C (by rw[<- Q];exact g);obtain⟨o,x,b⟩:=ih (i+1) C (by omega) (by simp only[zE,er]at *;omega) (R.2 C g).1;refine⟨o,(bY ?_).trans x,b⟩;simp only[go_sem,bG,FR,A,Y,aO e,p,mO,H]
  obtain⟨o,x,b⟩:=loop es.length 0 l (by omega) (by simpa using j) f;rw[n0]at x;rw[bm]at b;have Q:yq ez fL (m+1) s l es=xQ (Q6 ez fL m) s l es:=rfl;rw[Q];cases X:xQ (Q6 ez fL m) s l es with
  |inl c=>
   rw[X]at b;obtain⟨h3,rfl⟩:=b;refine⟨ct ada rfl ?_,λc' h=>by cases h;exact h3⟩;simp only[go_sem,ada,x,mO]
  |inr l'=>
   rw[X]at b;dsimp only at b;subst b;refine⟨ct ada rfl ?_,λc' h=>by cases h⟩;simp only[go_sem,ada,x,mO]
end
section
theorem anU(a:Nat):∀l:M az,aw l < a->bK aU l<=mg->G 1 [aE l]=Z (0,[aE l]):=by
 induction a with
 |zero=>intro l h;omega
 |succ a k=>
  intro l v e;have d:l.length<=mg:=by simp only[bK]at e;omega
  have f:=cN (b:=lB G abL) l (λi t=>(0,[aE l,E l.length,E (i:Int),aE t])) (λi=>l.take i) (0,[aE l,E l.length,E l.length,.bool J,aE l]) (by
   intro i x c;have g:=bp c;have m:=wj g d;have r:=iI c;obtain⟨s,j⟩:=lV e (bc c);have q:=k x.aa (by have:=bj (bc c);have:=az.dL x;omega) j;have p:=Zl x.aj x.aS x.aa;have o:=aaU (l:=l.take i) (by rw[aY];omega) x;have n:=OM x.aj x.aS;rw[bZ l i x c];generalize l.take i=t at *;simp only[go_sem,bG,abL,g,m,r,aN x,q,p,o,n]) (by simp only[go_sem,bG,abL,aC,aR]) l.length 0 (by omega)
  rw[n0,aV]at f;refine ct t1 rfl ?_;simp only[go_sem,t1,mo,f]
theorem q1{l:M az}(a:bK aU l<=mg):G 1 [aE l]=Z (0,[aE l]):=anU _ l (aP _) a
theorem aoy(a:Nat):∀l:M az,aw l < a->bK aU l<=mg->G 2 [aE l]=Z (0,[aE l]):=by
 induction a with
 |zero=>intro l h;omega
 |succ a k=>
  intro l v e;have d:l.length<=mg:=by simp only[bK]at e;omega
  have f:=cN (b:=lB G abV) l (λi t=>(0,[aE l,E (i:Int),aE t])) (λi=>l.take i) (0,[aE l,E l.length,.bool J,aE l]) (by
   intro i x c;have g:=bp c;have m:=wj g d;have r:=iI c;obtain⟨s,j⟩:=lV e (bc c);have q:=k x.aa (by have:=bj (bc c);have:=az.dL x;omega) j;have p:=Zl x.aj x.aS x.aa;have o:=aaU (l:=l.take i) (by rw[aY];omega) x;have n:=OM x.aj x.aS;rw[bZ l i x c];generalize l.take i=t at *;simp only[go_sem,bG,abV,g,m,r,aN x,q,p,o,n]) (by simp only[go_sem,bG,abV,aC,aR]) l.length 0 (by omega)
  rw[n0,aV]at f;refine ct t2 rfl ?_;simp only[go_sem,t2,mo,f]
theorem q2{l:M az}(a:bK aU l<=mg):G 2 [aE l]=Z (0,[aE l]):=aoy _ l (aP _) a
noncomputable def AI(s:M ah)(l:M az)(es:M ck):M az×Int:=if qW s l=I then (match kt ez fL (aw es+1) s l es with
  | .inl c=>(l,c)
  | .inr o=>if qW s o=I then (o,0) else (l,8)) else (l,1)
theorem Ci{s:M ah}{l:M az}{es:M ck}:bK aU (AI s l es).1<=bK aU l+zE es:=by
 unfold AI;split
 ·split
  ·exact mY _ _
  ·rename_i o h;split
   ·exact q_ _ h
   ·exact mY _ _
 ·exact mY _ _
theorem Tg{s:M ah}{l:M az}(h:qW s l=I)(m:Nat):Hs fL m s/\Sok m s/\Wl m s l:=by
 have a:=h;unfold qW uE Fg at a;simp only[ai]at a;obtain⟨N,b⟩:=uD h;exact⟨adp m a.1.2,WN m a.1.2,WQ m N s l b⟩
section
variable {s:M ah} {l:M az} {es:M ck} (hs:bK ax s<=mg) (hl:bK aU l+zE es<=mg)
include hs hl
theorem agx:G 355 [aB s,aE l,dm es]=Z (0,[aE (AI s l es).1,E (AI s l es).2]):=by
 have b:bK aU l<=mg:=by omega
 have d:=ON hs b;have h:=q2 b;refine ct ac_ rfl ?_;unfold AI;cases g:qW s l with
 |false=>
  rw[g]at d;simp only[go_sem,ac_,d,h]
 |true=>
  rw[g]at d;obtain⟨q,p,n⟩:=Tg g (aw es+1);obtain⟨a,m⟩:=ZN _ s l es (aP _) hs hl q p n;cases e:kt ez fL (aw es+1) s l es with
  |inl c=>
   have k:Z' (c=0)=J:=by simpa using m c e
   rw[e]at a;simp only[mO]at a;simp only[go_sem,ac_,d,h,a,k]
  |inr o=>
   have i:bK aU o<=mg:=aG (q_ _ e) hl;have j:=ON hs i;have r:=q2 i;rw[e]at a;simp only[mO]at a;dsimp only;cases f:qW s o<;>rw[f]at j<;>simp only[go_sem,ac_,d,h,a,j,r]
theorem agA:G 365 [aB s,aE l,dm es]=Z (0,[aE (AI s l es).1,E (AI s l es).2]):=by
 have b:bK aU l<=mg:=by omega
 have d:=OO hs b;have h:=q1 b;have p:∀(l:M az) (c:Int),aZ .Ww [aE l,E c]=Z (.bool J):=λ_ _=>rfl;refine ct adb rfl ?_;unfold AI;cases g:qW s l with
 |false=>
  rw[g]at d;simp only[go_sem,adb,d,h]
 |true=>
  rw[g]at d;obtain⟨m,t,k⟩:=Tg g (aw es+1);obtain⟨a,j⟩:=agz _ s l es (aP _) hs hl m t k;rw[(tL _ s l es m k).1]at a j;cases e:kt ez fL (aw es+1) s l es with
  |inl c=>
   have r:Z' (c=0)=J:=by simpa using j c e
   rw[e]at a;simp only[mO]at a;have n:=p [] c;rw[dN0]at n;simp only[go_sem,adb,d,h,a,r,n]
  |inr o=>
   have i:bK aU o<=mg:=aG (q_ _ e) hl;have q:=OO hs i;have v:=q1 i;rw[e]at a;simp only[mO]at a;dsimp only;cases f:qW s o<;>rw[f]at q<;>simp only[go_sem,adb,d,h,a,q,v,p]
end
end
end Go.Proofs.YtnnjajingjfjiaaGreatDoor
