/- Part of the proof: a machine over plain data, its proof, the functions of the program run on symbols, what they answer. Condition: none. -/
import Derived.Test.YtgfcijiikgjbcaaGreatDoorZz15
import Derived.Test.YtgfcijiikgjbcaaGreatDoorZz17
set_option linter.unusedVariables false
set_option linter.unusedSimpArgs false
set_option linter.unusedSectionVars false
open Bool renaming and_eq_true->ai,and_self_left->ax,false_eq_true->aD,not_not->aL,not_eq_true'->ck,false_and->cM,or_eq_true->df,eq_iff_iff->dC,and_self->jr,and_eq_false_iff->oV,true->I,false->J
open Int renaming toNat_natCast->cd
open List renaming cons_append->au,nil_append->av,length_map->aA,length_cons->aG,mem_cons->aI,append_nil->aJ,length_nil->aP,map_cons->aZ,length_append->a_,sizeOf_lt_of_mem->ba,length_take->bj,take_length->bo,drop_zero->br,take_zero->bE,drop_length->bJ,mem_cons_self->bQ,map_nil->cj,map_append->cp,eraseIdx_sublist->fG,filter_cons->iq,set_cons_succ->lh,map_take->lM,mem_filter->nn,map_drop->pw,length_set->qC,filter_sublist->qH,map_set->vV,filter_nil->wN
open List.cons renaming sizeOf_spec->bG
open Nat renaming lt_irrefl->aB,le_trans->aH,lt_succ_self->aS,zero_add->bu,add_zero->dx,le_add_right->uB
open Option renaming map_some->aQ,some->Z,none->O
open SizeOf renaming sizeOf->aw
open Decidable renaming decide->Z'
namespace Go.Proofs.YtgfcijiikgjbcaaGreatDoor
set_option maxRecDepth 100000
set_option maxHeartbeats 4000000
set_option maxHeartbeats 400000000
section
noncomputable def Gk(n:ah)(e:cA):Int ⊕ z:=
 let row:=Z' (n.aq=3) ||decide (n.aq=4)
 if ((!row && !Z' (e.bg=sJ)) ||(row && !e.ae.isEmpty))=I then .inl 2
 else if (!fS 1 5 e.op)=I then .inl 3
 else match (if (Z' (n.aq=4) ||(Z' (n.aq=3) && Z' (e.op < 4)))=I then ey n.type e.bg else Z sJ) with
  |none=>.inl 7
  |some v=>.inr v
theorem Pz(n:ah)(e:cA):uk ey n e=match Gk n e with
  | .inl c=>.inl c
  | .inr v=>if n.aq=2 then (match mI ey n.ae e.ae n.bk with
   |none=>.inl 4
   |some a=>.inr (sJ,a)) else .inr (v,[]):=by
 unfold uk Gk;simp only
 split
 ·rfl
 ·split
  ·rfl
  ·split
   ·rename_i b;rw[b]
   ·rename_i b;rw[b];rfl
def Bc(r:Int ⊕ z):Int:=match r with
 | .inl c=>c
 | .inr _=>0
theorem aaQ{n:ah}{e:cA}:G 358 (ay n++[.bool J]++eb e)=Z (0,[E 2]):=by
 refine cN O5 (by rw[af,aK];rfl) ?_;simp +contextual -implicitDefEqProofs only [go_sem,dv,dq,dh,dm,bF,du,dt,dr,ax,iQ,iR,iT,iU,aL,ef,ee,O5,af,aK,dZ]
theorem alD{n:ah}{e:cA}(hd:n.aq=1\/n.aq=2\/n.aq=3\/n.aq=4)(j:fm (ay n)<=mg)(g:e.bg.size<=mg) :
  G 358 (ay n++[.bool I]++eb e)=Z (0,[E (Bc (Gk n e))]):=by
 have b:=Ta (t:=n.type) (s:=e.bg) (aH (B2 n) j) g;rw[MR]at b;have d:=Qj e.ae;refine cN O5 (by rw[af,aK];rfl) ?_;have a:(Z' (e.op < 1) ||decide (5 < e.op))=!fS 1 5 e.op:=by
  rw[dC];simp only[fS,df,decide_eq_true_eq,ck,oV,decide_eq_false_iff_not];omega
 have c:fS 1 5 e.op=I->(Z' (e.op=4) ||decide (e.op=5))=!Z' (e.op < 4):=by
  intro h;rw[dC];simp only[fS,ai,df,decide_eq_true_eq,ck,decide_eq_false_iff_not]at h ⊢;omega
 unfold Gk;generalize k:e.ae.isEmpty=em at *;generalize l:fS 1 5 e.op=q at *;rcases hd with h|h|h|h
 ·simp +contextual -implicitDefEqProofs only [go_sem,dv,dq,dh,dm,bF,du,dt,dr,ax,iQ,iR,iT,iU,aL,ef,ee,O5,af,aK,h,d,dZ]
  cases Z' (e.bg=sJ)<;>cases q<;>simp +contextual -implicitDefEqProofs only [go_sem,dv,dq,dh,dm,bF,du,dt,dr,ax,iQ,iR,iT,iU,aL,ef,ee,a]<;>rfl
 ·simp +contextual -implicitDefEqProofs only [go_sem,dv,dq,dh,dm,bF,du,dt,dr,ax,iQ,iR,iT,iU,aL,ef,ee,O5,af,aK,h,d,dZ]
  cases Z' (e.bg=sJ)<;>cases q<;>simp +contextual -implicitDefEqProofs only [go_sem,dv,dq,dh,dm,bF,du,dt,dr,ax,iQ,iR,iT,iU,aL,ef,ee,a]<;>rfl
 ·simp +contextual -implicitDefEqProofs only [go_sem,dv,dq,dh,dm,bF,du,dt,dr,ax,iQ,iR,iT,iU,aL,ef,ee,O5,af,aK,h,d,dZ]
  cases em
  ·simp +contextual -implicitDefEqProofs only [go_sem,dv,dq,dh,dm,bF,du,dt,dr,ax,iQ,iR,iT,iU,aL,ef,ee]
   rfl
  ·cases q
   ·simp +contextual -implicitDefEqProofs only [go_sem,dv,dq,dh,dm,bF,du,dt,dr,ax,iQ,iR,iT,iU,aL,ef,ee,a]
    rfl
   ·have c:=c rfl;cases i:Z' (e.op < 4)<;>rw[i]at c
    ·simp +contextual -implicitDefEqProofs only [go_sem,dv,dq,dh,dm,bF,du,dt,dr,ax,iQ,iR,iT,iU,aL,ef,ee,a,c]
     rfl
    ·cases f:ey n.type e.bg<;>rw[f]at b<;>simp only[gx]at b<;>simp +contextual -implicitDefEqProofs only [go_sem,dv,dq,dh,dm,bF,du,dt,dr,ax,iQ,iR,iT,iU,aL,ef,ee,a,c,b]<;>rfl
 ·simp +contextual -implicitDefEqProofs only [go_sem,dv,dq,dh,dm,bF,du,dt,dr,ax,iQ,iR,iT,iU,aL,ef,ee,O5,af,aK,h,d,dZ]
  cases em
  ·simp +contextual -implicitDefEqProofs only [go_sem,dv,dq,dh,dm,bF,du,dt,dr,ax,iQ,iR,iT,iU,aL,ef,ee]
   rfl
  ·cases q
   ·simp +contextual -implicitDefEqProofs only [go_sem,dv,dq,dh,dm,bF,du,dt,dr,ax,iQ,iR,iT,iU,aL,ef,ee,a]
    rfl
   ·cases f:ey n.type e.bg<;>rw[f]at b<;>simp only[gx]at b<;>simp +contextual -implicitDefEqProofs only [go_sem,dv,dq,dh,dm,bF,du,dt,dr,ax,iQ,iR,iT,iU,aL,ef,ee,a,b]<;>rfl
end
section
theorem PT{d:Type}{p q:d->Bool}:∀{l:M d} {k j:Nat},mB p l k=Z j->∃i,j=k+i/\∀x,nth l i=Z x->q x=I->mB (λe=>p e && q e) l k=Z j
 |[],k,j,h=>by cases h
 |y::l,k,j,h=>by
  rw[mB]at h
  split at h
  ·rename_i c;cases h;refine⟨0,rfl,λx a b=>?_⟩;cases a;simp only[mB,c,b,jr,if_true]
  ·rename_i c;obtain⟨i,rfl,f⟩:=PT (q:=q) h;refine⟨i+1,by omega,λx a b=>?_⟩;have:=f x a b;have g:p y=J:=by simpa using c
   simp only[mB,g,cM,aD,if_false];exact this
theorem LZ{l:M ah}{b:z}{j:Nat}{a:ah}(h:dO l b=Z j)(d:nth l j=Z a)(f:a.aq=3):lV l b=Z j:=by
 obtain⟨i,c,g⟩:=PT (q:=λe:ah=>Z' (e.aq=3)) h;rw[bu]at c;subst c;exact g a d (by simp[f])
def LM(b:z)(a:M z):M aE:=a.map λv=>⟨b,v,[]⟩
def kA(a:z)(n:ah)(e:cA)(i c k:Nat):M D:=[.str a,.int .i64 (c:Int),bn n.bk,.int .i64 n.bk.length,.int .i64 (i:Int),gQ e.ae,.int .i64 e.ae.length,.int .i64 (k:Int)]
def kB(n:ah)(e:cA):M D:=ay n++eb e++[.str sJ,.str sJ,.str n.ak,.str sJ]
def kS(a:M D)(b:M D)(d c:Nat):M aE->Nat×M D
 |[]=>(d,a++b)
 |o=>(c,a++b++[aO o])
theorem Wi(a b:M D)(d c:Nat)(o:M aE)(x:aE):kS a b d c (o++[x])=(c,a++b++[aO (o++[x])]):=by cases o<;>rfl
theorem mkX(a v:z):aU (.wB 3 J) [.str a,.str v,.list 3 J []]=Z (aO [⟨a,v,[]⟩]):=ac7 ⟨a,v,[]⟩
theorem ae8(x:aE):aU (.app 3 56) [.list 3 J [],aO [x]]=Z (aO [x]):=B5 (a:=[]) (by simp)
theorem aab{n f:ah}{e:cA}{i j:Nat}{nm:z}(hj:dO n.ae nm=Z j)(R:nth n.ae j=Z f)(h3:f.aq=3)(hn:fm (ay n)<=mg)(U:bW eb e.ae<=mg):∀(m k c:Nat) (o:M aE),k+m=e.ae.length->c<=k->o.length+m<=134217728->
  match va f.type ((e.ae.drop k).filter (Cb nm)) with
  |none=>∃r,cl (lB G k8) (kS (kA nm n e i c k) (kB n e) 0 1 o)=Z r/\(r=(0,[E 4,.str sJ,.str sJ])\/∃x,r=(2,[E 4,.str sJ,.str sJ,x]))
  |some D=>cl (lB G k8) (kS (kA nm n e i c k) (kB n e) 0 1 o)=Z (kS (kA nm n e i (c+D.length) e.ae.length++[.bool J]) (kB n e) 1 3 (o++LM nm D)):=by
 have B:e.ae.length<=mg:=by simp only[bW]at U;omega
 have W:n.ae.length<=mg:=by have:=ew n;simp only[bW]at this;omega
 have Q:fm (ay f)<=mg:=by have:=dV ay (bp R);have:=ew n;omega
 have q:=aaP (l:=n.ae) (nm:=nm) W;rw[LZ hj R h3]at q;simp only[R]at q;simp only[af f,au,av]at q;have mx:=mkX;have a0:=ae8;intro m
 induction m with
 |zero=>
  intro k c o Y _ _;obtain rfl:k=e.ae.length:=by omega
  rw[bJ];simp only[wN,va,LM,cj,aJ,aP,dx];refine aX ?_;cases o with
  |nil=>simp only[go_sem,kS,kA,kB,bK,k8,aB,af,aK]
  |cons x o=>simp only[go_sem,kS,kA,kB,bK,k8,aB,af,aK]
 |succ m T=>
  intro k c o Y hc ho;have g:k < e.ae.length:=by omega
  have a1:=dz (l:=e.ae) (i:=k) g;have hd:=eM e.ae k _ a1;generalize e.ae[k]'g=y at a1 hd;have N:=wj g B;have C:=wj (show c < e.ae.length by omega) B;have A:=Dj a1;obtain⟨y1,y2,y3,y4⟩:=UX U (bp a1);have d:=Ta (t:=f.type) (s:=y.bg) (aH (B2 f) Q) y2;simp only[ez,au,av]at d;rw[hd,iq];by_cases p:y.ak=nm
  ·have P:Cb nm y=I:=by simp[Cb,p]
   rw[if_pos P];simp only[va];by_cases H:y.op=4
   ·rw[if_pos (by simp[H])];cases o with
    |nil=>
     refine⟨_,aX ?_,.inl rfl⟩;cases w:ey f.type y.bg<;>rw[w]at d<;>simp only[go_sem,kS,kA,kB,bK,k8,g,A,af,aK,p,C,q,d,gx,H,dZ]
    |cons x o=>
     refine⟨_,aX ?_,.inr ⟨aO (x::o),rfl⟩⟩;cases w:ey f.type y.bg<;>rw[w]at d<;>simp only[go_sem,kS,kA,kB,bK,k8,g,A,af,aK,p,C,q,d,gx,H,dZ]
   ·by_cases F:y.op=5
    ·rw[if_pos (by simp[F])];cases o with
     |nil=>
      refine⟨_,aX ?_,.inl rfl⟩;cases w:ey f.type y.bg<;>rw[w]at d<;>simp only[go_sem,kS,kA,kB,bK,k8,g,A,af,aK,p,C,q,d,gx,F,dZ]
     |cons x o=>
      refine⟨_,aX ?_,.inr ⟨aO (x::o),rfl⟩⟩;cases w:ey f.type y.bg<;>rw[w]at d<;>simp only[go_sem,kS,kA,kB,bK,k8,g,A,af,aK,p,C,q,d,gx,F,dZ]
    ·rw[if_neg (by simp[H,F])];cases w:ey f.type y.bg with
     |none=>
      rw[w]at d;cases o with
      |nil=>
       refine⟨_,aX ?_,.inl rfl⟩;simp only[go_sem,kS,kA,kB,bK,k8,g,A,af,aK,p,C,q,d,gx,dZ]
      |cons x o=>
       refine⟨_,aX ?_,.inr ⟨aO (x::o),rfl⟩⟩;simp only[go_sem,kS,kA,kB,bK,k8,g,A,af,aK,p,C,q,d,gx,dZ]
     |some v=>
      rw[w]at d;have K:=T (k+1) (c+1) (o++[⟨nm,v,[]⟩]) (by omega) (by omega) (by simp;omega);have g2:=B5 (a:=o) (b:=[⟨nm,v,[]⟩]) (by simp;omega);have V:=aaz nm v;have L:lB G k8 (kS (kA nm n e i c k) (kB n e) 0 1 o)=Z (.go (kS (kA nm n e i (c+1) (k+1)) (kB n e) 0 1 (o++[⟨nm,v,[]⟩]))):=by
       rw[Wi];cases o with
       |nil=>simp only[go_sem,kS,kA,kB,bK,k8,g,A,af,aK,p,C,q,d,gx,H,F,V,mx,a0,N]
       |cons x o=>simp only[go_sem,kS,kA,kB,bK,k8,g,A,af,aK,p,C,q,d,gx,H,F,V,mx,g2,N]
      cases S:va f.type ((e.ae.drop (k+1)).filter (Cb nm)) with
      |none=>
       rw[S]at K;obtain⟨r,X,h⟩:=K;exact⟨r,by rw[bU L,X],h⟩
      |some D=>
       rw[S]at K;dsimp only at K;dsimp only[aQ];have ha:o++[⟨nm,v,[]⟩]++LM nm D=o++LM nm (v::D):=by simp[LM]
       rw[bU L,K,ha,aG,show c+1+D.length=c+(D.length+1) by omega]
  ·have P:Cb nm y=J:=by simp[Cb,p]
   rw[if_neg (by simp[P])];have i0:=T (k+1) c o (by omega) (by omega) (by omega);have L:lB G k8 (kS (kA nm n e i c k) (kB n e) 0 1 o)=Z (.go (kS (kA nm n e i c (k+1)) (kB n e) 0 1 o)):=by
    cases o with
    |nil=>simp only[go_sem,kS,kA,kB,bK,k8,g,A,af,aK,p,N]
    |cons x o=>simp only[go_sem,kS,kA,kB,bK,k8,g,A,af,aK,p,N]
   rw[bU L];exact i0
end
section
theorem Wp{n d:ah}{e:cA}{i j:Nat}{nm:z}(W:dO n.ae nm=Z j)(N:nth n.ae j=Z d)(Y:d.aq=3)(hn:fm (ay n)<=mg)(S:bW eb e.ae<=mg):∀(m k c:Nat) (o:M aE),k+m=e.ae.length->c<=k->o.length+m<=134217728->
  match va d.type ((e.ae.drop k).filter (Cb nm)) with
  |none=>∃x,cl (lB G pc) (0,kA nm n e i c k++kB n e++[aO o])=Z (0,[E 4,.str sJ,.str sJ,x])
  |some p=>cl (lB G pc) (0,kA nm n e i c k++kB n e++[aO o])=Z (1,kA nm n e i (c+p.length) e.ae.length++[.bool J]++kB n e++[aO (o++LM nm p)]):=by
 have g:e.ae.length<=mg:=by simp only[bW]at S;omega
 have T:n.ae.length<=mg:=by have:=ew n;simp only[bW]at this;omega
 have L:fm (ay d)<=mg:=by have:=dV ay (bp N);have:=ew n;omega
 have r:=aaP (l:=n.ae) (nm:=nm) T;rw[LZ W N Y]at r;simp only[N]at r;simp only[af d,au,av]at r;have mx:=mkX;intro m
 induction m with
 |zero=>
  intro k c o V _ _;obtain rfl:k=e.ae.length:=by omega
  rw[bJ];simp only[wN,va,LM,cj,aJ,aP,dx];refine aX ?_;simp only[go_sem,kA,kB,bK,pc,aB,af,aK]
 |succ m Q=>
  intro k c o V hc ho;have h:k < e.ae.length:=by omega
  have a1:=dz (l:=e.ae) (i:=k) h;have hd:=eM e.ae k _ a1;generalize e.ae[k]'h=y at a1 hd;have R:=wj h g;have H:=wj (show c < e.ae.length by omega) g;have C:=Dj a1;obtain⟨y1,y2,y3,y4⟩:=UX S (bp a1);have f:=Ta (t:=d.type) (s:=y.bg) (aH (B2 d) L) y2;simp only[ez,au,av]at f;rw[hd,iq];by_cases q:y.ak=nm
  ·have K:Cb nm y=I:=by simp[Cb,q]
   rw[if_pos K];simp only[va];by_cases B:y.op=4
   ·rw[if_pos (by simp[B])];refine⟨aO o,aX ?_⟩;cases w:ey d.type y.bg<;>rw[w]at f<;>simp only[go_sem,kA,kB,bK,pc,h,C,pK,af,aK,q,H,r,f,gx,B,dZ]
   ·by_cases F:y.op=5
    ·rw[if_pos (by simp[F])];refine⟨aO o,aX ?_⟩;cases w:ey d.type y.bg<;>rw[w]at f<;>simp only[go_sem,kA,kB,bK,pc,h,C,pK,af,aK,q,H,r,f,gx,B,F,dZ]
    ·rw[if_neg (by simp[B,F])];cases w:ey d.type y.bg with
     |none=>
      rw[w]at f;refine⟨aO o,aX ?_⟩;simp only[go_sem,kA,kB,bK,pc,h,C,pK,af,aK,q,H,r,f,gx,dZ]
     |some v=>
      rw[w]at f;have A:=Q (k+1) (c+1) (o++[⟨nm,v,[]⟩]) (by omega) (by omega) (by simp;omega);have g2:=B5 (a:=o) (b:=[⟨nm,v,[]⟩]) (by simp;omega);have g3:=aaz nm v;have D:lB G pc (0,kA nm n e i c k++kB n e++[aO o])=Z (.go (0,kA nm n e i (c+1) (k+1)++kB n e++[aO (o++[⟨nm,v,[]⟩])])):=by
       simp only[go_sem,kA,kB,bK,pc,h,C,pK,af,aK,q,H,r,f,gx,B,F,g3,mx,g2,R]
      cases P:va d.type ((e.ae.drop (k+1)).filter (Cb nm)) with
      |none=>
       rw[P]at A;obtain⟨x,U⟩:=A;exact⟨x,by rw[bU D,U]⟩
      |some p=>
       rw[P]at A;dsimp only at A;dsimp only[aQ];have X:o++[⟨nm,v,[]⟩]++LM nm p=o++LM nm (v::p):=by simp[LM]
       rw[bU D,A,X,aG,show c+1+p.length=c+(p.length+1) by omega]
  ·have K:Cb nm y=J:=by simp[Cb,q]
   rw[if_neg (by simp[K])];have i0:=Q (k+1) c o (by omega) (by omega) (by omega);have D:lB G pc (0,kA nm n e i c k++kB n e++[aO o])=Z (.go (0,kA nm n e i c (k+1)++kB n e++[aO o])):=by
    simp only[go_sem,kA,kB,bK,pc,h,C,pK,af,aK,q,R]
   rw[bU D];exact i0
def Pl(b a:M z):M aE:=(b.zip a).map λp=>⟨p.1,p.2,[]⟩
def kO(n:ah)(i:Nat):M D:=[bn n.bk,.int .i64 n.bk.length,.int .i64 (i:Int)]
theorem Wq{n:ah}{e:cA}(C:fm (ay n)<=mg)(F:bW eb e.ae<=mg)(U:Bx n):∀(m i:Nat) (o:M aE),i+m=n.bk.length->o.length<=i->
  match mI ey n.ae e.ae (n.bk.drop i) with
  |none=>∃r,cl (lB G mr) (kS (kO n i) (kB n e) 0 1 o)=Z r/\(r=(0,[E 4,.str sJ,.str sJ])\/∃x,r=(1,[E 4,.str sJ,.str sJ,x]))
  |some t=>cl (lB G mr) (kS (kO n i) (kB n e) 0 1 o)=Z (kS (kO n n.bk.length++[.bool J]) (kB n e) 2 3 (o++Pl (n.bk.drop i) t)):=by
 have S:=pG C;have Y:e.ae.length<=mg:=by simp only[bW]at F;omega
 intro m
 induction m with
 |zero=>
  intro i o V _;obtain rfl:i=n.bk.length:=by omega
  rw[bJ];simp only[mI,Pl,List.zip_nil_left,cj,aJ];refine aX ?_;cases o with
  |nil=>simp only[go_sem,kS,kO,kB,bK,mr,aB,af,aK]
  |cons x o=>simp only[go_sem,kS,kO,kB,bK,mr,aB,af,aK]
 |succ m L=>
  intro i o V X;have g:i < n.bk.length:=by omega
  have a1:=dz (l:=n.bk) (i:=i) g;have hd:=eM n.bk i _ a1;generalize n.bk[i]'g=f at a1 hd;have N:=wj g S;have q:aU (.el 1) [bn n.bk,E (i:Int)]=Z (.list 0 J [fo f]):=by rw[rR,aR,a1];rfl
  obtain⟨j,B,D,H,Q⟩:=U f (bp a1);have T:oh n.ae f=B.type:=by simp only[oh,D,H]
  have R:=LO n.ae e.ae f;rw[T]at R;rw[hd];simp only[mI,R];have P:∀r:M z,Z' (((r.length+1+1:Nat):Int)=1)=J:=λr=>by simp only[decide_eq_false_iff_not];omega
  have K:((0+1:Nat):Int)=1:=rfl;cases o with
  |nil=>
   have d:=aab (i:=i) D H Q C F e.ae.length 0 0 [] (by omega) (by omega) (by simp only[mg,aP]at *;omega);rw[br]at d;cases s:va B.type (e.ae.filter (Cb f)) with
   |none=>
    rw[s]at d;obtain⟨r,p,h⟩:=d;simp only[kS,kA,kB,af,aK,au,av,n0]at p;rcases h with rfl|⟨x,rfl⟩
    ·refine⟨_,aX ?_,.inl rfl⟩;simp only[go_sem,kS,kO,kB,bK,mr,g,q,fo,af,aK,p]
    ·refine⟨_,aX ?_,.inr ⟨x,rfl⟩⟩;simp only[go_sem,kS,kO,kB,bK,mr,g,q,fo,af,aK,p]
   |some t=>
    rw[s]at d;dsimp only at d
    match t,d with
    |[],d=>
     simp only[LM,cj,aJ,aP,dx,kS,kA,kB,af,aK,au,av,n0]at d;refine⟨_,aX ?_,.inl rfl⟩;simp only[go_sem,kS,kO,kB,bK,mr,g,q,fo,af,aK,d,dZ]
    |a::b::r,d=>
     simp only[LM,aZ,aG,bu,kS,kA,kB,af,aK,au,av,n0]at d;refine⟨_,aX ?_,.inr ⟨aO (LM f (a::b::r)),rfl⟩⟩;simp only[go_sem,kS,kO,kB,bK,mr,g,q,fo,af,aK,d,dZ,P];rfl
    |[v],d=>
     simp only[LM,aZ,cj,aG,aP,kS,kA,kB,af,aK,au,av,n0,K,bu,n1]at d;have y:lB G mr (kS (kO n i) (kB n e) 0 1 [])=Z (.go (kS (kO n (i+1)) (kB n e) 0 1 [⟨f,v,[]⟩])):=by
      simp only[go_sem,kS,kO,kB,bK,mr,g,q,fo,af,aK,d,N]
     have k:=L (i+1) [⟨f,v,[]⟩] (by omega) (by simp);cases w:mI ey n.ae e.ae (n.bk.drop (i+1)) with
     |none=>
      rw[w]at k;obtain⟨r,p,h⟩:=k;exact⟨r,by rw[bU y,p],h⟩
     |some A=>
      rw[w]at k;dsimp only at k;dsimp only[aQ];rw[bU y,k];rfl
  |cons x o=>
   have d:=Wp (i:=i) D H Q C F e.ae.length 0 0 (x::o) (by omega) (by omega) (by simp only[mg,aG]at *;omega);rw[br]at d;cases s:va B.type (e.ae.filter (Cb f)) with
   |none=>
    rw[s]at d;obtain⟨c,p⟩:=d;simp only[kA,kB,af,aK,au,av,n0]at p;refine⟨_,aX ?_,.inr ⟨c,rfl⟩⟩;simp only[go_sem,kS,kO,kB,bK,mr,g,q,fo,af,aK,p]
   |some t=>
    rw[s]at d;dsimp only at d
    match t,d with
    |[],d=>
     simp only[LM,cj,aJ,aP,dx,kA,kB,af,aK,au,av,n0]at d;refine⟨_,aX ?_,.inr ⟨aO (x::o),rfl⟩⟩;simp only[go_sem,kS,kO,kB,bK,mr,g,q,fo,af,aK,d,dZ]
    |a::b::r,d=>
     simp only[aG,bu,kA,kB,af,aK,au,av,n0]at d;refine⟨_,aX ?_,.inr ⟨aO (x::(o++LM f (a::b::r))),rfl⟩⟩;simp only[go_sem,kS,kO,kB,bK,mr,g,q,fo,af,aK,d,dZ,P]
    |[v],d=>
     simp only[LM,aZ,cj,aG,aP,kA,kB,af,aK,au,av,n0,K,bu,n1]at d;have y:lB G mr (kS (kO n i) (kB n e) 0 1 (x::o))=Z (.go (kS (kO n (i+1)) (kB n e) 0 1 (x::o++[⟨f,v,[]⟩]))):=by
      rw[Wi];simp only[go_sem,kS,kO,kB,bK,mr,g,q,fo,af,aK,d,N]
     have k:=L (i+1) (x::o++[⟨f,v,[]⟩]) (by omega) (by simp only[a_,aG,aP]at *;omega);cases w:mI ey n.ae e.ae (n.bk.drop (i+1)) with
     |none=>
      rw[w]at k;obtain⟨r,p,h⟩:=k;exact⟨r,by rw[bU y,p],h⟩
     |some A=>
      rw[w]at k;dsimp only at k;dsimp only[aQ];have W:x::o++[⟨f,v,[]⟩]++Pl (n.bk.drop (i+1)) A=x::o++Pl (f::n.bk.drop (i+1)) (v::A):=by simp[Pl]
      rw[bU y,k,W]
theorem alE{n:ah}{e:cA}{v:z}(hd:n.aq=1\/n.aq=2\/n.aq=3\/n.aq=4)(l:fm (ay n)<=mg)(o:e.bg.size<=mg)(q:bW eb e.ae<=mg)(p:n.aq=2->Bx n)(c:Gk n e=.inr v) :
  G 359 (ay n++eb e)=Z (0,if n.aq=2 then (match mI ey n.ae e.ae n.bk with
   |none=>[.str sJ,.str sJ,.list 3 J [],E 4]
   |some d=>[.str n.ak,.str sJ,aO (Pl n.bk d),E 0]) else [.str n.ak,.str (if n.aq=4 then v else sJ),.list 3 J [],E 0]):=by
 refine cN Tp (by rw[af,aK];rfl) ?_;by_cases i:n.aq=4
 ·have g:=Ta (t:=n.type) (s:=e.bg) (aH (B2 n) l) o;rw[MR]at g;have y:ey n.type e.bg=Z v:=by
   unfold Gk at c;simp only[i]at c
   split at c
   ·cases c
   ·split at c
    ·cases c
    ·split at c
     ·cases c
     ·rename_i w m;cases c
      simpa using m
  rw[y]at g;simp only[gx]at g;rw[if_neg (by omega)];simp only[go_sem,Tp,af,aK,i,g,dZ]
 ·by_cases b:n.aq=2
  ·have h:=Wq l q (p b) n.bk.length 0 [] (by omega) (by simp);rw[br]at h;rw[if_pos b];cases j:mI ey n.ae e.ae n.bk with
   |none=>
    rw[j]at h;obtain⟨r,k,h⟩:=h;simp only[kS,kO,kB,af,aK,au,av,n0,b]at k;rcases h with rfl|⟨x,rfl⟩<;>simp only[go_sem,Tp,af,aK,b,k,dZ]
   |some d=>
    rw[j]at h;dsimp only at h;rw[av]at h;cases f:Pl n.bk d with
    |nil=>
     rw[f]at h;simp only[kS,kO,kB,af,aK,au,av,n0,b]at h;dsimp only;rw[f];simp only[go_sem,Tp,af,aK,b,h,dZ];rfl
    |cons a A=>
     rw[f]at h;simp only[kS,kO,kB,af,aK,au,av,n0,b]at h;dsimp only;rw[f];simp only[go_sem,Tp,af,aK,b,h,dZ]
  ·rw[if_neg b];simp only[go_sem,Tp,af,aK,b,i,dZ]
end
section
theorem aad{s:M ah}{l:M aE}{n:ah}{e:cA}{ns:M z}(c:l.length<=mg)(k:ns.length<=mg) :
  cl (lB G Eo) (0,[aF s,aO l,aO l,E l.length,E 0]++ay n++eb e++[aO [],bn ns]) =
   Z (0,[aF s,aO l,aO l,E l.length,E l.length,.bool J]++ay n++eb e++[aO (Aa ns l),bn ns]):=by
 have h:=ei (b:=lB G Eo) l (λi t=>(0,[aF s,aO l,aO l,E l.length,E (i:Int)]++ay n++eb e++[aO t,bn ns])) (λi=>Aa ns (l.take i))
  (0,[aF s,aO l,aO l,E l.length,E l.length,.bool J]++ay n++eb e++[aO (Aa ns l),bn ns]) (by
  intro i x a;have d:=bw a;have g:=wj d c;have r:=n8 a;have j:(Aa ns (l.take i)).length<=mg:=aH X9 (aH (List.length_take_le' _ _) c);rw[Re a];generalize Aa ns (l.take i)=t at *;have f:=q99 (v:=x.ak) k;have q:=WK x.ak x.bg x.ae;have p:=YO j x;have o:=npN x.ak x.bg x.ae;cases m:nE ns x.ak<;>rw[m]at f<;>simp only[go_sem,bK,Eo,d,r,gI,aV x,af,aK,f,q,p,o,g,aJ,OB]) (by simp only[go_sem,bK,Eo,aB,bo,af,aK]) l.length 0 (by omega)
 rw[n0,bE]at h;exact h
theorem ah7{s:M ah}{n:ah}{l:M aE}{e:cA}{v:z}{mk:M ah->M aE->M cA->Int ⊕ M aE}
  (H:bW ay s<=mg) (L:bW bl l<=mg) (Q:fm (ay n)<=mg) (U:e.bg.size<=mg) (DK:∀y∈l,Kd (dk s) y) (V:∀d,Kd (dk s) ⟨n.ak,v,d⟩)
  (K:n.aq=3\/n.aq=4->ey n.type e.bg=Z v) (F:n.aq=1\/n.aq=2->v=sJ) (hd:n.aq=1\/n.aq=2\/n.aq=3\/n.aq=4) (W:(n.aq=1\/n.aq=2)->Orc 361 mk n [] e.ae) :
  G 363 ([aF s,aO l]++ay n++eb e)=Z (0,lW (rz fO mk ot s n l e v)):=by
 have R:l.length<=mg:=by simp only[bW]at L;omega
 obtain⟨b,X⟩:=QX s n.ak;have k:=akC (nm:=n.ak) H;rw[X]at k;have a:=aad (s:=s) (n:=n) (e:=e) (ns:=fO s n.ak) R (aH (QW s n.ak) H);simp only[af,aK,au,av]at a;have T:bW bl (Aa (fO s n.ak) l)<=mg:=aH (tS qH) L;have D:∀y∈Aa (fO s n.ak) l,Kd (dk s) y:=λy S=>DK y (nn.1 S).1;have P:=λ(d:M aE) (h:d.length<=mg)=>alG (x:=⟨n.ak,v,d⟩) H T h D (V d);have C:=Ta (t:=n.type) (s:=e.bg) (aH (B2 n) Q) U;rw[MR]at C;have B:∀l,aU .TU [aO l]=Z (.bool J):=λl=>rfl;refine cN O6 (by rw[af,aK];rfl) ?_;unfold rz;generalize Aa (fO s n.ak) l=w at *;by_cases m:n.aq=1\/n.aq=2
 ·rw[if_pos m];obtain⟨i,g2,g4⟩:=W m;rw[dN0]at i;have g:=F m;have q:¬n.aq=3:=by omega
  have Y:¬n.aq=4:=by omega
  cases r:mk n.ae [] e.ae with
  |inl c=>
   rw[r]at i;have K:Z' (c=0)=J:=by simpa using g2 c r
   simp only[go_sem,O6,af,aK,k,om,a,q,Y,i,lW,K,dZ]
  |inr d=>
   rw[r]at i;have j:=P d (g4 d r);simp only[aV,au,av,g]at j;dsimp only;by_cases A:n.aq=1/\n.cZ=J/\d=[]
   ·rw[if_pos A];obtain⟨f,N,rfl⟩:=A;rw[f,N]at a;simp only[go_sem,O6,af,aK,k,om,a,f,N,i,lW,aP,de0,dZ]
   ·rw[if_neg A];rcases m with f|f
    ·cases o:n.cZ
     ·cases d with
      |nil=>exact absurd ⟨f,o,rfl⟩ A
      |cons y d=>
       rw[f,o]at a;simp only[go_sem,O6,af,aK,k,om,a,f,o,i,lW,aG,M6,j,B,dZ,g]
     ·rw[f,o]at a;simp only[go_sem,O6,af,aK,k,om,a,f,o,i,lW,j,B,dZ,g]
    ·rw[f]at a;simp only[go_sem,O6,af,aK,k,om,a,f,i,lW,j,B,dZ,g]
 ·rw[if_neg m];have j:=P [] (by simp[mg]);simp only[aV,au,av]at j;rw[dN0]at j;have p:n.aq=3\/n.aq=4:=by omega
  rw[K p]at C;simp only[gx]at C;rcases p with q|q<;>rw[q]at a<;>simp only[go_sem,O6,af,aK,k,om,a,q,C,lW,j,B,dZ]
theorem aim{l:M aE}{j:Nat}{y:aE}(h:nth l j=Z y)(b:z):aU (.set 1) [aO l,E (j:Int),.str b]=Z (aO (l.set j ⟨y.ak,b,y.ae⟩)):=by
 simp only[aU,cd,aR,h,aQ,gU,aG,aP];rw[if_pos ⟨by omega,by simp⟩];show _=Z (D.list 3 J ((l.set j ⟨y.ak,b,y.ae⟩).map bl));rw[vV,aV ⟨y.ak,b,y.ae⟩,aV];rfl
theorem ain{l:M aE}{j:Nat}{y:aE}(h:nth l j=Z y)(a:M aE):aU (.set 2) [aO l,E (j:Int),aO a]=Z (aO (l.set j ⟨y.ak,y.bg,a⟩)):=by
 simp only[aU,cd,aR,h,aQ,gU,aG,aP];rw[if_pos ⟨by omega,by simp⟩];show _=Z (D.list 3 J ((l.set j ⟨y.ak,y.bg,a⟩).map bl));rw[vV,aV ⟨y.ak,y.bg,a⟩,aV];rfl
theorem afE{l:M aE}{j:Nat}{y:aE}(h:nth l j=Z y):aU (.UY 3 2 1 J) [aO l,E (j:Int)]=Z (.list 0 J [bl y]):=by
 simp only[aU,cd,aR,h,aQ];rw[aV];simp
theorem afn{l:M aE}{j:Nat}(h:j < l.length)(a:l.length<=mg):aU (.xt J) [aO l,E (j:Int),E ((j+1:Nat):Int)]=Z (aO (l.eraseIdx j)):=by
 simp only[aU,cd,aA];rw[if_pos ⟨by omega,by omega,by omega,by simp only[mg,room]at *;omega⟩,<- lM,<- pw,<- cp,<- erase_eq]
theorem G9{a:Type}{x:a}:∀(l:M a) (j:Nat),(l.set j x).eraseIdx j=l.eraseIdx j
 |[],j=>by simp
 |y::l,0=>by simp
 |y::l,j+1=>by simp[G9 l j]
theorem MB{a:Type}:∀{l:M a} {j:Nat} {y:a},nth l j=Z y->l.set j y=l
 |x::l,0,y,h=>by cases h;rfl
 |x::l,j+1,y,h=>by rw[lh,MB (l:=l) h]
theorem alF{n:ah}{l:M aE}{e:cA}{v:z}{j:Nat}{y:aE}{mk:M ah->M aE->M cA->Int ⊕ M aE}
  (P:bW bl l<=mg) (K:fm (ay n)<=mg) (N:e.bg.size<=mg) (k:nth l j=Z y)
  (C:n.aq=3\/n.aq=4->ey n.type e.bg=Z v) (hd:n.aq=1\/n.aq=2\/n.aq=3\/n.aq=4) (Q:(n.aq=1\/n.aq=2)->Orc 361 mk n y.ae e.ae) :
  G 360 ([aO l,E (j:Int)]++ay n++eb e)=Z (0,lW (A5 mk n l e v j y (if n.aq=3 then ⟨y.ak,v,y.ae⟩ else y))):=by
 have F:l.length<=mg:=by simp only[bW]at P;omega
 have D:=bw k;have f:aU (.app 3 56) [aO [],aO l]=Z (aO l):=B5 (a:=[]) (by simp only[mg,aP]at *;omega);have h:=lZ 3 J (l.map bl) j (by rw[aA];exact D);have T:=aim k v;have w:=λg=>ain k g;have o:=afE k;have L:=wj D F;have r:=Ta (t:=n.type) (s:=e.bg) (aH (B2 n) K) N;rw[MR]at r;refine cN MN (by rw[af,aK];rfl) ?_;unfold A5;by_cases i:n.aq=1\/n.aq=2
 ·rw[if_pos i,if_neg (by omega)];obtain⟨d,S,U⟩:=Q i;cases B:mk n.ae y.ae e.ae with
  |inl c=>
   rw[B]at d;have C:Z' (c=0)=J:=by simpa using S c B
   rcases i with b|b<;>simp only[go_sem,MN,af,aK,om,f,h,o,aV y,b,d,lW,C]
  |inr g=>
   rw[B]at d;dsimp only;have H:=afn (l:=l.set j ⟨y.ak,y.bg,g⟩) (j:=j) (by rw[qC];exact D) (by rw[qC];exact F);rw[G9]at H;by_cases p:n.aq=1/\n.cZ=J/\g=[]
   ·rw[if_pos p];obtain⟨b,R,rfl⟩:=p;simp only[go_sem,MN,af,aK,om,f,h,o,aV y,b,R,d,lW,w,aP,de0,L,H]
   ·rw[if_neg p];rcases i with b|b
    ·cases A:n.cZ
     ·cases g with
      |nil=>exact absurd ⟨b,A,rfl⟩ p
      |cons x g=>simp only[go_sem,MN,af,aK,om,f,h,o,aV y,b,A,d,lW,w,aG,M6]
     ·simp only[go_sem,MN,af,aK,om,f,h,o,aV y,b,A,d,lW,w]
    ·simp only[go_sem,MN,af,aK,om,f,h,o,aV y,b,d,lW,w]
 ·rw[if_neg i];have m:n.aq=3\/n.aq=4:=by omega
  rw[C m]at r;simp only[gx]at r;rcases m with q|q
  ·rw[if_pos q];simp only[go_sem,MN,af,aK,om,f,h,q,r,lW,T]
  ·rw[if_neg (by omega),MB k];simp only[go_sem,MN,af,aK,om,f,q,lW]
end
section
theorem V8{n:ah}(h:jD n.aq=J)(l:M aE)(x a:aE):u_ n l x=u_ n l a:=by simp[u_,pv,zJ,h]
theorem V7{n:ah}{l:M aE}{x:aE}{j:Nat}(h:u_ n l x=Z j):∃y,nth l j=Z y/\y.ak=n.ak:=by
 obtain⟨y,b,a⟩:=dU h;simp only[ai,decide_eq_true_eq]at a;exact⟨y,b,a.1⟩
theorem plN(e:ah)(b:Bool):aU .pl [E e.aq,.str e.ak,E e.type.aq,.str e.type.pattern,.str e.type.path,.str e.default,.bool e.given,.bool e.ft,.bool e.cZ,.bool e.fixed,E e.min,E e.max,.bool b]=Z (.bool J):=(rfl)
theorem aaE{n:ah}{e:cA}{v:z}(hd:n.aq=1\/n.aq=2\/n.aq=3\/n.aq=4)(h:Gk n e=.inr v) :
  fS 1 5 e.op=I/\(n.aq=4->ey n.type e.bg=Z v)/\(n.aq=3->e.op < 4->ey n.type e.bg=Z v)/\(n.aq=1\/n.aq=2->v=sJ):=by
 unfold Gk at h;simp only at h
 split at h
 ·cases h
 ·split at h
  ·cases h
  ·rename_i d
   split at h
   ·cases h
   ·rename_i w a;cases h;refine⟨by simpa using d,λb=>?_,λc f=>?_,λg=>?_⟩
    ·simpa [b] using a
    ·simpa [c,f] using a
    ·have c:¬n.aq=3:=by omega
     have b:¬n.aq=4:=by omega
     simp[c,b]at a;exact a.symm
theorem ady{n:ah}{e:cA}{c:Int}(h:Gk n e=.inl c):c≠0:=by
 have:=Pz n e;rw[h]at this;exact Ny this
theorem alH{s:M ah}{l:M aE}{e:cA}{mk:M ah->M aE->M cA->Int ⊕ M aE}
  (X:bW ay s<=mg) (S:bW bl l<=mg) (he:fm (eb e)<=mg) (DK:∀y∈l,Kd (dk s) y) (hki:∀n,fJ s e.ak=Z n->n.aq=2->Bx n)
  (hg:∀n,fJ s e.ak=Z n->(n.aq=1\/n.aq=2)->∀l0,(l0=[]\/∃y∈l,y.ak=n.ak/\l0=y.ae)->Orc 361 mk n l0 e.ae) :
  G 364 ([aF s,aO l]++eb e)=Z (0,lW (ur ey fO mk ot (λn l v f=>u_ n l (zi n v f)) (λn y v=>if n.aq=3 then (⟨y.ak,v,y.ae⟩:aE) else y) s l e)):=by
 have uz:l.length<=mg:=by simp only[bW]at S;omega
 have M7:bW ay (dk s)<=mg:=aH nV X;have i:=aih (l:=s) (nm:=e.ak) X;have m:=WJ e.ak;rw[qw]at he;refine cN yd (by rw[aK];rfl) ?_;cases C:dO (dk s) e.ak with
 |none=>
  have Q:fJ s e.ak=O:=by simp only[fJ,C]
  rw[C]at i;have d:=aaQ (n:=Cd) (e:=e);unfold ur;rw[Q];simp only[bn,aZ,cj,fo,af,aK,au,av]at i d;simp only[go_sem,yd,aK,m,i,plN,d,lW]
 |some j=>
  obtain⟨n,Y,hnn⟩:=dU C;have Q:fJ s e.ak=Z n:=by simp only[fJ,C,Y]
  have V0:n.ak=e.ak:=by simpa using hnn
  have A:fm (ay n)<=mg:=by have:=dV ay (bp Y);omega
  have hd:=Di (Ct _ s (aS _) n (bp Y));rw[C]at i;simp only[Y]at i;have d:=alD (n:=n) (e:=e) hd A (by omega);have r:=Pz n e;simp only[bn,aZ,cj,fo,af,aK,au,av]at i d;have q:=ag7;unfold ur;rw[Q];dsimp only;cases R:Gk n e with
  |inl c=>
   rw[R]at d r;have P6:Z' (c=0)=J:=by simpa using ady R
   rw[r];simp only[go_sem,yd,aK,m,i,q,d,Bc,P6,lW]
   done
  |inr v=>
   rw[R]at d r;dsimp only at r;obtain⟨p1,p2,p3,p4⟩:=aaE hd R;have b:=alE hd A (by omega) (by omega) (hki n Q) R;have T:∀ks,Kd (dk s) ⟨n.ak,v,ks⟩:=λks=>⟨j,by rw[V0];exact C⟩
   have R2:=hg n Q;have kL:1<=e.op/\e.op<=5:=by simpa [fS] using p1
   have w:∀(K:aE) (f:M z),G 359 (ay n++eb e)=Z (0,[.str K.ak,.str K.bg,aO K.ae,E 0])->uk ey n e=.inr (v,f)->u_ n l (zi n v f)=u_ n l K->K.ae.length<=mg->
     eZ G yd.t 0 ([aF s,aO l]++eb e)=Z (0,lW (match uk ey n e with
      | .inl c=>.inl c
      | .inr (v,f)=>
       let k:=u_ n l (zi n v f)
       if e.op=3/\k.isSome=I then .inl 5
       else if e.op=4/\k=O then .inl 6
       else if e.op=4\/e.op=5 then .inr (s6 l k)
       else if e.op=2 then rz fO mk ot s n (s6 l k) e v
       else match k with
        |none=>rz fO mk ot s n l e v
        |some j=>match nth l j with
         |none=>.inr l
         |some y=>A5 mk n l e v j y (if n.aq=3 then (⟨y.ak,v,y.ae⟩:aE) else y))):=by
    clear b;intro K f b hck hix hK;have o:=alu (n:=n) (l:=l) (x:=K) A S hK;rw[hck];dsimp only;rw[hix];simp only[bn,af,aV,aK,au,av]at b o;cases hi:u_ n l K with
    |none=>
     rw[hi]at o;by_cases H:e.op=4
     ·rw[H]at d b;simp only[go_sem,yd,aK,m,i,q,d,Bc,b,o,ko,qG,H,lW]
      try simp[lW]
     by_cases F:e.op=5
     ·rw[F]at d b;simp only[go_sem,yd,aK,m,i,q,d,Bc,b,o,ko,qG,F,lW]
      try simp[lW,s6]
     have g:=ah7 (n:=n) (e:=e) (v:=v) X S A (by omega) DK T (λh=>h.elim (λU=>p3 U (by omega)) p2) p4 hd (λh=>R2 h [] (.inl rfl));obtain⟨ra,rb,p⟩:=zq (rz fO mk ot s n l e v);rw[p]at g;simp only[bn,af,aK,au,av]at g;by_cases L:e.op=3
     ·rw[L]at d b g;simp only[go_sem,yd,aK,m,i,q,d,Bc,b,o,ko,qG,L,g];simp[p]
     by_cases P:e.op=1
     ·rw[P]at d b g;simp only[go_sem,yd,aK,m,i,q,d,Bc,b,o,ko,qG,P,g];simp[p]
     ·have N:e.op=2:=by omega
      rw[N]at d b g;simp only[go_sem,yd,aK,m,i,q,d,Bc,b,o,ko,qG,N,g];simp[s6,p]
    |some k=>
     rw[hi]at o;obtain⟨y,B,Sa⟩:=V7 hi;have su:=bw B;have W:=ZT k;have D:=ge0 k;have hw:=wj su uz;have b1:aU (.app 3 56) [aO [],aO l]=Z (aO l):=B5 (a:=[]) (by simp only[mg,aP]at *;omega);have b2:=afn su uz;by_cases L:e.op=3
     ·rw[L]at d b;simp only[go_sem,yd,aK,m,i,q,d,Bc,b,o,ko,qG,L,D,lW]
      try simp[lW]
     by_cases H:e.op=4
     ·rw[H]at d b;simp only[go_sem,yd,aK,m,i,q,d,Bc,b,o,ko,qG,H,W,D,om,b1,hw,b2,lW]
      try simp[lW,s6]
     by_cases F:e.op=5
     ·rw[F]at d b;simp only[go_sem,yd,aK,m,i,q,d,Bc,b,o,ko,qG,F,W,D,om,b1,hw,b2,lW]
      try simp[lW,s6]
     by_cases N:e.op=2
     ·have hcz:bW bl (l.eraseIdx k)<=mg:=aH (tS (fG l k)) S;have g:=ah7 (n:=n) (e:=e) (v:=v) X hcz A (by omega) (λy B=>DK y ((fG l k).subset B)) T (λh=>h.elim (λU=>p3 U (by omega)) p2) p4 hd (λh=>R2 h [] (.inl rfl));obtain⟨ra,rb,p⟩:=zq (rz fO mk ot s n (l.eraseIdx k) e v);rw[p]at g;simp only[bn,af,aK,au,av]at g;have g6:aU .TU [ra,rb]=Z (.bool J):=by
       cases hA:rz fO mk ot s n (l.eraseIdx k) e v<;>rw[hA]at p<;>cases p<;>rfl
      rw[N]at d b g;simp only[go_sem,yd,aK,m,i,q,d,Bc,b,o,ko,qG,N,W,D,om,b1,hw,b2,g,g6];simp[s6,p]
     ·have P:e.op=1:=by omega
      have g:=alF (n:=n) (e:=e) (v:=v) S A (by omega) B (λh=>h.elim (λU=>p3 U (by omega)) p2) hd (λh=>R2 h y.ae (.inr ⟨y,bp B,Sa,rfl⟩));obtain⟨ra,rb,p⟩:=zq (A5 mk n l e v k y (if n.aq=3 then ⟨y.ak,v,y.ae⟩ else y));rw[p]at g;simp only[bn,af,aK,au,av]at g;rw[P]at d b g;simp only[go_sem,yd,aK,m,i,q,d,Bc,b,o,ko,qG,P,W,D,g];simp[B,p]
   by_cases V:n.aq=2
   ·have hv:=p4 (.inr V);subst hv;rw[if_pos V]at b r;cases u6:mI ey n.ae e.ae n.bk with
    |none=>
     rw[u6]at b r;rw[r];simp only[bn,af,aK,au,av]at b;simp only[go_sem,yd,aK,m,i,q,d,Bc,b,lW]
    |some f=>
     rw[u6]at b r;refine w (zi n sJ f) f b r rfl ?_;have h1:=(vh u6).1;have V:=pG A;simp only[zi,aA,List.length_zip];omega
   ·rw[if_neg V]at b r;refine w ⟨n.ak,if n.aq=4 then v else sJ,[]⟩ [] b r ?_ (by simp);by_cases h4:n.aq=4
    ·simp[zi,h4]
    ·exact V8 (by simp[jD,V,h4]) l _ _
end
section
theorem aeo(m:Nat):Mk 361 (xn ey fO) m:=by
 induction m with
 |zero=>intro s l es h;omega
 |succ m ZM=>
  intro s l es hz T j H U f;have t:es.length<=mg:=by simp only[bW,zE]at j;omega
  have loop:∀r i l,i+r=es.length->bW bl l+zE (es.drop i)<=mg->Wl (m+1) s l->∃o,cl (lB G En) (0,[aF s,aO l,gQ es,E es.length,.int .i64 (i:Int)])=Z o/\match wQ (Ov ey fO m) s l (es.drop i) with
    | .inl c=>c≠0/\o=(0,[.list 3 J [],E c])
    | .inr l'=>o=(1,[aF s,aO l',gQ es,E es.length,E es.length,.bool J]):=by
   intro r
   induction r with
   |zero=>
    intro i l hi _ _;obtain rfl:i=es.length:=by omega
    rw[bJ];refine⟨_,aX ?_,rfl⟩;simp only[go_sem,bK,En,aB]
   |succ r ih=>
    intro i l hi j f;have A:i < es.length:=by omega
    have a1:=dz (l:=es) (i:=i) A;have hd:=eM es i _ a1;generalize es[i]'A=e at a1 hd;have F:=wj A t;have W:=Dj a1;have Zw:bW bl l<=mg:=by omega
    rw[hd]at j ⊢;have K:fm (eb e)<=mg:=by simp only[zE,eS]at j;omega
    have X:∀n,fJ s e.ak=Z n->(n.aq=1\/n.aq=2)->∀a,(a=[]\/∃y∈l,y.ak=n.ak/\a=y.ae)->Orc 361 (xn ey fO m) n a e.ae:=
     λn d q a B=>WX ZM (λs l es h w=>(sF m s l es h w).1) bQ (aby (bp a1) hz) T j H U f d q B
    have p:=alH (mk:=xn ey fO m) T Zw K f.kd (λn d=>by obtain⟨k,b1,b2,b3,Q⟩:=fe d;exact (U n Q).1) X;have R:∀n,fJ s e.ak=Z n->(n.aq=1\/n.aq=2)->∀a,(a=[]\/∃y∈l,y.ak=n.ak/\a=y.ae)->∀c,km ey fO m n.ae a e.ae=.inl c->c≠0:=λn d q a B c h=>by
     obtain⟨_,_,_,_,Q⟩:=fe d;exact (X n d q a B).2.1 c (by rw[(sF m n.ae a e.ae ((H n Q).2 q) (Wm f d q B)).1];exact h)
    have S:∀c,xW ey fO m s l e=.inl c->c≠0:=λc=>WV (oN:=fO) R;have P:=Ow (sF (can:=ey) m) H f e;have Y:=λl' h=>Ox (oN:=fO) (mk:=km ey fO m) (λs l es l' h=>qn m h) (s:=s) (l:=l) (l':=l') (e:=e) h;simp only[aK,au,av]at p;rw[wQ,P.1];have N:xW ey fO m s l e=ur ey fO (km ey fO m) kU zd (λn y v=>(⟨n.ak,v,y.ae⟩:aE)) s l e:=rfl;have L:Ov ey fO m s l e=ur ey fO (xn ey fO m) ot (λn l v D=>u_ n l (zi n v D)) (λn y v=>if n.aq=3 then (⟨y.ak,v,y.ae⟩:aE) else y) s l e:=rfl;rw[<- L,P.1]at p;cases g:xW ey fO m s l e with
    |inl c=>
     rw[g]at p;have P6:Z' (c=0)=J:=by simpa using S c g
     refine⟨_,aX ?_,S c g,rfl⟩;simp only[go_sem,bK,En,A,W,pK,aK e,p,lW,P6]
    |inr C=>
     rw[g]at p;have ZH:=Y C (by rw[<- N];exact g);obtain⟨o,x,b⟩:=ih (i+1) C (by omega) (by simp only[zE,eS]at *;omega) (P.2 C g).1;refine⟨o,(bU ?_).trans x,b⟩;simp only[go_sem,bK,En,A,W,pK,aK e,p,lW,F]
  obtain⟨o,x,b⟩:=loop es.length 0 l (by omega) (by simpa using j) f;rw[n0]at x;rw[br]at b;have N:xn ey fO (m+1) s l es=wQ (Ov ey fO m) s l es:=rfl;rw[N];cases V:wQ (Ov ey fO m) s l es with
  |inl c=>
   rw[V]at b;obtain⟨h3,rfl⟩:=b;refine⟨cN abc rfl ?_,λc' h=>by cases h;exact h3⟩;simp only[go_sem,abc,x,lW]
  |inr l'=>
   rw[V]at b;dsimp only at b;subst b;refine⟨cN abc rfl ?_,λc' h=>by cases h⟩;simp only[go_sem,abc,x,lW]
end
section
theorem akD(a:Nat):∀l:M aE,aw l < a->bW bl l<=mg->G 1 [aO l]=Z (0,[aO l]):=by
 induction a with
 |zero=>intro l h;omega
 |succ a k=>
  intro l v e;have d:l.length<=mg:=by simp only[bW]at e;omega
  have f:=ei (b:=lB G ZY) l (λi t=>(0,[aO l,E l.length,E (i:Int),aO t])) (λi=>l.take i) (0,[aO l,E l.length,E l.length,.bool J,aO l]) (by
   intro i x c;have g:=bw c;have m:=wj g d;have r:=n8 c;obtain⟨s,j⟩:=tt e (bp c);have q:=k x.ae (by have:=ba (bp c);have:=aE.er x;omega) j;have p:=WK x.ak x.bg x.ae;have o:=YO (l:=l.take i) (by rw[bj];omega) x;have n:=aaz x.ak x.bg;rw[cB l i x c];generalize l.take i=t at *;simp only[go_sem,bK,ZY,g,m,r,gI,aV x,q,p,o,n]) (by simp only[go_sem,bK,ZY,aB,bo]) l.length 0 (by omega)
  rw[n0,bE]at f;refine cN t1 rfl ?_;simp only[go_sem,t1,om,f]
theorem q1{l:M aE}(a:bW bl l<=mg):G 1 [aO l]=Z (0,[aO l]):=akD _ l (aS _) a
theorem alh(a:Nat):∀l:M aE,aw l < a->bW bl l<=mg->G 2 [aO l]=Z (0,[aO l]):=by
 induction a with
 |zero=>intro l h;omega
 |succ a k=>
  intro l v e;have d:l.length<=mg:=by simp only[bW]at e;omega
  have f:=ei (b:=lB G Z8) l (λi t=>(0,[aO l,E (i:Int),aO t])) (λi=>l.take i) (0,[aO l,E l.length,.bool J,aO l]) (by
   intro i x c;have g:=bw c;have m:=wj g d;have r:=n8 c;obtain⟨s,j⟩:=tt e (bp c);have q:=k x.ae (by have:=ba (bp c);have:=aE.er x;omega) j;have p:=WK x.ak x.bg x.ae;have o:=YO (l:=l.take i) (by rw[bj];omega) x;have n:=aaz x.ak x.bg;rw[cB l i x c];generalize l.take i=t at *;simp only[go_sem,bK,Z8,g,m,r,aV x,q,p,o,n]) (by simp only[go_sem,bK,Z8,aB,bo]) l.length 0 (by omega)
  rw[n0,bE]at f;refine cN t2 rfl ?_;simp only[go_sem,t2,om,f]
theorem q2{l:M aE}(a:bW bl l<=mg):G 2 [aO l]=Z (0,[aO l]):=alh _ l (aS _) a
noncomputable def Oj(s:M ah)(l:M aE)(es:M cA):M aE×Int:=if zg s l=I then (match km ey fO (aw es+1) s l es with
  | .inl c=>(l,c)
  | .inr o=>if zg s o=I then (o,0) else (l,8)) else (l,1)
theorem WI{s:M ah}{l:M aE}{es:M cA}:bW bl (Oj s l es).1<=bW bl l+zE es:=by
 unfold Oj;split
 ·split
  ·exact uB _ _
  ·rename_i o h;split
   ·exact qn _ h
   ·exact uB _ _
 ·exact uB _ _
theorem Ql{s:M ah}{l:M aE}(h:zg s l=I)(m:Nat):Hs fO m s/\Sok m s/\Wl m s l:=by
 have a:=h;unfold zg vd DQ at a;simp only[ai]at a;obtain⟨N,b⟩:=ZR h;exact⟨abn m a.1.2,Uc m a.1.2,Ue m N s l b⟩
section
variable {s:M ah} {l:M aE} {es:M cA} (hs:bW ay s<=mg) (hl:bW bl l+zE es<=mg)
include hs hl
theorem ah6:G 355 [aF s,aO l,gQ es]=Z (0,[aO (Oj s l es).1,E (Oj s l es).2]):=by
 have j:bW bl l<=mg:=by omega
 have b:=W7 hs j;have g:=q2 j;refine cN abb rfl ?_;unfold Oj;cases f:zg s l with
 |false=>
  rw[f]at b;simp only[go_sem,abb,b,g]
 |true=>
  rw[f]at b;obtain⟨q,p,n⟩:=Ql f (aw es+1);obtain⟨a,m⟩:=Xa _ s l es (aS _) hs hl q p n;cases d:km ey fO (aw es+1) s l es with
  |inl c=>
   have k:Z' (c=0)=J:=by simpa using m c d
   rw[d]at a;simp only[lW]at a;simp only[go_sem,abb,b,g,a,k]
  |inr o=>
   have h:bW bl o<=mg:=aH (qn _ d) hl;have i:=W7 hs h;have r:=q2 h;rw[d]at a;simp only[lW]at a;dsimp only;cases e:zg s o<;>rw[e]at i<;>simp only[go_sem,abb,b,g,a,i,r]
theorem ah8:G 365 [aF s,aO l,gQ es]=Z (0,[aO (Oj s l es).1,E (Oj s l es).2]):=by
 have q:bW bl l<=mg:=by omega
 have b:=W_ hs q;have g:=q1 q;have n:∀(l:M aE) (c:Int),aU .TU [aO l,E c]=Z (.bool J):=λ_ _=>rfl;refine cN abd rfl ?_;unfold Oj;cases f:zg s l with
 |false=>
  rw[f]at b;simp only[go_sem,abd,b,g]
 |true=>
  rw[f]at b;obtain⟨k,t,j⟩:=Ql f (aw es+1);obtain⟨a,i⟩:=aeo _ s l es (aS _) hs hl k t j;rw[(sF _ s l es k j).1]at a i;cases d:km ey fO (aw es+1) s l es with
  |inl c=>
   have r:Z' (c=0)=J:=by simpa using i c d
   rw[d]at a;simp only[lW]at a;have m:=n [] c;rw[dN0]at m;simp only[go_sem,abd,b,g,a,r,m]
  |inr o=>
   have h:bW bl o<=mg:=aH (qn _ d) hl;have p:=W_ hs h;have v:=q1 h;rw[d]at a;simp only[lW]at a;dsimp only;cases e:zg s o<;>rw[e]at p<;>simp only[go_sem,abd,b,g,a,p,v,n]
end
theorem IB(op:Int)(a:Nat):∀l:M aE,aw l < a->bW eb (l.map (ni op))=bW bl l:=by
 induction a with
 |zero=>intro l h;omega
 |succ a b=>
  intro l h;cases l with
  |nil=>rfl
  |cons x l=>
   have e:=aE.er x;simp only[bG]at h;have d:=b l (by omega);have c:=b x.ae (by omega);rw[aZ,eS,eS,d,qw,ij,IA];simp only[c]
noncomputable def QH(s:M ah)(a b:M aE):M aE×Int:=if zg s b=I then Oj s a (b.map (ni 1)) else (a,1)
theorem ac6{s:M ah}{a b:M aE}:bW bl (QH s a b).1<=bW bl a+21 * bW bl b:=by
 unfold QH;split
 ·rw[<- IB 1 _ b (aS _)];exact WI
 ·exact uB _ _
section
variable {s:M ah} {a b:M aE} (hs:bW ay s<=mg) (hl:bW bl a+21 * bW bl b<=mg)
include hs hl
theorem alB:G 356 [aF s,aO a,aO b]=Z (0,[aO (QH s a b).1,E (QH s a b).2]):=by
 have c:bW bl b<=mg:=by omega
 have f:bW bl a<=mg:=by omega
 have d:=W7 hs c;have i:=q2 f;have h:=alv (op:=1) c;have g:=ah6 (l:=a) (es:=b.map (ni 1)) hs (by rw[zE,IB 1 _ b (aS _)];exact hl);refine cN aiT rfl ?_;unfold QH;cases e:zg s b<;>rw[e]at d<;>simp only[go_sem,aiT,d,i,h,g,qG]
theorem alI:G 366 [aF s,aO a,aO b]=Z (0,[aO (QH s a b).1,E (QH s a b).2]):=by
 have c:bW bl b<=mg:=by omega
 have f:bW bl a<=mg:=by omega
 have d:=W_ hs c;have i:=q1 f;have h:=alC (op:=1) c;have g:=ah8 (l:=a) (es:=b.map (ni 1)) hs (by rw[zE,IB 1 _ b (aS _)];exact hl);refine cN aiW rfl ?_;unfold QH;cases e:zg s b<;>rw[e]at d<;>simp only[go_sem,aiW,d,i,h,g,qG]
end
end
theorem ND{B:Nat}(m:Nat):∀es:M (M D),aw es < m->eJ B 3 es->∃xs:M cA,es=xs.map eb:=by
 induction m with
 |zero=>intro es h;omega
 |succ m j=>
  intro es l ok;refine pB λe b=>?_;obtain⟨g,f,d,a,h,_,_,_,_,c⟩:=oL (ok.mem e b);obtain⟨i,rfl⟩:=j a (by have:=iK (k:=4) (fl:=J) (xs:=a) b (by rw[h];simp only[aI,true_or,or_true]);omega) c;exact⟨⟨g,f,d,i⟩,by rw[h,aK]⟩
theorem UH{B:Nat}{es:M (M D)}(ok:eJ B 3 es):∃a:M cA,es=a.map eb:=ND _ es (aS _) ok
section
open Go.RowKit
noncomputable section
def acS:KF:=by refine (?f:kx 368=?t->KF) ?p;exact λ_=>?t;conv=>lhs;reduce
theorem ahl:okF Tryz.prog num 368 acS=I:=by kernel_rfl
def acR:KF:=by refine (?f:kx 367=?t->KF) ?p;exact λ_=>?t;conv=>lhs;reduce
theorem ahk:okF Tryz.prog num 367 acR=I:=by kernel_rfl
end
end
end Go.Proofs.YtgfcijiikgjbcaaGreatDoor
