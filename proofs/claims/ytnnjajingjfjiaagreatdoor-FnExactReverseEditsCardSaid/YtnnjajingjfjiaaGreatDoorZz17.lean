/- Part of the proof: a machine over plain data, its proof, the functions of the program run on symbols, what they answer. Condition: none. -/
import Derived.Test.YtnnjajingjfjiaaGreatDoorZz14
set_option linter.unusedVariables false
set_option linter.unusedSimpArgs false
open Bool renaming and_eq_true->ai,false_eq_true->aF,not_eq_true'->cq,false_and->cP,eq_iff_iff->cR,true_and->cW,or_eq_true->da,false_ne_true->dq,eq_false_iff->ej,not_not->fM,and_true->fZ,not_false->ga,false_or->gA,or_assoc->hY,and_assoc->iy,and_self->jm,or_false->kc,and_false->kH,or_true->ll,not_true->lJ,true_or->mQ,true->I,false->J
open ByteArray renaming size_append->jr,size->og,data_append->oO,ext->tq
open Int renaming toNat_natCast->bW,lt_irrefl->fy,neg_neg->vd
open List renaming cons_append->au,nil_append->av,length_map->ay,length_cons->aH,length_nil->aJ,append_nil->aK,mem_cons->aL,take_length->aR,take_zero->aV,map_cons->aW,length_take->aY,mem_append->ba,length_append->bh,sizeOf_lt_of_mem->bj,drop_zero->bm,replicate->bn,all_eq_true->bw,append_assoc->bB,map_nil->bD,drop_length->bE,take_append_drop->bI,map_append->bN,mem_cons_of_mem->bP,mem_cons_self->bQ,mem_map->cj,take_succ_cons->cn,range->cB,nodup_cons->cC,length_eq_zero_iff->cH,cons_ne_nil->cM,mem_singleton->cT,all_cons->cX,length_eq_one_iff->dP,not_mem_nil->ei,ext_getElem?->eE,map_id'->eR,drop_of_length_le->fN,replicate_succ->gE,isEmpty_nil->g_,isEmpty_cons->iG,take_of_length_le->je,getElem?_set->jT,map_take->kg,any_eq_true->kI,any_cons->nB,length_filter_le->px,length_set->rz,map_const'->rB,map_set->rK,singleton_append->ye,foldl_nil->zt,getElem?_append->zu
open List.cons renaming sizeOf_spec->bJ,injEq->cl
open Nat renaming lt_irrefl->aC,le_refl->aD,le_trans->aG,lt_succ_self->aP,zero_add->bo,add_zero->cd,add_assoc->cQ,lt_or_ge->dD,zero_le->jt,pow_succ->xO
open Option renaming map_eq_some_iff->ak,map_some->aQ,isSome_iff_exists->cD,isSome_some->gT,getD_some->jo,some->Z,none->O
open Option.some renaming injEq->ae,inj->ey
open SizeOf renaming sizeOf->aw
open UInt8 renaming ofNat->dz
open Decidable renaming decide->Z'
namespace Go.Proofs.YtnnjajingjfjiaaGreatDoor
set_option maxRecDepth 100000
set_option maxHeartbeats 4000000
section
def ix(l:M z)(v:z):u Nat:=ml (λe=>Z' (v=e)) l 0
theorem wh{a:Type}{p:a->Bool}:∀{l:M a} {k:Nat},(ml p l k).isSome=l.any p
 |[],_=>rfl
 |e::l,k=>by
  simp only[ml,nB];by_cases h:p e=I
  ·simp[h]
  ·simp[h,wh (l:=l)]
def nS(l:M z)(v:z):Bool:=l.any λe=>Z' (v=e)
theorem Yo{l:M z}{v:z}:nS l v=I↔v∈l:=by simp[nS]
theorem SV{l:M z}{v:z}:nS l v=J↔v∉l:=by rw[<- Yo];simp
theorem ae0(l:M z)(v:z):(ix l v).isSome=nS l v:=by rw[ix,wh,nS]
theorem q96{l:M z}{v:z}(f:l.length<=mg):G 96 [bu l,.str v]=Z (0,[E (ij (ix l v))]):=by
 refine ct t96 rfl ?_;simp only[go_sem,t96];have c:=qP (b:=lB G Tx) l (λi=>(0,[bu l,.str v,E l.length,E (i:Int)])) (λe=>Z' (v=e)) (1,[bu l,.str v,E l.length,E l.length,.bool J]) (λi e=>(0,[E (i:Int)])) (by
  intro i e a;have d:=bp a;have k:=wj d f;simp only[go_sem,bG,Tx,d,aX,a,fe]
  repeat' (first|with_reducible rfl|((first|rw[gk]|rw[gp]|rw[gj]|rw[gm]);split<;>simp only[go_sem, *]))
  all_goals simp_all) (by simp only[go_sem,bG,Tx,aC])
 rw[n0]at c;rw[ay,c];unfold ix;cases g:ml (λe=>Z' (v=e)) l 0 with
 |none=>simp only[go_sem,ij]
 |some j=>
  obtain⟨e,h,m⟩:=du g;simp only[go_sem,h,ij]
theorem afr(o:u Nat):Z' (0<=ij o)=o.isSome:=by
 cases o with
 |none=>rfl
 |some j=>simp[ij]
theorem q99{l:M z}{v:z}(a:l.length<=mg):G 99 [bu l,.str v]=Z (0,[.bool (nS l v)]):=by
 refine ct t99 rfl ?_;simp only[go_sem,t99,q96 a,afr,ae0]
theorem acy(k:Nat)(a:Bool)(es:M (M D))(n:Nat)(h:n<=es.length):aZ (.cut I) [.list k a es,E 0,E (n:Int)]=Z (.list k a (es.take n)):=by
 simp[aZ,dI,h]
def um(l:M z):Bool:=allI (λi e=>!nS (l.take i) e) 0 l
theorem Gx:∀(m:M z) (l:M z) ,allI (λi e=>!nS ((m++l).take i) e) m.length l=I↔l.Nodup/\∀e∈l,e∉m
 |m,[]=>by simp[allI]
 |m,e::l=>by
  have c:=Gx (m++[e]) l;rw[bB,bh]at c;simp only[allI,ai,cC];simp only[aH,aJ,ye,bo]at c;rw[c];simp only[List.take_left',cq,SV,ba,aL,ei,or_false,not_or];refine⟨λ⟨f,d,b⟩=>⟨⟨λh=>(b e h).2 rfl,d⟩,λx a=>?_⟩,λ⟨⟨f,d⟩,b⟩=>⟨b e (.inl rfl),d,λx a=>⟨b x (.inr a),λh=>f (h▸a)⟩⟩⟩;rcases a with rfl|a
  ·exact f
  ·exact (b x a).1
theorem qJ(l:M z):um l=I↔l.Nodup:=by
 have:=Gx [] l
 simpa [um] using this
theorem VV{l:M z}(g:l.length<=mg):G 257 [bu l]=Z (0,[.bool (um l)]):=by
 refine ct t257 rfl ?_;simp only[go_sem,t257];have d:=nP (b:=lB G K2) l (λi=>(0,[bu l,E l.length,E (i:Int)])) (λi e=>!nS (l.take i) e) (1,[bu l,E l.length,E l.length,.bool J]) (0,[.bool J]) (by
  intro i e c;have f:=bp c;have j:=wj f g;have h:aZ (.cut I) [bu l,E 0,E (i:Int)]=Z (bu (l.take i)):=by
   rw[acy _ _ _ _ (by rw[ay];omega),<- kg]
  have a:=q99 (l:=l.take i) (v:=e) (by rw[aY];omega);simp only[go_sem,bG,K2,f,aX,c,fe,h,a]
  repeat' (first|with_reducible rfl|((first|rw[gk]|rw[gp]|rw[gj]|rw[gm]);split<;>simp only[go_sem, *]))
  all_goals simp_all) (by simp only[go_sem,bG,K2,aC]) l.length 0 (by omega)
 rw[n0]at d;rw[ay,d];rw[show um l=allI (λi e=>!nS (l.take i) e) 0 (l.drop 0) from rfl];cases allI (λi e=>!nS (l.take i) e) 0 (l.drop 0)<;>simp only[go_sem]
theorem agf{l:M z}(h:bK fe l<=mg):G 271 [bu l]=Z (0,[.bool (l.all isName)]):=by
 refine ct t271 rfl ?_;simp only[go_sem,t271];have a:l.length<=mg:=by simp only[bK]at h;omega
 have f:=nb (b:=lB G K8) l (λi=>(0,[bu l,E l.length,E (i:Int)])) isName (1,[bu l,E l.length,E l.length,.bool J]) (0,[.bool J]) (by
  intro i e c;have g:=bp c;have j:=wj g a;have d:=acK (s:=e) (by have:=Mb l (bc c);omega);simp only[go_sem,bG,K8,g,aX,c,fe,d]
  repeat' (first|with_reducible rfl|((first|rw[gk]|rw[gp]|rw[gj]|rw[gm]);split<;>simp only[go_sem, *]))
  all_goals simp_all) (by simp only[go_sem,bG,K8,aC])
 rw[n0]at f;rw[ay,f];cases l.all isName<;>simp only[go_sem]
end
section
theorem SM{o f n:Type}{b:f->u (Sg f n)}(es:M o)(mk:Nat->f)(p:Nat->o->Bool)(a g:n)
  (q:∀i e,nth es i=Z e->(∀j x,j < i->nth es j=Z x->p j x=I)->b (mk i)=Z (if p i e=I then .go (mk (i+1)) else .out g))
  (t:b (mk es.length)=Z (.out a)):∀m i,i+m=es.length->(∀j x,j < i->nth es j=Z x->p j x=I)->cm b (mk i)=Z (if allI p i (es.drop i)=I then a else g)
 |0,i,h,c=>by
  obtain rfl:i=es.length:=by omega
  rw[bg t,bE];rfl
 |m+1,i,h,r=>by
  have a1:=cI (l:=es) (i:=i) (by omega);have d:=q i _ a1 r;have v:allI p i (es.drop i)=(p i (es[i]'(by omega)) && allI p (i+1) (es.drop (i+1))):=by rw[eg es i _ a1];rfl
  rw[v];by_cases c:p i (es[i]'(by omega))=I
  ·rw[if_pos c]at d;rw[bY d,c,cW];refine SM es mk p a g q t m (i+1) (by omega) λj x w k=>?_;rcases dD j i with s|s
   ·exact r j x s k
   ·obtain rfl:j=i:=by omega
    rw[a1]at k;cases k;exact c
  ·rw[if_neg c]at d;rw[bg d,ej.2 c,cP,if_neg dq]
theorem NG{g c f:Type}{b:c->u (Sg c f)}(es:M g)(mk:Nat->c)(p:Nat->g->Bool)(a d:f)
  (k:∀i e,nth es i=Z e->(∀j x,j < i->nth es j=Z x->p j x=I)->b (mk i)=Z (if p i e=I then .go (mk (i+1)) else .out d))
  (l:b (mk es.length)=Z (.out a)):cm b (mk 0)=Z (if allI p 0 es=I then a else d):=
 SM es mk p a d k l es.length 0 (by omega) λj x h _=>by omega
def apart(l:M j6)(i:Nat)(e:j6):Bool:=match i with
 |0=>I
 |i+1=>match nth l i with
  |some p=>Z' (p.hi+1 < e.lo)
  |none=>I
def Pz(l:M j6)(i:Nat)(e:j6):Bool:=Z' (e.lo<=e.hi) && (Z' (-1000000000<=e.lo) && (Z' (e.hi<=1000000000) && apart l i e))
def Et(l:M j6):Bool:=allI (Pz l) 0 l && Z' (l.length<=6)
theorem uW{l:M j6}{i:Nat}{e:j6}:Pz l i e=I↔e.lo<=e.hi/\-1000000000<=e.lo/\e.hi<=1000000000/\apart l i e=I:=by
 simp[Pz]
theorem xE{l:M j6}{i:Nat}{e:j6}(h:¬(e.lo<=e.hi/\-1000000000<=e.lo/\e.hi<=1000000000)):Pz l i e=J:=by
 rw[ej];intro a;have:=uW.1 a;exact h ⟨this.1,this.2.1,this.2.2.1⟩
theorem le6(n:Nat):Z' ((n:Int)<=6)=Z' (n<=6):=by
 rw[cR];simp
 omega
theorem an3{l:M j6}(j:l.length<=mg):G 215 [fU l]=Z (0,[.bool (Et l)]):=by
 refine ct t215 rfl ?_;simp only[go_sem,t215];have k:=NG (b:=lB G KQ) l (λi=>(0,[fU l,E (i:Int)])) (Pz l) (1,[fU l,E l.length,.bool J]) (0,[.bool J]) (by
  intro i e a t;have m:=bp a;have h:=wj m j;simp only[go_sem,bG,KQ,m,aX,a,k9,ay];by_cases c:e.hi < e.lo
  ·simp only[go_sem,c,xE (l:=l) (i:=i) (e:=e) (by omega)]
  by_cases f:e.lo < -1000000000
  ·simp only[go_sem,c,f,xE (l:=l) (i:=i) (e:=e) (by omega),aX,a,k9]
  by_cases g:1000000000 < e.hi
  ·simp only[go_sem,c,f,g,xE (l:=l) (i:=i) (e:=e) (by omega),aX,a,k9]
  cases i with
  |zero=>
   have d:Pz l 0 e=I:=uW.2 ⟨by omega,by omega,by omega,rfl⟩;simp only[go_sem,c,f,g,d,aX,a,k9,n0,fy];simp only[go_sem,n0]at h;rw[h]
  |succ i=>
   have a1:=cI (l:=l) (i:=i) (by omega);have s:=uW.1 (t i _ (by omega) a1);generalize l[i]'(by omega)=p at a1 s;have r:IntKind.i64.wrap (((i+1:Nat):Int) - 1)=(i:Int):=by rw[wrap_i64 (by simp only[mg]at j;omega)];omega
   have q:IntKind.i64.wrap (p.hi+1)=p.hi+1:=wrap_i64 (by omega);have o:(0:Int) < ((i+1:Nat):Int):=by omega
   by_cases n:e.lo<=p.hi+1
   ·have d:Pz l (i+1) e=J:=by
     simp only[Pz,apart,a1];have:Z' (p.hi+1 < e.lo)=J:=by simp;omega
     simp[this]
    simp only[go_sem,c,f,g,n,d,aX,a,k9,r,q,o,a1]
   ·have d:Pz l (i+1) e=I:=uW.2 ⟨by omega,by omega,by omega,by simp only[apart,a1];simp;omega⟩;simp only[go_sem,c,f,g,n,d,aX,a,k9,r,q,o,a1,h]) (by simp only[go_sem,bG,KQ,aC,ay])
 rw[n0]at k;rw[k];unfold Et;cases allI (Pz l) 0 l with
 |false=>simp only[go_sem]
 |true=>simp only[go_sem,ay,le6]
theorem ak8(n:Int):G 273 [E n]=Z (0,[.bool (fO (-1000000000) 1000000000 n)]):=by
 refine ct t273 rfl ?_;simp only[go_sem,t273];unfold fO;by_cases h:-1000000000<=n
 ·simp only[go_sem,h]
 ·simp only[go_sem,h]
theorem aos{l:M j6}(g:l.length<=mg):G 274 [fU l]=Z (0,[.bool (Et l)]):=by
 refine ct t274 rfl ?_;simp only[go_sem,t274];have k:=NG (b:=lB G K9) l (λi=>(0,[fU l,fU l,E l.length,E (i:Int)])) (Pz l) (1,[fU l,fU l,E l.length,E l.length,.bool J]) (0,[.bool J]) (by
  intro i e j v;have m:=bp j;have c:=wj m g;simp only[go_sem,bG,K9,m,aX,j,k9,aH,aJ,aD];by_cases o:e.hi < e.lo
  ·simp only[go_sem,o,xE (l:=l) (i:=i) (e:=e) (by omega)]
  simp only[go_sem,o,ak8];cases f:fO (-1000000000) 1000000000 e.lo with
  |false=>
   have:¬(-1000000000<=e.lo/\e.lo<=1000000000):=λh=>by rw[(gP _ _ _).2 h]at f;cases f
   simp only[go_sem,xE (l:=l) (i:=i) (e:=e) (by omega)]
  |true=>
   have x:=(gP _ _ _).1 f;simp only[go_sem,ak8];cases d:fO (-1000000000) 1000000000 e.hi with
   |false=>
    have:¬(-1000000000<=e.hi/\e.hi<=1000000000):=λh=>by rw[(gP _ _ _).2 h]at d;cases d
    simp only[go_sem,xE (l:=l) (i:=i) (e:=e) (by omega)]
   |true=>
    have w:=(gP _ _ _).1 d;simp only[go_sem];cases i with
    |zero=>
     have a:Pz l 0 e=I:=uW.2 ⟨by omega,by omega,by omega,rfl⟩;simp only[go_sem,a,n0,fy];simp only[go_sem,n0]at c;rw[c]
    |succ i=>
     have a1:=cI (l:=l) (i:=i) (by omega);have t:=uW.1 (v i _ (by omega) a1);generalize l[i]'(by omega)=p at a1 t;have s:IntKind.i64.wrap (((i+1:Nat):Int) - 1)=(i:Int):=by rw[wrap_i64 (by simp only[mg]at g;omega)];omega
     have r:IntKind.i64.wrap (p.hi+2)=p.hi+2:=wrap_i64 (by omega);have q:(0:Int) < ((i+1:Nat):Int):=by omega
     by_cases n:e.lo < p.hi+2
     ·have a:Pz l (i+1) e=J:=by
       simp only[Pz,apart,a1];have:Z' (p.hi+1 < e.lo)=J:=by simp;omega
       simp[this]
      simp only[go_sem,n,a,aX,k9,s,r,q,a1]
     ·have a:Pz l (i+1) e=I:=uW.2 ⟨by omega,by omega,by omega,by simp only[apart,a1];simp;omega⟩;simp only[go_sem,n,a,aX,k9,s,r,q,a1,c]) (by simp only[go_sem,bG,K9,aC])
 rw[n0]at k;rw[ay,k];unfold Et;cases allI (Pz l) 0 l with
 |false=>simp only[go_sem]
 |true=>simp only[go_sem,ay,le6]
def Tc(l:M j6)(n:Int):Bool:=l.any (λe=>fO e.lo e.hi n) ||l.isEmpty
theorem uJ{a:Type}(l:M a):Z' ((l.length:Int)=0)=l.isEmpty:=by cases l<;>simp;omega
theorem SN{f a d:Type}{b:a->u (Sg a d)}(es:M f)(mk:Nat->a)(p:f->Bool)(none_ c:d)
  (g:∀i e,nth es i=Z e->b (mk i)=Z (if p e=I then .out c else .go (mk (i+1))))
  (m:b (mk es.length)=Z (.out none_)):cm b (mk 0)=Z (if es.any p=I then c else none_):=by
 rw[qP es mk p none_ (λ_ _=>c) g m,<- wh (k:=0)];cases h:ml p es 0 with
 |none=>rfl
 |some j=>
  obtain⟨e,l,n⟩:=du h;simp[l]
theorem an9{l:M j6}{n:Int}(g:l.length<=mg):G 232 [fU l,E n]=Z (0,[.bool (Tc l n)]):=by
 refine ct t232 rfl ?_;simp only[go_sem,t232];have c:=SN (b:=lB G KS) l (λi=>(0,[fU l,E n,E (i:Int)])) (λe=>fO e.lo e.hi n) (1,[fU l,E n,E l.length,.bool J]) (0,[.bool I]) (by
  intro i e a;have d:=bp a;have f:=wj d g;simp only[go_sem,bG,KS,d,aX,a,k9,ay,C8];cases h:fO e.lo e.hi n<;>simp only[go_sem,f]) (by simp only[go_sem,bG,KS,aC,ay])
 rw[n0]at c;rw[c];unfold Tc;cases l.any (λe=>fO e.lo e.hi n) with
 |true=>simp only[go_sem]
 |false=>simp only[go_sem,ay,uJ]
theorem aox{l:M j6}{n:Int}(h:l.length<=mg):G 288 [fU l,E n]=Z (0,[.bool (Tc l n)]):=by
 refine ct t288 rfl ?_;simp only[go_sem,t288];have d:=SN (b:=lB G La) l (λi=>(0,[fU l,E n,fU l,E l.length,E (i:Int)])) (λe=>fO e.lo e.hi n) (1,[fU l,E n,fU l,E l.length,E l.length,.bool J]) (0,[.bool I]) (by
  intro i e c;have f:=bp c;have a:=wj f h;simp only[go_sem,bG,La,f,aX,c,k9,aH,aJ,aD];unfold fO;by_cases g:e.lo<=n
  ·by_cases j:n<=e.hi<;>simp only[go_sem,g,j,a]
  ·simp only[go_sem,g,a]) (by simp only[go_sem,bG,La,aC])
 rw[n0]at d;rw[ay,d];unfold Tc;cases l.any (λe=>fO e.lo e.hi n) with
 |true=>simp only[go_sem]
 |false=>simp only[go_sem,ay,uJ]
end
section
def dg(s:z):Nat->Nat->Int->u Int
 |_,0,n=>Z n
 |i,m+1,n=>if fO 48 57 (eB s i)=I then (if 1000000000 < 10 * n+(eB s i - 48) then O else dg s (i+1) m (10 * n+(eB s i - 48))) else O
def dgR(s:z):u Int->Nat×M D
 |some r=>(1,[.str s,.int .i64 r,.int .i64 s.size,.bool J])
 |none=>(0,[.int .i64 0,.bool J])
theorem So{s:z}(c:s.size<=mg):∀(m i:Nat) (n:Int),i+m=s.size->0<=n->n<=1000000000->
  cm (lB G B5) (0,[.str s,E n,E (i:Int)])=Z (dgR s (dg s i m n))
 |0,i,n,h,l,k=>by
  obtain rfl:i=s.size:=by omega
  refine bg ?_;simp only[go_sem,bG,B5,aC,dg,dgR]
 |m+1,i,n,h,l,k=>by
  have a:i < s.size:=by omega
  have j:=wj a c;have o:=ue s i;cases hd:fO 48 57 (eB s i) with
  |false=>
   refine (bg (r:=(0,[E 0,.bool J])) ?_).trans (by simp[dg,hd,dgR]);simp only[go_sem,bG,B5,a,fH,C8,hd]
  |true=>
   have p:=(gP _ _ _).1 hd;have g:IntKind.i64.wrap (10 * n)=10 * n:=wrap_i64 (by omega);have f:IntKind.u8.wrap (eB s i - 48)=eB s i - 48:=wrap_u8 (by omega);have e:IntKind.i64.wrap (eB s i - 48)=eB s i - 48:=wrap_i64 (by omega);have d:IntKind.i64.wrap (10 * n+(eB s i - 48))=10 * n+(eB s i - 48):=wrap_i64 (by omega);by_cases b:1000000000 < 10 * n+(eB s i - 48)
   ·refine (bg (r:=(0,[E 0,.bool J])) ?_).trans (by simp[dg,hd,dgR,b]);simp only[go_sem,bG,B5,a,fH,C8,hd,g,f,e,d,b]
   ·rw[show dg s i (m+1) n=dg s (i+1) m (10 * n+(eB s i - 48)) by simp[dg,hd,b],<- So c m (i+1) _ (by omega) (by omega) (by omega)];refine bY ?_;simp only[go_sem,bG,B5,a,fH,C8,hd,g,f,e,d,b,j]
def LU(s:z):u Int:=if s.size=0 then O else dg s 0 s.size 0
def nV:u Int->M D
 |some n=>[.int .i64 n,.bool I]
 |none=>[.int .i64 0,.bool J]
theorem gt0(n:Nat):Z' (0 < (n:Int))=!Z' (n=0):=by
 rw[cR];simp;omega
theorem af3{s:z}(c:s.size<=mg):G 229 [.str s]=Z (0,nV (LU s)):=by
 refine ct t229 rfl ?_;simp only[go_sem,t229];have b:=So c s.size 0 0 (by omega) (by omega) (by omega);rw[n0]at b;rw[b];unfold LU;by_cases a:s.size=0
 ·rw[if_pos a,a];simp only[go_sem,dg,dgR,nV,a,n0,fy]
 ·rw[if_neg a];cases dg s 0 s.size 0 with
  |none=>simp only[go_sem,dgR,nV]
  |some n=>
   have:(0:Int) < (s.size:Int):=by omega
   simp only[go_sem,dgR,nV,this]
theorem EG{s:z}:∀(m i:Nat) (n r:Int),0<=n->n<=1000000000->dg s i m n=Z r->0<=r/\r<=1000000000
 |0,i,n,r,b,a,h=>by cases h;exact⟨b,a⟩
 |m+1,i,n,r,b,a,h=>by
  simp only[dg]at h
  split at h
  ·rename_i hd;have c:=(gP _ _ _).1 hd
   split at h
   ·cases h
   ·exact EG m (i+1) _ r (by omega) (by omega) h
  ·cases h
theorem Jp{s:z}{r:Int}(h:LU s=Z r):0<=r/\r<=1000000000:=by
 unfold LU at h
 split at h
 ·cases h
 ·exact EG _ _ _ _ (by omega) (by omega) h
def Rj(s:z):Bool:=!Z' (s.size=0) && (Z' (eB s 0=45) ||decide (eB s 0=43))
def tl(s:z):z:=s.extract 1 s.size
theorem Md(s:z):(tl s).size=s.size - 1:=by simp[tl]
def PB(s:z):u Int:=(LU (if Rj s=I then tl s else s)).map λn=>if eB s 0=45 then -n else n
theorem Eg(t:z)(h:1<=t.size):aZ (.VZ J) [.str t,E 1]=Z (.str (tl t)):=by
 simp[aZ,dI,tl,h]
theorem oV{t:z}(h:0 < t.size):aZ .Z3 [.str t,E 0]=Z (.int .u8 (eB t 0)):=fH t 0 h
theorem Jq{s:z}{r:Int}(h:PB s=Z r):-1000000000<=r/\r<=1000000000:=by
 obtain⟨n,a,rfl⟩:=ak.1 h;have:=Jp a
 split<;>omega
theorem al1{s:z}{r:Int}(h:LU s=Z r):0 < s.size:=by
 unfold LU at h
 split at h
 ·cases h
 ·omega
theorem an8{s:z}(h:s.size<=mg):G 230 [.str s]=Z (0,nV (PB s)):=by
 refine ct t230 rfl ?_;simp only[go_sem,t230];have g:=af3 (s:=tl s) (by rw[Md];omega);by_cases c:s.size=0
 ·have d:PB s=O:=by simp[PB,Rj,c,LU]
  have hd:LU s=O:=by simp[LU,c]
  rw[d];simp only[go_sem,gt0,c,af3 h,hd,nV]
 ·have a:0 < s.size:=by omega
  simp only[go_sem,gt0,c,oV a];by_cases b:eB s 0=45
  ·have f:Rj s=I:=by simp[Rj,c,b]
   simp only[go_sem,b,Eg s a,g,PB,f];cases d:LU (tl s) with
   |none=>simp only[go_sem,nV]
   |some n=>
    have:=Jp d;have i:IntKind.i64.wrap (-n)=-n:=wrap_i64 (by omega);simp only[go_sem,nV,oV a,b,i]
  ·by_cases e:eB s 0=43
   ·have f:Rj s=I:=by simp[Rj,c,e]
    simp only[go_sem,e,Eg s a,g,PB,f,oV a];cases d:LU (tl s) with
    |none=>simp only[go_sem,nV]
    |some n=>simp only[go_sem,nV,oV a,e]
   ·have f:Rj s=J:=by simp[Rj,b,e]
    simp only[go_sem,b,e,af3 h,PB,f,oV a];cases d:LU s with
    |none=>simp only[go_sem,nV]
    |some n=>simp only[go_sem,nV,oV a,b]
def di(s:z):Nat->Nat->Int->u Int
 |_,0,n=>Z n
 |i,m+1,n=>if fO 48 57 (eB s i)=I then di s (i+1) m (if n<=1000000000 then n * 10+(eB s i - 48) else n) else O
theorem Xt(s:z):∀(m i:Nat) (n r:Int),1000000000 < n->di s i m n=Z r->r=n
 |0,i,n,r,h,hd=>by cases hd;rfl
 |m+1,i,n,r,h,hd=>by
  simp only[di]at hd
  split at hd
  ·rw[if_neg (by omega)]at hd;exact Xt s m (i+1) n r h hd
  ·cases hd
theorem ady(s:z):∀(m i:Nat) (n:Int),0<=n->n<=1000000000->(match di s i m n with|some r=>if 1000000000 < r then O else Z r|none=>O)=dg s i m n
 |0,i,n,d,b=>by
  simp only[di,dg];rw[if_neg (by omega)]
 |m+1,i,n,d,b=>by
  simp only[di,dg];cases hd:fO 48 57 (eB s i) with
  |false=>simp
  |true=>
   have e:=(gP _ _ _).1 hd;simp only[if_true];rw[if_pos b,show n * 10+(eB s i - 48)=10 * n+(eB s i - 48) by omega];by_cases a:1000000000 < 10 * n+(eB s i - 48)
   ·rw[if_pos a];cases c:di s (i+1) m (10 * n+(eB s i - 48)) with
    |none=>rfl
    |some r=>
     rw[Xt s m (i+1) _ r a c];simp only[if_pos a]
   ·rw[if_neg a];exact ady s m (i+1) _ (by omega) (by omega)
def Xs(s:z)(b:Bool):u Int->Nat×M D
 |some r=>(1,[.str s,.bool b,.int .i64 r,.int .i64 s.size,.bool J])
 |none=>(0,[.int .i64 0,.bool J])
theorem zW{s:z}(e:s.size<=mg)(b:Bool):∀(m i:Nat) (n:Int),i+m=s.size->0<=n->n<=10000000009->
  cm (lB G yR) (0,[.str s,.bool b,E n,E (i:Int)])=Z (Xs s b (di s i m n))
 |0,i,n,h,k,j=>by
  obtain rfl:i=s.size:=by omega
  refine bg ?_;simp only[go_sem,bG,yR,aC,di,Xs]
 |m+1,i,n,h,k,j=>by
  have c:i < s.size:=by omega
  have g:=wj c e;have t:=ue s i;by_cases d:eB s i < 48
  ·have hd:fO 48 57 (eB s i)=J:=by simp[fO];omega
   refine (bg (r:=(0,[E 0,.bool J])) ?_).trans (by simp[di,hd,Xs]);simp only[go_sem,bG,yR,c,fH,d]
  ·by_cases f:57 < eB s i
   ·have hd:fO 48 57 (eB s i)=J:=by simp[fO];omega
    refine (bg (r:=(0,[E 0,.bool J])) ?_).trans (by simp[di,hd,Xs]);simp only[go_sem,bG,yR,c,fH,d,f]
   ·have hd:fO 48 57 (eB s i)=I:=by simp[fO];omega
    have q:n<=1000000000->IntKind.i64.wrap (n * 10)=n * 10:=λh=>wrap_i64 (by omega);have p:IntKind.u8.wrap (eB s i - 48)=eB s i - 48:=wrap_u8 (by omega);have o:IntKind.i64.wrap (eB s i - 48)=eB s i - 48:=wrap_i64 (by omega);have l:n<=1000000000->IntKind.i64.wrap (n * 10+(eB s i - 48))=n * 10+(eB s i - 48):=λh=>wrap_i64 (by omega);by_cases a:n<=1000000000
    ·rw[show di s i (m+1) n=di s (i+1) m (n * 10+(eB s i - 48)) by simp[di,hd,a],<- zW e b m (i+1) _ (by omega) (by omega) (by omega)];refine bY ?_;simp only[go_sem,bG,yR,c,fH,d,f,q a,p,o,l a,a,g]
    ·rw[show di s i (m+1) n=di s (i+1) m n by simp[di,hd,a],<- zW e b m (i+1) _ (by omega) (by omega) (by omega)];refine bY ?_;simp only[go_sem,bG,yR,c,fH,d,f,a,g]
theorem dB(s:z):Z' (s=⟨#[]⟩)=Z' (s.size=0):=by
 rw[cR];simp only[decide_eq_true_eq];refine⟨λh=>by rw[h];rfl,λh=>?_⟩;cases s with
 |mk a=>simp[og]at h;rw[h]
theorem ba0:(⟨[].toArray⟩:z)=⟨#[]⟩:=(rfl)
attribute [go_sem] ba0 dB
theorem aow{s:z}(m:s.size<=mg):G 287 [.str s]=Z (0,nV (PB s)):=by
 refine ct t287 rfl ?_;simp only[go_sem,t287];have fin:∀(t:z) (b:Bool),t.size<=mg->(match di t 0 t.size 0 with|some r=>if 1000000000 < r then O else Z r|none=>O)=dg t 0 t.size 0:=λt b d=>ady t t.size 0 0 (by omega) (by omega);by_cases g:s.size=0
 ·have i:PB s=O:=by simp[PB,Rj,g,LU]
  rw[i];simp only[go_sem,g,nV]
 ·have e:0 < s.size:=by omega
  simp only[go_sem,g,oV e];by_cases l:eB s 0=45
  ·have j:Rj s=I:=by simp[Rj,g,l]
   have h:(tl s).size<=mg:=by rw[Md];omega
   have f:=fin (tl s) I h;have a:=zW h I (tl s).size 0 0 (by omega) (by omega) (by omega);rw[n0]at a;simp only[go_sem,l,Eg s e,oV e,PB,j];by_cases d:(tl s).size=0
   ·simp only[go_sem,d,LU,nV]
   ·simp only[go_sem,d,LU,a];rw[<- f];cases i:di (tl s) 0 (tl s).size 0 with
    |none=>simp only[go_sem,Xs,nV]
    |some n=>
     by_cases c:1000000000 < n
     ·simp only[go_sem,Xs,nV,c]
     ·have p:dg (tl s) 0 (tl s).size 0=Z n:=by rw[<- f,i];simp[c]
      have:=EG _ _ _ _ (by omega) (by omega) p;have o:IntKind.i64.wrap (-n)=-n:=wrap_i64 (by omega);simp only[go_sem,Xs,nV,c,o]
  ·by_cases k:eB s 0=43
   ·have j:Rj s=I:=by simp[Rj,g,k]
    have h:(tl s).size<=mg:=by rw[Md];omega
    have f:=fin (tl s) J h;have a:=zW h J (tl s).size 0 0 (by omega) (by omega) (by omega);rw[n0]at a;simp only[go_sem,k,Eg s e,oV e,PB,j];by_cases d:(tl s).size=0
    ·simp only[go_sem,d,LU,nV]
    ·simp only[go_sem,d,LU,a];rw[<- f];cases i:di (tl s) 0 (tl s).size 0 with
     |none=>simp only[go_sem,Xs,nV]
     |some n=>by_cases c:1000000000 < n<;>simp only[go_sem,Xs,nV,c]
   ·have j:Rj s=J:=by simp[Rj,l,k]
    have f:=fin s J m;have a:=zW m J s.size 0 0 (by omega) (by omega) (by omega);rw[n0]at a;simp only[go_sem,l,k,PB,j,g,LU,a,oV e];rw[<- f];cases i:di s 0 s.size 0 with
    |none=>simp only[go_sem,Xs,nV]
    |some n=>by_cases c:1000000000 < n<;>simp only[go_sem,Xs,nV,c]
end
section
def bA(l:M UInt8):z:=⟨l.toArray⟩
theorem W0(l m:M UInt8)(s:z):bA l++(bA m++s)=bA (l++m)++s:=by
 apply tq
 simp only[bA,oO];rw[<- Array.append_assoc];simp
def yG(n:Int):z:=bA (Lib.itoa n)
def JW(a:Nat):M UInt8:=if a=0 then [] else Lib.decDigits a
theorem Iz{a:Nat}(h:a≠0):JW a=JW (a / 10)++[dz (48+a % 10)]:=by
 unfold JW;rw[if_neg h];rw[Lib.decDigits];by_cases b:a < 10
 ·have:a / 10=0:=by omega
  rw[dif_pos b,if_pos this,show a % 10=a by omega];rfl
 ·have:a / 10≠0:=by omega
  rw[dif_neg b,if_neg this]
theorem xH(c:Int):aZ .P0 [.list 1 I [[.int .u8 c]]]=Z (.str (bA [dz c.toNat])):=by
 simp[aZ,bytesOf,bA]
theorem uY(k:IntKind)(c:Int):aZ (.sV 1 I) [.int k c]=Z (.list 1 I [[.int k c]]):=by
 simp[aZ,chunk,dV,D.plain]
theorem Sp:∀(k a:Nat),a < 10 ^ (k+1)->(Lib.decDigits a).length<=k+1
 |0,a,h=>by rw[Lib.decDigits,dif_pos (by omega)];simp
 |k+1,a,h=>by
  rw[Lib.decDigits];split
  ·simp
  ·have:=Sp k (a / 10) (by rw[xO]at h;omega);simp only[bh,aH,aJ];omega
theorem rN(l:M UInt8):(bA l).size=l.length:=by simp[bA,og]
theorem SD{n:Int}{h:Nat}{u:Nat}{s:z}{x:Int}{zs:M D}(l:(h=0/\zs=[])\/(h=1/\∃a,zs=[a]))(r:0 < u)(w:u<=1000000000)(t:s.size<=20)(q:x=(u:Int)\/x=-(u:Int)) :
  ∃a k,(k=((u / 10:Nat):Int)\/k=-((u / 10:Nat):Int))/\lB G pD (h,[E n,.str s,E x]++zs)=Z (.go (1,[E n,.str (bA [dz (48+u % 10)]++s),E k,a])):=by
 have v:u % 10 < 10:=Nat.mod_lt _ (by omega);have i:IntKind.i64.wrap (48+((u % 10:Nat):Int))=((48+u % 10:Nat):Int):=by rw[wrap_i64 (by omega)];omega
 have g:IntKind.u8.wrap ((48+u % 10:Nat):Int)=((48+u % 10:Nat):Int):=wrap_u8 (by omega);have f:(((48+u % 10:Nat):Int)).toNat=48+u % 10:=bW _;have p:IntKind.i64.wrap ((u % 10:Nat):Int)=((u % 10:Nat):Int):=wrap_i64 (by omega);have j:(bA [dz (48+u % 10)]).size+s.size<=maxLen:=by rw[rN];simp only[aH,aJ];exact aG (show 0+1+s.size<=21 by omega) (by decide)
 have e:(u:Int) % 10=((u % 10:Nat):Int):=rfl;have d:(u:Int) / 10=((u / 10:Nat):Int):=rfl;have o:0<=(u:Int):=by omega
 have n1:¬0<=-(u:Int):=by omega
 have n2:-(u:Int) < 0:=by omega
 rcases q with rfl|rfl
 ·have c:¬(u:Int)=0:=by omega
  have b:¬((u % 10:Nat):Int) < 0:=by omega
  refine⟨.list 1 I [[.int .u8 ((48+u % 10:Nat):Int)]],_,.inl rfl,?_⟩;rcases l with ⟨rfl,rfl⟩|⟨rfl,a,rfl⟩
  ·simp only[go_sem,bG,pD,c,o,e,d,b,i,g,f,j,uY,xH]
  ·simp only[go_sem,bG,pD,c,o,e,d,b,i,g,f,j,uY,xH]
 ·have c:¬-(u:Int)=0:=by omega
  refine⟨.list 1 I [[.int .u8 ((48+u % 10:Nat):Int)]],_,.inr rfl,?_⟩;by_cases b:-((u % 10:Nat):Int) < 0
  ·rcases l with ⟨rfl,rfl⟩|⟨rfl,a,rfl⟩
   ·simp only[go_sem,bG,pD,c,n1,n2,e,d,vd,b,i,g,f,p,j,uY,xH]
   ·simp only[go_sem,bG,pD,c,n1,n2,e,d,vd,b,i,g,f,p,j,uY,xH]
  ·have m:-((u % 10:Nat):Int)=((u % 10:Nat):Int):=by omega
   rw[m]at b;rcases l with ⟨rfl,rfl⟩|⟨rfl,a,rfl⟩
   ·simp only[go_sem,bG,pD,c,n1,n2,e,d,vd,m,b,i,g,f,j,uY,xH]
   ·simp only[go_sem,bG,pD,c,n1,n2,e,d,vd,m,b,i,g,f,j,uY,xH]
theorem Sz{n:Int}:∀(k u:Nat) (s:z) (x:Int) (a:D),u < 10 ^ k->k<=10->s.size+k<=20->u<=1000000000->(x=(u:Int)\/x=-(u:Int))->
  ∃e,cm (lB G pD) (1,[E n,.str s,E x,a])=Z (1,[E n,.str (bA (JW u)++s),E 0,.bool J,e])
 |k,u,s,x,a,i,p,o,j,g=>by
  by_cases c:u=0
  ·obtain rfl:x=0:=by omega
   refine⟨a,bg ?_⟩;have:bA (JW u)++s=s:=by rw[c];apply tq;simp[JW,bA,oO]
   rw[this];simp only[go_sem,bG,pD]
  ·cases k with
   |zero=>omega
   |succ k=>
    obtain⟨d,f,b,m⟩:=SD (n:=n) (h:=1) (u:=u) (s:=s) (x:=x) (zs:=[a]) (.inr ⟨rfl,a,rfl⟩) (by omega) j (by omega) g;rw[xO]at i;obtain⟨z2,l⟩:=Sz k (u / 10) (bA [dz (48+u % 10)]++s) f d (by omega) (by omega) (by rw[jr,rN];simp only[aH,aJ];omega) (by omega) b;refine⟨z2,?_⟩;rw[Iz c,<- W0,<- l];exact bY m
theorem akY{n:Int}(q:-1000000000<=n/\n<=1000000000):G 231 [E n]=Z (0,[.str (yG n)]):=by
 refine ct t231 rfl ?_;simp only[go_sem,t231];by_cases d:n=0
 ·subst d;have a:yG 0=⟨#[48]⟩:=by
   unfold yG Lib.itoa;rw[if_neg (by omega)];show bA (Lib.decDigits 0)=_;rw[Lib.decDigits_one (by decide)];rfl
  rw[a];simp only[go_sem]
 ·simp only[go_sem,d];have g:n.natAbs<=1000000000:=by omega
  obtain⟨e,f,c,k⟩:=SD (n:=n) (h:=0) (u:=n.natAbs) (s:=⟨#[]⟩) (x:=n) (zs:=[]) (.inl ⟨rfl,rfl⟩) (by omega) g (by simp[og]) (by omega);have m:n.natAbs / 10 < 10 ^ 9:=by omega
  obtain⟨z2,j⟩:=Sz (n:=n) 9 (n.natAbs / 10) (bA [dz (48+n.natAbs % 10)]++⟨#[]⟩) f e m (by omega) (by rw[jr,rN];simp[og]) (by omega) c;have i:cm (lB G pD) (0,[E n,.str ⟨#[]⟩,E n])=Z (1,[E n,.str (bA (JW n.natAbs)),E 0,.bool J,z2]):=by
   have o:lB G pD (0,[E n,.str ⟨#[]⟩,E n])=_:=k;rw[bY o,j,W0,<- Iz (by omega)]
   congr 5
   apply tq
   simp[bA,oO]
  rw[i];have hd:JW n.natAbs=Lib.decDigits n.natAbs:=by rw[JW,if_neg (by omega)]
  rw[hd];by_cases b:n < 0
  ·have a:yG n=bA [45]++bA (Lib.decDigits n.natAbs):=by
    unfold yG Lib.itoa;rw[if_pos b]
    apply tq
    simp[bA,oO]
   have r:(Lib.decDigits n.natAbs).length<=10:=Sp 9 _ (by omega);have p:(bA [45]).size+(bA (Lib.decDigits n.natAbs)).size<=maxLen:=by rw[rN,rN];simp only[aH,aJ];exact aG (show 0+1+(Lib.decDigits n.natAbs).length<=11 by omega) (by decide)
   rw[a];have l:(⟨[(45:UInt8)].toArray⟩:z)=bA [45]:=rfl;simp only[go_sem,b,l,p]
  ·have a:yG n=bA (Lib.decDigits n.natAbs):=by
    unfold yG Lib.itoa;rw[if_neg b]
    congr 2
    omega
   rw[a];simp only[go_sem,b]
theorem alq(n:Int):G 9001 [E n]=Z (0,[.str (yG n)]):=
 yx (i:=9001) (sg:=⟨9001,[.val J [.d]],[([.val J [.d]],[])]⟩) (v:=([.val J [.d]],[])) (j:=0) (r:=([.val J [.d (.str (yG n))]],[])) (ws:=[E n]) rfl rfl ((Ze T rfl [.val J [.d (E n)]]).trans rfl) rfl rfl
theorem ald(n:Int):G 303 [E n]=Z (0,[.str (yG n)]):=by
 refine ct t303 rfl ?_;simp only[go_sem,t303,alq]
end
section
theorem Ep{a:Type}(p q:Nat->a->Bool):∀(i:Nat) (l:M a),allI (λi e=>p i e && q i e) i l=(allI p i l && allI q i l)
 |_,[]=>rfl
 |i,e::l=>by
  simp only[allI,Ep p q (i+1) l];cases p i e<;>cases q i e<;>cases allI p (i+1) l<;>simp
theorem MM{a β:Type}(p:Nat->β->Bool)(f:a->β):∀(i:Nat) (l:M a),allI p i (l.map f)=allI (λi e=>p i (f e)) i l
 |_,[]=>rfl
 |i,e::l=>by simp only[aW,allI,MM p f (i+1) l]
def atB{a:Type}(q:a->Bool)(t:M a)(j:Nat):Bool:=match nth t j with
 |some x=>q x
 |none=>I
theorem zK{a:Type}(q:a->Bool)(t:M a):∀(m i:Nat),i+m<=t.length->sw (atB q t) i m=((t.drop i).take m).all q
 |0,i,h=>by simp[sw]
 |m+1,i,h=>by
  have a1:=cI (l:=t) (i:=i) (by omega);rw[eg t i _ a1,cn,cX,<- zK q t m (i+1) (by omega)];simp only[sw,atB,a1]
def sJ(t:mC):Bool:=isName t.aj && jc t.aS
def xF(l:M mC):Bool:=um (l.map mC.aj) && l.all sJ
theorem Yp(l:M mC)(v:z):nS (l.map mC.aj) v=!(l.all λx=>!Z' (x.aj=v)):=by
 induction l with
 |nil=>rfl
 |cons x l c=>
  simp only[aW,nS,nB,cX]at c ⊢;rw[c,decide_eq_decide.2 (eq_comm (a:=v) (b:=x.aj))];cases Z' (x.aj=v)<;>simp
theorem Q5(l:M mC):xF l=allI (λk e=>((l.take k).all λx=>!Z' (x.aj=e.aj)) && sJ e) 0 l:=by
 have h:=Ep (λk (e:mC)=>(l.take k).all λx=>!Z' (x.aj=e.aj)) (λ_ e=>sJ e) 0 l;rw[xF,h,vM,um,MM]
 congr 2
 funext i e
 rw[<- kg,Yp,fM]
def isStep(s:pN):Bool:=xF s.gu && (isName s.aj && Z' (s.gu.length<=3))
def TZ(p:nG):Bool:=fO 0 8 p.oY && (Z' (p.steps.length<=10) && ((!p.root ||decide (p.oY=0)) && (p.root ||(Z' (0 < p.oY) ||!p.steps.isEmpty))))
def lU(p:nG):Bool:=p.steps.all isStep && TZ p
theorem VD(n k:Nat):Z' ((n:Int)<=(k:Int))=Z' (n<=k):=by rw[cR];simp
theorem ajD(n:Nat):Z' ((n:Int)<=3)=Z' (n<=3):=VD n 3
theorem amr(n:Nat):Z' (3 < (n:Int))=!Z' (n<=3):=by rw[cR];simp;omega
theorem adO(n:Nat):Z' ((n:Int)<=10)=Z' (n<=10):=VD n 10
theorem Mw{a:Type}(l:M a):Z' (0 < (l.length:Int))=!l.isEmpty:=by cases l<;>simp
theorem fD{a:Type}{f:a->M D}{l:M a}{x:a}{n:Nat}(h:bK f l<=n)(b:x∈l):ee (f x)<=n/\l.length<=n:=by
 have:=cG f b;simp only[bK]at *;omega
section
variable {s:pN} {rt:Bool} {up:Int} {ss:M pN}
theorem Vg{t:M mC}{e:mC}{k i:Nat}(a:nth t k=Z e)(h:bK pP t<=mg) :
  cm (lB G yP) (0,[E (i:Int),jv t,E (k:Int),E 0,.bool rt,E up,dU ss]) =
   Z (if (t.take k).all (λx=>!Z' (x.aj=e.aj))=I then (1,[E (i:Int),jv t,E (k:Int),E (k:Int),.bool J,.bool rt,E up,dU ss]) else (0,[.bool J])):=by
 have m:=bp a;have c:t.length<=mg:=by simp only[bK]at h;omega
 have d:=rV (b:=lB G yP) (λj=>(0,[E (i:Int),jv t,E (k:Int),E (j:Int),.bool rt,E up,dU ss])) (atB (λx=>!Z' (x.aj=e.aj)) t) k
  (1,[E (i:Int),jv t,E (k:Int),E (k:Int),.bool J,.bool rt,E up,dU ss]) (0,[.bool J]) (by
  intro j f;have a1:=cI (l:=t) (i:=j) (by omega);have g:=wj (i:=j) (n:=k) f (by omega);generalize t[j]'(by omega)=x at a1;simp only[go_sem,bG,yP,f,aX,a,a1,pP,atB];cases o:Z' (x.aj=e.aj)<;>simp only[go_sem,g]) (by simp only[go_sem,bG,yP,aC]) k 0 (by omega)
 rw[n0]at d;rw[d,zK _ t k 0 (by omega),bm]
theorem Vh{t:M mC}{i:Nat}(d:bK pP t<=mg) :
  cm (lB G BX) (0,[E (i:Int),jv t,E 0,.bool rt,E up,dU ss]) =
   Z (if xF t=I then (1,[E (i:Int),jv t,E t.length,.bool J,.bool rt,E up,dU ss]) else (0,[.bool J])):=by
 have c:t.length<=mg:=by simp only[bK]at d;omega
 have f:=nP (b:=lB G BX) t (λk=>(0,[E (i:Int),jv t,E (k:Int),.bool rt,E up,dU ss])) (λk e=>((t.take k).all λx=>!Z' (x.aj=e.aj)) && sJ e)
  (1,[E (i:Int),jv t,E t.length,.bool J,.bool rt,E up,dU ss]) (0,[.bool J]) (by
  intro k e a;have g:=bp a;have l:=wj g c;have j:=cG pP (bc a);rw[O7]at j;have n:=acI (s:=e.aj) (by omega);have m:=acJ (s:=e.aS) (by omega);simp only[go_sem,bG,BX,g,ay,Vg a d];cases o:(t.take k).all (λx=>!Z' (x.aj=e.aj)) with
  |false=>simp only[go_sem]
  |true=>
   simp only[go_sem,aX,a,pP,n];cases h:isName e.aj with
   |false=>simp only[go_sem,h,sJ]
   |true=>
    simp only[go_sem,h,sJ,aX,a,pP,m];cases p:jc e.aS<;>simp only[go_sem,l]) (by simp only[go_sem,bG,BX,aC,ay]) t.length 0 (by omega)
 rw[n0,bm]at f;rw[f,Q5]
end
theorem OK(p:nG):TZ p=(fO 0 8 p.oY && Z' (p.steps.length<=10) && (!p.root ||decide (p.oY=0)) && (p.root ||(Z' (0 < p.oY) ||!p.steps.isEmpty))):=by
 simp[TZ,iy]
theorem anX{p:nG}(d:ee (ib p)<=mg):G 205 (ib p)=Z (0,[.bool (lU p)]):=by
 rw[A4]at d;have a:p.steps.length<=mg:=by simp only[bK]at d;omega
 refine ct t205 rfl ?_;simp only[go_sem,t205,ib];have f:=nb (b:=lB G KM) p.steps (λi=>(0,[E (i:Int),.bool p.root,E p.oY,dU p.steps])) isStep (1,[E p.steps.length,.bool J,.bool p.root,E p.oY,dU p.steps]) (0,[.bool J]) (by
  intro i e c;have g:=bp c;have k:=wj g a;have j:=cG iO (bc c);rw[xg]at j;have l:=acI (s:=e.aj) (by omega);simp only[go_sem,bG,KM,g,ay,aX,c,iO,Vh (t:=e.gu) (by omega)];cases h:xF e.gu with
  |false=>simp only[go_sem,h,isStep]
  |true=>
   simp only[go_sem,h,isStep,aX,c,iO,l];cases n:isName e.aj with
   |false=>simp only[go_sem]
   |true=>
    simp only[go_sem,ay,amr];cases m:Z' (e.gu.length<=3)<;>simp only[go_sem,k]) (by simp only[go_sem,bG,KM,aC,ay])
 rw[n0]at f;rw[f,lU];cases p.steps.all isStep with
 |false=>simp only[go_sem]
 |true=>
  rw[OK];simp only[go_sem,C8]
  repeat' (first|with_reducible rfl|((first|rw[gk]|rw[gp]|rw[gj]|rw[gm]);split<;>simp only[go_sem,ay,adO,Mw, *]))
  all_goals simp_all
theorem aom{s:pN}(k:ee (iO s)<=mg):G 265 (iO s)=Z (0,[.bool (isStep s)]):=by
 rw[xg]at k;have a:s.gu.length<=mg:=by simp only[bK]at k;omega
 refine ct t265 rfl ?_;simp only[go_sem,t265,iO];have m:=nb (b:=lB G FJ) s.gu (λi=>(0,[jv s.gu,E s.gu.length,E (i:Int),.str s.aj,jv s.gu,bu ((s.gu.take i).map mC.aj)])) sJ
  (1,[jv s.gu,E s.gu.length,E s.gu.length,.bool J,.str s.aj,jv s.gu,bu (s.gu.map mC.aj)]) (0,[.bool J]) (by
  intro i e c;have n:=bp c;have q:=wj n a;have p:=cG pP (bc c);rw[O7]at p;have j:=acK (s:=e.aj) (by omega);have h:=acL (s:=e.aS) (by omega);have f:aZ (.app 1 16) [bu ((s.gu.take i).map mC.aj),.list 1 I [[.str e.aj]]]=Z (bu ((s.gu.take (i+1)).map mC.aj)):=by
   rw[AF c,Rc]
   ·simp[fe]
   ·simp only[ay,aY,aH,aJ];simp only[mg]at a;exact⟨aG (Nat.mul_le_mul (show min i s.gu.length+(0+1)<=40000000 by omega) (aD 16)) (by decide),aG (show min i s.gu.length+(0+1)<=40000000 by omega) (by decide)⟩
  have d:aZ (.sV 1 I) [.str e.aj]=Z (.list 1 I [[.str e.aj]]):=by simp[aZ,chunk,dV,D.plain]
  simp only[go_sem,bG,FJ,n,aX,c,pP,aH,aJ,aD,j];cases g:isName e.aj with
  |false=>simp only[go_sem,g,sJ]
  |true=>
   simp only[go_sem,g,sJ,h];cases t:jc e.aS<;>simp only[go_sem,q,f,d]) (by simp only[go_sem,bG,FJ,aC,aR])
 rw[n0]at m;rw[ay];have o:cm (lB G FJ) (0,[jv s.gu,E s.gu.length,E 0,.str s.aj,jv s.gu,.list 1 I []])=_:=m;rw[o,isStep,xF];cases s.gu.all sJ with
 |false=>simp only[go_sem]
 |true=>
  have j:=acK (s:=s.aj) (by omega);have h:=VV (l:=s.gu.map mC.aj) (by rw[ay];exact a);simp only[go_sem,j];cases g:isName s.aj with
  |false=>simp only[go_sem]
  |true=>
   simp only[go_sem,ajD,ay];cases t:Z' (s.gu.length<=3) with
   |false=>simp only[go_sem]
   |true=>
    have r:aZ .pl [.bool (um (s.gu.map mC.aj))]=Z (.bool J):=rfl;simp only[go_sem,h,r]
theorem aon{p:nG}(d:ee (ib p)<=mg):G 266 (ib p)=Z (0,[.bool (lU p)]):=by
 rw[A4]at d;have a:p.steps.length<=mg:=by simp only[bK]at d;omega
 refine ct t266 rfl ?_;simp only[go_sem,t266,ib];have f:=nb (b:=lB G K6) p.steps (λi=>(0,[dU p.steps,E p.steps.length,E (i:Int),.bool p.root,E p.oY,dU p.steps])) isStep (1,[dU p.steps,E p.steps.length,E p.steps.length,.bool J,.bool p.root,E p.oY,dU p.steps]) (0,[.bool J]) (by
  intro i e c;have g:=bp c;have j:=wj g a;have k:=cG iO (bc c);have h:=aom (s:=e) (by omega);rw[iO]at h;simp only[go_sem,bG,K6,g,aX,c,iO,aH,aJ,aD,h];cases l:isStep e<;>simp only[go_sem,j]) (by simp only[go_sem,bG,K6,aC])
 rw[n0]at f;rw[ay,f,lU];cases p.steps.all isStep with
 |false=>simp only[go_sem]
 |true=>
  rw[OK];unfold fO;simp only[go_sem]
  repeat' (first|with_reducible rfl|((first|rw[gk]|rw[gp]|rw[gj]|rw[gm]);split<;>simp only[go_sem,ay,adO,Mw, *]))
  all_goals simp_all
end
section
attribute [go_sem] aH aJ aD ay
theorem qu(e:dv):(cu e).length=7:=by rw[bT];rfl
theorem jY(e:dv)(k:Nat)(a:Bool):aZ (.has 7) [.list k a [cu e]]=Z (.bool J):=by
 rw[zb,qu,if_pos (aD 7)]
theorem q39(a b:Int):G 39 [E a,E b]=Z (0,[E (if a < b then b else a)]):=by
 refine ct t39 rfl ?_;simp only[go_sem,t39];by_cases h:a < b<;>simp only[go_sem,h]
theorem dv.ig(e:dv)(es:M dv):aw e.aa < aw (e::es):=by
 cases e;simp only[bJ,dv.mk.sizeOf_spec];omega
def sC:M dv->Nat
 |[]=>0
 |e::es=>max (sC e.aa+1) (sC es)
termination_by es=>aw es
decreasing_by
 ·exact dv.ig e es
 ·simp only[bJ];omega
abbrev dep(e:dv):Nat:=sC e.aa+1
theorem d0:((sC []:Nat):Int)=0:=by simp[sC]
theorem EF(e:dv):∀(l:M dv),sC (l++[e])=max (sC l) (dep e)
 |[]=>by simp[sC]
 |x::l=>by rw[au,sC,EF e l,sC,Nat.max_assoc]
theorem JZ:∀(n:Nat) (l:M dv),aw l < n->sC l<=bK cu l
 |0,l,h=>by omega
 |n+1,[],h=>by simp[sC]
 |n+1,e::l,h=>by
  have b:=JZ n e.aa (by have:=dv.ig e l;omega);have a:=JZ n l (by simp only[bJ]at h;omega);rw[sC,er,pn];omega
theorem Xr{e:dv}:dep e<=ee (cu e)+1:=by
 have:=JZ _ e.aa (aP _);rw[pn];simp only[dep];omega
theorem mx(a b:Nat):(if (a:Int) < (b:Int) then (b:Int) else (a:Int))=((max a b:Nat):Int):=by
 by_cases h:a < b
 ·rw[if_pos (by omega),Nat.max_eq_right (by omega)]
 ·rw[if_neg (by omega),Nat.max_eq_left (by omega)]
theorem dv.BQ{e x:dv}(h:x∈e.aa):aw x < aw e:=dv.Kx h
theorem BR{e x:dv}(h:x∈e.aa):ee (cu x)<=ee (cu e):=by
 have:=cG cu h;rw[pn e];omega
theorem tH{e:dv}:e.aa.length<=ee (cu e):=by
 rw[pn e];simp only[bK];omega
theorem afY(n:Nat):∀e:dv,aw e < n->ee (cu e)<=mg->G 203 (cu e)=Z (0,[E (dep e)]):=by
 induction n with
 |zero=>intro e h;omega
 |succ n l=>
  intro e o g;refine ct t203 (by rw[bT];rfl) ?_;simp only[go_sem,t203,bT];have c:e.aa.length<=mg:=aG tH g;have j:=cN (b:=lB G KK) e.aa (λi (m:Nat)=>(0,E (m:Int)::E (i:Int)::cu e)) (λi=>sC (e.aa.take i)) (0,E (sC e.aa)::E e.aa.length::.bool J::cu e) (by
   intro i x a;have k:=bp a;have d:=wj k c;have f:=l x (by have:=dv.BQ (bc a);omega) (aG (BR (bc a)) g);rw[bT]at f;simp only[go_sem,bG,KK,bT e,k,aX,a,jY];simp only[go_sem,bT,f,q39,mx,d,bZ _ _ _ a,EF,dep]) (by simp only[go_sem,bG,KK,bT,aC,aR]) e.aa.length 0 (by omega)
  rw[aV,d0,n0,bT]at j;have hd:=Xr (e:=e);have d:IntKind.i64.wrap ((sC e.aa:Int)+1)=((sC e.aa+1:Nat):Int):=by rw[wrap_i64 (by simp only[mg,dep]at *;omega)];omega
  simp only[go_sem,j,d]
theorem anW{e:dv}(a:ee (cu e)<=mg):G 203 (cu e)=Z (0,[E (dep e)]):=afY _ e (aP _) a
theorem agd(n:Nat):∀e:dv,aw e < n->ee (cu e)<=mg->G 262 (cu e)=Z (0,[E (dep e)]):=by
 induction n with
 |zero=>intro e h;omega
 |succ n l=>
  intro e o g;refine ct t262 (by rw[bT];rfl) ?_;simp only[go_sem,t262,bT];have c:e.aa.length<=mg:=aG tH g;have j:=cN (b:=lB G K4) e.aa (λi (m:Nat)=>(0,[E (m:Int),cZ e.aa,E e.aa.length,E (i:Int)])) (λi=>sC (e.aa.take i)) (0,[E (sC e.aa),cZ e.aa,E e.aa.length,E e.aa.length,.bool J]) (by
   intro i x a;have k:=bp a;have d:=wj k c;have f:=l x (by have:=dv.BQ (bc a);omega) (aG (BR (bc a)) g);rw[bT]at f;simp only[go_sem,bG,K4,k,aX,a,jY];simp only[go_sem,bT,f,mx,d,bZ _ _ _ a,EF,dep]) (by simp only[go_sem,bG,K4,aC,aR]) e.aa.length 0 (by omega)
  rw[aV,d0,n0]at j;have hd:=Xr (e:=e);have d:IntKind.i64.wrap ((sC e.aa:Int)+1)=((sC e.aa+1:Nat):Int):=by rw[wrap_i64 (by simp only[mg,dep]at *;omega)];omega
  simp only[go_sem,j,d]
theorem aok{e:dv}(a:ee (cu e)<=mg):G 262 (cu e)=Z (0,[E (dep e)]):=agd _ e (aP _) a
def zp(p:nG):Bool:=!p.root && (Z' (p.oY=0) && p.steps.isEmpty)
theorem tJ{a:Type}(l:M a):Z' ((l.length:Int)=0)=l.isEmpty:=by cases l<;>simp;omega
theorem anY(p:nG):G 206 (ib p)=Z (0,[.bool (zp p)]):=by
 refine ct t206 rfl ?_;simp only[go_sem,t206,ib]
 repeat' (first|with_reducible rfl|((first|rw[gk]|rw[gp]|rw[gj]|rw[gm]);split<;>simp only[go_sem,tJ, *]))
 all_goals simp_all[zp]
theorem aol(p:nG):G 263 (ib p)=Z (0,[.bool (zp p)]):=by
 refine ct t263 rfl ?_;simp only[go_sem,t263,ib]
 repeat' (first|with_reducible rfl|((first|rw[gk]|rw[gp]|rw[gj]|rw[gm]);split<;>simp only[go_sem,tJ, *]))
 all_goals simp_all[zp]
def orA:z:=⟨#[111,114]⟩
def WU:z:=⟨#[97,110,100]⟩
theorem aaE:(⟨[111,114].toArray⟩:z)=orA:=(rfl)
theorem RY:(⟨[97,110,100].toArray⟩:z)=WU:=(rfl)
def JM(p:nG):Bool:=match p.steps with
 |s::_=>Z' (s.aj=orA) ||decide (s.aj=WU)
 |[]=>J
def wrt(p:nG):Bool:=(p.root ||decide (0 < p.oY) ||!JM p) && !(p.root && p.steps.isEmpty)
theorem OL{p:nG}(h:lU p=I):0<=p.oY/\(p.root=I->p.oY=0)/\(p.root=I\/0 < p.oY\/p.steps≠[]):=by
 simp only[lU,TZ,fO,ai,da,decide_eq_true_eq,cq,List.isEmpty_eq_false_iff]at h;obtain⟨_,⟨d,_⟩,_,b,a⟩:=h;refine⟨d,λc=>?_,?_⟩
 ·rcases b with b|b
  ·rw[c]at b;cases b
  ·exact b
 ·rcases a with a|a|a
  ·exact .inl a
  ·exact .inr (.inl a)
  ·exact .inr (.inr a)
theorem anZ{p:nG}(e:lU p=I):G 207 (ib p)=Z (0,[.bool (wrt p)]):=by
 obtain⟨m,i,g⟩:=OL e;refine ct t207 rfl ?_;simp only[go_sem,t207,ib,aaE,RY];cases b:p.root with
 |true=>
  have a:p.oY=0:=i b;simp only[go_sem,b,a,Mw,wrt]
 |false=>
  by_cases a:0 < p.oY
  ·simp only[go_sem,b,a,wrt]
  ·have d:p.steps≠[]:=by
    rcases g with h|h|h
    ·rw[b]at h;cases h
    ·exact absurd h a
    ·exact h
   obtain⟨s,l,f⟩:=List.exists_cons_of_ne_nil d;simp only[go_sem,b,a,wrt,f,JM,aW,iO];have j:¬WU=orA:=by decide
   by_cases c:s.aj=orA
   ·simp only[go_sem,c]
   ·by_cases k:s.aj=WU<;>simp only[go_sem,c,k,j]
def qX(op:Int):Nat:=if op<=4 then 0 else if op=5 then 1 else 2
def tD(e:dv):Bool:=if e.op=1 then fO 0 1000000000 e.num else if e.op=2 then jc e.text else if e.op=3 then lU e.path && wrt e.path else if e.op=4 then lU e.path else I
def gr(e:dv):Bool:=fO 1 15 e.op && (Z' (e.aa.length=qX e.op) && ((Z' (e.op=1) ||decide (e.num=0)) && ((Z' (e.op=2) ||decide (e.text.size=0)) && ((Z' (e.op=3) ||(Z' (e.op=4) ||zp e.path)) && tD e))))
def vA:M dv->Bool
 |[]=>I
 |e::es=>gr e && vA e.aa && vA es
termination_by es=>aw es
decreasing_by
 ·exact dv.ig e es
 ·simp only[bJ];omega
def sj(e:dv):Bool:=gr e && vA e.aa
theorem Hr:∀(l:M dv),vA l=l.all sj
 |[]=>by simp[vA]
 |e::l=>by rw[vA,cX,Hr l];rfl
theorem abM{n:Nat}(h:∀e:dv,aw e < n->ee (cu e)<=mg->G 208 (cu e)=Z (0,[.bool (sj e)])){e:dv}(k:aw e < n+1)(f:ee (cu e)<=mg) :
  cm (lB G BY) (0,E e.aa.length::E 0::cu e)=Z (if vA e.aa=I then (1,E e.aa.length::E e.aa.length::.bool J::cu e) else (0,[.bool J])):=by
 have a:e.aa.length<=mg:=aG tH f;rw[Hr];exact nb (b:=lB G BY) e.aa (λi=>(0,E e.aa.length::E (i:Int)::cu e)) sj _ _ (by
  intro i x c;have g:=bp c;have j:=wj g a;have d:=h x (by have:=dv.BQ (bc c);omega) (aG (BR (bc c)) f);rw[bT]at d;simp only[go_sem,bG,BY,bT e,g,aX,c,jY];simp only[go_sem,bT x,d];cases sj x<;>simp only[go_sem,j]) (by simp only[go_sem,bG,BY,bT,aC])
theorem AB{e:dv}(h:e.aa.length=0):vA e.aa=I:=by
 have:e.aa=[]:=cH.1 h;rw[this];simp[vA]
theorem afZ(n:Nat):∀e:dv,aw e < n->ee (cu e)<=mg->G 208 (cu e)=Z (0,[.bool (sj e)]):=by
 induction n with
 |zero=>intro e h;omega
 |succ n B=>
  intro e C F;have c:=abM B C F;rw[bT]at c;have K:=pn e;have w:=acJ (s:=e.text) (by omega);have o:=anX (p:=e.path) (by omega);have y:=anY e.path;rw[ib]at o y;have v:lU e.path=I->G 207 [.bool e.path.root,E e.path.oY,dU e.path.steps]=Z (0,[.bool (wrt e.path)]):=λh=>anZ h;refine ct t208 (by rw[bT];rfl) ?_;simp only[go_sem,t208,bT];have small:∀{k:Nat} (a:e.aa.length=0),cm (lB G BY) (0,[E 0,E 0,E e.op,E e.num,.str e.text,.bool e.path.root,E e.path.oY,dU e.path.steps,cZ e.aa])=Z (1,[E 0,E 0,.bool J,E e.op,E e.num,.str e.text,.bool e.path.root,E e.path.oY,dU e.path.steps,cZ e.aa]):=by
   intro _ a;rw[AB a,a]at c;exact c
  by_cases j:e.op=1
  ·have m:gr e=(Z' (e.aa.length=0) && ((Z' (e.text.size=0)) && (zp e.path && fO 0 1000000000 e.num))):=by simp[gr,tD,qX,fO,j]
   rw[j]at small;by_cases a:e.aa.length=0
   ·have b:(e.aa.length:Int)=0:=by omega
    have t:=small (k:=0) a;have x:=AB a;simp only[go_sem,C8,j]
    repeat' (first|with_reducible rfl|((first|rw[gk]|rw[gp]|rw[gj]|rw[gm]);split<;>simp only[go_sem,dB, *]))
    all_goals simp_all[sj]
   ·have b:¬(e.aa.length:Int)=0:=by omega
    simp only[go_sem,C8,j]
    repeat' (first|with_reducible rfl|((first|rw[gk]|rw[gp]|rw[gj]|rw[gm]);split<;>simp only[go_sem,dB, *]))
    all_goals simp_all[sj]
  by_cases i:e.op=2
  ·have m:gr e=(Z' (e.aa.length=0) && ((Z' (e.num=0)) && (zp e.path && jc e.text))):=by simp[gr,tD,qX,fO,i]
   rw[i]at small;by_cases a:e.aa.length=0
   ·have b:(e.aa.length:Int)=0:=by omega
    have t:=small (k:=0) a;have x:=AB a;simp only[go_sem,w,i]
    repeat' (first|with_reducible rfl|((first|rw[gk]|rw[gp]|rw[gj]|rw[gm]);split<;>simp only[go_sem, *]))
    all_goals simp_all[sj]
   ·have b:¬(e.aa.length:Int)=0:=by omega
    simp only[go_sem,w,i]
    repeat' (first|with_reducible rfl|((first|rw[gk]|rw[gp]|rw[gj]|rw[gm]);split<;>simp only[go_sem, *]))
    all_goals simp_all[sj]
  by_cases d:e.op=3
  ·have m:gr e=(Z' (e.aa.length=0) && ((Z' (e.num=0)) && (Z' (e.text.size=0) && (lU e.path && wrt e.path)))):=by simp[gr,tD,qX,fO,d]
   rw[d]at small;cases q:lU e.path with
   |false=>
    simp only[go_sem,o,d,q]
    repeat' (first|with_reducible rfl|((first|rw[gk]|rw[gp]|rw[gj]|rw[gm]);split<;>simp only[go_sem,C8,w,o,y,ba0,dB,d,q, *]))
    all_goals simp_all[sj]
   |true=>
    have N:=v q;by_cases a:e.aa.length=0
    ·have b:(e.aa.length:Int)=0:=by omega
     have t:=small (k:=0) a;have x:=AB a;simp only[go_sem,o,d,q]
     repeat' (first|with_reducible rfl|((first|rw[gk]|rw[gp]|rw[gj]|rw[gm]);split<;>simp only[go_sem,dB, *]))
     all_goals simp_all[sj]
    ·have b:¬(e.aa.length:Int)=0:=by omega
     simp only[go_sem,o,d,q]
     repeat' (first|with_reducible rfl|((first|rw[gk]|rw[gp]|rw[gj]|rw[gm]);split<;>simp only[go_sem,dB, *]))
     all_goals simp_all[sj]
  by_cases g:e.op=4
  ·have m:gr e=(Z' (e.aa.length=0) && ((Z' (e.num=0)) && (Z' (e.text.size=0) && lU e.path))):=by simp[gr,tD,qX,fO,g]
   rw[g]at small;by_cases a:e.aa.length=0
   ·have b:(e.aa.length:Int)=0:=by omega
    have t:=small (k:=0) a;have x:=AB a;simp only[go_sem,o,g]
    repeat' (first|with_reducible rfl|((first|rw[gk]|rw[gp]|rw[gj]|rw[gm]);split<;>simp only[go_sem,dB, *]))
    all_goals simp_all[sj]
   ·have b:¬(e.aa.length:Int)=0:=by omega
    simp only[go_sem,o,g]
    repeat' (first|with_reducible rfl|((first|rw[gk]|rw[gp]|rw[gj]|rw[gm]);split<;>simp only[go_sem,dB, *]))
    all_goals simp_all[sj]
  cases l:fO 5 15 e.op with
  |false=>
   have m:gr e=J:=by
    have:fO 1 15 e.op=J:=by
     rw[ej]at l ⊢;intro h
     apply l
     have:=(gP _ _ _).1 h;exact (gP _ _ _).2 (by omega)
    simp[gr,this]
   have D:sj e=J:=by simp[sj,m]
   simp only[go_sem,C8,j,i,d,g,l,D]
  |true=>
   have L:=(gP _ _ _).1 l;have A:fO 1 15 e.op=I:=(gP _ _ _).2 (by omega);by_cases f:e.op=5
   ·have m:gr e=(Z' (e.aa.length=1) && ((Z' (e.num=0)) && (Z' (e.text.size=0) && zp e.path))):=by simp[gr,tD,qX,fO,f]
    by_cases a:e.aa.length=1
    ·have b:(e.aa.length:Int)=1:=by omega
     rw[b,f]at c;cases r:vA e.aa with
     |false=>
      rw[r]at c;simp only[go_sem]at c;simp only[go_sem,C8,f]
      repeat' (first|with_reducible rfl|((first|rw[gk]|rw[gp]|rw[gj]|rw[gm]);split<;>simp only[go_sem,dB, *]))
      all_goals simp_all[sj]
     |true=>
      rw[r]at c;simp only[go_sem]at c;simp only[go_sem,C8,f]
      repeat' (first|with_reducible rfl|((first|rw[gk]|rw[gp]|rw[gj]|rw[gm]);split<;>simp only[go_sem,dB, *]))
      all_goals simp_all[sj]
    ·have b:¬(e.aa.length:Int)=1:=by omega
     simp only[go_sem,C8,f]
     repeat' (first|with_reducible rfl|((first|rw[gk]|rw[gp]|rw[gj]|rw[gm]);split<;>simp only[go_sem,dB, *]))
     all_goals simp_all[sj]
   ·have H:qX e.op=2:=by unfold qX;rw[if_neg (by omega),if_neg f]
    have m:gr e=(Z' (e.aa.length=2) && ((Z' (e.num=0)) && (Z' (e.text.size=0) && zp e.path))):=by simp[gr,tD,H,A,j,i,d,g]
    by_cases a:e.aa.length=2
    ·have b:(e.aa.length:Int)=2:=by omega
     rw[b]at c;cases r:vA e.aa with
     |false=>
      rw[r]at c;simp only[go_sem]at c;simp only[go_sem,C8,j,i,d,g,f,l]
      repeat' (first|with_reducible rfl|((first|rw[gk]|rw[gp]|rw[gj]|rw[gm]);split<;>simp only[go_sem,dB, *]))
      all_goals simp_all[sj]
     |true=>
      rw[r]at c;simp only[go_sem]at c;simp only[go_sem,C8,j,i,d,g,f,l]
      repeat' (first|with_reducible rfl|((first|rw[gk]|rw[gp]|rw[gj]|rw[gm]);split<;>simp only[go_sem,dB, *]))
      all_goals simp_all[sj]
    ·have b:¬(e.aa.length:Int)=2:=by omega
     simp only[go_sem,C8,j,i,d,g,f,l]
     repeat' (first|with_reducible rfl|((first|rw[gk]|rw[gp]|rw[gj]|rw[gm]);split<;>simp only[go_sem,dB, *]))
     all_goals simp_all[sj]
theorem an0{e:dv}(a:ee (cu e)<=mg):G 208 (cu e)=Z (0,[.bool (sj e)]):=afZ _ e (aP _) a
end
section
theorem abR{n:Nat}(h:∀e:dv,aw e < n->ee (cu e)<=mg->G 267 (cu e)=Z (0,[.bool (sj e)])){e:dv}(k:aw e < n+1)(f:ee (cu e)<=mg) :
  cm (lB G FK) (0,[cZ e.aa,E e.aa.length,E 0])=Z (if vA e.aa=I then (1,[cZ e.aa,E e.aa.length,E e.aa.length,.bool J]) else (0,[.bool J])):=by
 have a:e.aa.length<=mg:=aG tH f;rw[Hr];exact nb (b:=lB G FK) e.aa (λi=>(0,[cZ e.aa,E e.aa.length,E (i:Int)])) sj _ _ (by
  intro i x c;have g:=bp c;have j:=wj g a;have d:=h x (by have:=dv.BQ (bc c);omega) (aG (BR (bc c)) f);rw[bT]at d;simp only[go_sem,bG,FK,g,aX,c,jY];simp only[go_sem,bT x,d];cases sj x<;>simp only[go_sem,j]) (by simp only[go_sem,bG,FK,aC])
theorem n2:((2:Nat):Int)=2:=(rfl)
attribute [go_sem] n1 n2
theorem ag4{p:nG}(h:lU p=I):wrt p=(!(!p.root && (Z' (p.oY=0) && JM p)) && !(p.root && p.steps.isEmpty)):=by
 obtain⟨c,b,a⟩:=OL h;unfold wrt
 congr 1
 have:Z' (0 < p.oY)=!Z' (p.oY=0):=by rw[cR];simp;omega
 rw[this];cases p.root<;>cases Z' (p.oY=0)<;>cases JM p<;>rfl
theorem age(n:Nat):∀e:dv,aw e < n->ee (cu e)<=mg->G 267 (cu e)=Z (0,[.bool (sj e)]):=by
 induction n with
 |zero=>intro e h;omega
 |succ n v=>
  intro e w x;have a:=abR v w x;have P:=pn e;have H:=acL (s:=e.text) (by omega);have m:=aon (p:=e.path) (by omega);have o:=aol e.path;rw[ib]at m o;refine ct t267 (by rw[bT];rfl) ?_;simp only[go_sem,t267,bT];by_cases k:e.op=1
  ·clear v a w x;have r:gr e=(Z' (e.aa.length=0) && ((Z' (e.text.size=0)) && (zp e.path && fO 0 1000000000 e.num))):=by simp[gr,tD,qX,fO,k]
   have D:e.aa.length=0->vA e.aa=I:=AB;have f:e.aa.isEmpty=Z' (e.aa.length=0):=by cases e.aa<;>simp
   unfold fO at r;simp only[go_sem,tJ,k,f]
   repeat' (first|with_reducible rfl|((first|rw[gk]|rw[gp]|rw[gj]|rw[gm]);split<;>simp only[go_sem,dB, *]))
   all_goals simp_all[sj]
  by_cases j:e.op=2
  ·clear v a w x;have r:gr e=(Z' (e.aa.length=0) && ((Z' (e.num=0)) && (zp e.path && jc e.text))):=by simp[gr,tD,qX,fO,j]
   have D:e.aa.length=0->vA e.aa=I:=AB;have f:e.aa.isEmpty=Z' (e.aa.length=0):=by cases e.aa<;>simp
   simp only[go_sem,tJ,j,f]
   repeat' (first|with_reducible rfl|((first|rw[gk]|rw[gp]|rw[gj]|rw[gm]);split<;>simp only[go_sem, *]))
   all_goals simp_all[sj]
  by_cases i:e.op=4
  ·clear v a w x;have r:gr e=(Z' (e.aa.length=0) && ((Z' (e.num=0)) && (Z' (e.text.size=0) && lU e.path))):=by simp[gr,tD,qX,fO,i]
   have D:e.aa.length=0->vA e.aa=I:=AB;have f:e.aa.isEmpty=Z' (e.aa.length=0):=by cases e.aa<;>simp
   simp only[go_sem,tJ,i,f]
   repeat' (first|with_reducible rfl|((first|rw[gk]|rw[gp]|rw[gj]|rw[gm]);split<;>simp only[go_sem,dB, *]))
   all_goals simp_all[sj]
  by_cases d:e.op=3
  ·clear v a w x;have r:gr e=(Z' (e.aa.length=0) && ((Z' (e.num=0)) && (Z' (e.text.size=0) && (lU e.path && wrt e.path)))):=by simp[gr,tD,qX,fO,d]
   have D:e.aa.length=0->vA e.aa=I:=AB;have f:e.aa.isEmpty=Z' (e.aa.length=0):=by cases e.aa<;>simp
   have N:lU e.path=I->wrt e.path=(!(!e.path.root && (Z' (e.path.oY=0) && JM e.path)) && !(e.path.root && e.path.steps.isEmpty)):=ag4;cases B:e.path.steps with
   |nil=>
    have K:JM e.path=J:=by simp[JM,B]
    rw[B]at m;cases g:e.path.root with
    |true=>
     rw[g]at m o;simp only[go_sem,tJ,d,f]
     repeat' (first|with_reducible rfl|((first|rw[gk]|rw[gp]|rw[gj]|rw[gm]);split<;>simp only[go_sem,dB, *]))
     all_goals simp_all[sj]
    |false=>
     rw[g]at m o;simp only[go_sem,tJ,d,f]
     repeat' (first|with_reducible rfl|((first|rw[gk]|rw[gp]|rw[gj]|rw[gm]);split<;>simp only[go_sem,dB, *]))
     all_goals simp_all[sj]
   |cons s l=>
    have K:JM e.path=(Z' (s.aj=orA) ||decide (s.aj=WU)):=by simp[JM,B]
    rw[B]at m;cases g:e.path.root with
    |true=>
     rw[g]at m o;simp only[go_sem,tJ,d,f,aaE,RY]
     repeat' (first|with_reducible rfl|((first|rw[gk]|rw[gp]|rw[gj]|rw[gm]);split<;>simp only[go_sem,dB,aW,iO, *]))
     all_goals simp_all[sj]
     all_goals omega
    |false=>
     rw[g]at m o;simp only[go_sem,tJ,d,f,aaE,RY]
     repeat' (first|with_reducible rfl|((first|rw[gk]|rw[gp]|rw[gj]|rw[gm]);split<;>simp only[go_sem,dB,aW,iO, *]))
     all_goals simp_all[sj]
  cases y:fO 5 15 e.op with
  |false=>
   have C:fO 1 15 e.op=J:=by
    rw[ej]at y ⊢;intro h
    apply y
    have:=(gP _ _ _).1 h;exact (gP _ _ _).2 (by omega)
   have F:sj e=J:=by simp[sj,gr,C]
   have R:¬(5<=e.op/\e.op<=15):=λh=>by rw[(gP _ _ _).2 h]at y;cases y
   have b:¬e.op=5:=by omega
   by_cases q:e.op < 1
   ·simp only[go_sem,k,j,d,i,b,F,q]
   ·have t:15 < e.op:=by omega
    simp only[go_sem,k,j,d,i,b,F,q,t]
  |true=>
   have Q:=(gP _ _ _).1 y;have C:fO 1 15 e.op=I:=(gP _ _ _).2 (by omega);have q:¬e.op < 1:=by omega
   have t:¬15 < e.op:=by omega
   by_cases b:e.op=5
   ·have r:gr e=(Z' (e.aa.length=1) && ((Z' (e.num=0)) && (Z' (e.text.size=0) && zp e.path))):=by simp[gr,tD,qX,fO,b]
    by_cases f:e.aa.length=1
    ·have c:(e.aa.length:Int)=1:=by omega
     rw[c]at a;cases A:vA e.aa with
     |false=>
      rw[A]at a;simp only[go_sem]at a;simp only[go_sem,b,c]
      repeat' (first|with_reducible rfl|((first|rw[gk]|rw[gp]|rw[gj]|rw[gm]);split<;>simp only[go_sem,dB, *]))
      all_goals simp_all[sj]
     |true=>
      rw[A]at a;simp only[go_sem]at a;simp only[go_sem,b,c]
      repeat' (first|with_reducible rfl|((first|rw[gk]|rw[gp]|rw[gj]|rw[gm]);split<;>simp only[go_sem,dB, *]))
      all_goals simp_all[sj]
    ·have c:¬(e.aa.length:Int)=1:=by omega
     simp only[go_sem,b,c]
     repeat' (first|with_reducible rfl|((first|rw[gk]|rw[gp]|rw[gj]|rw[gm]);split<;>simp only[go_sem,H,m,o,ba0,dB,Mw,tJ,b,c, *]))
     all_goals simp_all[sj]
   ·have L:qX e.op=2:=by unfold qX;rw[if_neg (by omega),if_neg b]
    have r:gr e=(Z' (e.aa.length=2) && ((Z' (e.num=0)) && (Z' (e.text.size=0) && zp e.path))):=by simp[gr,tD,L,C,k,j,d,i]
    by_cases f:e.aa.length=2
    ·have c:(e.aa.length:Int)=2:=by omega
     rw[c]at a;cases A:vA e.aa with
     |false=>
      rw[A]at a;simp only[go_sem]at a;simp only[go_sem,k,j,d,i,b,q,t,c]
      repeat' (first|with_reducible rfl|((first|rw[gk]|rw[gp]|rw[gj]|rw[gm]);split<;>simp only[go_sem,dB, *]))
      all_goals simp_all[sj]
     |true=>
      rw[A]at a;simp only[go_sem]at a;simp only[go_sem,k,j,d,i,b,q,t,c]
      repeat' (first|with_reducible rfl|((first|rw[gk]|rw[gp]|rw[gj]|rw[gm]);split<;>simp only[go_sem,dB, *]))
      all_goals simp_all[sj]
    ·have c:¬(e.aa.length:Int)=2:=by omega
     simp only[go_sem,k,j,d,i,b,q,t,c]
     repeat' (first|with_reducible rfl|((first|rw[gk]|rw[gp]|rw[gj]|rw[gm]);split<;>simp only[go_sem,H,m,o,ba0,dB,Mw,tJ,k,j,d,i,b,q,t,c, *]))
     all_goals simp_all[sj]
theorem aoo{e:dv}(a:ee (cu e)<=mg):G 267 (cu e)=Z (0,[.bool (sj e)]):=age _ e (aP _) a
def qV(e:dv):Bool:=Z' (dep e<=8) && sj e
theorem an1{e:dv}(a:ee (cu e)<=mg):G 209 (cu e)=Z (0,[.bool (qV e)]):=by
 have c:=anW a;have b:=an0 a;have d:Z' (((dep e:Nat):Int)<=8)=Z' (dep e<=8):=VD (dep e) 8;rw[bT]at c b;refine ct t209 (by rw[bT];rfl) ?_;simp only[go_sem,t209,bT,c,d];unfold qV;cases hd:Z' (dep e<=8)<;>simp only[go_sem,b]
theorem aop{e:dv}(a:ee (cu e)<=mg):G 268 (cu e)=Z (0,[.bool (qV e)]):=by
 have c:=aok a;have b:=aoo a;have d:Z' (((dep e:Nat):Int)<=8)=Z' (dep e<=8):=VD (dep e) 8;rw[bT]at c b;refine ct t268 (by rw[bT];rfl) ?_;simp only[go_sem,t268,bT,c,d];unfold qV;cases hd:Z' (dep e<=8)<;>simp only[go_sem,b]
def HH(l:M dv)(QZ:Nat):Bool:=l.all qV && Z' (l.length<=QZ)
theorem akO{l:M dv}{m:Nat}(f:bK cu l<=mg):G 210 [cZ l,E (m:Int)]=Z (0,[.bool (HH l m)]):=by
 have a:l.length<=mg:=by simp only[bK]at f;omega
 refine ct t210 rfl ?_;simp only[go_sem,t210];have g:=nb (b:=lB G KN) l (λi=>(0,[cZ l,E (m:Int),E (i:Int)])) qV (1,[cZ l,E (m:Int),E l.length,.bool J]) (0,[.bool J]) (by
  intro i x c;have h:=bp c;have j:=wj h a;have d:=an1 (e:=x) (fD f (bc c)).1;rw[bT]at d;simp only[go_sem,bG,KN,h,aX,c,jY];simp only[go_sem,bT x,d];cases qV x<;>simp only[go_sem,j]) (by simp only[go_sem,bG,KN,aC])
 rw[n0]at g;rw[g,HH];cases l.all qV<;>simp only[go_sem,VD]
theorem ak7{l:M dv}{m:Nat}(f:bK cu l<=mg):G 269 [cZ l,E (m:Int)]=Z (0,[.bool (HH l m)]):=by
 have a:l.length<=mg:=by simp only[bK]at f;omega
 refine ct t269 rfl ?_;simp only[go_sem,t269];have g:=nb (b:=lB G K7) l (λi=>(0,[cZ l,E (m:Int),cZ l,E l.length,E (i:Int)])) qV (1,[cZ l,E (m:Int),cZ l,E l.length,E l.length,.bool J]) (0,[.bool J]) (by
  intro i x c;have h:=bp c;have j:=wj h a;have d:=aop (e:=x) (fD f (bc c)).1;rw[bT]at d;simp only[go_sem,bG,K7,h,aX,c,jY];simp only[go_sem,bT x,d];cases qV x<;>simp only[go_sem,j]) (by simp only[go_sem,bG,K7,aC])
 rw[n0]at g;rw[g,HH];cases l.all qV<;>simp only[go_sem,VD]
end
section
def lo0(l:M j6):Bool:=match l with
 |r::_=>Z' (0<=r.lo)
 |[]=>I
def AM(a:z->Bool)(t:gK):Bool:=
 if t.aq=1 then Et t.ranges && (t.names.isEmpty && (Z' (t.pattern.size=0) && Z' (t.path.size=0)))
 else if t.aq=2 then Et t.ranges && (lo0 t.ranges && ((Z' (t.pattern.size=0) ||a t.pattern) && (t.names.isEmpty && Z' (t.path.size=0))))
 else if t.aq=4 then fO 1 6 t.names.length && (t.ranges.isEmpty && (Z' (t.pattern.size=0) && Z' (t.path.size=0)))
 else if t.aq=5 then jc t.path && (!Z' (t.path.size=0) && (t.ranges.isEmpty && (t.names.isEmpty && Z' (t.pattern.size=0))))
 else if t.aq=3\/t.aq=6 then t.ranges.isEmpty && (t.names.isEmpty && (Z' (t.pattern.size=0) && Z' (t.path.size=0)))
 else J
def uU(l:M z):Bool:=um l && l.all isName
def isType(a:z->Bool)(t:gK):Bool:=uU t.names && AM a t
theorem NI(l:M z)(v:z):nS l v=!(l.all λx=>!Z' (x=v)):=by
 induction l with
 |nil=>rfl
 |cons x l c=>
  simp only[nS,nB,cX]at c ⊢;rw[c,decide_eq_decide.2 (eq_comm (a:=v) (b:=x))];cases Z' (x=v)<;>simp
theorem Q4(l:M z):uU l=allI (λk e=>((l.take k).all λx=>!Z' (x=e)) && isName e) 0 l:=by
 have h:=Ep (λk (e:z)=>(l.take k).all λx=>!Z' (x=e)) (λ_ e=>isName e) 0 l;rw[uU,h,vM,um]
 congr 2
 funext i e
 rw[NI,fM]
section
variable {kd:Int} {rs:D} {pt ph:z}
theorem Vn{l:M z}{e:z}{k:Nat}(a:nth l k=Z e)(h:bK fe l<=mg) :
  cm (lB G B4) (0,[E (k:Int),E 0,E kd,rs,bu l,.str pt,.str ph]) =
   Z (if (l.take k).all (λx=>!Z' (x=e))=I then (1,[E (k:Int),E (k:Int),.bool J,E kd,rs,bu l,.str pt,.str ph]) else (0,[.bool J])):=by
 have m:=bp a;have c:l.length<=mg:=by simp only[bK]at h;omega
 have d:=rV (b:=lB G B4) (λj=>(0,[E (k:Int),E (j:Int),E kd,rs,bu l,.str pt,.str ph])) (atB (λx=>!Z' (x=e)) l) k
  (1,[E (k:Int),E (k:Int),.bool J,E kd,rs,bu l,.str pt,.str ph]) (0,[.bool J]) (by
  intro j f;have a1:=cI (l:=l) (i:=j) (by omega);have g:=wj (i:=j) (n:=k) f (by omega);generalize l[j]'(by omega)=x at a1;simp only[go_sem,bG,B4,f,aX,a,a1,fe,atB];cases o:Z' (x=e)<;>simp only[go_sem,g]) (by simp only[go_sem,bG,B4,aC]) k 0 (by omega)
 rw[n0]at d;rw[d,zK _ l k 0 (by omega),bm]
theorem Vo{l:M z}(d:bK fe l<=mg) :
  cm (lB G FD) (0,[E 0,E kd,rs,bu l,.str pt,.str ph]) =
   Z (if uU l=I then (1,[E l.length,.bool J,E kd,rs,bu l,.str pt,.str ph]) else (0,[.bool J])):=by
 have a:l.length<=mg:=by simp only[bK]at d;omega
 have f:=nP (b:=lB G FD) l (λk=>(0,[E (k:Int),E kd,rs,bu l,.str pt,.str ph])) (λk e=>((l.take k).all λx=>!Z' (x=e)) && isName e)
  (1,[E l.length,.bool J,E kd,rs,bu l,.str pt,.str ph]) (0,[.bool J]) (by
  intro k e c;have g:=bp c;have h:=wj g a;have i:=acI (s:=e) (by have:=Mb l (bc c);omega);simp only[go_sem,bG,FD,g,Vn c d];cases j:(l.take k).all (λx=>!Z' (x=e)) with
  |false=>simp only[go_sem]
  |true=>
   simp only[go_sem,aX,c,fe,i];cases m:isName e<;>simp only[go_sem,h]) (by simp only[go_sem,bG,FD,aC]) l.length 0 (by omega)
 rw[n0,bm]at f;rw[f,Q4]
end
theorem akX{a:z->Bool}(n:∀s:z,s.size<=mg->G 227 [.str s]=Z (0,[.bool (a s)])){t:gK}(k:ee (ew t)<=mg):G 228 (ew t)=Z (0,[.bool (isType a t)]):=by
 rw[rn]at k;have d:=an3 (l:=t.ranges) (by simp only[bK]at k;omega);have q:=n t.pattern (by omega);have o:=acJ (s:=t.path) (by omega);refine ct t228 rfl ?_;simp only[go_sem,t228,ew,Vo (l:=t.names) (by omega)];cases m:uU t.names with
 |false=>simp only[go_sem,m,isType]
 |true=>
  simp only[go_sem,m,isType,Mw];by_cases i:t.aq=1
  ·have b:AM a t=(Et t.ranges && (t.names.isEmpty && (Z' (t.pattern.size=0) && Z' (t.path.size=0)))):=by simp[AM,i]
   simp only[go_sem,d,i]
   repeat' (first|with_reducible rfl|((first|rw[gk]|rw[gp]|rw[gj]|rw[gm]);split<;>simp only[go_sem,dB, *]))
   all_goals simp_all
  by_cases c:t.aq=2
  ·have b:AM a t=(Et t.ranges && (lo0 t.ranges && ((Z' (t.pattern.size=0) ||a t.pattern) && (t.names.isEmpty && Z' (t.path.size=0))))):=by simp[AM,c]
   cases j:t.ranges with
   |nil=>
    have p:lo0 t.ranges=I:=by rw[j];rfl
    rw[j]at d;simp only[go_sem,d,c,g_]
    repeat' (first|with_reducible rfl|((first|rw[gk]|rw[gp]|rw[gj]|rw[gm]);split<;>simp only[go_sem,dB, *]))
    all_goals simp_all
   |cons r l=>
    have p:lo0 t.ranges=Z' (0<=r.lo):=by rw[j];rfl
    rw[j]at d;simp only[go_sem,d,c,iG]
    repeat' (first|with_reducible rfl|((first|rw[gk]|rw[gp]|rw[gj]|rw[gm]);split<;>simp only[go_sem,dB,aW,k9, *]))
    all_goals simp_all
  by_cases g:t.aq=4
  ·have b:AM a t=(fO 1 6 t.names.length && (t.ranges.isEmpty && (Z' (t.pattern.size=0) && Z' (t.path.size=0)))):=by simp[AM,g]
   simp only[go_sem,C8,g]
   repeat' (first|with_reducible rfl|((first|rw[gk]|rw[gp]|rw[gj]|rw[gm]);split<;>simp only[go_sem,dB, *]))
   all_goals simp_all
  by_cases f:t.aq=5
  ·have b:AM a t=(jc t.path && (!Z' (t.path.size=0) && (t.ranges.isEmpty && (t.names.isEmpty && Z' (t.pattern.size=0))))):=by simp[AM,f]
   simp only[go_sem,o,f]
   repeat' (first|with_reducible rfl|((first|rw[gk]|rw[gp]|rw[gj]|rw[gm]);split<;>simp only[go_sem,dB, *]))
   all_goals simp_all
  by_cases h:t.aq=3
  ·have b:AM a t=(t.ranges.isEmpty && (t.names.isEmpty && (Z' (t.pattern.size=0) && Z' (t.path.size=0)))):=by simp[AM,h]
   simp only[go_sem,h]
   repeat' (first|with_reducible rfl|((first|rw[gk]|rw[gp]|rw[gj]|rw[gm]);split<;>simp only[go_sem,dB, *]))
   all_goals simp_all
  by_cases e:t.aq=6
  ·have b:AM a t=(t.ranges.isEmpty && (t.names.isEmpty && (Z' (t.pattern.size=0) && Z' (t.path.size=0)))):=by simp[AM,e]
   simp only[go_sem,e]
   repeat' (first|with_reducible rfl|((first|rw[gk]|rw[gp]|rw[gj]|rw[gm]);split<;>simp only[go_sem,dB, *]))
   all_goals simp_all
  have b:AM a t=J:=by simp[AM,i,c,h,g,f,e]
  simp only[go_sem,i,c,h,g,f,e,b]
end
section
def zT(t:gK):Bool:=Z' (t.aq=0) && (t.ranges.isEmpty && (t.names.isEmpty && (Z' (t.pattern.size=0) && Z' (t.path.size=0))))
theorem aoq(t:gK):G 270 (ew t)=Z (0,[.bool (zT t)]):=by
 refine ct t270 rfl ?_;simp only[go_sem,t270,ew]
 repeat' (first|with_reducible rfl|((first|rw[gk]|rw[gp]|rw[gj]|rw[gm]);split<;>simp only[go_sem,tJ,dB, *]))
 all_goals simp_all[zT]
theorem akP(t:gK):G 211 (ew t)=Z (0,[.bool (zT t)]):=by
 refine ct t211 rfl ?_;simp only[go_sem,t211,ew]
 repeat' (first|with_reducible rfl|((first|rw[gk]|rw[gp]|rw[gj]|rw[gm]);split<;>simp only[go_sem,tJ,dB, *]))
 all_goals simp_all[zT]
theorem GA{l:M z}(h:l.isEmpty=I):uU l=I:=by rw[List.isEmpty_iff.1 h];rfl
theorem WX{l:M j6}(h:l.isEmpty=I):Et l=I:=by rw[List.isEmpty_iff.1 h];rfl
theorem alc{a:z->Bool}(e:∀s:z,s.size<=mg->G 285 [.str s]=Z (0,[.bool (a s)])){t:gK}(b:ee (ew t)<=mg):G 286 (ew t)=Z (0,[.bool (isType a t)]):=by
 rw[rn]at b;have c:=aos (l:=t.ranges) (by simp only[bK]at b;omega);have i:=e t.pattern (by omega);have h:=acL (s:=t.path) (by omega);have g:=agf (l:=t.names) (by omega);have f:=VV (l:=t.names) (by simp only[bK]at b;omega);refine ct t286 rfl ?_;simp only[go_sem,isType,t286,ew];by_cases k:t.aq=1
 ·have d:AM a t=(Et t.ranges && (t.names.isEmpty && (Z' (t.pattern.size=0) && Z' (t.path.size=0)))):=by simp[AM,k]
  simp only[go_sem,Mw,k]
  repeat' (first|with_reducible rfl|((first|rw[gk]|rw[gp]|rw[gj]|rw[gm]);split<;>simp only[go_sem,dB, *]))
  all_goals clear c i h g f e b
  all_goals simp_all[GA]
 by_cases j:t.aq=2
 ·have d:AM a t=(Et t.ranges && (lo0 t.ranges && ((Z' (t.pattern.size=0) ||a t.pattern) && (t.names.isEmpty && Z' (t.path.size=0))))):=by simp[AM,j]
  cases m:t.ranges with
  |nil=>
   have v:lo0 t.ranges=I:=by rw[m];rfl
   rw[m]at c;simp only[go_sem,Mw,j]
   repeat' (first|with_reducible rfl|((first|rw[gk]|rw[gp]|rw[gj]|rw[gm]);split<;>simp only[go_sem,dB,bD, *]))
   all_goals clear c i h g f e b
   all_goals simp_all[GA,WX]
  |cons r l=>
   have v:lo0 t.ranges=Z' (0<=r.lo):=by rw[m];rfl
   rw[m]at c;simp only[go_sem,Mw,j]
   repeat' (first|with_reducible rfl|((first|rw[gk]|rw[gp]|rw[gj]|rw[gm]);split<;>simp only[go_sem,dB,aW,k9, *]))
   all_goals clear c i h g f e b
   all_goals simp_all[GA]
   all_goals omega
 by_cases p:t.aq=4
 ·have d:AM a t=(fO 1 6 t.names.length && (t.ranges.isEmpty && (Z' (t.pattern.size=0) && Z' (t.path.size=0)))):=by simp[AM,p]
  unfold fO at d;unfold uU;simp only[go_sem,Mw,p]
  repeat' (first|with_reducible rfl|((first|rw[gk]|rw[gp]|rw[gj]|rw[gm]);split<;>simp only[go_sem,dB, *]))
  all_goals clear c i h g f e b
  all_goals simp_all[GA,WX]
 by_cases o:t.aq=5
 ·have d:AM a t=(jc t.path && (!Z' (t.path.size=0) && (t.ranges.isEmpty && (t.names.isEmpty && Z' (t.pattern.size=0))))):=by simp[AM,o]
  simp only[go_sem,Mw,o]
  repeat' (first|with_reducible rfl|((first|rw[gk]|rw[gp]|rw[gj]|rw[gm]);split<;>simp only[go_sem,dB,Mw, *]))
  all_goals clear c i h g f e b
  all_goals simp_all[GA]
 by_cases q:t.aq=3
 ·have d:AM a t=(t.ranges.isEmpty && (t.names.isEmpty && (Z' (t.pattern.size=0) && Z' (t.path.size=0)))):=by simp[AM,q]
  simp only[go_sem,Mw,q]
  repeat' (first|with_reducible rfl|((first|rw[gk]|rw[gp]|rw[gj]|rw[gm]);split<;>simp only[go_sem,dB,Mw, *]))
  all_goals clear c i h g f e b
  all_goals simp_all[GA]
 by_cases n:t.aq=6
 ·have d:AM a t=(t.ranges.isEmpty && (t.names.isEmpty && (Z' (t.pattern.size=0) && Z' (t.path.size=0)))):=by simp[AM,n]
  simp only[go_sem,Mw,n]
  repeat' (first|with_reducible rfl|((first|rw[gk]|rw[gp]|rw[gj]|rw[gm]);split<;>simp only[go_sem,dB,Mw, *]))
  all_goals clear c i h g f e b
  all_goals simp_all[GA]
 have d:AM a t=J:=by simp[AM,k,j,q,p,o,n]
 simp only[go_sem,Mw,k,j,d]
 repeat' (first|with_reducible rfl|((first|rw[gk]|rw[gp]|rw[gj]|rw[gm]);split<;>simp only[go_sem,dB,Mw, *]))
end
section
def oy:z:=⟨#[116,114,117,101]⟩
def la:z:=⟨#[102,97,108,115,101]⟩
def DB:z:=⟨#[49]⟩
def vp:z:=⟨#[48]⟩
theorem Mj:(⟨[116,114,117,101].toArray⟩:z)=oy:=(rfl)
theorem Hl:(⟨[102,97,108,115,101].toArray⟩:z)=la:=(rfl)
theorem RZ:(⟨[49].toArray⟩:z)=DB:=(rfl)
theorem Ml:(⟨[48].toArray⟩:z)=vp:=(rfl)
def mc(s:z):z:=if s=DB then oy else if s=vp then la else s
def nh(mt:z->z->Bool)(t:gK)(s:z):u z:=
 if t.aq=1 then (match PB s with
  |some n=>if Tc t.ranges n=I then Z (yG n) else O
  |none=>O)
 else if t.aq=2 then (if (jc s && (Tc t.ranges s.size && (Z' (t.pattern.size=0) ||mt t.pattern s)))=I then Z s else O)
 else if t.aq=3 then (if (Z' (mc s=oy) ||decide (mc s=la))=I then Z (mc s) else O)
 else if t.aq=4 then (if nS t.names s=I then Z s else O)
 else if t.aq=5 then (if (jc s && !Z' (s.size=0))=I then Z s else O)
 else if t.aq=6 then (if s.size=0 then Z s else O)
 else O
def Bm(a:z->Bool)(mt:z->z->Bool)(t:gK)(s:z):u z:=if isType a t=I then nh mt t s else O
def gz:u z->M D
 |some v=>[.str v,.bool I]
 |none=>[.str ⟨#[]⟩,.bool J]
theorem yi{l:M z}{i:Nat}{e s:z}(h:nth l i=Z e):((l.take (i+1)).any λx=>Z' (x=s))=(((l.take i).any λx=>Z' (x=s)) ||decide (e=s)):=by
 rw[bZ l i e h,List.any_append];simp
theorem NJ(l:M z)(s:z):(l.any λx=>Z' (x=s))=nS l s:=by
 unfold nS
 congr 1
 funext x
 exact decide_eq_decide.2 eq_comm
theorem abQ{l:M z}{s o pt ph:z}{kd:Int}{rs:D}(hlen:l.length<=mg) :
  cm (lB G FF) (0,[.str s,.str o,.bool J,E 0,E kd,rs,bu l,.str pt,.str ph])=Z (0,[.str s,.str o,.bool (nS l s),E l.length,.bool J,E kd,rs,bu l,.str pt,.str ph]):=by
 have c:=cN (b:=lB G FF) l (λi (b:Bool)=>(0,[.str s,.str o,.bool b,E (i:Int),E kd,rs,bu l,.str pt,.str ph])) (λi=>(l.take i).any λx=>Z' (x=s))
  (0,[.str s,.str o,.bool (l.any λx=>Z' (x=s)),E l.length,.bool J,E kd,rs,bu l,.str pt,.str ph]) (by
  intro i e a;have d:=bp a;have f:=wj d hlen;rw[yi a];cases g:(l.take i).any λx=>Z' (x=s)<;>simp only[go_sem,bG,FF,d,aX,a,fe,f]) (by simp only[go_sem,bG,FF,aC,aR]) l.length 0 (by omega)
 rw[n0,aV,List.any_nil,NJ]at c;exact c
theorem akZ{d:z->Bool}{mt:z->z->Bool}(P:∀s:z,s.size<=mg->G 227 [.str s]=Z (0,[.bool (d s)]))(Q:∀p s:z,p.size<=mg->s.size<=mg->G 236 [.str p,.str s]=Z (0,[.bool (mt p s)]))
  {t:gK} {s:z} (L:ee (ew t)<=mg) (H:s.size<=mg):G 237 (ew t++[.str s])=Z (0,gz (Bm d mt t s)):=by
 have b:=akX P L;have F:=L;rw[rn]at F;have B:=an8 H;have R:=acJ H;have U:=akY (n:=0) (by omega);have T:=Q t.pattern s (by omega) H;have K:∀n:Int,G 232 [fU t.ranges,E n]=Z (0,[.bool (Tc t.ranges n)]):=λn=>an9 (by simp only[bK]at F;omega);have e:=abQ (l:=t.names) (s:=s) (o:=s) (pt:=t.pattern) (ph:=t.path) (kd:=t.aq) (rs:=fU t.ranges) (by simp only[bK]at F;omega);rw[ew]at b;refine ct t237 rfl ?_;simp only[go_sem,Mj,Hl,RZ,Ml,t237,ew];have fin:∀{r:u z},nh mt t s=r->Bm d mt t s=if isType d t=I then r else O:=λh=>by rw[Bm,h]
 clear P Q;by_cases j:t.aq=1
 ·rw[j]at b e;cases q:PB s with
  |none=>
   have a:=fin (r:=O) (by simp[nh,j,q]);rw[q]at B;clear fin e;cases c:isType d t<;>rw[c]at b a<;>simp only[go_sem,j,B,U,nV,a,gz]
  |some n=>
   have N:=akY (n:=n) (Jq q);rw[q]at B;cases C:Tc t.ranges n with
   |false=>
    have a:=fin (r:=O) (by simp[nh,j,q,C]);clear fin e;cases c:isType d t<;>rw[c]at b a<;>simp only[go_sem,K,j,B,N,C,nV,a,gz]
   |true=>
    have a:=fin (r:=Z (yG n)) (by simp[nh,j,q,C]);clear fin e;cases c:isType d t<;>rw[c]at b a<;>simp only[go_sem,K,j,B,N,C,nV,b,a,gz]
 by_cases y:t.aq=2
 ·rw[y]at b e;have a:=fin (r:=if (jc s && (Tc t.ranges s.size && (Z' (t.pattern.size=0) ||mt t.pattern s)))=I then Z s else O) (by simp[nh,y]);clear fin e;cases c:isType d t<;>rw[c]at b a<;>cases g:jc s<;>cases f:Tc t.ranges s.size<;>by_cases m:t.pattern.size=0<;>cases k:mt t.pattern s<;>rw[g,f,k]at a<;>simp only[go_sem,m]at a<;>simp only[go_sem,R,T,K,dB,y,g,f,m,k,b,a,gz]
 by_cases i:t.aq=3
 ·rw[i]at b e;have a:=fin (r:=if (Z' (mc s=oy) ||decide (mc s=la))=I then Z (mc s) else O) (by simp[nh,i]);clear fin e;have d1:¬DB=vp:=by decide
  have S:¬oy=la:=by decide
  have D:¬la=oy:=by decide
  have d4:¬vp=DB:=by decide
  have Y:¬oy=DB:=by decide
  have X:¬oy=vp:=by decide
  have W:¬la=DB:=by decide
  have V:¬la=vp:=by decide
  by_cases g:s=DB
  ·have A:mc s=oy:=by rw[mc,if_pos g]
   rw[A]at a;simp only[go_sem,S]at a;cases c:isType d t<;>rw[c]at b a<;>simp only[go_sem,i,g,b,gz]<;>(rw[g]at a;simp only[go_sem,a])
  by_cases f:s=vp
  ·have A:mc s=la:=by rw[mc,if_neg g,if_pos f]
   rw[A]at a;simp only[go_sem,D]at a;cases c:isType d t<;>rw[c]at b a<;>simp only[go_sem,i,f,D,d4,b,gz]<;>(rw[f]at a;simp only[go_sem,a])
  have A:mc s=s:=by rw[mc,if_neg g,if_neg f]
  rw[A]at a;by_cases m:s=oy
  ·simp only[go_sem,m,S]at a;cases c:isType d t<;>rw[c]at b a<;>simp only[go_sem,i,m,Y,X,b,gz]<;>simp only[go_sem,a]
  by_cases k:s=la
  ·simp only[go_sem,k,D]at a;cases c:isType d t<;>rw[c]at b a<;>simp only[go_sem,i,k,D,W,V,b,gz]<;>simp only[go_sem,a]
  simp only[go_sem,m,k,ite_self]at a;cases c:isType d t<;>rw[c]at b<;>simp only[go_sem,i,g,f,m,k,a,gz]
 by_cases x:t.aq=4
 ·rw[x]at b e;have a:=fin (r:=if nS t.names s=I then Z s else O) (by simp[nh,x]);clear fin;cases c:isType d t<;>rw[c]at b a<;>cases g:nS t.names s<;>rw[g]at e a<;>simp only[go_sem,x,e,b,a,gz]
 by_cases w:t.aq=5
 ·rw[w]at b e;have a:=fin (r:=if (jc s && !Z' (s.size=0))=I then Z s else O) (by simp[nh,w]);clear fin e;cases c:isType d t<;>rw[c]at b a<;>cases g:jc s<;>by_cases f:s.size=0<;>rw[g]at a<;>simp only[go_sem,f]at a<;>simp only[go_sem,R,dB,w,g,f,b,a,gz]
 by_cases v:t.aq=6
 ·rw[v]at b e;have a:=fin (r:=if s.size=0 then Z s else O) (by simp[nh,v]);clear fin e;cases c:isType d t<;>rw[c]at b a<;>by_cases f:s.size=0<;>simp only[go_sem,f]at a<;>simp only[go_sem,dB,v,f,b,a,gz]
 have a:=fin (r:=O) (by simp[nh,j,y,i,x,w,v]);clear fin e;cases c:isType d t<;>rw[c]at b a<;>simp only[go_sem,j,y,i,x,w,v,a,gz]
end
section
theorem ale{g:z->Bool}{mt:z->z->Bool}(K:∀s:z,s.size<=mg->G 285 [.str s]=Z (0,[.bool (g s)]))(L:∀p s:z,p.size<=mg->s.size<=mg->G 310 [.str p,.str s]=Z (0,[.bool (mt p s)]))
  {t:gK} {s:z} (D:ee (ew t)<=mg) (B:s.size<=mg):G 311 (ew t++[.str s])=Z (0,gz (Bm g mt t s)):=by
 have f:=alc K D;have A:=D;rw[rn]at A;have j:=aow B;have N:=acL B;have U:=ald 0;have T:=L t.pattern s (by omega) B;have C:∀n:Int,G 288 [fU t.ranges,E n]=Z (0,[.bool (Tc t.ranges n)]):=λn=>aox (by simp only[bK]at A;omega);have S:=q99 (l:=t.names) (v:=s) (by simp only[bK]at A;omega);rw[ew]at f;refine ct t311 rfl ?_;clear K L;cases y:isType g t with
 |false=>
  have a:Bm g mt t s=O:=by rw[Bm,y];rfl
  rw[y]at f;simp only[go_sem,Mj,Hl,RZ,Ml,t311,ew,f,a,gz]
 |true=>
 have H:Bm g mt t s=nh mt t s:=by rw[Bm,y];rfl
 rw[y]at f;rw[H];clear H;simp only[go_sem,Mj,Hl,RZ,Ml,t311,ew,f];clear f;by_cases e:t.aq=1
 ·cases h:PB s with
  |none=>
   have a:nh mt t s=O:=by simp[nh,e,h]
   rw[h]at j;simp only[go_sem,e,j,U,nV,a,gz]
  |some n=>
   have F:=ald n;rw[h]at j;cases x:Tc t.ranges n with
   |false=>
    have a:nh mt t s=O:=by simp[nh,e,h,x]
    simp only[go_sem,C,e,j,F,x,nV,a,gz]
   |true=>
    have a:nh mt t s=Z (yG n):=by simp[nh,e,h,x]
    simp only[go_sem,C,e,j,F,x,nV,a,gz]
 by_cases w:t.aq=2
 ·have a:nh mt t s=if (jc s && (Tc t.ranges s.size && (Z' (t.pattern.size=0) ||mt t.pattern s)))=I then Z s else O:=by simp[nh,w]
  cases b:jc s<;>cases c:Tc t.ranges s.size<;>by_cases m:t.pattern.size=0<;>cases k:mt t.pattern s<;>rw[b,c,k]at a<;>simp only[go_sem,m]at a<;>simp only[go_sem,N,T,C,dB,w,b,c,m,k,a,gz]
 by_cases d:t.aq=3
 ·have a:nh mt t s=if (Z' (mc s=oy) ||decide (mc s=la))=I then Z (mc s) else O:=by simp[nh,d]
  have d1:¬DB=vp:=by decide
  have R:¬oy=la:=by decide
  have Q:¬la=oy:=by decide
  have Y:¬vp=DB:=by decide
  have X:¬oy=DB:=by decide
  have P:¬oy=vp:=by decide
  have W:¬la=DB:=by decide
  have V:¬la=vp:=by decide
  by_cases b:s=DB
  ·have i:mc s=oy:=by rw[mc,if_pos b]
   rw[i]at a;rw[a];simp only[go_sem,d,b,R,P,gz]
  by_cases c:s=vp
  ·have i:mc s=la:=by rw[mc,if_neg b,if_pos c]
   rw[i]at a;rw[a];simp only[go_sem,d,c,Q,Y,gz]
  have i:mc s=s:=by rw[mc,if_neg b,if_neg c]
  rw[i]at a;rw[a];by_cases m:s=oy
  ·simp only[go_sem,d,m,R,X,P,gz]
  by_cases k:s=la
  ·simp only[go_sem,d,k,Q,W,V,gz]
  simp only[go_sem,d,b,c,m,k,gz]
 by_cases r:t.aq=4
 ·have a:nh mt t s=if nS t.names s=I then Z s else O:=by simp[nh,r]
  rw[a];cases b:nS t.names s<;>simp only[go_sem,S,r,b,gz]
 by_cases q:t.aq=5
 ·have a:nh mt t s=if (jc s && !Z' (s.size=0))=I then Z s else O:=by simp[nh,q]
  rw[a];cases b:jc s<;>by_cases c:s.size=0<;>simp only[go_sem,N,dB,q,b,c,gz]
 by_cases o:t.aq=6
 ·have a:nh mt t s=if s.size=0 then Z s else O:=by simp[nh,o]
  rw[a];by_cases c:s.size=0<;>simp only[go_sem,dB,o,c,gz]
 have a:nh mt t s=O:=by simp[nh,e,w,d,r,q,o]
 rw[a];simp only[go_sem,e,w,d,r,q,o,gz]
def isVal(a:z->Bool)(mt:z->z->Bool)(t:gK)(s:z):Bool:=match Bm a mt t s with
 |some v=>Z' (v=s)
 |none=>J
theorem ak0{a:z->Bool}{mt:z->z->Bool}(e:∀s:z,s.size<=mg->G 227 [.str s]=Z (0,[.bool (a s)]))(f:∀p s:z,p.size<=mg->s.size<=mg->G 236 [.str p,.str s]=Z (0,[.bool (mt p s)]))
  {t:gK} {s:z} (c:ee (ew t)<=mg) (d:s.size<=mg):G 238 (ew t++[.str s])=Z (0,[.bool (isVal a mt t s)]):=by
 have h:=akZ e f c d;rw[ew]at h;refine ct t238 rfl ?_;unfold isVal;cases b:Bm a mt t s with
 |none=>rw[b]at h;simp only[go_sem]at h;simp only[go_sem,t238,ew,h,gz]
 |some v=>rw[b]at h;simp only[go_sem]at h;simp only[go_sem,t238,ew,h,gz]
theorem alf{a:z->Bool}{mt:z->z->Bool}(e:∀s:z,s.size<=mg->G 285 [.str s]=Z (0,[.bool (a s)]))(f:∀p s:z,p.size<=mg->s.size<=mg->G 310 [.str p,.str s]=Z (0,[.bool (mt p s)]))
  {t:gK} {s:z} (c:ee (ew t)<=mg) (d:s.size<=mg):G 312 (ew t++[.str s])=Z (0,[.bool (isVal a mt t s)]):=by
 have h:=ale e f c d;rw[ew]at h;refine ct t312 rfl ?_;unfold isVal;cases b:Bm a mt t s with
 |none=>rw[b]at h;simp only[go_sem]at h;simp only[go_sem,t312,ew,h,gz]
 |some v=>rw[b]at h;simp only[go_sem]at h;simp only[go_sem,t312,ew,h,gz]
end
section
theorem uw{k β d f:Type}{b:d->u (Sg d f)}(es:M k)(g:k->β)(h:Nat->d)(c:Nat->M β->d)(p:f)(j:M β->f)
  (t:∀e,nth es 0=Z e->b (h 0)=Z (.go (c 1 [g e])))
  (s:∀i e,nth es i=Z e->0 < i->b (c i ((es.take i).map g))=Z (.go (c (i+1) ((es.take i).map g++[g e]))))
  (y:es=[]->b (h 0)=Z (.out p)) (w:es≠[]->b (c es.length (es.map g))=Z (.out (j (es.map g)))) :
  cm b (h 0)=Z (if es.isEmpty=I then p else j (es.map g)):=by
 cases a:es with
 |nil=>rw[bg (y a)];rfl
 |cons x l=>
  have v:es≠[]:=by rw[a];simp
  have go:∀m i,i+m=es.length->0 < i->cm b (c i ((es.take i).map g))=Z (j (es.map g)):=by
   intro m
   induction m with
   |zero=>
    intro i r o;obtain rfl:i=es.length:=by omega
    rw[aR];exact bg (w v)
   |succ m q=>
    intro i r o;have a1:=cI (l:=es) (i:=i) (by omega);rw[bY (s i _ a1 o),<- AF a1];exact q (i+1) (by omega) (by omega)
  have n:nth es 0=Z x:=by rw[a];rfl
  rw[bY (t x n)];have:=go (es.length - 1) 1 (by rw[a];simp;omega) (by omega);rw[AF n]at this;simp only[aV,bD,av]at this;rw[this,a];rfl
theorem eN(k a:Nat)(c:Bool)(es b:M (M D))(d:a<=65536)(h:es.length+b.length<=2147483648):aZ (.app k a) [.list k c es,.list k c b]=Z (.list k c (es++b)):=
 Rc k a c es b (of_eq_true (agH d h))
theorem q76{t:gK}(a:ee (ew t)<=mg):G 76 (ew t)=Z (0,ew t):=by
 rw[rn]at a;have c:=eN 2 16 I [] (t.ranges.map k9) (by decide) (by simp only[bK,mg,ay,aJ]at *;omega);have b:=eN 1 16 I [] (t.names.map fe) (by decide) (by simp only[bK,mg,ay,aJ]at *;omega);refine ct t76 rfl ?_;simp only[go_sem,t76,ew,c,b]
theorem q77{p:nG}(g:ee (ib p)<=mg):G 77 (ib p)=Z (0,ib p):=by
 rw[A4]at g;have c:p.steps.length<=mg:=by simp only[bK]at g;omega
 refine ct t77 rfl ?_;simp only[go_sem,t77,ib];have r:=uw (b:=lB G I7) p.steps (λe=>e) (λi=>(0,[E (i:Int),.bool p.root,E p.oY,dU p.steps,.bool J,E 0,.bool p.root,E p.oY]))
  (λi a=>(1,[E (i:Int),.bool p.root,E p.oY,dU p.steps,.bool J,E 0,.bool p.root,E p.oY,dU a]))
  (0,[E 0,.bool J,.bool p.root,E p.oY,dU p.steps,.bool J,E 0,.bool p.root,E p.oY])
  (λa=>(1,[E p.steps.length,.bool J,.bool p.root,E p.oY,dU p.steps,.bool J,E 0,.bool p.root,E p.oY,dU a])) (by
   intro e d;have f:=bp d;have k:=wj f c;have j:=(fD g (bc d)).1;rw[xg]at j;have q:=eN 2 32 I [] (e.gu.map pP) (by decide) (by simp only[bK,mg,ay,aJ]at *;omega);have o:aZ (.sV 2 J) [.str e.aj,jv e.gu]=Z (.list 2 J [[.str e.aj,jv e.gu]]):=by simp[aZ,chunk]
   have n:=eN 2 40 J [] [[.str e.aj,jv e.gu]] (by decide) (by simp);have m:aZ .pl [.str e.aj]=Z (.bool J):=rfl;simp only[go_sem,bG,I7,f,aX,d,iO,q,o,n,m,k];simp[dU,iO]) (by
   intro i e d v;have f:=bp d;have k:=wj f c;have j:=(fD g (bc d)).1;rw[xg]at j;have q:=eN 2 32 I [] (e.gu.map pP) (by decide) (by simp only[bK,mg,ay,aJ]at *;omega);have o:aZ (.sV 2 J) [.str e.aj,jv e.gu]=Z (.list 2 J [[.str e.aj,jv e.gu]]):=by simp[aZ,chunk]
   have n:=eN 2 40 J ((p.steps.take i).map iO) [[.str e.aj,jv e.gu]] (by decide) (by simp only[mg,ay,aY,aH,aJ]at *;omega);have m:aZ .pl [.str e.aj]=Z (.bool J):=rfl;simp only[go_sem,bG,I7,f,aX,d,iO,eR,q,o,n,m,k];simp[dU,iO]) (by
   intro h;simp only[go_sem,bG,I7,h,bD,n0,fy]) (by
   intro h;simp only[go_sem,bG,I7,aC,eR])
 rw[n0]at r;rw[r];cases t:p.steps with
 |nil=>simp only[go_sem,g_,bD];rfl
 |cons s l=>simp only[go_sem,iG,eR]
theorem jN(k:Nat)(a:M D)(h:a.length=k)(b:0 < k):aZ (.sV k J) a=Z (.list k J [a]):=by
 have e:a.length / k=1:=by rw[h];exact Nat.div_self b
 have d:a.length % k=0:=by rw[h];exact Nat.mod_self k
 have c:chunk k 1 a=Z [a]:=by
  simp only[chunk];rw[if_pos (by omega),fN (by omega),je (by omega)];rfl
 simp only[aZ,e,d,c,if_true];rw[if_pos (λh=>by cases h)]
theorem alm(n:Nat):∀e:dv,aw e < n->ee (cu e)<=mg->G 78 (cu e)=Z (0,cu e):=by
 induction n with
 |zero=>intro e h;omega
 |succ n v=>
  intro e y r;have d:e.aa.length<=mg:=aG tH r;have A:=pn e;have t:=q77 (p:=e.path) (by omega);rw[ib]at t;refine ct t78 (by rw[bT];rfl) ?_;simp only[go_sem,t78,bT,t];have st:∀(i:Nat) (x:dv) (l:M (M D)),nth e.aa i=Z x->l.length<=mg->G 78 (cu x)=Z (0,cu x)/\aZ .pl [E x.op,E x.num,.str x.text,.bool x.path.root,E x.path.oY]=Z (.bool J)/\
    aZ (.sV 7 J) (cu x)=Z (.list 7 J [cu x])/\aZ (.app 7 96) [.list 7 J l,.list 7 J [cu x]]=Z (.list 7 J (l++[cu x])):=by
   intro i x l c o;refine⟨v x (by have:=dv.BQ (bc c);omega) (aG (BR (bc c)) r),rfl,jN 7 _ (qu x) (by decide),eN 7 96 J l [cu x] (by decide) (by simp only[mg,aH,aJ]at *;omega)⟩
  have o:=uw (b:=lB G I8) e.aa (λe=>e) (λi=>(0,E (i:Int)::(cu e++[E 0,E 0,.str ⟨#[]⟩,.bool J,E 0,E e.op,E e.num,.str e.text,.bool e.path.root,E e.path.oY,dU e.path.steps])))
   (λi a=>(1,E (i:Int)::(cu e++[E 0,E 0,.str ⟨#[]⟩,.bool J,E 0,E e.op,E e.num,.str e.text,.bool e.path.root,E e.path.oY,cZ a,dU e.path.steps])))
   (0,E 0::.bool J::(cu e++[E 0,E 0,.str ⟨#[]⟩,.bool J,E 0,E e.op,E e.num,.str e.text,.bool e.path.root,E e.path.oY,dU e.path.steps]))
   (λa=>(1,E e.aa.length::.bool J::(cu e++[E 0,E 0,.str ⟨#[]⟩,.bool J,E 0,E e.op,E e.num,.str e.text,.bool e.path.root,E e.path.oY,cZ a,dU e.path.steps]))) (by
    intro x c;have f:=bp c;have m:=wj f d;obtain⟨k,q,j,g⟩:=st 0 x [] c (by simp);rw[bT x]at k j g;simp only[go_sem,bG,I8,bT e,f,aX,c,jY];simp only[go_sem,bT x,k,q,j,g,m];simp[cZ,bT x]) (by
    intro i x c B;have f:=bp c;have m:=wj f d;obtain⟨k,q,j,g⟩:=st i x ((e.aa.take i).map cu) c (by simp only[ay,aY];omega);rw[bT x]at k j g;simp only[go_sem,bG,I8,bT e,f,aX,c,jY,eR];simp only[go_sem,bT x,k,q,j,g,m];simp[cZ,bT x]) (by
    intro h;simp only[go_sem,bG,I8,bT,h,bD,n0,fy]) (by
    intro h;simp only[go_sem,bG,I8,bT,aC,eR])
  simp only[go_sem,bT,n0]at o;rw[o];cases w:e.aa with
  |nil=>simp only[go_sem,g_,bD];rfl
  |cons s l=>simp only[go_sem,iG,eR]
theorem q78{e:dv}(a:ee (cu e)<=mg):G 78 (cu e)=Z (0,cu e):=alm _ e (aP _) a
end
section
def bS(e:ah):M D:=ax e++[.int .i64 0,.str ⟨#[]⟩,.int .i64 0,.str ⟨#[]⟩,.str ⟨#[]⟩,.str ⟨#[]⟩,.bool J,.bool J,.bool J,.bool J,.int .i64 0,.int .i64 0,.int .i64 e.aq,.str e.aj,.int .i64 e.type.aq,.str e.type.pattern,.str e.type.path,.str e.default,.bool e.given,.bool e.fo,.bool e.df,.bool e.fixed,.int .i64 e.min,.int .i64 e.max,aB e.aa,bu e.a_,bu e.unique]
def rS(e:ah):M D:=[fU e.type.ranges,bu e.type.names]
theorem Y7{e:ah}{w:D}(r:ee (ax e)<=mg) :
  cm (lB G FU) (0,E 0::(bS e++[]++rS e))=Z (if e.when.isEmpty=I then (0,E 0::.bool J::(bS e++[]++rS e)) else (1,E e.when.length::.bool J::(bS e++[cZ e.when]++rS e))):=by
 have q:=r;rw[dO]at q;have p:bK cu e.when<=mg:=by omega
 have d:e.when.length<=mg:=by simp only[bK]at p;omega
 have st:∀(i:Nat) (x:dv) (l:M (M D)),nth e.when i=Z x->l.length<=mg->G 78 (cu x)=Z (0,cu x)/\aZ .pl [E x.op,E x.num,.str x.text,.bool x.path.root,E x.path.oY]=Z (.bool J)/\
   aZ (.sV 7 J) (cu x)=Z (.list 7 J [cu x])/\aZ (.app 7 96) [.list 7 J l,.list 7 J [cu x]]=Z (.list 7 J (l++[cu x])):=by
  intro i x l c n;refine⟨q78 (fD p (bc c)).1,rfl,jN 7 _ (qu x) (by decide),eN 7 96 J l [cu x] (by decide) (by simp only[mg,aH,aJ]at *;omega)⟩
 have n:=uw (b:=lB G FU) e.when (λe=>e) (λi=>(0,E (i:Int)::(bS e++[]++rS e))) (λi a=>(1,E (i:Int)::(bS e++[cZ a]++rS e)))
  (0,E 0::.bool J::(bS e++[]++rS e)) (λa=>(1,E e.when.length::.bool J::(bS e++[cZ a]++rS e))) (by
   intro x c;have f:=bp c;have m:=wj f d;obtain⟨k,o,j,g⟩:=st 0 x [] c (by simp);rw[bT x]at k j g;simp only[go_sem,bG,FU,bS,rS,af,f,aX,c,jY];simp only[go_sem,bT x,k,o,j,g,m];simp[cZ,bT x]) (by
   intro i x c s;have f:=bp c;have m:=wj f d;obtain⟨k,o,j,g⟩:=st i x ((e.when.take i).map cu) c (by simp only[ay,aY];omega);rw[bT x]at k j g;simp only[go_sem,bG,FU,bS,rS,af,f,aX,c,jY,eR];simp only[go_sem,bT x,k,o,j,g,m];simp[cZ,bT x]) (by
   intro h;simp only[go_sem,bG,FU,bS,rS,af,h,bD,n0,fy]) (by
   intro h;simp only[go_sem,bG,FU,bS,rS,af,aC,eR])
 rw[n0]at n;rw[n,eR]
theorem Y8{e:ah}{w:D}(r:ee (ax e)<=mg) :
  cm (lB G FV) (0,E 0::(bS e++[]++rS e))=Z (if e.jy.isEmpty=I then (0,E 0::.bool J::(bS e++[]++rS e)) else (1,E e.jy.length::.bool J::(bS e++[cZ e.jy]++rS e))):=by
 have q:=r;rw[dO]at q;have p:bK cu e.jy<=mg:=by omega
 have d:e.jy.length<=mg:=by simp only[bK]at p;omega
 have st:∀(i:Nat) (x:dv) (l:M (M D)),nth e.jy i=Z x->l.length<=mg->G 78 (cu x)=Z (0,cu x)/\aZ .pl [E x.op,E x.num,.str x.text,.bool x.path.root,E x.path.oY]=Z (.bool J)/\
   aZ (.sV 7 J) (cu x)=Z (.list 7 J [cu x])/\aZ (.app 7 96) [.list 7 J l,.list 7 J [cu x]]=Z (.list 7 J (l++[cu x])):=by
  intro i x l c n;refine⟨q78 (fD p (bc c)).1,rfl,jN 7 _ (qu x) (by decide),eN 7 96 J l [cu x] (by decide) (by simp only[mg,aH,aJ]at *;omega)⟩
 have n:=uw (b:=lB G FV) e.jy (λe=>e) (λi=>(0,E (i:Int)::(bS e++[]++rS e))) (λi a=>(1,E (i:Int)::(bS e++[cZ a]++rS e)))
  (0,E 0::.bool J::(bS e++[]++rS e)) (λa=>(1,E e.jy.length::.bool J::(bS e++[cZ a]++rS e))) (by
   intro x c;have f:=bp c;have m:=wj f d;obtain⟨k,o,j,g⟩:=st 0 x [] c (by simp);rw[bT x]at k j g;simp only[go_sem,bG,FV,bS,rS,af,f,aX,c,jY];simp only[go_sem,bT x,k,o,j,g,m];simp[cZ,bT x]) (by
   intro i x c s;have f:=bp c;have m:=wj f d;obtain⟨k,o,j,g⟩:=st i x ((e.jy.take i).map cu) c (by simp only[ay,aY];omega);rw[bT x]at k j g;simp only[go_sem,bG,FV,bS,rS,af,f,aX,c,jY,eR];simp only[go_sem,bT x,k,o,j,g,m];simp[cZ,bT x]) (by
   intro h;simp only[go_sem,bG,FV,bS,rS,af,h,bD,n0,fy]) (by
   intro h;simp only[go_sem,bG,FV,bS,rS,af,aC,eR])
 rw[n0]at n;rw[n,eR]
theorem Y9{e:ah}{w:D}(r:ee (ax e)<=mg) :
  cm (lB G FW) (0,E 0::(bS e++[w]++rS e))=Z (if e.jy.isEmpty=I then (0,E 0::.bool J::(bS e++[w]++rS e)) else (1,E e.jy.length::.bool J::(bS e++[w,cZ e.jy]++rS e))):=by
 have q:=r;rw[dO]at q;have p:bK cu e.jy<=mg:=by omega
 have d:e.jy.length<=mg:=by simp only[bK]at p;omega
 have st:∀(i:Nat) (x:dv) (l:M (M D)),nth e.jy i=Z x->l.length<=mg->G 78 (cu x)=Z (0,cu x)/\aZ .pl [E x.op,E x.num,.str x.text,.bool x.path.root,E x.path.oY]=Z (.bool J)/\
   aZ (.sV 7 J) (cu x)=Z (.list 7 J [cu x])/\aZ (.app 7 96) [.list 7 J l,.list 7 J [cu x]]=Z (.list 7 J (l++[cu x])):=by
  intro i x l c n;refine⟨q78 (fD p (bc c)).1,rfl,jN 7 _ (qu x) (by decide),eN 7 96 J l [cu x] (by decide) (by simp only[mg,aH,aJ]at *;omega)⟩
 have n:=uw (b:=lB G FW) e.jy (λe=>e) (λi=>(0,E (i:Int)::(bS e++[w]++rS e))) (λi a=>(1,E (i:Int)::(bS e++[w,cZ a]++rS e)))
  (0,E 0::.bool J::(bS e++[w]++rS e)) (λa=>(1,E e.jy.length::.bool J::(bS e++[w,cZ a]++rS e))) (by
   intro x c;have f:=bp c;have m:=wj f d;obtain⟨k,o,j,g⟩:=st 0 x [] c (by simp);rw[bT x]at k j g;simp only[go_sem,bG,FW,bS,rS,af,f,aX,c,jY];simp only[go_sem,bT x,k,o,j,g,m];simp[cZ,bT x]) (by
   intro i x c s;have f:=bp c;have m:=wj f d;obtain⟨k,o,j,g⟩:=st i x ((e.jy.take i).map cu) c (by simp only[ay,aY];omega);rw[bT x]at k j g;simp only[go_sem,bG,FW,bS,rS,af,f,aX,c,jY,eR];simp only[go_sem,bT x,k,o,j,g,m];simp[cZ,bT x]) (by
   intro h;simp only[go_sem,bG,FW,bS,rS,af,h,bD,n0,fy]) (by
   intro h;simp only[go_sem,bG,FW,bS,rS,af,aC,eR])
 rw[n0]at n;rw[n,eR]
theorem ah.ig(e:ah)(es:M ah):aw e.aa < aw (e::es):=by
 cases e;simp only[bJ,ah.mk.sizeOf_spec];omega
theorem ah.dL(e:ah):aw e.aa < aw e:=by
 cases e;simp only[ah.mk.sizeOf_spec];omega
theorem rT(e:ah):(ax e).length=19:=by rw[af];rfl
theorem eX(e:ah)(k:Nat)(a:Bool):aZ (.has 19) [.list k a [ax e]]=Z (.bool J):=by
 rw[zb,rT,if_pos (aD 19)]
theorem eh(e:ah):bK ax e.aa<=ee (ax e):=by rw[dO];omega
theorem ZO{e:ah}(b:ee (ax e)<=mg)(c:G 79 [aB e.aa]=Z (0,[aB e.aa])):G 80 (ax e)=Z (0,ax e):=by
 have i:=b;rw[dO]at i;have a:=q76 (t:=e.type) (by omega);rw[ew]at a;have o:=rn e.type;have n:=eN 1 16 I [] (e.a_.map fe) (by decide) (by simp only[bK,mg,ay,aJ]at *;omega);have k:=eN 1 16 I [] (e.unique.map fe) (by decide) (by simp only[bK,mg,ay,aJ]at *;omega);have g:=Y7 (e:=e) (w:=.bool J) b;have f:=Y8 (e:=e) (w:=.bool J) b;have d:=Y9 (e:=e) (w:=cZ e.when) b;simp only[go_sem,bS,rS,af]at g f d;refine ct t80 (by rw[af];rfl) ?_;simp only[go_sem,t80,af,a,n,k];rw[g];cases h:e.when with
 |nil=>
  rw[h]at f g;simp only[go_sem,g_];rw[f];cases j:e.jy with
  |nil=>simp only[go_sem,g_,c];rfl
  |cons x l=>simp only[go_sem,iG,c];rfl
 |cons y m=>
  rw[h]at d;simp only[go_sem,iG];rw[d];cases j:e.jy with
  |nil=>simp only[go_sem,g_,c];rfl
  |cons x l=>simp only[go_sem,iG,c]
end
section
theorem plS(x:ah):aZ .pl [E x.aq,.str x.aj,E x.type.aq,.str x.type.pattern,.str x.type.path,.str x.default,.bool x.given,.bool x.fo,.bool x.df,.bool x.fixed,E x.min,E x.max]=Z (.bool J):=(rfl)
theorem mkS(x:ah):aZ (.sV 19 J) (ax x)=Z (.list 19 J [ax x]):=jN 19 _ (rT x) (by decide)
theorem aee(l:M (M D))(x:M D)(h:l.length<=mg):aZ (.app 19 272) [.list 19 J l,.list 19 J [x]]=Z (.list 19 J (l++[x])):=
 eN 19 272 J l [x] (by decide) (by simp only[mg,aH,aJ]at *;omega)
theorem aln(n:Nat):∀l:M ah,aw l < n->bK ax l<=mg->G 79 [aB l]=Z (0,[aB l]):=by
 induction n with
 |zero=>intro l h;omega
 |succ n q=>
  intro l t g;have d:l.length<=mg:=by simp only[bK]at g;omega
  refine ct t79 rfl ?_;simp only[go_sem,t79];have j:=cN (b:=lB G Oa) l (λi (a:M ah)=>(0,[aB l,E (i:Int),aB a])) (λi=>l.take i) (0,[aB l,E l.length,.bool J,aB l]) (by
   intro i x c;have k:=bp c;have r:=wj k d;have f:ee (ax x)<=mg:=(fD g (bc c)).1;have s:=q x.aa (by have:=bj (bc c);have:=ah.dL x;omega) (aG (eh x) f);have e:=ZO f s;have o:=mkS x;have m:=aee ((l.take i).map ax) (ax x) (by simp only[ay,aY];omega);rw[af x]at e o m;simp only[go_sem,bG,Oa,k,aX,c,eX];simp only[go_sem,af x,e,plS,o,m,r,bZ _ _ _ c];simp[aB,af x]) (by simp only[go_sem,bG,Oa,aC,aR]) l.length 0 (by omega)
  rw[n0,aV]at j;have p:cm (lB G Oa) (0,[aB l,E 0,.list 19 J []])=_:=j;rw[p];simp only[go_sem]
theorem q79{l:M ah}(a:bK ax l<=mg):G 79 [aB l]=Z (0,[aB l]):=aln _ l (aP _) a
theorem q80{e:ah}(a:ee (ax e)<=mg):G 80 (ax e)=Z (0,ax e):=ZO a (q79 (aG (eh e) a))
def kP(k:Int):Bool:=fO 1 4 k
def pC(k:Int):Bool:=Z' (k=5) ||decide (k=6)
theorem q75(k:Int):G 75 [E k]=Z (0,[.bool (kP k)]):=by
 refine ct t75 rfl ?_;simp only[go_sem,t75,C8,kP]
theorem AP(k:Int):G 92 [E k]=Z (0,[.bool (kP k)]):=by
 have h:kP k=(Z' (k=1) ||decide (k=2) ||decide (k=3) ||decide (k=4)):=by
  rw[cR];simp[kP,fO];omega
 refine ct t92 rfl ?_;simp only[go_sem,t92]
 repeat' (first|with_reducible rfl|((first|rw[gk]|rw[gp]|rw[gj]|rw[gm]);split<;>simp only[go_sem, *]))
 all_goals simp_all
def dk:M ah->M ah
 |[]=>[]
 |e::es=>(if kP e.aq=I then [e] else if pC e.aq=I then dk e.aa else [])++dk es
termination_by es=>aw es
decreasing_by
 ·exact ah.ig e es
 ·simp only[bJ];omega
def vX(e:ah):M ah:=if kP e.aq=I then [e] else if pC e.aq=I then dk e.aa else []
theorem nL(e:ah)(es:M ah):dk (e::es)=vX e++dk es:=by rw[dk];rfl
theorem uo:dk []=[]:=by rw[dk]
theorem Xv:∀(a b:M ah),dk (a++b)=dk a++dk b
 |[],b=>by rw[uo];rfl
 |e::a,b=>by rw[au,nL,nL,Xv a b,bB]
theorem DM(a:M ah)(e:ah):dk (a++[e])=dk a++vX e:=by rw[Xv,nL,uo,aK]
theorem ah0(n:Nat):∀(es:M ah),aw es < n->bK ax (dk es)<=bK ax es:=by
 induction n with
 |zero=>intro es h;omega
 |succ n a=>
  intro es h;cases es with
  |nil=>rw[uo];exact aD _
  |cons e es=>
   have d:=a es (by simp only[bJ]at h;omega);have c:=a e.aa (by have:=ah.ig e es;omega);rw[nL,A5,er];have b:bK ax (vX e)<=ee (ax e)+1:=by
    unfold vX;split
    ·rw[er];simp[bK,oM]
    ·split
     ·have:=eh e;omega
     ·simp[bK,oM]
   omega
theorem lN{es:M ah}:bK ax (dk es)<=bK ax es:=ah0 _ es (aP _)
theorem DN{es:M ah}(i:Nat)(a:bK ax es<=mg):(dk (es.take i)).length<=mg:=by
 have c:=lN (es:=es.take i);have b:=Hj ax es i;simp only[bK]at *;omega
theorem adY{k:Int}(h:kP k=I):pC k=J/\¬k=5/\¬k=6:=by
 have:=(gP _ _ _).1 h;have b:¬k=5:=by omega
 have a:¬k=6:=by omega
 exact⟨by simp[pC,b,a],b,a⟩
theorem alo(n:Nat):∀l:M ah,aw l < n->bK ax l<=mg->G 81 [aB l]=Z (0,[aB (dk l)]):=by
 induction n with
 |zero=>intro l h;omega
 |succ n B=>
  intro l C q;have j:l.length<=mg:=by simp only[bK]at q;omega
  refine ct t81 rfl ?_;simp only[go_sem,t81];have t:=cN (b:=lB G CZ) l (λi (a:M ah)=>(0,[aB l,E (i:Int),aB a])) (λi=>dk (l.take i)) (0,[aB l,E l.length,.bool J,aB (dk l)]) (by
   intro i x c;have k:=bp c;have p:=wj k j;have s:ee (ax x)<=mg:=(fD q (bc c)).1;have w:=aG (eh x) s;have y:=DN i q;have r:=DN (i+1) q;rw[bZ _ _ _ c,DM]at r;rw[bZ _ _ _ c,DM];cases hd:kP x.aq with
   |true=>
    obtain⟨D,e,d⟩:=adY hd;have o:=q80 s;have v:=mkS x;have g:=aee ((dk (l.take i)).map ax) (ax x) (by rw[ay];exact y);have f:vX x=[x]:=by rw[vX,if_pos hd]
    rw[af x]at o v g;rw[f];simp only[go_sem,bG,CZ,k,aX,c];simp only[go_sem,af x,q75,hd];simp only[go_sem,af x,c,aX,o,plS,v,g,e,d,p];simp[aB,af x]
   |false=>
    have m:=B x.aa (by have:=bj (bc c);have:=ah.dL x;omega) w;by_cases e:x.aq=5
    ·have f:vX x=dk x.aa:=by rw[vX,if_neg (by rw[hd];simp),if_pos (by simp[pC,e])]
     rw[f]at r ⊢;have g:=eN 19 272 J ((dk (l.take i)).map ax) ((dk x.aa).map ax) (by decide) (by simp only[mg,ay,bh]at *;omega);rw[e]at hd;simp only[go_sem,bG,CZ,k,aX,c];simp only[go_sem,af x,q75,hd,e];simp only[go_sem,af x,c,aX,e,m,g,p];simp[aB]
    ·by_cases d:x.aq=6
     ·have f:vX x=dk x.aa:=by rw[vX,if_neg (by rw[hd];simp),if_pos (by simp[pC,d])]
      rw[f]at r ⊢;have g:=eN 19 272 J ((dk (l.take i)).map ax) ((dk x.aa).map ax) (by decide) (by simp only[mg,ay,bh]at *;omega);rw[d]at hd;simp only[go_sem,bG,CZ,k,aX,c];simp only[go_sem,af x,q75,hd,d];simp only[go_sem,af x,c,aX,d,m,g,p];simp[aB]
     ·have f:vX x=[]:=by rw[vX,if_neg (by rw[hd];simp),if_neg (by simp[pC,e,d])]
      rw[f,aK];simp only[go_sem,bG,CZ,k,aX,c];simp only[go_sem,af x,q75,hd];simp only[go_sem,af x,c,aX,e,d,p]) (by simp only[go_sem,bG,CZ,aC,aR]) l.length 0 (by omega)
  rw[n0,aV,uo]at t;have A:cm (lB G CZ) (0,[aB l,E 0,.list 19 J []])=_:=t;rw[A];simp only[go_sem]
theorem q81{l:M ah}(a:bK ax l<=mg):G 81 [aB l]=Z (0,[aB (dk l)]):=alo _ l (aP _) a
end
section
def Bv(c:Bool)(l:M ah):M Bool:=match l with
 |[]=>[]
 |e::es=>(if kP e.aq=I then [c] else if pC e.aq=I then Bv (c ||decide (e.aq=6)) e.aa else [])++Bv c es
termination_by aw l
decreasing_by
 ·exact ah.ig e es
 ·simp only[bJ];omega
def vY(c:Bool)(e:ah):M Bool:=if kP e.aq=I then [c] else if pC e.aq=I then Bv (c ||decide (e.aq=6)) e.aa else []
theorem vZ(c:Bool)(e:ah)(es:M ah):Bv c (e::es)=vY c e++Bv c es:=by rw[Bv];rfl
theorem DL(c:Bool):Bv c []=[]:=by rw[Bv]
theorem Na(c:Bool)(e:ah):∀(a:M ah),Bv c (a++[e])=Bv c a++vY c e
 |[]=>by rw[av,vZ,DL];simp
 |x::a=>by rw[au,vZ,vZ,Na c e a,bB]
theorem aa9(n:Nat):∀(c:Bool) (l:M ah),aw l < n->(Bv c l).length=(dk l).length:=by
 induction n with
 |zero=>intro c l h;omega
 |succ n a=>
  intro c l h;cases l with
  |nil=>rw[DL,uo];rfl
  |cons e es=>
   rw[vZ,nL,bh,bh,a c es (by simp only[bJ]at h;omega)]
   congr 1
   unfold vY vX;split
   ·rfl
   ·split
    ·exact a _ e.aa (by have:=ah.ig e es;omega)
    ·rfl
theorem Bw(c:Bool)(l:M ah):(Bv c l).length=(dk l).length:=aa9 _ c l (aP _)
def kE{a:Type}(l:M a):Nat:=if l.isEmpty=I then 0 else 1
theorem anl(x:ah):aZ .Ww (ax x)=Z (.bool J):=by rw[af];rfl
theorem iu{a:Type}:kE ([]:M a)=0:=(rfl)
theorem sK{a:Type}(l m:M a)(h:m≠[]):kE (l++m)=1:=by
 unfold kE;rw[if_neg];cases l<;>cases m<;>simp_all
theorem kQ{a:Type}{l:M a}(h:l≠[]):kE l=1:=by simpa using sK [] l h
theorem ahx(a b:M ah)(h:a.length+b.length<=mg):aZ (.app 19 272) [aB a,aB b]=Z (aB (a++b)):=by
 have:=eN 19 272 J (a.map ax) (b.map ax) (by decide) (by simp only[mg,ay]at *;omega);rw[<- bN]at this;exact this
theorem aht(a b:M Bool)(h:a.length+b.length<=mg):aZ (.app 1 1) [bO a,bO b]=Z (bO (a++b)):=by
 have:=eN 1 1 I (a.map CP) (b.map CP) (by decide) (by simp only[mg,ay]at *;omega);rw[<- bN]at this;exact this
theorem mkB(c:Bool):aZ (.sV 1 I) [.bool c]=Z (bO [c]):=by simp[aZ,chunk,dV,D.plain,CP,bO]
theorem alu(n:Nat):∀(l:M ah) (c:Bool),aw l < n->bK ax l<=mg->G 93 [aB l,.bool c]=Z (kE (dk l),[aB (dk l),bO (Bv c l)]):=by
 induction n with
 |zero=>intro l c h;omega
 |succ n K=>
  intro l c Y L;have D:l.length<=mg:=by simp only[bK]at L;omega
  refine ct t93 rfl ?_;simp only[go_sem,t93];have S:=cN (b:=lB G kT) l (λi (a:M ah×M Bool)=>(kE a.1,[.bool c,aB l,E l.length,E (i:Int),aB a.1,bO a.2])) (λi=>(dk (l.take i),Bv c (l.take i)))
   (kE (dk l),[.bool c,aB l,E l.length,E l.length,.bool J,aB (dk l),bO (Bv c l)]) (by
   intro i x g;have k:=bp g;have m:=wj k D;have U:ee (ax x)<=mg:=(fD L (bc g)).1;have H:=aG (eh x) U;have X:=DN i L;have F:=DN (i+1) L;have Q:=Bw c (l.take i);rw[bZ _ _ _ g,DM]at F;rw[bZ _ _ _ g,DM,Na];have v:dk (l.take i)=[]->Bv c (l.take i)=[]:=λh=>cH.1 (by rw[Q,h];rfl);have P:(vY c x).length=(vX x).length:=by
    have t:=Bw c [x];rw[vZ,DL,nL,uo]at t
    simpa using t
   have j:=ahx (dk (l.take i)) (vX x) (by rw[bh]at F;exact F);have hB:=aht (Bv c (l.take i)) (vY c x) (by rw[Q,P];rw[bh]at F;exact F);have R:=mkB c;have B:=mkS x;have A:=anl x;rw[af x]at B A;generalize W:dk (l.take i)=a at *;generalize V:Bv c (l.take i)=f at *;cases hd:kP x.aq with
   |true=>
    have t:vX x=[x]:=by rw[vX,if_pos hd]
    have s:vY c x=[c]:=by rw[vY,if_pos hd]
    rw[t]at j ⊢;rw[s]at hB ⊢;have C:aZ (.app 19 272) [aB a,.list 19 J [ax x]]=Z (aB (a++[x])):=j;rw[af x]at C;rw[sK a [x] (by simp)];cases a with
    |nil=>
     have q:=v rfl;subst q;simp only[go_sem,bG,kT,iu,k,aX,g,eX];simp only[go_sem,af x,AP,hd,A,B,C,R,hB,m]
    |cons y a=>
     simp only[go_sem,bG,kT,kQ (cM y a),k,aX,g,eX];simp only[go_sem,af x,AP,hd,A,B,C,R,hB,m]
   |false=>
    have N:=hd;by_cases p:x.aq=6
    ·have t:vX x=dk x.aa:=by rw[vX,if_neg (by rw[hd];simp),if_pos (by simp[pC,p])]
     have o:¬x.aq=5:=by omega
     rw[t]at j ⊢;rw[p]at hd;cases c with
     |true=>
      have e:=K x.aa I (by have:=bj (bc g);have:=ah.dL x;omega) H;have s:vY I x=Bv I x.aa:=by rw[vY,if_neg (by rw[N];simp),if_pos (by simp[pC,p])];simp[p]
      rw[s]at hB ⊢;cases r:dk x.aa with
      |nil=>
       rw[r]at e j;have w:Bv I x.aa=[]:=cH.1 (by rw[Bw,r];rfl);rw[w]at e hB ⊢;cases a with
       |nil=>
        have q:=v rfl;subst q;rw[aK,aK];simp only[go_sem,bG,kT,iu,iu,k,aX,g,eX];simp only[go_sem,af x,AP,hd,p,e,iu,j,hB,m,aK]
       |cons y a=>
        rw[aK,aK];simp only[go_sem,bG,kT,kQ (cM y a),k,aX,g,eX];simp only[go_sem,af x,AP,hd,p,e,iu,j,hB,m,aK]
      |cons d b=>
       rw[r]at e j;cases a with
       |nil=>
        have q:=v rfl;subst q;rw[sK _ (d::b) (by simp)];simp only[go_sem,bG,kT,iu,k,aX,g,eX];simp only[go_sem,af x,AP,hd,p,e,kQ (cM d b),j,hB,m]
       |cons y a=>
        rw[sK _ (d::b) (by simp)];simp only[go_sem,bG,kT,kQ (cM y a),k,aX,g,eX];simp only[go_sem,af x,AP,hd,p,e,kQ (cM d b),j,hB,m]
     |false=>
      have e:=K x.aa I (by have:=bj (bc g);have:=ah.dL x;omega) H;have s:vY J x=Bv I x.aa:=by rw[vY,if_neg (by rw[N];simp),if_pos (by simp[pC,p])];simp[p]
      rw[s]at hB ⊢;cases r:dk x.aa with
      |nil=>
       rw[r]at e j;have w:Bv I x.aa=[]:=cH.1 (by rw[Bw,r];rfl);rw[w]at e hB ⊢;cases a with
       |nil=>
        have q:=v rfl;subst q;rw[aK,aK];simp only[go_sem,bG,kT,iu,iu,k,aX,g,eX];simp only[go_sem,af x,AP,hd,p,e,iu,j,hB,m,aK]
       |cons y a=>
        rw[aK,aK];simp only[go_sem,bG,kT,kQ (cM y a),k,aX,g,eX];simp only[go_sem,af x,AP,hd,p,e,iu,j,hB,m,aK]
      |cons d b=>
       rw[r]at e j;cases a with
       |nil=>
        have q:=v rfl;subst q;rw[sK _ (d::b) (by simp)];simp only[go_sem,bG,kT,iu,k,aX,g,eX];simp only[go_sem,af x,AP,hd,p,e,kQ (cM d b),j,hB,m]
       |cons y a=>
        rw[sK _ (d::b) (by simp)];simp only[go_sem,bG,kT,kQ (cM y a),k,aX,g,eX];simp only[go_sem,af x,AP,hd,p,e,kQ (cM d b),j,hB,m]
    ·by_cases o:x.aq=5
     ·have t:vX x=dk x.aa:=by rw[vX,if_neg (by rw[hd];simp),if_pos (by simp[pC,o])]
      rw[t]at j ⊢;rw[o]at hd;cases c with
      |true=>
       have e:=K x.aa I (by have:=bj (bc g);have:=ah.dL x;omega) H;have s:vY I x=Bv I x.aa:=by rw[vY,if_neg (by rw[N];simp),if_pos (by simp[pC,o])];simp[o]
       rw[s]at hB ⊢;cases r:dk x.aa with
       |nil=>
        rw[r]at e j;have w:Bv I x.aa=[]:=cH.1 (by rw[Bw,r];rfl);rw[w]at e hB ⊢;cases a with
        |nil=>
         have q:=v rfl;subst q;rw[aK,aK];simp only[go_sem,bG,kT,iu,iu,k,aX,g,eX];simp only[go_sem,af x,AP,hd,o,e,iu,j,hB,m,aK]
        |cons y a=>
         rw[aK,aK];simp only[go_sem,bG,kT,kQ (cM y a),k,aX,g,eX];simp only[go_sem,af x,AP,hd,o,e,iu,j,hB,m,aK]
       |cons d b=>
        rw[r]at e j;cases a with
        |nil=>
         have q:=v rfl;subst q;rw[sK _ (d::b) (by simp)];simp only[go_sem,bG,kT,iu,k,aX,g,eX];simp only[go_sem,af x,AP,hd,o,e,kQ (cM d b),j,hB,m]
        |cons y a=>
         rw[sK _ (d::b) (by simp)];simp only[go_sem,bG,kT,kQ (cM y a),k,aX,g,eX];simp only[go_sem,af x,AP,hd,o,e,kQ (cM d b),j,hB,m]
      |false=>
       have e:=K x.aa J (by have:=bj (bc g);have:=ah.dL x;omega) H;have s:vY J x=Bv J x.aa:=by rw[vY,if_neg (by rw[N];simp),if_pos (by simp[pC,o])];simp[o]
       rw[s]at hB ⊢;cases r:dk x.aa with
       |nil=>
        rw[r]at e j;have w:Bv J x.aa=[]:=cH.1 (by rw[Bw,r];rfl);rw[w]at e hB ⊢;cases a with
        |nil=>
         have q:=v rfl;subst q;rw[aK,aK];simp only[go_sem,bG,kT,iu,iu,k,aX,g,eX];simp only[go_sem,af x,AP,hd,o,e,iu,j,hB,m,aK]
        |cons y a=>
         rw[aK,aK];simp only[go_sem,bG,kT,kQ (cM y a),k,aX,g,eX];simp only[go_sem,af x,AP,hd,o,e,iu,j,hB,m,aK]
       |cons d b=>
        rw[r]at e j;cases a with
        |nil=>
         have q:=v rfl;subst q;rw[sK _ (d::b) (by simp)];simp only[go_sem,bG,kT,iu,k,aX,g,eX];simp only[go_sem,af x,AP,hd,o,e,kQ (cM d b),j,hB,m]
        |cons y a=>
         rw[sK _ (d::b) (by simp)];simp only[go_sem,bG,kT,kQ (cM y a),k,aX,g,eX];simp only[go_sem,af x,AP,hd,o,e,kQ (cM d b),j,hB,m]
     ·have t:vX x=[]:=by rw[vX,if_neg (by rw[hd];simp),if_neg (by simp[pC,o,p])]
      have s:vY c x=[]:=by rw[vY,if_neg (by rw[hd];simp),if_neg (by simp[pC,o,p])]
      rw[t,s,aK,aK];cases a with
      |nil=>
       simp only[go_sem,bG,kT,iu,k,aX,g,eX];simp only[go_sem,af x,AP,hd,o,p,m]
      |cons y a=>
       simp only[go_sem,bG,kT,kQ (cM y a),k,aX,g,eX];simp only[go_sem,af x,AP,hd,o,p,m]) (by
   rw[aR];cases hd:dk l with
   |nil=>simp only[go_sem,bG,kT,iu,aC]
   |cons y a=>simp only[go_sem,bG,kT,kQ (cM y a),aC]) l.length 0 (by omega)
  rw[n0,aV,uo,DL]at S;have T:cm (lB G kT) (0,[.bool c,aB l,E l.length,E 0,.list 19 J [],.list 1 I []])=_:=S;rw[T];cases hd:dk l with
  |nil=>simp only[go_sem,iu]
  |cons y a=>simp only[go_sem,kQ (cM y a)]
theorem q93{l:M ah}{c:Bool}(a:bK ax l<=mg):G 93 [aB l,.bool c]=Z (kE (dk l),[aB (dk l),bO (Bv c l)]):=alu _ l c (aP _) a
theorem q94{l:M ah}(b:bK ax l<=mg):G 94 [aB l]=Z (kE (dk l),[aB (dk l)]):=by
 have h:=q93 (c:=J) b;refine ct t94 rfl ?_;cases hd:dk l with
 |nil=>rw[hd]at h;simp only[go_sem,t94,h,iu]
 |cons y a=>rw[hd]at h;simp only[go_sem,t94,h,kQ (cM y a)]
end
section
def dC(l:M ah)(a:z):u Nat:=ml (λe=>Z' (e.aj=a)) l 0
theorem ZP{l:M ah}{nm:z}(hlen:l.length<=mg):G 82 [aB l,.str nm]=Z (0,[E (ij (dC l nm))]):=by
 refine ct t82 rfl ?_;simp only[go_sem,t82];have c:=qP (b:=lB G Tw) l (λi=>(0,[aB l,.str nm,E (i:Int)])) (λe=>Z' (e.aj=nm)) (1,[aB l,.str nm,E l.length,.bool J]) (λi e=>(0,[E (i:Int)])) (by
  intro i e a;have d:=bp a;have f:=wj d hlen;simp only[go_sem,bG,Tw,d,aX,a,af];cases k:Z' (e.aj=nm)<;>simp only[go_sem,f]) (by simp only[go_sem,bG,Tw,aC])
 rw[n0]at c;rw[c];unfold dC;cases g:ml (λe=>Z' (e.aj=nm)) l 0 with
 |none=>simp only[go_sem,ij]
 |some j=>
  obtain⟨e,h,m⟩:=du g;simp only[go_sem,h,ij]
theorem q95{l:M ah}(hlen:l.length<=mg):G 95 [aB l]=Z (0,[bu (l.map ah.aj)]):=by
 refine ct t95 rfl ?_;simp only[go_sem,t95];have g:=cN (b:=lB G Ob) l (λi (a:M z)=>(0,[aB l,E l.length,E (i:Int),bu a])) (λi=>(l.take i).map ah.aj) (0,[aB l,E l.length,E l.length,.bool J,bu (l.map ah.aj)]) (by
  intro i e c;have j:=bp c;have m:=wj j hlen;have f:aZ (.app 1 16) [bu ((l.take i).map ah.aj),.list 1 I [[.str e.aj]]]=Z (bu ((l.take (i+1)).map ah.aj)):=by
   have h:=eN 1 16 I (((l.take i).map ah.aj).map fe) [[.str e.aj]] (by decide) (by simp only[mg,ay,aY,aH,aJ]at *;omega);rw[h,AF c];simp[fe]
  have d:aZ (.sV 1 I) [.str e.aj]=Z (.list 1 I [[.str e.aj]]):=by simp[aZ,chunk,dV,D.plain]
  simp only[go_sem,bG,Ob,j,aX,c,eX];simp only[go_sem,af e,d,f,m]) (by simp only[go_sem,bG,Ob,aC,aR]) l.length 0 (by omega)
 rw[n0,aV]at g;have k:cm (lB G Ob) (0,[aB l,E l.length,E 0,.list 1 I []])=_:=g;rw[k];simp only[go_sem]
theorem abN{l:M z}{e:z}{k:Nat}(a:nth l k=Z e)(hlen:l.length<=mg) :
  cm (lB G BZ) (0,[bu l,E (k:Int),E 0])=Z (if (l.take k).all (λx=>!Z' (x=e))=I then (1,[bu l,E (k:Int),E (k:Int),.bool J]) else (0,[.bool J])):=by
 have g:=bp a;have c:=rV (b:=lB G BZ) (λj=>(0,[bu l,E (k:Int),E (j:Int)])) (atB (λx=>!Z' (x=e)) l) k (1,[bu l,E (k:Int),E (k:Int),.bool J]) (0,[.bool J]) (by
  intro j d;have a1:=cI (l:=l) (i:=j) (by omega);have f:=wj (i:=j) (n:=k) d (by omega);generalize l[j]'(by omega)=x at a1;simp only[go_sem,bG,BZ,d,aX,a,a1,fe,atB];cases h:Z' (x=e)<;>simp only[go_sem,f]) (by simp only[go_sem,bG,BZ,aC]) k 0 (by omega)
 rw[n0]at c;rw[c,zK _ l k 0 (by omega),bm]
def sW(l:M z):Bool:=um l && Z' (l.length<=3)
theorem aa7(l:M z):um l=allI (λk e=>(l.take k).all λx=>!Z' (x=e)) 0 l:=by
 rw[um]
 congr 1
 funext i e
 rw[NI,fM]
theorem akQ{l:M z}(hlen:l.length<=mg):G 212 [bu l]=Z (0,[.bool (sW l)]):=by
 refine ct t212 rfl ?_;simp only[go_sem,t212];have c:=nP (b:=lB G KP) l (λk=>(0,[bu l,E (k:Int)])) (λk e=>(l.take k).all λx=>!Z' (x=e)) (1,[bu l,E l.length,.bool J]) (0,[.bool J]) (by
  intro k e a;have d:=bp a;have f:=wj d hlen;simp only[go_sem,bG,KP,d,abN a hlen];cases g:(l.take k).all (λx=>!Z' (x=e))<;>simp only[go_sem,f]) (by simp only[go_sem,bG,KP,aC]) l.length 0 (by omega)
 rw[n0,bm]at c;rw[c,sW,aa7];cases allI (λk e=>(l.take k).all λx=>!Z' (x=e)) 0 l<;>simp only[go_sem,ajD]
def ng(e:ah):Bool:=fO 0 1000000000 e.min && (Z' (e.max=0) ||fO e.min 1000000000 e.max)
theorem akR(e:ah):G 213 (ax e)=Z (0,[.bool (ng e)]):=by
 refine ct t213 (by rw[af];rfl) ?_;simp only[go_sem,t213,af,C8]
 repeat' (first|with_reducible rfl|((first|rw[gk]|rw[gp]|rw[gj]|rw[gm]);split<;>simp only[go_sem,C8, *]))
 all_goals simp_all[ng]
theorem VN(e:ah):ng e=(Z' (0<=e.min) && (Z' (e.min<=1000000000) && (Z' (0<=e.max) && (Z' (e.max<=1000000000) && (Z' (e.max=0) ||decide (e.min<=e.max)))))):=by
 rw[cR];simp only[ng,fO,ai,da,decide_eq_true_eq];omega
theorem aor(e:ah):G 272 (ax e)=Z (0,[.bool (ng e)]):=by
 rw[VN];refine ct t272 (by rw[af];rfl) ?_;simp only[go_sem,t272,af]
 repeat' (first|with_reducible rfl|((first|rw[gk]|rw[gp]|rw[gj]|rw[gm]);split<;>simp only[go_sem, *]))
 all_goals simp_all
end
section
def eJ:M ah->Nat
 |[]=>0
 |e::es=>1+eJ e.aa+eJ es
termination_by es=>aw es
decreasing_by
 ·exact ah.ig e es
 ·simp only[bJ];omega
def eU:M ah->Nat
 |[]=>0
 |e::es=>eJ e.aa+eU es
theorem rP:∀(l:M ah),eJ l=l.length+eU l
 |[]=>by rw[eJ];rfl
 |e::l=>by rw[eJ,rP l,eU,aH];omega
theorem sx(e:ah):∀(l:M ah),eU (l++[e])=eU l+eJ e.aa
 |[]=>by simp[eU]
 |x::l=>by rw[au,eU,eU,sx e l];omega
theorem HI(l:M ah)(i:Nat):eU l=eU (l.take i)+eU (l.drop i):=by
 have app:∀(a b:M ah),eU (a++b)=eU a+eU b:=by
  intro a
  induction a with
  |nil=>intro b;simp[eU]
  |cons x a c=>intro b;rw[au,eU,eU,c b];omega
 rw[<- app,bI]
theorem M5(n:Nat):∀(l:M ah),aw l < n->eJ l<=bK ax l:=by
 induction n with
 |zero=>intro l h;omega
 |succ n a=>
  intro l h;cases l with
  |nil=>rw[eJ];omega
  |cons e l=>
   have c:=a l (by simp only[bJ]at h;omega);have b:=a e.aa (by have:=ah.ig e l;omega);rw[eJ,er];have:=eh e;omega
theorem M6{l:M ah}:eJ l<=bK ax l:=M5 _ l (aP _)
theorem aga(n:Nat):∀l:M ah,aw l < n->bK ax l<=mg->G 255 [aB l]=Z (0,[E (eJ l)]):=by
 induction n with
 |zero=>intro l h;omega
 |succ n g=>
  intro l t d;have c:l.length<=mg:=by simp only[bK]at d;omega
  refine ct t255 rfl ?_;simp only[go_sem,t255];have e:=cN (b:=lB G K0) l (λi (m:Nat)=>(0,[E (m:Int),aB l,E l.length,E (i:Int)])) (λi=>l.length+eU (l.take i)) (0,[E (eJ l),aB l,E l.length,E l.length,.bool J]) (by
   intro i x a;have f:=bp a;have k:=wj f c;have j:=(fD d (bc a)).1;have o:=aG (eh x) j;have s:=g x.aa (by have:=bj (bc a);have:=ah.dL x;omega) o;have r:=HI l (i+1);have q:=M6 (l:=l);rw[rP]at q;rw[bZ _ _ _ a,sx]at r;have p:IntKind.i64.wrap (((l.length+eU (l.take i):Nat):Int)+(eJ x.aa:Int))=((l.length+(eU (l.take i)+eJ x.aa):Nat):Int):=by rw[wrap_i64 (by simp only[mg]at d;omega)];omega
   rw[bZ _ _ _ a,sx];simp only[go_sem,bG,K0,f,aX,a,eX];simp only[go_sem,af x,s,p,k]) (by
   rw[aR,rP];simp only[go_sem,bG,K0,aC]) l.length 0 (by omega)
  rw[n0,aV,eU,cd]at e;rw[e];simp only[go_sem]
theorem aoh{l:M ah}(a:bK ax l<=mg):G 255 [aB l]=Z (0,[E (eJ l)]):=aga _ l (aP _) a
def xj(l:M ah)(x r:Int):Prop:=((eJ l:Int)<=x->r=x - eJ l)/\(x < (eJ l:Int)->r < 0)/\-33554432<=r
theorem afX(n:Nat):∀(l:M ah) (x:Int),aw l < n->bK ax l<=mg->0<=x->x<=1048576->∃r,G 201 [aB l,E x]=Z (0,[E r])/\xj l x r:=by
 induction n with
 |zero=>intro l x h;omega
 |succ n F=>
  intro l x Q A S R;have b:l.length<=mg:=by simp only[bK]at A;omega
  have p:IntKind.i64.wrap (x - (l.length:Int))=x - l.length:=wrap_i64 (by simp only[mg]at b;omega);have loop:∀m i (y:Int),i+m=l.length->-33554432<=y->y<=1048576->∃(r a:Int),cm (lB G Fz) (0,[aB l,E y,E (i:Int)])=Z (0,[aB l,E r,E a,.bool J])/\(0<=y->(eU (l.drop i):Int)<=y->r=y - eU (l.drop i))/\(y < 0\/y < (eU (l.drop i):Int)->r < 0)/\-33554432<=r:=by
   intro m
   induction m with
   |zero=>
    intro i y K C B;obtain rfl:i=l.length:=by omega
    refine⟨y,l.length,bg (by simp only[go_sem,bG,Fz,aC]),?_⟩;rw[bE];simp only[eU];omega
   |succ m o=>
    intro i y K C B;have c:i < l.length:=by omega
    have a1:=cI (l:=l) (i:=i) c;have hd:=eg l i _ a1;generalize l[i]'c=e at a1 hd;by_cases f:0<=y
    ·have v:=bc a1;have P:=aG (eh e) (fD A v).1;obtain⟨w,N,t,D,L⟩:=F e.aa y (by have:=bj v;have:=ah.dL e;omega) P f B;have q:w<=1048576:=by
      by_cases s:(eJ e.aa:Int)<=y
      ·have:=t s;omega
      ·have:=D (by omega);omega
     obtain⟨r,a,k,j,d,g⟩:=o (i+1) w (by omega) L q;have H:=wj c b;refine⟨r,a,?_,?_⟩
     ·rw[<- k];refine bY ?_;simp only[go_sem,bG,Fz,c,aX,a1,f];simp only[go_sem,af e,N,H]
     ·rw[hd,eU];refine⟨λ_ h=>?_,λh=>?_,g⟩
      ·have:=t (by omega);have:=j (by omega) (by omega);omega
      ·by_cases s:(eJ e.aa:Int)<=y
       ·have:=t s;exact d (by omega)
       ·have:=D (by omega);exact d (.inl this)
    ·refine⟨y,i,bg (by simp only[go_sem,bG,Fz,c,f]),λh=>absurd h f,λ_=>by omega,C⟩
  obtain⟨r,a,k,j,d,g⟩:=loop l.length 0 (x - l.length) (by omega) (by simp only[mg]at b;omega) (by omega);rw[n0,bm]at *;refine⟨r,ct t201 rfl ?_,?_⟩
  ·simp only[go_sem,t201,p,k]
  ·unfold xj;rw[rP];refine⟨λh=>?_,λh=>?_,g⟩
   ·have:=j (by omega) (by omega);omega
   ·exact d (by omega)
theorem anV{l:M ah}{x:Int}(b:bK ax l<=mg)(c:0<=x)(a:x<=1048576):∃r,G 201 [aB l,E x]=Z (0,[E r])/\xj l x r:=afX _ l x (aP _) b c a
theorem az.ig(e:az)(es:M az):aw e.aa < aw (e::es):=by
 cases e;simp only[bJ,az.mk.sizeOf_spec];omega
theorem az.dL(e:az):aw e.aa < aw e:=by
 cases e;simp only[az.mk.sizeOf_spec];omega
theorem UF(e:az):(aU e).length=3:=by rw[aN];rfl
theorem acz(e:az)(k:Nat)(a:Bool):aZ (.has 3) [.list k a [aU e]]=Z (.bool J):=by
 rw[zb,UF,if_pos (aD 3)]
theorem Gv(e:az):bK aU e.aa<=ee (aU e):=by rw[fF];omega
def eS:M az->Nat
 |[]=>0
 |e::es=>1+eS e.aa+eS es
termination_by es=>aw es
decreasing_by
 ·exact az.ig e es
 ·simp only[bJ];omega
def gU:M az->Nat
 |[]=>0
 |e::es=>eS e.aa+gU es
theorem xn:∀(l:M az),eS l=l.length+gU l
 |[]=>by rw[eS];rfl
 |e::l=>by rw[eS,xn l,gU,aH];omega
theorem vQ(e:az):∀(l:M az),gU (l++[e])=gU l+eS e.aa
 |[]=>by simp[gU]
 |x::l=>by rw[au,gU,gU,vQ e l];omega
theorem MU(l:M az)(i:Nat):gU l=gU (l.take i)+gU (l.drop i):=by
 have app:∀(a b:M az),gU (a++b)=gU a+gU b:=by
  intro a
  induction a with
  |nil=>intro b;simp[gU]
  |cons x a c=>intro b;rw[au,gU,gU,c b];omega
 rw[<- app,bI]
theorem UB(n:Nat):∀(l:M az),aw l < n->eS l<=bK aU l:=by
 induction n with
 |zero=>intro l h;omega
 |succ n a=>
  intro l h;cases l with
  |nil=>rw[eS];omega
  |cons e l=>
   have c:=a l (by simp only[bJ]at h;omega);have b:=a e.aa (by have:=az.ig e l;omega);rw[eS,er];have:=Gv e;omega
theorem UC{l:M az}:eS l<=bK aU l:=UB _ l (aP _)
theorem ago(n:Nat):∀l:M az,aw l < n->bK aU l<=mg->G 317 [aE l]=Z (0,[E (eS l)]):=by
 induction n with
 |zero=>intro l h;omega
 |succ n g=>
  intro l t d;have c:l.length<=mg:=by simp only[bK]at d;omega
  refine ct t317 rfl ?_;simp only[go_sem,t317];have e:=cN (b:=lB G Ld) l (λi (m:Nat)=>(0,[E (m:Int),aE l,E l.length,E (i:Int)])) (λi=>l.length+gU (l.take i)) (0,[E (eS l),aE l,E l.length,E l.length,.bool J]) (by
   intro i x a;have f:=bp a;have k:=wj f c;have j:=(fD d (bc a)).1;have o:=aG (Gv x) j;have s:=g x.aa (by have:=bj (bc a);have:=az.dL x;omega) o;have r:=MU l (i+1);have q:=UC (l:=l);rw[xn]at q;rw[bZ _ _ _ a,vQ]at r;have p:IntKind.i64.wrap (((l.length+gU (l.take i):Nat):Int)+(eS x.aa:Int))=((l.length+(gU (l.take i)+eS x.aa):Nat):Int):=by rw[wrap_i64 (by simp only[mg]at d;omega)];omega
   rw[bZ _ _ _ a,vQ];simp only[go_sem,bG,Ld,f,aX,a,acz];simp only[go_sem,aN x,s,p,k]) (by
   rw[aR,xn];simp only[go_sem,bG,Ld,aC]) l.length 0 (by omega)
  rw[n0,aV,gU,cd]at e;rw[e];simp only[go_sem]
theorem aoC{l:M az}(a:bK aU l<=mg):G 317 [aE l]=Z (0,[E (eS l)]):=ago _ l (aP _) a
def DF(l:M az)(x r:Int):Prop:=((eS l:Int)<=x->r=x - eS l)/\(x < (eS l:Int)->r < 0)/\-33554432<=r
theorem af8(n:Nat):∀(l:M az) (x:Int),aw l < n->bK aU l<=mg->0<=x->x<=1048576->∃r,G 242 [aE l,E x]=Z (0,[E r])/\DF l x r:=by
 induction n with
 |zero=>intro l x h;omega
 |succ n F=>
  intro l x Q A S R;have b:l.length<=mg:=by simp only[bK]at A;omega
  have p:IntKind.i64.wrap (x - (l.length:Int))=x - l.length:=wrap_i64 (by simp only[mg]at b;omega);have loop:∀m i (y:Int),i+m=l.length->-33554432<=y->y<=1048576->∃(r a:Int),cm (lB G FG) (0,[aE l,E y,E (i:Int)])=Z (0,[aE l,E r,E a,.bool J])/\(0<=y->(gU (l.drop i):Int)<=y->r=y - gU (l.drop i))/\(y < 0\/y < (gU (l.drop i):Int)->r < 0)/\-33554432<=r:=by
   intro m
   induction m with
   |zero=>
    intro i y K C B;obtain rfl:i=l.length:=by omega
    refine⟨y,l.length,bg (by simp only[go_sem,bG,FG,aC]),?_⟩;rw[bE];simp only[gU];omega
   |succ m o=>
    intro i y K C B;have c:i < l.length:=by omega
    have a1:=cI (l:=l) (i:=i) c;have hd:=eg l i _ a1;generalize l[i]'c=e at a1 hd;by_cases f:0<=y
    ·have v:=bc a1;have P:=aG (Gv e) (fD A v).1;obtain⟨w,N,t,D,L⟩:=F e.aa y (by have:=bj v;have:=az.dL e;omega) P f B;have q:w<=1048576:=by
      by_cases s:(eS e.aa:Int)<=y
      ·have:=t s;omega
      ·have:=D (by omega);omega
     obtain⟨r,a,k,j,d,g⟩:=o (i+1) w (by omega) L q;have H:=wj c b;refine⟨r,a,?_,?_⟩
     ·rw[<- k];refine bY ?_;simp only[go_sem,bG,FG,c,aX,a1,f];simp only[go_sem,aN e,N,H]
     ·rw[hd,gU];refine⟨λ_ h=>?_,λh=>?_,g⟩
      ·have:=t (by omega);have:=j (by omega) (by omega);omega
      ·by_cases s:(eS e.aa:Int)<=y
       ·have:=t s;exact d (by omega)
       ·have:=D (by omega);exact d (.inl this)
    ·refine⟨y,i,bg (by simp only[go_sem,bG,FG,c,f]),λh=>absurd h f,λ_=>by omega,C⟩
  obtain⟨r,a,k,j,d,g⟩:=loop l.length 0 (x - l.length) (by omega) (by simp only[mg]at b;omega) (by omega);rw[n0,bm]at *;refine⟨r,ct t242 rfl ?_,?_⟩
  ·simp only[go_sem,t242,p,k]
  ·unfold DF;rw[xn];refine⟨λh=>?_,λh=>?_,g⟩
   ·have:=j (by omega) (by omega);omega
   ·exact d (by omega)
theorem aod{l:M az}{x:Int}(b:bK aU l<=mg)(c:0<=x)(a:x<=1048576):∃r,G 242 [aE l,E x]=Z (0,[E r])/\DF l x r:=af8 _ l x (aP _) b c a
end
section
def uq:M ah->Nat
 |[]=>0
 |e::es=>max (1+uq e.aa) (uq es)
termination_by es=>aw es
decreasing_by
 ·exact ah.ig e es
 ·simp only[bJ];omega
theorem Nd(e:ah):∀(l:M ah),uq (l++[e])=max (uq l) (1+uq e.aa)
 |[]=>by simp[uq]
 |x::l=>by rw[au,uq,Nd e l,uq,Nat.max_assoc]
theorem aib(n:Nat):∀(l:M ah),aw l < n->uq l<=bK ax l:=by
 induction n with
 |zero=>intro l h;omega
 |succ n a=>
  intro l h;cases l with
  |nil=>rw[uq];omega
  |cons e l=>
   have c:=a l (by simp only[bJ]at h;omega);have b:=a e.aa (by have:=ah.ig e l;omega);rw[uq,er];have:=eh e;omega
theorem Xx{l:M ah}:uq l<=bK ax l:=aib _ l (aP _)
theorem agb(n:Nat):∀l:M ah,aw l < n->bK ax l<=mg->G 256 [aB l]=Z (0,[E (uq l)]):=by
 induction n with
 |zero=>intro l h;omega
 |succ n k=>
  intro l s e;have c:l.length<=mg:=by simp only[bK]at e;omega
  refine ct t256 rfl ?_;simp only[go_sem,t256];have f:=cN (b:=lB G K1) l (λi (m:Nat)=>(0,[E (m:Int),aB l,E l.length,E (i:Int)])) (λi=>uq (l.take i)) (0,[E (uq l),aB l,E l.length,E l.length,.bool J]) (by
   intro i x a;have j:=bp a;have p:=wj j c;have o:=(fD e (bc a)).1;have g:=aG (eh x) o;have r:=k x.aa (by have:=bj (bc a);have:=ah.dL x;omega) g;have t:=Xx (l:=x.aa);have q:IntKind.i64.wrap (1+(uq x.aa:Int))=((1+uq x.aa:Nat):Int):=by rw[wrap_i64 (by simp only[mg]at g;omega)];omega
   rw[bZ _ _ _ a,Nd];simp only[go_sem,bG,K1,j,aX,a,eX];simp only[go_sem,af x,r,q,mx,p]) (by
   rw[aR];simp only[go_sem,bG,K1,aC]) l.length 0 (by omega)
  have d:((uq []:Nat):Int)=0:=by simp[uq]
  rw[n0,aV,d]at f;rw[f];simp only[go_sem]
theorem aoi{l:M ah}(a:bK ax l<=mg):G 256 [aB l]=Z (0,[E (uq l)]):=agb _ l (aP _) a
def Dy:ah:=⟨0,⟨#[]⟩,⟨0,[],[],⟨#[]⟩,⟨#[]⟩⟩,[],[],⟨#[]⟩,J,J,J,J,0,0,[],[],[]⟩
def lW(l:M ah)(a:z):u Nat:=ml (λe=>Z' (e.aj=a) && Z' (e.aq=3)) l 0
theorem acM{l:M ah}{nm:z}(hlen:l.length<=mg):G 314 [aB l,.str nm]=Z (match lW l nm with
  |some j=>match nth l j with
   |some e=>(0,ax e++[.bool I])
   |none=>(1,ax Dy++[.bool J])
  |none=>(1,ax Dy++[.bool J])):=by
 refine ct t314 rfl ?_;simp only[go_sem,t314];have g:=qP (b:=lB G Lc) l (λi=>(0,[.str nm,aB l,E l.length,E (i:Int),E 0,.str ⟨#[]⟩,E 0,.str ⟨#[]⟩,.str ⟨#[]⟩,.str ⟨#[]⟩,.bool J,.bool J,.bool J,.bool J,E 0,E 0])) (λe=>Z' (e.aj=nm) && Z' (e.aq=3))
  (1,[.str nm,aB l,E l.length,E l.length,.bool J,E 0,.str ⟨#[]⟩,E 0,.str ⟨#[]⟩,.str ⟨#[]⟩,.str ⟨#[]⟩,.bool J,.bool J,.bool J,.bool J,E 0,E 0]) (λi e=>(0,.bool I::ax e)) (by
  intro i e f;have h:=bp f;have d:=wj h hlen;simp only[go_sem,bG,Lc,h,aX,f,eX];by_cases a:e.aj=nm
  ·by_cases c:e.aq=3
   ·simp only[go_sem,af e,a,c]
   ·simp only[go_sem,af e,a,c,d]
  ·simp only[go_sem,af e,a,d]) (by simp only[go_sem,bG,Lc,aC])
 rw[n0]at g;rw[g];unfold lW;cases k:ml (λe=>Z' (e.aj=nm) && Z' (e.aq=3)) l 0 with
 |none=>simp only[go_sem,af,Dy];rfl
 |some j=>
  obtain⟨e,a,c⟩:=du k;simp only[go_sem,a,af]
end
section
noncomputable def unr{a c:Type}(b:a->u (Sg a c)):u (Sg a c)->u c
 |some (.go s)=>cm b s
 |some (.out r)=>Z r
 |none=>O
theorem IP{a c:Type}(b:a->u (Sg a c))(s:a):cm b s=unr b (b s):=by
 cases h:b s with
 |none=>
  unfold cm;rw[dif_neg]
  ·rfl
  ·rintro⟨r,d⟩
   cases d with
   |out g=>rw[h]at g;cases g
   |go g _=>rw[h]at g;cases g
 |some x=>
  cases x with
  |go e=>rw[bY h];rfl
  |out r=>rw[bg h];rfl
theorem agW{a c:Type}(b:a->u (Sg a c))(s:a):unr b (Z (.go s))=cm b s:=(rfl)
theorem Mm{a c:Type}(b:a->u (Sg a c))(r:c):unr b (Z (.out r))=Z r:=(rfl)
theorem SI{a β:Type}(f:a->β)(p:β->Bool):∀(l:M a) (k:Nat),ml p (l.map f) k=ml (λe=>p (f e)) l k
 |[],_=>rfl
 |e::l,k=>by simp only[aW,ml,SI f p l (k+1)]
theorem wA(l:M ah)(a:z):ix (l.map ah.aj) a=dC l a:=by
 rw[ix,SI,dC]
 congr 1
 funext e
 exact decide_eq_decide.2 eq_comm
theorem Ni{d:M ah}{j:Nat}{e:ah}(h:nth d j=Z e):aZ (.Wn 19 0 19 J) [aB d,E (j:Int)]=Z (.list 0 J [ax e]):=by
 have a:nth (d.map ax) j=Z (ax e):=by rw[aX,h];rfl
 simp only[aZ,bW,a];rw[rT];simp
theorem aid{d:M ah}{j:Nat}{e:ah}(h:nth d j=Z e):aZ (.Wn 19 18 1 J) [aB d,E (j:Int)]=Z (.list 0 J [ax e]):=by
 have a:nth (d.map ax) j=Z (ax e):=by rw[aX,h];rfl
 simp only[aZ,bW,a];rw[rT];simp
theorem ZQ{l:M ah}{nm:z}(p:bK ax l<=mg):G 97 [aB l,bu [nm]]=Z (match dC (dk l) nm with
  |some j=>match nth (dk l) j with
   |some e=>(1,ax e++[.bool I])
   |none=>(0,ax Dy++[.bool J])
  |none=>(0,ax Dy++[.bool J])):=by
 have hd:=lN (es:=l);have m:(dk l).length<=mg:=by simp only[bK]at *;omega
 have b:=q94 p;have k:=q95 (l:=dk l) m;have a:=q96 (l:=(dk l).map ah.aj) (v:=nm) (by rw[ay];exact m);rw[wA]at a;refine ct t97 rfl ?_;simp only[go_sem,IP,bG,adN,fe,t97];cases i:dC (dk l) nm with
 |none=>
  rw[i]at a;have f:aZ .pl [E (-1)]=Z (.bool J):=rfl;by_cases n:dk l=[]
  ·have d:kE (dk l)=0:=by rw[n];rfl
   simp only[go_sem,Mm,b,d,k,a,f,ij,af,Dy];rfl
  ·have d:kE (dk l)=1:=kQ n;simp only[go_sem,Mm,b,d,k,a,f,ij,af,Dy];rfl
 |some j=>
  obtain⟨e,c,y⟩:=du i;rw[i]at a;have f:aZ .pl [E (j:Int)]=Z (.bool J):=rfl;have r:dk l≠[]:=by intro h;rw[h]at c;cases c
  have q:=bp c;have w:=Ni c;have t:=aid c;have s:=jd 19 J ((dk l).map ax) j (by rw[ay];exact q);have g:¬(j:Int) < 0:=by omega
  have d:kE (dk l)=1:=kQ r;have o:IntKind.i64.wrap 1=1:=by decide
  have x:Z' ((1:Int) < 1)=J:=by decide
  simp only[go_sem,IP,agW,Mm,bG,fe,b,d,k,a,f,ij,w,t,s,g,c,o,af]
end
section
def r9(l:M az)(a:z):u Nat:=ml (λe=>Z' (e.aj=a)) l 0
theorem ak1{l:M az}{nm:z}(hlen:l.length<=mg):G 243 [aE l,.str nm]=Z (0,[E (ij (r9 l nm))]):=by
 refine ct t243 rfl ?_;simp only[go_sem,t243];have c:=qP (b:=lB G KZ) l (λi=>(0,[aE l,.str nm,E (i:Int)])) (λe=>Z' (e.aj=nm)) (1,[aE l,.str nm,E l.length,.bool J]) (λi e=>(0,[E (i:Int)])) (by
  intro i e a;have d:=bp a;have f:=wj d hlen;simp only[go_sem,bG,KZ,d,aX,a,aN];cases k:Z' (e.aj=nm)<;>simp only[go_sem,f]) (by simp only[go_sem,bG,KZ,aC])
 rw[n0]at c;rw[c];unfold r9;cases g:ml (λe=>Z' (e.aj=nm)) l 0 with
 |none=>simp only[go_sem,ij]
 |some j=>
  obtain⟨e,h,m⟩:=du g;simp only[go_sem,h,ij]
theorem TK(a:z):∀(l:M az) (k:Nat),VK a (l.map aU) (k:Int)=Z (ij (ml (λe=>Z' (e.aj=a)) l k))
 |[],k=>rfl
 |e::l,k=>by
  have h:=TK a l (k+1);simp only[aW,aN e,VK,ml];by_cases b:e.aj=a
  ·simp[b,ij]
  ·have c:VK a (l.map aU) ((k:Int)+1)=Z (ij (ml (λe=>Z' (e.aj=a)) l (k+1))):=h;simp[b,c]
theorem als(l:M az)(a:z):G 9003 [aE l,.str a]=Z (0,[E (ij (r9 l a))]):=
 yx (i:=9003) (sg:=⟨9003,[.val J [.d],.val J [.d]],[([.val J [.d]],[])]⟩) (v:=([.val J [.d]],[])) (j:=0) (r:=([.val J [.d (E (ij (r9 l a)))]],[])) (ws:=[aE l,.str a]) rfl rfl ((Ze T rfl [.val J [.d (aE l)],.val J [.d (.str a)]]).trans (by
  have h:=TK a l 0;have b:VK a (l.map aU) 0=Z (ij (r9 l a)):=h;simp only[XT,aE,b];rfl)) rfl rfl
def jF(k:Int):Bool:=Z' (k=2) ||decide (k=4)
theorem aof(k:Int):G 247 [E k]=Z (0,[.bool (jF k)]):=by
 refine ct t247 rfl ?_;simp only[go_sem,t247,jF];cases h:Z' (k=2)<;>simp only[go_sem]
def eZ(l:M az)(a:z):u z:=match r9 l a with
 |some j=>(nth l j).map az.aS
 |none=>O
def sL(l:M az):M z->M z->M z×Bool
 |t,[]=>(t,I)
 |t,k::a=>match eZ l k with
  |none=>(t,J)
  |some v=>sL l (t++[v]) a
def kst{a:Type}(l:M az)(g:Nat->M z->a)(i:Nat)(t:M z)(k:z):Sg (M z) a:=match eZ l k with
 |none=>.out (g i t)
 |some v=>.go (t++[v])
def keyOf(n:ah)(x:az):M z×Bool:=
 if n.aq=2 then (if (sL x.aa [] n.a_).2=I then ((sL x.aa [] n.a_).1,I) else ([],J)) else ([x.aS],I)
theorem Ji{l:M az}{k:z}:r9 l k=O->eZ l k=O:=λh=>by rw[eZ,h]
theorem Jj{l:M az}{k:z}{j:Nat}{e:az}(h:r9 l k=Z j)(a:nth l j=Z e):eZ l k=Z e.aS:=by rw[eZ,h];simp only[a,aQ]
theorem E4{b:Type}(l:M az)(g:M z->b):∀(a:M z) (i:Nat) (t:M z),
  iD (kst l (λ_ t=>g t)) i t a=if (sL l t a).2=I then .go (sL l t a).1 else .out (g (sL l t a).1)
 |[],_,_=>rfl
 |k::a,i,t=>by
  cases h:eZ l k with
  |none=>simp only[iD,kst,sL,h];rfl
  |some v=>simp only[iD,kst,sL,h];exact E4 l g a (i+1) (t++[v])
theorem ahs{t:M z}{v:z}(h:t.length < mg):aZ (.app 1 16) [bu t,.list 1 I [[.str v]]]=Z (bu (t++[v])):=by
 have h:=eN 1 16 I (t.map fe) [[.str v]] (by decide) (by simp only[mg,ay,aH,aJ]at *;omega);rw[h];simp[fe]
theorem iT:bu []=.list 1 I []:=(rfl)
theorem QY(v:z):aZ (.sV 1 I) [.str v]=Z (.list 1 I [[.str v]]):=by simp[aZ,chunk,dV,D.plain]
theorem ZL{n:ah}{x:az}(w:n.a_.length<=mg)(q:x.aa.length<=mg):G 244 (ax n++aU x)=Z (0,[bu (keyOf n x).1,.bool (keyOf n x).2]):=by
 refine ct t244 (by rw[af,aN];rfl) ?_;simp only[go_sem,t244,af,aN];have d:=Al (b:=lB G FH) n.a_ (λi (t:M z)=>(0,E (i:Int)::(ax n++aU x++[bu t]))) (kst x.aa (λ_ t=>(0,[.bool J,bu t])))
  (λt=>(1,E n.a_.length::.bool J::(ax n++aU x++[bu t]))) (λi t=>t.length=i) [] rfl (by
  intro i k t g o;have h:=bp g;have r:=wj h w;have f:=ak1 (l:=x.aa) (nm:=k) q;have m:∀v,aZ (.app 1 16) [bu t,.list 1 I [[.str v]]]=Z (bu (t++[v])):=λv=>ahs (by omega);cases a:r9 x.aa k with
  |none=>
   rw[a]at f;simp only[go_sem,bG,FH,h,aX,g,af,aN,fe,f,ij,kst,Ji a,PC];intro A s;cases s
  |some j=>
   obtain⟨e,p,C⟩:=du a;rw[a]at f;have y:¬(j:Int) < 0:=by omega
   simp only[go_sem,bG,FH,h,aX,g,af n,aN x,fe,f,ij,y,kst,Jj a p,PC];simp only[go_sem,p,aN e,QY,m,r];simp[o]) (by
  intro t o;simp only[go_sem,bG,FH,aC,af,aN])
 rw[n0,E4]at d;simp only[af,aN,au,av,iT]at d;rw[keyOf];by_cases c:n.aq=2
 ·have hd:Z' (n.aq=2)=I:=by simp[c]
  simp only[go_sem,hd];rw[d];clear d;cases B:(sL x.aa [] n.a_).2
  ·simp only[go_sem,sgF,c];rfl
  ·simp only[go_sem,sgF,c]
 ·have hd:Z' (n.aq=2)=J:=by simp[c]
  simp only[go_sem,QY,c];rfl
theorem VW{n:ah}{x:az}(w:n.a_.length<=mg)(B:x.aa.length<=mg):G 320 (ax n++aU x)=Z (0,[bu (keyOf n x).1,.bool (keyOf n x).2]):=by
 refine ct t320 (by rw[af,aN];rfl) ?_;simp only[go_sem,t320,af,aN];have d:=Al (b:=lB G FM) n.a_ (λi (t:M z)=>(0,[bu n.a_,E n.a_.length,E (i:Int),.str x.aj,.str x.aS,aE x.aa,bu t])) (kst x.aa (λ_ t=>(0,[.bool J,bu t,bu []])))
  (λt=>(1,[bu n.a_,E n.a_.length,E n.a_.length,.bool J,.str x.aj,.str x.aS,aE x.aa,bu t])) (λi t=>t.length=i) [] rfl (by
  intro i k t h p;have m:=bp h;have r:=wj m w;have f:=als x.aa k;have l:aZ (.sV 1 I) []=Z (bu []):=by simp[aZ,chunk]
  have o:∀v,aZ (.app 1 16) [bu t,.list 1 I [[.str v]]]=Z (bu (t++[v])):=λv=>ahs (by omega);cases a:r9 x.aa k with
  |none=>
   rw[a]at f;simp only[go_sem,bG,FM,m,aX,h,fe,f,ij,kst,Ji a,PC,l];intro A s;cases s
  |some j=>
   obtain⟨e,q,F⟩:=du a;rw[a]at f;have y:¬(j:Int) < 0:=by omega
   simp only[go_sem,bG,FM,m,aX,h,fe,f,ij,y,kst,Jj a q,PC];simp only[go_sem,q,aN e,QY,o,r];simp[p]) (by
  intro t p;simp only[go_sem,bG,FM,aC])
 rw[n0,E4 (g:=λt=>(0,[D.bool J,bu t,bu []]))]at d;simp only[iT]at d;rw[keyOf];by_cases c:n.aq=2
 ·have hd:Z' (n.aq=2)=I:=by simp[c]
  simp only[go_sem,hd];rw[d];clear d;cases C:(sL x.aa [] n.a_).2
  ·simp only[go_sem,sgF,c];rfl
  ·simp only[go_sem,sgF,c]
 ·have hd:Z' (n.aq=2)=J:=by simp[c]
  simp only[go_sem,QY,c];rfl
end
section
theorem EV{β:Type}(f:Nat->u β):∀m i,mj f (i+1) m=mj (λj=>f (j+1)) i m
 |0,_=>rfl
 |m+1,i=>by
  simp only[mj,EV f m (i+1)]
theorem Qq{a β:Type}(f:Nat->u a)(g:a->β):∀m i,mj (λj=>(f j).map g) i m=(mj f i m).map g
 |0,_=>rfl
 |m+1,i=>by
  simp only[mj];cases h:f i with
  |none=>simp only[Option.map_none,Qq f g m (i+1)]
  |some r=>rfl
def pk{d β:Type}(c:d->d->u β)(a b:M d)(i:Nat):u β:=match nth a i,nth b i with
 |some x,Z y=>c x y
 |_,_=>O
def AD{d β:Type}(c:d->d->u β):M d->M d->u β
 |x::a,y::b=>match c x y with
  |some r=>Z r
  |none=>AD c a b
 |_,_=>O
theorem Ya{d β:Type}(c:d->d->u β):∀(a b:M d),mj (pk c a b) 0 (min a.length b.length)=AD c a b
 |[],b=>by simp only[aJ,Nat.zero_min,mj,AD]
 |x::a,[]=>by simp only[aJ,Nat.min_zero,mj,AD]
 |x::a,y::b=>by
  have h:(min (x::a).length (y::b).length)=min a.length b.length+1:=by simp only[aH];omega
  rw[h];have f:(λj=>pk c (x::a) (y::b) (j+1))=pk c a b:=rfl;have e:pk c (x::a) (y::b) 0=c x y:=rfl;simp only[mj,EV,f,e,AD,Ya c a b];cases c x y<;>rfl
def lsC(x y:z):u Bool:=if Z' (x=y)=I then O else Z (ku x y)
def gg(a b:M z):Bool:=(AD lsC a b).getD (Z' (a.length < b.length))
theorem af_{a b:M z}(j:a.length<=mg)(p:b.length<=mg):G 248 [bu a,bu b]=Z (0,[.bool (gg a b)]):=by
 refine ct t248 rfl ?_;simp only[go_sem,t248];have f:=Kc (b:=lB G FI) (λi=>(0,[bu a,bu b,E (i:Int)])) (λi=>(pk lsC a b i).map (λr=>(0,[.bool r]))) (min a.length b.length) (1,[bu a,bu b,E (min a.length b.length:Nat),.bool J]) (by
  intro i n;have c:i < a.length:=by omega
  have d:i < b.length:=by omega
  have a1:=cI (l:=a) c;have a2:=cI (l:=b) d;generalize a[i]'c=x at a1;generalize b[i]'d=y at a2;have g:=wj c j;simp only[go_sem,bG,FI,c,d,aX,a1,a2,fe,pk,lsC];cases o:Z' (x=y)<;>simp only[go_sem,g,Xj,aX,a1,a2,fe]) (by
  by_cases h:a.length < b.length
  ·have e:min a.length b.length=a.length:=by omega
   rw[e];simp only[go_sem,bG,FI,aC]
  ·have e:min a.length b.length=b.length:=by omega
   rw[e];simp only[go_sem,bG,FI];by_cases k:b.length < a.length<;>simp only[go_sem,k,aC]) (min a.length b.length) 0 (by omega)
 rw[n0,Qq,Ya]at f;rw[f,gg];cases m:AD lsC a b<;>simp only[go_sem,Option.getD,Option.map]
theorem aoE(a:z):G 323 [.str a]=Z (0,[.bool J]):=by
 refine ct t323 rfl ?_;simp only[go_sem,t323]
def rG(x y:z):Int:=if ku x y=I then -1 else if Z' (x=y)=I then 0 else 1
theorem aoF(x y:z):G 324 [.str x,.str y]=Z (0,[E (rG x y)]):=by
 refine ct t324 rfl ?_;simp only[go_sem,t324,aoE,rG];cases b:ku x y<;>cases a:Z' (x=y)<;>simp only[go_sem,b,a]
def M3(a b:M z)(i:Nat):u Int:=match nth a i with
 |none=>O
 |some x=>match nth b i with
  |none=>Z 1
  |some y=>if rG x y=0 then O else Z (rG x y)
def cmpL(a b:M z):Int:=match mj (M3 a b) 0 a.length with
 |some r=>r
 |none=>if a.length < b.length then -1 else 0
theorem OA{a:Type}:∀{l:M a} {i:Nat},l.length<=i->nth l i=O
 |[],_,_=>rfl
 |_::l,0,h=>by simp at h
 |_::l,i+1,h=>by
  have:=OA (l:=l) (i:=i) (by simpa using h)
  simpa [nth] using this
theorem aoG{a b:M z}(k:a.length<=mg)(o:b.length<=mg):G 325 [bu a,bu b]=Z (0,[E (cmpL a b)]):=by
 refine ct t325 rfl ?_;simp only[go_sem,t325];have f:=Kc (b:=lB G FO) (λi=>(0,[bu a,bu b,bu a,E a.length,E (i:Int)])) (λi=>(M3 a b i).map (λr=>(0,[E r]))) a.length (1,[bu a,bu b,bu a,E a.length,E a.length,.bool J]) (by
  intro i c;have a1:=cI (l:=a) c;generalize a[i]'c=x at a1;have j:=wj c k;by_cases g:i < b.length
  ·have a2:=cI (l:=b) g;generalize b[i]'g=y at a2;have e:Z' ((b.length:Int)<=(i:Int))=J:=by simp only[decide_eq_false_iff_not];omega
   have m:=aoF x y;simp only[go_sem,bG,FO,c,e,aX,a1,a2,fe,M3,m];by_cases d:rG x y=0
   ·have hd:Z' (rG x y=0)=I:=by simp[d]
    simp only[go_sem,d,j,Xj]
   ·have hd:Z' (rG x y=0)=J:=by simp[d]
    simp only[go_sem,d,Xj]
  ·have a2:=OA (l:=b) (i:=i) (by omega);have e:Z' ((b.length:Int)<=(i:Int))=I:=by simp only[decide_eq_true_eq];omega
   simp only[go_sem,bG,FO,c,e,aX,a1,a2,fe,M3,Xj]) (by simp only[go_sem,bG,FO,aC]) a.length 0 (by omega)
 rw[n0,Qq]at f;rw[f,cmpL];cases n:mj (M3 a b) 0 a.length
 ·simp only[go_sem,Option.getD,Option.map];by_cases h:a.length < b.length<;>simp only[go_sem,h]
 ·simp only[go_sem,Option.getD,Option.map]
end
section
theorem W_:∀l:M UInt8,Op.bytesLess l l=J
 |[]=>rfl
 |x::l=>by
  have h:¬x < x:=by simp
  simp[Op.bytesLess,W_ l,h]
theorem Rk(x:z):ku x x=J:=W_ _
theorem vU(b:M z):cmpL [] b=if 0 < b.length then -1 else 0:=(rfl)
theorem Ix(x:z)(a:M z):cmpL (x::a) []=1:=(rfl)
theorem Bq(x y:z)(a b:M z):cmpL (x::a) (y::b)=if rG x y=0 then cmpL a b else rG x y:=by
 have d:(λj=>M3 (x::a) (y::b) (j+1))=M3 a b:=rfl;have c:M3 (x::a) (y::b) 0=if rG x y=0 then O else Z (rG x y):=rfl
 rw[cmpL];simp only[aH,mj,EV,d,c];by_cases h:rG x y=0
 ·simp only[h,if_true,cmpL,Nat.add_lt_add_iff_right]
 ·simp only[h,if_false]
theorem tK:∀a b:M z,gg a b=Z' (cmpL a b < 0)
 |[],[]=>rfl
 |[],y::b=>by
  rw[vU];simp[gg,AD]
 |x::a,[]=>by
  rw[Ix];simp[gg,AD]
 |x::a,y::b=>by
  rw[Bq];by_cases h:x=y
  ·subst h;have c:rG x x=0:=by simp[rG,Rk]
   have d:lsC x x=O:=by simp[lsC]
   rw[if_pos c,<- tK a b];simp only[gg,AD,d,aH,Nat.add_lt_add_iff_right]
  ·have d:lsC x y=Z (ku x y):=by simp[lsC,h]
   have f:gg (x::a) (y::b)=ku x y:=by simp only[gg,AD,d,Option.getD]
   rw[f];cases e:ku x y
   ·have c:rG x y=1:=by simp[rG,e,h]
    simp[c]
   ·have c:rG x y=-1:=by simp[rG,e]
    simp[c]
theorem N6(l:M az):∀(a t:M z),(sL l t a).1.length<=t.length+a.length
 |[],t=>by simp[sL]
 |k::a,t=>by
  cases h:eZ l k with
  |none=>simp only[sL,h,aH];omega
  |some v=>
   have:=N6 l a (t++[v]);simp only[sL,h,aH,bh,aJ]at *;omega
theorem nt{n:ah}{x:az}(b:n.a_.length<=mg):(keyOf n x).1.length<=mg:=by
 have h:=N6 x.aa n.a_ [];simp only[aJ,bo]at h;unfold keyOf;have a:1<=mg:=by decide
 split
 ·split
  ·exact aG h b
  ·simp
 ·simpa using a
def pV(n:ah)(a b:az):Int:=if jF n.aq=I then cmpL (keyOf n a).1 (keyOf n b).1 else 0
theorem ags{n:ah}{a b:az}(d:n.a_.length<=mg)(i:a.aa.length<=mg)(h:b.aa.length<=mg):G 326 (ax n++aU a++aU b)=Z (0,[E (pV n a b)]):=by
 have f:=VW (n:=n) (x:=a) d i;have e:=VW (n:=n) (x:=b) d h;have j:=aoG (a:=(keyOf n a).1) (b:=(keyOf n b).1) (nt d) (nt d);have g:∀c:Int,aZ .pl [E c]=Z (.bool J):=λc=>rfl;simp only[af,aN,au,av]at f e;refine ct t326 (by rw[af,aN,aN];rfl) ?_;simp only[go_sem,t326,af,aN,pV,jF];obtain⟨v1,c1⟩:∃v,Z' (n.aq=2)=v:=⟨_,rfl⟩
 obtain⟨v2,k⟩:∃v,Z' (n.aq=4)=v:=⟨_,rfl⟩
 cases v1<;>cases v2<;>simp only[go_sem,c1,k,f,e,j,g]
theorem ak3{d:M ah}{a b:az}{i k:Nat}{e:ah}(hd:d.length<=mg)(f:e.a_.length<=mg)(v:a.aa.length<=mg)(t:b.aa.length<=mg)
  (r:dC d a.aj=Z i) (q:dC d b.aj=Z k) (s:nth d i=Z e) :
  G 249 ([aB d]++aU a++aU b)=Z (0,[.bool (if Z' (i=k) && jF e.aq then gg (keyOf e a).1 (keyOf e b).1 else Z' (i < k))]):=by
 have o:=ZP (l:=d) (nm:=a.aj) hd;have m:=ZP (l:=d) (nm:=b.aj) hd;rw[r]at o;rw[q]at m;have j:=ZL (n:=e) (x:=a) f v;have h:=ZL (n:=e) (x:=b) f t;have y:=af_ (a:=(keyOf e a).1) (b:=(keyOf e b).1) (nt f) (nt f);have w:=aof e.aq;have p:aZ .pl [.bool (gg (keyOf e a).1 (keyOf e b).1)]=Z (.bool J):=rfl;simp only[af,aN,au,av]at j h;refine ct t249 (by rw[aN,aN];rfl) ?_;have A:(Z (ax e):u (M D))=Z (ax e):=rfl;simp only[go_sem,t249,aN,o,m,ij];by_cases c:i=k
 ·subst c;cases c1:jF e.aq<;>simp only[go_sem,aX,s,af e,j,h,y,w,c1,p,aC]
 ·have B:Z' (i=k)=J:=by simp[c]
  have g:Z' ((i:Int)=(k:Int))=J:=by simp only[decide_eq_false_iff_not];omega
  simp only[go_sem,c,g]
end
section
def Gw(a:z->Bool)(mt:z->z->Bool)(r:M ah->M az->Bool)(n:ah)(x:az):Bool:=
 if Z' (n.aq=3) ||decide (n.aq=4) then Z' (x.aa.length=0) && isVal a mt n.type x.aS
 else if Z' (n.aq=2) then (keyOf n x).2 && (Z' (x.aS.size=0) && r (dk n.aa) x.aa)
 else Z' (x.aS.size=0) && ((n.df ||decide (0 < x.aa.length)) && r (dk n.aa) x.aa)
theorem aoe{j:z->Bool}{mt:z->z->Bool}(m:∀s:z,s.size<=mg->G 227 [.str s]=Z (0,[.bool (j s)]))(o:∀p s:z,p.size<=mg->s.size<=mg->G 236 [.str p,.str s]=Z (0,[.bool (mt p s)]))
  {r:M ah->M az->Bool} {n:ah} {x:az} (d:ee (ax n)<=mg) (c:ee (aU x)<=mg)
  (l:G 246 [aB (dk n.aa),aE x.aa]=Z (0,[.bool (r (dk n.aa) x.aa)])) :
  G 245 (ax n++aU x)=Z (0,[.bool (Gw j mt r n x)]):=by
 rw[dO]at d;rw[fF]at c;have F:ee (ew n.type)<=mg:=by omega
 have D:n.a_.length<=mg:=by simp only[bK]at d;omega
 have C:bK ax n.aa<=mg:=by omega
 have B:x.aS.size<=mg:=by omega
 have A:x.aa.length<=mg:=by simp only[bK]at c;omega
 have y:=ak0 m o F B;have t:=ZL (n:=n) (x:=x) D A;have q:=q81 C;have k:∀b:Bool,aZ .pl [.bool b]=Z (.bool J):=λb=>rfl;clear m o d c F D C B A;simp only[af,aN,ew,au,av]at y t;refine ct t245 (by rw[af,aN];rfl) ?_;simp only[go_sem,t245,af,aN,Gw];obtain⟨v3,L⟩:∃v,Z' (n.aq=3)=v:=⟨_,rfl⟩
 obtain⟨v4,K⟩:∃v,Z' (n.aq=4)=v:=⟨_,rfl⟩
 obtain⟨v2,N⟩:∃v,Z' (n.aq=2)=v:=⟨_,rfl⟩
 obtain⟨w,a⟩:∃v,Z' (x.aa.length=0)=v:=⟨_,rfl⟩
 have f:Z' ((x.aa.length:Int)=0)=w:=by rw[<- a];apply decide_eq_decide.2;omega
 have cg:Z' ((0:Int) < (x.aa.length:Int))=!w:=by rw[<- a,<- decide_not];apply decide_eq_decide.2;omega
 have g:Z' (0 < x.aa.length)=!w:=by rw[<- a,<- decide_not];apply decide_eq_decide.2;omega
 obtain⟨e,i⟩:∃v,Z' (x.aS=⟨#[]⟩)=v:=⟨_,rfl⟩
 have h:Z' (x.aS.size=0)=e:=by rw[<- i,dB]
 cases v3<;>cases v4<;>cases v2<;>cases w<;>cases e<;>simp only[go_sem,L,K,N,a,f,g,i,h,y,t]
 all_goals try (cases P:(keyOf n x).2<;>simp only[go_sem,i,q,l,k])
 all_goals try (cases H:n.df<;>simp only[go_sem,cg,q,l,k])
theorem aoD{l:z->Bool}{mt:z->z->Bool}(q:∀s:z,s.size<=mg->G 285 [.str s]=Z (0,[.bool (l s)]))(t:∀p s:z,p.size<=mg->s.size<=mg->G 310 [.str p,.str s]=Z (0,[.bool (mt p s)]))
  {r:M ah->M az->Bool} {n:ah} {x:az} (f:ee (ax n)<=mg) (d:ee (aU x)<=mg)
  (hd:n.aq=1\/n.aq=2\/n.aq=3\/n.aq=4) (o:G 322 [aB n.aa,aE x.aa]=Z (0,[.bool (r (dk n.aa) x.aa)])) :
  G 321 (ax n++aU x)=Z (0,[.bool (Gw l mt r n x)]):=by
 rw[dO]at f;rw[fF]at d;have F:ee (ew n.type)<=mg:=by omega
 have D:n.a_.length<=mg:=by simp only[bK]at f;omega
 have Q:bK ax n.aa<=mg:=by omega
 have C:x.aS.size<=mg:=by omega
 have B:x.aa.length<=mg:=by simp only[bK]at d;omega
 have A:=alf q t F C;have y:=VW (n:=n) (x:=x) D B;have R:∀b:Bool,aZ .pl [.bool b]=Z (.bool J):=λb=>rfl;clear q t f d F D Q C B;simp only[af,aN,ew,au,av]at A y;refine ct t321 (by rw[af,aN];rfl) ?_;simp only[go_sem,t321,af,aN,Gw];have K:∃v1 v2 v3 v4:Bool,Z' (n.aq=1)=v1/\Z' (n.aq=2)=v2/\Z' (n.aq=3)=v3/\Z' (n.aq=4)=v4/\((v1,v2,v3,v4)=(I,J,J,J)\/(v1,v2,v3,v4)=(J,I,J,J)\/(v1,v2,v3,v4)=(J,J,I,J)\/(v1,v2,v3,v4)=(J,J,J,I)):=by
  refine⟨_,_,_,_,rfl,rfl,rfl,rfl,?_⟩;rcases hd with h|h|h|h<;>rw[h]<;>decide
 obtain⟨v1,v2,v3,v4,c1,P,N,L,a⟩:=K;clear hd;obtain⟨w,c⟩:∃v,Z' (x.aa.length=0)=v:=⟨_,rfl⟩
 have g:Z' ((x.aa.length:Int)=0)=w:=by rw[<- c];apply decide_eq_decide.2;omega
 have cg:Z' ((0:Int) < (x.aa.length:Int))=!w:=by rw[<- c,<- decide_not];apply decide_eq_decide.2;omega
 have i:Z' (0 < x.aa.length)=!w:=by rw[<- c,<- decide_not];apply decide_eq_decide.2;omega
 obtain⟨e,k⟩:∃v,Z' (x.aS=⟨#[]⟩)=v:=⟨_,rfl⟩
 have j:Z' (x.aS.size=0)=e:=by rw[<- k,dB]
 cases m:r (dk n.aa) x.aa<;>rcases a with a|a|a|a<;>cases a<;>cases w<;>cases e<;>simp only[go_sem,N,L,P,c,g,i,k,j,A,y,c1,o,m]
 all_goals try (cases S:(keyOf n x).2<;>simp only[go_sem,k,o])
 all_goals try (cases H:n.df<;>simp only[go_sem,cg])
 all_goals try rw[m]
end
section
def ug(t:u (az×Nat))(s:ah)(k:Nat)(e:az):Bool:=match t with
 |none=>I
 |some (p,a)=>if Z' (a=k) && jF s.aq then gg (keyOf s p).1 (keyOf s e).1 else Z' (a < k)
def mw{b:Type}(a:b)(nr:ah->az->Bool)(d:M ah)(i:Nat)(t:u (az×Nat))(e:az):Sg (u (az×Nat)) b:=match dC d e.aj with
 |none=>.out a
 |some k=>match nth d k with
  |none=>.out a
  |some s=>if (nr s e && ug t s k e)=I then .go (Z (e,k)) else .out a
def HR{a b:Type}:Sg a b->Bool
 | .go _=>I
 | .out _=>J
def nj(nr:ah->az->Bool)(d:M ah)(l:M az):Bool:=HR (iD (mw () nr d) 0 O l)
theorem OZ{b:Type}(c:b)(nr:ah->az->Bool)(d:M ah)(fin:u (az×Nat)->b)(yes:b)(hf:∀t,fin t=yes):∀(l:M az) (i:Nat) (t:u (az×Nat)),
  sgF fin (iD (mw c nr d) i t l)=if HR (iD (mw () nr d) i t l)=I then yes else c
 |[],_,t=>hf t
 |e::l,i,t=>by
  cases a:dC d e.aj with
  |none=>simp only[iD,mw,a];rfl
  |some k=>
   cases f:nth d k with
   |none=>simp only[iD,mw,a,f];rfl
   |some s=>
    cases h:(nr s e && ug t s k e)
    ·simp only[iD,mw,a,f,h,aF,if_false];rfl
    ·simp only[iD,mw,a,f,h,if_true];exact OZ c nr d fin yes hf l (i+1) (Z (e,k))
def YQ(d:M ah)(l:M az)(i:Nat)(t:u (az×Nat)):Prop:=match t with
 |none=>i=0
 |some (p,k)=>∃j,i=j+1/\nth l j=Z p/\dC d p.aj=Z k
theorem ak2{nr:ah->az->Bool}{d:M ah}{l:M az}(hd:bK ax d<=mg)(C:bK aU l<=mg)
  (P:∀s e,s∈d->e∈l->G 245 (ax s++aU e)=Z (0,[.bool (nr s e)])):G 246 [aB d,aE l]=Z (0,[.bool (nj nr d l)]):=by
 have H:d.length<=mg:=by simp only[bK]at hd;omega
 have F:l.length<=mg:=by simp only[bK]at C;omega
 refine ct t246 rfl ?_;simp only[go_sem,t246];have L:=Al (b:=lB G B7) l (λi (t:u (az×Nat))=>(0,[aB d,aE l,E (i:Int)])) (mw (0,[.bool J]) nr d) (λt=>(1,[aB d,aE l,E l.length,.bool J])) (YQ d l) O rfl (by
  intro i e t a A;have r:=bp a;have W:=wj r F;have q:=ZP (l:=d) (nm:=e.aj) H;cases hf:dC d e.aj with
  |none=>
   rw[hf]at q;simp only[go_sem,bG,B7,r,aX,a,aN e,q,ij,mw,hf,PC];intro g f;cases f
  |some k=>
   rw[hf]at q;obtain⟨s,o,h2⟩:=du hf;have x:=P s e (bc o) (bc a);have K:Z' ((k:Int) < 0)=J:=by simp only[decide_eq_false_iff_not];omega
   simp only[af,aN,au,av]at x;have c:∀g,Sg.go (Z (e,k))=(Sg.go g:Sg (u (az×Nat)) (Nat×M D))->YQ d l (i+1) g:=by
    intro g f;cases f;exact⟨i,rfl,a,hf⟩
   have T:mw (0,[D.bool J]) nr d i t e=if (nr s e && ug t s k e)=I then .go (Z (e,k)) else .out (0,[D.bool J]):=by simp only[mw,hf,o]
   rw[T];cases t with
   |none=>
    obtain rfl:i=0:=A;simp only[go_sem,bG,B7,r,aX,a,o,aN e,af s,q,ij,x,K,ug];cases hq:nr s e
    ·simp only[go_sem,PC];intro g f;cases f
    ·simp only[go_sem,PC];exact⟨rfl,c⟩
   |some pk=>
    obtain⟨p,m⟩:=pk;obtain⟨j,rfl,i2,i3⟩:=A;obtain⟨h,i4,_⟩:=du i3;have R:h.a_.length<=mg:=by
     have a1:=cG ax (bc i4);rw[dO]at a1;simp only[bK]at a1 hd;omega
    have B:∀y:az,y∈l->y.aa.length<=mg:=by
     intro y V;have a1:=cG aU V;rw[fF]at a1;simp only[bK]at a1 C;omega
    have w:=ak3 H R (B p (bc i2)) (B e (bc a)) i3 hf i4;have Q:(if Z' (m=k) && jF h.aq then gg (keyOf h p).1 (keyOf h e).1 else Z' (m < k))=ug (Z (p,m)) s k e:=by
     by_cases N:m=k
     ·subst N;have:h=s:=ey (i4.symm.trans o);subst this;simp only[ug]
     ·simp[ug,N]
    rw[Q]at w;simp only[aN,au,av]at w;have Y:IntKind.i64.wrap (((j+1:Nat):Int) - 1)=(j:Int):=by rw[wrap_i64 (by simp only[mg]at F;omega)];omega
    have X:(0:Int) < ((j+1:Nat):Int):=by omega
    have hj:j < l.length:=by omega
    clear hd C P R B Q;obtain⟨bf,n⟩:∃v,ug (Z (p,m)) s k e=v:=⟨_,rfl⟩
    obtain⟨U,S⟩:∃v,nr s e=v:=⟨_,rfl⟩
    rw[n]at w;rw[S]at x;rw[n,S];simp only[go_sem,bG,B7,r,aX,a,o,aN e,af s,q,ij,x,K];cases U<;>cases bf<;>simp only[go_sem,PC,Y,X,aX,a,i2,aN e,aN p,w,W]
    all_goals try (intro g f;cases f)
    all_goals exact c _ rfl) (by
  intro t A;simp only[go_sem,bG,B7,aC])
 rw[n0,OZ (yes:=(1,[aB d,aE l,E l.length,.bool J])) (hf:=λ_=>rfl)]at L;rw[L,nj];cases HR (iD (mw () nr d) 0 O l)<;>simp only[go_sem]
end
section
def vm(t:u (az×Nat)):Int:=match t with
 |none=>-1
 |some (_,k)=>(k:Int)
theorem Hc{g:Type}(c:g)(nr:ah->az->Bool)(d:M ah)(fin:u (az×Nat)->g):∀(l:M az) (i:Nat) (t:u (az×Nat)),
  ∃b,sgF fin (iD (mw c nr d) i t l)=if HR (iD (mw () nr d) i t l)=I then fin b else c
 |[],_,t=>⟨t,rfl⟩
 |e::l,i,t=>by
  cases a:dC d e.aj with
  |none=>exact⟨t,by simp only[iD,mw,a];rfl⟩
  |some k=>
   cases f:nth d k with
   |none=>exact⟨t,by simp only[iD,mw,a,f];rfl⟩
   |some s=>
    cases h:(nr s e && ug t s k e)
    ·exact⟨t,by simp only[iD,mw,a,f,h,aF,if_false];rfl⟩
    ·obtain⟨b,j⟩:=Hc c nr d fin l (i+1) (Z (e,k));exact⟨b,by simp only[iD,mw,a,f,h,if_true];exact j⟩
theorem agq{nr:ah->az->Bool}{d:M ah}{l:M az}(hd:bK ax d<=mg)(y:bK aU l<=mg)
  (w:d=[]) (B:∀s e,s∈d->e∈l->G 321 (ax s++aU e)=Z (0,[.bool (nr s e)])) :
  ∃t,cm (lB G FN) (0,[aE l,E (-1),aE l,E l.length,E 0,aB d,bu (d.map ah.aj)])=Z (if nj nr d l=I then (1,[aE l,E (vm t),aE l,E l.length,E l.length,.bool J,aB d,bu (d.map ah.aj)]) else (0,[.bool J])):=by
 have o:d.length<=mg:=by simp only[bK]at hd;omega
 have n:l.length<=mg:=by simp only[bK]at y;omega
 have h:=Al (b:=lB G FN) l (λi (t:u (az×Nat))=>(0,[aE l,E (vm t),aE l,E l.length,E (i:Int),aB d,bu (d.map ah.aj)])) (mw (0,[.bool J]) nr d) (λt=>(1,[aE l,E (vm t),aE l,E l.length,E l.length,.bool J,aB d,bu (d.map ah.aj)])) (YQ d l) O rfl (by
  intro i e t g r;have j:=bp g;have A:=wj j n;have c:=q96 (l:=d.map ah.aj) (v:=e.aj) (by rw[ay];exact o);rw[wA]at c;cases a:dC d e.aj with
  |none=>
   rw[a]at c;have q:aZ .pl [E (-1)]=Z (.bool J):=rfl;simp only[go_sem,bG,FN,j,aX,g,aN e,c,ij,mw,a,PC,q];intro f p;cases p
  |some k=>
   obtain⟨s,m,_⟩:=du a;rw[w]at m;cases m) (by
  intro t r;simp only[go_sem,bG,FN,aC])
 obtain⟨f,x⟩:=Hc (0,[D.bool J]) nr d (λt=>(1,[aE l,E (vm t),aE l,E l.length,E l.length,.bool J,aB d,bu (d.map ah.aj)])) l 0 O;rw[n0,x]at h;exact⟨f,h⟩
theorem agr{nr:ah->az->Bool}{d:M ah}{l:M az}(hd:bK ax d<=mg)(QF:bK aU l<=mg)
  (hN:∀s e,s∈d->e∈l->G 321 (ax s++aU e)=Z (0,[.bool (nr s e)])) :
  ∃t,cm (lB G uH) (0,[aE l,E (-1),aE l,E l.length,E 0,aB d,bu (d.map ah.aj)])=Z (if nj nr d l=I then (1,[aE l,E (vm t),aE l,E l.length,E l.length,.bool J,aB d,bu (d.map ah.aj)]) else (0,[.bool J])):=by
 have qw:d.length<=mg:=by simp only[bK]at hd;omega
 have vE:l.length<=mg:=by simp only[bK]at QF;omega
 have hl:=Al (b:=lB G uH) l (λi (t:u (az×Nat))=>(0,[aE l,E (vm t),aE l,E l.length,E (i:Int),aB d,bu (d.map ah.aj)])) (mw (0,[.bool J]) nr d) (λt=>(1,[aE l,E (vm t),aE l,E l.length,E l.length,.bool J,aB d,bu (d.map ah.aj)])) (YQ d l) O rfl (by
  intro i e t m W;have B:=bp m;have V:=wj B vE;have r:=q96 (l:=d.map ah.aj) (v:=e.aj) (by rw[ay];exact qw);rw[wA]at r;cases C:dC d e.aj with
  |none=>
   rw[C]at r;have A:aZ .pl [E (-1)]=Z (.bool J):=rfl;simp only[go_sem,bG,uH,B,aX,m,aN e,r,ij,mw,C,PC,A];intro h g;cases g
  |some k=>
   rw[C]at r;obtain⟨s,K,h2⟩:=du C;have F:=hN s e (bc K) (bc m);have N:Z' ((k:Int) < 0)=J:=by simp only[decide_eq_false_iff_not];omega
   simp only[af,aN,au,av]at F;have A:aZ .pl [E (k:Int)]=Z (.bool J):=rfl;have S:=Ni K;have R:=jd 19 J (d.map ax) k (by rw[ay];exact bp K);have f:∀h,Sg.go (Z (e,k))=(Sg.go h:Sg (u (az×Nat)) (Nat×M D))->YQ d l (i+1) h:=by
    intro h g;cases g;exact⟨i,rfl,m,C⟩
   have tn:mw (0,[D.bool J]) nr d i t e=if (nr s e && ug t s k e)=I then .go (Z (e,k)) else .out (0,[D.bool J]):=by simp only[mw,C,K]
   rw[tn];have b1:∀y:ah,y∈d->y.a_.length<=mg:=by
    intro y U;have a1:=cG ax U;rw[dO]at a1;simp only[bK]at a1 hd;omega
   have Y:∀y:az,y∈l->y.aa.length<=mg:=by
    intro y U;have a1:=cG aU U;rw[fF]at a1;simp only[bK]at a1 QF;omega
   clear hN hd QF;cases t with
   |none=>
    obtain rfl:i=0:=W;have w:Z' ((k:Int) < -1)=J:=by simp only[decide_eq_false_iff_not];omega
    have P:Z' ((k:Int)=-1)=J:=by simp only[decide_eq_false_iff_not];omega
    obtain⟨H,L⟩:∃v,nr s e=v:=⟨_,rfl⟩
    rw[L]at F;rw[L];simp only[go_sem,bG,uH,B,aX,m,aN e,af s,r,ij,F,N,ug,vm,A,S,R,w];cases H<;>simp only[go_sem,PC,V,P]
    ·intro h g;cases g
    ·exact f
   |some pk=>
    obtain⟨p,q⟩:=pk;obtain⟨j,rfl,i2,i3⟩:=W;have g2:=ags (n:=s) (a:=p) (b:=e) (b1 s (bc K)) (Y p (bc i2)) (Y e (bc m));simp only[af,aN,au,av]at g2;have e1:IntKind.i64.wrap (((j+1:Nat):Int) - 1)=(j:Int):=by rw[wrap_i64 (by simp only[mg]at vE;omega)];omega
    have hj:j < l.length:=by omega
    obtain⟨X,x⟩:∃v,ug (Z (p,q)) s k e=v:=⟨_,rfl⟩
    obtain⟨H,L⟩:∃v,nr s e=v:=⟨_,rfl⟩
    have Q:X=if q=k then Z' (pV s p e < 0) else Z' (q < k):=by
     rw[<- x];by_cases hk:q=k
     ·subst hk;cases hr:jF s.aq<;>simp[ug,hr,pV,tK]
     ·simp[ug,hk]
    rw[L]at F;rw[x,L];clear b1 Y tn x;obtain⟨o,ho⟩:∃v,Z' (0<=pV s p e)=v:=⟨_,rfl⟩
    have UY:Z' (pV s p e < 0)=!o:=by rw[<- ho,<- decide_not];apply decide_eq_decide.2;omega
    rcases Nat.lt_trichotomy k q with c|c|c
    ·have w:Z' ((k:Int) < (q:Int))=I:=by simp only[decide_eq_true_eq];omega
     have T:X=J:=by rw[Q,if_neg (by omega)];simp only[decide_eq_false_iff_not];omega
     subst T;simp only[go_sem,bG,uH,B,aX,m,aN e,r,ij,N,vm,A,w];cases H<;>simp only[go_sem,PC]
     all_goals (intro h g;cases g)
    ·subst c;have w:Z' ((k:Int) < (k:Int))=J:=by simp
     have P:Z' ((k:Int)=(k:Int))=I:=by simp
     rw[if_pos rfl,UY]at Q;subst Q;simp only[go_sem,bG,uH,B,aX,m,aN e,af s,r,ij,F,N,vm,A,S,R,w];cases H<;>cases o<;>simp only[go_sem,PC,V,e1,aX,i2,aN p,g2,ho]
     all_goals first|exact⟨rfl,f⟩|exact f|(intro h g;cases g)
    ·have w:Z' ((k:Int) < (q:Int))=J:=by simp only[decide_eq_false_iff_not];omega
     have P:Z' ((k:Int)=(q:Int))=J:=by simp only[decide_eq_false_iff_not];omega
     have T:X=I:=by rw[Q,if_neg (by omega)];simp only[decide_eq_true_eq];omega
     subst T;simp only[go_sem,bG,uH,B,aX,m,aN e,af s,r,ij,F,N,vm,A,S,R,w];cases H<;>simp only[go_sem,PC,V,P]
     all_goals first|exact⟨rfl,f⟩|exact f|(intro h g;cases g)) (by
  intro t W;simp only[go_sem,bG,uH,aC])
 obtain⟨h,h'⟩:=Hc (0,[D.bool J]) nr d (λt=>(1,[aE l,E (vm t),aE l,E l.length,E l.length,.bool J,aB d,bu (d.map ah.aj)])) l 0 O;rw[n0,h']at hl;exact⟨h,hl⟩
end
section
theorem alg{nr:ah->az->Bool}{ks:M ah}{l:M az}(f:bK ax ks<=mg)(i:bK aU l<=mg)
  (g:∀s e,s∈dk ks->e∈l->G 321 (ax s++aU e)=Z (0,[.bool (nr s e)])):G 322 [aB ks,aE l]=Z (0,[.bool (nj nr (dk ks) l)]):=by
 have hd:=aG (lN (es:=ks)) f;have j:(dk ks).length<=mg:=by simp only[bK]at hd;omega
 have a:=q94 f;have h:=q95 (l:=dk ks) j;refine ct t322 rfl ?_;simp only[go_sem,t322];by_cases c:dk ks=[]
 ·have d:kE (dk ks)=0:=by rw[c];rfl
  obtain⟨t,b⟩:=agq hd i c g;simp only[go_sem,a,d,h,b];cases nj nr (dk ks) l<;>simp only[go_sem]
 ·have d:kE (dk ks)=1:=kQ c;obtain⟨t,b⟩:=agr hd i g;simp only[go_sem,a,d,h,b];cases nj nr (dk ks) l<;>simp only[go_sem]
end
section
def pJ(a:z->Bool)(mt:z->z->Bool):Nat->ah->az->Bool
 |0,_,_=>J
 |N+1,n,x=>Gw a mt (nj (pJ a mt N)) n x
theorem af9{a:z->Bool}{mt:z->z->Bool}(i:∀s:z,s.size<=mg->G 227 [.str s]=Z (0,[.bool (a s)]))(j:∀p s:z,p.size<=mg->s.size<=mg->G 236 [.str p,.str s]=Z (0,[.bool (mt p s)]))
  (N:Nat):∀(n:ah) (x:az),aw x < N->ee (ax n)<=mg->ee (aU x)<=mg->G 245 (ax n++aU x)=Z (0,[.bool (pJ a mt N n x)]):=by
 induction N with
 |zero=>intro n x h;omega
 |succ N f=>
  intro n x h c b;refine aoe (r:=nj (pJ a mt N)) i j c b ?_;have a1:=c;have a2:=b;rw[dO]at a1;rw[fF]at a2;have l:bK ax (dk n.aa)<=mg:=aG lN (by omega);have k:bK aU x.aa<=mg:=by omega
  refine ak2 l k ?_;intro s e g d;have c1:=cG ax g;have o:=cG aU d;have m:=az.Kx d;exact f s e (by omega) (by omega) (by omega)
end
section
theorem zX(n:Nat):∀(es:M ah),aw es < n->∀s,s∈dk es->kP s.aq=I:=by
 induction n with
 |zero=>intro es h;omega
 |succ n b=>
  intro es h s a;cases es with
  |nil=>rw[uo]at a;cases a
  |cons e es=>
   rw[nL]at a;rcases ba.1 a with a|a
   ·unfold vX at a
    split at a
    ·rename_i c;rw[cT.1 a];exact c
    ·split at a
     ·have d:=ah.ig e es;exact b e.aa (by omega) s a
     ·cases a
   ·exact b es (by simp only[bJ]at h;omega) s a
theorem zZ{k:Int}(h:kP k=I):k=1\/k=2\/k=3\/k=4:=by
 simp only[kP,fO,ai,decide_eq_true_eq]at h;omega
theorem agp{a:z->Bool}{mt:z->z->Bool}(k:∀s:z,s.size<=mg->G 285 [.str s]=Z (0,[.bool (a s)]))(l:∀p s:z,p.size<=mg->s.size<=mg->G 310 [.str p,.str s]=Z (0,[.bool (mt p s)]))
  (N:Nat):∀(n:ah) (x:az),aw x < N->kP n.aq=I->ee (ax n)<=mg->ee (aU x)<=mg->G 321 (ax n++aU x)=Z (0,[.bool (pJ a mt N n x)]):=by
 induction N with
 |zero=>intro n x h;omega
 |succ N i=>
  intro n x h j d b;refine aoD (r:=nj (pJ a mt N)) k l d b (zZ j) ?_;have a1:=d;have a2:=b;rw[dO]at a1;rw[fF]at a2;have g:bK ax n.aa<=mg:=by omega
  have t:bK ax (dk n.aa)<=mg:=aG lN g;have m:bK aU x.aa<=mg:=by omega
  refine alg g m ?_;intro s e c f;have c1:=cG ax c;have q:=cG aU f;have o:=az.Kx f;exact i s e (by omega) (zX _ _ (aP _) s c) (by omega) (by omega)
end
section
noncomputable def uE(a:z->Bool)(mt:z->z->Bool)(ok:Bool)(s:M ah)(l:M az):Bool:=
 ok && (Z' (eS l<=120) && nj (pJ a mt (aw l)) (dk s) l)
theorem adX{l:M az}{e:az}(h:e∈l):aw e < aw l:=bj h
theorem aog{a:z->Bool}{mt:z->z->Bool}(j:∀s:z,s.size<=mg->G 227 [.str s]=Z (0,[.bool (a s)]))(k:∀p s:z,p.size<=mg->s.size<=mg->G 236 [.str p,.str s]=Z (0,[.bool (mt p s)]))
  {ok:Bool} {s:M ah} {l:M az} (f:bK ax s<=mg) (h:bK aU l<=mg) (t:G 241 [aB s]=Z (0,[.bool ok])):G 250 [aB s,aE l]=Z (0,[.bool (uE a mt ok s l)]):=by
 obtain⟨r,A,m⟩:=aod (l:=l) (x:=120) h (by omega) (by omega);have y:=q81 f;have w:=ak2 (nr:=pJ a mt (aw l)) (d:=dk s) (l:=l) (aG lN f) h (by
  intro o e n i;have c1:=cG ax n;have C:=cG aU i;have B:=lN (es:=s);exact af9 j k _ o e (adX i) (by omega) (by omega))
 have g:Z' (0<=r)=Z' (eS l<=120):=by
  apply decide_eq_decide.2
  unfold DF at m;omega
 have q:∀b:Bool,aZ .pl [.bool b]=Z (.bool J):=λb=>rfl;clear j k m;refine ct t250 rfl ?_;simp only[go_sem,t250,t,uE];obtain⟨v,c⟩:∃v,Z' (eS l<=120)=v:=⟨_,rfl⟩
 rw[c]at g;cases ok<;>cases v<;>simp only[go_sem,A,y,w,g,c,q]
theorem aoH{a:z->Bool}{mt:z->z->Bool}(i:∀s:z,s.size<=mg->G 285 [.str s]=Z (0,[.bool (a s)]))(j:∀p s:z,p.size<=mg->s.size<=mg->G 310 [.str p,.str s]=Z (0,[.bool (mt p s)]))
  {ok:Bool} {s:M ah} {l:M az} (k:bK ax s<=mg) (g:bK aU l<=mg) (m:G 316 [aB s]=Z (0,[.bool ok])):G 327 [aB s,aE l]=Z (0,[.bool (uE a mt ok s l)]):=by
 have o:=aoC g;have n:=alg (nr:=pJ a mt (aw l)) (ks:=s) (l:=l) k g (by
  intro c e b h;have c1:=cG ax b;have r:=cG aU h;have q:=lN (es:=s);exact agp i j _ c e (adX h) (zX _ _ (aP _) c b) (by omega) (by omega))
 have f:Z' ((eS l:Int)<=120)=Z' (eS l<=120):=by apply decide_eq_decide.2;omega
 clear i j;refine ct t327 rfl ?_;simp only[go_sem,t327,m,uE];obtain⟨v,d⟩:∃v,Z' (eS l<=120)=v:=⟨_,rfl⟩
 rw[d]at f;cases ok<;>cases v<;>simp only[go_sem,o,n,f,d]
end
section
theorem Xa:∀(a b:M UInt8),Op.bytesLess a b=J->Op.bytesLess b a=J->a=b
 |[],[],_,_=>rfl
 |[],y::b,h,_=>by simp[Op.bytesLess]at h
 |x::a,[],_,h=>by simp[Op.bytesLess]at h
 |x::a,y::b,d,c=>by
  unfold Op.bytesLess at d c;by_cases h:x < y
  ·simp[h]at d
  ·by_cases f:y < x
   ·simp[f]at c
   ·have e:x=y:=by
     have a1:¬x.toNat < y.toNat:=h;have a2:¬y.toNat < x.toNat:=f;exact UInt8.toNat_inj.1 (by omega)
    subst e;simp[h]at d c;rw[Xa a b d c]
theorem agN{a b:z}(d:ku a b=J)(c:ku b a=J):a=b:=by
 have h:=Xa a.toList b.toList d c;have e:∀x:z,x.toList=x.data.toList:=λx=>ByteArray.toList_eq x;rw[e,e]at h;cases a;cases b
 simp only[ByteArray.mk.injEq]at h ⊢;exact Array.toList_inj.1 h
theorem EB{a b:z}:rG a b=0↔a=b:=by
 unfold rG;by_cases h:ku a b=I
 ·simp only[h,if_true]
  constructor
  ·intro h;omega
  ·rintro rfl;rw[Rk]at h;cases h
 ·rw[if_neg h];by_cases e:a=b
  ·simp[e]
  ·simp[e]
theorem Bp:∀{a b:M z},cmpL a b=0↔a=b
 |[],[]=>by simp[vU]
 |[],y::b=>by simp[vU]
 |x::a,[]=>by rw[Ix];simp
 |x::a,y::b=>by
  rw[Bq];split
  ·rename_i h;rw[Bp,EB.1 h];simp
  ·rename_i h
   constructor
   ·intro c;exact absurd c h
   ·intro c;cases c;exact absurd (EB.2 rfl) h
theorem M4:∀{a b:M z},¬cmpL a b < 0->¬cmpL b a < 0->a=b
 |[],[],_,_=>rfl
 |[],y::b,h,_=>by rw[vU]at h;simp at h
 |x::a,[],_,h=>by rw[vU]at h;simp at h
 |x::a,y::b,d,c=>by
  rw[Bq]at d c;by_cases e:x=y
  ·subst e;rw[if_pos (EB.2 rfl)]at d c;rw[M4 d c]
  ·rw[if_neg (λh=>e (EB.1 h))]at d;rw[if_neg (λh=>e (EB.1 h).symm)]at c;have a1:ku x y=J:=by
    cases h:ku x y with
    |false=>rfl
    |true=>exfalso;apply d;simp[rG,h]
   have a2:ku y x=J:=by
    cases h:ku y x with
    |false=>rfl
    |true=>exfalso;apply c;simp[rG,h]
   exact absurd (agN a1 a2) e
theorem Ll(a b:M z):(!gg a b && !gg b a)=Z' (a=b):=by
 rw[tK,tK,cR];simp only[ai,cq,decide_eq_false_iff_not,decide_eq_true_eq]
 constructor
 ·rintro⟨d,c⟩;exact M4 d c
 ·rintro rfl;have:=(Bp (a:=a) (b:=a)).2 rfl;omega
def yM(n:ah)(l:M az)(v:z)(a:M z):u Nat:=
 ml (λy=>Z' (y.aj=n.aj) && (!(Z' (n.aq=4) && !Z' (y.aS=v)) && (!Z' (n.aq=2) ||(!gg (keyOf n y).1 a && !gg a (keyOf n y).1)))) l 0
def AX(n:ah)(a b:az):Bool:=!jF n.aq ||((keyOf n a).2 && ((keyOf n b).2 && Z' ((keyOf n a).1=(keyOf n b).1)))
def hX(n:ah)(l:M az)(x:az):u Nat:=
 ml (λy=>Z' (y.aj=n.aj) && (Z' (pV n x y=0) && AX n x y)) l 0
theorem BD{a:Type}{p q:a->Bool}:∀{l:M a} {k:Nat},(∀x∈l,p x=q x)->ml p l k=ml q l k
 |[],_,_=>rfl
 |y::l,k,h=>by simp only[ml,h y bQ,BD λx b=>h x (bP _ b)]
theorem idx_eq{n:ah}{l:M az}{x:az}(j:n.aq=2->(keyOf n x).2=I)(k:∀y∈l,y.aj=n.aj->n.aq=2->(keyOf n y).2=I):yM n l x.aS (keyOf n x).1=hX n l x:=by
 refine BD λy i=>?_;by_cases d:y.aj=n.aj
 ·simp only[d,decide_true,cW];by_cases b:n.aq=2
  ·have c:¬n.aq=4:=by omega
   have g:jF n.aq=I:=by simp[jF,b]
   have f:¬(2:Int)=4:=by decide
   simp only[b,f,decide_true,decide_false,cP,ga,cW,lJ,gA,Ll,AX,j b,k y i d b,pV,if_true,show jF 2=I from rfl];rw[cR];simp only[ai,decide_eq_true_eq,Bp,and_self];exact eq_comm
  ·by_cases c:n.aq=4
   ·have g:jF n.aq=I:=by simp[jF,c]
    have h:∀a:az,keyOf n a=([a.aS],I):=λa=>by rw[keyOf,if_neg b]
    have e:¬(4:Int)=2:=by decide
    simp only[c,e,decide_true,decide_false,cW,ga,mQ,fZ,fM,AX,pV,if_true,h,show jF 4=I from rfl,lJ,gA];rw[cR];simp only[ai,decide_eq_true_eq,Bp,and_self,cl,and_true];exact eq_comm
   ·have g:jF n.aq=J:=by simp[jF,b,c]
    simp only[b,c,decide_false,cP,ga,mQ,fZ,AX,g,pV,aF,if_false,decide_true]
 ·simp only[d,decide_false,cP]
section
variable {ip:z->Bool} {mt:z->z->Bool}
def Rt(ip:z->Bool)(mt:z->z->Bool)(d:M ah)(l:M az):Prop:=∃N,nj (pJ ip mt N) d l=I
theorem Ju{nr:ah->az->Bool}{d:M ah}:∀{l:M az} {i:Nat} {t:u (az×Nat)},HR (iD (mw () nr d) i t l)=I->∀x∈l,∃k n,dC d x.aj=Z k/\nth d k=Z n/\nr n x=I
 |e::l,i,t,h,x,c=>by
  cases a:dC d e.aj with
  |none=>simp only[iD,mw,a]at h;cases h
  |some k=>
   cases b:nth d k with
   |none=>simp only[iD,mw,a,b]at h;cases h
   |some s=>
    cases f:(nr s e && ug t s k e) with
    |false=>simp only[iD,mw,a,b,f,aF,if_false]at h;cases h
    |true=>
     simp only[iD,mw,a,b,f,if_true]at h;rcases aL.1 c with rfl|c
     ·exact⟨k,s,a,b,(ai _ _▸f).1⟩
     ·exact Ju h x c
theorem aea{d:M ah}:Rt ip mt d []:=⟨0,rfl⟩
theorem vJ{d:M ah}{l:M az}(h:Rt ip mt d l){x:az}(c:x∈l):∃k n,dC d x.aj=Z k/\nth d k=Z n/\(n.aq=2->(keyOf n x).2=I)/\Rt ip mt (dk n.aa) x.aa:=by
 obtain⟨N,e⟩:=h;obtain⟨k,n,g,f,a⟩:=Ju e x c;refine⟨k,n,g,f,?_⟩;cases N with
 |zero=>cases a
 |succ N=>
  simp only[pJ,Gw]at a
  split at a
  ·rename_i b;simp only[da,decide_eq_true_eq]at b;simp only[ai,decide_eq_true_eq]at a;refine⟨λh=>by omega,?_⟩;rw[cH.1 a.1];exact aea
  ·split at a
   ·simp only[ai]at a;exact⟨λ_=>a.1,N,a.2.2⟩
   ·rename_i b;simp only[ai]at a;refine⟨λh=>by simp[h]at b,N,a.2.2⟩
theorem U_{ok:Bool}{s:M ah}{l:M az}(h:uE ip mt ok s l=I):Rt ip mt (dk s) l:=by
 simp only[uE,ai]at h;exact⟨_,h.2.2⟩
def uF(n:ah)(b:M az)(x:az):u Nat:=yM n b x.aS (keyOf n x).1
theorem adK{s:M ah}{a b:M az}(t:Rt ip mt (dk s) a)(r:Rt ip mt (dk s) b){x:az}(p:x∈a){k:Nat}{n:ah}(h:dC (dk s) x.aj=Z k)(g:nth (dk s) k=Z n):uF n b x=hX n b x:=by
 have q:n.aj=x.aj:=by
  obtain⟨e,j,v⟩:=du h;rw[g]at j;cases j
  simpa using v
 refine idx_eq (λf=>?_) λy o w f=>?_
 ·obtain⟨m,l,d,c,i,_⟩:=vJ t p;rw[h]at d;cases d;rw[g]at c;cases c;exact i f
 ·obtain⟨m,l,d,c,i,_⟩:=vJ r o;rw[w,q,h]at d;cases d;rw[g]at c;cases c;exact i f
theorem YT(n:ah)(l:M az)(x:az)(j:Nat)(y:az)(h:uF n l x=Z j)(c:nth l j=Z y):y.aj=n.aj:=by
 obtain⟨e,b,a⟩:=du h;rw[c]at b;cases b;simp only[ai,decide_eq_true_eq]at a;exact a.1
theorem IX(n:ah)(l:M az)(x:az)(j:Nat)(y:az)(h:hX n l x=Z j)(c:nth l j=Z y):y.aj=n.aj:=by
 obtain⟨e,b,a⟩:=du h;rw[c]at b;cases b;simp only[ai,decide_eq_true_eq]at a;exact a.1
end
end
section
def sa(n:ah):Bool:=n.a_.isEmpty && (n.unique.isEmpty && (Z' (n.default.size=0) && (!n.given && (!n.fixed && (Z' (n.min=0) && Z' (n.max=0))))))
def wC(l:M ah)(o:u Nat)(p:ah->Bool):Bool:=match o with
 |some j=>(match nth l j with
  |some x=>p x
  |none=>J)
 |none=>J
def Vd(x:ah):Bool:=x.when.isEmpty && (!x.given && !Z' (x.type.aq=6))
def BP(l:M ah)(k:z):Bool:=wC l (dC l k) λx=>Z' (x.aq=3) && Vd x
def Hn(l:M ah)(k:z):Bool:=wC l (dC l k) λx=>Z' (x.aq=3)
def C2(n:ah):Bool:=n.a_.all (BP n.aa) && (n.unique.all (Hn n.aa) && (zT n.type && (!n.a_.isEmpty && (sW n.a_ && (sW n.unique && (ng n && (!n.given && (!n.fo && (!n.df && (!n.fixed && Z' (n.default.size=0)))))))))))
def F7(a:z->Bool)(n:ah):Bool:=n.a_.isEmpty && (n.unique.isEmpty && (Z' (n.min=0) && (Z' (n.max=0) && (!n.df && (n.aa.isEmpty && isType a n.type)))))
def Ol(a:z->Bool)(n:ah):Bool:=n.a_.isEmpty && (n.unique.isEmpty && (Z' (n.default.size=0) && (!n.given && (!n.fixed && (!n.fo && (!n.df && (n.aa.isEmpty && (ng n && isType a n.type))))))))
def IU(n:ah):Bool:=isName n.aj && (HH n.when 1 && HH n.jy 3)
section
variable (ip:z->Bool) (mt:z->z->Bool)
def j7(n:ah)(free:Bool):Bool:=
 if n.aq=1 then sa n && (!n.fo && zT n.type)
 else if n.aq=2 then C2 n
 else if n.aq=3 then (if n.given=I then F7 ip n && (free && (!n.fo && (n.when.isEmpty && isVal ip mt n.type n.default))) else F7 ip n && Z' (n.default.size=0))
 else if n.aq=4 then Ol ip n
 else if n.aq=5 then sa n && (!n.df && (n.jy.isEmpty && zT n.type))
 else if n.aq=6 then sa n && (!n.df && (!n.fo && (n.jy.isEmpty && zT n.type)))
 else J
def wQ(n:ah)(free:Bool):Bool:=IU n && j7 ip mt n free
def uh(n:ah)(free:Bool):Bool:=free && (n.when.isEmpty && !Z' (n.aq=6))
def sM:Nat->M ah->Int->Bool->Nat->Bool
 |0,_,_,_,_=>J
 |m+1,l,k,free,deep=>
  allI (λi n=>Z' (dC l n.aj=Z i) && (Z' (Z' (k=5)=Z' (n.aq=6)) && (wQ ip mt n free && sM m n.aa n.aq (uh n free) (deep+1)))) 0 l &&
   (allI (λi n=>Z' (dC (dk l) n.aj=Z i)) 0 (dk l) && (Z' (deep<=8) ||l.isEmpty))
def xX(l:M ah)(k:z):Bool:=wC l (lW l k) Vd
def qH(n:ah):Bool:=
 (!Z' (n.aq=3) && (!Z' (n.aq=4) && !zT n.type)) ||
 ((!Z' (n.aq=2) && !(n.a_.isEmpty && n.unique.isEmpty)) ||
 ((!Z' (n.aq=3) && (!Z' (n.default.size=0) ||(n.given ||n.fixed))) ||
 ((!Z' (n.aq=3) && (!Z' (n.aq=5) && n.fo)) ||
 ((!Z' (n.aq=1) && n.df) ||
 ((!Z' (n.aq=2) && (!Z' (n.aq=4) && (!Z' (n.min=0) ||!Z' (n.max=0)))) ||
 ((!kP n.aq && !n.jy.isEmpty) ||
 ((Z' (n.aq=3) ||decide (n.aq=4)) && !n.aa.isEmpty)))))))
def nW(l:M z):Bool:=Z' (l.length<=3) && (um l && l.all isName)
def lM(n:ah):Bool:=
 if n.aq=1 then I
 else if n.aq=2 then !n.a_.isEmpty && (nW n.a_ && (nW n.unique && ng n))
 else if n.aq=3 then isType ip n.type && (!(n.given && (n.fo ||!n.when.isEmpty)) && (if n.given=I then isVal ip mt n.type n.default else Z' (n.default.size=0)))
 else if n.aq=4 then isType ip n.type && ng n
 else if n.aq=5 then I
 else if n.aq=6 then I
 else if n.aq=7 then n.when.isEmpty && n.aa.isEmpty
 else J
def AL(n:ah):Bool:=IU n && (!qH n && lM ip mt n)
def xY:Nat->M ah->Int->Bool->Bool
 |0,_,_,_=>J
 |m+1,l,k,bound=>
  (um (l.map ah.aj) && (pC k ||um ((dk l).map ah.aj))) &&
   l.all λn=>AL ip mt n && (!Z' (n.aq=7) && (Z' (Z' (n.aq=6)=Z' (k=5)) && (!(n.given && bound) && (n.a_.all (xX n.aa) && (n.unique.all (λa=>(lW n.aa a).isSome) && xY m n.aa n.aq (bound ||(!n.when.isEmpty ||decide (n.aq=6))))))))
end
theorem mD{b:Type}{p:Nat->b->Bool}:∀{l:M b} {i:Nat},allI p i l=I↔∀j x,nth l j=Z x->p (i+j) x=I
 |[],i=>⟨λ_ j x h=>by simp[nth]at h,λ_=>rfl⟩
 |y::l,i=>by
  simp only[allI,ai,mD (l:=l)]
  constructor
  ·rintro⟨d,c⟩ j x a
   cases j with
   |zero=>cases a;exact d
   |succ j=>have:=c j x a;rwa [Nat.add_right_comm,cQ]at this
  ·intro h;refine⟨h 0 y rfl,λj x a=>?_⟩;have:=h (j+1) x a
   rwa [Nat.add_right_comm,cQ]
theorem rh{a:Type}:∀{l:M a} {x:a},x∈l->∃j,nth l j=Z x
 |y::l,x,h=>by
  rcases aL.1 h with rfl|h
  ·exact⟨0,rfl⟩
  ·obtain⟨j,b⟩:=rh h;exact⟨j+1,b⟩
theorem BE{a:Type}{p:a->Bool}:∀{l:M a} {k j:Nat} {e:a},nth l j=Z e->p e=I->(∀i x,i < j->nth l i=Z x->p x=J)->ml p l k=Z (k+j)
 |y::l,k,0,e,h,b,_=>by cases h;simp only[ml,b,if_true,cd]
 |y::l,k,j+1,e,h,b,c=>by
  have f:=c 0 y (by omega) rfl;simp only[ml,f,aF,if_false];rw[BE (l:=l) (k:=k+1) h b λi x g d=>c (i+1) x (by omega) d]
  congr 1;omega
theorem yH{a:Type}{p:a->Bool}:∀{l:M a} {k j:Nat},ml p l k=Z j->∀i x,k+i < j->nth l i=Z x->p x=J
 |[],k,j,h=>by simp[ml]at h
 |y::l,k,j,h=>by
  intro i x d b;simp only[ml]at h
  split at h
  ·cases h;omega
  ·rename_i c;cases i with
   |zero=>cases b;exact ej.2 c
   |succ i=>exact yH h i x (by omega) b
theorem Ck{g β:Type}(f:g->β):∀{l:M g},(l.map f).Nodup↔∀i j x y,i < j->nth l i=Z x->nth l j=Z y->f x≠f y
 |[]=>by simp[nth]
 |a::l=>by
  simp only[aW,cC,Ck f (l:=l)]
  constructor
  ·rintro⟨q,p⟩ i j x y d c b
   obtain⟨j,rfl⟩:∃m,j=m+1:=⟨j - 1,by omega⟩
   cases i with
   |zero=>cases c;exact λe=>q (cj.2 ⟨y,bc (l:=l) b,e.symm⟩)
   |succ i=>exact p i j x y (by omega) c b
  ·intro h;refine⟨λk=>?_,λi j x y d c b=>h (i+1) (j+1) x y (by omega) c b⟩;obtain⟨y,b,o⟩:=cj.1 k;obtain⟨j,n⟩:=rh b;exact h 0 (j+1) a y (by omega) rfl n o.symm
theorem oA(l:M ah):allI (λi n=>Z' (dC l n.aj=Z i)) 0 l=I↔(l.map ah.aj).Nodup:=by
 rw[mD,Ck];simp only[bo,decide_eq_true_eq]
 constructor
 ·intro h i j x y c a b f;have g:=h j y b;have:=yH g i x (by omega) a;simp[f]at this
 ·intro h j x a;have:=BE (p:=λe:ah=>Z' (e.aj=x.aj)) (k:=0) a (by simp) λi y d b=>by simpa using h i j y x d b a
  rw[bo]at this;exact this
theorem TB{l:M ah}(f:(l.map ah.aj).Nodup)(k:z)(p:ah->Bool):wC l (dC l k) (λx=>Z' (x.aq=3) && p x)=wC l (lW l k) p:=by
 cases h:lW l k with
 |some j=>
  obtain⟨e,b,a⟩:=du h;simp only[ai,decide_eq_true_eq]at a;have:dC l k=Z j:=by
   have:=BE (p:=λe:ah=>Z' (e.aj=k)) (k:=0) b (by simp[a.1]) λi y g d=>by
    have:=(Ck ah.aj).1 f i j y e g d b;rw[a.1]at this
    simpa using this
   rw[bo]at this;exact this
  simp only[this,wC,b,a.2,decide_true,cW]
 |none=>
  cases m:dC l k with
  |none=>rfl
  |some j=>
   obtain⟨e,b,a⟩:=du m;by_cases c:e.aq=3
   ·have:(lW l k).isSome=I:=by
     unfold lW;rw[wh,kI];exact⟨e,bc b,by simpa [c] using a⟩
    rw[h]at this;cases this
   ·simp only[wC,b,c,decide_false,cP]
theorem ab8{l:M ah}(a:(l.map ah.aj).Nodup)(k:z):Hn l k=(lW l k).isSome:=by
 have:=TB a k λ_=>I;simp only[fZ]at this;rw[Hn,this];cases h:lW l k with
 |none=>rfl
 |some j=>
  obtain⟨e,b,_⟩:=du h;simp only[wC,b,gT]
theorem ab7{l:M ah}(a:(l.map ah.aj).Nodup)(k:z):BP l k=xX l k:=TB a k Vd
theorem F_{l:M ah}(h:∀x∈l,isName x.aj=I){k:z}(b:(lW l k).isSome=I):isName k=I:=by
 obtain⟨j,c⟩:=cD.1 b;obtain⟨e,d,a⟩:=du c;simp only[ai,decide_eq_true_eq]at a;rw[<- a.1];exact h e (bc d)
theorem Vc{l:M ah}{k:z}(h:xX l k=I):(lW l k).isSome=I:=by
 unfold xX wC at h
 split at h
 ·rename_i j a;rw[a];rfl
 ·cases h
theorem OF{l:M z}(h:∀k∈l,isName k=I):nW l=sW l:=by
 have:l.all isName=I:=bw.2 h;rw[nW,sW,this,fZ,Bool.and_comm]
section
variable {ip:z->Bool} {mt:z->z->Bool}
theorem aaY{n:ah}(h:n.aq=2):(!qH n && lM ip mt n)=(zT n.type && (!n.a_.isEmpty && (nW n.a_ && (nW n.unique && (ng n && (!n.given && (!n.fo && (!n.df && (!n.fixed && Z' (n.default.size=0)))))))))):=by
 simp only[qH,lM,h,kP];cases zT n.type<;>cases n.a_.isEmpty<;>cases nW n.a_<;>cases nW n.unique<;>cases ng n<;>cases n.given<;>cases n.fo<;>cases n.df<;>cases n.fixed<;>cases Z' (n.default.size=0)<;>rfl
theorem abK{n:ah}{free:Bool}(h:¬(1<=n.aq/\n.aq<=6)):j7 ip mt n free=J:=by
 simp only[j7];rw[if_neg (by omega),if_neg (by omega),if_neg (by omega),if_neg (by omega),if_neg (by omega),if_neg (by omega)]
theorem Y3{n:ah}(h:¬(1<=n.aq/\n.aq<=6))(a:n.aq≠7):lM ip mt n=J:=by
 simp only[lM];rw[if_neg (by omega),if_neg (by omega),if_neg (by omega),if_neg (by omega),if_neg (by omega),if_neg (by omega),if_neg a]
theorem TL{n:ah}{bound:Bool}(C:(n.aa.map ah.aj).Nodup)(D:∀x∈n.aa,isName x.aj=I) :
  (wQ ip mt n (!bound)=I)↔AL ip mt n=I/\n.aq≠7/\(n.given && bound)=J/\n.a_.all (xX n.aa)=I/\n.unique.all (λc=>(lW n.aa c).isSome)=I:=by
 unfold wQ AL;cases IU n with
 |false=>simp
 |true=>
  simp only[cW];by_cases i:n.aq=2
  ·have R:n.a_.all (BP n.aa)=n.a_.all (xX n.aa):=by congr 1;funext k;exact ab7 C k
   have Q:n.unique.all (Hn n.aa)=n.unique.all (λc=>(lW n.aa c).isSome):=by congr 1;funext k;exact ab8 C k
   rw[aaY i];have P:j7 ip mt n (!bound)=C2 n:=by simp only[j7,i];rfl
   rw[P,C2,R,Q];cases L:n.a_.all (xX n.aa) with
   |false=>simp
   |true=>
    cases K:n.unique.all (λc=>(lW n.aa c).isSome) with
    |false=>simp
    |true=>
     have G:=OF (l:=n.a_) λk y=>F_ D (Vc (bw.1 L k y));have F:=OF (l:=n.unique) λk y=>F_ D (bw.1 K k y);rw[G,F,i];cases n.given<;>simp
  ·by_cases r:1<=n.aq/\n.aq<=6
   ·have hd:kP n.aq=Z' (n.aq<=4):=by
     by_cases h:n.aq<=4
     ·rw[decide_eq_true h];exact (gP _ _ _).2 ⟨r.1,h⟩
     ·rw[decide_eq_false h];exact ej.2 λN=>h ((gP _ _ _).1 N).2
    cases B:n.a_ with
    |cons a l=>
     have:qH n=I:=by simp[qH,i,B]
     have j:j7 ip mt n (!bound)=J:=by simp[j7,i,sa,F7,Ol,B]
     simp[this,j]
    |nil=>
     cases A:n.unique with
     |cons a l=>
      have:qH n=I:=by simp[qH,i,A]
      have j:j7 ip mt n (!bound)=J:=by simp[j7,i,sa,F7,Ol,A]
      simp[this,j]
     |nil=>
      have s:n.aq≠7:=by omega
      have j:j7 ip mt n (!bound)=(!qH n && (lM ip mt n && !(n.given && bound))):=by
       simp only[qH,j7,lM,sa,F7,Ol,B,A,hd,g_,cW,fZ];obtain⟨T,S⟩:=r;have H:n.aq=1\/n.aq=3\/n.aq=4\/n.aq=5\/n.aq=6:=by omega
       rcases H with h|h|h|h|h<;>simp only[h]<;>generalize zT n.type=b<;>generalize isType ip n.type=t<;>generalize isVal ip mt n.type n.default=v<;>generalize n.when.isEmpty=w<;>generalize n.jy.isEmpty=c<;>generalize n.aa.isEmpty=q<;>generalize ng n=o<;>generalize Z' (n.default.size=0)=d<;>generalize Z' (n.min=0)=m<;>generalize Z' (n.max=0)=x<;>generalize n.given=g<;>generalize n.fixed=f<;>generalize n.fo=e<;>generalize n.df=p
       ·cases b<;>cases d<;>cases m<;>cases x<;>cases g<;>cases f<;>cases e<;>cases bound<;>rfl
       ·cases t<;>cases v<;>cases w<;>cases q<;>cases d<;>cases m<;>cases x<;>cases g<;>cases e<;>cases p<;>cases bound<;>rfl
       ·cases t<;>cases o<;>cases q<;>cases d<;>cases g<;>cases f<;>cases e<;>cases p<;>cases bound<;>rfl
       ·cases b<;>cases d<;>cases m<;>cases x<;>cases g<;>cases f<;>cases c<;>cases p<;>cases bound<;>rfl
       ·cases b<;>cases d<;>cases m<;>cases x<;>cases g<;>cases f<;>cases e<;>cases c<;>cases p<;>cases bound<;>rfl
      rw[j];cases n.given<;>simp[s,and_assoc]
   ·rw[abK r];by_cases s:n.aq=7
    ·simp[s]
    ·rw[Y3 r s];simp
theorem Fq{m:Nat}{l:M ah}{k:Int}{b:Bool}(h:xY ip mt m l k b=I):(l.map ah.aj).Nodup/\∀x∈l,isName x.aj=I:=by
 cases m with
 |zero=>cases h
 |succ m=>
  simp only[xY,ai,bw]at h;refine⟨(qJ _).1 h.1.1,λx a=>?_⟩;have:=(h.2 x a).1;simp only[AL,IU,ai]at this;exact this.1.1
theorem DO:∀(l:M ah) (N:Nat),uq l<=N↔∀x∈l,1+uq x.aa<=N
 |[],N=>by simp[uq]
 |e::l,N=>by rw[uq,Nat.max_le,DO l N];simp
theorem Xw{l:M ah}:uq l=0↔l=[]:=by
 cases l with
 |nil=>simp[uq]
 |cons e l=>rw[uq];simp
theorem Il(n:ah)(bound:Bool):uh n (!bound)=!(bound ||(!n.when.isEmpty ||decide (n.aq=6))):=by
 unfold uh;cases bound<;>cases n.when.isEmpty<;>cases Z' (n.aq=6)<;>rfl
theorem Qe{l:M ah}{n:ah}(a:n∈l)(b:pC n.aq=I):(dk n.aa).Sublist (dk l):=by
 induction l with
 |nil=>cases a
 |cons e l c=>
  rw[nL];rcases aL.1 a with rfl|h
  ·have:vX n=dk n.aa:=by
    unfold vX;rw[if_neg,if_pos b];intro h;have:=(adY h).1;rw[b]at this;cases this
   rw[this];exact List.sublist_append_left _ _
  ·exact (c h).trans (List.sublist_append_right _ _)
theorem ae9:∀(m:Nat) (l:M ah) (k:Int) (d:Bool) (deep:Nat),aw l < m->1<=deep->
  (sM ip mt m l k (!d) deep=I↔xY ip mt m l k d=I/\((dk l).map ah.aj).Nodup/\(uq l=0\/deep+uq l<=9)):=by
 intro m
 induction m with
 |zero=>intro l k d deep h;omega
 |succ m G=>
  intro l k d deep L hd;have q:∀n∈l,∀b,(sM ip mt m n.aa n.aq (!b) (deep+1)=I↔xY ip mt m n.aa n.aq b=I/\((dk n.aa).map ah.aj).Nodup/\(uq n.aa=0\/deep+1+uq n.aa<=9)):=λn f b=>
   G n.aa n.aq b (deep+1) (by have:=bj f;have:=ah.dL n;omega) (by omega)
  constructor
  ·intro h;simp only[sM,ai]at h;obtain⟨i,H,g⟩:=h;rw[mD]at i;simp only[bo,ai,decide_eq_true_eq]at i;have w:(l.map ah.aj).Nodup:=(oA l).1 (by rw[mD];intro j x p;rw[bo,decide_eq_true_eq];exact (i j x p).1);have s:=(oA (dk l)).1 H;have p:∀n∈l,(Z' (k=5)=Z' (n.aq=6))/\(AL ip mt n=I/\n.aq≠7/\(n.given && d)=J/\n.a_.all (xX n.aa)=I/\n.unique.all (λc=>(lW n.aa c).isSome)=I)/\xY ip mt m n.aa n.aq (d ||(!n.when.isEmpty ||decide (n.aq=6)))=I/\(uq n.aa=0\/deep+1+uq n.aa<=9):=by
    intro n f;obtain⟨j,t⟩:=rh f;obtain⟨_,a2,a3,a4⟩:=i j n t;rw[Il]at a4;obtain⟨F,_,K⟩:=(q n f _).1 a4;obtain⟨c1,y⟩:=Fq F;exact⟨a2,(TL c1 y).1 a3,F,K⟩
   refine⟨?_,s,?_⟩
   ·simp only[xY,ai,bw];refine⟨⟨(qJ _).2 w,by rw[da];exact .inr ((qJ _).2 s)⟩,λn f=>?_⟩;obtain⟨a1,⟨a2,a3,a4,a5,A⟩,o,_⟩:=p n f;exact⟨a2,by simpa using a3,by rw[decide_eq_true_eq];exact a1.symm,by rw[a4];rfl,bw.1 a5,bw.1 A,o⟩
   ·by_cases B:l=[]
    ·exact .inl (Xw.2 B)
    ·have Q:deep<=8:=by
      cases l with
      |nil=>exact absurd rfl B
      |cons e l=>simpa using g
     have:=(DO l (9 - deep)).2 λn f=>by
      obtain⟨_,_,_,a⟩:=p n f;omega
     omega
  ·rintro⟨i,s,g⟩
   simp only[xY,ai,bw]at i;obtain⟨⟨w,P⟩,p⟩:=i;have v:=(qJ _).1 w;have r:∀n∈l,deep+(1+uq n.aa)<=9:=by
    intro n f;rcases g with g|g
    ·rw[Xw.1 g]at f;cases f
    ·have:=(DO l (9 - deep)).1 (by omega) n f;omega
   simp only[sM,ai];refine⟨?_,(oA (dk l)).2 s,?_⟩
   ·rw[mD];intro j n t;have f:=bc t;obtain⟨a1,a2,a3,a4,a5,A,o⟩:=p n f;obtain⟨c1,y⟩:=Fq o;have C:=(oA l).2 v;rw[mD]at C;simp only[ai];refine⟨C j n t,by rw[decide_eq_true_eq]at a3 ⊢;exact a3.symm,(TL c1 y).2 ⟨a1,by simpa using a2,by cases N:n.given<;>cases d<;>simp_all,bw.2 a5,bw.2 A⟩,?_⟩;rw[Il];refine (q n f _).2 ⟨o,?_,.inr (by have:=r n f;omega)⟩;cases D:pC n.aq with
    |true=>exact List.Nodup.sublist ((Qe f D).map _) s
    |false=>
     cases m with
     |zero=>cases o
     |succ m=>
      simp only[xY,ai,D,gA]at o;exact (qJ _).1 o.1.2
   ·rcases g with g|g
    ·rw[Xw.1 g];simp
    ·cases l with
     |nil=>simp
     |cons e l=>
      have:=r e bQ;have:deep<=8:=by omega
      simp[this]
noncomputable def Fg(ip:z->Bool)(mt:z->z->Bool)(l:M ah):Bool:=Z' (eJ l<=60) && sM ip mt (aw l+1) l 0 I 1
theorem abH(l:M ah):Fg ip mt l=(Z' (eJ l<=60) && (Z' (uq l<=8) && xY ip mt (aw l+1) l 0 J)):=by
 have h:=ae9 (ip:=ip) (mt:=mt) (aw l+1) l 0 J 1 (aP _) (aD _);rw[ga]at h;unfold Fg
 congr 1
 rw[cR,h,ai,decide_eq_true_eq]
 constructor
 ·rintro⟨a,_,c⟩
  exact⟨by omega,a⟩
 ·rintro⟨a,b⟩
  refine⟨b,?_,by omega⟩;simp only[xY,ai,pC,da,decide_eq_true_eq]at b;rcases b.1.2 with h|h
  ·rcases h with h|h<;>omega
  ·exact (qJ _).1 h
end
end
section
abbrev PR:=u (dx×Nat)
abbrev eT:z:=⟨#[]⟩
def ir(s:z)(i:Nat)(b:Int):Bool:=Z' (i < s.size) && Z' (eB s i=b)
def bsT(f:Nat->Bool):z:=bA (((cB 256).filter f).map dz)
def Ut:z:=bsT λx=>Z' (32<=x) && Z' (x<=126)
def qf(r:M (Int×Int))(x:Nat):Bool:=r.any λp=>Z' (p.1<=(x:Int)) && Z' ((x:Int)<=p.2)
def agG(r:M (Int×Int)):z:=bsT (qf r)
def sY(s:z)(i:Nat):u ((Int×Int)×Nat):=
 if (Z' (i < s.size) && P5 (eB s i))=I then
  if ir s (i+1) 126=I then
   if (Z' (i+2 < s.size) && (P5 (eB s (i+2)) && Z' (eB s i<=eB s (i+2))))=I then Z ((eB s i,eB s (i+2)),i+3) else O
  else Z ((eB s i,eB s i),i+1)
 else O
def iQ(s:z):Nat->Nat->u (M (Int×Int)×Nat)
 |0,_=>O
 |f+1,i=>if ir s i 93=I then Z ([],i+1) else match sY s i with
  |some (r,j)=>(iQ s f j).map λp=>(r::p.1,p.2)
  |none=>O
def OJ(s:z)(i:Nat):PR:=match iQ s (s.size+1) i with
 |some (r::l,k)=>Z (⟨1,agG (r::l),[]⟩,k)
 |_=>O
def pCh(b:Int):Bool:=fO 97 122 b ||(fO 48 57 b ||decide (b=45))
def GI(b:Int):z:=bA [dz b.toNat]
def yt(alt:Nat->PR)(s:z)(i:Nat):PR:=
 if ir s i 40=I then (match alt (i+1) with
  |some (p,j)=>if ir s j 41=I then Z (p,j+1) else O
  |none=>O)
 else if ir s i 91=I then OJ s (i+1)
 else if ir s i 46=I then Z (⟨1,Ut,[]⟩,i+1)
 else if (Z' (i < s.size) && pCh (eB s i))=I then Z (⟨1,GI (eB s i),[]⟩,i+1)
 else O
def GP(s:z)(p:dx)(j:Nat):dx×Nat:=
 if ir s j 42=I then (⟨4,eT,[p]⟩,j+1)
 else if ir s j 43=I then (⟨2,eT,[p,⟨4,eT,[p]⟩]⟩,j+1)
 else if ir s j 63=I then (⟨5,eT,[p]⟩,j+1)
 else (p,j)
def tR(alt:Nat->PR)(s:z)(i:Nat):PR:=(yt alt s i).map λp=>GP s p.1 p.2
def wY(s:z)(i:Nat):Bool:=Z' (i < s.size) && (!Z' (eB s i=124) && !Z' (eB s i=41))
def wX(alt:Nat->PR)(s:z):Nat->Nat->u (M dx×Nat)
 |0,_=>O
 |f+1,i=>if wY s i=I then match tR alt s i with
   |some (p,j)=>(wX alt s f j).map λq=>(p::q.1,q.2)
   |none=>O
  else Z ([],i)
def tZ(op:Int):M dx->dx
 |[p]=>p
 |l=>⟨op,eT,l⟩
def DC(alt:Nat->PR)(s:z)(i:Nat):PR:=(wX alt s (s.size+1) i).map λq=>(tZ 2 q.1,q.2)
def C5(alt:Nat->PR)(s:z):Nat->Nat->u (M dx×Nat)
 |0,_=>O
 |f+1,i=>if ir s i 124=I then match DC alt s (i+1) with
   |some (p,j)=>(C5 alt s f j).map λq=>(p::q.1,q.2)
   |none=>O
  else Z ([],i)
def GO(alt:Nat->PR)(s:z)(i:Nat):PR:=match DC alt s i with
 |some (p,j)=>(C5 alt s (s.size+1) j).map λq=>(tZ 3 (p::q.1),q.2)
 |none=>O
def VR(s:z):Nat->Nat->PR
 |0,_=>O
 |f+1,i=>GO (VR s f) s i
def C6(s:z):u dx:=if 30 < s.size then O else match VR s (s.size+1) 0 with
 |some (p,k)=>if k=s.size then Z p else O
 |none=>O
def yY(n:Nat)(p:dx):Bool:=(Z' (p.aa.length<=n) && Z' (p.text.size<=256)) && p.aa.attach.all λq=>yY n q.1
termination_by aw p
decreasing_by exact dx.Kx q.2
theorem LQ(n:Nat)(p:dx):yY n p=((Z' (p.aa.length<=n) && Z' (p.text.size<=256)) && p.aa.all (yY n)):=by
 rw[yY]
 congr 1
 rw[cR,bw,bw];exact⟨λh x a=>h ⟨x,a⟩ (List.mem_attach _ _),λh x _=>h x.1 x.2⟩
theorem Ee{n:Nat}{p q:dx}(h:yY n p=I)(a:q∈p.aa):yY n q=I:=by
 rw[LQ,ai,bw]at h;exact h.2 q a
theorem Ef{n:Nat}{p:dx}(h:yY n p=I):p.aa.length<=n:=by
 rw[LQ,ai,ai,decide_eq_true_eq]at h;exact h.1.1
theorem acv{n:Nat}{p:dx}(h:yY n p=I):p.text.size<=256:=by
 rw[LQ,ai,ai,decide_eq_true_eq,decide_eq_true_eq]at h;exact h.1.2
theorem yZ{n:Nat}{op:Int}{t:z}{l:M dx}(a:t.size<=256)(h:l.length<=n)(b:∀q∈l,yY n q=I):yY n ⟨op,t,l⟩=I:=by
 rw[LQ,ai,ai,decide_eq_true_eq,decide_eq_true_eq,bw];exact⟨⟨h,a⟩,b⟩
theorem CQ:eT.size<=256:=jt _
theorem xh{n:Nat}{op:Int}:∀{l:M dx},l.length<=n->(∀q∈l,yY n q=I)->yY n (tZ op l)=I
 |[p],_,h=>h p (cT.2 rfl)
 |[],h,a=>yZ CQ h a
 |_::_::_,h,a=>yZ CQ h a
theorem TY{n:Nat}(a:2<=n){s:z}{p:dx}(j:Nat)(h:yY n p=I):yY n (GP s p j).1=I:=by
 unfold GP;have b:yY n ⟨4,eT,[p]⟩=I:=yZ CQ (by simp;omega) (by simpa using h);have c:yY n ⟨5,eT,[p]⟩=I:=yZ CQ (by simp;omega) (by simpa using h);have a:yY n ⟨2,eT,[p,⟨4,eT,[p]⟩]⟩=I:=yZ CQ (by simpa using a) (by simp[h,b]);split
 ·exact b
 split
 ·exact a
 split
 ·exact c
 ·exact h
theorem TX(s:z)(p:dx)(j:Nat):j<=(GP s p j).2/\(j<=s.size->(GP s p j).2<=s.size):=by
 unfold GP;have a:∀b,ir s j b=I->j < s.size:=λb h=>by simp only[ir,ai,decide_eq_true_eq]at h;exact h.1
 split
 ·rename_i h;have:=a _ h;exact⟨by simp,λ_=>this⟩
 split
 ·rename_i h;have:=a _ h;exact⟨by simp,λ_=>this⟩
 split
 ·rename_i h;have:=a _ h;exact⟨by simp,λ_=>this⟩
 ·exact⟨aD _,λh=>h⟩
theorem Bl(f:Nat->Bool):(bsT f).size<=256:=by
 have:=px f (cB 256);simp only[bsT,rN,ay,List.length_range]at this ⊢;exact this
theorem nU{s:z}{i:Nat}{b:Int}(h:ir s i b=I):i < s.size:=by simp only[ir,ai,decide_eq_true_eq]at h;exact h.1
end
section
def hasB(t:z)(b:Int):Bool:=(cB t.size).any λk=>Z' (eB t k=b)
def Ps(t s:z)(a:M Bool):M Bool:=J::(cB s.size).map λi=>(nth a i).getD J && hasB t (eB s i)
def Db(f:M Bool->M Bool):Nat->M Bool->M Bool
 |0,x=>x
 |n+1,x=>if dK x (f x)=x then x else Db f n (dK x (f x))
def GH{b β:Type}(l:M b)(a:β)(g:b->β):β:=match l with
 |[k]=>g k
 |_=>a
theorem LO{b β:Type}{l:M b}{a:β}{g:b->β}(h:l.length≠1):GH l a g=a:=by
 unfold GH;split
 ·exact absurd rfl h
 ·rfl
theorem LN{b β:Type}(k:b)(a:β)(g:b->β):GH [k] a g=g k:=(rfl)
def Nl(f:dx->M Bool->M Bool)(s:z)(p:dx)(a:M Bool):M Bool:=
 if p.op=1 then Ps p.text s a
 else if p.op=2 then p.aa.foldl (λo k=>f k o) a
 else if p.op=3 then p.aa.foldl (λo k=>dK o (f k a)) (bn (s.size+1) J)
 else if p.op=4 then GH p.aa a λk=>Db (f k) (s.size+2) a
 else if p.op=5 then GH p.aa a λk=>dK a (f k a)
 else bn (s.size+1) J
def jb(s:z):Nat->dx->M Bool->M Bool
 |0,_,a=>a
 |n+1,p,a=>Nl (jb s n) s p a
noncomputable def QV(p:dx)(s:z):Bool:=(nth (jb s (aw p+1) p (I::bn s.size J)) s.size).getD J
noncomputable def Dx(t s:z):Bool:=match C6 t with
 |some p=>QV p s
 |none=>J
def mh(t:z):Bool:=(C6 t).isSome
theorem JA{f:M Bool->M Bool}:∀(n:Nat) (x:M Bool),(Db f n x).length=x.length
 |0,x=>rfl
 |n+1,x=>by
  simp only[Db];split
  ·rfl
  ·rw[JA n,j8]
theorem JR(t s:z)(a:M Bool):(Ps t s a).length=s.size+1:=by simp[Ps]
theorem UG{f:dx->M Bool->M Bool}{s:z}{p:dx}{a:M Bool}(i:∀k∈p.aa,∀b:M Bool,b.length=s.size+1->(f k b).length=s.size+1)(c:a.length=s.size+1):(Nl f s p a).length=s.size+1:=by
 unfold Nl;have m:∀(l:M dx) (b:M Bool),(∀k∈l,k∈p.aa)->b.length=s.size+1->(l.foldl (λo k=>f k o) b).length=s.size+1:=by
  intro l
  induction l with
  |nil=>intro b _ h;exact h
  |cons k l d=>intro b e h;exact d _ (λx g=>e x (bP _ g)) (i k (e k bQ) b h)
 have j:∀(l:M dx) (b:M Bool),b.length=s.size+1->(l.foldl (λo k=>dK o (f k a)) b).length=s.size+1:=by
  intro l
  induction l with
  |nil=>intro b h;exact h
  |cons k l d=>intro b h;exact d _ (by rw[j8];exact h)
 split
 ·exact JR _ _ _
 split
 ·exact m _ _ (λ_ h=>h) c
 split
 ·exact j _ _ (by simp)
 split
 ·unfold GH;split
  ·rw[JA];exact c
  ·exact c
 split
 ·unfold GH;split
  ·rw[j8];exact c
  ·exact c
 ·simp
theorem tC{s:z}:∀(n:Nat) (p:dx) (a:M Bool),a.length=s.size+1->(jb s n p a).length=s.size+1
 |0,_,_,h=>h
 |n+1,p,a,h=>UG (λk _ b c=>tC n k b c) h
def outs:M Bool->Nat
 |[]=>0
 |b::l=>(if b then 0 else 1)+outs l
theorem LP:∀(l:M Bool),outs l<=l.length
 |[]=>aD _
 |b::l=>by have:=LP l;cases b<;>simp[outs]<;>omega
theorem yN:∀(x y:M Bool),outs (dK x y)<=outs x/\(dK x y≠x->outs (dK x y) < outs x)
 |[],y=>by cases y<;>simp[dK,outs]
 |b::x,[]=>by simp[dK,outs]
 |b::x,c::y=>by
  obtain⟨d,a⟩:=yN x y;refine⟨by cases b<;>cases c<;>simp[dK,outs]<;>omega,λh=>?_⟩;cases b<;>cases c<;>simp_all[dK,outs]<;>omega
theorem IQ:∀(x y:M Bool),nQ x y=!Z' (dK x y=x)
 |[],y=>by cases y<;>simp[dK,nQ]
 |b::x,[]=>by simp[dK,nQ]
 |b::x,c::y=>by
  have:=IQ x y;cases b<;>cases c<;>simp_all[dK,nQ]
end
section
theorem mL{s:z}{i:Nat}{b:Int}:ir s i b=I↔i < s.size/\eB s i=b:=by simp[ir]
theorem Td{s:z}{i:Nat}{b:Int}(h:ir s i b=J)(a:i < s.size):¬eB s i=b:=by
 intro c;rw[mL.2 ⟨a,c⟩]at h;cases h
theorem s_{s:z}{i:Nat}{c:Int}(d:s.size<=mg)(h:ir s i c=I):G 216 [.str s,E (i:Int),.bool J,.int .u8 c]=Z (0,[.bool I,.str s,E ((i+1:Nat):Int),.bool J]):=by
 obtain⟨a,e⟩:=mL.1 h;have b:=wj a d;refine ct t216 rfl ?_;simp only[go_sem,t216,a,e,fH _ _ a,b]
theorem s6{s:z}{i:Nat}{c:Int}(h:ir s i c=J):G 216 [.str s,E (i:Int),.bool J,.int .u8 c]=Z (0,[.bool J,.str s,E (i:Int),.bool J]):=by
 refine ct t216 rfl ?_;by_cases a:i < s.size
 ·have b:=Td h a;simp only[go_sem,t216,a,b,fH _ _ a]
 ·simp only[go_sem,t216,a]
theorem LR{s:z}{i c:Int}:G 216 [.str s,E i,.bool I,.int .u8 c]=Z (0,[.bool J,.str s,E i,.bool I]):=by
 refine ct t216 rfl ?_;simp only[go_sem,t216]
abbrev hB(f:Nat->Bool):D:=.list 1 I ((cB 256).map λx=>[D.bool (f x)])
abbrev bL(f:Nat->Bool)(n:Nat):D:=.list 1 I (((cB n).filter f).map λx:Nat=>[D.int .u8 (x:Int)])
theorem Q1{a:Type}{f:Nat->a}{n x:Nat}(h:x < n):nth ((cB n).map f) x=Z (f x):=by
 rw[ef];simp[h]
theorem Yn{f:Nat->Bool}{x:Nat}(h:x < 256):aZ .Wj [hB f,E (x:Int)]=Z (.bool J):=jd _ _ _ _ (by simpa using h)
theorem aeF{f:Nat->Bool}{x:Nat}(h:x < 256):aZ (.Wn 1 0 1 I) [hB f,E (x:Int)]=Z (.list 0 J [[.bool (f x)]]):=by
 simp only[aZ,bW,Q1 h];simp[dV,D.plain]
theorem aeG{f:Nat->Bool}{x:Nat}(h:x < 256):aZ (.set 0) [hB f,E (x:Int),.bool I]=Z (hB λy=>f y ||decide (x=y)):=by
 simp only[aZ,bW,Q1 h];rw[if_pos ⟨by simp,λ_=>by simp[dV,D.plain]⟩]
 congr 2
 apply List.ext_getElem (by simp)
 intro i c b;simp only[ay,List.length_range]at b;rw[List.getElem_set];simp only[List.getElem_map,List.getElem_range];by_cases a:x=i
 ·subst a;simp[gG]
 ·simp[a]
theorem abq:aZ (.make 1 1 I [zB J]) [E 256]=Z (hB λ_=>J):=by
 have:(cB 256).map (λx:Nat=>[D.bool ((λ_=>J) x)])=bn 256 [D.bool J]:=by
  rw[rB];simp
 simp only[hB,this];rfl
theorem Rd:aZ (.sV 1 I) []=Z (.list 1 I []):=xI 1 I
theorem wg(f:Nat->Bool)(n:Nat):(cB (n+1)).filter f=(cB n).filter f++(if f n=I then [n] else []):=by
 rw[List.range_succ,List.filter_append]
 congr 1
 by_cases h:f n=I<;>simp[h]
theorem W3{f:Nat->Bool}{n:Nat}(a:n < 256)(h:f n=I):aZ (.app 1 1) [bL f n,.list 1 I [[.int .u8 (n:Int)]]]=Z (bL f (n+1)):=by
 have b:((cB n).filter f).length<=n:=by have:=px f (cB n);simpa using this
 rw[Rc _ _ _ _ _ (by simp only[ay,aH,aJ,room,maxLen];omega)];simp only[bL,wg,h,if_true,bN,aW,bD]
theorem ahC{f:Nat->Bool}{n:Nat}(h:f n=J):bL f (n+1)=bL f n:=by
 simp only[bL,wg,h,aF,if_false,aK]
theorem CN:∀(l:M Nat),bytesOf (l.map λx:Nat=>[D.int .u8 (x:Int)])=Z (l.map λx:Nat=>(x:Int))
 |[]=>rfl
 |x::l=>by simp only[aW,bytesOf,CN l,aQ]
theorem W4{f:Nat->Bool}{n:Nat}:aZ .P0 [bL f n]=Z (.str (bA (((cB n).filter f).map dz))):=by
 simp only[bL,aZ,CN,aQ,List.map_map,bA];rfl
theorem aeh{f:Nat->Bool}{n:Nat}(c:n<=256)(h:∀x,n<=x->f x=J):bA (((cB n).filter f).map dz)=bsT f:=by
 have:∀m,(cB (n+m)).filter f=(cB n).filter f:=by
  intro m
  induction m with
  |zero=>rfl
  |succ m b=>rw[<- cQ,wg,h (n+m) (by omega),b];simp
 have a:=this (256 - n);rw[show n+(256 - n)=256 by omega]at a;rw[bsT,a]
theorem Sl{x:Nat}(h:x < 256):IntKind.u8.wrap (x:Int)=(x:Int):=wrap_u8 (by omega)
theorem Hq{x:Nat}(h:x<=mg):IntKind.i64.wrap (x:Int)=(x:Int):=wrap_i64 (by simp only[mg]at h;omega)
theorem mkU(x:Int):aZ (.sV 1 I) [.int .u8 x]=Z (.list 1 I [[.int .u8 x]]):=uY .u8 x
abbrev HG(x:Nat):Bool:=decide (32<=x) && decide (x<=126)
theorem n32:((32:Nat):Int)=32:=(rfl)
theorem n127:((127:Nat):Int)=127:=(rfl)
theorem n256:((256:Nat):Int)=256:=(rfl)
theorem bL0(f:Nat->Bool):bL f 0=.list 1 I []:=(rfl)
theorem al6:bL HG 32=.list 1 I []:=by
 have:(cB 32).filter HG=[]:=by decide
 simp only[bL,this,bD]
theorem an5:G 221 []=Z (0,[.str Ut]):=by
 refine ct t221 rfl ?_;have p:=Kc (b:=lB G FC) (λi=>(0,[E ((i:Nat):Int),bL HG i])) (λi=>if 32<=i then O else Z (0,[])) 127 (0,[E 127,.bool J,bL HG 127]);have l:∀m i,i+m=127->32<=i->cm (lB G FC) (0,[E ((i:Nat):Int),bL HG i])=Z (0,[E 127,.bool J,bL HG 127]):=by
  intro m
  induction m with
  |zero=>
   intro i h _;obtain rfl:i=127:=by omega
   refine bg ?_;simp only[go_sem,bG,FC,n127]
  |succ m d=>
   intro i h q;refine (bY ?_).trans (d (i+1) (by omega) (by omega));have k:(i:Int) < 127:=by omega
   have j:=Sl (x:=i) (by omega);have g:=W3 (f:=HG) (n:=i) (by omega) (by simp[HG];omega);have e:=wj (i:=i) (n:=127) (by omega) (by decide);simp only[go_sem,bG,FC,k,j,g,e,mkU]
 have a:=l 95 32 rfl (by omega);rw[al6,n32]at a;have c:=W4 (f:=HG) (n:=127);rw[aeh (by decide) (λx o=>by simp[HG];omega)]at c;simp only[go_sem,t221,a,Rd,c];rfl
theorem B2{e op tx s i b:D}{a:Nat}(g:a < 256):∀(m x:Nat) (f:Nat->Bool),x+m=a+1->
  cm (lB G FA) (0,[e,.int .u8 (a:Int),E (x:Int),op,tx,s,i,b,hB f])=Z (0,[e,.int .u8 (a:Int),E ((a+1:Nat):Int),.bool J,op,tx,s,i,b,hB λy=>f y ||(Z' (x<=y) && Z' (y<=a))])
 |0,x,f,h=>by
  obtain rfl:x=a+1:=by omega
  have c:Z' (((a+1:Nat):Int)<=(a:Int))=J:=by simp only[decide_eq_false_iff_not];omega
  have d:=Hq (x:=a) (by simp only[mg];omega);have l:(λy=>f y ||(Z' (a+1<=y) && Z' (y<=a)))=f:=by
   funext y
   by_cases h:a+1<=y
   ·have:¬y<=a:=by omega
    simp[h,this]
   ·simp[h]
  rw[l];refine bg ?_;simp only[go_sem,bG,FA,c,d]
 |m+1,x,f,h=>by
  refine (bY ?_).trans ((B2 (e:=e) (op:=op) (tx:=tx) (s:=s) (i:=i) (b:=b) g m (x+1) (λy=>f y ||decide (x=y)) (by omega)).trans ?_)
  ·have c:Z' ((x:Int)<=(a:Int))=I:=by simp only[decide_eq_true_eq];omega
   have d:=Hq (x:=a) (by simp only[mg];omega);have k:=wj (i:=x) (n:=256) (by omega) (by decide);simp only[go_sem,bG,FA,c,d,k,Yn (f:=f) (x:=x) (by omega),aeG (f:=f) (x:=x) (by omega)]
  ·have j:(λy=>(λy=>f y ||decide (x=y)) y ||(Z' (x+1<=y) && Z' (y<=a)))=λy=>f y ||(Z' (x<=y) && Z' (y<=a)):=by
    funext y
    by_cases c:x=y
    ·subst c;have:x<=a:=by omega
     simp[this]
    ·by_cases d:x<=y
     ·have:x+1<=y:=by omega
      simp[c,d,this]
     ·have:¬x+1<=y:=by omega
      simp[c,d,this]
   rw[j]
theorem I3{op tx s i b:D}{f:Nat->Bool}:∀(m x:Nat),x+m=256->
  cm (lB G FB) (0,[E (x:Int),op,tx,s,i,b,hB f,bL f x])=Z (0,[E 256,.bool J,op,tx,s,i,b,hB f,bL f 256])
 |0,x,h=>by
  obtain rfl:x=256:=by omega
  refine bg ?_;simp only[go_sem,bG,FB,n256,fy]
 |m+1,x,h=>by
  refine (bY ?_).trans (I3 m (x+1) (by omega));have g:(x:Int) < 256:=by omega
  have e:=Yn (f:=f) (x:=x) (by omega);have c:=aeF (f:=f) (x:=x) (by omega);have d:=wj (i:=x) (n:=256) (by omega) (by decide);have j:=Sl (x:=x) (by omega);cases a:f x with
  |false=>
   rw[ahC a];rw[a]at c;simp only[go_sem,bG,FB,g,e,c,d]
  |true=>
   rw[a]at c;simp only[go_sem,bG,FB,g,e,c,d,j,mkU,W3 (f:=f) (n:=x) (by omega) a]
theorem pc(a b:Nat):Z' ((a:Int)<=(b:Int))=Z' (a<=b):=by apply decide_eq_decide.2;omega
theorem zM(s:z)(i:Nat):∃a:Nat,a < 256/\eB s i=(a:Int):=by
 have:=ue s i;exact⟨(eB s i).toNat,by omega,by omega⟩
def kZ(e:D)(s:z)(i:Nat)(f:Nat->Bool):u (D×D)->Nat×M D
 |none=>(0,[e,.int .i64 0,.str ⟨#[]⟩,.str s,.int .i64 (i:Int),.bool J,hB f])
 |some (a,v)=>(1,[e,a,v,.bool J,.int .i64 0,.str ⟨#[]⟩,.str s,.int .i64 (i:Int),.bool J,hB f])
theorem aeX(f:Nat->Bool)(a:Nat)(l:M (Int×Int)):(λy:Nat=>(f y ||(Z' (a<=y) && Z' (y<=a))) ||qf l y)=λy=>f y ||qf (((a:Int),(a:Int))::l) y:=by
 funext y
 simp only[qf,nB,hY]
 congr 3<;>simp
theorem YN(f:Nat->Bool)(a b:Nat)(l:M (Int×Int)):(λy:Nat=>(f y ||(Z' (a<=y) && Z' (y<=b))) ||qf l y)=λy=>f y ||qf (((a:Int),(b:Int))::l) y:=by
 funext y
 simp only[qf,nB,hY]
 congr 3<;>simp
def acO(e:D)(s:z)(i:Nat)(f:Nat->Bool)(r:u (M (Int×Int)×Nat))(o:Nat×M D):Prop:=match r with
 |some (l,k)=>i+1+l.length<=k/\k<=s.size/\o=(1,[e,.bool J,.int .i64 0,.str ⟨#[]⟩,.str s,.int .i64 (k:Int),.bool J,hB λy=>f y ||qf l y])
 |none=>∃k:Nat,i<=k/\k<=s.size/\o=(0,[.int .i64 0,.str ⟨#[]⟩,.str s,.int .i64 (k:Int),.bool I])
theorem Vl{e:D}{s:z}(hs:s.size<=mg):∀(g i:Nat) (f:Nat->Bool) (q:u (D×D)),i<=s.size->s.size+1 - i<=g->
  ∃o,cm (lB G iK) (kZ e s i f q)=Z o/\acO e s i f (iQ s g i) o:=by
 intro g
 induction g with
 |zero=>intro i f q h1 m;omega
 |succ g ih=>
  intro i f q hi hg;have nx:∀(j:Nat) (f':Nat->Bool) (d v:D) (T:Int×Int),i < j->j<=s.size->(∀l,(λy=>f' y ||qf l y)=λy=>f y ||qf (T::l) y)->lB G iK (kZ e s i f q)=Z (.go (kZ e s j f' (Z (d,v))))->sY s i=Z (T,j)->ir s i 93=J->
    ∃o,cm (lB G iK) (kZ e s i f q)=Z o/\acO e s i f (iQ s (g+1) i) o:=by
   intro j f' d v T hij hj hf jS X t;obtain⟨o,h1,m⟩:=ih j f' (Z (d,v)) hj (by omega);refine⟨o,(bY jS).trans h1,?_⟩;have W:iQ s (g+1) i=(iQ s g j).map λp=>(T::p.1,p.2):=by simp only[iQ,t,aF,if_false,X]
   rw[W];cases hr:iQ s g j with
   |none=>
    rw[hr]at m;obtain⟨k,k1,U,k3⟩:=m;exact⟨k,by omega,U,k3⟩
   |some p=>
    obtain⟨l,k⟩:=p;rw[hr]at m;obtain⟨k1,U,k3⟩:=m;rw[hf]at k3;exact⟨by show i+1+(T::l).length<=k;rw[aH];omega,U,k3⟩
  have bd:∀(k:Nat),i<=k->k<=s.size->ir s i 93=J->sY s i=O->lB G iK (kZ e s i f q)=Z (.out (0,[E 0,.str ⟨#[]⟩,.str s,E (k:Int),.bool I]))->
    ∃o,cm (lB G iK) (kZ e s i f q)=Z o/\acO e s i f (iQ s (g+1) i) o:=by
   intro k k1 U t X ho;refine⟨_,bg ho,?_⟩;have W:iQ s (g+1) i=O:=by simp only[iQ,t,aF,if_false,X]
   rw[W];exact⟨k,k1,U,rfl⟩
  cases t:ir s i 93 with
  |true=>
   obtain⟨F,_⟩:=mL.1 t;have h:=s_ hs t;refine⟨(1,[e,.bool J,E 0,.str ⟨#[]⟩,.str s,E ((i+1:Nat):Int),.bool J,hB f]),?_,?_⟩
   ·refine bg ?_;cases q with
    |none=>simp only[go_sem,bG,kZ,iK,h]
    |some p=>simp only[go_sem,bG,kZ,iK,h]
   ·have W:iQ s (g+1) i=Z ([],i+1):=by simp only[iQ,t,if_true]
    rw[W];have he:(λy=>f y ||qf [] y)=f:=by funext y;simp[qf]
    refine⟨by simp,by omega,?_⟩;rw[he]
  |false=>
   have h:=s6 t;by_cases F:i < s.size
   ·obtain⟨a,ha,H⟩:=zM s i;have r:=akU (b:=eB s i) (ue s i);have A:=fH s i F;have B:=wj F hs;have n:¬s.size<=i:=by omega
    cases N:P5 (eB s i) with
    |false=>
     refine bd i (aD _) hi t (by simp only[sY,N,kH,aF,if_false]) ?_;rw[N]at r;cases q with
     |none=>simp only[go_sem,bG,kZ,iK,h,pc,n,A,r]
     |some p=>simp only[go_sem,bG,kZ,iK,h,pc,n,A,r]
    |true=>
     rw[N]at r;cases L:ir s (i+1) 126 with
     |false=>
      have m:=s6 L;have Q:=B2 (e:=e) (op:=E 0) (tx:=.str ⟨#[]⟩) (s:=.str s) (i:=E ((i+1:Nat):Int)) (b:=.bool J) ha 1 a f rfl;rw[<- H]at Q;refine nx (i+1) _ (.int .u8 (eB s i)) (E ((a+1:Nat):Int)) (eB s i,eB s i) (by omega) (by omega) (λl=>by rw[H];exact aeX f a l) ?_ (by simp only[sY,F,N,L,decide_true,jm,if_true,aF,if_false]) t;cases q with
      |none=>simp only[go_sem,bG,kZ,iK,h,pc,n,A,r,B,m,Q]
      |some p=>simp only[go_sem,bG,kZ,iK,h,pc,n,A,r,B,m,Q]
     |true=>
      have m:=s_ hs L;obtain⟨NT,_⟩:=mL.1 L;have S:∀(k:Nat),k=i+2->sY s i=O->lB G iK (kZ e s i f q)=Z (.out (0,[E 0,.str ⟨#[]⟩,.str s,E (k:Int),.bool I]))->∃o,cm (lB G iK) (kZ e s i f q)=Z o/\acO e s i f (iQ s (g+1) i) o:=λk hk X ho=>bd k (by omega) (by omega) t X ho;by_cases C:i+1+1 < s.size
      ·have w:=fH s (i+1+1) C;have P:=akU (b:=eB s (i+1+1)) (ue s (i+1+1));have V:=wj C hs;have K:¬s.size<=i+1+1:=by omega
       cases Y:P5 (eB s (i+1+1)) with
       |false=>
        rw[Y]at P;refine S (i+1+1) rfl (by simp only[sY,F,N,L,Y,decide_true,jm,if_true,cP,kH,aF,if_false]) ?_;cases q with
        |none=>simp only[go_sem,bG,kZ,iK,h,pc,n,A,r,B,m,K,w,P]
        |some p=>simp only[go_sem,bG,kZ,iK,h,pc,n,A,r,B,m,K,w,P]
       |true=>
        rw[Y]at P;by_cases dR:eB s (i+1+1) < eB s i
        ·have R:¬eB s i<=eB s (i+1+1):=by omega
         refine S (i+1+1) rfl (by simp only[sY,F,N,L,Y,R,decide_true,decide_false,jm,if_true,kH,aF,if_false]) ?_;cases q with
         |none=>simp only[go_sem,bG,kZ,iK,h,pc,n,A,r,B,m,K,w,P,dR]
         |some p=>simp only[go_sem,bG,kZ,iK,h,pc,n,A,r,B,m,K,w,P,dR]
        ·have R:eB s i<=eB s (i+1+1):=by omega
         obtain⟨c,hz,Ys⟩:=zM s (i+1+1);have Q:=B2 (e:=e) (op:=E 0) (tx:=.str ⟨#[]⟩) (s:=.str s) (i:=E ((i+1+1+1:Nat):Int)) (b:=.bool J) hz (c+1 - a) a f (by omega);have wa:=Hq (x:=a) (by simp only[mg];omega);rw[<- Ys,<- H]at Q;refine nx (i+1+1+1) _ (.int .u8 (eB s (i+1+1))) (E ((c+1:Nat):Int)) (eB s i,eB s (i+1+1)) (by omega) (by omega) (λl=>by rw[H,Ys];exact YN f a c l) ?_ (by simp only[sY,F,N,L,Y,C,R,decide_true,jm,if_true]) t;cases q with
         |none=>simp only[go_sem,bG,kZ,iK,h,pc,n,A,r,B,m,K,w,P,V,dR,Q]
         |some p=>simp only[go_sem,bG,kZ,iK,h,pc,n,A,r,B,m,K,w,P,V,dR,Q]
      ·have K:s.size<=i+1+1:=by omega
       refine S (i+1+1) rfl (by
        have:¬i+2 < s.size:=C;simp only[sY,F,N,L,this,decide_true,decide_false,jm,if_true,cP,aF,if_false]) ?_
       cases q with
       |none=>simp only[go_sem,bG,kZ,iK,h,pc,n,A,r,B,m,K]
       |some p=>simp only[go_sem,bG,kZ,iK,h,pc,n,A,r,B,m,K]
   ·have n:s.size<=i:=by omega
    refine bd i (aD _) hi t (by simp only[sY,F,decide_false,cP,aF,if_false]) ?_;cases q with
    |none=>simp only[go_sem,bG,kZ,iK,h,pc,n]
    |some p=>simp only[go_sem,bG,kZ,iK,h,pc,n]
def PA(s:z)(i c:Nat)(r:PR)(p:dx)(k:Nat)(b:Bool):Prop:=yY 64 p=I/\i<=k/\k<=s.size/\match r with
 |some q=>b=J/\q=(p,k)/\i+c<=k
 |none=>b=I
theorem kW(op:Int)(t:z)(h:t.size<=256):yY 64 ⟨op,t,[]⟩=I:=yZ h (by simp) (by simp)
theorem VS{s:z}{g i k:Nat}(h:iQ s g i=Z ([],k)):k=i+1:=by
 cases g with
 |zero=>cases h
 |succ g=>
  simp only[iQ]at h
  split at h
  ·cases h;rfl
  ·split at h
   ·obtain⟨p,_,h⟩:=ak.1 h;simp at h
   ·cases h
theorem an4{s:z}{i:Nat}(w:s.size<=mg)(C:i<=s.size):∃p k b,G 220 [.str s,E (i:Int),.bool J]=Z (0,i_ p++[.str s,.int .i64 (k:Int),.bool b])/\PA s i 0 (OJ s i) p k b:=by
 obtain⟨o,c,g⟩:=Vl (e:=E (i:Int)) w (s.size+1) i (λ_=>J) O (by omega) (by omega);have m:=abq;simp only[kZ]at c;cases a:iQ s (s.size+1) i with
 |none=>
  rw[a]at g;obtain⟨k,j,d,rfl⟩:=g;refine⟨⟨0,eT,[]⟩,k,I,ct t220 rfl ?_,kW _ _ CQ,j,d,by rw[OJ,a]⟩;simp only[go_sem,t220,m,c,bk];rfl
 |some q=>
  obtain⟨l,k⟩:=q;rw[a]at g;obtain⟨j,d,rfl⟩:=g;have B:(λy:Nat=>(λ_=>J) y ||qf l y)=qf l:=by funext y;simp
  rw[B]at c;have v:IntKind.i64.wrap ((i:Int)+1)=((i+1:Nat):Int):=by rw[wrap_i64 (by simp only[mg]at w;omega)];omega
  have h:=λtx A b=>I3 (op:=E 0) (tx:=tx) (s:=.str s) (i:=A) (b:=b) (f:=qf l) 256 0 rfl;simp only[bL0,n0]at h;have x:=W4 (f:=qf l) (n:=256);cases l with
  |nil=>
   have t:=VS a;subst t;refine⟨⟨1,bsT (qf []),[]⟩,i+1,I,ct t220 rfl ?_,kW _ _ (Bl _),by omega,d,by rw[OJ,a]⟩;simp only[go_sem,t220,m,c,v,Rd,h,x,bk];rfl
  |cons r l=>
   have t:¬(k:Int)=((i+1:Nat):Int):=by rw[aH]at j;omega
   refine⟨⟨1,bsT (qf (r::l)),[]⟩,k,J,ct t220 rfl ?_,kW _ _ (Bl _),by omega,d,by rw[OJ,a];exact⟨rfl,rfl,by omega⟩⟩;simp only[go_sem,t220,m,c,v,t,Rd,h,x,bk];rfl
end
section
theorem NH {a c : Type} {b : a -> u (Sg a c)} (mk : Nat -> a) (n : Nat) {fin : c} (d : ∀ i, i < n -> b (mk i) = Z (.go (mk (i + 1)))) (f : b (mk n) = Z (.out fin)) : cm b (mk 0) = Z fin := by
  have h : ∀ m i, i + m = n -> cm b (mk i) = Z fin := by
    intro m
    induction m with
    | zero => intro i h; obtain rfl : i = n := by omega
              exact bg f
    | succ m e => intro i h; rw [bY (d i (by omega))]; exact e (i + 1) (by omega)
  exact h n 0 (by omega)
theorem Si{l:M Bool}{i:Nat}{b:Bool}(h:nth l i=Z b):aZ (.el 1) [bO l,E (i:Int)]=Z (.list 0 J [[.bool b]]):=by
 rw[mu,aX,h];rfl
theorem ui{l:M Bool}{i:Nat}(h:i < l.length):aZ .Wj [bO l,E (i:Int)]=Z (.bool J):=jd _ _ _ _ (by simpa using h)
theorem Eu{l:M Bool}{i:Nat}{b:Bool}(h:nth l i=Z b):aZ (.Wn 1 0 1 I) [bO l,E (i:Int)]=Z (.list 0 J [[.bool b]]):=by
 simp only[aZ,bW,aX,h,aQ];simp[CP,dV,D.plain]
theorem Ev{l:M Bool}{i:Nat}{c:Bool}(h:i < l.length):aZ (.set 0) [bO l,E (i:Int),.bool c]=Z (bO (l.set i c)):=by
 have a:nth l i=Z l[i]:=cI h;simp only[aZ,bW,aX,a,aQ];rw[if_pos ⟨by simp,λ_=>by simp[dV,D.plain]⟩];simp only[bO,rK];rfl
theorem zO{n:Nat}(h:n<=67108864):aZ (.make 1 1 I [zB J]) [E (n:Int)]=Z (bO (bn n J)):=by
 simp only[aZ,bW];rw[if_pos ⟨by omega,by simp only[room];omega,by omega⟩];simp[bO,CP,SK.d]
theorem Xc{l m:M Bool}(h:m.length=l.length):aZ .Iy [bO l,bO m]=Z (bO m):=by
 simp only[aZ,ay,h,and_self,if_true]
def lz(a:M Bool)(i:Nat):M Bool:=a.take i++bn (a.length - i) J
theorem aeA(a:M Bool):lz a 0=bn a.length J:=by simp[lz]
theorem Qs(a:M Bool):lz a a.length=a:=by simp[lz]
theorem Ak(a:M Bool)(i:Nat)(h:i<=a.length):(lz a i).length=a.length:=by simp[lz];omega
theorem EW(a:M Bool)(i j:Nat)(h:i<=a.length):(lz a i)[j]?=if j < i then a[j]? else if j < a.length then Z J else O:=by
 unfold lz;rw[zu];have c:(a.take i).length=i:=by rw[aY];omega
 rw[c];split
 ·rw[List.getElem?_take_of_lt (by assumption)]
 ·rw[List.getElem?_replicate];by_cases b:j < a.length
  ·rw[if_pos (by omega),if_pos b]
  ·rw[if_neg (by omega),if_neg b]
theorem BC{a:M Bool}{i:Nat}{b:Bool}(h:nth a i=Z b):(lz a i).set i b=lz a (i+1):=by
 have e:i < a.length:=bp h;rw[ef]at h
 apply eE
 intro j;rw[jT,EW _ _ _ (by omega),EW _ _ _ (by omega),Ak _ _ (by omega)];by_cases c:i=j
 ·subst c;rw[if_pos rfl,if_pos e,if_pos (by omega),h]
 ·rw[if_neg c];by_cases d:j < i
  ·rw[if_pos d,if_pos (by omega)]
  ·rw[if_neg d,if_neg (show ¬j < i+1 by omega)]
theorem Jg:∀{a b:M Bool} {i:Nat} {x y:Bool},nth a i=Z x->nth b i=Z y->nth (dK a b) i=Z (x ||y)
 |_::_,_::_,0,_,_,d,c=>by cases d;cases c;rfl
 |a::x,b::y,i+1,_,_,d,c=>Jg (a:=x) (b:=y) d c
theorem HT{n:Nat}(h:n<=mg):IntKind.i64.wrap ((n:Int)+1)=((n+1:Nat):Int):=by rw[wrap_i64 (by simp only[mg]at h;omega)];omega
theorem af4{a b:M Bool}(o:a.length<=mg+1)(v:b.length=a.length):G 233 [bO a,bO b]=Z (0,[bO (dK a b)]):=by
 have d:=j8 a b;have m:=zO (n:=a.length) (by simp only[mg]at o;omega);have e:=NH (b:=lB G KU) (λi=>(0,[bO a,bO b,E (i:Int),bO (lz (dK a b) i)])) a.length (fin:=(0,[bO a,bO b,E a.length,.bool J,bO (lz (dK a b) a.length)])) (by
  intro i f;have k:IntKind.i64.wrap ((i:Int)+1)=((i+1:Nat):Int):=HT (by omega);have h:nth a i=Z a[i]:=cI f;have g:nth b i=Z (b[i]'(by omega)):=cI (by omega);have p:=Jg h g;have t:=Si h;have s:=Si g;have r:=ui (l:=lz (dK a b) i) (i:=i) (by rw[Ak _ _ (by omega)];omega);have q:=λc=>Ev (l:=lz (dK a b) i) (i:=i) (c:=c) (by rw[Ak _ _ (by omega)];omega);have j:=BC p;generalize a[i]=x at *;generalize (b[i]'(by omega))=y at *;cases x<;>cases y<;>simp only[ll,kc]at j<;>simp only[go_sem,bG,KU,f,k,t,s,r,q,j]) (by
  simp only[go_sem,bG,KU,aC])
 rw[n0,aeA,d,<- d,Qs,d]at e;refine ct t233 rfl ?_;simp only[go_sem,t233,m,e]
theorem vP(p:Nat->Bool)(k:Nat):(cB (k+1)).any p=((cB k).any p ||p k):=by
 rw[List.range_succ,List.any_append];simp
theorem TM{t s:z}{a:M Bool}{i:Nat}{x:Bool}(b:i < s.size)(h:nth a i=Z x):nth (Ps t s a) (i+1)=Z (x && hasB t (eB s i)):=by
 have:=Q1 (f:=λi=>(nth a i).getD J && hasB t (eB s i)) b;rw[h]at this;exact this
theorem Q2{l:M Bool}{i:Nat}{c:Bool}(h:i < l.length):nth (l.set i c) i=Z c:=by
 rw[ef,jT];simp[h]
theorem Vp{s t:z}{a o:M Bool}{op ks:D}{i:Nat}{x:Bool}(Q:s.size<=mg)(P:t.size<=mg)(B:i < s.size)(C:nth a i=Z x)(f:nth o (i+1)=Z J) :
  ∃d:Int,cm (lB G wE) (0,[.str s,bO a,E (i:Int),E 0,op,.str t,ks,bO o])=Z (0,[.str s,bO a,E (i:Int),E d,.bool J,op,.str t,ks,bO (o.set (i+1) (x && hasB t (eB s i)))]):=by
 have y:=Si C;have e:=bp f;have A:IntKind.i64.wrap ((i:Int)+1)=((i+1:Nat):Int):=HT (by omega);cases x with
 |false=>
  have m:o.set (i+1) (J && hasB t (eB s i))=o:=by
   apply eE
   intro j;rw[jT];rw[ef]at f;by_cases g:i+1=j
   ·subst g;rw[if_pos rfl,if_pos e,f];rfl
   ·rw[if_neg g]
  rw[m];refine⟨0,bg ?_⟩;by_cases v:(0:Int) < (t.size:Int)
  ·simp only[go_sem,bG,wE,v,y]
  ·simp only[go_sem,bG,wE,v]
 |true=>
  refine⟨t.size,?_⟩;have p:=NH (b:=lB G wE) (λk=>(0,[.str s,bO a,E (i:Int),E (k:Int),op,.str t,ks,bO (o.set (i+1) ((cB k).any λk=>Z' (eB t k=eB s i)))])) t.size (fin:=(0,[.str s,bO a,E (i:Int),E t.size,.bool J,op,.str t,ks,bO (o.set (i+1) (hasB t (eB s i)))])) (by
   intro k r;have h:IntKind.i64.wrap ((k:Int)+1)=((k+1:Nat):Int):=HT (by omega);rw[vP];generalize (cB k).any (λk=>Z' (eB t k=eB s i))=q;have n:i+1 < (o.set (i+1) q).length:=by rw[rz];exact e
   have N:=ui n;have L:=Eu (Q2 (l:=o) (i:=i+1) (c:=q) e);have w:=λc=>Ev (l:=o.set (i+1) q) (i:=i+1) (c:=c) n;have K:=fH t k r;have H:=fH s i B;have F:∀c,(o.set (i+1) q).set (i+1) c=o.set (i+1) c:=λc=>List.set_set ..;simp only[F]at w;cases q<;>simp only[go_sem,bG,wE,r,A,h,y,N,L,w,K,H]) (by
   have:hasB t (eB s i)=(cB t.size).any λk=>Z' (eB t k=eB s i):=rfl;rw[this];simp only[go_sem,bG,wE,aC])
  have m:o.set (i+1) ((cB 0).any λk=>Z' (eB t k=eB s i))=o:=by
   apply eE
   intro j;rw[jT];rw[ef]at f;by_cases g:i+1=j
   ·subst g;rw[if_pos rfl,if_pos e,f];rfl
   ·rw[if_neg g]
  rw[m,n0]at p;rw[cW];exact p
theorem Zr{J:M Bool}{i j:Nat}(b:i<=j)(a:j < J.length):nth (lz J i) j=Z false:=by
 rw[ef,EW _ _ _ (by omega),if_neg (by omega),if_pos a]
theorem Vq{s t:z}{a:M Bool}{op ks:D}(m:s.size<=mg)(l:t.size<=mg)(p:a.length=s.size+1) :
  cm (lB G FE) (0,[.str s,bO a,E 0,op,.str t,ks,bO (bn (s.size+1) false)])=Z (0,[.str s,bO a,E s.size,.bool false,op,.str t,ks,bO (Ps t s a)]):=by
 have g:=JR t s a;have f:=NH (b:=lB G FE) (λi=>(0,[.str s,bO a,E (i:Int),op,.str t,ks,bO (lz (Ps t s a) (i+1))])) s.size (fin:=(0,[.str s,bO a,E s.size,.bool false,op,.str t,ks,bO (lz (Ps t s a) (s.size+1))])) (by
  intro i d;have k:IntKind.i64.wrap ((i:Int)+1)=((i+1:Nat):Int):=HT (by omega);have h:nth a i=Z (a[i]'(by omega)):=cI (by omega);have n:=TM (t:=t) d h;obtain⟨c,e⟩:=Vp (op:=op) (ks:=ks) m l d h (Zr (J:=Ps t s a) (i:=i+1) (j:=i+1) (aD _) (by omega));rw[BC n]at e;simp only[go_sem,bG,FE,d,k,e]) (by
  simp only[go_sem,bG,FE,aC])
 have o:lz (Ps t s a) (0+1)=bn (s.size+1) false:=by
  rw[lz,g];simp[Ps,gE]
 rw[o,n0]at f;rw[f]
 congr 9
 rw[<- g,Qs]
def neB(x y:M Bool):Bool:=!Z' (x=y)
theorem WV:∀{x y:M Bool},x.length=y.length->(cB x.length).any (λj=>!Z' (nth x j=nth y j))=neB x y
 |[],[],_=>rfl
 |a::x,b::y,h=>by
  have c:=WV (x:=x) (y:=y) (by simpa using h);rw[aH,List.range_succ_eq_map,nB,List.any_map];have i:((λj=>!Z' (nth (a::x) j=nth (b::y) j)) ∘ Nat.succ)=λj=>!Z' (nth x j=nth y j):=rfl;rw[i,c];simp only[neB,cl];have g:nth (a::x) 0=Z a:=rfl;have f:nth (b::y) 0=Z b:=rfl;rw[g,f];by_cases e:a=b<;>by_cases d:x=y<;>simp[e,d]
theorem I4{s op tx ks:D}{o x:M Bool}(t:o.length<=mg+1)(e:x.length=o.length) :
  cm (lB G B6) (0,[s,.bool J,E 0,op,tx,ks,bO o,bO x])=Z (0,[s,.bool (neB x o),E o.length,.bool J,op,tx,ks,bO o,bO x]):=by
 rw[<- WV e];have f:=NH (b:=lB G B6) (λi=>(0,[s,.bool ((cB i).any λj=>!Z' (nth x j=nth o j)),E (i:Int),op,tx,ks,bO o,bO x])) o.length (fin:=(0,[s,.bool ((cB o.length).any λj=>!Z' (nth x j=nth o j)),E o.length,.bool J,op,tx,ks,bO o,bO x])) (by
  intro i a;have k:IntKind.i64.wrap ((i:Int)+1)=((i+1:Nat):Int):=HT (by omega);have h:nth o i=Z o[i]:=cI a;have g:nth x i=Z (x[i]'(by omega)):=cI (by omega);rw[vP,h,g];generalize (cB i).any (λj=>!Z' (nth x j=nth o j))=q;have r:=Eu h;have p:=Eu g;have n:=ui a;have m:=ui (l:=x) (i:=i) (by omega);generalize o[i]=c at *;generalize (x[i]'(by omega))=d at *;cases q<;>cases c<;>cases d<;>simp only[go_sem,bG,B6,a,k,r,p,n,m,ae]) (by
  simp only[go_sem,bG,B6,aC])
 rw[n0]at f;rw[e];exact f
theorem Ng(p:dx):(i_ p).length=3:=by rw[bk];rfl
theorem sb(p:dx)(k:Nat)(a:Bool):aZ (.has 3) [.list k a [i_ p]]=Z (.bool J):=by
 rw[zb,Ng,if_pos (aD 3)]
theorem Nh{l:M dx}{i:Nat}{p:dx}(h:nth l i=Z p):aZ (.el 3) [cF l,E (i:Int)]=Z (.list 0 J [i_ p]):=by
 rw[mu,aX,h];rfl
theorem yl{k:dx}:aZ (.el 3) [cF [k],E 0]=Z (.list 0 J [i_ k]):=Nh (l:=[k]) (i:=0) rfl
def G_(h:u D)(s:z)(op:Int)(t:z)(k:dx)(x:M Bool):Nat×M D:=match h with
 |none=>(0,[.str s,.int .i64 op,.str t,cF [k],bO x])
 |some a=>(1,[.str s,a,.int .i64 op,.str t,cF [k],bO x])
section
variable {s:z} {k:dx} {f:M Bool->M Bool} (hs:s.size<=mg) (hf:∀x:M Bool,x.length=s.size+1->(f x).length=s.size+1)
 (ih:∀x:M Bool,x.length=s.size+1->G 234 (i_ k++[.str s,bO x])=Z (0,[bO (f x)]))
include hs hf ih
theorem Vs{t:z}:∀(m:Nat) (x:M Bool) (h:u D),outs x < m->x.length=s.size+1->
  cm (lB G pE) (G_ h s 4 t k x)=Z (0,[.str s,.bool I,E 4,.str t,cF [k],bO (Db f m x)]):=by
 intro m
 induction m with
 |zero=>intro x h q;omega
 |succ m p=>
  intro x h q e;have i:=ih x e;rw[bk]at i;simp only[au,av]at i;have j:=af4 (a:=x) (b:=f x) (by rw[e];omega) (by rw[hf x e,e]);have n:=j8 x (f x);have g:=I4 (s:=.str s) (op:=E 4) (tx:=.str t) (ks:=cF [k]) (o:=x) (x:=dK x (f x)) (by rw[e];omega) n;simp only[Db];by_cases d:dK x (f x)=x
  ·rw[if_pos d];have l:neB (dK x (f x)) x=J:=by simp[neB,d]
   rw[l,d]at g;rw[d]at j;refine bg ?_;cases h with
   |none=>simp only[go_sem,bG,G_,pE,yl,bk k,i,j,g]
   |some c=>simp only[go_sem,bG,G_,pE,yl,bk k,i,j,g]
  ·rw[if_neg d];have l:neB (dK x (f x)) x=I:=by simp[neB,d]
   rw[l]at g;refine (bY (s':=G_ (Z (.bool J)) s 4 t k (dK x (f x))) ?_).trans (p _ (Z (.bool J)) (by have:=(yN x (f x)).2 d;omega) (by rw[n];exact e));cases h with
   |none=>simp only[go_sem,bG,G_,pE,yl,bk k,i,j,g]
   |some c=>simp only[go_sem,bG,G_,pE,yl,bk k,i,j,g]
theorem Vr{t:z}{x:M Bool}(c:x.length=s.size+1) :
  cm (lB G pE) (0,[.str s,E 5,.str t,cF [k],bO x])=Z (0,[.str s,.bool I,E 5,.str t,cF [k],bO (dK x (f x))]):=by
 have d:=ih x c;rw[bk]at d;simp only[au,av]at d;have i:=af4 (a:=x) (b:=f x) (by rw[c];omega) (by rw[hf x c,c]);have h:=j8 x (f x);have e:=I4 (s:=.str s) (op:=E 5) (tx:=.str t) (ks:=cF [k]) (o:=x) (x:=dK x (f x)) (by rw[c];omega) h;refine bg ?_;cases g:neB (dK x (f x)) x<;>rw[g]at e<;>simp only[go_sem,bG,pE,yl,bk k,d,i,e]
end
theorem yI{a β:Type}(g:β->a->β)(b:β)(l:M a)(i:Nat)(x:a)(h:nth l i=Z x):(l.take (i+1)).foldl g b=g ((l.take i).foldl g b) x:=by
 rw[bZ l i x h,List.foldl_append];rfl
theorem ND{s:z}{f:dx->M Bool->M Bool}(a:∀(k:dx) (x:M Bool),x.length=s.size+1->(f k x).length=s.size+1):∀(l:M dx) (b:M Bool),b.length=s.size+1->(l.foldl (λo k=>f k o) b).length=s.size+1
 |[],_,h=>h
 |k::l,b,h=>ND a l _ (a k b h)
theorem BF{s:z}{g:dx->M Bool}:∀(l:M dx) (b:M Bool),b.length=s.size+1->(l.foldl (λo k=>dK o (g k)) b).length=s.size+1
 |[],_,h=>h
 |k::l,b,h=>BF l _ (by rw[j8];exact h)
theorem acg{a:Type}{l:M a}(h:l.length≠1):¬(l.length:Int)=1:=by omega
theorem af5{s:z}(H:s.size<=mg)(n:Nat):∀(p:dx) (a:M Bool),aw p < n->yY 64 p=I->a.length=s.size+1->G 234 (i_ p++[.str s,bO a])=Z (0,[bO (jb s n p a)]):=by
 induction n with
 |zero=>intro p a h;omega
 |succ n V=>
  intro p a hz S A;have c:=tC (s:=s) n;have y:∀k∈p.aa,∀x:M Bool,x.length=s.size+1->G 234 (i_ k++[.str s,bO x])=Z (0,[bO (jb s n k x)]):=λk y x F=>V k x (by have:=dx.Kx y;omega) (Ee S y) F;have q:=HT H;have r:=zO (n:=s.size+1) (by simp only[mg]at H;omega);have Y:=Ef S;have L:=Xc (l:=bn (s.size+1) J) (m:=a) (by simpa using A);have W:=acv S;refine ct t234 (by rw[bk];rfl) ?_;simp only[jb];unfold Nl;by_cases R:p.op=1
  ·have d:=Vq (s:=s) (t:=p.text) (a:=a) (op:=E 1) (ks:=cF p.aa) H (by simp only[mg];omega) A;rw[if_pos R];simp only[go_sem,q,r,t234,bk p,R,d]
  rw[if_neg R];by_cases Q:p.op=2
  ·rw[if_pos Q];have d:=cN (b:=lB G KV) p.aa (λi (x:M Bool)=>(0,[.str s,E (i:Int),E 2,.str p.text,cF p.aa,bO x])) (λi=>(p.aa.take i).foldl (λo k=>jb s n k o) a) (0,[.str s,E p.aa.length,.bool J,E 2,.str p.text,cF p.aa,bO (p.aa.foldl (λo k=>jb s n k o) a)]) (by
    intro i k e;have K:=bp e;have w:=wj (i:=i) (n:=p.aa.length) K (by simp only[mg];omega);have C:=y k (bc e) _ (ND (f:=jb s n) c (p.aa.take i) a A);rw[bk]at C;simp only[au,av]at C;rw[yI _ _ _ _ _ e];simp only[go_sem,bG,KV,K,Nh e,sb];simp only[go_sem,bk k,C,w]) (by
    rw[aR];simp only[go_sem,bG,KV,aC]) p.aa.length 0 (by omega)
   rw[n0,aV,zt]at d;simp only[go_sem,q,r,L,t234,bk p,Q,d]
  rw[if_neg Q];by_cases P:p.op=3
  ·rw[if_pos P];have d:=cN (b:=lB G KW) p.aa (λi (x:M Bool)=>(0,[.str s,bO a,E (i:Int),E 3,.str p.text,cF p.aa,bO x])) (λi=>(p.aa.take i).foldl (λo k=>dK o (jb s n k a)) (bn (s.size+1) J)) (0,[.str s,bO a,E p.aa.length,.bool J,E 3,.str p.text,cF p.aa,bO (p.aa.foldl (λo k=>dK o (jb s n k a)) (bn (s.size+1) J))]) (by
    intro i k e;have K:=bp e;have w:=wj (i:=i) (n:=p.aa.length) K (by simp only[mg];omega);have C:=y k (bc e) a A;have U:=BF (s:=s) (g:=λk=>jb s n k a) (p.aa.take i) (bn (s.size+1) J) (by simp);have X:=af4 (a:=(p.aa.take i).foldl (λo k=>dK o (jb s n k a)) (bn (s.size+1) J)) (b:=jb s n k a) (by rw[U];omega) (by rw[c k a A,U]);rw[bk]at C;simp only[au,av]at C;rw[yI _ _ _ _ _ e];simp only[go_sem,bG,KW,K,Nh e,sb];simp only[go_sem,bk k,C,X,w]) (by
    rw[aR];simp only[go_sem,bG,KW,aC]) p.aa.length 0 (by omega)
   rw[n0,aV,zt]at d;simp only[go_sem,q,r,t234,bk p,P,d]
  rw[if_neg P];by_cases D:p.op=4
  ·rw[if_pos D];have j:¬(4:Int)=5:=by decide
   by_cases B:p.aa.length=1
   ·obtain⟨k,v⟩:=dP.1 B;have N:=Vs (t:=p.text) H (c k) (λx F=>y k (by rw[v];simp) x F) (s.size+2) a O (by have:=LP a;omega) A;simp only[G_]at N;rw[v,LN];simp only[go_sem,q,r,L,t234,bk p,D,j,v,N]
   ·rw[LO B];have T:=acg B;have d:cm (lB G pE) (0,[.str s,E 4,.str p.text,cF p.aa,bO a])=Z (1,[.str s,.bool J,E 4,.str p.text,cF p.aa,bO a]):=by
     refine bg ?_;simp only[go_sem,bG,pE,T]
    simp only[go_sem,q,r,L,t234,bk p,D,j,d]
  rw[if_neg D];by_cases j:p.op=5
  ·rw[if_pos j];by_cases B:p.aa.length=1
   ·obtain⟨k,v⟩:=dP.1 B;have N:=Vr (t:=p.text) H (c k) (λx F=>y k (by rw[v];simp) x F) A;rw[v,LN];simp only[go_sem,q,r,L,t234,bk p,j,v,N]
   ·rw[LO B];have T:=acg B;have d:cm (lB G pE) (0,[.str s,E 5,.str p.text,cF p.aa,bO a])=Z (1,[.str s,.bool J,E 5,.str p.text,cF p.aa,bO a]):=by
     refine bg ?_;simp only[go_sem,bG,pE,T]
    simp only[go_sem,q,r,L,t234,bk p,j,d]
  rw[if_neg j];simp only[go_sem,q,r,t234,bk p,R,Q,P,D,j]
theorem aoa{s:z}{p:dx}(d:s.size<=mg)(m:yY 64 p=I):G 235 (i_ p++[.str s])=Z (0,[.bool (QV p s)]):=by
 have k:=HT d;have o:=zO (n:=s.size+1) (by simp only[mg]at d;omega);have e:=af5 d (aw p+1) p (I::bn s.size J) (aP _) m (by simp);have g:=tC (s:=s) (aw p+1) p (I::bn s.size J) (by simp);rw[bk]at e;simp only[au,av]at e;have j:=ui (l:=bn (s.size+1) J) (i:=0) (by simp);have f:=Ev (l:=bn (s.size+1) J) (i:=0) (c:=I) (by simp);have v:(bn (s.size+1) J).set 0 I=I::bn s.size J:=by rw[gE];rfl
 rw[v]at f;rw[n0]at j f;have t:=ui (l:=jb s (aw p+1) p (I::bn s.size J)) (i:=s.size) (by rw[g];omega);obtain⟨b,h⟩:∃b,nth (jb s (aw p+1) p (I::bn s.size J)) s.size=Z b:=⟨_,cI (by rw[g];omega)⟩
 have r:=Eu h;refine ct t235 (by rw[bk];rfl) ?_;have q:QV p s=b:=by rw[QV,h];rfl
 rw[q];generalize jb s (aw p+1) p (I::bn s.size J)=a at *;simp only[go_sem,t235,bk p,k,o,j,f,e,t,r]
end
section
theorem ZC(b:Int):pCh b=(fO 97 122 b ||(fO 48 57 b ||decide (b=45))):=(rfl)
theorem ac0{s:z}{i:Nat}(h:i < s.size):aZ (.VZ I) [.str s,E (i:Int),E ((i+1:Nat):Int)]=Z (.str (GI (eB s i))):=by
 have e:dI (E (i:Int))=Z i:=by simp[dI]
 have d:dI (E ((i+1:Nat):Int))=Z (i+1):=by simp only[dI];rw[if_pos (by omega)];congr 1
 simp only[aZ,e,d];rw[if_pos ⟨by omega,by omega⟩]
 congr 2
 have a:(eB s i).toNat=(s[i]?.getD 0).toNat:=by unfold eB;simp
 have f:dz (eB s i).toNat=s[i]:=by
  rw[a,getElem?_pos s i h,jo];simp
 apply tq
 have c:(GI (eB s i)).data=#[s[i]]:=by simp only[GI,bA,f]
 rw[c,ByteArray.data_extract]
 apply Array.ext
 ·simp;omega
 ·intro j g b;have:j=0:=by simpa using b
  subst this;simp
  rfl
theorem alG(k:Nat)(h:k<=mg):IntKind.i64.wrap (((k+1:Nat):Int) - 1)=(k:Int):=by rw[wrap_i64 (by simp only[mg]at h;omega)];omega
def Eo(f:Nat)(s:z)(i c n:Nat)(a:Bool)(r:PR):Prop:=∃j p k b,j < n/\G f [.str s,.int .i64 (i:Int),.bool a]=Z (j,i_ p++[.str s,.int .i64 (k:Int),.bool b])/\PA s i c r p k b
section
variable {s:z} {alt:Nat->PR}
theorem MB(a:Int)(t:z):aZ .pl [E a,.str t]=Z (.bool J):=(rfl)
theorem vw(a:Int)(t:z)(l:M dx):aZ .Ww [E a,.str t,cF l]=Z (.bool J):=(rfl)
theorem al4{i d c e k:Nat}{r:PR}{p:dx}{b:Bool}(h:PA s d e r p k b)(j:i<=d)(l:i+c<=d+e):PA s i c r p k b:=by
 obtain⟨g,m,f,a⟩:=h;refine⟨g,by omega,f,?_⟩;cases r with
 |none=>exact a
 |some q=>exact⟨a.1,a.2.1,by have:=a.2.2;omega⟩
theorem an6(l:s.size<=mg){i:Nat}(m:i < s.size)(K:∀j,i < j->j<=s.size->Eo 223 s j 0 2 J (alt j)):Eo 222 s i 1 3 J (yt alt s i):=by
 have H:=wj m l;unfold yt;cases t:ir s i 40 with
 |true=>
  have d:=s_ l t;obtain⟨j,p,k,b,D,e,C⟩:=K (i+1) (by omega) (by omega);obtain⟨h,Q,v,g⟩:=C;simp only[bk,au,av]at e;rw[if_pos rfl];cases b with
  |true=>
   have a:=λc=>LR (s:=s) (i:=(k:Int)) (c:=c);cases w:alt (i+1) with
   |some q=>rw[w]at g;cases g.1
   |none=>
    match j,D with
    |0,_=>exact⟨1,p,k,I,by decide,ct t222 rfl (by simp only[go_sem,t222,d,a,e,bk]),h,by omega,v,rfl⟩
    |1,_=>exact⟨2,p,k,I,by decide,ct t222 rfl (by simp only[go_sem,t222,d,a,e,bk]),h,by omega,v,rfl⟩
  |false=>
   cases w:alt (i+1) with
   |none=>rw[w]at g;cases g
   |some q=>
    rw[w]at g;obtain⟨_,rfl,P⟩:=g;dsimp only;cases f:ir s k 41 with
    |true=>
     have a:=s_ l f;have R:=nU f
     match j,D with
     |0,_=>exact⟨1,p,k+1,J,by decide,ct t222 rfl (by simp only[go_sem,t222,d,a,e,bk]),h,by omega,by omega,rfl,rfl,by omega⟩
     |1,_=>exact⟨2,p,k+1,J,by decide,ct t222 rfl (by simp only[go_sem,t222,d,a,e,bk]),h,by omega,by omega,rfl,rfl,by omega⟩
    |false=>
     have a:=s6 f
     match j,D with
     |0,_=>exact⟨1,p,k,I,by decide,ct t222 rfl (by simp only[go_sem,t222,d,a,e,bk]),h,by omega,v,rfl⟩
     |1,_=>exact⟨2,p,k,I,by decide,ct t222 rfl (by simp only[go_sem,t222,d,a,e,bk]),h,by omega,v,rfl⟩
 |false=>
  have d:=s6 t;rw[if_neg dq];cases o:ir s i 91 with
  |true=>
   have a:=s_ l o;obtain⟨p,k,b,e,C⟩:=an4 (i:=i+1) l (by omega);simp only[bk,au,av]at e;rw[if_pos rfl];exact⟨0,p,k,b,by decide,ct t222 rfl (by simp only[go_sem,t222,d,a,e,bk]),al4 C (by omega) (by omega)⟩
  |false=>
   have a:=s6 o;rw[if_neg dq];cases r:ir s i 46 with
   |true=>
    have B:=s_ l r;have A:=an5;rw[if_pos rfl];exact⟨0,⟨1,Ut,[]⟩,i+1,J,by decide,ct t222 rfl (by simp only[go_sem,t222,d,a,B,A,bk];rfl),kW _ _ (Bl _),by omega,by omega,rfl,rfl,by omega⟩
   |false=>
    have B:=s6 r;have A:=fH s i m;have G:=akS (ue s i);have F:=akT (ue s i);have N:=ac0 m;have L:=alG i (by omega);rw[if_neg dq];cases n:pCh (eB s i) with
    |true=>
     simp only[m,decide_true,jm,if_true];refine⟨0,⟨1,GI (eB s i),[]⟩,i+1,J,by decide,ct t222 rfl ?_,kW _ _ (by rw[GI,rN];simp),by omega,by omega,rfl,rfl,by omega⟩;rw[ZC]at n;generalize fO 97 122 (eB s i)=x at *;generalize fO 48 57 (eB s i)=y at *;cases x<;>cases y<;>(try simp only[gA]at n)<;>simp only[go_sem,t222,m,n,d,a,B,A,G,F,N,L,H,bk]
     all_goals rfl
    |false=>
     simp only[kH,aF,if_false];refine⟨0,⟨0,eT,[]⟩,i,I,by decide,ct t222 rfl ?_,kW _ _ CQ,by omega,by omega,rfl⟩;rw[ZC]at n;generalize fO 97 122 (eB s i)=x at *;generalize fO 48 57 (eB s i)=y at *;cases x<;>cases y<;>simp only[mQ,ll,gA,Bool.true_eq_false]at n
     simp only[go_sem,t222,m,n,d,a,B,A,G,F,bk];rfl
end
end
end Go.Proofs.YtnnjajingjfjiaaGreatDoor
