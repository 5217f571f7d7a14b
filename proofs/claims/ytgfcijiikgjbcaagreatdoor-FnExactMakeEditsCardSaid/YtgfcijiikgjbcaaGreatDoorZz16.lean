/- Part of the proof: a machine over plain data, its proof, the functions of the program run on symbols, what they answer. Condition: none. -/
import Derived.Test.YtgfcijiikgjbcaaGreatDoorZz14
set_option linter.unusedVariables false
set_option linter.unusedSimpArgs false
open Bool renaming and_eq_true->ai,false_eq_true->aD,not_not->aL,not_eq_true'->ck,false_and->cM,true_and->cU,false_ne_true->da,or_eq_true->df,eq_iff_iff->dC,eq_false_iff->eg,and_true->gm,not_false->gp,false_or->gG,or_assoc->iu,and_assoc->iE,and_self->jr,or_false->kg,and_false->kH,or_true->la,true_or->lg,not_true->lL,true->I,false->J
open ByteArray renaming size_append->ju,size->nQ,data_append->ox,ext->sd
open Int renaming toNat_natCast->cd,lt_irrefl->fD,neg_neg->tV
open List renaming cons_append->au,nil_append->av,length_map->aA,length_cons->aG,mem_cons->aI,append_nil->aJ,length_nil->aP,mem_append->aT,replicate->aY,map_cons->aZ,length_append->a_,sizeOf_lt_of_mem->ba,length_take->bj,take_length->bo,drop_zero->br,all_eq_true->bz,append_assoc->bB,take_append_drop->bD,take_zero->bE,drop_length->bJ,cons_ne_nil->bP,mem_cons_self->bQ,mem_cons_of_mem->bT,mem_map->bZ,map_nil->cj,map_append->cp,range->cu,nodup_cons->cx,length_eq_zero_iff->cP,all_cons->cV,mem_singleton->db,take_succ_cons->dy,length_eq_one_iff->dP,ext_getElem?->eE,map_id'->eV,drop_of_length_le->fP,isEmpty_nil->fQ,not_mem_nil->fR,isEmpty_cons->ga,replicate_succ->gK,getElem?_set->jU,any_eq_true->kI,take_of_length_le->lj,map_take->lM,any_cons->nj,length_filter_le->oW,length_set->qC,map_const'->qD,map_set->vV,foldl_nil->yk,getElem?_append->yl
open List.cons renaming sizeOf_spec->bG,injEq->bY
open Nat renaming le_refl->az,lt_irrefl->aB,le_trans->aH,lt_succ_self->aS,zero_add->bu,add_assoc->cO,add_zero->dx,lt_or_ge->dH,zero_le->nU,pow_succ->wP
open Option renaming map_eq_some_iff->aj,map_some->aQ,isSome_iff_exists->cy,getD_some->ku,isSome_some->kX,some->Z,none->O
open Option.some renaming injEq->aa,inj->iF
open SizeOf renaming sizeOf->aw
open UInt8 renaming ofNat->dD
open Decidable renaming decide->Z'
namespace Go.Proofs.YtgfcijiikgjbcaaGreatDoor
set_option maxRecDepth 100000
set_option maxHeartbeats 4000000
section
def ix(l:M z)(v:z):u Nat:=mB (λe=>Z' (v=e)) l 0
theorem uZ{a:Type}{p:a->Bool}:∀{l:M a} {k:Nat},(mB p l k).isSome=l.any p
 |[],_=>rfl
 |e::l,k=>by
  simp only[mB,nj];by_cases h:p e=I
  ·simp[h]
  ·simp[h,uZ (l:=l)]
def nE(l:M z)(v:z):Bool:=l.any λe=>Z' (v=e)
theorem VM{l:M z}{v:z}:nE l v=I↔v∈l:=by simp[nE]
theorem P4{l:M z}{v:z}:nE l v=J↔v∉l:=by rw[<- VM];simp
theorem acN(l:M z)(v:z):(ix l v).isSome=nE l v:=by rw[ix,uZ,nE]
theorem q96{l:M z}{v:z}(f:l.length<=mg):G 96 [bn l,.str v]=Z (0,[E (ko (ix l v))]):=by
 refine cN t96 rfl ?_;simp only[go_sem,t96];have d:=qh (b:=lB G Qy) l (λi=>(0,[bn l,.str v,E l.length,E (i:Int)])) (λe=>Z' (v=e)) (1,[bn l,.str v,E l.length,E l.length,.bool J]) (λi e=>(0,[E (i:Int)])) (by
  intro i e a;have c:=bw a;have k:=wj c f;simp only[go_sem,bK,Qy,c,aR,a,fo]
  repeat' (first|with_reducible rfl|((first|rw[gA]|rw[gC]|rw[gz]|rw[gB]);split<;>simp only[go_sem,c,aR,a,fo, *]))
  all_goals simp_all) (by simp only[go_sem,bK,Qy,aB])
 rw[n0]at d;rw[aA,d];unfold ix;cases g:mB (λe=>Z' (v=e)) l 0 with
 |none=>simp only[go_sem,ko]
 |some j=>
  obtain⟨e,h,m⟩:=dU g;simp only[go_sem,h,ko]
theorem adh(o:u Nat):Z' (0<=ko o)=o.isSome:=by
 cases o with
 |none=>rfl
 |some j=>simp[ko]
theorem q99{l:M z}{v:z}(a:l.length<=mg):G 99 [bn l,.str v]=Z (0,[.bool (nE l v)]):=by
 refine cN t99 rfl ?_;simp only[go_sem,t99,q96 a,adh,acN]
theorem aaB(k:Nat)(a:Bool)(es:M (M D))(n:Nat)(h:n<=es.length):aU (.cut I) [.list k a es,E 0,E (n:Int)]=Z (.list k a (es.take n)):=by
 simp[aU,dI,h]
def tc(l:M z):Bool:=allI (λi e=>!nE (l.take i) e) 0 l
theorem EJ:∀(m:M z) (l:M z) ,allI (λi e=>!nE ((m++l).take i) e) m.length l=I↔l.Nodup/\∀e∈l,e∉m
 |m,[]=>by simp[allI]
 |m,e::l=>by
  have c:=EJ (m++[e]) l;rw[bB,a_]at c;simp only[allI,ai,cx];simp only[aG,aP,List.singleton_append,bu]at c;rw[c];simp only[List.take_left',ck,P4,aT,aI,fR,or_false,not_or];refine⟨λ⟨f,d,b⟩=>⟨⟨λh=>(b e h).2 rfl,d⟩,λx a=>?_⟩,λ⟨⟨f,d⟩,b⟩=>⟨b e (.inl rfl),d,λx a=>⟨b x (.inr a),λh=>f (h▸a)⟩⟩⟩;rcases a with rfl|a
  ·exact f
  ·exact (b x a).1
theorem qd(l:M z):tc l=I↔l.Nodup:=by
 have:=EJ [] l
 simpa [tc] using this
theorem Tf{l:M z}(g:l.length<=mg):G 257 [bn l]=Z (0,[.bool (tc l)]):=by
 refine cN t257 rfl ?_;simp only[go_sem,t257];have f:=pD (b:=lB G Jd) l (λi=>(0,[bn l,E l.length,E (i:Int)])) (λi e=>!nE (l.take i) e) (1,[bn l,E l.length,E l.length,.bool J]) (0,[.bool J]) (by
  intro i e a;have c:=bw a;have j:=wj c g;have h:aU (.cut I) [bn l,E 0,E (i:Int)]=Z (bn (l.take i)):=by
   rw[aaB _ _ _ _ (by rw[aA];omega),<- lM]
  have d:=q99 (l:=l.take i) (v:=e) (by rw[bj];omega);simp only[go_sem,bK,Jd,c,aR,a,fo,h,d]
  repeat' (first|with_reducible rfl|((first|rw[gA]|rw[gC]|rw[gz]|rw[gB]);split<;>simp only[go_sem,c,aR,a,fo, *]))
  all_goals simp_all) (by simp only[go_sem,bK,Jd,aB]) l.length 0 (by omega)
 rw[n0]at f;rw[aA,f];rw[show tc l=allI (λi e=>!nE (l.take i) e) 0 (l.drop 0) from rfl];cases allI (λi e=>!nE (l.take i) e) 0 (l.drop 0)<;>simp only[go_sem]
theorem ad7{l:M z}(h:bW fo l<=mg):G 271 [bn l]=Z (0,[.bool (l.all isName)]):=by
 refine cN aiu rfl ?_;simp only[go_sem,aiu];have a:l.length<=mg:=by simp only[bW]at h;omega
 have g:=mU (b:=lB G Ji) l (λi=>(0,[bn l,E l.length,E (i:Int)])) isName (1,[bn l,E l.length,E l.length,.bool J]) (0,[.bool J]) (by
  intro i e c;have d:=bw c;have j:=wj d a;have f:=aaN (s:=e) (by have:=Rd l (bp c);omega);simp only[go_sem,bK,Ji,d,aR,c,fo,f]
  repeat' (first|with_reducible rfl|((first|rw[gA]|rw[gC]|rw[gz]|rw[gB]);split<;>simp only[go_sem,d,aR,c,fo, *]))
  all_goals simp_all) (by simp only[go_sem,bK,Ji,aB])
 rw[n0]at g;rw[aA,g];cases l.all isName<;>simp only[go_sem]
end
section
theorem PX{o f n:Type}{b:f->u (Sg f n)}(es:M o)(mk:Nat->f)(p:Nat->o->Bool)(a g:n)
  (q:∀i e,nth es i=Z e->(∀j x,j < i->nth es j=Z x->p j x=I)->b (mk i)=Z (if p i e=I then .go (mk (i+1)) else .out g))
  (t:b (mk es.length)=Z (.out a)):∀m i,i+m=es.length->(∀j x,j < i->nth es j=Z x->p j x=I)->cl b (mk i)=Z (if allI p i (es.drop i)=I then a else g)
 |0,i,h,c=>by
  obtain rfl:i=es.length:=by omega
  rw[aX t,bJ];rfl
 |m+1,i,h,r=>by
  have a1:=dz (l:=es) (i:=i) (by omega);have d:=q i _ a1 r;have v:allI p i (es.drop i)=(p i (es[i]'(by omega)) && allI p (i+1) (es.drop (i+1))):=by rw[eM es i _ a1];rfl
  rw[v];by_cases c:p i (es[i]'(by omega))=I
  ·rw[if_pos c]at d;rw[bU d,c,cU];refine PX es mk p a g q t m (i+1) (by omega) λj x w k=>?_;rcases dH j i with s|s
   ·exact r j x s k
   ·obtain rfl:j=i:=by omega
    rw[a1]at k;cases k;exact c
  ·rw[if_neg c]at d;rw[aX d,eg.2 c,cM,if_neg da]
theorem Lq{g c f:Type}{b:c->u (Sg c f)}(es:M g)(mk:Nat->c)(p:Nat->g->Bool)(a d:f)
  (k:∀i e,nth es i=Z e->(∀j x,j < i->nth es j=Z x->p j x=I)->b (mk i)=Z (if p i e=I then .go (mk (i+1)) else .out d))
  (l:b (mk es.length)=Z (.out a)):cl b (mk 0)=Z (if allI p 0 es=I then a else d):=
 PX es mk p a d k l es.length 0 (by omega) λj x h _=>by omega
def apart(l:M j6)(i:Nat)(e:j6):Bool:=match i with
 |0=>I
 |i+1=>match nth l i with
  |some p=>Z' (p.hi+1 < e.lo)
  |none=>I
def M_(l:M j6)(i:Nat)(e:j6):Bool:=Z' (e.lo<=e.hi) && (Z' (-1000000000<=e.lo) && (Z' (e.hi<=1000000000) && apart l i e))
def C4(l:M j6):Bool:=allI (M_ l) 0 l && Z' (l.length<=6)
theorem tL{l:M j6}{i:Nat}{e:j6}:M_ l i e=I↔e.lo<=e.hi/\-1000000000<=e.lo/\e.hi<=1000000000/\apart l i e=I:=by
 simp[M_]
theorem wE{l:M j6}{i:Nat}{e:j6}(h:¬(e.lo<=e.hi/\-1000000000<=e.lo/\e.hi<=1000000000)):M_ l i e=J:=by
 rw[eg];intro a;have:=tL.1 a;exact h ⟨this.1,this.2.1,this.2.2.1⟩
theorem le6(n:Nat):Z' ((n:Int)<=6)=Z' (n<=6):=by
 rw[dC];simp
 omega
theorem akM{l:M j6}(k:l.length<=mg):G 215 [gg l]=Z (0,[.bool (C4 l)]):=by
 refine cN t215 rfl ?_;simp only[go_sem,t215];have m:=Lq (b:=lB G I5) l (λi=>(0,[gg l,E (i:Int)])) (M_ l) (1,[gg l,E l.length,.bool J]) (0,[.bool J]) (by
  intro i e a t;have c:=bw a;have j:=wj c k;simp only[go_sem,bK,I5,c,aR,a,j8,aA];by_cases d:e.hi < e.lo
  ·simp only[go_sem,d,wE (l:=l) (i:=i) (e:=e) (by omega),c,aR,a,j8]
  by_cases g:e.lo < -1000000000
  ·simp only[go_sem,d,g,wE (l:=l) (i:=i) (e:=e) (by omega),c,aR,a,j8]
  by_cases h:1000000000 < e.hi
  ·simp only[go_sem,d,g,h,wE (l:=l) (i:=i) (e:=e) (by omega),c,aR,a,j8]
  cases i with
  |zero=>
   have f:M_ l 0 e=I:=tL.2 ⟨by omega,by omega,by omega,rfl⟩;simp only[go_sem,d,g,h,f,c,aR,a,j8,n0,fD];simp only[go_sem,n0]at j;rw[j]
  |succ i=>
   have a1:=dz (l:=l) (i:=i) (by omega);have s:=tL.1 (t i _ (by omega) a1);generalize l[i]'(by omega)=p at a1 s;have r:IntKind.i64.wrap (((i+1:Nat):Int) - 1)=(i:Int):=by rw[wrap_i64 (by simp only[mg]at k;omega)];omega
   have q:IntKind.i64.wrap (p.hi+1)=p.hi+1:=wrap_i64 (by omega);have o:(0:Int) < ((i+1:Nat):Int):=by omega
   by_cases n:e.lo<=p.hi+1
   ·have f:M_ l (i+1) e=J:=by
     simp only[M_,apart,a1];have:Z' (p.hi+1 < e.lo)=J:=by simp;omega
     simp[this]
    simp only[go_sem,d,g,h,n,f,c,aR,a,j8,r,q,o,a1]
   ·have f:M_ l (i+1) e=I:=tL.2 ⟨by omega,by omega,by omega,by simp only[apart,a1];simp;omega⟩;simp only[go_sem,d,g,h,n,f,c,aR,a,j8,r,q,o,a1,j]) (by simp only[go_sem,bK,I5,aB,aA])
 rw[n0]at m;rw[m];unfold C4;cases allI (M_ l) 0 l with
 |false=>simp only[go_sem]
 |true=>simp only[go_sem,aA,le6]
theorem ad8(n:Int):G 273 [E n]=Z (0,[.bool (fS (-1000000000) 1000000000 n)]):=by
 refine cN aiw rfl ?_;simp only[go_sem,aiw];unfold fS;by_cases h:-1000000000<=n
 ·simp only[go_sem,h]
 ·simp only[go_sem,h]
theorem alb{l:M j6}(g:l.length<=mg):G 274 [gg l]=Z (0,[.bool (C4 l)]):=by
 refine cN aix rfl ?_;simp only[go_sem,aix];have k:=Lq (b:=lB G Jj) l (λi=>(0,[gg l,gg l,E l.length,E (i:Int)])) (M_ l) (1,[gg l,gg l,E l.length,E l.length,.bool J]) (0,[.bool J]) (by
  intro i e j v;have m:=bw j;have f:=wj m g;simp only[go_sem,bK,Jj,m,aR,j,j8,aA,aG,aP,az,ad8];by_cases o:e.hi < e.lo
  ·simp only[go_sem,o,wE (l:=l) (i:=i) (e:=e) (by omega)]
  simp only[go_sem,o,ad8];cases d:fS (-1000000000) 1000000000 e.lo with
  |false=>
   have:¬(-1000000000<=e.lo/\e.lo<=1000000000):=λh=>by rw[(gZ _ _ _).2 h]at d;cases d
   simp only[go_sem,d,wE (l:=l) (i:=i) (e:=e) (by omega)]
  |true=>
   have x:=(gZ _ _ _).1 d;simp only[go_sem,d,ad8];cases c:fS (-1000000000) 1000000000 e.hi with
   |false=>
    have:¬(-1000000000<=e.hi/\e.hi<=1000000000):=λh=>by rw[(gZ _ _ _).2 h]at c;cases c
    simp only[go_sem,c,wE (l:=l) (i:=i) (e:=e) (by omega)]
   |true=>
    have w:=(gZ _ _ _).1 c;simp only[go_sem,c];cases i with
    |zero=>
     have a:M_ l 0 e=I:=tL.2 ⟨by omega,by omega,by omega,rfl⟩;simp only[go_sem,a,n0,fD];simp only[go_sem,n0]at f;rw[f]
    |succ i=>
     have a1:=dz (l:=l) (i:=i) (by omega);have t:=tL.1 (v i _ (by omega) a1);generalize l[i]'(by omega)=p at a1 t;have s:IntKind.i64.wrap (((i+1:Nat):Int) - 1)=(i:Int):=by rw[wrap_i64 (by simp only[mg]at g;omega)];omega
     have r:IntKind.i64.wrap (p.hi+2)=p.hi+2:=wrap_i64 (by omega);have q:(0:Int) < ((i+1:Nat):Int):=by omega
     by_cases n:e.lo < p.hi+2
     ·have a:M_ l (i+1) e=J:=by
       simp only[M_,apart,a1];have:Z' (p.hi+1 < e.lo)=J:=by simp;omega
       simp[this]
      simp only[go_sem,n,a,aR,j8,s,r,q,a1]
     ·have a:M_ l (i+1) e=I:=tL.2 ⟨by omega,by omega,by omega,by simp only[apart,a1];simp;omega⟩;simp only[go_sem,n,a,aR,j8,s,r,q,a1,f]) (by simp only[go_sem,bK,Jj,aB])
 rw[n0]at k;rw[aA,k];unfold C4;cases allI (M_ l) 0 l with
 |false=>simp only[go_sem]
 |true=>simp only[go_sem,aA,le6]
def Qh(l:M j6)(n:Int):Bool:=l.any (λe=>fS e.lo e.hi n) ||l.isEmpty
theorem fq{a:Type}(l:M a):Z' ((l.length:Int)=0)=l.isEmpty:=by cases l<;>simp;omega
theorem PY{f a d:Type}{b:a->u (Sg a d)}(es:M f)(mk:Nat->a)(p:f->Bool)(none_ c:d)
  (g:∀i e,nth es i=Z e->b (mk i)=Z (if p e=I then .out c else .go (mk (i+1))))
  (m:b (mk es.length)=Z (.out none_)):cl b (mk 0)=Z (if es.any p=I then c else none_):=by
 rw[qh es mk p none_ (λ_ _=>c) g m,<- uZ (k:=0)];cases h:mB p es 0 with
 |none=>rfl
 |some j=>
  obtain⟨e,l,n⟩:=dU h;simp[l]
theorem akS{l:M j6}{n:Int}(g:l.length<=mg):G 232 [gg l,E n]=Z (0,[.bool (Qh l n)]):=by
 refine cN t232 rfl ?_;simp only[go_sem,t232];have c:=PY (b:=lB G I6) l (λi=>(0,[gg l,E n,E (i:Int)])) (λe=>fS e.lo e.hi n) (1,[gg l,E n,E l.length,.bool J]) (0,[.bool I]) (by
  intro i e a;have d:=bw a;have f:=wj d g;simp only[go_sem,bK,I6,d,aR,a,j8,aA,mj];cases h:fS e.lo e.hi n<;>simp only[go_sem,h,f]) (by simp only[go_sem,bK,I6,aB,aA])
 rw[n0]at c;rw[c];unfold Qh;cases l.any (λe=>fS e.lo e.hi n) with
 |true=>simp only[go_sem]
 |false=>simp only[go_sem,aA,fq]
theorem alg{l:M j6}{n:Int}(h:l.length<=mg):G 288 [gg l,E n]=Z (0,[.bool (Qh l n)]):=by
 refine cN aiC rfl ?_;simp only[go_sem,aiC];have d:=PY (b:=lB G Jl) l (λi=>(0,[gg l,E n,gg l,E l.length,E (i:Int)])) (λe=>fS e.lo e.hi n) (1,[gg l,E n,gg l,E l.length,E l.length,.bool J]) (0,[.bool I]) (by
  intro i e c;have f:=bw c;have a:=wj f h;simp only[go_sem,bK,Jl,f,aR,c,j8,aG,aP,az];unfold fS;by_cases g:e.lo<=n
  ·by_cases j:n<=e.hi<;>simp only[go_sem,g,j,a]
  ·simp only[go_sem,g,a]) (by simp only[go_sem,bK,Jl,aB])
 rw[n0]at d;rw[aA,d];unfold Qh;cases l.any (λe=>fS e.lo e.hi n) with
 |true=>simp only[go_sem]
 |false=>simp only[go_sem,aA,fq]
end
section
def dg(s:z):Nat->Nat->Int->u Int
 |_,0,n=>Z n
 |i,m+1,n=>if fS 48 57 (eA s i)=I then (if 1000000000 < 10 * n+(eA s i - 48) then O else dg s (i+1) m (10 * n+(eA s i - 48))) else O
def dgR(s:z):u Int->Nat×M D
 |some r=>(1,[.str s,.int .i64 r,.int .i64 s.size,.bool J])
 |none=>(0,[.int .i64 0,.bool J])
theorem PE{s:z}(c:s.size<=mg):∀(m i:Nat) (n:Int),i+m=s.size->0<=n->n<=1000000000->
  cl (lB G AS) (0,[.str s,E n,E (i:Int)])=Z (dgR s (dg s i m n))
 |0,i,n,h,l,k=>by
  obtain rfl:i=s.size:=by omega
  refine aX ?_;simp only[go_sem,bK,AS,aB,dg,dgR]
 |m+1,i,n,h,l,k=>by
  have a:i < s.size:=by omega
  have j:=wj a c;have o:=sU s i;cases hd:fS 48 57 (eA s i) with
  |false=>
   refine (aX (r:=(0,[E 0,.bool J])) ?_).trans (by simp[dg,hd,dgR]);simp only[go_sem,bK,AS,a,fF,mj,hd]
  |true=>
   have p:=(gZ _ _ _).1 hd;have g:IntKind.i64.wrap (10 * n)=10 * n:=wrap_i64 (by omega);have f:IntKind.u8.wrap (eA s i - 48)=eA s i - 48:=wrap_u8 (by omega);have e:IntKind.i64.wrap (eA s i - 48)=eA s i - 48:=wrap_i64 (by omega);have d:IntKind.i64.wrap (10 * n+(eA s i - 48))=10 * n+(eA s i - 48):=wrap_i64 (by omega);by_cases b:1000000000 < 10 * n+(eA s i - 48)
   ·refine (aX (r:=(0,[E 0,.bool J])) ?_).trans (by simp[dg,hd,dgR,b]);simp only[go_sem,bK,AS,a,fF,mj,hd,g,f,e,d,b]
   ·rw[show dg s i (m+1) n=dg s (i+1) m (10 * n+(eA s i - 48)) by simp[dg,hd,b],<- PE c m (i+1) _ (by omega) (by omega) (by omega)];refine bU ?_;simp only[go_sem,bK,AS,a,fF,mj,hd,g,f,e,d,b,j]
def Gl(s:z):u Int:=if s.size=0 then O else dg s 0 s.size 0
def nJ:u Int->M D
 |some n=>[.int .i64 n,.bool I]
 |none=>[.int .i64 0,.bool J]
theorem gt0(n:Nat):Z' (0 < (n:Int))=!Z' (n=0):=by
 rw[dC];simp;omega
theorem adU{s:z}(c:s.size<=mg):G 229 [.str s]=Z (0,nJ (Gl s)):=by
 refine cN t229 rfl ?_;simp only[go_sem,t229];have b:=PE c s.size 0 0 (by omega) (by omega) (by omega);rw[n0]at b;rw[b];unfold Gl;by_cases a:s.size=0
 ·rw[if_pos a,a];simp only[go_sem,dg,dgR,nJ,a,n0,fD]
 ·rw[if_neg a];cases dg s 0 s.size 0 with
  |none=>simp only[go_sem,dgR,nJ]
  |some n=>
   have:(0:Int) < (s.size:Int):=by omega
   simp only[go_sem,dgR,nJ,this]
theorem Dh{s:z}:∀(m i:Nat) (n r:Int),0<=n->n<=1000000000->dg s i m n=Z r->0<=r/\r<=1000000000
 |0,i,n,r,b,a,h=>by cases h;exact⟨b,a⟩
 |m+1,i,n,r,b,a,h=>by
  simp only[dg]at h
  split at h
  ·rename_i hd;have c:=(gZ _ _ _).1 hd
   split at h
   ·cases h
   ·exact Dh m (i+1) _ r (by omega) (by omega) h
  ·cases h
theorem HP{s:z}{r:Int}(h:Gl s=Z r):0<=r/\r<=1000000000:=by
 unfold Gl at h
 split at h
 ·cases h
 ·exact Dh _ _ _ _ (by omega) (by omega) h
def OH(s:z):Bool:=!Z' (s.size=0) && (Z' (eA s 0=45) ||decide (eA s 0=43))
def tl(s:z):z:=s.extract 1 s.size
theorem J6(s:z):(tl s).size=s.size - 1:=by simp[tl]
def Bd(s:z):u Int:=(Gl (if OH s=I then tl s else s)).map λn=>if eA s 0=45 then -n else n
theorem mi(t:z)(h:1<=t.size):aU (.Ti J) [.str t,E 1]=Z (.str (tl t)):=by
 simp[aU,dI,tl,h]
theorem hO{t:z}(h:0 < t.size):aU .Xp [.str t,E 0]=Z (.int .u8 (eA t 0)):=fF t 0 h
theorem HQ{s:z}{r:Int}(h:Bd s=Z r):-1000000000<=r/\r<=1000000000:=by
 obtain⟨n,a,rfl⟩:=aj.1 h;have:=HP a
 split<;>omega
theorem aja{s:z}{r:Int}(h:Gl s=Z r):0 < s.size:=by
 unfold Gl at h
 split at h
 ·cases h
 ·omega
theorem akR{s:z}(h:s.size<=mg):G 230 [.str s]=Z (0,nJ (Bd s)):=by
 refine cN t230 rfl ?_;simp only[go_sem,t230];have g:=adU (s:=tl s) (by rw[J6];omega);by_cases e:s.size=0
 ·have a:Bd s=O:=by simp[Bd,OH,e,Gl]
  have hd:Gl s=O:=by simp[Gl,e]
  rw[a];simp only[go_sem,gt0,e,adU h,hd,nJ]
 ·have b:0 < s.size:=by omega
  simp only[go_sem,gt0,e,hO b];by_cases c:eA s 0=45
  ·have f:OH s=I:=by simp[OH,e,c]
   simp only[go_sem,c,mi s b,g,Bd,f];cases a:Gl (tl s) with
   |none=>simp only[go_sem,nJ,a]
   |some n=>
    have:=HP a;have i:IntKind.i64.wrap (-n)=-n:=wrap_i64 (by omega);simp only[go_sem,nJ,a,hO b,c,i]
  ·by_cases d:eA s 0=43
   ·have f:OH s=I:=by simp[OH,e,d]
    simp only[go_sem,c,d,mi s b,g,Bd,f,hO b];cases a:Gl (tl s) with
    |none=>simp only[go_sem,nJ,a]
    |some n=>simp only[go_sem,nJ,a,hO b,c,d]
   ·have f:OH s=J:=by simp[OH,c,d]
    simp only[go_sem,c,d,adU h,Bd,f,hO b];cases a:Gl s with
    |none=>simp only[go_sem,nJ,a]
    |some n=>simp only[go_sem,nJ,a,hO b,c,d]
def di(s:z):Nat->Nat->Int->u Int
 |_,0,n=>Z n
 |i,m+1,n=>if fS 48 57 (eA s i)=I then di s (i+1) m (if n<=1000000000 then n * 10+(eA s i - 48) else n) else O
theorem UQ(s:z):∀(m i:Nat) (n r:Int),1000000000 < n->di s i m n=Z r->r=n
 |0,i,n,r,h,hd=>by cases hd;rfl
 |m+1,i,n,r,h,hd=>by
  simp only[di]at hd
  split at hd
  ·rw[if_neg (by omega)]at hd;exact UQ s m (i+1) n r h hd
  ·cases hd
theorem abv(s:z):∀(m i:Nat) (n:Int),0<=n->n<=1000000000->(match di s i m n with|some r=>if 1000000000 < r then O else Z r|none=>O)=dg s i m n
 |0,i,n,d,b=>by
  simp only[di,dg];rw[if_neg (by omega)]
 |m+1,i,n,d,b=>by
  simp only[di,dg];cases hd:fS 48 57 (eA s i) with
  |false=>simp
  |true=>
   have e:=(gZ _ _ _).1 hd;simp only[if_true];rw[if_pos b,show n * 10+(eA s i - 48)=10 * n+(eA s i - 48) by omega];by_cases a:1000000000 < 10 * n+(eA s i - 48)
   ·rw[if_pos a];cases c:di s (i+1) m (10 * n+(eA s i - 48)) with
    |none=>rfl
    |some r=>
     rw[UQ s m (i+1) _ r a c];simp only[if_pos a]
   ·rw[if_neg a];exact abv s m (i+1) _ (by omega) (by omega)
def UP(s:z)(b:Bool):u Int->Nat×M D
 |some r=>(1,[.str s,.bool b,.int .i64 r,.int .i64 s.size,.bool J])
 |none=>(0,[.int .i64 0,.bool J])
theorem yH{s:z}(e:s.size<=mg)(b:Bool):∀(m i:Nat) (n:Int),i+m=s.size->0<=n->n<=10000000009->
  cl (lB G xO) (0,[.str s,.bool b,E n,E (i:Int)])=Z (UP s b (di s i m n))
 |0,i,n,h,k,j=>by
  obtain rfl:i=s.size:=by omega
  refine aX ?_;simp only[go_sem,bK,xO,aB,di,UP]
 |m+1,i,n,h,k,j=>by
  have c:i < s.size:=by omega
  have g:=wj c e;have t:=sU s i;by_cases d:eA s i < 48
  ·have hd:fS 48 57 (eA s i)=J:=by simp[fS];omega
   refine (aX (r:=(0,[E 0,.bool J])) ?_).trans (by simp[di,hd,UP]);simp only[go_sem,bK,xO,c,fF,d]
  ·by_cases f:57 < eA s i
   ·have hd:fS 48 57 (eA s i)=J:=by simp[fS];omega
    refine (aX (r:=(0,[E 0,.bool J])) ?_).trans (by simp[di,hd,UP]);simp only[go_sem,bK,xO,c,fF,d,f]
   ·have hd:fS 48 57 (eA s i)=I:=by simp[fS];omega
    have q:n<=1000000000->IntKind.i64.wrap (n * 10)=n * 10:=λh=>wrap_i64 (by omega);have p:IntKind.u8.wrap (eA s i - 48)=eA s i - 48:=wrap_u8 (by omega);have o:IntKind.i64.wrap (eA s i - 48)=eA s i - 48:=wrap_i64 (by omega);have l:n<=1000000000->IntKind.i64.wrap (n * 10+(eA s i - 48))=n * 10+(eA s i - 48):=λh=>wrap_i64 (by omega);by_cases a:n<=1000000000
    ·rw[show di s i (m+1) n=di s (i+1) m (n * 10+(eA s i - 48)) by simp[di,hd,a],<- yH e b m (i+1) _ (by omega) (by omega) (by omega)];refine bU ?_;simp only[go_sem,bK,xO,c,fF,d,f,q a,p,o,l a,a,g]
    ·rw[show di s i (m+1) n=di s (i+1) m n by simp[di,hd,a],<- yH e b m (i+1) _ (by omega) (by omega) (by omega)];refine bU ?_;simp only[go_sem,bK,xO,c,fF,d,f,a,g]
theorem bc(s:z):Z' (s=⟨#[]⟩)=Z' (s.size=0):=by
 rw[dC];simp only[decide_eq_true_eq];refine⟨λh=>by rw[h];rfl,λh=>?_⟩;cases s with
 |mk a=>simp[nQ]at h;rw[h]
theorem cz:(⟨[].toArray⟩:z)=⟨#[]⟩:=(rfl)
attribute [go_sem] cz bc
theorem alf{s:z}(m:s.size<=mg):G 287 [.str s]=Z (0,nJ (Bd s)):=by
 refine cN aiB rfl ?_;simp only[go_sem,aiB];have fin:∀(t:z) (b:Bool),t.size<=mg->(match di t 0 t.size 0 with|some r=>if 1000000000 < r then O else Z r|none=>O)=dg t 0 t.size 0:=λt b j=>abv t t.size 0 0 (by omega) (by omega);by_cases h:s.size=0
 ·have e:Bd s=O:=by simp[Bd,OH,h,Gl]
  rw[e];simp only[go_sem,h,nJ]
 ·have a:0 < s.size:=by omega
  simp only[go_sem,h,hO a];by_cases c:eA s 0=45
  ·have d:OH s=I:=by simp[OH,h,c]
   have l:(tl s).size<=mg:=by rw[J6];omega
   have k:=fin (tl s) I l;have g:=yH l I (tl s).size 0 0 (by omega) (by omega) (by omega);rw[n0]at g;simp only[go_sem,c,mi s a,hO a,Bd,d];by_cases j:(tl s).size=0
   ·simp only[go_sem,c,mi s a,hO a,Bd,d,j,Gl,nJ]
   ·simp only[go_sem,c,mi s a,hO a,Bd,d,j,Gl,g];rw[<- k];cases e:di (tl s) 0 (tl s).size 0 with
    |none=>simp only[go_sem,c,mi s a,hO a,Bd,d,UP,nJ,e]
    |some n=>
     by_cases i:1000000000 < n
     ·simp only[go_sem,c,mi s a,hO a,Bd,d,UP,nJ,e,i]
     ·have p:dg (tl s) 0 (tl s).size 0=Z n:=by rw[<- k,e];simp[i]
      have:=Dh _ _ _ _ (by omega) (by omega) p;have o:IntKind.i64.wrap (-n)=-n:=wrap_i64 (by omega);simp only[go_sem,c,mi s a,hO a,Bd,d,UP,nJ,e,i,o,c]
  ·by_cases f:eA s 0=43
   ·have d:OH s=I:=by simp[OH,h,f]
    have l:(tl s).size<=mg:=by rw[J6];omega
    have k:=fin (tl s) J l;have g:=yH l J (tl s).size 0 0 (by omega) (by omega) (by omega);rw[n0]at g;simp only[go_sem,c,f,mi s a,hO a,Bd,d];by_cases j:(tl s).size=0
    ·simp only[go_sem,c,f,mi s a,hO a,Bd,d,j,Gl,nJ]
    ·simp only[go_sem,c,f,mi s a,hO a,Bd,d,j,Gl,g];rw[<- k];cases e:di (tl s) 0 (tl s).size 0 with
     |none=>simp only[go_sem,c,f,mi s a,hO a,Bd,d,UP,nJ,e]
     |some n=>by_cases i:1000000000 < n<;>simp only[go_sem,c,f,mi s a,hO a,Bd,d,UP,nJ,e,i,f]
   ·have d:OH s=J:=by simp[OH,c,f]
    have k:=fin s J m;have g:=yH m J s.size 0 0 (by omega) (by omega) (by omega);rw[n0]at g;simp only[go_sem,c,f,Bd,d,h,Gl,g,hO a];rw[<- k];cases e:di s 0 s.size 0 with
    |none=>simp only[go_sem,c,f,Bd,d,h,Gl,g,hO a,UP,nJ,e]
    |some n=>by_cases i:1000000000 < n<;>simp only[go_sem,c,f,Bd,d,h,Gl,g,hO a,UP,nJ,e,i,c]
end
section
def bA(l:M UInt8):z:=⟨l.toArray⟩
theorem Um(l m:M UInt8)(s:z):bA l++(bA m++s)=bA (l++m)++s:=by
 apply sd
 simp only[bA,ox];rw[<- Array.append_assoc];simp
def xE(n:Int):z:=bA (Lib.itoa n)
def It(a:Nat):M UInt8:=if a=0 then [] else Lib.decDigits a
theorem GW{a:Nat}(h:a≠0):It a=It (a / 10)++[dD (48+a % 10)]:=by
 unfold It;rw[if_neg h];rw[Lib.decDigits];by_cases b:a < 10
 ·have:a / 10=0:=by omega
  rw[dif_pos b,if_pos this,show a % 10=a by omega];rfl
 ·have:a / 10≠0:=by omega
  rw[dif_neg b,if_neg this]
theorem wH(c:Int):aU .Nu [.list 1 I [[.int .u8 c]]]=Z (.str (bA [dD c.toNat])):=by
 simp[aU,bytesOf,bA]
theorem tO(k:IntKind)(c:Int):aU (.wB 1 I) [.int k c]=Z (.list 1 I [[.int k c]]):=by
 simp[aU,chunk,dW,D.plain]
theorem PF:∀(k a:Nat),a < 10 ^ (k+1)->(Lib.decDigits a).length<=k+1
 |0,a,h=>by rw[Lib.decDigits,dif_pos (by omega)];simp
 |k+1,a,h=>by
  rw[Lib.decDigits];split
  ·simp
  ·have:=PF k (a / 10) (by rw[wP]at h;omega);simp only[a_,aG,aP];omega
theorem qO(l:M UInt8):(bA l).size=l.length:=by simp[bA,nQ]
theorem PQ{n:Int}{h:Nat}{u:Nat}{s:z}{x:Int}{zs:M D}(m:(h=0/\zs=[])\/(h=1/\∃a,zs=[a]))(r:0 < u)(w:u<=1000000000)(t:s.size<=20)(q:x=(u:Int)\/x=-(u:Int)) :
  ∃a l,(l=((u / 10:Nat):Int)\/l=-((u / 10:Nat):Int))/\lB G o7 (h,[E n,.str s,E x]++zs)=Z (.go (1,[E n,.str (bA [dD (48+u % 10)]++s),E l,a])):=by
 have v:u % 10 < 10:=Nat.mod_lt _ (by omega);have i:IntKind.i64.wrap (48+((u % 10:Nat):Int))=((48+u % 10:Nat):Int):=by rw[wrap_i64 (by omega)];omega
 have g:IntKind.u8.wrap ((48+u % 10:Nat):Int)=((48+u % 10:Nat):Int):=wrap_u8 (by omega);have f:(((48+u % 10:Nat):Int)).toNat=48+u % 10:=cd _;have k:IntKind.i64.wrap ((u % 10:Nat):Int)=((u % 10:Nat):Int):=wrap_i64 (by omega);have j:(bA [dD (48+u % 10)]).size+s.size<=maxLen:=by rw[qO];simp only[aG,aP];exact aH (show 0+1+s.size<=21 by omega) (by decide)
 have e:(u:Int) % 10=((u % 10:Nat):Int):=rfl;have d:(u:Int) / 10=((u / 10:Nat):Int):=rfl;have p:0<=(u:Int):=by omega
 have n1:¬0<=-(u:Int):=by omega
 have n2:-(u:Int) < 0:=by omega
 rcases q with rfl|rfl
 ·have c:¬(u:Int)=0:=by omega
  have b:¬((u % 10:Nat):Int) < 0:=by omega
  refine⟨.list 1 I [[.int .u8 ((48+u % 10:Nat):Int)]],_,.inl rfl,?_⟩;rcases m with ⟨rfl,rfl⟩|⟨rfl,a,rfl⟩
  ·simp only[go_sem,bK,o7,c,p,e,d,b,i,g,f,j,tO,wH]
  ·simp only[go_sem,bK,o7,c,p,e,d,b,i,g,f,j,tO,wH]
 ·have c:¬-(u:Int)=0:=by omega
  refine⟨.list 1 I [[.int .u8 ((48+u % 10:Nat):Int)]],_,.inr rfl,?_⟩;by_cases b:-((u % 10:Nat):Int) < 0
  ·rcases m with ⟨rfl,rfl⟩|⟨rfl,a,rfl⟩
   ·simp only[go_sem,bK,o7,c,n1,n2,e,d,tV,b,i,g,f,k,j,tO,wH]
   ·simp only[go_sem,bK,o7,c,n1,n2,e,d,tV,b,i,g,f,k,j,tO,wH]
  ·have o:-((u % 10:Nat):Int)=((u % 10:Nat):Int):=by omega
   rw[o]at b;rcases m with ⟨rfl,rfl⟩|⟨rfl,a,rfl⟩
   ·simp only[go_sem,bK,o7,c,n1,n2,e,d,tV,o,b,i,g,f,k,j,tO,wH]
   ·simp only[go_sem,bK,o7,c,n1,n2,e,d,tV,o,b,i,g,f,k,j,tO,wH]
theorem PN{n:Int}:∀(k u:Nat) (s:z) (x:Int) (a:D),u < 10 ^ k->k<=10->s.size+k<=20->u<=1000000000->(x=(u:Int)\/x=-(u:Int))->
  ∃e,cl (lB G o7) (1,[E n,.str s,E x,a])=Z (1,[E n,.str (bA (It u)++s),E 0,.bool J,e])
 |k,u,s,x,a,i,p,o,j,g=>by
  by_cases c:u=0
  ·obtain rfl:x=0:=by omega
   refine⟨a,aX ?_⟩;have:bA (It u)++s=s:=by rw[c];apply sd;simp[It,bA,ox]
   rw[this];simp only[go_sem,bK,o7]
  ·cases k with
   |zero=>omega
   |succ k=>
    obtain⟨d,f,b,m⟩:=PQ (n:=n) (h:=1) (u:=u) (s:=s) (x:=x) (zs:=[a]) (.inr ⟨rfl,a,rfl⟩) (by omega) j (by omega) g;rw[wP]at i;obtain⟨z2,l⟩:=PN k (u / 10) (bA [dD (48+u % 10)]++s) f d (by omega) (by omega) (by rw[ju,qO];simp only[aG,aP];omega) (by omega) b;refine⟨z2,?_⟩;rw[GW c,<- Um,<- l];exact bU m
theorem ahP{n:Int}(q:-1000000000<=n/\n<=1000000000):G 231 [E n]=Z (0,[.str (xE n)]):=by
 refine cN t231 rfl ?_;simp only[go_sem,t231];by_cases d:n=0
 ·subst d;have a:xE 0=⟨#[48]⟩:=by
   unfold xE Lib.itoa;rw[if_neg (by omega)];show bA (Lib.decDigits 0)=_;rw[Lib.decDigits_one (by decide)];rfl
  rw[a];simp only[go_sem]
 ·simp only[go_sem,d,cz];have g:n.natAbs<=1000000000:=by omega
  obtain⟨e,f,c,k⟩:=PQ (n:=n) (h:=0) (u:=n.natAbs) (s:=⟨#[]⟩) (x:=n) (zs:=[]) (.inl ⟨rfl,rfl⟩) (by omega) g (by simp[nQ]) (by omega);have l:n.natAbs / 10 < 10 ^ 9:=by omega
  obtain⟨z2,j⟩:=PN (n:=n) 9 (n.natAbs / 10) (bA [dD (48+n.natAbs % 10)]++⟨#[]⟩) f e l (by omega) (by rw[ju,qO];simp[nQ]) (by omega) c;have i:cl (lB G o7) (0,[E n,.str ⟨#[]⟩,E n])=Z (1,[E n,.str (bA (It n.natAbs)),E 0,.bool J,z2]):=by
   have o:lB G o7 (0,[E n,.str ⟨#[]⟩,E n])=_:=k;rw[bU o,j,Um,<- GW (by omega)]
   congr 5
   apply sd
   simp[bA,ox]
  rw[i];have hd:It n.natAbs=Lib.decDigits n.natAbs:=by rw[It,if_neg (by omega)]
  rw[hd];by_cases b:n < 0
  ·have a:xE n=bA [45]++bA (Lib.decDigits n.natAbs):=by
    unfold xE Lib.itoa;rw[if_pos b]
    apply sd
    simp[bA,ox]
   have r:(Lib.decDigits n.natAbs).length<=10:=PF 9 _ (by omega);have p:(bA [45]).size+(bA (Lib.decDigits n.natAbs)).size<=maxLen:=by rw[qO,qO];simp only[aG,aP];exact aH (show 0+1+(Lib.decDigits n.natAbs).length<=11 by omega) (by decide)
   rw[a];have m:(⟨[(45:UInt8)].toArray⟩:z)=bA [45]:=rfl;simp only[go_sem,b,m,p]
  ·have a:xE n=bA (Lib.decDigits n.natAbs):=by
    unfold xE Lib.itoa;rw[if_neg b]
    congr 2
    omega
   rw[a];simp only[go_sem,b]
theorem aic(n:Int):G 9001 [E n]=Z (0,[.str (xE n)]):=
 xw (i:=9001) (sg:=⟨9001,[.val J [.d]],[([.val J [.d]],[])]⟩) (v:=([.val J [.d]],[])) (j:=0) (r:=([.val J [.d (.str (xE n))]],[])) (ws:=[E n]) rfl rfl ((WA T rfl [.val J [.d (E n)]]).trans rfl) rfl rfl
theorem ah1(n:Int):G 303 [E n]=Z (0,[.str (xE n)]):=by
 refine cN aiD rfl ?_;simp only[go_sem,aiD,aic]
end
section
theorem C1{a:Type}(p q:Nat->a->Bool):∀(i:Nat) (l:M a),allI (λi e=>p i e && q i e) i l=(allI p i l && allI q i l)
 |_,[]=>rfl
 |i,e::l=>by
  simp only[allI,C1 p q (i+1) l];cases p i e<;>cases q i e<;>cases allI p (i+1) l<;>simp
theorem KB{a β:Type}(p:Nat->β->Bool)(f:a->β):∀(i:Nat) (l:M a),allI p i (l.map f)=allI (λi e=>p i (f e)) i l
 |_,[]=>rfl
 |i,e::l=>by simp only[aZ,allI,KB p f (i+1) l]
def atB{a:Type}(q:a->Bool)(t:M a)(j:Nat):Bool:=match nth t j with
 |some x=>q x
 |none=>I
theorem yx{a:Type}(q:a->Bool)(t:M a):∀(m i:Nat),i+m<=t.length->rB (atB q t) i m=((t.drop i).take m).all q
 |0,i,h=>by simp[rB]
 |m+1,i,h=>by
  have a1:=dz (l:=t) (i:=i) (by omega);rw[eM t i _ a1,dy,cV,<- yx q t m (i+1) (by omega)];simp only[rB,atB,a1]
def rL(t:mA):Bool:=isName t.ak && jh t.bg
def wF(l:M mA):Bool:=tc (l.map mA.ak) && l.all rL
theorem VN(l:M mA)(v:z):nE (l.map mA.ak) v=!(l.all λx=>!Z' (x.ak=v)):=by
 induction l with
 |nil=>rfl
 |cons x l c=>
  simp only[aZ,nE,nj,cV]at c ⊢;rw[c,decide_eq_decide.2 (eq_comm (a:=v) (b:=x.ak))];cases Z' (x.ak=v)<;>simp
theorem Ou(l:M mA):wF l=allI (λk e=>((l.take k).all λx=>!Z' (x.ak=e.ak)) && rL e) 0 l:=by
 have h:=C1 (λk (e:mA)=>(l.take k).all λx=>!Z' (x.ak=e.ak)) (λ_ e=>rL e) 0 l;rw[wF,h,uH,tc,KB]
 congr 2
 funext i e
 rw[<- lM,VN,aL]
def isStep(s:yw):Bool:=wF s.gM && (isName s.ak && Z' (s.gM.length<=3))
def Q0(p:oH):Bool:=fS 0 8 p.rj && (Z' (p.steps.length<=10) && ((!p.root ||decide (p.rj=0)) && (p.root ||(Z' (0 < p.rj) ||!p.steps.isEmpty))))
def lU(p:oH):Bool:=p.steps.all isStep && Q0 p
theorem SQ(n k:Nat):Z' ((n:Int)<=(k:Int))=Z' (n<=k):=by rw[dC];simp
theorem ac2(n:Nat):Z' ((n:Int)<=3)=Z' (n<=3):=SQ n 3
theorem ajv(n:Nat):Z' (3 < (n:Int))=!Z' (n<=3):=by rw[dC];simp;omega
theorem QA(n:Nat):Z' ((n:Int)<=10)=Z' (n<=10):=SQ n 10
theorem lJ{a:Type}(l:M a):Z' (0 < (l.length:Int))=!l.isEmpty:=by cases l<;>simp
theorem gV{a:Type}{f:a->M D}{l:M a}{x:a}{n:Nat}(h:bW f l<=n)(b:x∈l):fm (f x)<=n/\l.length<=n:=by
 have:=dV f b;simp only[bW]at *;omega
section
variable {s:yw} {rt:Bool} {up:Int} {ss:M yw}
theorem Sl{t:M mA}{e:mA}{k i:Nat}(a:nth t k=Z e)(h:bW qf t<=mg) :
  cl (lB G xM) (0,[E (i:Int),jM t,E (k:Int),E 0,.bool rt,E up,fT ss]) =
   Z (if (t.take k).all (λx=>!Z' (x.ak=e.ak))=I then (1,[E (i:Int),jM t,E (k:Int),E (k:Int),.bool J,.bool rt,E up,fT ss]) else (0,[.bool J])):=by
 have o:=bw a;have c:t.length<=mg:=by simp only[bW]at h;omega
 have d:=qV (b:=lB G xM) (λj=>(0,[E (i:Int),jM t,E (k:Int),E (j:Int),.bool rt,E up,fT ss])) (atB (λx=>!Z' (x.ak=e.ak)) t) k
  (1,[E (i:Int),jM t,E (k:Int),E (k:Int),.bool J,.bool rt,E up,fT ss]) (0,[.bool J]) (by
  intro j f;have a1:=dz (l:=t) (i:=j) (by omega);have g:=wj (i:=j) (n:=k) f (by omega);generalize t[j]'(by omega)=x at a1;simp only[go_sem,bK,xM,f,aR,a,a1,qf,atB];cases m:Z' (x.ak=e.ak)<;>simp only[go_sem,m,g]) (by simp only[go_sem,bK,xM,aB]) k 0 (by omega)
 rw[n0]at d;rw[d,yx _ t k 0 (by omega),br]
theorem Sm{t:M mA}{i:Nat}(d:bW qf t<=mg) :
  cl (lB G AJ) (0,[E (i:Int),jM t,E 0,.bool rt,E up,fT ss]) =
   Z (if wF t=I then (1,[E (i:Int),jM t,E t.length,.bool J,.bool rt,E up,fT ss]) else (0,[.bool J])):=by
 have c:t.length<=mg:=by simp only[bW]at d;omega
 have f:=pD (b:=lB G AJ) t (λk=>(0,[E (i:Int),jM t,E (k:Int),.bool rt,E up,fT ss])) (λk e=>((t.take k).all λx=>!Z' (x.ak=e.ak)) && rL e)
  (1,[E (i:Int),jM t,E t.length,.bool J,.bool rt,E up,fT ss]) (0,[.bool J]) (by
  intro k e a;have g:=bw a;have m:=wj g c;have l:=dV qf (bp a);rw[MK]at l;have p:=aaJ (s:=e.ak) (by omega);have o:=aaK (s:=e.bg) (by omega);simp only[go_sem,bK,AJ,g,aA,Sl a d];cases h:(t.take k).all (λx=>!Z' (x.ak=e.ak)) with
  |false=>simp only[go_sem,h]
  |true=>
   simp only[go_sem,h,aR,a,qf,p];cases j:isName e.ak with
   |false=>simp only[go_sem,j,rL]
   |true=>
    simp only[go_sem,j,rL,aR,a,qf,o];cases n:jh e.bg<;>simp only[go_sem,n,m]) (by simp only[go_sem,bK,AJ,aB,aA]) t.length 0 (by omega)
 rw[n0,br]at f;rw[f,Ou]
end
theorem Mt(p:oH):Q0 p=(fS 0 8 p.rj && Z' (p.steps.length<=10) && (!p.root ||decide (p.rj=0)) && (p.root ||(Z' (0 < p.rj) ||!p.steps.isEmpty))):=by
 simp[Q0,iE]
theorem akG{p:oH}(d:fm (lP p)<=mg):G 205 (lP p)=Z (0,[.bool (lU p)]):=by
 rw[Fx]at d;have a:p.steps.length<=mg:=by simp only[bW]at d;omega
 refine cN t205 rfl ?_;simp only[go_sem,t205,lP];have f:=mU (b:=lB G I2) p.steps (λi=>(0,[E (i:Int),.bool p.root,E p.rj,fT p.steps])) isStep (1,[E p.steps.length,.bool J,.bool p.root,E p.rj,fT p.steps]) (0,[.bool J]) (by
  intro i e c;have g:=bw c;have l:=wj g a;have k:=dV lu (bp c);rw[zN]at k;have n:=aaJ (s:=e.ak) (by omega);simp only[go_sem,bK,I2,g,aA,aR,c,lu,Sm (t:=e.gM) (by omega)];cases j:wF e.gM with
  |false=>simp only[go_sem,j,isStep]
  |true=>
   simp only[go_sem,j,isStep,aR,c,lu,n];cases h:isName e.ak with
   |false=>simp only[go_sem,h]
   |true=>
    simp only[go_sem,h,aA,ajv];cases m:Z' (e.gM.length<=3)<;>simp only[go_sem,m,l]) (by simp only[go_sem,bK,I2,aB,aA])
 rw[n0]at f;rw[f,lU];cases p.steps.all isStep with
 |false=>simp only[go_sem]
 |true=>
  rw[Mt];simp only[go_sem,mj,aA,QA,lJ]
  repeat' (first|with_reducible rfl|((first|rw[gA]|rw[gC]|rw[gz]|rw[gB]);split<;>simp only[go_sem,mj,aA,QA,lJ, *]))
  all_goals simp_all
theorem ak6{s:yw}(m:fm (lu s)<=mg):G 265 (lu s)=Z (0,[.bool (isStep s)]):=by
 rw[zN]at m;have a:s.gM.length<=mg:=by simp only[bW]at m;omega
 refine cN t265 rfl ?_;simp only[go_sem,t265,lu];have n:=mU (b:=lB G Ef) s.gM (λi=>(0,[jM s.gM,E s.gM.length,E (i:Int),.str s.ak,jM s.gM,bn ((s.gM.take i).map mA.ak)])) rL
  (1,[jM s.gM,E s.gM.length,E s.gM.length,.bool J,.str s.ak,jM s.gM,bn (s.gM.map mA.ak)]) (0,[.bool J]) (by
  intro i e d;have o:=bw d;have r:=wj o a;have q:=dV qf (bp d);rw[MK]at q;have k:=aaN (s:=e.ak) (by omega);have j:=aaO (s:=e.bg) (by omega);have h:aU (.app 1 16) [bn ((s.gM.take i).map mA.ak),.list 1 I [[.str e.ak]]]=Z (bn ((s.gM.take (i+1)).map mA.ak)):=by
   rw[zn d,OC]
   ·simp[fo]
   ·simp only[aA,bj,aG,aP];simp only[mg]at a;exact⟨aH (Nat.mul_le_mul (show min i s.gM.length+(0+1)<=40000000 by omega) (az 16)) (by decide),aH (show min i s.gM.length+(0+1)<=40000000 by omega) (by decide)⟩
  have g:aU (.wB 1 I) [.str e.ak]=Z (.list 1 I [[.str e.ak]]):=by simp[aU,chunk,dW,D.plain]
  simp only[go_sem,bK,Ef,o,aR,d,qf,aG,aP,az,k];cases c:isName e.ak with
  |false=>simp only[go_sem,c,rL]
  |true=>
   simp only[go_sem,c,rL,j];cases f:jh e.bg<;>simp only[go_sem,f,r,h,g]) (by simp only[go_sem,bK,Ef,aB,bo])
 rw[n0]at n;rw[aA];have p:cl (lB G Ef) (0,[jM s.gM,E s.gM.length,E 0,.str s.ak,jM s.gM,.list 1 I []])=_:=n;rw[p,isStep,wF];cases s.gM.all rL with
 |false=>simp only[go_sem]
 |true=>
  have k:=aaN (s:=s.ak) (by omega);have j:=Tf (l:=s.gM.map mA.ak) (by rw[aA];exact a);simp only[go_sem,k,aA,ac2];cases c:isName s.ak with
  |false=>simp only[go_sem,c]
  |true=>
   simp only[go_sem,c,ac2,aA];cases f:Z' (s.gM.length<=3) with
   |false=>simp only[go_sem,f]
   |true=>
    have t:aU .pl [.bool (tc (s.gM.map mA.ak))]=Z (.bool J):=rfl;simp only[go_sem,f,j,t]
theorem ak7{p:oH}(d:fm (lP p)<=mg):G 266 (lP p)=Z (0,[.bool (lU p)]):=by
 rw[Fx]at d;have a:p.steps.length<=mg:=by simp only[bW]at d;omega
 refine cN t266 rfl ?_;simp only[go_sem,t266,lP];have f:=mU (b:=lB G Jg) p.steps (λi=>(0,[fT p.steps,E p.steps.length,E (i:Int),.bool p.root,E p.rj,fT p.steps])) isStep (1,[fT p.steps,E p.steps.length,E p.steps.length,.bool J,.bool p.root,E p.rj,fT p.steps]) (0,[.bool J]) (by
  intro i e c;have g:=bw c;have j:=wj g a;have l:=dV lu (bp c);have h:=ak6 (s:=e) (by omega);rw[lu]at h;simp only[go_sem,bK,Jg,g,aR,c,lu,aG,aP,az,h];cases k:isStep e<;>simp only[go_sem,k,j]) (by simp only[go_sem,bK,Jg,aB])
 rw[n0]at f;rw[aA,f,lU];cases p.steps.all isStep with
 |false=>simp only[go_sem]
 |true=>
  rw[Mt];unfold fS;simp only[go_sem,aA,QA,lJ]
  repeat' (first|with_reducible rfl|((first|rw[gA]|rw[gC]|rw[gz]|rw[gB]);split<;>simp only[go_sem,aA,QA,lJ, *]))
  all_goals simp_all
end
section
attribute [go_sem] aG aP az aA
theorem sn(e:dX):(cG e).length=7:=by rw[bN];rfl
theorem jY(e:dX)(k:Nat)(a:Bool):aU (.has 7) [.list k a [cG e]]=Z (.bool J):=by
 rw[ya,sn,if_pos (az 7)]
theorem q39(a b:Int):G 39 [E a,E b]=Z (0,[E (if a < b then b else a)]):=by
 refine cN t39 rfl ?_;simp only[go_sem,t39];by_cases h:a < b<;>simp only[go_sem,h]
theorem dX.iz(e:dX)(es:M dX):aw e.ae < aw (e::es):=by
 cases e;simp only[bG,dX.mk.sizeOf_spec];omega
def rF:M dX->Nat
 |[]=>0
 |e::es=>max (rF e.ae+1) (rF es)
termination_by es=>aw es
decreasing_by
 ·exact dX.iz e es
 ·simp only[bG];omega
abbrev dep(e:dX):Nat:=rF e.ae+1
theorem d0:((rF []:Nat):Int)=0:=by simp[rF]
theorem Dg(e:dX):∀(l:M dX),rF (l++[e])=max (rF l) (dep e)
 |[]=>by simp[rF]
 |x::l=>by rw[au,rF,Dg e l,rF,Nat.max_assoc]
theorem Iw:∀(n:Nat) (l:M dX),aw l < n->rF l<=bW cG l
 |0,l,h=>by omega
 |n+1,[],h=>by simp[rF]
 |n+1,e::l,h=>by
  have b:=Iw n e.ae (by have:=dX.iz e l;omega);have a:=Iw n l (by simp only[bG]at h;omega);rw[rF,eS,qx];omega
theorem UO{e:dX}:dep e<=fm (cG e)+1:=by
 have:=Iw _ e.ae (aS _);rw[qx];simp only[dep];omega
theorem mx(a b:Nat):(if (a:Int) < (b:Int) then (b:Int) else (a:Int))=((max a b:Nat):Int):=by
 by_cases h:a < b
 ·rw[if_pos (by omega),Nat.max_eq_right (by omega)]
 ·rw[if_neg (by omega),Nat.max_eq_left (by omega)]
theorem dX.DZ{e x:dX}(h:x∈e.ae):aw x < aw e:=dX.Kt h
theorem D0{e x:dX}(h:x∈e.ae):fm (cG x)<=fm (cG e):=by
 have:=dV cG h;rw[qx e];omega
theorem vj{e:dX}:e.ae.length<=fm (cG e):=by
 rw[qx e];simp only[bW];omega
theorem adN(n:Nat):∀e:dX,aw e < n->fm (cG e)<=mg->G 203 (cG e)=Z (0,[E (dep e)]):=by
 induction n with
 |zero=>intro e h;omega
 |succ n l=>
  intro e o j;refine cN t203 (by rw[bN];rfl) ?_;simp only[go_sem,t203,bN];have c:e.ae.length<=mg:=aH vj j;have k:=ei (b:=lB G D5) e.ae (λi (m:Nat)=>(0,E (m:Int)::E (i:Int)::cG e)) (λi=>rF (e.ae.take i)) (0,E (rF e.ae)::E e.ae.length::.bool J::cG e) (by
   intro i x a;have f:=bw a;have d:=wj f c;have g:=l x (by have:=dX.DZ (bp a);omega) (aH (D0 (bp a)) j);rw[bN]at g;simp only[go_sem,bK,D5,bN e,f,aR,a,jY];simp only[go_sem,bK,D5,bN,f,aR,a,jY,g,q39,mx,d,cB _ _ _ a,Dg,dep]) (by simp only[go_sem,bK,D5,bN,aB,bo]) e.ae.length 0 (by omega)
  rw[bE,d0,n0,bN]at k;have hd:=UO (e:=e);have d:IntKind.i64.wrap ((rF e.ae:Int)+1)=((rF e.ae+1:Nat):Int):=by rw[wrap_i64 (by simp only[mg,dep]at *;omega)];omega
  simp only[go_sem,k,d]
theorem akF{e:dX}(a:fm (cG e)<=mg):G 203 (cG e)=Z (0,[E (dep e)]):=adN _ e (aS _) a
theorem ad5(n:Nat):∀e:dX,aw e < n->fm (cG e)<=mg->G 262 (cG e)=Z (0,[E (dep e)]):=by
 induction n with
 |zero=>intro e h;omega
 |succ n l=>
  intro e o j;refine cN t262 (by rw[bN];rfl) ?_;simp only[go_sem,t262,bN];have c:e.ae.length<=mg:=aH vj j;have k:=ei (b:=lB G Ee) e.ae (λi (m:Nat)=>(0,[E (m:Int),ek e.ae,E e.ae.length,E (i:Int)])) (λi=>rF (e.ae.take i)) (0,[E (rF e.ae),ek e.ae,E e.ae.length,E e.ae.length,.bool J]) (by
   intro i x a;have f:=bw a;have d:=wj f c;have g:=l x (by have:=dX.DZ (bp a);omega) (aH (D0 (bp a)) j);rw[bN]at g;simp only[go_sem,bK,Ee,f,aR,a,jY];simp only[go_sem,bK,Ee,bN,f,aR,a,jY,g,mx,d,cB _ _ _ a,Dg,dep]) (by simp only[go_sem,bK,Ee,aB,bo]) e.ae.length 0 (by omega)
  rw[bE,d0,n0]at k;have hd:=UO (e:=e);have d:IntKind.i64.wrap ((rF e.ae:Int)+1)=((rF e.ae+1:Nat):Int):=by rw[wrap_i64 (by simp only[mg,dep]at *;omega)];omega
  simp only[go_sem,k,d]
theorem ak4{e:dX}(a:fm (cG e)<=mg):G 262 (cG e)=Z (0,[E (dep e)]):=ad5 _ e (aS _) a
def zp(p:oH):Bool:=!p.root && (Z' (p.rj=0) && p.steps.isEmpty)
theorem dE{a:Type}(l:M a):Z' ((l.length:Int)=0)=l.isEmpty:=by cases l<;>simp;omega
theorem akH(p:oH):G 206 (lP p)=Z (0,[.bool (zp p)]):=by
 refine cN t206 rfl ?_;simp only[go_sem,t206,lP,dE]
 repeat' (first|with_reducible rfl|((first|rw[gA]|rw[gC]|rw[gz]|rw[gB]);split<;>simp only[go_sem,dE, *]))
 all_goals simp_all[zp]
theorem ak5(p:oH):G 263 (lP p)=Z (0,[.bool (zp p)]):=by
 refine cN t263 rfl ?_;simp only[go_sem,t263,lP,dE]
 repeat' (first|with_reducible rfl|((first|rw[gA]|rw[gC]|rw[gz]|rw[gB]);split<;>simp only[go_sem,dE, *]))
 all_goals simp_all[zp]
def orA:z:=⟨#[111,114]⟩
def Ui:z:=⟨#[97,110,100]⟩
theorem B1:(⟨[111,114].toArray⟩:z)=orA:=(rfl)
theorem vS:(⟨[97,110,100].toArray⟩:z)=Ui:=(rfl)
def Ij(p:oH):Bool:=match p.steps with
 |s::_=>Z' (s.ak=orA) ||decide (s.ak=Ui)
 |[]=>J
def Yb(p:oH):Bool:=(p.root ||decide (0 < p.rj) ||!Ij p) && !(p.root && p.steps.isEmpty)
theorem Mu{p:oH}(h:lU p=I):0<=p.rj/\(p.root=I->p.rj=0)/\(p.root=I\/0 < p.rj\/p.steps≠[]):=by
 simp only[lU,Q0,fS,ai,df,decide_eq_true_eq,ck,List.isEmpty_eq_false_iff]at h;obtain⟨_,⟨d,_⟩,_,b,a⟩:=h;refine⟨d,λc=>?_,?_⟩
 ·rcases b with b|b
  ·rw[c]at b;cases b
  ·exact b
 ·rcases a with a|a|a
  ·exact .inl a
  ·exact .inr (.inl a)
  ·exact .inr (.inr a)
theorem akI{p:oH}(e:lU p=I):G 207 (lP p)=Z (0,[.bool (Yb p)]):=by
 obtain⟨m,i,g⟩:=Mu e;refine cN t207 rfl ?_;simp only[go_sem,t207,lP,lJ,B1,vS];cases b:p.root with
 |true=>
  have a:p.rj=0:=i b;simp only[go_sem,b,a,lJ,Yb]
 |false=>
  by_cases a:0 < p.rj
  ·simp only[go_sem,b,a,Yb]
  ·have d:p.steps≠[]:=by
    rcases g with h|h|h
    ·rw[b]at h;cases h
    ·exact absurd h a
    ·exact h
   obtain⟨s,l,f⟩:=List.exists_cons_of_ne_nil d;simp only[go_sem,b,a,Yb,f,Ij,aZ,lu,B1,vS];have j:¬Ui=orA:=by decide
   by_cases c:s.ak=orA
   ·simp only[go_sem,c,B1,vS]
   ·by_cases k:s.ak=Ui<;>simp only[go_sem,c,k,j,B1,vS]
def ql(op:Int):Nat:=if op<=4 then 0 else if op=5 then 1 else 2
def sr(e:dX):Bool:=if e.op=1 then fS 0 1000000000 e.num else if e.op=2 then jh e.text else if e.op=3 then lU e.path && Yb e.path else if e.op=4 then lU e.path else I
def gD(e:dX):Bool:=fS 1 15 e.op && (Z' (e.ae.length=ql e.op) && ((Z' (e.op=1) ||decide (e.num=0)) && ((Z' (e.op=2) ||decide (e.text.size=0)) && ((Z' (e.op=3) ||(Z' (e.op=4) ||zp e.path)) && sr e))))
def uw:M dX->Bool
 |[]=>I
 |e::es=>gD e && uw e.ae && uw es
termination_by es=>aw es
decreasing_by
 ·exact dX.iz e es
 ·simp only[bG];omega
def rk(e:dX):Bool:=gD e && uw e.ae
theorem FJ:∀(l:M dX),uw l=l.all rk
 |[]=>by simp[uw]
 |e::l=>by rw[uw,cV,FJ l];rfl
theorem ZZ{n:Nat}(h:∀e:dX,aw e < n->fm (cG e)<=mg->G 208 (cG e)=Z (0,[.bool (rk e)])){e:dX}(k:aw e < n+1)(f:fm (cG e)<=mg) :
  cl (lB G AK) (0,E e.ae.length::E 0::cG e)=Z (if uw e.ae=I then (1,E e.ae.length::E e.ae.length::.bool J::cG e) else (0,[.bool J])):=by
 have a:e.ae.length<=mg:=aH vj f;rw[FJ];exact mU (b:=lB G AK) e.ae (λi=>(0,E e.ae.length::E (i:Int)::cG e)) rk _ _ (by
  intro i x c;have g:=bw c;have j:=wj g a;have d:=h x (by have:=dX.DZ (bp c);omega) (aH (D0 (bp c)) f);rw[bN]at d;simp only[go_sem,bK,AK,bN e,g,aR,c,jY];simp only[go_sem,bN x,d];cases rk x<;>simp only[go_sem,j]) (by simp only[go_sem,bK,AK,bN,aB])
theorem zj{e:dX}(h:e.ae.length=0):uw e.ae=I:=by
 have:e.ae=[]:=cP.1 h;rw[this];simp[uw]
theorem adO(n:Nat):∀e:dX,aw e < n->fm (cG e)<=mg->G 208 (cG e)=Z (0,[.bool (rk e)]):=by
 induction n with
 |zero=>intro e h;omega
 |succ n C=>
  intro e D H;have f:=ZZ C D H;rw[bN]at f;have L:=qx e;have d:=aaK (s:=e.text) (by omega);have c:=akG (p:=e.path) (by omega);have b:=akH e.path;rw[lP]at c b;have x:lU e.path=I->G 207 [.bool e.path.root,E e.path.rj,fT e.path.steps]=Z (0,[.bool (Yb e.path)]):=λh=>akI h;refine cN t208 (by rw[bN];rfl) ?_;simp only[go_sem,mj,d,c,b,cz,bc,t208,bN];have small:∀{k:Nat} (g:e.ae.length=0),cl (lB G AK) (0,[E 0,E 0,E e.op,E e.num,.str e.text,.bool e.path.root,E e.path.rj,fT e.path.steps,ek e.ae])=Z (1,[E 0,E 0,.bool J,E e.op,E e.num,.str e.text,.bool e.path.root,E e.path.rj,fT e.path.steps,ek e.ae]):=by
   intro _ g;rw[zj g,g]at f;exact f
  by_cases o:e.op=1
  ·have v:gD e=(Z' (e.ae.length=0) && ((Z' (e.text.size=0)) && (zp e.path && fS 0 1000000000 e.num))):=by simp[gD,sr,ql,fS,o]
   rw[o]at small;by_cases g:e.ae.length=0
   ·have a:(e.ae.length:Int)=0:=by omega
    have q:=small (k:=0) g;have y:=zj g;simp only[go_sem,mj,d,c,b,cz,bc,o,a,q]
    repeat' (first|with_reducible rfl|((first|rw[gA]|rw[gC]|rw[gz]|rw[gB]);split<;>simp only[go_sem,mj,d,c,b,cz,bc,o,a,q, *]))
    all_goals simp_all[rk]
   ·have a:¬(e.ae.length:Int)=0:=by omega
    simp only[go_sem,mj,d,c,b,cz,bc,o,a]
    repeat' (first|with_reducible rfl|((first|rw[gA]|rw[gC]|rw[gz]|rw[gB]);split<;>simp only[go_sem,mj,d,c,b,cz,bc,o,a, *]))
    all_goals simp_all[rk]
  by_cases m:e.op=2
  ·have v:gD e=(Z' (e.ae.length=0) && ((Z' (e.num=0)) && (zp e.path && jh e.text))):=by simp[gD,sr,ql,fS,m]
   rw[m]at small;by_cases g:e.ae.length=0
   ·have a:(e.ae.length:Int)=0:=by omega
    have q:=small (k:=0) g;have y:=zj g;simp only[go_sem,mj,d,c,b,cz,bc,m,a,q]
    repeat' (first|with_reducible rfl|((first|rw[gA]|rw[gC]|rw[gz]|rw[gB]);split<;>simp only[go_sem,mj,d,c,b,cz,bc,m,a,q, *]))
    all_goals simp_all[rk]
   ·have a:¬(e.ae.length:Int)=0:=by omega
    simp only[go_sem,mj,d,c,b,cz,bc,m,a]
    repeat' (first|with_reducible rfl|((first|rw[gA]|rw[gC]|rw[gz]|rw[gB]);split<;>simp only[go_sem,mj,d,c,b,cz,bc,m,a, *]))
    all_goals simp_all[rk]
  by_cases i:e.op=3
  ·have v:gD e=(Z' (e.ae.length=0) && ((Z' (e.num=0)) && (Z' (e.text.size=0) && (lU e.path && Yb e.path)))):=by simp[gD,sr,ql,fS,i]
   rw[i]at small;cases t:lU e.path with
   |false=>
    simp only[go_sem,mj,d,c,b,cz,bc,i,t]
    repeat' (first|with_reducible rfl|((first|rw[gA]|rw[gC]|rw[gz]|rw[gB]);split<;>simp only[go_sem,mj,d,c,b,cz,bc,i,t, *]))
    all_goals simp_all[rk]
   |true=>
    have A:=x t;by_cases g:e.ae.length=0
    ·have a:(e.ae.length:Int)=0:=by omega
     have q:=small (k:=0) g;have y:=zj g;simp only[go_sem,mj,d,c,b,cz,bc,i,t,a,q,A]
     repeat' (first|with_reducible rfl|((first|rw[gA]|rw[gC]|rw[gz]|rw[gB]);split<;>simp only[go_sem,mj,d,c,b,cz,bc,i,t,a,q,A, *]))
     all_goals simp_all[rk]
    ·have a:¬(e.ae.length:Int)=0:=by omega
     simp only[go_sem,mj,d,c,b,cz,bc,i,t,a]
     repeat' (first|with_reducible rfl|((first|rw[gA]|rw[gC]|rw[gz]|rw[gB]);split<;>simp only[go_sem,mj,d,c,b,cz,bc,i,t,a, *]))
     all_goals simp_all[rk]
  by_cases l:e.op=4
  ·have v:gD e=(Z' (e.ae.length=0) && ((Z' (e.num=0)) && (Z' (e.text.size=0) && lU e.path))):=by simp[gD,sr,ql,fS,l]
   rw[l]at small;by_cases g:e.ae.length=0
   ·have a:(e.ae.length:Int)=0:=by omega
    have q:=small (k:=0) g;have y:=zj g;simp only[go_sem,mj,d,c,b,cz,bc,l,a,q]
    repeat' (first|with_reducible rfl|((first|rw[gA]|rw[gC]|rw[gz]|rw[gB]);split<;>simp only[go_sem,mj,d,c,b,cz,bc,l,a,q, *]))
    all_goals simp_all[rk]
   ·have a:¬(e.ae.length:Int)=0:=by omega
    simp only[go_sem,mj,d,c,b,cz,bc,l,a]
    repeat' (first|with_reducible rfl|((first|rw[gA]|rw[gC]|rw[gz]|rw[gB]);split<;>simp only[go_sem,mj,d,c,b,cz,bc,l,a, *]))
    all_goals simp_all[rk]
  cases r:fS 5 15 e.op with
  |false=>
   have v:gD e=J:=by
    have:fS 1 15 e.op=J:=by
     rw[eg]at r ⊢;intro h
     apply r
     have:=(gZ _ _ _).1 h;exact (gZ _ _ _).2 (by omega)
    simp[gD,this]
   have F:rk e=J:=by simp[rk,v]
   simp only[go_sem,mj,d,c,b,cz,bc,o,m,i,l,r,F]
  |true=>
   have N:=(gZ _ _ _).1 r;have B:fS 1 15 e.op=I:=(gZ _ _ _).2 (by omega);by_cases j:e.op=5
   ·have v:gD e=(Z' (e.ae.length=1) && ((Z' (e.num=0)) && (Z' (e.text.size=0) && zp e.path))):=by simp[gD,sr,ql,fS,j]
    by_cases g:e.ae.length=1
    ·have a:(e.ae.length:Int)=1:=by omega
     rw[a,j]at f;cases w:uw e.ae with
     |false=>
      rw[w]at f;simp only[go_sem,mj,d,c,b,cz,bc]at f;simp only[go_sem,mj,d,c,b,cz,bc,j,a,f]
      repeat' (first|with_reducible rfl|((first|rw[gA]|rw[gC]|rw[gz]|rw[gB]);split<;>simp only[go_sem,mj,d,c,b,cz,bc,j,a,f, *]))
      all_goals simp_all[rk]
     |true=>
      rw[w]at f;simp only[go_sem,mj,d,c,b,cz,bc]at f;simp only[go_sem,mj,d,c,b,cz,bc,j,a,f]
      repeat' (first|with_reducible rfl|((first|rw[gA]|rw[gC]|rw[gz]|rw[gB]);split<;>simp only[go_sem,mj,d,c,b,cz,bc,j,a,f, *]))
      all_goals simp_all[rk]
    ·have a:¬(e.ae.length:Int)=1:=by omega
     simp only[go_sem,mj,d,c,b,cz,bc,j,a]
     repeat' (first|with_reducible rfl|((first|rw[gA]|rw[gC]|rw[gz]|rw[gB]);split<;>simp only[go_sem,mj,d,c,b,cz,bc,j,a, *]))
     all_goals simp_all[rk]
   ·have K:ql e.op=2:=by unfold ql;rw[if_neg (by omega),if_neg j]
    have v:gD e=(Z' (e.ae.length=2) && ((Z' (e.num=0)) && (Z' (e.text.size=0) && zp e.path))):=by simp[gD,sr,K,B,o,m,i,l]
    by_cases g:e.ae.length=2
    ·have a:(e.ae.length:Int)=2:=by omega
     rw[a]at f;cases w:uw e.ae with
     |false=>
      rw[w]at f;simp only[go_sem,mj,d,c,b,cz,bc]at f;simp only[go_sem,mj,d,c,b,cz,bc,o,m,i,l,j,r,a,f]
      repeat' (first|with_reducible rfl|((first|rw[gA]|rw[gC]|rw[gz]|rw[gB]);split<;>simp only[go_sem,mj,d,c,b,cz,bc,o,m,i,l,j,r,a,f, *]))
      all_goals simp_all[rk]
     |true=>
      rw[w]at f;simp only[go_sem,mj,d,c,b,cz,bc]at f;simp only[go_sem,mj,d,c,b,cz,bc,o,m,i,l,j,r,a,f]
      repeat' (first|with_reducible rfl|((first|rw[gA]|rw[gC]|rw[gz]|rw[gB]);split<;>simp only[go_sem,mj,d,c,b,cz,bc,o,m,i,l,j,r,a,f, *]))
      all_goals simp_all[rk]
    ·have a:¬(e.ae.length:Int)=2:=by omega
     simp only[go_sem,mj,d,c,b,cz,bc,o,m,i,l,j,r,a]
     repeat' (first|with_reducible rfl|((first|rw[gA]|rw[gC]|rw[gz]|rw[gB]);split<;>simp only[go_sem,mj,d,c,b,cz,bc,o,m,i,l,j,r,a, *]))
     all_goals simp_all[rk]
theorem akJ{e:dX}(a:fm (cG e)<=mg):G 208 (cG e)=Z (0,[.bool (rk e)]):=adO _ e (aS _) a
end
section
theorem Z4{n:Nat}(h:∀e:dX,aw e < n->fm (cG e)<=mg->G 267 (cG e)=Z (0,[.bool (rk e)])){e:dX}(k:aw e < n+1)(f:fm (cG e)<=mg) :
  cl (lB G Eg) (0,[ek e.ae,E e.ae.length,E 0])=Z (if uw e.ae=I then (1,[ek e.ae,E e.ae.length,E e.ae.length,.bool J]) else (0,[.bool J])):=by
 have a:e.ae.length<=mg:=aH vj f;rw[FJ];exact mU (b:=lB G Eg) e.ae (λi=>(0,[ek e.ae,E e.ae.length,E (i:Int)])) rk _ _ (by
  intro i x c;have g:=bw c;have j:=wj g a;have d:=h x (by have:=dX.DZ (bp c);omega) (aH (D0 (bp c)) f);rw[bN]at d;simp only[go_sem,bK,Eg,g,aR,c,jY];simp only[go_sem,bN x,d];cases rk x<;>simp only[go_sem,j]) (by simp only[go_sem,bK,Eg,aB])
theorem n2:((2:Nat):Int)=2:=(rfl)
attribute [go_sem] n1 n2
theorem aeI{p:oH}(h:lU p=I):Yb p=(!(!p.root && (Z' (p.rj=0) && Ij p)) && !(p.root && p.steps.isEmpty)):=by
 obtain⟨c,b,a⟩:=Mu h;unfold Yb
 congr 1
 have:Z' (0 < p.rj)=!Z' (p.rj=0):=by rw[dC];simp;omega
 rw[this];cases p.root<;>cases Z' (p.rj=0)<;>cases Ij p<;>rfl
theorem ad6(n:Nat):∀e:dX,aw e < n->fm (cG e)<=mg->G 267 (cG e)=Z (0,[.bool (rk e)]):=by
 induction n with
 |zero=>intro e h;omega
 |succ n x=>
  intro e y A;have d:=Z4 x y A;have P:=qx e;have c:=aaO (s:=e.text) (by omega);have a:=ak7 (p:=e.path) (by omega);have b:=ak5 e.path;rw[lP]at a b;refine cN t267 (by rw[bN];rfl) ?_;simp only[go_sem,c,a,b,cz,bc,lJ,dE,t267,bN];by_cases r:e.op=1
  ·clear x d y A;have w:gD e=(Z' (e.ae.length=0) && ((Z' (e.text.size=0)) && (zp e.path && fS 0 1000000000 e.num))):=by simp[gD,sr,ql,fS,r]
   have F:e.ae.length=0->uw e.ae=I:=zj;have f:e.ae.isEmpty=Z' (e.ae.length=0):=by cases e.ae<;>simp
   unfold fS at w;simp only[go_sem,c,a,b,cz,bc,lJ,dE,r,f]
   repeat' (first|with_reducible rfl|((first|rw[gA]|rw[gC]|rw[gz]|rw[gB]);split<;>simp only[go_sem,c,a,b,cz,bc,lJ,dE,r,f, *]))
   all_goals simp_all[rk]
  by_cases q:e.op=2
  ·clear x d y A;have w:gD e=(Z' (e.ae.length=0) && ((Z' (e.num=0)) && (zp e.path && jh e.text))):=by simp[gD,sr,ql,fS,q]
   have F:e.ae.length=0->uw e.ae=I:=zj;have f:e.ae.isEmpty=Z' (e.ae.length=0):=by cases e.ae<;>simp
   simp only[go_sem,c,a,b,cz,bc,lJ,dE,q,f]
   repeat' (first|with_reducible rfl|((first|rw[gA]|rw[gC]|rw[gz]|rw[gB]);split<;>simp only[go_sem,c,a,b,cz,bc,lJ,dE,q,f, *]))
   all_goals simp_all[rk]
  by_cases o:e.op=4
  ·clear x d y A;have w:gD e=(Z' (e.ae.length=0) && ((Z' (e.num=0)) && (Z' (e.text.size=0) && lU e.path))):=by simp[gD,sr,ql,fS,o]
   have F:e.ae.length=0->uw e.ae=I:=zj;have f:e.ae.isEmpty=Z' (e.ae.length=0):=by cases e.ae<;>simp
   simp only[go_sem,c,a,b,cz,bc,lJ,dE,o,f]
   repeat' (first|with_reducible rfl|((first|rw[gA]|rw[gC]|rw[gz]|rw[gB]);split<;>simp only[go_sem,c,a,b,cz,bc,lJ,dE,o,f, *]))
   all_goals simp_all[rk]
  by_cases g:e.op=3
  ·clear x d y A;have w:gD e=(Z' (e.ae.length=0) && ((Z' (e.num=0)) && (Z' (e.text.size=0) && (lU e.path && Yb e.path)))):=by simp[gD,sr,ql,fS,g]
   have F:e.ae.length=0->uw e.ae=I:=zj;have f:e.ae.isEmpty=Z' (e.ae.length=0):=by cases e.ae<;>simp
   have N:lU e.path=I->Yb e.path=(!(!e.path.root && (Z' (e.path.rj=0) && Ij e.path)) && !(e.path.root && e.path.steps.isEmpty)):=aeI;cases m:e.path.steps with
   |nil=>
    have K:Ij e.path=J:=by simp[Ij,m]
    rw[m]at a;cases k:e.path.root with
    |true=>
     rw[k]at a b;simp only[go_sem,c,a,b,cz,bc,lJ,dE,g,f,m,k,a,b]
     repeat' (first|with_reducible rfl|((first|rw[gA]|rw[gC]|rw[gz]|rw[gB]);split<;>simp only[go_sem,c,a,b,cz,bc,lJ,dE,g,f,m,k,a,b, *]))
     all_goals simp_all[rk]
    |false=>
     rw[k]at a b;simp only[go_sem,c,a,b,cz,bc,lJ,dE,g,f,m,k,a,b]
     repeat' (first|with_reducible rfl|((first|rw[gA]|rw[gC]|rw[gz]|rw[gB]);split<;>simp only[go_sem,c,a,b,cz,bc,lJ,dE,g,f,m,k,a,b, *]))
     all_goals simp_all[rk]
   |cons s l=>
    have K:Ij e.path=(Z' (s.ak=orA) ||decide (s.ak=Ui)):=by simp[Ij,m]
    rw[m]at a;cases k:e.path.root with
    |true=>
     rw[k]at a b;simp only[go_sem,c,a,b,cz,bc,lJ,dE,g,f,m,k,a,b,aZ,lu,B1,vS]
     repeat' (first|with_reducible rfl|((first|rw[gA]|rw[gC]|rw[gz]|rw[gB]);split<;>simp only[go_sem,c,a,b,cz,bc,lJ,dE,g,f,m,k,a,b,aZ,lu,B1,vS, *]))
     all_goals simp_all[rk]
     all_goals omega
    |false=>
     rw[k]at a b;simp only[go_sem,c,a,b,cz,bc,lJ,dE,g,f,m,k,a,b,aZ,lu,B1,vS]
     repeat' (first|with_reducible rfl|((first|rw[gA]|rw[gC]|rw[gz]|rw[gB]);split<;>simp only[go_sem,c,a,b,cz,bc,lJ,dE,g,f,m,k,a,b,aZ,lu,B1,vS, *]))
     all_goals simp_all[rk]
  cases B:fS 5 15 e.op with
  |false=>
   have D:fS 1 15 e.op=J:=by
    rw[eg]at B ⊢;intro h
    apply B
    have:=(gZ _ _ _).1 h;exact (gZ _ _ _).2 (by omega)
   have H:rk e=J:=by simp[rk,gD,D]
   have R:¬(5<=e.op/\e.op<=15):=λh=>by rw[(gZ _ _ _).2 h]at B;cases B
   have i:¬e.op=5:=by omega
   by_cases t:e.op < 1
   ·simp only[go_sem,c,a,b,cz,bc,lJ,dE,r,q,g,o,i,H,t]
   ·have v:15 < e.op:=by omega
    simp only[go_sem,c,a,b,cz,bc,lJ,dE,r,q,g,o,i,H,t,v]
  |true=>
   have Q:=(gZ _ _ _).1 B;have D:fS 1 15 e.op=I:=(gZ _ _ _).2 (by omega);have t:¬e.op < 1:=by omega
   have v:¬15 < e.op:=by omega
   by_cases i:e.op=5
   ·have w:gD e=(Z' (e.ae.length=1) && ((Z' (e.num=0)) && (Z' (e.text.size=0) && zp e.path))):=by simp[gD,sr,ql,fS,i]
    by_cases f:e.ae.length=1
    ·have j:(e.ae.length:Int)=1:=by omega
     rw[j]at d;cases C:uw e.ae with
     |false=>
      rw[C]at d;simp only[go_sem,c,a,b,cz,bc,lJ,dE]at d;simp only[go_sem,c,a,b,cz,bc,lJ,dE,i,j,d]
      repeat' (first|with_reducible rfl|((first|rw[gA]|rw[gC]|rw[gz]|rw[gB]);split<;>simp only[go_sem,c,a,b,cz,bc,lJ,dE,i,j,d, *]))
      all_goals simp_all[rk]
     |true=>
      rw[C]at d;simp only[go_sem,c,a,b,cz,bc,lJ,dE]at d;simp only[go_sem,c,a,b,cz,bc,lJ,dE,i,j,d]
      repeat' (first|with_reducible rfl|((first|rw[gA]|rw[gC]|rw[gz]|rw[gB]);split<;>simp only[go_sem,c,a,b,cz,bc,lJ,dE,i,j,d, *]))
      all_goals simp_all[rk]
    ·have j:¬(e.ae.length:Int)=1:=by omega
     simp only[go_sem,c,a,b,cz,bc,lJ,dE,i,j]
     repeat' (first|with_reducible rfl|((first|rw[gA]|rw[gC]|rw[gz]|rw[gB]);split<;>simp only[go_sem,c,a,b,cz,bc,lJ,dE,i,j, *]))
     all_goals simp_all[rk]
   ·have L:ql e.op=2:=by unfold ql;rw[if_neg (by omega),if_neg i]
    have w:gD e=(Z' (e.ae.length=2) && ((Z' (e.num=0)) && (Z' (e.text.size=0) && zp e.path))):=by simp[gD,sr,L,D,r,q,g,o]
    by_cases f:e.ae.length=2
    ·have j:(e.ae.length:Int)=2:=by omega
     rw[j]at d;cases C:uw e.ae with
     |false=>
      rw[C]at d;simp only[go_sem,c,a,b,cz,bc,lJ,dE]at d;simp only[go_sem,c,a,b,cz,bc,lJ,dE,r,q,g,o,i,t,v,j,d]
      repeat' (first|with_reducible rfl|((first|rw[gA]|rw[gC]|rw[gz]|rw[gB]);split<;>simp only[go_sem,c,a,b,cz,bc,lJ,dE,r,q,g,o,i,t,v,j,d, *]))
      all_goals simp_all[rk]
     |true=>
      rw[C]at d;simp only[go_sem,c,a,b,cz,bc,lJ,dE]at d;simp only[go_sem,c,a,b,cz,bc,lJ,dE,r,q,g,o,i,t,v,j,d]
      repeat' (first|with_reducible rfl|((first|rw[gA]|rw[gC]|rw[gz]|rw[gB]);split<;>simp only[go_sem,c,a,b,cz,bc,lJ,dE,r,q,g,o,i,t,v,j,d, *]))
      all_goals simp_all[rk]
    ·have j:¬(e.ae.length:Int)=2:=by omega
     simp only[go_sem,c,a,b,cz,bc,lJ,dE,r,q,g,o,i,t,v,j]
     repeat' (first|with_reducible rfl|((first|rw[gA]|rw[gC]|rw[gz]|rw[gB]);split<;>simp only[go_sem,c,a,b,cz,bc,lJ,dE,r,q,g,o,i,t,v,j, *]))
     all_goals simp_all[rk]
theorem ak8{e:dX}(a:fm (cG e)<=mg):G 267 (cG e)=Z (0,[.bool (rk e)]):=ad6 _ e (aS _) a
def qk(e:dX):Bool:=Z' (dep e<=8) && rk e
theorem akK{e:dX}(b:fm (cG e)<=mg):G 209 (cG e)=Z (0,[.bool (qk e)]):=by
 have c:=akF b;have a:=akJ b;have d:Z' (((dep e:Nat):Int)<=8)=Z' (dep e<=8):=SQ (dep e) 8;rw[bN]at c a;refine cN t209 (by rw[bN];rfl) ?_;simp only[go_sem,t209,bN,c,a,d];unfold qk;cases hd:Z' (dep e<=8)<;>simp only[go_sem,a,hd]
theorem ak9{e:dX}(b:fm (cG e)<=mg):G 268 (cG e)=Z (0,[.bool (qk e)]):=by
 have c:=ak4 b;have a:=ak8 b;have d:Z' (((dep e:Nat):Int)<=8)=Z' (dep e<=8):=SQ (dep e) 8;rw[bN]at c a;refine cN t268 (by rw[bN];rfl) ?_;simp only[go_sem,t268,bN,c,a,d];unfold qk;cases hd:Z' (dep e<=8)<;>simp only[go_sem,a,hd]
def F5(l:M dX)(Ol:Nat):Bool:=l.all qk && Z' (l.length<=Ol)
theorem ahH{l:M dX}{m:Nat}(f:bW cG l<=mg):G 210 [ek l,E (m:Int)]=Z (0,[.bool (F5 l m)]):=by
 have a:l.length<=mg:=by simp only[bW]at f;omega
 refine cN t210 rfl ?_;simp only[go_sem,t210];have g:=mU (b:=lB G I3) l (λi=>(0,[ek l,E (m:Int),E (i:Int)])) qk (1,[ek l,E (m:Int),E l.length,.bool J]) (0,[.bool J]) (by
  intro i x c;have h:=bw c;have j:=wj h a;have d:=akK (e:=x) (gV f (bp c)).1;rw[bN]at d;simp only[go_sem,bK,I3,h,aR,c,jY];simp only[go_sem,bN x,d];cases qk x<;>simp only[go_sem,j]) (by simp only[go_sem,bK,I3,aB])
 rw[n0]at g;rw[g,F5];cases l.all qk<;>simp only[go_sem,SQ]
theorem ahV{l:M dX}{m:Nat}(f:bW cG l<=mg):G 269 [ek l,E (m:Int)]=Z (0,[.bool (F5 l m)]):=by
 have a:l.length<=mg:=by simp only[bW]at f;omega
 refine cN ais rfl ?_;simp only[go_sem,ais];have g:=mU (b:=lB G Jh) l (λi=>(0,[ek l,E (m:Int),ek l,E l.length,E (i:Int)])) qk (1,[ek l,E (m:Int),ek l,E l.length,E l.length,.bool J]) (0,[.bool J]) (by
  intro i x c;have h:=bw c;have j:=wj h a;have d:=ak9 (e:=x) (gV f (bp c)).1;rw[bN]at d;simp only[go_sem,bK,Jh,h,aR,c,jY];simp only[go_sem,bN x,d];cases qk x<;>simp only[go_sem,j]) (by simp only[go_sem,bK,Jh,aB])
 rw[n0]at g;rw[g,F5];cases l.all qk<;>simp only[go_sem,SQ]
end
section
def lo0(l:M j6):Bool:=match l with
 |r::_=>Z' (0<=r.lo)
 |[]=>I
def zw(a:z->Bool)(t:hY):Bool:=
 if t.aq=1 then C4 t.ranges && (t.names.isEmpty && (Z' (t.pattern.size=0) && Z' (t.path.size=0)))
 else if t.aq=2 then C4 t.ranges && (lo0 t.ranges && ((Z' (t.pattern.size=0) ||a t.pattern) && (t.names.isEmpty && Z' (t.path.size=0))))
 else if t.aq=4 then fS 1 6 t.names.length && (t.ranges.isEmpty && (Z' (t.pattern.size=0) && Z' (t.path.size=0)))
 else if t.aq=5 then jh t.path && (!Z' (t.path.size=0) && (t.ranges.isEmpty && (t.names.isEmpty && Z' (t.pattern.size=0))))
 else if t.aq=3\/t.aq=6 then t.ranges.isEmpty && (t.names.isEmpty && (Z' (t.pattern.size=0) && Z' (t.path.size=0)))
 else J
def tJ(l:M z):Bool:=tc l && l.all isName
def isType(a:z->Bool)(t:hY):Bool:=tJ t.names && zw a t
theorem Lt(l:M z)(v:z):nE l v=!(l.all λx=>!Z' (x=v)):=by
 induction l with
 |nil=>rfl
 |cons x l c=>
  simp only[nE,nj,cV]at c ⊢;rw[c,decide_eq_decide.2 (eq_comm (a:=v) (b:=x))];cases Z' (x=v)<;>simp
theorem Ot(l:M z):tJ l=allI (λk e=>((l.take k).all λx=>!Z' (x=e)) && isName e) 0 l:=by
 have h:=C1 (λk (e:z)=>(l.take k).all λx=>!Z' (x=e)) (λ_ e=>isName e) 0 l;rw[tJ,h,uH,tc]
 congr 2
 funext i e
 rw[Lt,aL]
section
variable {kd:Int} {rs:D} {pt ph:z}
theorem Ss{l:M z}{e:z}{k:Nat}(a:nth l k=Z e)(h:bW fo l<=mg) :
  cl (lB G AQ) (0,[E (k:Int),E 0,E kd,rs,bn l,.str pt,.str ph]) =
   Z (if (l.take k).all (λx=>!Z' (x=e))=I then (1,[E (k:Int),E (k:Int),.bool J,E kd,rs,bn l,.str pt,.str ph]) else (0,[.bool J])):=by
 have o:=bw a;have c:l.length<=mg:=by simp only[bW]at h;omega
 have d:=qV (b:=lB G AQ) (λj=>(0,[E (k:Int),E (j:Int),E kd,rs,bn l,.str pt,.str ph])) (atB (λx=>!Z' (x=e)) l) k
  (1,[E (k:Int),E (k:Int),.bool J,E kd,rs,bn l,.str pt,.str ph]) (0,[.bool J]) (by
  intro j f;have a1:=dz (l:=l) (i:=j) (by omega);have g:=wj (i:=j) (n:=k) f (by omega);generalize l[j]'(by omega)=x at a1;simp only[go_sem,bK,AQ,f,aR,a,a1,fo,atB];cases m:Z' (x=e)<;>simp only[go_sem,m,g]) (by simp only[go_sem,bK,AQ,aB]) k 0 (by omega)
 rw[n0]at d;rw[d,yx _ l k 0 (by omega),br]
theorem Su{l:M z}(d:bW fo l<=mg) :
  cl (lB G D9) (0,[E 0,E kd,rs,bn l,.str pt,.str ph]) =
   Z (if tJ l=I then (1,[E l.length,.bool J,E kd,rs,bn l,.str pt,.str ph]) else (0,[.bool J])):=by
 have a:l.length<=mg:=by simp only[bW]at d;omega
 have f:=pD (b:=lB G D9) l (λk=>(0,[E (k:Int),E kd,rs,bn l,.str pt,.str ph])) (λk e=>((l.take k).all λx=>!Z' (x=e)) && isName e)
  (1,[E l.length,.bool J,E kd,rs,bn l,.str pt,.str ph]) (0,[.bool J]) (by
  intro k e c;have g:=bw c;have i:=wj g a;have m:=aaJ (s:=e) (by have:=Rd l (bp c);omega);simp only[go_sem,bK,D9,g,Ss c d];cases h:(l.take k).all (λx=>!Z' (x=e)) with
  |false=>simp only[go_sem,h]
  |true=>
   simp only[go_sem,h,aR,c,fo,m];cases j:isName e<;>simp only[go_sem,j,i]) (by simp only[go_sem,bK,D9,aB]) l.length 0 (by omega)
 rw[n0,br]at f;rw[f,Ot]
end
theorem ahO{e:z->Bool}(p:∀s:z,s.size<=mg->G 227 [.str s]=Z (0,[.bool (e s)])){t:hY}(o:fm (ez t)<=mg):G 228 (ez t)=Z (0,[.bool (isType e t)]):=by
 rw[sO]at o;have a:=akM (l:=t.ranges) (by simp only[bW]at o;omega);have d:=p t.pattern (by omega);have c:=aaK (s:=t.path) (by omega);refine cN t228 rfl ?_;simp only[go_sem,t228,ez,Su (l:=t.names) (by omega)];cases b:tJ t.names with
 |false=>simp only[go_sem,b,isType]
 |true=>
  simp only[go_sem,b,isType,a,d,c,cz,bc,lJ,dE,mj];by_cases n:t.aq=1
  ·have h:zw e t=(C4 t.ranges && (t.names.isEmpty && (Z' (t.pattern.size=0) && Z' (t.path.size=0)))):=by simp[zw,n]
   simp only[go_sem,b,isType,a,d,c,cz,bc,lJ,dE,mj,n]
   repeat' (first|with_reducible rfl|((first|rw[gA]|rw[gC]|rw[gz]|rw[gB]);split<;>simp only[go_sem,b,isType,a,d,c,cz,bc,lJ,dE,mj,n, *]))
   all_goals simp_all
  by_cases g:t.aq=2
  ·have h:zw e t=(C4 t.ranges && (lo0 t.ranges && ((Z' (t.pattern.size=0) ||e t.pattern) && (t.names.isEmpty && Z' (t.path.size=0))))):=by simp[zw,g]
   cases f:t.ranges with
   |nil=>
    have q:lo0 t.ranges=I:=by rw[f];rfl
    rw[f]at a;simp only[go_sem,b,isType,a,d,c,cz,bc,lJ,dE,mj,g,f,cj,fQ]
    repeat' (first|with_reducible rfl|((first|rw[gA]|rw[gC]|rw[gz]|rw[gB]);split<;>simp only[go_sem,b,isType,a,d,c,cz,bc,lJ,dE,mj,g,f,cj,fQ, *]))
    all_goals simp_all
   |cons r l=>
    have q:lo0 t.ranges=Z' (0<=r.lo):=by rw[f];rfl
    rw[f]at a;simp only[go_sem,b,isType,a,d,c,cz,bc,lJ,dE,mj,g,f,aZ,ga,j8]
    repeat' (first|with_reducible rfl|((first|rw[gA]|rw[gC]|rw[gz]|rw[gB]);split<;>simp only[go_sem,b,isType,a,d,c,cz,bc,lJ,dE,mj,g,f,aZ,ga,j8, *]))
    all_goals simp_all
  by_cases k:t.aq=4
  ·have h:zw e t=(fS 1 6 t.names.length && (t.ranges.isEmpty && (Z' (t.pattern.size=0) && Z' (t.path.size=0)))):=by simp[zw,k]
   simp only[go_sem,b,isType,a,d,c,cz,bc,lJ,dE,mj,k]
   repeat' (first|with_reducible rfl|((first|rw[gA]|rw[gC]|rw[gz]|rw[gB]);split<;>simp only[go_sem,b,isType,a,d,c,cz,bc,lJ,dE,mj,k, *]))
   all_goals simp_all
  by_cases j:t.aq=5
  ·have h:zw e t=(jh t.path && (!Z' (t.path.size=0) && (t.ranges.isEmpty && (t.names.isEmpty && Z' (t.pattern.size=0))))):=by simp[zw,j]
   simp only[go_sem,b,isType,a,d,c,cz,bc,lJ,dE,mj,j]
   repeat' (first|with_reducible rfl|((first|rw[gA]|rw[gC]|rw[gz]|rw[gB]);split<;>simp only[go_sem,b,isType,a,d,c,cz,bc,lJ,dE,mj,j, *]))
   all_goals simp_all
  by_cases m:t.aq=3
  ·have h:zw e t=(t.ranges.isEmpty && (t.names.isEmpty && (Z' (t.pattern.size=0) && Z' (t.path.size=0)))):=by simp[zw,m]
   simp only[go_sem,b,isType,a,d,c,cz,bc,lJ,dE,mj,m]
   repeat' (first|with_reducible rfl|((first|rw[gA]|rw[gC]|rw[gz]|rw[gB]);split<;>simp only[go_sem,b,isType,a,d,c,cz,bc,lJ,dE,mj,m, *]))
   all_goals simp_all
  by_cases i:t.aq=6
  ·have h:zw e t=(t.ranges.isEmpty && (t.names.isEmpty && (Z' (t.pattern.size=0) && Z' (t.path.size=0)))):=by simp[zw,i]
   simp only[go_sem,b,isType,a,d,c,cz,bc,lJ,dE,mj,i]
   repeat' (first|with_reducible rfl|((first|rw[gA]|rw[gC]|rw[gz]|rw[gB]);split<;>simp only[go_sem,b,isType,a,d,c,cz,bc,lJ,dE,mj,i, *]))
   all_goals simp_all
  have h:zw e t=J:=by simp[zw,n,g,m,k,j,i]
  simp only[go_sem,b,isType,a,d,c,cz,bc,lJ,dE,mj,n,g,m,k,j,i,h]
end
section
def zT(t:hY):Bool:=Z' (t.aq=0) && (t.ranges.isEmpty && (t.names.isEmpty && (Z' (t.pattern.size=0) && Z' (t.path.size=0))))
theorem ak_(t:hY):G 270 (ez t)=Z (0,[.bool (zT t)]):=by
 refine cN ait rfl ?_;simp only[go_sem,ait,ez,dE,cz,bc]
 repeat' (first|with_reducible rfl|((first|rw[gA]|rw[gC]|rw[gz]|rw[gB]);split<;>simp only[go_sem,dE,cz,bc, *]))
 all_goals simp_all[zT]
theorem ahI(t:hY):G 211 (ez t)=Z (0,[.bool (zT t)]):=by
 refine cN t211 rfl ?_;simp only[go_sem,t211,ez,dE,cz,bc]
 repeat' (first|with_reducible rfl|((first|rw[gA]|rw[gC]|rw[gz]|rw[gB]);split<;>simp only[go_sem,dE,cz,bc, *]))
 all_goals simp_all[zT]
theorem EM{l:M z}(h:l.isEmpty=I):tJ l=I:=by rw[List.isEmpty_iff.1 h];rfl
theorem xx{l:M j6}(h:l.isEmpty=I):C4 l=I:=by rw[List.isEmpty_iff.1 h];rfl
theorem ah0{f:z->Bool}(k:∀s:z,s.size<=mg->G 285 [.str s]=Z (0,[.bool (f s)])){t:hY}(g:fm (ez t)<=mg):G 286 (ez t)=Z (0,[.bool (isType f t)]):=by
 rw[sO]at g;have a:=alb (l:=t.ranges) (by simp only[bW]at g;omega);have e:=k t.pattern (by omega);have d:=aaO (s:=t.path) (by omega);have c:=ad7 (l:=t.names) (by omega);have b:=Tf (l:=t.names) (by simp only[bW]at g;omega);refine cN aiA rfl ?_;simp only[go_sem,isType,a,e,d,c,b,cz,bc,lJ,dE,aiA,ez];by_cases q:t.aq=1
 ·have h:zw f t=(C4 t.ranges && (t.names.isEmpty && (Z' (t.pattern.size=0) && Z' (t.path.size=0)))):=by simp[zw,q]
  simp only[go_sem,isType,a,e,d,c,b,cz,bc,lJ,dE,q]
  repeat' (first|with_reducible rfl|((first|rw[gA]|rw[gC]|rw[gz]|rw[gB]);split<;>simp only[go_sem,isType,a,e,d,c,b,cz,bc,lJ,dE,q, *]))
  all_goals clear a e d c b k g
  all_goals simp_all[EM,xx]
 by_cases i:t.aq=2
 ·have h:zw f t=(C4 t.ranges && (lo0 t.ranges && ((Z' (t.pattern.size=0) ||f t.pattern) && (t.names.isEmpty && Z' (t.path.size=0))))):=by simp[zw,i]
  cases j:t.ranges with
  |nil=>
   have v:lo0 t.ranges=I:=by rw[j];rfl
   rw[j]at a;simp only[go_sem,isType,a,e,d,c,b,cz,bc,lJ,dE,i,j,cj,fQ]
   repeat' (first|with_reducible rfl|((first|rw[gA]|rw[gC]|rw[gz]|rw[gB]);split<;>simp only[go_sem,isType,a,e,d,c,b,cz,bc,lJ,dE,i,j,cj,fQ, *]))
   all_goals clear a e d c b k g
   all_goals simp_all[EM,xx]
  |cons r l=>
   have v:lo0 t.ranges=Z' (0<=r.lo):=by rw[j];rfl
   rw[j]at a;simp only[go_sem,isType,a,e,d,c,b,cz,bc,lJ,dE,i,j,aZ,ga,j8]
   repeat' (first|with_reducible rfl|((first|rw[gA]|rw[gC]|rw[gz]|rw[gB]);split<;>simp only[go_sem,isType,a,e,d,c,b,cz,bc,lJ,dE,i,j,aZ,ga,j8, *]))
   all_goals clear a e d c b k g
   all_goals simp_all[EM,xx]
   all_goals omega
 by_cases o:t.aq=4
 ·have h:zw f t=(fS 1 6 t.names.length && (t.ranges.isEmpty && (Z' (t.pattern.size=0) && Z' (t.path.size=0)))):=by simp[zw,o]
  unfold fS at h;unfold tJ;simp only[go_sem,isType,a,e,d,c,b,cz,bc,lJ,dE,o]
  repeat' (first|with_reducible rfl|((first|rw[gA]|rw[gC]|rw[gz]|rw[gB]);split<;>simp only[go_sem,isType,a,e,d,c,b,cz,bc,lJ,dE,o, *]))
  all_goals clear a e d c b k g
  all_goals simp_all[EM,xx]
 by_cases n:t.aq=5
 ·have h:zw f t=(jh t.path && (!Z' (t.path.size=0) && (t.ranges.isEmpty && (t.names.isEmpty && Z' (t.pattern.size=0))))):=by simp[zw,n]
  simp only[go_sem,isType,a,e,d,c,b,cz,bc,lJ,dE,n]
  repeat' (first|with_reducible rfl|((first|rw[gA]|rw[gC]|rw[gz]|rw[gB]);split<;>simp only[go_sem,isType,a,e,d,c,b,cz,bc,lJ,dE,n, *]))
  all_goals clear a e d c b k g
  all_goals simp_all[EM,xx]
 by_cases p:t.aq=3
 ·have h:zw f t=(t.ranges.isEmpty && (t.names.isEmpty && (Z' (t.pattern.size=0) && Z' (t.path.size=0)))):=by simp[zw,p]
  simp only[go_sem,isType,a,e,d,c,b,cz,bc,lJ,dE,p]
  repeat' (first|with_reducible rfl|((first|rw[gA]|rw[gC]|rw[gz]|rw[gB]);split<;>simp only[go_sem,isType,a,e,d,c,b,cz,bc,lJ,dE,p, *]))
  all_goals clear a e d c b k g
  all_goals simp_all[EM,xx]
 by_cases m:t.aq=6
 ·have h:zw f t=(t.ranges.isEmpty && (t.names.isEmpty && (Z' (t.pattern.size=0) && Z' (t.path.size=0)))):=by simp[zw,m]
  simp only[go_sem,isType,a,e,d,c,b,cz,bc,lJ,dE,m]
  repeat' (first|with_reducible rfl|((first|rw[gA]|rw[gC]|rw[gz]|rw[gB]);split<;>simp only[go_sem,isType,a,e,d,c,b,cz,bc,lJ,dE,m, *]))
  all_goals clear a e d c b k g
  all_goals simp_all[EM,xx]
 have h:zw f t=J:=by simp[zw,q,i,p,o,n,m]
 simp only[go_sem,isType,a,e,d,c,b,cz,bc,lJ,dE,q,i,p,o,n,m,h]
 repeat' (first|with_reducible rfl|((first|rw[gA]|rw[gC]|rw[gz]|rw[gB]);split<;>simp only[go_sem,isType,a,e,d,c,b,cz,bc,lJ,dE,q,i,p,o,n,m,h, *]))
end
section
def n6:z:=⟨#[116,114,117,101]⟩
def kY:z:=⟨#[102,97,108,115,101]⟩
def Ch:z:=⟨#[49]⟩
def ug:z:=⟨#[48]⟩
theorem dQ:(⟨[116,114,117,101].toArray⟩:z)=n6:=(rfl)
theorem cW:(⟨[102,97,108,115,101].toArray⟩:z)=kY:=(rfl)
theorem eP:(⟨[49].toArray⟩:z)=Ch:=(rfl)
theorem dR:(⟨[48].toArray⟩:z)=ug:=(rfl)
def ml(s:z):z:=if s=Ch then n6 else if s=ug then kY else s
def mY(mt:z->z->Bool)(t:hY)(s:z):u z:=
 if t.aq=1 then (match Bd s with
  |some n=>if Qh t.ranges n=I then Z (xE n) else O
  |none=>O)
 else if t.aq=2 then (if (jh s && (Qh t.ranges s.size && (Z' (t.pattern.size=0) ||mt t.pattern s)))=I then Z s else O)
 else if t.aq=3 then (if (Z' (ml s=n6) ||decide (ml s=kY))=I then Z (ml s) else O)
 else if t.aq=4 then (if nE t.names s=I then Z s else O)
 else if t.aq=5 then (if (jh s && !Z' (s.size=0))=I then Z s else O)
 else if t.aq=6 then (if s.size=0 then Z s else O)
 else O
def Ag(a:z->Bool)(mt:z->z->Bool)(t:hY)(s:z):u z:=if isType a t=I then mY mt t s else O
def gx:u z->M D
 |some v=>[.str v,.bool I]
 |none=>[.str ⟨#[]⟩,.bool J]
theorem xg{l:M z}{i:Nat}{e s:z}(h:nth l i=Z e):((l.take (i+1)).any λx=>Z' (x=s))=(((l.take i).any λx=>Z' (x=s)) ||decide (e=s)):=by
 rw[cB l i e h,List.any_append];simp
theorem Lu(l:M z)(s:z):(l.any λx=>Z' (x=s))=nE l s:=by
 unfold nE
 congr 1
 funext x
 exact decide_eq_decide.2 eq_comm
theorem Z3{l:M z}{s o pt ph:z}{kd:Int}{rs:D}(hlen:l.length<=mg) :
  cl (lB G Ea) (0,[.str s,.str o,.bool J,E 0,E kd,rs,bn l,.str pt,.str ph])=Z (0,[.str s,.str o,.bool (nE l s),E l.length,.bool J,E kd,rs,bn l,.str pt,.str ph]):=by
 have c:=ei (b:=lB G Ea) l (λi (b:Bool)=>(0,[.str s,.str o,.bool b,E (i:Int),E kd,rs,bn l,.str pt,.str ph])) (λi=>(l.take i).any λx=>Z' (x=s))
  (0,[.str s,.str o,.bool (l.any λx=>Z' (x=s)),E l.length,.bool J,E kd,rs,bn l,.str pt,.str ph]) (by
  intro i e a;have d:=bw a;have f:=wj d hlen;rw[xg a];cases g:(l.take i).any λx=>Z' (x=s)<;>simp only[go_sem,bK,Ea,d,aR,a,fo,f]) (by simp only[go_sem,bK,Ea,aB,bo]) l.length 0 (by omega)
 rw[n0,bE,List.any_nil,Lu]at c;exact c
theorem ahQ{g:z->Bool}{mt:z->z->Bool}(U:∀s:z,s.size<=mg->G 227 [.str s]=Z (0,[.bool (g s)]))(V:∀p s:z,p.size<=mg->s.size<=mg->G 236 [.str p,.str s]=Z (0,[.bool (mt p s)]))
  {t:hY} {s:z} (S:fm (ez t)<=mg) (R:s.size<=mg):G 237 (ez t++[.str s])=Z (0,gx (Ag g mt t s)):=by
 have a:=ahO U S;have Q:=S;rw[sO]at Q;have K:=akR R;have e:=aaK R;have W:=ahP (n:=0) (by omega);have d:=V t.pattern s (by omega) R;have c:∀n:Int,G 232 [gg t.ranges,E n]=Z (0,[.bool (Qh t.ranges n)]):=λn=>akS (by simp only[bW]at Q;omega);have i:=Z3 (l:=t.names) (s:=s) (o:=s) (pt:=t.pattern) (ph:=t.path) (kd:=t.aq) (rs:=gg t.ranges) (by simp only[bW]at Q;omega);rw[ez]at a;refine cN t237 rfl ?_;simp only[go_sem,a,e,d,c,cz,bc,dQ,cW,eP,dR,t237,ez];have fin:∀{r:u z},mY mt t s=r->Ag g mt t s=if isType g t=I then r else O:=λh=>by rw[Ag,h]
 clear U V;by_cases q:t.aq=1
 ·rw[q]at a i;cases y:Bd s with
  |none=>
   have b:=fin (r:=O) (by simp[mY,q,y]);rw[y]at K;clear fin i;cases f:isType g t<;>rw[f]at a b<;>simp only[go_sem,a,e,d,c,cz,bc,dQ,cW,eP,dR,q,K,W,nJ,a,b,gx]
  |some n=>
   have T:=ahP (n:=n) (HQ y);rw[y]at K;cases L:Qh t.ranges n with
   |false=>
    have b:=fin (r:=O) (by simp[mY,q,y,L]);clear fin i;cases f:isType g t<;>rw[f]at a b<;>simp only[go_sem,a,e,d,c,cz,bc,dQ,cW,eP,dR,q,K,T,L,nJ,a,b,gx]
   |true=>
    have b:=fin (r:=Z (xE n)) (by simp[mY,q,y,L]);clear fin i;cases f:isType g t<;>rw[f]at a b<;>simp only[go_sem,a,e,d,c,cz,bc,dQ,cW,eP,dR,q,K,T,L,nJ,a,b,gx]
 by_cases F:t.aq=2
 ·rw[F]at a i;have b:=fin (r:=if (jh s && (Qh t.ranges s.size && (Z' (t.pattern.size=0) ||mt t.pattern s)))=I then Z s else O) (by simp[mY,F]);clear fin i;cases f:isType g t<;>rw[f]at a b<;>cases k:jh s<;>cases j:Qh t.ranges s.size<;>by_cases v:t.pattern.size=0<;>cases w:mt t.pattern s<;>rw[k,j,w]at b<;>simp only[go_sem,a,e,d,c,cz,bc,dQ,cW,eP,dR,v]at b<;>simp only[go_sem,a,e,d,c,cz,bc,dQ,cW,eP,dR,F,k,j,v,w,a,b,gx]
 by_cases m:t.aq=3
 ·rw[m]at a i;have b:=fin (r:=if (Z' (ml s=n6) ||decide (ml s=kY))=I then Z (ml s) else O) (by simp[mY,m]);clear fin i;have P:¬Ch=ug:=by decide
  have x:¬n6=kY:=by decide
  have A:¬kY=n6:=by decide
  have N:¬ug=Ch:=by decide
  have d5:¬n6=Ch:=by decide
  have d6:¬n6=ug:=by decide
  have Y:¬kY=Ch:=by decide
  have X:¬kY=ug:=by decide
  by_cases k:s=Ch
  ·have H:ml s=n6:=by rw[ml,if_pos k]
   rw[H]at b;simp only[go_sem,a,e,d,c,cz,bc,dQ,cW,eP,dR,x]at b;cases f:isType g t<;>rw[f]at a b<;>simp only[go_sem,a,e,d,c,cz,bc,dQ,cW,eP,dR,m,k,P,x,A,N,a,gx]<;>(rw[k]at b;simp only[go_sem,a,e,d,c,cz,bc,dQ,cW,eP,dR,b,gx])
  by_cases j:s=ug
  ·have H:ml s=kY:=by rw[ml,if_neg k,if_pos j]
   rw[H]at b;simp only[go_sem,a,e,d,c,cz,bc,dQ,cW,eP,dR,x,A]at b;cases f:isType g t<;>rw[f]at a b<;>simp only[go_sem,a,e,d,c,cz,bc,dQ,cW,eP,dR,m,j,P,x,A,N,a,gx]<;>(rw[j]at b;simp only[go_sem,a,e,d,c,cz,bc,dQ,cW,eP,dR,b,gx])
  have H:ml s=s:=by rw[ml,if_neg k,if_neg j]
  rw[H]at b;by_cases v:s=n6
  ·simp only[go_sem,a,e,d,c,cz,bc,dQ,cW,eP,dR,v,x]at b;cases f:isType g t<;>rw[f]at a b<;>simp only[go_sem,a,e,d,c,cz,bc,dQ,cW,eP,dR,m,k,j,v,P,x,A,N,d5,d6,a,gx]<;>simp only[go_sem,a,e,d,c,cz,bc,dQ,cW,eP,dR,b,gx]
  by_cases w:s=kY
  ·simp only[go_sem,a,e,d,c,cz,bc,dQ,cW,eP,dR,w,A]at b;cases f:isType g t<;>rw[f]at a b<;>simp only[go_sem,a,e,d,c,cz,bc,dQ,cW,eP,dR,m,k,j,v,w,P,x,A,N,Y,X,a,gx]<;>simp only[go_sem,a,e,d,c,cz,bc,dQ,cW,eP,dR,b,gx]
  simp only[go_sem,a,e,d,c,cz,bc,dQ,cW,eP,dR,v,w,ite_self]at b;cases f:isType g t<;>rw[f]at a<;>simp only[go_sem,a,e,d,c,cz,bc,dQ,cW,eP,dR,m,k,j,v,w,a,b,gx]
 by_cases D:t.aq=4
 ·rw[D]at a i;have b:=fin (r:=if nE t.names s=I then Z s else O) (by simp[mY,D]);clear fin;cases f:isType g t<;>rw[f]at a b<;>cases k:nE t.names s<;>rw[k]at i b<;>simp only[go_sem,a,e,d,c,cz,bc,dQ,cW,eP,dR,D,i,a,b,gx]
 by_cases C:t.aq=5
 ·rw[C]at a i;have b:=fin (r:=if (jh s && !Z' (s.size=0))=I then Z s else O) (by simp[mY,C]);clear fin i;cases f:isType g t<;>rw[f]at a b<;>cases k:jh s<;>by_cases j:s.size=0<;>rw[k]at b<;>simp only[go_sem,a,e,d,c,cz,bc,dQ,cW,eP,dR,j]at b<;>simp only[go_sem,a,e,d,c,cz,bc,dQ,cW,eP,dR,C,k,j,a,b,gx]
 by_cases B:t.aq=6
 ·rw[B]at a i;have b:=fin (r:=if s.size=0 then Z s else O) (by simp[mY,B]);clear fin i;cases f:isType g t<;>rw[f]at a b<;>by_cases j:s.size=0<;>simp only[go_sem,a,e,d,c,cz,bc,dQ,cW,eP,dR,j]at b<;>simp only[go_sem,a,e,d,c,cz,bc,dQ,cW,eP,dR,B,j,a,b,gx]
 have b:=fin (r:=O) (by simp[mY,q,F,m,D,C,B]);clear fin i;cases f:isType g t<;>rw[f]at a b<;>simp only[go_sem,a,e,d,c,cz,bc,dQ,cW,eP,dR,q,F,m,D,C,B,a,b,gx]
end
section
theorem ah2{k:z->Bool}{mt:z->z->Bool}(T:∀s:z,s.size<=mg->G 285 [.str s]=Z (0,[.bool (k s)]))(U:∀p s:z,p.size<=mg->s.size<=mg->G 310 [.str p,.str s]=Z (0,[.bool (mt p s)]))
  {t:hY} {s:z} (Q:fm (ez t)<=mg) (P:s.size<=mg):G 311 (ez t++[.str s])=Z (0,gx (Ag k mt t s)):=by
 have j:=ah0 T Q;have N:=Q;rw[sO]at N;have q:=alf P;have e:=aaO P;have h5:=ah1 0;have d:=U t.pattern s (by omega) P;have c:∀n:Int,G 288 [gg t.ranges,E n]=Z (0,[.bool (Qh t.ranges n)]):=λn=>alg (by simp only[bW]at N;omega);have b:=q99 (l:=t.names) (v:=s) (by simp only[bW]at N;omega);rw[ez]at j;refine cN aez rfl ?_;clear T U;cases D:isType k t with
 |false=>
  have a:Ag k mt t s=O:=by rw[Ag,D];rfl
  rw[D]at j;simp only[go_sem,e,d,c,b,cz,bc,dQ,cW,eP,dR,aez,ez,j,a,gx]
 |true=>
 have S:Ag k mt t s=mY mt t s:=by rw[Ag,D];rfl
 rw[D]at j;rw[S];clear S;simp only[go_sem,e,d,c,b,cz,bc,dQ,cW,eP,dR,aez,ez,j];clear j;by_cases i:t.aq=1
 ·cases m:Bd s with
  |none=>
   have a:mY mt t s=O:=by simp[mY,i,m]
   rw[m]at q;simp only[go_sem,e,d,c,b,cz,bc,dQ,cW,eP,dR,i,q,h5,nJ,a,gx]
  |some n=>
   have R:=ah1 n;rw[m]at q;cases C:Qh t.ranges n with
   |false=>
    have a:mY mt t s=O:=by simp[mY,i,m,C]
    simp only[go_sem,e,d,c,b,cz,bc,dQ,cW,eP,dR,i,q,R,C,nJ,a,gx]
   |true=>
    have a:mY mt t s=Z (xE n):=by simp[mY,i,m,C]
    simp only[go_sem,e,d,c,b,cz,bc,dQ,cW,eP,dR,i,q,R,C,nJ,a,gx]
 by_cases B:t.aq=2
 ·have a:mY mt t s=if (jh s && (Qh t.ranges s.size && (Z' (t.pattern.size=0) ||mt t.pattern s)))=I then Z s else O:=by simp[mY,B]
  cases f:jh s<;>cases g:Qh t.ranges s.size<;>by_cases w:t.pattern.size=0<;>cases r:mt t.pattern s<;>rw[f,g,r]at a<;>simp only[go_sem,e,d,c,b,cz,bc,dQ,cW,eP,dR,w]at a<;>simp only[go_sem,e,d,c,b,cz,bc,dQ,cW,eP,dR,B,f,g,w,r,a,gx]
 by_cases h:t.aq=3
 ·have a:mY mt t s=if (Z' (ml s=n6) ||decide (ml s=kY))=I then Z (ml s) else O:=by simp[mY,h]
  have L:¬Ch=ug:=by decide
  have K:¬n6=kY:=by decide
  have H:¬kY=n6:=by decide
  have F:¬ug=Ch:=by decide
  have Y:¬n6=Ch:=by decide
  have X:¬n6=ug:=by decide
  have W:¬kY=Ch:=by decide
  have V:¬kY=ug:=by decide
  by_cases f:s=Ch
  ·have o:ml s=n6:=by rw[ml,if_pos f]
   rw[o]at a;rw[a];simp only[go_sem,e,d,c,b,cz,bc,dQ,cW,eP,dR,h,f,L,K,H,F,Y,X,gx]
  by_cases g:s=ug
  ·have o:ml s=kY:=by rw[ml,if_neg f,if_pos g]
   rw[o]at a;rw[a];simp only[go_sem,e,d,c,b,cz,bc,dQ,cW,eP,dR,h,g,L,K,H,F,W,V,gx]
  have o:ml s=s:=by rw[ml,if_neg f,if_neg g]
  rw[o]at a;rw[a];by_cases w:s=n6
  ·simp only[go_sem,e,d,c,b,cz,bc,dQ,cW,eP,dR,h,w,L,K,H,F,Y,X,gx]
  by_cases r:s=kY
  ·simp only[go_sem,e,d,c,b,cz,bc,dQ,cW,eP,dR,h,r,L,K,H,F,W,V,gx]
  simp only[go_sem,e,d,c,b,cz,bc,dQ,cW,eP,dR,h,f,g,w,r,gx]
 by_cases A:t.aq=4
 ·have a:mY mt t s=if nE t.names s=I then Z s else O:=by simp[mY,A]
  rw[a];cases f:nE t.names s<;>simp only[go_sem,e,d,c,b,cz,bc,dQ,cW,eP,dR,A,f,gx]
 by_cases y:t.aq=5
 ·have a:mY mt t s=if (jh s && !Z' (s.size=0))=I then Z s else O:=by simp[mY,y]
  rw[a];cases f:jh s<;>by_cases g:s.size=0<;>simp only[go_sem,e,d,c,b,cz,bc,dQ,cW,eP,dR,y,f,g,gx]
 by_cases x:t.aq=6
 ·have a:mY mt t s=if s.size=0 then Z s else O:=by simp[mY,x]
  rw[a];by_cases g:s.size=0<;>simp only[go_sem,e,d,c,b,cz,bc,dQ,cW,eP,dR,x,g,gx]
 have a:mY mt t s=O:=by simp[mY,i,B,h,A,y,x]
 rw[a];simp only[go_sem,e,d,c,b,cz,bc,dQ,cW,eP,dR,i,B,h,A,y,x,gx]
def isVal(a:z->Bool)(mt:z->z->Bool)(t:hY)(s:z):Bool:=match Ag a mt t s with
 |some v=>Z' (v=s)
 |none=>J
theorem ahR{a:z->Bool}{mt:z->z->Bool}(e:∀s:z,s.size<=mg->G 227 [.str s]=Z (0,[.bool (a s)]))(f:∀p s:z,p.size<=mg->s.size<=mg->G 236 [.str p,.str s]=Z (0,[.bool (mt p s)]))
  {t:hY} {s:z} (c:fm (ez t)<=mg) (d:s.size<=mg):G 238 (ez t++[.str s])=Z (0,[.bool (isVal a mt t s)]):=by
 have h:=ahQ e f c d;rw[ez]at h;refine cN t238 rfl ?_;unfold isVal;cases b:Ag a mt t s with
 |none=>rw[b]at h;simp only[go_sem,t238,ez]at h;simp only[go_sem,t238,ez,h,gx]
 |some v=>rw[b]at h;simp only[go_sem,t238,ez]at h;simp only[go_sem,t238,ez,h,gx]
theorem ah3{a:z->Bool}{mt:z->z->Bool}(e:∀s:z,s.size<=mg->G 285 [.str s]=Z (0,[.bool (a s)]))(f:∀p s:z,p.size<=mg->s.size<=mg->G 310 [.str p,.str s]=Z (0,[.bool (mt p s)]))
  {t:hY} {s:z} (c:fm (ez t)<=mg) (d:s.size<=mg):G 312 (ez t++[.str s])=Z (0,[.bool (isVal a mt t s)]):=by
 have h:=ah2 e f c d;rw[ez]at h;refine cN XN rfl ?_;unfold isVal;cases b:Ag a mt t s with
 |none=>rw[b]at h;simp only[go_sem,XN,ez]at h;simp only[go_sem,XN,ez,h,gx]
 |some v=>rw[b]at h;simp only[go_sem,XN,ez]at h;simp only[go_sem,XN,ez,h,gx]
end
section
theorem wc{k β d f:Type}{b:d->u (Sg d f)}(es:M k)(g:k->β)(h:Nat->d)(c:Nat->M β->d)(p:f)(j:M β->f)
  (v:∀e,nth es 0=Z e->b (h 0)=Z (.go (c 1 [g e])))
  (t:∀i e,nth es i=Z e->0 < i->b (c i ((es.take i).map g))=Z (.go (c (i+1) ((es.take i).map g++[g e]))))
  (y:es=[]->b (h 0)=Z (.out p)) (w:es≠[]->b (c es.length (es.map g))=Z (.out (j (es.map g)))) :
  cl b (h 0)=Z (if es.isEmpty=I then p else j (es.map g)):=by
 cases a:es with
 |nil=>rw[aX (y a)];rfl
 |cons x l=>
  have r:es≠[]:=by rw[a];simp
  have go:∀m i,i+m=es.length->0 < i->cl b (c i ((es.take i).map g))=Z (j (es.map g)):=by
   intro m
   induction m with
   |zero=>
    intro i s o;obtain rfl:i=es.length:=by omega
    rw[bo];exact aX (w r)
   |succ m q=>
    intro i s o;have a1:=dz (l:=es) (i:=i) (by omega);rw[bU (t i _ a1 o),<- zn a1];exact q (i+1) (by omega) (by omega)
  have n:nth es 0=Z x:=by rw[a];rfl
  rw[bU (v x n)];have:=go (es.length - 1) 1 (by rw[a];simp;omega) (by omega);rw[zn n]at this;simp only[bE,cj,av]at this;rw[this,a];rfl
theorem gy(k a:Nat)(c:Bool)(es b:M (M D))(d:a<=65536)(h:es.length+b.length<=2147483648):aU (.app k a) [.list k c es,.list k c b]=Z (.list k c (es++b)):=
 OC k a c es b (of_eq_true (aes d h))
theorem q76{t:hY}(a:fm (ez t)<=mg):G 76 (ez t)=Z (0,ez t):=by
 rw[sO]at a;have c:=gy 2 16 I [] (t.ranges.map j8) (by decide) (by simp only[bW,mg,aA,aP]at *;omega);have b:=gy 1 16 I [] (t.names.map fo) (by decide) (by simp only[bW,mg,aA,aP]at *;omega);refine cN t76 rfl ?_;simp only[go_sem,t76,ez,c,b]
theorem q77{p:oH}(g:fm (lP p)<=mg):G 77 (lP p)=Z (0,lP p):=by
 rw[Fx]at g;have c:p.steps.length<=mg:=by simp only[bW]at g;omega
 refine cN t77 rfl ?_;simp only[go_sem,t77,lP];have r:=wc (b:=lB G Hu) p.steps (λe=>e) (λi=>(0,[E (i:Int),.bool p.root,E p.rj,fT p.steps,.bool J,E 0,.bool p.root,E p.rj]))
  (λi a=>(1,[E (i:Int),.bool p.root,E p.rj,fT p.steps,.bool J,E 0,.bool p.root,E p.rj,fT a]))
  (0,[E 0,.bool J,.bool p.root,E p.rj,fT p.steps,.bool J,E 0,.bool p.root,E p.rj])
  (λa=>(1,[E p.steps.length,.bool J,.bool p.root,E p.rj,fT p.steps,.bool J,E 0,.bool p.root,E p.rj,fT a])) (by
   intro e d;have f:=bw d;have k:=wj f c;have j:=(gV g (bp d)).1;rw[zN]at j;have q:=gy 2 32 I [] (e.gM.map qf) (by decide) (by simp only[bW,mg,aA,aP]at *;omega);have o:aU (.wB 2 J) [.str e.ak,jM e.gM]=Z (.list 2 J [[.str e.ak,jM e.gM]]):=by simp[aU,chunk]
   have n:=gy 2 40 J [] [[.str e.ak,jM e.gM]] (by decide) (by simp);have m:aU .pl [.str e.ak]=Z (.bool J):=rfl;simp only[go_sem,bK,Hu,f,aR,d,lu,q,o,n,m,k];simp[fT,lu]) (by
   intro i e d v;have f:=bw d;have k:=wj f c;have j:=(gV g (bp d)).1;rw[zN]at j;have q:=gy 2 32 I [] (e.gM.map qf) (by decide) (by simp only[bW,mg,aA,aP]at *;omega);have o:aU (.wB 2 J) [.str e.ak,jM e.gM]=Z (.list 2 J [[.str e.ak,jM e.gM]]):=by simp[aU,chunk]
   have n:=gy 2 40 J ((p.steps.take i).map lu) [[.str e.ak,jM e.gM]] (by decide) (by simp only[mg,aA,bj,aG,aP]at *;omega);have m:aU .pl [.str e.ak]=Z (.bool J):=rfl;simp only[go_sem,bK,Hu,f,aR,d,lu,eV,q,o,n,m,k,cp,aZ,cj];simp[fT,lu]) (by
   intro h;simp only[go_sem,bK,Hu,h,cj,n0,fD]) (by
   intro h;simp only[go_sem,bK,Hu,aB,eV])
 rw[n0]at r;rw[r];cases t:p.steps with
 |nil=>simp only[go_sem,fQ,cj];rfl
 |cons s l=>simp only[go_sem,ga,eV]
theorem l6(k:Nat)(a:M D)(h:a.length=k)(b:0 < k):aU (.wB k J) a=Z (.list k J [a]):=by
 have e:a.length / k=1:=by rw[h];exact Nat.div_self b
 have d:a.length % k=0:=by rw[h];exact Nat.mod_self k
 have c:chunk k 1 a=Z [a]:=by
  simp only[chunk];rw[if_pos (by omega),fP (by omega),lj (by omega)];rfl
 simp only[aU,e,d,c,if_true];rw[if_pos (λh=>by cases h)]
theorem ah9(n:Nat):∀e:dX,aw e < n->fm (cG e)<=mg->G 78 (cG e)=Z (0,cG e):=by
 induction n with
 |zero=>intro e h;omega
 |succ n v=>
  intro e y r;have d:e.ae.length<=mg:=aH vj r;have A:=qx e;have t:=q77 (p:=e.path) (by omega);rw[lP]at t;refine cN t78 (by rw[bN];rfl) ?_;simp only[go_sem,t78,bN,t,cz];have st:∀(i:Nat) (x:dX) (l:M (M D)),nth e.ae i=Z x->l.length<=mg->G 78 (cG x)=Z (0,cG x)/\aU .pl [E x.op,E x.num,.str x.text,.bool x.path.root,E x.path.rj]=Z (.bool J)/\
    aU (.wB 7 J) (cG x)=Z (.list 7 J [cG x])/\aU (.app 7 96) [.list 7 J l,.list 7 J [cG x]]=Z (.list 7 J (l++[cG x])):=by
   intro i x l c o;refine⟨v x (by have:=dX.DZ (bp c);omega) (aH (D0 (bp c)) r),rfl,l6 7 _ (sn x) (by decide),gy 7 96 J l [cG x] (by decide) (by simp only[mg,aG,aP]at *;omega)⟩
  have o:=wc (b:=lB G Hv) e.ae (λe=>e) (λi=>(0,E (i:Int)::(cG e++[E 0,E 0,.str ⟨#[]⟩,.bool J,E 0,E e.op,E e.num,.str e.text,.bool e.path.root,E e.path.rj,fT e.path.steps])))
   (λi a=>(1,E (i:Int)::(cG e++[E 0,E 0,.str ⟨#[]⟩,.bool J,E 0,E e.op,E e.num,.str e.text,.bool e.path.root,E e.path.rj,ek a,fT e.path.steps])))
   (0,E 0::.bool J::(cG e++[E 0,E 0,.str ⟨#[]⟩,.bool J,E 0,E e.op,E e.num,.str e.text,.bool e.path.root,E e.path.rj,fT e.path.steps]))
   (λa=>(1,E e.ae.length::.bool J::(cG e++[E 0,E 0,.str ⟨#[]⟩,.bool J,E 0,E e.op,E e.num,.str e.text,.bool e.path.root,E e.path.rj,ek a,fT e.path.steps]))) (by
    intro x c;have f:=bw c;have m:=wj f d;obtain⟨k,q,j,g⟩:=st 0 x [] c (by simp);rw[bN x]at k j g;simp only[go_sem,bK,Hv,bN e,f,aR,c,jY];simp only[go_sem,bN x,k,q,j,g,m];simp[ek,bN x]) (by
    intro i x c B;have f:=bw c;have m:=wj f d;obtain⟨k,q,j,g⟩:=st i x ((e.ae.take i).map cG) c (by simp only[aA,bj];omega);rw[bN x]at k j g;simp only[go_sem,bK,Hv,bN e,f,aR,c,jY,eV];simp only[go_sem,bN x,k,q,j,g,m];simp[ek,bN x]) (by
    intro h;simp only[go_sem,bK,Hv,bN,h,cj,n0,fD]) (by
    intro h;simp only[go_sem,bK,Hv,bN,aB,eV])
  simp only[go_sem,bN,n0]at o;rw[o];cases w:e.ae with
  |nil=>simp only[go_sem,fQ,cj];rfl
  |cons s l=>simp only[go_sem,ga,eV]
theorem q78{e:dX}(a:fm (cG e)<=mg):G 78 (cG e)=Z (0,cG e):=ah9 _ e (aS _) a
end
section
def bS(e:ah):M D:=ay e++[.int .i64 0,.str ⟨#[]⟩,.int .i64 0,.str ⟨#[]⟩,.str ⟨#[]⟩,.str ⟨#[]⟩,.bool J,.bool J,.bool J,.bool J,.int .i64 0,.int .i64 0,.int .i64 e.aq,.str e.ak,.int .i64 e.type.aq,.str e.type.pattern,.str e.type.path,.str e.default,.bool e.given,.bool e.ft,.bool e.cZ,.bool e.fixed,.int .i64 e.min,.int .i64 e.max,aF e.ae,bn e.bk,bn e.unique]
def rS(e:ah):M D:=[gg e.type.ranges,bn e.type.names]
theorem Wr{e:ah}{w:D}(r:fm (ay e)<=mg) :
  cl (lB G Ep) (0,E 0::(bS e++[]++rS e))=Z (if e.when.isEmpty=I then (0,E 0::.bool J::(bS e++[]++rS e)) else (1,E e.when.length::.bool J::(bS e++[ek e.when]++rS e))):=by
 have q:=r;rw[eR]at q;have p:bW cG e.when<=mg:=by omega
 have d:e.when.length<=mg:=by simp only[bW]at p;omega
 have st:∀(i:Nat) (x:dX) (l:M (M D)),nth e.when i=Z x->l.length<=mg->G 78 (cG x)=Z (0,cG x)/\aU .pl [E x.op,E x.num,.str x.text,.bool x.path.root,E x.path.rj]=Z (.bool J)/\
   aU (.wB 7 J) (cG x)=Z (.list 7 J [cG x])/\aU (.app 7 96) [.list 7 J l,.list 7 J [cG x]]=Z (.list 7 J (l++[cG x])):=by
  intro i x l c n;refine⟨q78 (gV p (bp c)).1,rfl,l6 7 _ (sn x) (by decide),gy 7 96 J l [cG x] (by decide) (by simp only[mg,aG,aP]at *;omega)⟩
 have n:=wc (b:=lB G Ep) e.when (λe=>e) (λi=>(0,E (i:Int)::(bS e++[]++rS e))) (λi a=>(1,E (i:Int)::(bS e++[ek a]++rS e)))
  (0,E 0::.bool J::(bS e++[]++rS e)) (λa=>(1,E e.when.length::.bool J::(bS e++[ek a]++rS e))) (by
   intro x c;have f:=bw c;have m:=wj f d;obtain⟨k,o,j,g⟩:=st 0 x [] c (by simp);rw[bN x]at k j g;simp only[go_sem,bK,Ep,bS,rS,af,f,aR,c,jY];simp only[go_sem,bN x,k,o,j,g,m];simp[ek,bN x]) (by
   intro i x c s;have f:=bw c;have m:=wj f d;obtain⟨k,o,j,g⟩:=st i x ((e.when.take i).map cG) c (by simp only[aA,bj];omega);rw[bN x]at k j g;simp only[go_sem,bK,Ep,bS,rS,af,f,aR,c,jY,eV];simp only[go_sem,bN x,k,o,j,g,m];simp[ek,bN x]) (by
   intro h;simp only[go_sem,bK,Ep,bS,rS,af,h,cj,n0,fD]) (by
   intro h;simp only[go_sem,bK,Ep,bS,rS,af,aB,eV])
 rw[n0]at n;rw[n,eV]
theorem Ws{e:ah}{w:D}(r:fm (ay e)<=mg) :
  cl (lB G Er) (0,E 0::(bS e++[]++rS e))=Z (if e.jG.isEmpty=I then (0,E 0::.bool J::(bS e++[]++rS e)) else (1,E e.jG.length::.bool J::(bS e++[ek e.jG]++rS e))):=by
 have q:=r;rw[eR]at q;have p:bW cG e.jG<=mg:=by omega
 have d:e.jG.length<=mg:=by simp only[bW]at p;omega
 have st:∀(i:Nat) (x:dX) (l:M (M D)),nth e.jG i=Z x->l.length<=mg->G 78 (cG x)=Z (0,cG x)/\aU .pl [E x.op,E x.num,.str x.text,.bool x.path.root,E x.path.rj]=Z (.bool J)/\
   aU (.wB 7 J) (cG x)=Z (.list 7 J [cG x])/\aU (.app 7 96) [.list 7 J l,.list 7 J [cG x]]=Z (.list 7 J (l++[cG x])):=by
  intro i x l c n;refine⟨q78 (gV p (bp c)).1,rfl,l6 7 _ (sn x) (by decide),gy 7 96 J l [cG x] (by decide) (by simp only[mg,aG,aP]at *;omega)⟩
 have n:=wc (b:=lB G Er) e.jG (λe=>e) (λi=>(0,E (i:Int)::(bS e++[]++rS e))) (λi a=>(1,E (i:Int)::(bS e++[ek a]++rS e)))
  (0,E 0::.bool J::(bS e++[]++rS e)) (λa=>(1,E e.jG.length::.bool J::(bS e++[ek a]++rS e))) (by
   intro x c;have f:=bw c;have m:=wj f d;obtain⟨k,o,j,g⟩:=st 0 x [] c (by simp);rw[bN x]at k j g;simp only[go_sem,bK,Er,bS,rS,af,f,aR,c,jY];simp only[go_sem,bN x,k,o,j,g,m];simp[ek,bN x]) (by
   intro i x c s;have f:=bw c;have m:=wj f d;obtain⟨k,o,j,g⟩:=st i x ((e.jG.take i).map cG) c (by simp only[aA,bj];omega);rw[bN x]at k j g;simp only[go_sem,bK,Er,bS,rS,af,f,aR,c,jY,eV];simp only[go_sem,bN x,k,o,j,g,m];simp[ek,bN x]) (by
   intro h;simp only[go_sem,bK,Er,bS,rS,af,h,cj,n0,fD]) (by
   intro h;simp only[go_sem,bK,Er,bS,rS,af,aB,eV])
 rw[n0]at n;rw[n,eV]
theorem Wt{e:ah}{w:D}(r:fm (ay e)<=mg) :
  cl (lB G Es) (0,E 0::(bS e++[w]++rS e))=Z (if e.jG.isEmpty=I then (0,E 0::.bool J::(bS e++[w]++rS e)) else (1,E e.jG.length::.bool J::(bS e++[w,ek e.jG]++rS e))):=by
 have q:=r;rw[eR]at q;have p:bW cG e.jG<=mg:=by omega
 have d:e.jG.length<=mg:=by simp only[bW]at p;omega
 have st:∀(i:Nat) (x:dX) (l:M (M D)),nth e.jG i=Z x->l.length<=mg->G 78 (cG x)=Z (0,cG x)/\aU .pl [E x.op,E x.num,.str x.text,.bool x.path.root,E x.path.rj]=Z (.bool J)/\
   aU (.wB 7 J) (cG x)=Z (.list 7 J [cG x])/\aU (.app 7 96) [.list 7 J l,.list 7 J [cG x]]=Z (.list 7 J (l++[cG x])):=by
  intro i x l c n;refine⟨q78 (gV p (bp c)).1,rfl,l6 7 _ (sn x) (by decide),gy 7 96 J l [cG x] (by decide) (by simp only[mg,aG,aP]at *;omega)⟩
 have n:=wc (b:=lB G Es) e.jG (λe=>e) (λi=>(0,E (i:Int)::(bS e++[w]++rS e))) (λi a=>(1,E (i:Int)::(bS e++[w,ek a]++rS e)))
  (0,E 0::.bool J::(bS e++[w]++rS e)) (λa=>(1,E e.jG.length::.bool J::(bS e++[w,ek a]++rS e))) (by
   intro x c;have f:=bw c;have m:=wj f d;obtain⟨k,o,j,g⟩:=st 0 x [] c (by simp);rw[bN x]at k j g;simp only[go_sem,bK,Es,bS,rS,af,f,aR,c,jY];simp only[go_sem,bN x,k,o,j,g,m];simp[ek,bN x]) (by
   intro i x c s;have f:=bw c;have m:=wj f d;obtain⟨k,o,j,g⟩:=st i x ((e.jG.take i).map cG) c (by simp only[aA,bj];omega);rw[bN x]at k j g;simp only[go_sem,bK,Es,bS,rS,af,f,aR,c,jY,eV];simp only[go_sem,bN x,k,o,j,g,m];simp[ek,bN x]) (by
   intro h;simp only[go_sem,bK,Es,bS,rS,af,h,cj,n0,fD]) (by
   intro h;simp only[go_sem,bK,Es,bS,rS,af,aB,eV])
 rw[n0]at n;rw[n,eV]
theorem ah.iz(e:ah)(es:M ah):aw e.ae < aw (e::es):=by
 cases e;simp only[bG,ah.mk.sizeOf_spec];omega
theorem ah.er(e:ah):aw e.ae < aw e:=by
 cases e;simp only[ah.mk.sizeOf_spec];omega
theorem qT(e:ah):(ay e).length=19:=by rw[af];rfl
theorem bO(e:ah)(k:Nat)(a:Bool):aU (.has 19) [.list k a [ay e]]=Z (.bool J):=by
 rw[ya,qT,if_pos (az 19)]
theorem ew(e:ah):bW ay e.ae<=fm (ay e):=by rw[eR];omega
theorem Xb{e:ah}(b:fm (ay e)<=mg)(c:G 79 [aF e.ae]=Z (0,[aF e.ae])):G 80 (ay e)=Z (0,ay e):=by
 have i:=b;rw[eR]at i;have a:=q76 (t:=e.type) (by omega);rw[ez]at a;have o:=sO e.type;have n:=gy 1 16 I [] (e.bk.map fo) (by decide) (by simp only[bW,mg,aA,aP]at *;omega);have k:=gy 1 16 I [] (e.unique.map fo) (by decide) (by simp only[bW,mg,aA,aP]at *;omega);have g:=Wr (e:=e) (w:=.bool J) b;have f:=Ws (e:=e) (w:=.bool J) b;have d:=Wt (e:=e) (w:=ek e.when) b;simp only[go_sem,bS,rS,af]at g f d;refine cN t80 (by rw[af];rfl) ?_;simp only[go_sem,t80,af,a,n,k,cz];rw[g];cases h:e.when with
 |nil=>
  rw[h]at f g;simp only[go_sem,fQ];rw[f];cases j:e.jG with
  |nil=>simp only[go_sem,fQ,c];rfl
  |cons x l=>simp only[go_sem,ga,c];rfl
 |cons y m=>
  rw[h]at d;simp only[go_sem,ga];rw[d];cases j:e.jG with
  |nil=>simp only[go_sem,fQ,c];rfl
  |cons x l=>simp only[go_sem,ga,c]
end
section
theorem plS(x:ah):aU .pl [E x.aq,.str x.ak,E x.type.aq,.str x.type.pattern,.str x.type.path,.str x.default,.bool x.given,.bool x.ft,.bool x.cZ,.bool x.fixed,E x.min,E x.max]=Z (.bool J):=(rfl)
theorem mkS(x:ah):aU (.wB 19 J) (ay x)=Z (.list 19 J [ay x]):=l6 19 _ (qT x) (by decide)
theorem afa(l:M (M D))(x:M D)(h:l.length<=mg):aU (.app 19 272) [.list 19 J l,.list 19 J [x]]=Z (.list 19 J (l++[x])):=
 gy 19 272 J l [x] (by decide) (by simp only[mg,aG,aP]at *;omega)
theorem ah_(n:Nat):∀l:M ah,aw l < n->bW ay l<=mg->G 79 [aF l]=Z (0,[aF l]):=by
 induction n with
 |zero=>intro l h;omega
 |succ n q=>
  intro l t g;have d:l.length<=mg:=by simp only[bW]at g;omega
  refine cN t79 rfl ?_;simp only[go_sem,t79];have j:=ei (b:=lB G LS) l (λi (a:M ah)=>(0,[aF l,E (i:Int),aF a])) (λi=>l.take i) (0,[aF l,E l.length,.bool J,aF l]) (by
   intro i x c;have k:=bw c;have r:=wj k d;have f:fm (ay x)<=mg:=(gV g (bp c)).1;have s:=q x.ae (by have:=ba (bp c);have:=ah.er x;omega) (aH (ew x) f);have e:=Xb f s;have o:=mkS x;have m:=afa ((l.take i).map ay) (ay x) (by simp only[aA,bj];omega);rw[af x]at e o m;simp only[go_sem,bK,LS,k,aR,c,bO];simp only[go_sem,af x,e,plS,o,m,r,cB _ _ _ c];simp[aF,af x]) (by simp only[go_sem,bK,LS,aB,bo]) l.length 0 (by omega)
  rw[n0,bE]at j;have p:cl (lB G LS) (0,[aF l,E 0,.list 19 J []])=_:=j;rw[p];simp only[go_sem]
theorem q79{l:M ah}(a:bW ay l<=mg):G 79 [aF l]=Z (0,[aF l]):=ah_ _ l (aS _) a
theorem q80{e:ah}(a:fm (ay e)<=mg):G 80 (ay e)=Z (0,ay e):=Xb a (q79 (aH (ew e) a))
def kM(k:Int):Bool:=fS 1 4 k
def o6(k:Int):Bool:=Z' (k=5) ||decide (k=6)
theorem q75(k:Int):G 75 [E k]=Z (0,[.bool (kM k)]):=by
 refine cN t75 rfl ?_;simp only[go_sem,t75,mj,kM]
theorem zC(k:Int):G 92 [E k]=Z (0,[.bool (kM k)]):=by
 have h:kM k=(Z' (k=1) ||decide (k=2) ||decide (k=3) ||decide (k=4)):=by
  rw[dC];simp[kM,fS];omega
 refine cN t92 rfl ?_;simp only[go_sem,t92]
 repeat' (first|with_reducible rfl|((first|rw[gA]|rw[gC]|rw[gz]|rw[gB]);split<;>simp only[go_sem, *]))
 all_goals simp_all
def dk:M ah->M ah
 |[]=>[]
 |e::es=>(if kM e.aq=I then [e] else if o6 e.aq=I then dk e.ae else [])++dk es
termination_by es=>aw es
decreasing_by
 ·exact ah.iz e es
 ·simp only[bG];omega
def uR(e:ah):M ah:=if kM e.aq=I then [e] else if o6 e.aq=I then dk e.ae else []
theorem ny(e:ah)(es:M ah):dk (e::es)=uR e++dk es:=by rw[dk];rfl
theorem td:dk []=[]:=by rw[dk]
theorem UR:∀(a b:M ah),dk (a++b)=dk a++dk b
 |[],b=>by rw[td];rfl
 |e::a,b=>by rw[au,ny,ny,UR a b,bB]
theorem Cu(a:M ah)(e:ah):dk (a++[e])=dk a++uR e:=by rw[UR,ny,td,aJ]
theorem afo(n:Nat):∀(es:M ah),aw es < n->bW ay (dk es)<=bW ay es:=by
 induction n with
 |zero=>intro es h;omega
 |succ n a=>
  intro es h;cases es with
  |nil=>rw[td];exact az _
  |cons e es=>
   have d:=a es (by simp only[bG]at h;omega);have c:=a e.ae (by have:=ah.iz e es;omega);rw[ny,zO,eS];have b:bW ay (uR e)<=fm (ay e)+1:=by
    unfold uR;split
    ·rw[eS];simp[bW,qy]
    ·split
     ·have:=ew e;omega
     ·simp[bW,qy]
   omega
theorem nV{es:M ah}:bW ay (dk es)<=bW ay es:=afo _ es (aS _)
theorem Cv{es:M ah}(i:Nat)(a:bW ay es<=mg):(dk (es.take i)).length<=mg:=by
 have c:=nV (es:=es.take i);have b:=FB ay es i;simp only[bW]at *;omega
theorem abO{k:Int}(h:kM k=I):o6 k=J/\¬k=5/\¬k=6:=by
 have:=(gZ _ _ _).1 h;have b:¬k=5:=by omega
 have a:¬k=6:=by omega
 exact⟨by simp[o6,b,a],b,a⟩
theorem aia(n:Nat):∀l:M ah,aw l < n->bW ay l<=mg->G 81 [aF l]=Z (0,[aF (dk l)]):=by
 induction n with
 |zero=>intro l h;omega
 |succ n B=>
  intro l C q;have j:l.length<=mg:=by simp only[bW]at q;omega
  refine cN t81 rfl ?_;simp only[go_sem,t81];have t:=ei (b:=lB G BK) l (λi (a:M ah)=>(0,[aF l,E (i:Int),aF a])) (λi=>dk (l.take i)) (0,[aF l,E l.length,.bool J,aF (dk l)]) (by
   intro i x c;have k:=bw c;have p:=wj k j;have s:fm (ay x)<=mg:=(gV q (bp c)).1;have w:=aH (ew x) s;have A:=Cv i q;have r:=Cv (i+1) q;rw[cB _ _ _ c,Cu]at r;rw[cB _ _ _ c,Cu];cases hd:kM x.aq with
   |true=>
    obtain⟨D,e,d⟩:=abO hd;have o:=q80 s;have v:=mkS x;have g:=afa ((dk (l.take i)).map ay) (ay x) (by rw[aA];exact A);have f:uR x=[x]:=by rw[uR,if_pos hd]
    rw[af x]at o v g;rw[f];simp only[go_sem,bK,BK,k,aR,c,bO];simp only[go_sem,af x,q75,hd];simp only[go_sem,af x,c,bO,aR,o,plS,v,g,e,d,p];simp[aF,af x]
   |false=>
    have m:=B x.ae (by have:=ba (bp c);have:=ah.er x;omega) w;by_cases e:x.aq=5
    ·have f:uR x=dk x.ae:=by rw[uR,if_neg (by rw[hd];simp),if_pos (by simp[o6,e])]
     rw[f]at r ⊢;have g:=gy 19 272 J ((dk (l.take i)).map ay) ((dk x.ae).map ay) (by decide) (by simp only[mg,aA,a_]at *;omega);rw[e]at hd;simp only[go_sem,bK,BK,k,aR,c,bO];simp only[go_sem,af x,q75,hd,e];simp only[go_sem,af x,c,aR,e,m,g,p];simp[aF]
    ·by_cases d:x.aq=6
     ·have f:uR x=dk x.ae:=by rw[uR,if_neg (by rw[hd];simp),if_pos (by simp[o6,d])]
      rw[f]at r ⊢;have g:=gy 19 272 J ((dk (l.take i)).map ay) ((dk x.ae).map ay) (by decide) (by simp only[mg,aA,a_]at *;omega);rw[d]at hd;simp only[go_sem,bK,BK,k,aR,c,bO];simp only[go_sem,af x,q75,hd,d];simp only[go_sem,af x,c,aR,d,m,g,p];simp[aF]
     ·have f:uR x=[]:=by rw[uR,if_neg (by rw[hd];simp),if_neg (by simp[o6,e,d])]
      rw[f,aJ];simp only[go_sem,bK,BK,k,aR,c,bO];simp only[go_sem,af x,q75,hd];simp only[go_sem,af x,c,aR,e,d,p]) (by simp only[go_sem,bK,BK,aB,bo]) l.length 0 (by omega)
  rw[n0,bE,td]at t;have y:cl (lB G BK) (0,[aF l,E 0,.list 19 J []])=_:=t;rw[y];simp only[go_sem]
theorem q81{l:M ah}(a:bW ay l<=mg):G 81 [aF l]=Z (0,[aF (dk l)]):=aia _ l (aS _) a
end
section
def Am(c:Bool)(l:M ah):M Bool:=match l with
 |[]=>[]
 |e::es=>(if kM e.aq=I then [c] else if o6 e.aq=I then Am (c ||decide (e.aq=6)) e.ae else [])++Am c es
termination_by aw l
decreasing_by
 ·exact ah.iz e es
 ·simp only[bG];omega
def uS(c:Bool)(e:ah):M Bool:=if kM e.aq=I then [c] else if o6 e.aq=I then Am (c ||decide (e.aq=6)) e.ae else []
theorem uT(c:Bool)(e:ah)(es:M ah):Am c (e::es)=uS c e++Am c es:=by rw[Am];rfl
theorem Cs(c:Bool):Am c []=[]:=by rw[Am]
theorem K2(c:Bool)(e:ah):∀(a:M ah),Am c (a++[e])=Am c a++uS c e
 |[]=>by rw[av,uT,Cs];simp
 |x::a=>by rw[au,uT,uT,K2 c e a,bB]
theorem Y6(n:Nat):∀(c:Bool) (l:M ah),aw l < n->(Am c l).length=(dk l).length:=by
 induction n with
 |zero=>intro c l h;omega
 |succ n a=>
  intro c l h;cases l with
  |nil=>rw[Cs,td];rfl
  |cons e es=>
   rw[uT,ny,a_,a_,a c es (by simp only[bG]at h;omega)]
   congr 1
   unfold uS uR;split
   ·rfl
   ·split
    ·exact a _ e.ae (by have:=ah.iz e es;omega)
    ·rfl
theorem An(c:Bool)(l:M ah):(Am c l).length=(dk l).length:=Y6 _ c l (aS _)
def kE{a:Type}(l:M a):Nat:=if l.isEmpty=I then 0 else 1
theorem akm(x:ah):aU .TU (ay x)=Z (.bool J):=by rw[af];rfl
theorem gE{a:Type}:kE ([]:M a)=0:=(rfl)
theorem rM{a:Type}(l m:M a)(h:m≠[]):kE (l++m)=1:=by
 unfold kE;rw[if_neg];cases l<;>cases m<;>simp_all
theorem iJ{a:Type}{l:M a}(h:l≠[]):kE l=1:=by simpa using rM [] l h
theorem afb(a b:M ah)(h:a.length+b.length<=mg):aU (.app 19 272) [aF a,aF b]=Z (aF (a++b)):=by
 have:=gy 19 272 J (a.map ay) (b.map ay) (by decide) (by simp only[mg,aA]at *;omega);rw[<- cp]at this;exact this
theorem ae7(a b:M Bool)(h:a.length+b.length<=mg):aU (.app 1 1) [bI a,bI b]=Z (bI (a++b)):=by
 have:=gy 1 1 I (a.map BB) (b.map BB) (by decide) (by simp only[mg,aA]at *;omega);rw[<- cp]at this;exact this
theorem mkB(c:Bool):aU (.wB 1 I) [.bool c]=Z (bI [c]):=by simp[aU,chunk,dW,D.plain,BB,bI]
theorem aif(n:Nat):∀(l:M ah) (c:Bool),aw l < n->bW ay l<=mg->G 93 [aF l,.bool c]=Z (kE (dk l),[aF (dk l),bI (Am c l)]):=by
 induction n with
 |zero=>intro l c h;omega
 |succ n K=>
  intro l c Y L;have D:l.length<=mg:=by simp only[bW]at L;omega
  refine cN t93 rfl ?_;simp only[go_sem,t93];have S:=ei (b:=lB G kP) l (λi (a:M ah×M Bool)=>(kE a.1,[.bool c,aF l,E l.length,E (i:Int),aF a.1,bI a.2])) (λi=>(dk (l.take i),Am c (l.take i)))
   (kE (dk l),[.bool c,aF l,E l.length,E l.length,.bool J,aF (dk l),bI (Am c l)]) (by
   intro i x g;have k:=bw g;have m:=wj k D;have U:fm (ay x)<=mg:=(gV L (bp g)).1;have H:=aH (ew x) U;have X:=Cv i L;have F:=Cv (i+1) L;have Q:=An c (l.take i);rw[cB _ _ _ g,Cu]at F;rw[cB _ _ _ g,Cu,K2];have v:dk (l.take i)=[]->Am c (l.take i)=[]:=λh=>cP.1 (by rw[Q,h];rfl);have P:(uS c x).length=(uR x).length:=by
    have t:=An c [x];rw[uT,Cs,ny,td]at t
    simpa using t
   have j:=afb (dk (l.take i)) (uR x) (by rw[a_]at F;exact F);have hB:=ae7 (Am c (l.take i)) (uS c x) (by rw[Q,P];rw[a_]at F;exact F);have R:=mkB c;have B:=mkS x;have A:=akm x;rw[af x]at B A;generalize W:dk (l.take i)=a at *;generalize V:Am c (l.take i)=f at *;cases hd:kM x.aq with
   |true=>
    have t:uR x=[x]:=by rw[uR,if_pos hd]
    have s:uS c x=[c]:=by rw[uS,if_pos hd]
    rw[t]at j ⊢;rw[s]at hB ⊢;have C:aU (.app 19 272) [aF a,.list 19 J [ay x]]=Z (aF (a++[x])):=j;rw[af x]at C;rw[rM a [x] (by simp)];cases a with
    |nil=>
     have q:=v rfl;subst q;simp only[go_sem,bK,kP,gE,k,aR,g,bO];simp only[go_sem,af x,zC,hd,A,B,C,R,hB,m]
    |cons y a=>
     simp only[go_sem,bK,kP,iJ (bP y a),k,aR,g,bO];simp only[go_sem,af x,zC,hd,A,B,C,R,hB,m]
   |false=>
    have N:=hd;by_cases p:x.aq=6
    ·have t:uR x=dk x.ae:=by rw[uR,if_neg (by rw[hd];simp),if_pos (by simp[o6,p])]
     have o:¬x.aq=5:=by omega
     rw[t]at j ⊢;rw[p]at hd;cases c with
     |true=>
      have e:=K x.ae I (by have:=ba (bp g);have:=ah.er x;omega) H;have s:uS I x=Am I x.ae:=by rw[uS,if_neg (by rw[N];simp),if_pos (by simp[o6,p])];simp[p]
      rw[s]at hB ⊢;cases r:dk x.ae with
      |nil=>
       rw[r]at e j;have w:Am I x.ae=[]:=cP.1 (by rw[An,r];rfl);rw[w]at e hB ⊢;cases a with
       |nil=>
        have q:=v rfl;subst q;rw[aJ,aJ];simp only[go_sem,bK,kP,gE,gE,k,aR,g,bO];simp only[go_sem,af x,zC,hd,p,e,gE,j,hB,m,aJ]
       |cons y a=>
        rw[aJ,aJ];simp only[go_sem,bK,kP,iJ (bP y a),gE,k,aR,g,bO];simp only[go_sem,af x,zC,hd,p,e,gE,j,hB,m,aJ]
      |cons d b=>
       rw[r]at e j;cases a with
       |nil=>
        have q:=v rfl;subst q;rw[rM _ (d::b) (by simp)];simp only[go_sem,bK,kP,gE,iJ (bP d b),k,aR,g,bO];simp only[go_sem,af x,zC,hd,p,e,iJ (bP d b),j,hB,m,aJ]
       |cons y a=>
        rw[rM _ (d::b) (by simp)];simp only[go_sem,bK,kP,iJ (bP y a),iJ (bP d b),k,aR,g,bO];simp only[go_sem,af x,zC,hd,p,e,iJ (bP d b),j,hB,m,aJ]
     |false=>
      have e:=K x.ae I (by have:=ba (bp g);have:=ah.er x;omega) H;have s:uS J x=Am I x.ae:=by rw[uS,if_neg (by rw[N];simp),if_pos (by simp[o6,p])];simp[p]
      rw[s]at hB ⊢;cases r:dk x.ae with
      |nil=>
       rw[r]at e j;have w:Am I x.ae=[]:=cP.1 (by rw[An,r];rfl);rw[w]at e hB ⊢;cases a with
       |nil=>
        have q:=v rfl;subst q;rw[aJ,aJ];simp only[go_sem,bK,kP,gE,gE,k,aR,g,bO];simp only[go_sem,af x,zC,hd,p,e,gE,j,hB,m,aJ]
       |cons y a=>
        rw[aJ,aJ];simp only[go_sem,bK,kP,iJ (bP y a),gE,k,aR,g,bO];simp only[go_sem,af x,zC,hd,p,e,gE,j,hB,m,aJ]
      |cons d b=>
       rw[r]at e j;cases a with
       |nil=>
        have q:=v rfl;subst q;rw[rM _ (d::b) (by simp)];simp only[go_sem,bK,kP,gE,iJ (bP d b),k,aR,g,bO];simp only[go_sem,af x,zC,hd,p,e,iJ (bP d b),j,hB,m,aJ]
       |cons y a=>
        rw[rM _ (d::b) (by simp)];simp only[go_sem,bK,kP,iJ (bP y a),iJ (bP d b),k,aR,g,bO];simp only[go_sem,af x,zC,hd,p,e,iJ (bP d b),j,hB,m,aJ]
    ·by_cases o:x.aq=5
     ·have t:uR x=dk x.ae:=by rw[uR,if_neg (by rw[hd];simp),if_pos (by simp[o6,o])]
      rw[t]at j ⊢;rw[o]at hd;cases c with
      |true=>
       have e:=K x.ae I (by have:=ba (bp g);have:=ah.er x;omega) H;have s:uS I x=Am I x.ae:=by rw[uS,if_neg (by rw[N];simp),if_pos (by simp[o6,o])];simp[o]
       rw[s]at hB ⊢;cases r:dk x.ae with
       |nil=>
        rw[r]at e j;have w:Am I x.ae=[]:=cP.1 (by rw[An,r];rfl);rw[w]at e hB ⊢;cases a with
        |nil=>
         have q:=v rfl;subst q;rw[aJ,aJ];simp only[go_sem,bK,kP,gE,gE,k,aR,g,bO];simp only[go_sem,af x,zC,hd,o,e,gE,j,hB,m,aJ]
        |cons y a=>
         rw[aJ,aJ];simp only[go_sem,bK,kP,iJ (bP y a),gE,k,aR,g,bO];simp only[go_sem,af x,zC,hd,o,e,gE,j,hB,m,aJ]
       |cons d b=>
        rw[r]at e j;cases a with
        |nil=>
         have q:=v rfl;subst q;rw[rM _ (d::b) (by simp)];simp only[go_sem,bK,kP,gE,iJ (bP d b),k,aR,g,bO];simp only[go_sem,af x,zC,hd,o,e,iJ (bP d b),j,hB,m,aJ]
        |cons y a=>
         rw[rM _ (d::b) (by simp)];simp only[go_sem,bK,kP,iJ (bP y a),iJ (bP d b),k,aR,g,bO];simp only[go_sem,af x,zC,hd,o,e,iJ (bP d b),j,hB,m,aJ]
      |false=>
       have e:=K x.ae J (by have:=ba (bp g);have:=ah.er x;omega) H;have s:uS J x=Am J x.ae:=by rw[uS,if_neg (by rw[N];simp),if_pos (by simp[o6,o])];simp[o]
       rw[s]at hB ⊢;cases r:dk x.ae with
       |nil=>
        rw[r]at e j;have w:Am J x.ae=[]:=cP.1 (by rw[An,r];rfl);rw[w]at e hB ⊢;cases a with
        |nil=>
         have q:=v rfl;subst q;rw[aJ,aJ];simp only[go_sem,bK,kP,gE,gE,k,aR,g,bO];simp only[go_sem,af x,zC,hd,o,e,gE,j,hB,m,aJ]
        |cons y a=>
         rw[aJ,aJ];simp only[go_sem,bK,kP,iJ (bP y a),gE,k,aR,g,bO];simp only[go_sem,af x,zC,hd,o,e,gE,j,hB,m,aJ]
       |cons d b=>
        rw[r]at e j;cases a with
        |nil=>
         have q:=v rfl;subst q;rw[rM _ (d::b) (by simp)];simp only[go_sem,bK,kP,gE,iJ (bP d b),k,aR,g,bO];simp only[go_sem,af x,zC,hd,o,e,iJ (bP d b),j,hB,m,aJ]
        |cons y a=>
         rw[rM _ (d::b) (by simp)];simp only[go_sem,bK,kP,iJ (bP y a),iJ (bP d b),k,aR,g,bO];simp only[go_sem,af x,zC,hd,o,e,iJ (bP d b),j,hB,m,aJ]
     ·have t:uR x=[]:=by rw[uR,if_neg (by rw[hd];simp),if_neg (by simp[o6,o,p])]
      have s:uS c x=[]:=by rw[uS,if_neg (by rw[hd];simp),if_neg (by simp[o6,o,p])]
      rw[t,s,aJ,aJ];cases a with
      |nil=>
       simp only[go_sem,bK,kP,gE,k,aR,g,bO];simp only[go_sem,af x,zC,hd,o,p,m]
      |cons y a=>
       simp only[go_sem,bK,kP,iJ (bP y a),k,aR,g,bO];simp only[go_sem,af x,zC,hd,o,p,m]) (by
   rw[bo];cases hd:dk l with
   |nil=>simp only[go_sem,bK,kP,gE,aB]
   |cons y a=>simp only[go_sem,bK,kP,iJ (bP y a),aB]) l.length 0 (by omega)
  rw[n0,bE,td,Cs]at S;have T:cl (lB G kP) (0,[.bool c,aF l,E l.length,E 0,.list 19 J [],.list 1 I []])=_:=S;rw[T];cases hd:dk l with
  |nil=>simp only[go_sem,gE]
  |cons y a=>simp only[go_sem,iJ (bP y a)]
theorem q93{l:M ah}{c:Bool}(a:bW ay l<=mg):G 93 [aF l,.bool c]=Z (kE (dk l),[aF (dk l),bI (Am c l)]):=aif _ l c (aS _) a
theorem q94{l:M ah}(b:bW ay l<=mg):G 94 [aF l]=Z (kE (dk l),[aF (dk l)]):=by
 have h:=q93 (c:=J) b;refine cN t94 rfl ?_;cases hd:dk l with
 |nil=>rw[hd]at h;simp only[go_sem,t94,h,gE]
 |cons y a=>rw[hd]at h;simp only[go_sem,t94,h,iJ (bP y a)]
end
section
def dO(l:M ah)(a:z):u Nat:=mB (λe=>Z' (e.ak=a)) l 0
theorem q82{l:M ah}{nm:z}(hlen:l.length<=mg):G 82 [aF l,.str nm]=Z (0,[E (ko (dO l nm))]):=by
 refine cN t82 rfl ?_;simp only[go_sem,t82];have c:=qh (b:=lB G Qx) l (λi=>(0,[aF l,.str nm,E (i:Int)])) (λe=>Z' (e.ak=nm)) (1,[aF l,.str nm,E l.length,.bool J]) (λi e=>(0,[E (i:Int)])) (by
  intro i e a;have d:=bw a;have f:=wj d hlen;simp only[go_sem,bK,Qx,d,aR,a,af];cases h:Z' (e.ak=nm)<;>simp only[go_sem,h,f]) (by simp only[go_sem,bK,Qx,aB])
 rw[n0]at c;rw[c];unfold dO;cases g:mB (λe=>Z' (e.ak=nm)) l 0 with
 |none=>simp only[go_sem,ko]
 |some j=>
  obtain⟨e,k,m⟩:=dU g;simp only[go_sem,k,ko]
theorem q95{l:M ah}(hlen:l.length<=mg):G 95 [aF l]=Z (0,[bn (l.map ah.ak)]):=by
 refine cN t95 rfl ?_;simp only[go_sem,t95];have g:=ei (b:=lB G LU) l (λi (a:M z)=>(0,[aF l,E l.length,E (i:Int),bn a])) (λi=>(l.take i).map ah.ak) (0,[aF l,E l.length,E l.length,.bool J,bn (l.map ah.ak)]) (by
  intro i e c;have j:=bw c;have m:=wj j hlen;have f:aU (.app 1 16) [bn ((l.take i).map ah.ak),.list 1 I [[.str e.ak]]]=Z (bn ((l.take (i+1)).map ah.ak)):=by
   have h:=gy 1 16 I (((l.take i).map ah.ak).map fo) [[.str e.ak]] (by decide) (by simp only[mg,aA,bj,aG,aP]at *;omega);rw[h,zn c];simp[fo]
  have d:aU (.wB 1 I) [.str e.ak]=Z (.list 1 I [[.str e.ak]]):=by simp[aU,chunk,dW,D.plain]
  simp only[go_sem,bK,LU,j,aR,c,bO];simp only[go_sem,af e,d,f,m]) (by simp only[go_sem,bK,LU,aB,bo]) l.length 0 (by omega)
 rw[n0,bE]at g;have k:cl (lB G LU) (0,[aF l,E l.length,E 0,.list 1 I []])=_:=g;rw[k];simp only[go_sem]
theorem Z0{l:M z}{e:z}{k:Nat}(a:nth l k=Z e)(hlen:l.length<=mg) :
  cl (lB G AL) (0,[bn l,E (k:Int),E 0])=Z (if (l.take k).all (λx=>!Z' (x=e))=I then (1,[bn l,E (k:Int),E (k:Int),.bool J]) else (0,[.bool J])):=by
 have h:=bw a;have c:=qV (b:=lB G AL) (λj=>(0,[bn l,E (k:Int),E (j:Int)])) (atB (λx=>!Z' (x=e)) l) k (1,[bn l,E (k:Int),E (k:Int),.bool J]) (0,[.bool J]) (by
  intro j d;have a1:=dz (l:=l) (i:=j) (by omega);have f:=wj (i:=j) (n:=k) d (by omega);generalize l[j]'(by omega)=x at a1;simp only[go_sem,bK,AL,d,aR,a,a1,fo,atB];cases g:Z' (x=e)<;>simp only[go_sem,g,f]) (by simp only[go_sem,bK,AL,aB]) k 0 (by omega)
 rw[n0]at c;rw[c,yx _ l k 0 (by omega),br]
def rP(l:M z):Bool:=tc l && Z' (l.length<=3)
theorem Y5(l:M z):tc l=allI (λk e=>(l.take k).all λx=>!Z' (x=e)) 0 l:=by
 rw[tc]
 congr 1
 funext i e
 rw[Lt,aL]
theorem ahJ{l:M z}(hlen:l.length<=mg):G 212 [bn l]=Z (0,[.bool (rP l)]):=by
 refine cN t212 rfl ?_;simp only[go_sem,t212];have c:=pD (b:=lB G I4) l (λk=>(0,[bn l,E (k:Int)])) (λk e=>(l.take k).all λx=>!Z' (x=e)) (1,[bn l,E l.length,.bool J]) (0,[.bool J]) (by
  intro k e a;have d:=bw a;have f:=wj d hlen;simp only[go_sem,bK,I4,d,Z0 a hlen];cases g:(l.take k).all (λx=>!Z' (x=e))<;>simp only[go_sem,g,f]) (by simp only[go_sem,bK,I4,aB]) l.length 0 (by omega)
 rw[n0,br]at c;rw[c,rP,Y5];cases allI (λk e=>(l.take k).all λx=>!Z' (x=e)) 0 l<;>simp only[go_sem,ac2]
def mW(e:ah):Bool:=fS 0 1000000000 e.min && (Z' (e.max=0) ||fS e.min 1000000000 e.max)
theorem ahK(e:ah):G 213 (ay e)=Z (0,[.bool (mW e)]):=by
 refine cN t213 (by rw[af];rfl) ?_;simp only[go_sem,t213,af,mj]
 repeat' (first|with_reducible rfl|((first|rw[gA]|rw[gC]|rw[gz]|rw[gB]);split<;>simp only[go_sem,mj, *]))
 all_goals simp_all[mW]
theorem S8(e:ah):mW e=(Z' (0<=e.min) && (Z' (e.min<=1000000000) && (Z' (0<=e.max) && (Z' (e.max<=1000000000) && (Z' (e.max=0) ||decide (e.min<=e.max)))))):=by
 rw[dC];simp only[mW,fS,ai,df,decide_eq_true_eq];omega
theorem ala(e:ah):G 272 (ay e)=Z (0,[.bool (mW e)]):=by
 rw[S8];refine cN aiv (by rw[af];rfl) ?_;simp only[go_sem,aiv,af]
 repeat' (first|with_reducible rfl|((first|rw[gA]|rw[gC]|rw[gz]|rw[gB]);split<;>simp only[go_sem, *]))
 all_goals simp_all
end
section
def eK:M ah->Nat
 |[]=>0
 |e::es=>1+eK e.ae+eK es
termination_by es=>aw es
decreasing_by
 ·exact ah.iz e es
 ·simp only[bG];omega
def eY:M ah->Nat
 |[]=>0
 |e::es=>eK e.ae+eY es
theorem qQ:∀(l:M ah),eK l=l.length+eY l
 |[]=>by rw[eK];rfl
 |e::l=>by rw[eK,qQ l,eY,aG];omega
theorem rD(e:ah):∀(l:M ah),eY (l++[e])=eY l+eK e.ae
 |[]=>by simp[eY]
 |x::l=>by rw[au,eY,eY,rD e l];omega
theorem F6(l:M ah)(i:Nat):eY l=eY (l.take i)+eY (l.drop i):=by
 have app:∀(a b:M ah),eY (a++b)=eY a+eY b:=by
  intro a
  induction a with
  |nil=>intro b;simp[eY]
  |cons x a c=>intro b;rw[au,eY,eY,c b];omega
 rw[<- app,bD]
theorem KW(n:Nat):∀(l:M ah),aw l < n->eK l<=bW ay l:=by
 induction n with
 |zero=>intro l h;omega
 |succ n a=>
  intro l h;cases l with
  |nil=>rw[eK];omega
  |cons e l=>
   have c:=a l (by simp only[bG]at h;omega);have b:=a e.ae (by have:=ah.iz e l;omega);rw[eK,eS];have:=ew e;omega
theorem KY{l:M ah}:eK l<=bW ay l:=KW _ l (aS _)
theorem ad2(n:Nat):∀l:M ah,aw l < n->bW ay l<=mg->G 255 [aF l]=Z (0,[E (eK l)]):=by
 induction n with
 |zero=>intro l h;omega
 |succ n g=>
  intro l t d;have c:l.length<=mg:=by simp only[bW]at d;omega
  refine cN t255 rfl ?_;simp only[go_sem,t255];have e:=ei (b:=lB G Jb) l (λi (m:Nat)=>(0,[E (m:Int),aF l,E l.length,E (i:Int)])) (λi=>l.length+eY (l.take i)) (0,[E (eK l),aF l,E l.length,E l.length,.bool J]) (by
   intro i x a;have f:=bw a;have k:=wj f c;have j:=(gV d (bp a)).1;have o:=aH (ew x) j;have s:=g x.ae (by have:=ba (bp a);have:=ah.er x;omega) o;have r:=F6 l (i+1);have q:=KY (l:=l);rw[qQ]at q;rw[cB _ _ _ a,rD]at r;have p:IntKind.i64.wrap (((l.length+eY (l.take i):Nat):Int)+(eK x.ae:Int))=((l.length+(eY (l.take i)+eK x.ae):Nat):Int):=by rw[wrap_i64 (by simp only[mg]at d;omega)];omega
   rw[cB _ _ _ a,rD];simp only[go_sem,bK,Jb,f,aR,a,bO];simp only[go_sem,af x,s,p,k]) (by
   rw[bo,qQ];simp only[go_sem,bK,Jb,aB]) l.length 0 (by omega)
  rw[n0,bE,eY,dx]at e;rw[e];simp only[go_sem]
theorem ak2{l:M ah}(a:bW ay l<=mg):G 255 [aF l]=Z (0,[E (eK l)]):=ad2 _ l (aS _) a
def vW(l:M ah)(x r:Int):Prop:=((eK l:Int)<=x->r=x - eK l)/\(x < (eK l:Int)->r < 0)/\-33554432<=r
theorem adM(n:Nat):∀(l:M ah) (x:Int),aw l < n->bW ay l<=mg->0<=x->x<=1048576->∃r,G 201 [aF l,E x]=Z (0,[E r])/\vW l x r:=by
 induction n with
 |zero=>intro l x h;omega
 |succ n D=>
  intro l x Q w S R;have b:l.length<=mg:=by simp only[bW]at w;omega
  have o:IntKind.i64.wrap (x - (l.length:Int))=x - l.length:=wrap_i64 (by simp only[mg]at b;omega);have loop:∀m i (y:Int),i+m=l.length->-33554432<=y->y<=1048576->∃(r a:Int),cl (lB G D4) (0,[aF l,E y,E (i:Int)])=Z (0,[aF l,E r,E a,.bool J])/\(0<=y->(eY (l.drop i):Int)<=y->r=y - eY (l.drop i))/\(y < 0\/y < (eY (l.drop i):Int)->r < 0)/\-33554432<=r:=by
   intro m
   induction m with
   |zero=>
    intro i y H B A;obtain rfl:i=l.length:=by omega
    refine⟨y,l.length,aX (by simp only[go_sem,bK,D4,aB]),?_⟩;rw[bJ];simp only[eY];omega
   |succ m N=>
    intro i y H B A;have c:i < l.length:=by omega
    have a1:=dz (l:=l) (i:=i) c;have hd:=eM l i _ a1;generalize l[i]'c=e at a1 hd;by_cases f:0<=y
    ·have t:=bp a1;have P:=aH (ew e) (gV w t).1;obtain⟨v,L,s,C,K⟩:=D e.ae y (by have:=ba t;have:=ah.er e;omega) P f A;have p:v<=1048576:=by
      by_cases q:(eK e.ae:Int)<=y
      ·have:=s q;omega
      ·have:=C (by omega);omega
     obtain⟨r,a,k,j,d,g⟩:=N (i+1) v (by omega) K p;have F:=wj c b;refine⟨r,a,?_,?_⟩
     ·rw[<- k];refine bU ?_;simp only[go_sem,bK,D4,c,aR,a1,f];simp only[go_sem,af e,L,F]
     ·rw[hd,eY];refine⟨λ_ h=>?_,λh=>?_,g⟩
      ·have:=s (by omega);have:=j (by omega) (by omega);omega
      ·by_cases q:(eK e.ae:Int)<=y
       ·have:=s q;exact d (by omega)
       ·have:=C (by omega);exact d (.inl this)
    ·refine⟨y,i,aX (by simp only[go_sem,bK,D4,c,f]),λh=>absurd h f,λ_=>by omega,B⟩
  obtain⟨r,a,k,j,d,g⟩:=loop l.length 0 (x - l.length) (by omega) (by simp only[mg]at b;omega) (by omega);rw[n0,br]at *;refine⟨r,cN t201 rfl ?_,?_⟩
  ·simp only[go_sem,t201,o,k]
  ·unfold vW;rw[qQ];refine⟨λh=>?_,λh=>?_,g⟩
   ·have:=j (by omega) (by omega);omega
   ·exact d (by omega)
theorem akE{l:M ah}{x:Int}(b:bW ay l<=mg)(c:0<=x)(a:x<=1048576):∃r,G 201 [aF l,E x]=Z (0,[E r])/\vW l x r:=adM _ l x (aS _) b c a
theorem aE.iz(e:aE)(es:M aE):aw e.ae < aw (e::es):=by
 cases e;simp only[bG,aE.mk.sizeOf_spec];omega
theorem aE.er(e:aE):aw e.ae < aw e:=by
 cases e;simp only[aE.mk.sizeOf_spec];omega
theorem RG(e:aE):(bl e).length=3:=by rw[aV];rfl
theorem gI(e:aE)(k:Nat)(a:Bool):aU (.has 3) [.list k a [bl e]]=Z (.bool J):=by
 rw[ya,RG,if_pos (az 3)]
theorem EI(e:aE):bW bl e.ae<=fm (bl e):=by rw[ij];omega
def gN:M aE->Nat
 |[]=>0
 |e::es=>1+gN e.ae+gN es
termination_by es=>aw es
decreasing_by
 ·exact aE.iz e es
 ·simp only[bG];omega
def ib:M aE->Nat
 |[]=>0
 |e::es=>gN e.ae+ib es
theorem vZ:∀(l:M aE),gN l=l.length+ib l
 |[]=>by rw[gN];rfl
 |e::l=>by rw[gN,vZ l,ib,aG];omega
theorem uK(e:aE):∀(l:M aE),ib (l++[e])=ib l+gN e.ae
 |[]=>by simp[ib]
 |x::l=>by rw[au,ib,ib,uK e l];omega
theorem KJ(l:M aE)(i:Nat):ib l=ib (l.take i)+ib (l.drop i):=by
 have app:∀(a b:M aE),ib (a++b)=ib a+ib b:=by
  intro a
  induction a with
  |nil=>intro b;simp[ib]
  |cons x a c=>intro b;rw[au,ib,ib,c b];omega
 rw[<- app,bD]
theorem RB(n:Nat):∀(l:M aE),aw l < n->gN l<=bW bl l:=by
 induction n with
 |zero=>intro l h;omega
 |succ n a=>
  intro l h;cases l with
  |nil=>rw[gN];omega
  |cons e l=>
   have c:=a l (by simp only[bG]at h;omega);have b:=a e.ae (by have:=aE.iz e l;omega);rw[gN,eS];have:=EI e;omega
theorem RC{l:M aE}:gN l<=bW bl l:=RB _ l (aS _)
theorem aef(n:Nat):∀l:M aE,aw l < n->bW bl l<=mg->G 317 [aO l]=Z (0,[E (gN l)]):=by
 induction n with
 |zero=>intro l h;omega
 |succ n g=>
  intro l t d;have c:l.length<=mg:=by simp only[bW]at d;omega
  refine cN aiG rfl ?_;simp only[go_sem,aiG];have e:=ei (b:=lB G Jo) l (λi (m:Nat)=>(0,[E (m:Int),aO l,E l.length,E (i:Int)])) (λi=>l.length+ib (l.take i)) (0,[E (gN l),aO l,E l.length,E l.length,.bool J]) (by
   intro i x a;have f:=bw a;have k:=wj f c;have j:=(gV d (bp a)).1;have o:=aH (EI x) j;have s:=g x.ae (by have:=ba (bp a);have:=aE.er x;omega) o;have r:=KJ l (i+1);have q:=RC (l:=l);rw[vZ]at q;rw[cB _ _ _ a,uK]at r;have p:IntKind.i64.wrap (((l.length+ib (l.take i):Nat):Int)+(gN x.ae:Int))=((l.length+(ib (l.take i)+gN x.ae):Nat):Int):=by rw[wrap_i64 (by simp only[mg]at d;omega)];omega
   rw[cB _ _ _ a,uK];simp only[go_sem,bK,Jo,f,aR,a,gI];simp only[go_sem,aV x,s,p,k]) (by
   rw[bo,vZ];simp only[go_sem,bK,Jo,aB]) l.length 0 (by omega)
  rw[n0,bE,ib,dx]at e;rw[e];simp only[go_sem]
theorem alm{l:M aE}(a:bW bl l<=mg):G 317 [aO l]=Z (0,[E (gN l)]):=aef _ l (aS _) a
def Cm(l:M aE)(x r:Int):Prop:=((gN l:Int)<=x->r=x - gN l)/\(x < (gN l:Int)->r < 0)/\-33554432<=r
theorem adZ(n:Nat):∀(l:M aE) (x:Int),aw l < n->bW bl l<=mg->0<=x->x<=1048576->∃r,G 242 [aO l,E x]=Z (0,[E r])/\Cm l x r:=by
 induction n with
 |zero=>intro l x h;omega
 |succ n D=>
  intro l x Q w S R;have b:l.length<=mg:=by simp only[bW]at w;omega
  have o:IntKind.i64.wrap (x - (l.length:Int))=x - l.length:=wrap_i64 (by simp only[mg]at b;omega);have loop:∀m i (y:Int),i+m=l.length->-33554432<=y->y<=1048576->∃(r a:Int),cl (lB G Eb) (0,[aO l,E y,E (i:Int)])=Z (0,[aO l,E r,E a,.bool J])/\(0<=y->(ib (l.drop i):Int)<=y->r=y - ib (l.drop i))/\(y < 0\/y < (ib (l.drop i):Int)->r < 0)/\-33554432<=r:=by
   intro m
   induction m with
   |zero=>
    intro i y H B A;obtain rfl:i=l.length:=by omega
    refine⟨y,l.length,aX (by simp only[go_sem,bK,Eb,aB]),?_⟩;rw[bJ];simp only[ib];omega
   |succ m N=>
    intro i y H B A;have c:i < l.length:=by omega
    have a1:=dz (l:=l) (i:=i) c;have hd:=eM l i _ a1;generalize l[i]'c=e at a1 hd;by_cases f:0<=y
    ·have t:=bp a1;have P:=aH (EI e) (gV w t).1;obtain⟨v,L,s,C,K⟩:=D e.ae y (by have:=ba t;have:=aE.er e;omega) P f A;have p:v<=1048576:=by
      by_cases q:(gN e.ae:Int)<=y
      ·have:=s q;omega
      ·have:=C (by omega);omega
     obtain⟨r,a,k,j,d,g⟩:=N (i+1) v (by omega) K p;have F:=wj c b;refine⟨r,a,?_,?_⟩
     ·rw[<- k];refine bU ?_;simp only[go_sem,bK,Eb,c,aR,a1,f];simp only[go_sem,aV e,L,F]
     ·rw[hd,ib];refine⟨λ_ h=>?_,λh=>?_,g⟩
      ·have:=s (by omega);have:=j (by omega) (by omega);omega
      ·by_cases q:(gN e.ae:Int)<=y
       ·have:=s q;exact d (by omega)
       ·have:=C (by omega);exact d (.inl this)
    ·refine⟨y,i,aX (by simp only[go_sem,bK,Eb,c,f]),λh=>absurd h f,λ_=>by omega,B⟩
  obtain⟨r,a,k,j,d,g⟩:=loop l.length 0 (x - l.length) (by omega) (by simp only[mg]at b;omega) (by omega);rw[n0,br]at *;refine⟨r,cN t242 rfl ?_,?_⟩
  ·simp only[go_sem,t242,o,k]
  ·unfold Cm;rw[vZ];refine⟨λh=>?_,λh=>?_,g⟩
   ·have:=j (by omega) (by omega);omega
   ·exact d (by omega)
theorem akW{l:M aE}{x:Int}(b:bW bl l<=mg)(c:0<=x)(a:x<=1048576):∃r,G 242 [aO l,E x]=Z (0,[E r])/\Cm l x r:=adZ _ l x (aS _) b c a
end
section
def tf:M ah->Nat
 |[]=>0
 |e::es=>max (1+tf e.ae) (tf es)
termination_by es=>aw es
decreasing_by
 ·exact ah.iz e es
 ·simp only[bG];omega
theorem K5(e:ah):∀(l:M ah),tf (l++[e])=max (tf l) (1+tf e.ae)
 |[]=>by simp[tf]
 |x::l=>by rw[au,tf,K5 e l,tf,Nat.max_assoc]
theorem afB(n:Nat):∀(l:M ah),aw l < n->tf l<=bW ay l:=by
 induction n with
 |zero=>intro l h;omega
 |succ n a=>
  intro l h;cases l with
  |nil=>rw[tf];omega
  |cons e l=>
   have c:=a l (by simp only[bG]at h;omega);have b:=a e.ae (by have:=ah.iz e l;omega);rw[tf,eS];have:=ew e;omega
theorem UU{l:M ah}:tf l<=bW ay l:=afB _ l (aS _)
theorem ad3(n:Nat):∀l:M ah,aw l < n->bW ay l<=mg->G 256 [aF l]=Z (0,[E (tf l)]):=by
 induction n with
 |zero=>intro l h;omega
 |succ n k=>
  intro l s e;have c:l.length<=mg:=by simp only[bW]at e;omega
  refine cN t256 rfl ?_;simp only[go_sem,t256];have f:=ei (b:=lB G Jc) l (λi (m:Nat)=>(0,[E (m:Int),aF l,E l.length,E (i:Int)])) (λi=>tf (l.take i)) (0,[E (tf l),aF l,E l.length,E l.length,.bool J]) (by
   intro i x a;have j:=bw a;have p:=wj j c;have o:=(gV e (bp a)).1;have g:=aH (ew x) o;have r:=k x.ae (by have:=ba (bp a);have:=ah.er x;omega) g;have t:=UU (l:=x.ae);have q:IntKind.i64.wrap (1+(tf x.ae:Int))=((1+tf x.ae:Nat):Int):=by rw[wrap_i64 (by simp only[mg]at g;omega)];omega
   rw[cB _ _ _ a,K5];simp only[go_sem,bK,Jc,j,aR,a,bO];simp only[go_sem,af x,r,q,mx,p]) (by
   rw[bo];simp only[go_sem,bK,Jc,aB]) l.length 0 (by omega)
  have d:((tf []:Nat):Int)=0:=by simp[tf]
  rw[n0,bE,d]at f;rw[f];simp only[go_sem]
theorem ak3{l:M ah}(a:bW ay l<=mg):G 256 [aF l]=Z (0,[E (tf l)]):=ad3 _ l (aS _) a
def Cd:ah:=⟨0,⟨#[]⟩,⟨0,[],[],⟨#[]⟩,⟨#[]⟩⟩,[],[],⟨#[]⟩,J,J,J,J,0,0,[],[],[]⟩
def lV(l:M ah)(a:z):u Nat:=mB (λe=>Z' (e.ak=a) && Z' (e.aq=3)) l 0
theorem aaP{l:M ah}{nm:z}(hlen:l.length<=mg):G 314 [aF l,.str nm]=Z (match lV l nm with
  |some j=>match nth l j with
   |some e=>(0,ay e++[.bool I])
   |none=>(1,ay Cd++[.bool J])
  |none=>(1,ay Cd++[.bool J])):=by
 refine cN aiF rfl ?_;simp only[go_sem,aiF,cz];have g:=qh (b:=lB G Jn) l (λi=>(0,[.str nm,aF l,E l.length,E (i:Int),E 0,.str ⟨#[]⟩,E 0,.str ⟨#[]⟩,.str ⟨#[]⟩,.str ⟨#[]⟩,.bool J,.bool J,.bool J,.bool J,E 0,E 0])) (λe=>Z' (e.ak=nm) && Z' (e.aq=3))
  (1,[.str nm,aF l,E l.length,E l.length,.bool J,E 0,.str ⟨#[]⟩,E 0,.str ⟨#[]⟩,.str ⟨#[]⟩,.str ⟨#[]⟩,.bool J,.bool J,.bool J,.bool J,E 0,E 0]) (λi e=>(0,.bool I::ay e)) (by
  intro i e f;have h:=bw f;have d:=wj h hlen;simp only[go_sem,bK,Jn,h,aR,f,bO];by_cases a:e.ak=nm
  ·by_cases c:e.aq=3
   ·simp only[go_sem,af e,a,c]
   ·simp only[go_sem,af e,a,c,d]
  ·simp only[go_sem,af e,a,d]) (by simp only[go_sem,bK,Jn,aB])
 rw[n0]at g;rw[g];unfold lV;cases k:mB (λe=>Z' (e.ak=nm) && Z' (e.aq=3)) l 0 with
 |none=>simp only[go_sem,af,Cd,cz];rfl
 |some j=>
  obtain⟨e,a,c⟩:=dU k;simp only[go_sem,a,af]
end
section
noncomputable def unr{a c:Type}(b:a->u (Sg a c)):u (Sg a c)->u c
 |some (.go s)=>cl b s
 |some (.out r)=>Z r
 |none=>O
theorem wg{a c:Type}(b:a->u (Sg a c))(s:a):cl b s=unr b (b s):=by
 cases h:b s with
 |none=>
  unfold cl;rw[dif_neg]
  ·rfl
  ·rintro⟨r,d⟩
   cases d with
   |out g=>rw[h]at g;cases g
   |go g _=>rw[h]at g;cases g
 |some x=>
  cases x with
  |go e=>rw[bU h];rfl
  |out r=>rw[aX h];rfl
theorem J_{a c:Type}(b:a->u (Sg a c))(s:a):unr b (Z (.go s))=cl b s:=(rfl)
theorem CU{a c:Type}(b:a->u (Sg a c))(r:c):unr b (Z (.out r))=Z r:=(rfl)
theorem PU{a β:Type}(f:a->β)(p:β->Bool):∀(l:M a) (k:Nat),mB p (l.map f) k=mB (λe=>p (f e)) l k
 |[],_=>rfl
 |e::l,k=>by simp only[aZ,mB,PU f p l (k+1)]
theorem vf(l:M ah)(a:z):ix (l.map ah.ak) a=dO l a:=by
 rw[ix,PU,dO]
 congr 1
 funext e
 exact decide_eq_decide.2 eq_comm
theorem UZ{d:M ah}{j:Nat}{e:ah}(h:nth d j=Z e):aU (.UY 19 0 19 J) [aF d,E (j:Int)]=Z (.list 0 J [ay e]):=by
 have a:nth (d.map ay) j=Z (ay e):=by rw[aR,h];rfl
 simp only[aU,cd,a];rw[qT];simp
theorem afD{d:M ah}{j:Nat}{e:ah}(h:nth d j=Z e):aU (.UY 19 18 1 J) [aF d,E (j:Int)]=Z (.list 0 J [ay e]):=by
 have a:nth (d.map ay) j=Z (ay e):=by rw[aR,h];rfl
 simp only[aU,cd,a];rw[qT];simp
theorem aih{l:M ah}{nm:z}(q:bW ay l<=mg):G 97 [aF l,bn [nm]]=Z (match dO (dk l) nm with
  |some j=>match nth (dk l) j with
   |some e=>(1,ay e++[.bool I])
   |none=>(0,ay Cd++[.bool J])
  |none=>(0,ay Cd++[.bool J])):=by
 have hd:=nV (es:=l);have m:(dk l).length<=mg:=by simp only[bW]at *;omega
 have b:=q94 q;have k:=q95 (l:=dk l) m;have a:=q96 (l:=(dk l).map ah.ak) (v:=nm) (by rw[aA];exact m);rw[vf]at a;refine cN t97 rfl ?_;simp only[go_sem,cz,wg,J_,CU,bK,LV,aR,fo,t97];cases i:dO (dk l) nm with
 |none=>
  rw[i]at a;have f:aU .pl [E (-1)]=Z (.bool J):=rfl;by_cases n:dk l=[]
  ·have d:kE (dk l)=0:=by rw[n];rfl
   simp only[go_sem,cz,wg,J_,CU,bK,LV,aR,fo,b,d,k,a,f,ko,af,Cd];rfl
  ·have d:kE (dk l)=1:=iJ n;simp only[go_sem,cz,wg,J_,CU,bK,LV,aR,fo,b,d,k,a,f,ko,af,Cd];rfl
 |some j=>
  obtain⟨e,c,y⟩:=dU i;rw[i]at a;have f:aU .pl [E (j:Int)]=Z (.bool J):=rfl;have o:dk l≠[]:=by intro h;rw[h]at c;cases c
  have r:=bw c;have x:=UZ c;have w:=afD c;have t:=lZ 19 J ((dk l).map ay) j (by rw[aA];exact r);have g:¬(j:Int) < 0:=by omega
  have d:kE (dk l)=1:=iJ o;have p:IntKind.i64.wrap 1=1:=by decide
  have s:Z' ((1:Int) < 1)=J:=by decide
  simp only[go_sem,cz,wg,J_,CU,bK,LV,aR,fo,b,d,k,a,f,ko,x,w,t,g,c,p,s,af]
end
section
def sI(l:M aE)(a:z):u Nat:=mB (λe=>Z' (e.ak=a)) l 0
theorem akX{l:M aE}{nm:z}(hlen:l.length<=mg):G 243 [aO l,.str nm]=Z (0,[E (ko (sI l nm))]):=by
 refine cN t243 rfl ?_;simp only[go_sem,t243];have c:=qh (b:=lB G Ja) l (λi=>(0,[aO l,.str nm,E (i:Int)])) (λe=>Z' (e.ak=nm)) (1,[aO l,.str nm,E l.length,.bool J]) (λi e=>(0,[E (i:Int)])) (by
  intro i e a;have d:=bw a;have f:=wj d hlen;simp only[go_sem,bK,Ja,d,aR,a,aV];cases h:Z' (e.ak=nm)<;>simp only[go_sem,h,f]) (by simp only[go_sem,bK,Ja,aB])
 rw[n0]at c;rw[c];unfold sI;cases g:mB (λe=>Z' (e.ak=nm)) l 0 with
 |none=>simp only[go_sem,ko]
 |some j=>
  obtain⟨e,k,m⟩:=dU g;simp only[go_sem,k,ko]
theorem QL(a:z):∀(l:M aE) (k:Nat),S5 a (l.map bl) (k:Int)=Z (ko (mB (λe=>Z' (e.ak=a)) l k))
 |[],k=>rfl
 |e::l,k=>by
  have h:=QL a l (k+1);simp only[aZ,aV e,S5,mB];by_cases b:e.ak=a
  ·simp[b,ko]
  ·have c:S5 a (l.map bl) ((k:Int)+1)=Z (ko (mB (λe=>Z' (e.ak=a)) l (k+1))):=h;simp[b,c]
theorem aie(l:M aE)(a:z):G 9003 [aO l,.str a]=Z (0,[E (ko (sI l a))]):=
 xw (i:=9003) (sg:=⟨9003,[.val J [.d],.val J [.d]],[([.val J [.d]],[])]⟩) (v:=([.val J [.d]],[])) (j:=0) (r:=([.val J [.d (E (ko (sI l a)))]],[])) (ws:=[aO l,.str a]) rfl rfl ((WA T rfl [.val J [.d (aO l)],.val J [.d (.str a)]]).trans (by
  have h:=QL a l 0;have b:S5 a (l.map bl) 0=Z (ko (sI l a)):=h;simp only[XT,aO,b];rfl)) rfl rfl
def jD(k:Int):Bool:=Z' (k=2) ||decide (k=4)
theorem akZ(k:Int):G 247 [E k]=Z (0,[.bool (jD k)]):=by
 refine cN t247 rfl ?_;simp only[go_sem,t247,jD];cases h:Z' (k=2)<;>simp only[go_sem,h]
def hH(l:M aE)(a:z):u z:=match sI l a with
 |some j=>(nth l j).map aE.bg
 |none=>O
def vg(l:M aE):M z->M z->M z×Bool
 |t,[]=>(t,I)
 |t,k::a=>match hH l k with
  |none=>(t,J)
  |some v=>vg l (t++[v]) a
def ZX{a:Type}(l:M aE)(g:Nat->M z->a)(i:Nat)(t:M z)(k:z):Sg (M z) a:=match hH l k with
 |none=>.out (g i t)
 |some v=>.go (t++[v])
def keyOf(n:ah)(x:aE):M z×Bool:=
 if n.aq=2 then (if (vg x.ae [] n.bk).2=I then ((vg x.ae [] n.bk).1,I) else ([],J)) else ([x.bg],I)
theorem HH{l:M aE}{k:z}:sI l k=O->hH l k=O:=λh=>by rw[hH,h]
theorem HI{l:M aE}{k:z}{j:Nat}{e:aE}(h:sI l k=Z j)(a:nth l j=Z e):hH l k=Z e.bg:=by rw[hH,h];simp only[a,aQ]
theorem DE{b:Type}(l:M aE)(g:M z->b):∀(a:M z) (i:Nat) (t:M z),
  jP (ZX l (λ_ t=>g t)) i t a=if (vg l t a).2=I then .go (vg l t a).1 else .out (g (vg l t a).1)
 |[],_,_=>rfl
 |k::a,i,t=>by
  cases h:hH l k with
  |none=>simp only[jP,ZX,vg,h];rfl
  |some v=>simp only[jP,ZX,vg,h];exact DE l g a (i+1) (t++[v])
theorem ae6{t:M z}{v:z}(h:t.length < mg):aU (.app 1 16) [bn t,.list 1 I [[.str v]]]=Z (bn (t++[v])):=by
 have h:=gy 1 16 I (t.map fo) [[.str v]] (by decide) (by simp only[mg,aA,aG,aP]at *;omega);rw[h];simp[fo]
theorem iZ:bn []=.list 1 I []:=(rfl)
theorem WJ(v:z):aU (.wB 1 I) [.str v]=Z (.list 1 I [[.str v]]):=by simp[aU,chunk,dW,D.plain]
theorem aaL{n:ah}{x:aE}(y:n.bk.length<=mg)(r:x.ae.length<=mg):G 244 (ay n++bl x)=Z (0,[bn (keyOf n x).1,.bool (keyOf n x).2]):=by
 refine cN t244 (by rw[af,aV];rfl) ?_;simp only[go_sem,t244,af,aV];have d:=yS (b:=lB G Ec) n.bk (λi (t:M z)=>(0,E (i:Int)::(ay n++bl x++[bn t]))) (ZX x.ae (λ_ t=>(0,[.bool J,bn t])))
  (λt=>(1,E n.bk.length::.bool J::(ay n++bl x++[bn t]))) (λi t=>t.length=i) [] rfl (by
  intro i k t g p;have h:=bw g;have s:=wj h y;have f:=akX (l:=x.ae) (nm:=k) r;have m:∀v,aU (.app 1 16) [bn t,.list 1 I [[.str v]]]=Z (bn (t++[v])):=λv=>ae6 (by omega);cases a:sI x.ae k with
  |none=>
   rw[a]at f;simp only[go_sem,bK,Ec,h,aR,g,af,aV,fo,f,ko,ZX,HH a,Na];intro B w;cases w
  |some j=>
   obtain⟨e,q,C⟩:=dU a;rw[a]at f;have A:¬(j:Int) < 0:=by omega
   simp only[go_sem,bK,Ec,h,aR,g,af n,aV x,fo,f,ko,A,ZX,HI a q,Na];simp only[go_sem,q,aV e,WJ,m,s];simp[p]) (by
  intro t p;simp only[go_sem,bK,Ec,aB,af,aV])
 rw[n0,DE]at d;simp only[af,aV,au,av,iZ]at d;rw[keyOf];by_cases c:n.aq=2
 ·have hd:Z' (n.aq=2)=I:=by simp[c]
  simp only[go_sem,hd];rw[d];clear d;cases o:(vg x.ae [] n.bk).2
  ·simp only[go_sem,sgF,c,o];rfl
  ·simp only[go_sem,sgF,c,o]
 ·have hd:Z' (n.aq=2)=J:=by simp[c]
  simp only[go_sem,hd,WJ,c];rfl
theorem W9{n:ah}{x:aE}(y:n.bk.length<=mg)(C:x.ae.length<=mg):G 320 (ay n++bl x)=Z (0,[bn (keyOf n x).1,.bool (keyOf n x).2]):=by
 refine cN aiH (by rw[af,aV];rfl) ?_;simp only[go_sem,aiH,af,aV];have d:=yS (b:=lB G Ei) n.bk (λi (t:M z)=>(0,[bn n.bk,E n.bk.length,E (i:Int),.str x.ak,.str x.bg,aO x.ae,bn t])) (ZX x.ae (λ_ t=>(0,[.bool J,bn t,bn []])))
  (λt=>(1,[bn n.bk,E n.bk.length,E n.bk.length,.bool J,.str x.ak,.str x.bg,aO x.ae,bn t])) (λi t=>t.length=i) [] rfl (by
  intro i k t h q;have m:=bw h;have s:=wj m y;have f:=aie x.ae k;have l:aU (.wB 1 I) []=Z (bn []):=by simp[aU,chunk,dW,D.plain]
  have o:∀v,aU (.app 1 16) [bn t,.list 1 I [[.str v]]]=Z (bn (t++[v])):=λv=>ae6 (by omega);cases a:sI x.ae k with
  |none=>
   rw[a]at f;simp only[go_sem,bK,Ei,m,aR,h,fo,f,ko,ZX,HH a,Na,l];intro B w;cases w
  |some j=>
   obtain⟨e,r,F⟩:=dU a;rw[a]at f;have A:¬(j:Int) < 0:=by omega
   simp only[go_sem,bK,Ei,m,aR,h,fo,f,ko,A,ZX,HI a r,Na];simp only[go_sem,r,aV e,WJ,o,s];simp[q]) (by
  intro t q;simp only[go_sem,bK,Ei,aB])
 rw[n0,DE (g:=λt=>(0,[D.bool J,bn t,bn []]))]at d;simp only[iZ]at d;rw[keyOf];by_cases c:n.aq=2
 ·have hd:Z' (n.aq=2)=I:=by simp[c]
  simp only[go_sem,hd];rw[d];clear d;cases p:(vg x.ae [] n.bk).2
  ·simp only[go_sem,sgF,c,p];rfl
  ·simp only[go_sem,sgF,c,p]
 ·have hd:Z' (n.aq=2)=J:=by simp[c]
  simp only[go_sem,hd,WJ,c];rfl
end
section
theorem Dz{β:Type}(f:Nat->u β):∀m i,mq f (i+1) m=mq (λj=>f (j+1)) i m
 |0,_=>rfl
 |m+1,i=>by
  simp only[mq,Dz f m (i+1)]
theorem NS{a β:Type}(f:Nat->u a)(g:a->β):∀m i,mq (λj=>(f j).map g) i m=(mq f i m).map g
 |0,_=>rfl
 |m+1,i=>by
  simp only[mq];cases h:f i with
  |none=>simp only[Option.map_none,NS f g m (i+1)]
  |some r=>rfl
def pk{d β:Type}(c:d->d->u β)(a b:M d)(i:Nat):u β:=match nth a i,nth b i with
 |some x,Z y=>c x y
 |_,_=>O
def zk{d β:Type}(c:d->d->u β):M d->M d->u β
 |x::a,y::b=>match c x y with
  |some r=>Z r
  |none=>zk c a b
 |_,_=>O
theorem Vy{d β:Type}(c:d->d->u β):∀(a b:M d),mq (pk c a b) 0 (min a.length b.length)=zk c a b
 |[],b=>by simp only[aP,Nat.zero_min,mq,zk]
 |x::a,[]=>by simp only[aP,Nat.min_zero,mq,zk]
 |x::a,y::b=>by
  have h:(min (x::a).length (y::b).length)=min a.length b.length+1:=by simp only[aG];omega
  rw[h];have f:(λj=>pk c (x::a) (y::b) (j+1))=pk c a b:=rfl;have e:pk c (x::a) (y::b) 0=c x y:=rfl;simp only[mq,Dz,f,e,zk,Vy c a b];cases c x y<;>rfl
def YC(x y:z):u Bool:=if Z' (x=y)=I then O else Z (kq x y)
def gr(a b:M z):Bool:=(zk YC a b).getD (Z' (a.length < b.length))
theorem ad1{a b:M z}(k:a.length<=mg)(p:b.length<=mg):G 248 [bn a,bn b]=Z (0,[.bool (gr a b)]):=by
 refine cN t248 rfl ?_;simp only[go_sem,t248];have f:=IL (b:=lB G Ed) (λi=>(0,[bn a,bn b,E (i:Int)])) (λi=>(pk YC a b i).map (λr=>(0,[.bool r]))) (min a.length b.length) (1,[bn a,bn b,E (min a.length b.length:Nat),.bool J]) (by
  intro i o;have c:i < a.length:=by omega
  have d:i < b.length:=by omega
  have a1:=dz (l:=a) c;have a2:=dz (l:=b) d;generalize a[i]'c=x at a1;generalize b[i]'d=y at a2;have g:=wj c k;simp only[go_sem,bK,Ed,c,d,aR,a1,a2,fo,pk,YC];cases j:Z' (x=y)<;>simp only[go_sem,j,g,UF,aR,a1,a2,fo]) (by
  by_cases h:a.length < b.length
  ·have e:min a.length b.length=a.length:=by omega
   rw[e];simp only[go_sem,bK,Ed,aB]
  ·have e:min a.length b.length=b.length:=by omega
   rw[e];simp only[go_sem,bK,Ed,aB];by_cases m:b.length < a.length<;>simp only[go_sem,m,aB]) (min a.length b.length) 0 (by omega)
 rw[n0,NS,Vy]at f;rw[f,gr];cases n:zk YC a b<;>simp only[go_sem,Option.getD,Option.map]
theorem alo(a:z):G 323 [.str a]=Z (0,[.bool J]):=by
 refine cN aiK rfl ?_;simp only[go_sem,aiK]
def qI(x y:z):Int:=if kq x y=I then -1 else if Z' (x=y)=I then 0 else 1
theorem alp(x y:z):G 324 [.str x,.str y]=Z (0,[E (qI x y)]):=by
 refine cN aiL rfl ?_;simp only[go_sem,aiL,alo,qI];cases b:kq x y<;>cases a:Z' (x=y)<;>simp only[go_sem,b,a]
def KU(a b:M z)(i:Nat):u Int:=match nth a i with
 |none=>O
 |some x=>match nth b i with
  |none=>Z 1
  |some y=>if qI x y=0 then O else Z (qI x y)
def cmpL(a b:M z):Int:=match mq (KU a b) 0 a.length with
 |some r=>r
 |none=>if a.length < b.length then -1 else 0
theorem Mi{a:Type}:∀{l:M a} {i:Nat},l.length<=i->nth l i=O
 |[],_,_=>rfl
 |_::l,0,h=>by simp at h
 |_::l,i+1,h=>by
  have:=Mi (l:=l) (i:=i) (by simpa using h)
  simpa [nth] using this
theorem alq{a b:M z}(m:a.length<=mg)(o:b.length<=mg):G 325 [bn a,bn b]=Z (0,[E (cmpL a b)]):=by
 refine cN aiM rfl ?_;simp only[go_sem,aiM];have k:=IL (b:=lB G Ek) (λi=>(0,[bn a,bn b,bn a,E a.length,E (i:Int)])) (λi=>(KU a b i).map (λr=>(0,[E r]))) a.length (1,[bn a,bn b,bn a,E a.length,E a.length,.bool J]) (by
  intro i c;have a1:=dz (l:=a) c;generalize a[i]'c=x at a1;have j:=wj c m;by_cases e:i < b.length
  ·have a2:=dz (l:=b) e;generalize b[i]'e=y at a2;have g:Z' ((b.length:Int)<=(i:Int))=J:=by simp only[decide_eq_false_iff_not];omega
   have f:=alp x y;simp only[go_sem,bK,Ek,c,e,g,aR,a1,a2,fo,KU,f];by_cases d:qI x y=0
   ·have hd:Z' (qI x y=0)=I:=by simp[d]
    simp only[go_sem,hd,d,j,UF,aR,a1,a2,fo,f]
   ·have hd:Z' (qI x y=0)=J:=by simp[d]
    simp only[go_sem,hd,d,j,UF,aR,a1,a2,fo,f]
  ·have a2:=Mi (l:=b) (i:=i) (by omega);have g:Z' ((b.length:Int)<=(i:Int))=I:=by simp only[decide_eq_true_eq];omega
   simp only[go_sem,bK,Ek,c,e,g,aR,a1,a2,fo,KU,UF]) (by simp only[go_sem,bK,Ek,aB]) a.length 0 (by omega)
 rw[n0,NS]at k;rw[k,cmpL];cases n:mq (KU a b) 0 a.length
 ·simp only[go_sem,Option.getD,Option.map];by_cases h:a.length < b.length<;>simp only[go_sem,h]
 ·simp only[go_sem,Option.getD,Option.map]
end
section
theorem Uv:∀l:M UInt8,Op.bytesLess l l=J
 |[]=>rfl
 |x::l=>by
  have h:¬x < x:=by simp
  simp[Op.bytesLess,Uv l,h]
theorem OI(x:z):kq x x=J:=Uv _
theorem uP(b:M z):cmpL [] b=if 0 < b.length then -1 else 0:=(rfl)
theorem GU(x:z)(a:M z):cmpL (x::a) []=1:=(rfl)
theorem Aj(x y:z)(a b:M z):cmpL (x::a) (y::b)=if qI x y=0 then cmpL a b else qI x y:=by
 have d:(λj=>KU (x::a) (y::b) (j+1))=KU a b:=rfl;have c:KU (x::a) (y::b) 0=if qI x y=0 then O else Z (qI x y):=rfl
 rw[cmpL];simp only[aG,mq,Dz,d,c];by_cases h:qI x y=0
 ·simp only[h,if_true,cmpL,Nat.add_lt_add_iff_right]
 ·simp only[h,if_false]
theorem sE:∀a b:M z,gr a b=Z' (cmpL a b < 0)
 |[],[]=>rfl
 |[],y::b=>by
  rw[uP];simp[gr,zk]
 |x::a,[]=>by
  rw[GU];simp[gr,zk]
 |x::a,y::b=>by
  rw[Aj];by_cases h:x=y
  ·subst h;have c:qI x x=0:=by simp[qI,OI]
   have d:YC x x=O:=by simp[YC]
   rw[if_pos c,<- sE a b];simp only[gr,zk,d,aG,Nat.add_lt_add_iff_right]
  ·have d:YC x y=Z (kq x y):=by simp[YC,h]
   have f:gr (x::a) (y::b)=kq x y:=by simp only[gr,zk,d,Option.getD]
   rw[f];cases e:kq x y
   ·have c:qI x y=1:=by simp[qI,e,h]
    simp[c]
   ·have c:qI x y=-1:=by simp[qI,e]
    simp[c]
theorem LN(l:M aE):∀(a t:M z),(vg l t a).1.length<=t.length+a.length
 |[],t=>by simp[vg]
 |k::a,t=>by
  cases h:hH l k with
  |none=>simp only[vg,h,aG];omega
  |some v=>
   have:=LN l a (t++[v]);simp only[vg,h,aG,a_,aP]at *;omega
theorem od{n:ah}{x:aE}(b:n.bk.length<=mg):(keyOf n x).1.length<=mg:=by
 have h:=LN x.ae n.bk [];simp only[aP,bu]at h;unfold keyOf;have a:1<=mg:=by decide
 split
 ·split
  ·exact aH h b
  ·simp
 ·simpa using a
def pv(n:ah)(a b:aE):Int:=if jD n.aq=I then cmpL (keyOf n a).1 (keyOf n b).1 else 0
theorem aej{n:ah}{a b:aE}(d:n.bk.length<=mg)(i:a.ae.length<=mg)(h:b.ae.length<=mg):G 326 (ay n++bl a++bl b)=Z (0,[E (pv n a b)]):=by
 have f:=W9 (n:=n) (x:=a) d i;have e:=W9 (n:=n) (x:=b) d h;have j:=alq (a:=(keyOf n a).1) (b:=(keyOf n b).1) (od d) (od d);have g:∀c:Int,aU .pl [E c]=Z (.bool J):=λc=>rfl;simp only[af,aV,au,av]at f e;refine cN aiN (by rw[af,aV,aV];rfl) ?_;simp only[go_sem,aiN,af,aV,pv,jD];obtain⟨v1,c1⟩:∃v,Z' (n.aq=2)=v:=⟨_,rfl⟩
 obtain⟨v2,k⟩:∃v,Z' (n.aq=4)=v:=⟨_,rfl⟩
 cases v1<;>cases v2<;>simp only[go_sem,c1,k,f,e,j,g]
theorem ahT{d:M ah}{a b:aE}{i k:Nat}{e:ah}(hd:d.length<=mg)(f:e.bk.length<=mg)(w:a.ae.length<=mg)(v:b.ae.length<=mg)
  (t:dO d a.ak=Z i) (s:dO d b.ak=Z k) (h:nth d i=Z e) :
  G 249 ([aF d]++bl a++bl b)=Z (0,[.bool (if Z' (i=k) && jD e.aq then gr (keyOf e a).1 (keyOf e b).1 else Z' (i < k))]):=by
 have q:=q82 (l:=d) (nm:=a.ak) hd;have p:=q82 (l:=d) (nm:=b.ak) hd;rw[t]at q;rw[s]at p;have o:=aaL (n:=e) (x:=a) f w;have m:=aaL (n:=e) (x:=b) f v;have y:=ad1 (a:=(keyOf e a).1) (b:=(keyOf e b).1) (od f) (od f);have j:=akZ e.aq;have r:aU .pl [.bool (gr (keyOf e a).1 (keyOf e b).1)]=Z (.bool J):=rfl;simp only[af,aV,au,av]at o m;refine cN t249 (by rw[aV,aV];rfl) ?_;have B:(Z (ay e):u (M D))=Z (ay e):=rfl;simp only[go_sem,t249,aV,q,p,ko];by_cases c:i=k
 ·subst c;cases c1:jD e.aq<;>simp only[go_sem,aR,h,af e,o,m,y,j,c1,r,bO,aB]
 ·have A:Z' (i=k)=J:=by simp[c]
  have g:Z' ((i:Int)=(k:Int))=J:=by simp only[decide_eq_false_iff_not];omega
  simp only[go_sem,aR,h,af e,j,c,A,g]
end
section
def HE(a:z->Bool)(mt:z->z->Bool)(r:M ah->M aE->Bool)(n:ah)(x:aE):Bool:=
 if Z' (n.aq=3) ||decide (n.aq=4) then Z' (x.ae.length=0) && isVal a mt n.type x.bg
 else if Z' (n.aq=2) then (keyOf n x).2 && (Z' (x.bg.size=0) && r (dk n.ae) x.ae)
 else Z' (x.bg.size=0) && ((n.cZ ||decide (0 < x.ae.length)) && r (dk n.ae) x.ae)
theorem akY{B:z->Bool}{mt:z->z->Bool}(C:∀s:z,s.size<=mg->G 227 [.str s]=Z (0,[.bool (B s)]))(D:∀p s:z,p.size<=mg->s.size<=mg->G 236 [.str p,.str s]=Z (0,[.bool (mt p s)]))
  {r:M ah->M aE->Bool} {n:ah} {x:aE} (m:fm (ay n)<=mg) (j:fm (bl x)<=mg)
  (o:G 246 [aF (dk n.ae),aO x.ae]=Z (0,[.bool (r (dk n.ae) x.ae)])) :
  G 245 (ay n++bl x)=Z (0,[.bool (HE B mt r n x)]):=by
 rw[eR]at m;rw[ij]at j;have N:fm (ez n.type)<=mg:=by omega
 have L:n.bk.length<=mg:=by simp only[bW]at m;omega
 have K:bW ay n.ae<=mg:=by omega
 have H:x.bg.size<=mg:=by omega
 have F:x.ae.length<=mg:=by simp only[bW]at j;omega
 have h:=ahR C D N H;have g:=aaL (n:=n) (x:=x) L F;have q:=q81 K;have l:∀b:Bool,aU .pl [.bool b]=Z (.bool J):=λb=>rfl;clear C D m j N L K H F;simp only[af,aV,ez,au,av]at h g;refine cN t245 (by rw[af,aV];rfl) ?_;simp only[go_sem,t245,af,aV,HE];obtain⟨v3,y⟩:∃v,Z' (n.aq=3)=v:=⟨_,rfl⟩
 obtain⟨v4,t⟩:∃v,Z' (n.aq=4)=v:=⟨_,rfl⟩
 obtain⟨v2,A⟩:∃v,Z' (n.aq=2)=v:=⟨_,rfl⟩
 obtain⟨w,f⟩:∃v,Z' (x.ae.length=0)=v:=⟨_,rfl⟩
 have a:Z' ((x.ae.length:Int)=0)=w:=by rw[<- f];apply decide_eq_decide.2;omega
 have cg:Z' ((0:Int) < (x.ae.length:Int))=!w:=by rw[<- f,<- decide_not];apply decide_eq_decide.2;omega
 have c:Z' (0 < x.ae.length)=!w:=by rw[<- f,<- decide_not];apply decide_eq_decide.2;omega
 obtain⟨e,i⟩:∃v,Z' (x.bg=⟨#[]⟩)=v:=⟨_,rfl⟩
 have d:Z' (x.bg.size=0)=e:=by rw[<- i,bc]
 cases v3<;>cases v4<;>cases v2<;>cases w<;>cases e<;>simp only[go_sem,y,t,A,f,a,cg,c,i,d,h,g,q,o,l]
 all_goals try (cases P:(keyOf n x).2<;>simp only[go_sem,y,t,A,f,a,cg,c,i,d,h,g,q,o,l,P])
 all_goals try (cases k:n.cZ<;>simp only[go_sem,y,t,A,f,a,cg,c,i,d,h,g,q,o,l,k])
theorem aln{C:z->Bool}{mt:z->z->Bool}(F:∀s:z,s.size<=mg->G 285 [.str s]=Z (0,[.bool (C s)]))(H:∀p s:z,p.size<=mg->s.size<=mg->G 310 [.str p,.str s]=Z (0,[.bool (mt p s)]))
  {r:M ah->M aE->Bool} {n:ah} {x:aE} (q:fm (ay n)<=mg) (l:fm (bl x)<=mg)
  (hd:n.aq=1\/n.aq=2\/n.aq=3\/n.aq=4) (t:G 322 [aF n.ae,aO x.ae]=Z (0,[.bool (r (dk n.ae) x.ae)])) :
  G 321 (ay n++bl x)=Z (0,[.bool (HE C mt r n x)]):=by
 rw[eR]at q;rw[ij]at l;have P:fm (ez n.type)<=mg:=by omega
 have N:n.bk.length<=mg:=by simp only[bW]at q;omega
 have S:bW ay n.ae<=mg:=by omega
 have L:x.bg.size<=mg:=by omega
 have K:x.ae.length<=mg:=by simp only[bW]at l;omega
 have j:=ah3 F H P L;have i:=W9 (n:=n) (x:=x) N K;have o:∀b:Bool,aU .pl [.bool b]=Z (.bool J):=λb=>rfl;clear F H q l P N S L K;simp only[af,aV,ez,au,av]at j i;refine cN aiI (by rw[af,aV];rfl) ?_;simp only[go_sem,aiI,af,aV,HE];have R:∃v1 v2 v3 v4:Bool,Z' (n.aq=1)=v1/\Z' (n.aq=2)=v2/\Z' (n.aq=3)=v3/\Z' (n.aq=4)=v4/\((v1,v2,v3,v4)=(I,J,J,J)\/(v1,v2,v3,v4)=(J,I,J,J)\/(v1,v2,v3,v4)=(J,J,I,J)\/(v1,v2,v3,v4)=(J,J,J,I)):=by
  refine⟨_,_,_,_,rfl,rfl,rfl,rfl,?_⟩;rcases hd with h|h|h|h<;>rw[h]<;>decide
 obtain⟨v1,v2,v3,v4,c1,B,A,y,f⟩:=R;clear hd;obtain⟨w,g⟩:∃v,Z' (x.ae.length=0)=v:=⟨_,rfl⟩
 have a:Z' ((x.ae.length:Int)=0)=w:=by rw[<- g];apply decide_eq_decide.2;omega
 have cg:Z' ((0:Int) < (x.ae.length:Int))=!w:=by rw[<- g,<- decide_not];apply decide_eq_decide.2;omega
 have c:Z' (0 < x.ae.length)=!w:=by rw[<- g,<- decide_not];apply decide_eq_decide.2;omega
 obtain⟨e,k⟩:∃v,Z' (x.bg=⟨#[]⟩)=v:=⟨_,rfl⟩
 have d:Z' (x.bg.size=0)=e:=by rw[<- k,bc]
 cases D:r (dk n.ae) x.ae<;>rcases f with f|f|f|f<;>cases f<;>cases w<;>cases e<;>simp only[go_sem,A,y,B,g,a,cg,c,k,d,j,i,c1,t,o,D]
 all_goals try (cases Q:(keyOf n x).2<;>simp only[go_sem,A,y,B,g,a,cg,c,k,d,j,i,c1,t,o,Q])
 all_goals try (cases m:n.cZ<;>simp only[go_sem,A,y,B,g,a,cg,c,k,d,j,i,c1,t,o,m])
 all_goals try rw[D]
end
section
def uj(t:u (aE×Nat))(s:ah)(k:Nat)(e:aE):Bool:=match t with
 |none=>I
 |some (p,a)=>if Z' (a=k) && jD s.aq then gr (keyOf s p).1 (keyOf s e).1 else Z' (a < k)
def nT{b:Type}(a:b)(nr:ah->aE->Bool)(d:M ah)(i:Nat)(t:u (aE×Nat))(e:aE):Sg (u (aE×Nat)) b:=match dO d e.ak with
 |none=>.out a
 |some k=>match nth d k with
  |none=>.out a
  |some s=>if (nr s e && uj t s k e)=I then .go (Z (e,k)) else .out a
def IW{a b:Type}:Sg a b->Bool
 | .go _=>I
 | .out _=>J
def m_(nr:ah->aE->Bool)(d:M ah)(l:M aE):Bool:=IW (jP (nT () nr d) 0 O l)
theorem MG{b:Type}(c:b)(nr:ah->aE->Bool)(d:M ah)(fin:u (aE×Nat)->b)(yes:b)(hf:∀t,fin t=yes):∀(l:M aE) (i:Nat) (t:u (aE×Nat)),
  sgF fin (jP (nT c nr d) i t l)=if IW (jP (nT () nr d) i t l)=I then yes else c
 |[],_,t=>hf t
 |e::l,i,t=>by
  cases a:dO d e.ak with
  |none=>simp only[jP,nT,a];rfl
  |some k=>
   cases f:nth d k with
   |none=>simp only[jP,nT,a,f];rfl
   |some s=>
    cases h:(nr s e && uj t s k e)
    ·simp only[jP,nT,a,f,h,aD,if_false];rfl
    ·simp only[jP,nT,a,f,h,if_true];exact MG c nr d fin yes hf l (i+1) (Z (e,k))
def Wc(d:M ah)(l:M aE)(i:Nat)(t:u (aE×Nat)):Prop:=match t with
 |none=>i=0
 |some (p,k)=>∃j,i=j+1/\nth l j=Z p/\dO d p.ak=Z k
theorem ahS{nr:ah->aE->Bool}{d:M ah}{l:M aE}(hd:bW ay d<=mg)(C:bW bl l<=mg)
  (R:∀s e,s∈d->e∈l->G 245 (ay s++bl e)=Z (0,[.bool (nr s e)])):G 246 [aF d,aO l]=Z (0,[.bool (m_ nr d l)]):=by
 have H:d.length<=mg:=by simp only[bW]at hd;omega
 have F:l.length<=mg:=by simp only[bW]at C;omega
 refine cN t246 rfl ?_;simp only[go_sem,t246];have N:=yS (b:=lB G AU) l (λi (t:u (aE×Nat))=>(0,[aF d,aO l,E (i:Int)])) (nT (0,[.bool J]) nr d) (λt=>(1,[aF d,aO l,E l.length,.bool J])) (Wc d l) O rfl (by
  intro i e t a A;have n:=bw a;have hw:=wj n F;have w:=q82 (l:=d) (nm:=e.ak) H;cases hf:dO d e.ak with
  |none=>
   rw[hf]at w;simp only[go_sem,bK,AU,n,aR,a,aV e,w,ko,nT,hf,Na];intro g f;cases f
  |some k=>
   rw[hf]at w;obtain⟨s,q,h2⟩:=dU hf;have x:=R s e (bp q) (bp a);have K:Z' ((k:Int) < 0)=J:=by simp only[decide_eq_false_iff_not];omega
   simp only[af,aV,au,av]at x;have c:∀g,Sg.go (Z (e,k))=(Sg.go g:Sg (u (aE×Nat)) (Nat×M D))->Wc d l (i+1) g:=by
    intro g f;cases f;exact⟨i,rfl,a,hf⟩
   have X:nT (0,[D.bool J]) nr d i t e=if (nr s e && uj t s k e)=I then .go (Z (e,k)) else .out (0,[D.bool J]):=by simp only[nT,hf,q]
   rw[X];cases t with
   |none=>
    obtain rfl:i=0:=A;simp only[go_sem,bK,AU,n,aR,a,q,aV e,af s,w,ko,x,K,gI,bO,uj,fD];cases L:nr s e
    ·simp only[go_sem,L,Na];intro g f;cases f
    ·simp only[go_sem,L,Na];exact⟨rfl,c⟩
   |some pk=>
    obtain⟨p,m⟩:=pk;obtain⟨j,rfl,i2,i3⟩:=A;obtain⟨h,i4,_⟩:=dU i3;have V:h.bk.length<=mg:=by
     have a1:=dV ay (bp i4);rw[eR]at a1;simp only[bW]at a1 hd;omega
    have B:∀y:aE,y∈l->y.ae.length<=mg:=by
     intro y hy;have a1:=dV bl hy;rw[ij]at a1;simp only[bW]at a1 C;omega
    have r:=ahT H V (B p (bp i2)) (B e (bp a)) i3 hf i4;have S:(if Z' (m=k) && jD h.aq then gr (keyOf h p).1 (keyOf h e).1 else Z' (m < k))=uj (Z (p,m)) s k e:=by
     by_cases P:m=k
     ·subst P;have:h=s:=iF (i4.symm.trans q);subst this;simp only[uj]
     ·simp[uj,P]
    rw[S]at r;simp only[aV,au,av]at r;have U:IntKind.i64.wrap (((j+1:Nat):Int) - 1)=(j:Int):=by rw[wrap_i64 (by simp only[mg]at F;omega)];omega
    have T:(0:Int) < ((j+1:Nat):Int):=by omega
    have Q:j < l.length:=by omega
    clear hd C R V B S;obtain⟨bf,o⟩:∃v,uj (Z (p,m)) s k e=v:=⟨_,rfl⟩
    obtain⟨Y,W⟩:∃v,nr s e=v:=⟨_,rfl⟩
    rw[o]at r;rw[W]at x;rw[o,W];simp only[go_sem,bK,AU,n,Q,aR,a,i2,q,aV e,aV p,af s,w,ko,x,r,K,gI,bO,U,T];cases Y<;>cases bf<;>simp only[go_sem,Na,U,T,aR,a,i2,Q,n,aV e,aV p,r,gI,hw]
    all_goals try (intro g f;cases f)
    all_goals exact c _ rfl) (by
  intro t A;simp only[go_sem,bK,AU,aB])
 rw[n0,MG (yes:=(1,[aF d,aO l,E l.length,.bool J])) (hf:=λ_=>rfl)]at N;rw[N,m_];cases IW (jP (nT () nr d) 0 O l)<;>simp only[go_sem]
end
section
def ue(t:u (aE×Nat)):Int:=match t with
 |none=>-1
 |some (_,k)=>(k:Int)
theorem Fq{g:Type}(c:g)(nr:ah->aE->Bool)(d:M ah)(fin:u (aE×Nat)->g):∀(l:M aE) (i:Nat) (t:u (aE×Nat)),
  ∃b,sgF fin (jP (nT c nr d) i t l)=if IW (jP (nT () nr d) i t l)=I then fin b else c
 |[],_,t=>⟨t,rfl⟩
 |e::l,i,t=>by
  cases a:dO d e.ak with
  |none=>exact⟨t,by simp only[jP,nT,a];rfl⟩
  |some k=>
   cases f:nth d k with
   |none=>exact⟨t,by simp only[jP,nT,a,f];rfl⟩
   |some s=>
    cases h:(nr s e && uj t s k e)
    ·exact⟨t,by simp only[jP,nT,a,f,h,aD,if_false];rfl⟩
    ·obtain⟨b,j⟩:=Fq c nr d fin l (i+1) (Z (e,k));exact⟨b,by simp only[jP,nT,a,f,h,if_true];exact j⟩
theorem aeh{nr:ah->aE->Bool}{d:M ah}{l:M aE}(hd:bW ay d<=mg)(y:bW bl l<=mg)
  (w:d=[]) (B:∀s e,s∈d->e∈l->G 321 (ay s++bl e)=Z (0,[.bool (nr s e)])) :
  ∃t,cl (lB G Ej) (0,[aO l,E (-1),aO l,E l.length,E 0,aF d,bn (d.map ah.ak)])=Z (if m_ nr d l=I then (1,[aO l,E (ue t),aO l,E l.length,E l.length,.bool J,aF d,bn (d.map ah.ak)]) else (0,[.bool J])):=by
 have o:d.length<=mg:=by simp only[bW]at hd;omega
 have n:l.length<=mg:=by simp only[bW]at y;omega
 have h:=yS (b:=lB G Ej) l (λi (t:u (aE×Nat))=>(0,[aO l,E (ue t),aO l,E l.length,E (i:Int),aF d,bn (d.map ah.ak)])) (nT (0,[.bool J]) nr d) (λt=>(1,[aO l,E (ue t),aO l,E l.length,E l.length,.bool J,aF d,bn (d.map ah.ak)])) (Wc d l) O rfl (by
  intro i e t g r;have j:=bw g;have A:=wj j n;have c:=q96 (l:=d.map ah.ak) (v:=e.ak) (by rw[aA];exact o);rw[vf]at c;cases a:dO d e.ak with
  |none=>
   rw[a]at c;have q:aU .pl [E (-1)]=Z (.bool J):=rfl;simp only[go_sem,bK,Ej,j,aR,g,aV e,c,ko,nT,a,Na,q];intro f p;cases p
  |some k=>
   obtain⟨s,m,_⟩:=dU a;rw[w]at m;cases m) (by
  intro t r;simp only[go_sem,bK,Ej,aB])
 obtain⟨f,x⟩:=Fq (0,[D.bool J]) nr d (λt=>(1,[aO l,E (ue t),aO l,E l.length,E l.length,.bool J,aF d,bn (d.map ah.ak)])) l 0 O;rw[n0,x]at h;exact⟨f,h⟩
theorem aei{nr:ah->aE->Bool}{d:M ah}{l:M aE}(hd:bW ay d<=mg)(N1:bW bl l<=mg)
  (hN:∀s e,s∈d->e∈l->G 321 (ay s++bl e)=Z (0,[.bool (nr s e)])) :
  ∃t,cl (lB G tv) (0,[aO l,E (-1),aO l,E l.length,E 0,aF d,bn (d.map ah.ak)])=Z (if m_ nr d l=I then (1,[aO l,E (ue t),aO l,E l.length,E l.length,.bool J,aF d,bn (d.map ah.ak)]) else (0,[.bool J])):=by
 have qL:d.length<=mg:=by simp only[bW]at hd;omega
 have uz:l.length<=mg:=by simp only[bW]at N1;omega
 have hl:=yS (b:=lB G tv) l (λi (t:u (aE×Nat))=>(0,[aO l,E (ue t),aO l,E l.length,E (i:Int),aF d,bn (d.map ah.ak)])) (nT (0,[.bool J]) nr d) (λt=>(1,[aO l,E (ue t),aO l,E l.length,E l.length,.bool J,aF d,bn (d.map ah.ak)])) (Wc d l) O rfl (by
  intro i e t m W;have B:=bw m;have V:=wj B uz;have r:=q96 (l:=d.map ah.ak) (v:=e.ak) (by rw[aA];exact qL);rw[vf]at r;cases C:dO d e.ak with
  |none=>
   rw[C]at r;have A:aU .pl [E (-1)]=Z (.bool J):=rfl;simp only[go_sem,bK,tv,B,aR,m,aV e,r,ko,nT,C,Na,A];intro h g;cases g
  |some k=>
   rw[C]at r;obtain⟨s,K,h2⟩:=dU C;have F:=hN s e (bp K) (bp m);have N:Z' ((k:Int) < 0)=J:=by simp only[decide_eq_false_iff_not];omega
   simp only[af,aV,au,av]at F;have A:aU .pl [E (k:Int)]=Z (.bool J):=rfl;have S:=UZ K;have R:=lZ 19 J (d.map ay) k (by rw[aA];exact bw K);have f:∀h,Sg.go (Z (e,k))=(Sg.go h:Sg (u (aE×Nat)) (Nat×M D))->Wc d l (i+1) h:=by
    intro h g;cases g;exact⟨i,rfl,m,C⟩
   have sv:nT (0,[D.bool J]) nr d i t e=if (nr s e && uj t s k e)=I then .go (Z (e,k)) else .out (0,[D.bool J]):=by simp only[nT,C,K]
   rw[sv];have b1:∀y:ah,y∈d->y.bk.length<=mg:=by
    intro y U;have a1:=dV ay U;rw[eR]at a1;simp only[bW]at a1 hd;omega
   have Y:∀y:aE,y∈l->y.ae.length<=mg:=by
    intro y U;have a1:=dV bl U;rw[ij]at a1;simp only[bW]at a1 N1;omega
   clear hN hd N1;cases t with
   |none=>
    obtain rfl:i=0:=W;have w:Z' ((k:Int) < -1)=J:=by simp only[decide_eq_false_iff_not];omega
    have P:Z' ((k:Int)=-1)=J:=by simp only[decide_eq_false_iff_not];omega
    obtain⟨H,L⟩:∃v,nr s e=v:=⟨_,rfl⟩
    rw[L]at F;rw[L];simp only[go_sem,bK,tv,B,aR,m,aV e,af s,r,ko,F,N,uj,ue,A,S,R,w];cases H<;>simp only[go_sem,Na,V,P]
    ·intro h g;cases g
    ·exact f
   |some pk=>
    obtain⟨p,q⟩:=pk;obtain⟨j,rfl,i2,i3⟩:=W;have g2:=aej (n:=s) (a:=p) (b:=e) (b1 s (bp K)) (Y p (bp i2)) (Y e (bp m));simp only[af,aV,au,av]at g2;have e1:IntKind.i64.wrap (((j+1:Nat):Int) - 1)=(j:Int):=by rw[wrap_i64 (by simp only[mg]at uz;omega)];omega
    have hj:j < l.length:=by omega
    obtain⟨X,x⟩:∃v,uj (Z (p,q)) s k e=v:=⟨_,rfl⟩
    obtain⟨H,L⟩:∃v,nr s e=v:=⟨_,rfl⟩
    have Q:X=if q=k then Z' (pv s p e < 0) else Z' (q < k):=by
     rw[<- x];by_cases hk:q=k
     ·subst hk;cases hr:jD s.aq<;>simp[uj,hr,pv,sE]
     ·simp[uj,hk]
    rw[L]at F;rw[x,L];clear b1 Y sv x;obtain⟨o,ho⟩:∃v,Z' (0<=pv s p e)=v:=⟨_,rfl⟩
    have R0:Z' (pv s p e < 0)=!o:=by rw[<- ho,<- decide_not];apply decide_eq_decide.2;omega
    rcases Nat.lt_trichotomy k q with c|c|c
    ·have w:Z' ((k:Int) < (q:Int))=I:=by simp only[decide_eq_true_eq];omega
     have T:X=J:=by rw[Q,if_neg (by omega)];simp only[decide_eq_false_iff_not];omega
     subst T;simp only[go_sem,bK,tv,B,aR,m,aV e,r,ko,N,ue,A,w];cases H<;>simp only[go_sem,Na]
     all_goals (intro h g;cases g)
    ·subst c;have w:Z' ((k:Int) < (k:Int))=J:=by simp
     have P:Z' ((k:Int)=(k:Int))=I:=by simp
     rw[if_pos rfl,R0]at Q;subst Q;simp only[go_sem,bK,tv,B,aR,m,aV e,af s,r,ko,F,N,ue,A,S,R,w];cases H<;>cases o<;>simp only[go_sem,Na,V,e1,aR,i2,aV p,g2,ho]
     all_goals first|exact⟨rfl,f⟩|exact f|(intro h g;cases g)
    ·have w:Z' ((k:Int) < (q:Int))=J:=by simp only[decide_eq_false_iff_not];omega
     have P:Z' ((k:Int)=(q:Int))=J:=by simp only[decide_eq_false_iff_not];omega
     have T:X=I:=by rw[Q,if_neg (by omega)];simp only[decide_eq_true_eq];omega
     subst T;simp only[go_sem,bK,tv,B,aR,m,aV e,af s,r,ko,F,N,ue,A,S,R,w];cases H<;>simp only[go_sem,Na,V,P]
     all_goals first|exact⟨rfl,f⟩|exact f|(intro h g;cases g)) (by
  intro t W;simp only[go_sem,bK,tv,aB])
 obtain⟨h,h'⟩:=Fq (0,[D.bool J]) nr d (λt=>(1,[aO l,E (ue t),aO l,E l.length,E l.length,.bool J,aF d,bn (d.map ah.ak)])) l 0 O;rw[n0,h']at hl;exact⟨h,hl⟩
end
section
theorem ah4{nr:ah->aE->Bool}{ks:M ah}{l:M aE}(f:bW ay ks<=mg)(i:bW bl l<=mg)
  (g:∀s e,s∈dk ks->e∈l->G 321 (ay s++bl e)=Z (0,[.bool (nr s e)])):G 322 [aF ks,aO l]=Z (0,[.bool (m_ nr (dk ks) l)]):=by
 have hd:=aH (nV (es:=ks)) f;have j:(dk ks).length<=mg:=by simp only[bW]at hd;omega
 have a:=q94 f;have h:=q95 (l:=dk ks) j;refine cN aiJ rfl ?_;simp only[go_sem,aiJ];by_cases c:dk ks=[]
 ·have d:kE (dk ks)=0:=by rw[c];rfl
  obtain⟨t,b⟩:=aeh hd i c g;simp only[go_sem,a,d,h,b];cases m_ nr (dk ks) l<;>simp only[go_sem]
 ·have d:kE (dk ks)=1:=iJ c;obtain⟨t,b⟩:=aei hd i g;simp only[go_sem,a,d,h,b];cases m_ nr (dk ks) l<;>simp only[go_sem]
end
section
def qq(a:z->Bool)(mt:z->z->Bool):Nat->ah->aE->Bool
 |0,_,_=>J
 |N+1,n,x=>HE a mt (m_ (qq a mt N)) n x
theorem ad0{a:z->Bool}{mt:z->z->Bool}(i:∀s:z,s.size<=mg->G 227 [.str s]=Z (0,[.bool (a s)]))(j:∀p s:z,p.size<=mg->s.size<=mg->G 236 [.str p,.str s]=Z (0,[.bool (mt p s)]))
  (N:Nat):∀(n:ah) (x:aE),aw x < N->fm (ay n)<=mg->fm (bl x)<=mg->G 245 (ay n++bl x)=Z (0,[.bool (qq a mt N n x)]):=by
 induction N with
 |zero=>intro n x h;omega
 |succ N f=>
  intro n x h c b;refine akY (r:=m_ (qq a mt N)) i j c b ?_;have a1:=c;have a2:=b;rw[eR]at a1;rw[ij]at a2;have l:bW ay (dk n.ae)<=mg:=aH nV (by omega);have k:bW bl x.ae<=mg:=by omega
  refine ahS l k ?_;intro s e g d;have c1:=dV ay g;have o:=dV bl d;have m:=aE.Kt d;exact f s e (by omega) (by omega) (by omega)
end
section
theorem Ct(n:Nat):∀(es:M ah),aw es < n->∀s,s∈dk es->kM s.aq=I:=by
 induction n with
 |zero=>intro es h;omega
 |succ n b=>
  intro es h s a;cases es with
  |nil=>rw[td]at a;cases a
  |cons e es=>
   rw[ny]at a;rcases aT.1 a with a|a
   ·unfold uR at a
    split at a
    ·rename_i c;rw[db.1 a];exact c
    ·split at a
     ·have d:=ah.iz e es;exact b e.ae (by omega) s a
     ·cases a
   ·exact b es (by simp only[bG]at h;omega) s a
theorem Di{k:Int}(h:kM k=I):k=1\/k=2\/k=3\/k=4:=by
 simp only[kM,fS,ai,decide_eq_true_eq]at h;omega
theorem aeg{a:z->Bool}{mt:z->z->Bool}(k:∀s:z,s.size<=mg->G 285 [.str s]=Z (0,[.bool (a s)]))(l:∀p s:z,p.size<=mg->s.size<=mg->G 310 [.str p,.str s]=Z (0,[.bool (mt p s)]))
  (N:Nat):∀(n:ah) (x:aE),aw x < N->kM n.aq=I->fm (ay n)<=mg->fm (bl x)<=mg->G 321 (ay n++bl x)=Z (0,[.bool (qq a mt N n x)]):=by
 induction N with
 |zero=>intro n x h;omega
 |succ N i=>
  intro n x h j d b;refine aln (r:=m_ (qq a mt N)) k l d b (Di j) ?_;have a1:=d;have a2:=b;rw[eR]at a1;rw[ij]at a2;have g:bW ay n.ae<=mg:=by omega
  have t:bW ay (dk n.ae)<=mg:=aH nV g;have m:bW bl x.ae<=mg:=by omega
  refine ah4 g m ?_;intro s e c f;have c1:=dV ay c;have q:=dV bl f;have o:=aE.Kt f;exact i s e (by omega) (Ct _ _ (aS _) s c) (by omega) (by omega)
end
section
noncomputable def vd(a:z->Bool)(mt:z->z->Bool)(ok:Bool)(s:M ah)(l:M aE):Bool:=
 ok && (Z' (gN l<=120) && m_ (qq a mt (aw l)) (dk s) l)
theorem abN{l:M aE}{e:aE}(h:e∈l):aw e < aw l:=ba h
theorem ak0{a:z->Bool}{mt:z->z->Bool}(j:∀s:z,s.size<=mg->G 227 [.str s]=Z (0,[.bool (a s)]))(k:∀p s:z,p.size<=mg->s.size<=mg->G 236 [.str p,.str s]=Z (0,[.bool (mt p s)]))
  {ok:Bool} {s:M ah} {l:M aE} (f:bW ay s<=mg) (h:bW bl l<=mg) (t:G 241 [aF s]=Z (0,[.bool ok])):G 250 [aF s,aO l]=Z (0,[.bool (vd a mt ok s l)]):=by
 obtain⟨r,A,m⟩:=akW (l:=l) (x:=120) h (by omega) (by omega);have y:=q81 f;have w:=ahS (nr:=qq a mt (aw l)) (d:=dk s) (l:=l) (aH nV f) h (by
  intro n e o i;have c1:=dV ay o;have C:=dV bl i;have B:=nV (es:=s);exact ad0 j k _ n e (abN i) (by omega) (by omega))
 have g:Z' (0<=r)=Z' (gN l<=120):=by
  apply decide_eq_decide.2
  unfold Cm at m;omega
 have q:∀b:Bool,aU .pl [.bool b]=Z (.bool J):=λb=>rfl;clear j k m;refine cN t250 rfl ?_;simp only[go_sem,t250,t,vd];obtain⟨v,c⟩:∃v,Z' (gN l<=120)=v:=⟨_,rfl⟩
 rw[c]at g;cases ok<;>cases v<;>simp only[go_sem,A,y,w,g,c,q]
theorem alr{a:z->Bool}{mt:z->z->Bool}(i:∀s:z,s.size<=mg->G 285 [.str s]=Z (0,[.bool (a s)]))(j:∀p s:z,p.size<=mg->s.size<=mg->G 310 [.str p,.str s]=Z (0,[.bool (mt p s)]))
  {ok:Bool} {s:M ah} {l:M aE} (k:bW ay s<=mg) (g:bW bl l<=mg) (m:G 316 [aF s]=Z (0,[.bool ok])):G 327 [aF s,aO l]=Z (0,[.bool (vd a mt ok s l)]):=by
 have o:=alm g;have n:=ah4 (nr:=qq a mt (aw l)) (ks:=s) (l:=l) k g (by
  intro b e c h;have c1:=dV ay c;have r:=dV bl h;have q:=nV (es:=s);exact aeg i j _ b e (abN h) (Ct _ _ (aS _) b c) (by omega) (by omega))
 have f:Z' ((gN l:Int)<=120)=Z' (gN l<=120):=by apply decide_eq_decide.2;omega
 clear i j;refine cN aiO rfl ?_;simp only[go_sem,aiO,m,vd];obtain⟨v,d⟩:∃v,Z' (gN l<=120)=v:=⟨_,rfl⟩
 rw[d]at f;cases ok<;>cases v<;>simp only[go_sem,o,n,f,d]
end
section
theorem Uw:∀(a b:M UInt8),Op.bytesLess a b=J->Op.bytesLess b a=J->a=b
 |[],[],_,_=>rfl
 |[],y::b,h,_=>by simp[Op.bytesLess]at h
 |x::a,[],_,h=>by simp[Op.bytesLess]at h
 |x::a,y::b,d,c=>by
  unfold Op.bytesLess at d c;by_cases h:x < y
  ·simp[h]at d
  ·by_cases f:y < x
   ·simp[f]at c
   ·have e:x=y:=by
     have a1:¬x.toNat < y.toNat:=h;have a2:¬y.toNat < x.toNat:=f;exact UInt8.toNat_inj.1 (by omega)
    subst e;simp[h]at d c;rw[Uw a b d c]
theorem aey{a b:z}(d:kq a b=J)(c:kq b a=J):a=b:=by
 have h:=Uw a.toList b.toList d c;have e:∀x:z,x.toList=x.data.toList:=λx=>ByteArray.toList_eq x;rw[e,e]at h;cases a;cases b
 simp only[ByteArray.mk.injEq]at h ⊢;exact Array.toList_inj.1 h
theorem Da{a b:z}:qI a b=0↔a=b:=by
 unfold qI;by_cases h:kq a b=I
 ·simp only[h,if_true]
  constructor
  ·intro h;omega
  ·rintro rfl;rw[OI]at h;cases h
 ·rw[if_neg h];by_cases e:a=b
  ·simp[e]
  ·simp[e]
theorem Ai:∀{a b:M z},cmpL a b=0↔a=b
 |[],[]=>by simp[uP]
 |[],y::b=>by simp[uP]
 |x::a,[]=>by rw[GU];simp
 |x::a,y::b=>by
  rw[Aj];split
  ·rename_i h;rw[Ai,Da.1 h];simp
  ·rename_i h
   constructor
   ·intro c;exact absurd c h
   ·intro c;cases c;exact absurd (Da.2 rfl) h
theorem KV:∀{a b:M z},¬cmpL a b < 0->¬cmpL b a < 0->a=b
 |[],[],_,_=>rfl
 |[],y::b,h,_=>by rw[uP]at h;simp at h
 |x::a,[],_,h=>by rw[uP]at h;simp at h
 |x::a,y::b,d,c=>by
  rw[Aj]at d c;by_cases e:x=y
  ·subst e;rw[if_pos (Da.2 rfl)]at d c;rw[KV d c]
  ·rw[if_neg (λh=>e (Da.1 h))]at d;rw[if_neg (λh=>e (Da.1 h).symm)]at c;have a1:kq x y=J:=by
    cases h:kq x y with
    |false=>rfl
    |true=>exfalso;apply d;simp[qI,h]
   have a2:kq y x=J:=by
    cases h:kq y x with
    |false=>rfl
    |true=>exfalso;apply c;simp[qI,h]
   exact absurd (aey a1 a2) e
theorem Jv(a b:M z):(!gr a b && !gr b a)=Z' (a=b):=by
 rw[sE,sE,dC];simp only[ai,ck,decide_eq_false_iff_not,decide_eq_true_eq]
 constructor
 ·rintro⟨d,c⟩;exact KV d c
 ·rintro rfl;have:=(Ai (a:=a) (b:=a)).2 rfl;omega
def zd(n:ah)(l:M aE)(v:z)(a:M z):u Nat:=
 mB (λy=>Z' (y.ak=n.ak) && (!(Z' (n.aq=4) && !Z' (y.bg=v)) && (!Z' (n.aq=2) ||(!gr (keyOf n y).1 a && !gr a (keyOf n y).1)))) l 0
def zJ(n:ah)(a b:aE):Bool:=!jD n.aq ||((keyOf n a).2 && ((keyOf n b).2 && Z' ((keyOf n a).1=(keyOf n b).1)))
def u_(n:ah)(l:M aE)(x:aE):u Nat:=
 mB (λy=>Z' (y.ak=n.ak) && (Z' (pv n x y=0) && zJ n x y)) l 0
theorem Au{a:Type}{p q:a->Bool}:∀{l:M a} {k:Nat},(∀x∈l,p x=q x)->mB p l k=mB q l k
 |[],_,_=>rfl
 |y::l,k,h=>by simp only[mB,h y bQ,Au λx b=>h x (bT _ b)]
theorem idx_eq{n:ah}{l:M aE}{x:aE}(j:n.aq=2->(keyOf n x).2=I)(k:∀y∈l,y.ak=n.ak->n.aq=2->(keyOf n y).2=I):zd n l x.bg (keyOf n x).1=u_ n l x:=by
 refine Au λy i=>?_;by_cases d:y.ak=n.ak
 ·simp only[d,decide_true,cU];by_cases b:n.aq=2
  ·have c:¬n.aq=4:=by omega
   have g:jD n.aq=I:=by simp[jD,b]
   have f:¬(2:Int)=4:=by decide
   simp only[b,f,decide_true,decide_false,cM,gp,cU,lL,gG,Jv,zJ,j b,k y i d b,pv,if_true,show jD 2=I from rfl];rw[dC];simp only[ai,decide_eq_true_eq,Ai,and_self];exact eq_comm
  ·by_cases c:n.aq=4
   ·have g:jD n.aq=I:=by simp[jD,c]
    have h:∀a:aE,keyOf n a=([a.bg],I):=λa=>by rw[keyOf,if_neg b]
    have e:¬(4:Int)=2:=by decide
    simp only[c,e,decide_true,decide_false,cU,gp,lg,gm,aL,zJ,pv,if_true,h,show jD 4=I from rfl,lL,gG];rw[dC];simp only[ai,decide_eq_true_eq,Ai,and_self,bY,and_true];exact eq_comm
   ·have g:jD n.aq=J:=by simp[jD,b,c]
    simp only[b,c,decide_false,cM,gp,lg,gm,zJ,g,pv,aD,if_false,decide_true]
 ·simp only[d,decide_false,cM]
section
variable {ip:z->Bool} {mt:z->z->Bool}
def Rt(ip:z->Bool)(mt:z->z->Bool)(d:M ah)(l:M aE):Prop:=∃N,m_ (qq ip mt N) d l=I
theorem Se{ok:Bool}{s:M ah}{l:M aE}(h:vd ip mt ok s l=I):Rt ip mt (dk s) l:=by
 simp only[vd,ai]at h;exact⟨_,h.2.2⟩
end
end
section
def q9(n:ah):Bool:=n.bk.isEmpty && (n.unique.isEmpty && (Z' (n.default.size=0) && (!n.given && (!n.fixed && (Z' (n.min=0) && Z' (n.max=0))))))
def vi(l:M ah)(o:u Nat)(p:ah->Bool):Bool:=match o with
 |some j=>(match nth l j with
  |some x=>p x
  |none=>J)
 |none=>J
def Si(x:ah):Bool:=x.when.isEmpty && (!x.given && !Z' (x.type.aq=6))
def AG(l:M ah)(k:z):Bool:=vi l (dO l k) λx=>Z' (x.aq=3) && Si x
def FF(l:M ah)(k:z):Bool:=vi l (dO l k) λx=>Z' (x.aq=3)
def BN(n:ah):Bool:=n.bk.all (AG n.ae) && (n.unique.all (FF n.ae) && (zT n.type && (!n.bk.isEmpty && (rP n.bk && (rP n.unique && (mW n && (!n.given && (!n.ft && (!n.cZ && (!n.fixed && Z' (n.default.size=0)))))))))))
def Ey(a:z->Bool)(n:ah):Bool:=n.bk.isEmpty && (n.unique.isEmpty && (Z' (n.min=0) && (Z' (n.max=0) && (!n.cZ && (n.ae.isEmpty && isType a n.type)))))
def L5(a:z->Bool)(n:ah):Bool:=n.bk.isEmpty && (n.unique.isEmpty && (Z' (n.default.size=0) && (!n.given && (!n.fixed && (!n.ft && (!n.cZ && (n.ae.isEmpty && (mW n && isType a n.type))))))))
def Hh(n:ah):Bool:=isName n.ak && (F5 n.when 1 && F5 n.jG 3)
section
variable (ip:z->Bool) (mt:z->z->Bool)
def j7(n:ah)(free:Bool):Bool:=
 if n.aq=1 then q9 n && (!n.ft && zT n.type)
 else if n.aq=2 then BN n
 else if n.aq=3 then (if n.given=I then Ey ip n && (free && (!n.ft && (n.when.isEmpty && isVal ip mt n.type n.default))) else Ey ip n && Z' (n.default.size=0))
 else if n.aq=4 then L5 ip n
 else if n.aq=5 then q9 n && (!n.cZ && (n.jG.isEmpty && zT n.type))
 else if n.aq=6 then q9 n && (!n.cZ && (!n.ft && (n.jG.isEmpty && zT n.type)))
 else J
def vC(n:ah)(free:Bool):Bool:=Hh n && j7 ip mt n free
def sW(n:ah)(free:Bool):Bool:=free && (n.when.isEmpty && !Z' (n.aq=6))
def rN:Nat->M ah->Int->Bool->Nat->Bool
 |0,_,_,_,_=>J
 |m+1,l,k,free,deep=>
  allI (λi n=>Z' (dO l n.ak=Z i) && (Z' (Z' (k=5)=Z' (n.aq=6)) && (vC ip mt n free && rN m n.ae n.aq (sW n free) (deep+1)))) 0 l &&
   (allI (λi n=>Z' (dO (dk l) n.ak=Z i)) 0 (dk l) && (Z' (deep<=8) ||l.isEmpty))
def wW(l:M ah)(k:z):Bool:=vi l (lV l k) Si
def p9(n:ah):Bool:=
 (!Z' (n.aq=3) && (!Z' (n.aq=4) && !zT n.type)) ||
 ((!Z' (n.aq=2) && !(n.bk.isEmpty && n.unique.isEmpty)) ||
 ((!Z' (n.aq=3) && (!Z' (n.default.size=0) ||(n.given ||n.fixed))) ||
 ((!Z' (n.aq=3) && (!Z' (n.aq=5) && n.ft)) ||
 ((!Z' (n.aq=1) && n.cZ) ||
 ((!Z' (n.aq=2) && (!Z' (n.aq=4) && (!Z' (n.min=0) ||!Z' (n.max=0)))) ||
 ((!kM n.aq && !n.jG.isEmpty) ||
 ((Z' (n.aq=3) ||decide (n.aq=4)) && !n.ae.isEmpty)))))))
def nK(l:M z):Bool:=Z' (l.length<=3) && (tc l && l.all isName)
def lO(n:ah):Bool:=
 if n.aq=1 then I
 else if n.aq=2 then !n.bk.isEmpty && (nK n.bk && (nK n.unique && mW n))
 else if n.aq=3 then isType ip n.type && (!(n.given && (n.ft ||!n.when.isEmpty)) && (if n.given=I then isVal ip mt n.type n.default else Z' (n.default.size=0)))
 else if n.aq=4 then isType ip n.type && mW n
 else if n.aq=5 then I
 else if n.aq=6 then I
 else if n.aq=7 then n.when.isEmpty && n.ae.isEmpty
 else J
def zu(n:ah):Bool:=Hh n && (!p9 n && lO ip mt n)
def wX:Nat->M ah->Int->Bool->Bool
 |0,_,_,_=>J
 |m+1,l,k,bound=>
  (tc (l.map ah.ak) && (o6 k ||tc ((dk l).map ah.ak))) &&
   l.all λn=>zu ip mt n && (!Z' (n.aq=7) && (Z' (Z' (n.aq=6)=Z' (k=5)) && (!(n.given && bound) && (n.bk.all (wW n.ae) && (n.unique.all (λa=>(lV n.ae a).isSome) && wX m n.ae n.aq (bound ||(!n.when.isEmpty ||decide (n.aq=6))))))))
end
theorem nq{b:Type}{p:Nat->b->Bool}:∀{l:M b} {i:Nat},allI p i l=I↔∀j x,nth l j=Z x->p (i+j) x=I
 |[],i=>⟨λ_ j x h=>by simp[nth]at h,λ_=>rfl⟩
 |y::l,i=>by
  simp only[allI,ai,nq (l:=l)]
  constructor
  ·rintro⟨d,c⟩ j x a
   cases j with
   |zero=>cases a;exact d
   |succ j=>have:=c j x a;rwa [Nat.add_right_comm,cO]at this
  ·intro h;refine⟨h 0 y rfl,λj x a=>?_⟩;have:=h (j+1) x a
   rwa [Nat.add_right_comm,cO]
theorem qp{a:Type}:∀{l:M a} {x:a},x∈l->∃j,nth l j=Z x
 |y::l,x,h=>by
  rcases aI.1 h with rfl|h
  ·exact⟨0,rfl⟩
  ·obtain⟨j,b⟩:=qp h;exact⟨j+1,b⟩
theorem Av{a:Type}{p:a->Bool}:∀{l:M a} {k j:Nat} {e:a},nth l j=Z e->p e=I->(∀i x,i < j->nth l i=Z x->p x=J)->mB p l k=Z (k+j)
 |y::l,k,0,e,h,b,_=>by cases h;simp only[mB,b,if_true,dx]
 |y::l,k,j+1,e,h,b,c=>by
  have f:=c 0 y (by omega) rfl;simp only[mB,f,aD,if_false];rw[Av (l:=l) (k:=k+1) h b λi x g d=>c (i+1) x (by omega) d]
  congr 1;omega
theorem xF{a:Type}{p:a->Bool}:∀{l:M a} {k j:Nat},mB p l k=Z j->∀i x,k+i < j->nth l i=Z x->p x=J
 |[],k,j,h=>by simp[mB]at h
 |y::l,k,j,h=>by
  intro i x d b;simp only[mB]at h
  split at h
  ·cases h;omega
  ·rename_i c;cases i with
   |zero=>cases b;exact eg.2 c
   |succ i=>exact xF h i x (by omega) b
theorem A6{g β:Type}(f:g->β):∀{l:M g},(l.map f).Nodup↔∀i j x y,i < j->nth l i=Z x->nth l j=Z y->f x≠f y
 |[]=>by simp[nth]
 |a::l=>by
  simp only[aZ,cx,A6 f (l:=l)]
  constructor
  ·rintro⟨q,p⟩ i j x y d c b
   obtain⟨j,rfl⟩:∃m,j=m+1:=⟨j - 1,by omega⟩
   cases i with
   |zero=>cases c;exact λe=>q (bZ.2 ⟨y,bp (l:=l) b,e.symm⟩)
   |succ i=>exact p i j x y (by omega) c b
  ·intro h;refine⟨λk=>?_,λi j x y d c b=>h (i+1) (j+1) x y (by omega) c b⟩;obtain⟨y,b,o⟩:=bZ.1 k;obtain⟨j,n⟩:=qp b;exact h 0 (j+1) a y (by omega) rfl n o.symm
theorem n_(l:M ah):allI (λi n=>Z' (dO l n.ak=Z i)) 0 l=I↔(l.map ah.ak).Nodup:=by
 rw[nq,A6];simp only[bu,decide_eq_true_eq]
 constructor
 ·intro h i j x y c a b f;have g:=h j y b;have:=xF g i x (by omega) a;simp[f]at this
 ·intro h j x a;have:=Av (p:=λe:ah=>Z' (e.ak=x.ak)) (k:=0) a (by simp) λi y d b=>by simpa using h i j y x d b a
  rw[bu]at this;exact this
theorem QB{l:M ah}(f:(l.map ah.ak).Nodup)(k:z)(p:ah->Bool):vi l (dO l k) (λx=>Z' (x.aq=3) && p x)=vi l (lV l k) p:=by
 cases h:lV l k with
 |some j=>
  obtain⟨e,b,a⟩:=dU h;simp only[ai,decide_eq_true_eq]at a;have:dO l k=Z j:=by
   have:=Av (p:=λe:ah=>Z' (e.ak=k)) (k:=0) b (by simp[a.1]) λi y g d=>by
    have:=(A6 ah.ak).1 f i j y e g d b;rw[a.1]at this
    simpa using this
   rw[bu]at this;exact this
  simp only[this,vi,b,a.2,decide_true,cU]
 |none=>
  cases m:dO l k with
  |none=>rfl
  |some j=>
   obtain⟨e,b,a⟩:=dU m;by_cases c:e.aq=3
   ·have:(lV l k).isSome=I:=by
     unfold lV;rw[uZ,kI];exact⟨e,bp b,by simpa [c] using a⟩
    rw[h]at this;cases this
   ·simp only[vi,b,c,decide_false,cM]
theorem aai{l:M ah}(a:(l.map ah.ak).Nodup)(k:z):FF l k=(lV l k).isSome:=by
 have:=QB a k λ_=>I;simp only[gm]at this;rw[FF,this];cases h:lV l k with
 |none=>rfl
 |some j=>
  obtain⟨e,b,_⟩:=dU h;simp only[vi,b,kX]
theorem aah{l:M ah}(a:(l.map ah.ak).Nodup)(k:z):AG l k=wW l k:=QB a k Si
theorem EB{l:M ah}(h:∀x∈l,isName x.ak=I){k:z}(b:(lV l k).isSome=I):isName k=I:=by
 obtain⟨j,c⟩:=cy.1 b;obtain⟨e,d,a⟩:=dU c;simp only[ai,decide_eq_true_eq]at a;rw[<- a.1];exact h e (bp d)
theorem Sh{l:M ah}{k:z}(h:wW l k=I):(lV l k).isSome=I:=by
 unfold wW vi at h
 split at h
 ·rename_i j a;rw[a];rfl
 ·cases h
theorem Mo{l:M z}(h:∀k∈l,isName k=I):nK l=rP l:=by
 have:l.all isName=I:=bz.2 h;rw[nK,rP,this,gm,Bool.and_comm]
section
variable {ip:z->Bool} {mt:z->z->Bool}
theorem YU{n:ah}(h:n.aq=2):(!p9 n && lO ip mt n)=(zT n.type && (!n.bk.isEmpty && (nK n.bk && (nK n.unique && (mW n && (!n.given && (!n.ft && (!n.cZ && (!n.fixed && Z' (n.default.size=0)))))))))):=by
 simp only[p9,lO,h,kM];cases zT n.type<;>cases n.bk.isEmpty<;>cases nK n.bk<;>cases nK n.unique<;>cases mW n<;>cases n.given<;>cases n.ft<;>cases n.cZ<;>cases n.fixed<;>cases Z' (n.default.size=0)<;>rfl
theorem ZV{n:ah}{free:Bool}(h:¬(1<=n.aq/\n.aq<=6)):j7 ip mt n free=J:=by
 simp only[j7];rw[if_neg (by omega),if_neg (by omega),if_neg (by omega),if_neg (by omega),if_neg (by omega),if_neg (by omega)]
theorem Wn{n:ah}(h:¬(1<=n.aq/\n.aq<=6))(a:n.aq≠7):lO ip mt n=J:=by
 simp only[lO];rw[if_neg (by omega),if_neg (by omega),if_neg (by omega),if_neg (by omega),if_neg (by omega),if_neg (by omega),if_neg a]
theorem QM{n:ah}{bound:Bool}(C:(n.ae.map ah.ak).Nodup)(D:∀x∈n.ae,isName x.ak=I) :
  (vC ip mt n (!bound)=I)↔zu ip mt n=I/\n.aq≠7/\(n.given && bound)=J/\n.bk.all (wW n.ae)=I/\n.unique.all (λc=>(lV n.ae c).isSome)=I:=by
 unfold vC zu;cases Hh n with
 |false=>simp
 |true=>
  simp only[cU];by_cases i:n.aq=2
  ·have R:n.bk.all (AG n.ae)=n.bk.all (wW n.ae):=by congr 1;funext k;exact aah C k
   have Q:n.unique.all (FF n.ae)=n.unique.all (λc=>(lV n.ae c).isSome):=by congr 1;funext k;exact aai C k
   rw[YU i];have P:j7 ip mt n (!bound)=BN n:=by simp only[j7,i];rfl
   rw[P,BN,R,Q];cases L:n.bk.all (wW n.ae) with
   |false=>simp
   |true=>
    cases K:n.unique.all (λc=>(lV n.ae c).isSome) with
    |false=>simp
    |true=>
     have G:=Mo (l:=n.bk) λk B=>EB D (Sh (bz.1 L k B));have F:=Mo (l:=n.unique) λk B=>EB D (bz.1 K k B);rw[G,F,i];cases n.given<;>simp
  ·by_cases r:1<=n.aq/\n.aq<=6
   ·have hd:kM n.aq=Z' (n.aq<=4):=by
     by_cases h:n.aq<=4
     ·rw[decide_eq_true h];exact (gZ _ _ _).2 ⟨r.1,h⟩
     ·rw[decide_eq_false h];exact eg.2 λN=>h ((gZ _ _ _).1 N).2
    cases A:n.bk with
    |cons a l=>
     have:p9 n=I:=by simp[p9,i,A]
     have j:j7 ip mt n (!bound)=J:=by simp[j7,i,q9,Ey,L5,A]
     simp[this,j]
    |nil=>
     cases y:n.unique with
     |cons a l=>
      have:p9 n=I:=by simp[p9,i,y]
      have j:j7 ip mt n (!bound)=J:=by simp[j7,i,q9,Ey,L5,y]
      simp[this,j]
     |nil=>
      have s:n.aq≠7:=by omega
      have j:j7 ip mt n (!bound)=(!p9 n && (lO ip mt n && !(n.given && bound))):=by
       simp only[p9,j7,lO,q9,Ey,L5,A,y,hd,fQ,cU,gm];obtain⟨T,S⟩:=r;have H:n.aq=1\/n.aq=3\/n.aq=4\/n.aq=5\/n.aq=6:=by omega
       rcases H with h|h|h|h|h<;>simp only[h]<;>generalize zT n.type=b<;>generalize isType ip n.type=t<;>generalize isVal ip mt n.type n.default=v<;>generalize n.when.isEmpty=w<;>generalize n.jG.isEmpty=c<;>generalize n.ae.isEmpty=q<;>generalize mW n=o<;>generalize Z' (n.default.size=0)=d<;>generalize Z' (n.min=0)=m<;>generalize Z' (n.max=0)=x<;>generalize n.given=g<;>generalize n.fixed=f<;>generalize n.ft=e<;>generalize n.cZ=p
       ·cases b<;>cases d<;>cases m<;>cases x<;>cases g<;>cases f<;>cases e<;>cases bound<;>rfl
       ·cases t<;>cases v<;>cases w<;>cases q<;>cases d<;>cases m<;>cases x<;>cases g<;>cases e<;>cases p<;>cases bound<;>rfl
       ·cases t<;>cases o<;>cases q<;>cases d<;>cases g<;>cases f<;>cases e<;>cases p<;>cases bound<;>rfl
       ·cases b<;>cases d<;>cases m<;>cases x<;>cases g<;>cases f<;>cases c<;>cases p<;>cases bound<;>rfl
       ·cases b<;>cases d<;>cases m<;>cases x<;>cases g<;>cases f<;>cases e<;>cases c<;>cases p<;>cases bound<;>rfl
      rw[j];cases n.given<;>simp[s,and_assoc]
   ·rw[ZV r];by_cases s:n.aq=7
    ·simp[s]
    ·rw[Wn r s];simp
theorem DV{m:Nat}{l:M ah}{k:Int}{b:Bool}(h:wX ip mt m l k b=I):(l.map ah.ak).Nodup/\∀x∈l,isName x.ak=I:=by
 cases m with
 |zero=>cases h
 |succ m=>
  simp only[wX,ai,bz]at h;refine⟨(qd _).1 h.1.1,λx a=>?_⟩;have:=(h.2 x a).1;simp only[zu,Hh,ai]at this;exact this.1.1
theorem Cw:∀(l:M ah) (N:Nat),tf l<=N↔∀x∈l,1+tf x.ae<=N
 |[],N=>by simp[tf]
 |e::l,N=>by rw[tf,Nat.max_le,Cw l N];simp
theorem UT{l:M ah}:tf l=0↔l=[]:=by
 cases l with
 |nil=>simp[tf]
 |cons e l=>rw[tf];simp
theorem GH(n:ah)(bound:Bool):sW n (!bound)=!(bound ||(!n.when.isEmpty ||decide (n.aq=6))):=by
 unfold sW;cases bound<;>cases n.when.isEmpty<;>cases Z' (n.aq=6)<;>rfl
theorem NH{l:M ah}{n:ah}(a:n∈l)(b:o6 n.aq=I):(dk n.ae).Sublist (dk l):=by
 induction l with
 |nil=>cases a
 |cons e l c=>
  rw[ny];rcases aI.1 a with rfl|h
  ·have:uR n=dk n.ae:=by
    unfold uR;rw[if_neg,if_pos b];intro h;have:=(abO h).1;rw[b]at this;cases this
   rw[this];exact List.sublist_append_left _ _
  ·exact (c h).trans (List.sublist_append_right _ _)
theorem acV:∀(m:Nat) (l:M ah) (k:Int) (d:Bool) (deep:Nat),aw l < m->1<=deep->
  (rN ip mt m l k (!d) deep=I↔wX ip mt m l k d=I/\((dk l).map ah.ak).Nodup/\(tf l=0\/deep+tf l<=9)):=by
 intro m
 induction m with
 |zero=>intro l k d deep h;omega
 |succ m G=>
  intro l k d deep L hd;have q:∀n∈l,∀b,(rN ip mt m n.ae n.aq (!b) (deep+1)=I↔wX ip mt m n.ae n.aq b=I/\((dk n.ae).map ah.ak).Nodup/\(tf n.ae=0\/deep+1+tf n.ae<=9)):=λn f b=>
   G n.ae n.aq b (deep+1) (by have:=ba f;have:=ah.er n;omega) (by omega)
  constructor
  ·intro h;simp only[rN,ai]at h;obtain⟨i,H,g⟩:=h;rw[nq]at i;simp only[bu,ai,decide_eq_true_eq]at i;have w:(l.map ah.ak).Nodup:=(n_ l).1 (by rw[nq];intro j x p;rw[bu,decide_eq_true_eq];exact (i j x p).1);have s:=(n_ (dk l)).1 H;have p:∀n∈l,(Z' (k=5)=Z' (n.aq=6))/\(zu ip mt n=I/\n.aq≠7/\(n.given && d)=J/\n.bk.all (wW n.ae)=I/\n.unique.all (λc=>(lV n.ae c).isSome)=I)/\wX ip mt m n.ae n.aq (d ||(!n.when.isEmpty ||decide (n.aq=6)))=I/\(tf n.ae=0\/deep+1+tf n.ae<=9):=by
    intro n f;obtain⟨j,t⟩:=qp f;obtain⟨_,a2,a3,a4⟩:=i j n t;rw[GH]at a4;obtain⟨F,_,K⟩:=(q n f _).1 a4;obtain⟨c1,y⟩:=DV F;exact⟨a2,(QM c1 y).1 a3,F,K⟩
   refine⟨?_,s,?_⟩
   ·simp only[wX,ai,bz];refine⟨⟨(qd _).2 w,by rw[df];exact .inr ((qd _).2 s)⟩,λn f=>?_⟩;obtain⟨a1,⟨a2,a3,a4,a5,A⟩,o,_⟩:=p n f;exact⟨a2,by simpa using a3,by rw[decide_eq_true_eq];exact a1.symm,by rw[a4];rfl,bz.1 a5,bz.1 A,o⟩
   ·by_cases B:l=[]
    ·exact .inl (UT.2 B)
    ·have Q:deep<=8:=by
      cases l with
      |nil=>exact absurd rfl B
      |cons e l=>simpa using g
     have:=(Cw l (9 - deep)).2 λn f=>by
      obtain⟨_,_,_,a⟩:=p n f;omega
     omega
  ·rintro⟨i,s,g⟩
   simp only[wX,ai,bz]at i;obtain⟨⟨w,P⟩,p⟩:=i;have v:=(qd _).1 w;have r:∀n∈l,deep+(1+tf n.ae)<=9:=by
    intro n f;rcases g with g|g
    ·rw[UT.1 g]at f;cases f
    ·have:=(Cw l (9 - deep)).1 (by omega) n f;omega
   simp only[rN,ai];refine⟨?_,(n_ (dk l)).2 s,?_⟩
   ·rw[nq];intro j n t;have f:=bp t;obtain⟨a1,a2,a3,a4,a5,A,o⟩:=p n f;obtain⟨c1,y⟩:=DV o;have C:=(n_ l).2 v;rw[nq]at C;simp only[ai];refine⟨C j n t,by rw[decide_eq_true_eq]at a3 ⊢;exact a3.symm,(QM c1 y).2 ⟨a1,by simpa using a2,by cases N:n.given<;>cases d<;>simp_all,bz.2 a5,bz.2 A⟩,?_⟩;rw[GH];refine (q n f _).2 ⟨o,?_,.inr (by have:=r n f;omega)⟩;cases D:o6 n.aq with
    |true=>exact List.Nodup.sublist ((NH f D).map _) s
    |false=>
     cases m with
     |zero=>cases o
     |succ m=>
      simp only[wX,ai,D,gG]at o;exact (qd _).1 o.1.2
   ·rcases g with g|g
    ·rw[UT.1 g];simp
    ·cases l with
     |nil=>simp
     |cons e l=>
      have:=r e bQ;have:deep<=8:=by omega
      simp[this]
noncomputable def DQ(ip:z->Bool)(mt:z->z->Bool)(l:M ah):Bool:=Z' (eK l<=60) && rN ip mt (aw l+1) l 0 I 1
theorem ZQ(l:M ah):DQ ip mt l=(Z' (eK l<=60) && (Z' (tf l<=8) && wX ip mt (aw l+1) l 0 J)):=by
 have h:=acV (ip:=ip) (mt:=mt) (aw l+1) l 0 J 1 (aS _) (az _);rw[gp]at h;unfold DQ
 congr 1
 rw[dC,h,ai,decide_eq_true_eq]
 constructor
 ·rintro⟨a,_,c⟩
  exact⟨by omega,a⟩
 ·rintro⟨a,b⟩
  refine⟨b,?_,by omega⟩;simp only[wX,ai,o6,df,decide_eq_true_eq]at b;rcases b.1.2 with h|h
  ·rcases h with h|h<;>omega
  ·exact (qd _).1 h
end
end
section
abbrev PR:=u (dB×Nat)
abbrev eT:z:=⟨#[]⟩
def iC(s:z)(i:Nat)(b:Int):Bool:=Z' (i < s.size) && Z' (eA s i=b)
def YV(f:Nat->Bool):z:=bA (((cu 256).filter f).map dD)
def Ru:z:=YV λx=>Z' (32<=x) && Z' (x<=126)
def pF(r:M (Int×Int))(x:Nat):Bool:=r.any λp=>Z' (p.1<=(x:Int)) && Z' ((x:Int)<=p.2)
def aer(r:M (Int×Int)):z:=YV (pF r)
def rQ(s:z)(i:Nat):u ((Int×Int)×Nat):=
 if (Z' (i < s.size) && Nx (eA s i))=I then
  if iC s (i+1) 126=I then
   if (Z' (i+2 < s.size) && (Nx (eA s (i+2)) && Z' (eA s i<=eA s (i+2))))=I then Z ((eA s i,eA s (i+2)),i+3) else O
  else Z ((eA s i,eA s i),i+1)
 else O
def iW(s:z):Nat->Nat->u (M (Int×Int)×Nat)
 |0,_=>O
 |f+1,i=>if iC s i 93=I then Z ([],i+1) else match rQ s i with
  |some (r,j)=>(iW s f j).map λp=>(r::p.1,p.2)
  |none=>O
def Ms(s:z)(i:Nat):PR:=match iW s (s.size+1) i with
 |some (r::l,k)=>Z (⟨1,aer (r::l),[]⟩,k)
 |_=>O
def pCh(b:Int):Bool:=fS 97 122 b ||(fS 48 57 b ||decide (b=45))
def EU(b:Int):z:=bA [dD b.toNat]
def xp(alt:Nat->PR)(s:z)(i:Nat):PR:=
 if iC s i 40=I then (match alt (i+1) with
  |some (p,j)=>if iC s j 41=I then Z (p,j+1) else O
  |none=>O)
 else if iC s i 91=I then Ms s (i+1)
 else if iC s i 46=I then Z (⟨1,Ru,[]⟩,i+1)
 else if (Z' (i < s.size) && pCh (eA s i))=I then Z (⟨1,EU (eA s i),[]⟩,i+1)
 else O
def E5(s:z)(p:dB)(j:Nat):dB×Nat:=
 if iC s j 42=I then (⟨4,eT,[p]⟩,j+1)
 else if iC s j 43=I then (⟨2,eT,[p,⟨4,eT,[p]⟩]⟩,j+1)
 else if iC s j 63=I then (⟨5,eT,[p]⟩,j+1)
 else (p,j)
def sM(alt:Nat->PR)(s:z)(i:Nat):PR:=(xp alt s i).map λp=>E5 s p.1 p.2
def vI(s:z)(i:Nat):Bool:=Z' (i < s.size) && (!Z' (eA s i=124) && !Z' (eA s i=41))
def vH(alt:Nat->PR)(s:z):Nat->Nat->u (M dB×Nat)
 |0,_=>O
 |f+1,i=>if vI s i=I then match sM alt s i with
   |some (p,j)=>(vH alt s f j).map λq=>(p::q.1,q.2)
   |none=>O
  else Z ([],i)
def sP(op:Int):M dB->dB
 |[p]=>p
 |l=>⟨op,eT,l⟩
def Ci(alt:Nat->PR)(s:z)(i:Nat):PR:=(vH alt s (s.size+1) i).map λq=>(sP 2 q.1,q.2)
def BP(alt:Nat->PR)(s:z):Nat->Nat->u (M dB×Nat)
 |0,_=>O
 |f+1,i=>if iC s i 124=I then match Ci alt s (i+1) with
   |some (p,j)=>(BP alt s f j).map λq=>(p::q.1,q.2)
   |none=>O
  else Z ([],i)
def E4(alt:Nat->PR)(s:z)(i:Nat):PR:=match Ci alt s i with
 |some (p,j)=>(BP alt s (s.size+1) j).map λq=>(sP 3 (p::q.1),q.2)
 |none=>O
def Tb(s:z):Nat->Nat->PR
 |0,_=>O
 |f+1,i=>E4 (Tb s f) s i
def BQ(s:z):u dB:=if 30 < s.size then O else match Tb s (s.size+1) 0 with
 |some (p,k)=>if k=s.size then Z p else O
 |none=>O
def xX(n:Nat)(p:dB):Bool:=(Z' (p.ae.length<=n) && Z' (p.text.size<=256)) && p.ae.attach.all λq=>xX n q.1
termination_by aw p
decreasing_by exact dB.Kt q.2
theorem JN(n:Nat)(p:dB):xX n p=((Z' (p.ae.length<=n) && Z' (p.text.size<=256)) && p.ae.all (xX n)):=by
 rw[xX]
 congr 1
 rw[dC,bz,bz];exact⟨λh x a=>h ⟨x,a⟩ (List.mem_attach _ _),λh x _=>h x.1 x.2⟩
theorem CO{n:Nat}{p q:dB}(h:xX n p=I)(a:q∈p.ae):xX n q=I:=by
 rw[JN,ai,bz]at h;exact h.2 q a
theorem CP{n:Nat}{p:dB}(h:xX n p=I):p.ae.length<=n:=by
 rw[JN,ai,ai,decide_eq_true_eq]at h;exact h.1.1
theorem aax{n:Nat}{p:dB}(h:xX n p=I):p.text.size<=256:=by
 rw[JN,ai,ai,decide_eq_true_eq,decide_eq_true_eq]at h;exact h.1.2
theorem xY{n:Nat}{op:Int}{t:z}{l:M dB}(a:t.size<=256)(h:l.length<=n)(b:∀q∈l,xX n q=I):xX n ⟨op,t,l⟩=I:=by
 rw[JN,ai,ai,decide_eq_true_eq,decide_eq_true_eq,bz];exact⟨⟨h,a⟩,b⟩
theorem BC:eT.size<=256:=nU _
theorem vT{n:Nat}{op:Int}:∀{l:M dB},l.length<=n->(∀q∈l,xX n q=I)->xX n (sP op l)=I
 |[p],_,h=>h p (db.2 rfl)
 |[],h,a=>xY BC h a
 |_::_::_,h,a=>xY BC h a
theorem QZ{n:Nat}(a:2<=n){s:z}{p:dB}(j:Nat)(h:xX n p=I):xX n (E5 s p j).1=I:=by
 unfold E5;have b:xX n ⟨4,eT,[p]⟩=I:=xY BC (by simp;omega) (by simpa using h);have c:xX n ⟨5,eT,[p]⟩=I:=xY BC (by simp;omega) (by simpa using h);have a:xX n ⟨2,eT,[p,⟨4,eT,[p]⟩]⟩=I:=xY BC (by simpa using a) (by simp[h,b]);split
 ·exact b
 split
 ·exact a
 split
 ·exact c
 ·exact h
theorem QY(s:z)(p:dB)(j:Nat):j<=(E5 s p j).2/\(j<=s.size->(E5 s p j).2<=s.size):=by
 unfold E5;have a:∀b,iC s j b=I->j < s.size:=λb h=>by simp only[iC,ai,decide_eq_true_eq]at h;exact h.1
 split
 ·rename_i h;have:=a _ h;exact⟨by simp,λ_=>this⟩
 split
 ·rename_i h;have:=a _ h;exact⟨by simp,λ_=>this⟩
 split
 ·rename_i h;have:=a _ h;exact⟨by simp,λ_=>this⟩
 ·exact⟨az _,λh=>h⟩
theorem Af(f:Nat->Bool):(YV f).size<=256:=by
 have:=oW f (cu 256);simp only[YV,qO,aA,List.length_range]at this ⊢;exact this
theorem nH{s:z}{i:Nat}{b:Int}(h:iC s i b=I):i < s.size:=by simp only[iC,ai,decide_eq_true_eq]at h;exact h.1
end
section
def hasB(t:z)(b:Int):Bool:=(cu t.size).any λk=>Z' (eA t k=b)
def M5(t s:z)(a:M Bool):M Bool:=J::(cu s.size).map λi=>(nth a i).getD J && hasB t (eA s i)
def BW(f:M Bool->M Bool):Nat->M Bool->M Bool
 |0,x=>x
 |n+1,x=>if dM x (f x)=x then x else BW f n (dM x (f x))
def ES{b β:Type}(l:M b)(a:β)(g:b->β):β:=match l with
 |[k]=>g k
 |_=>a
theorem JL{b β:Type}{l:M b}{a:β}{g:b->β}(h:l.length≠1):ES l a g=a:=by
 unfold ES;split
 ·exact absurd rfl h
 ·rfl
theorem JK{b β:Type}(k:b)(a:β)(g:b->β):ES [k] a g=g k:=(rfl)
def La(f:dB->M Bool->M Bool)(s:z)(p:dB)(a:M Bool):M Bool:=
 if p.op=1 then M5 p.text s a
 else if p.op=2 then p.ae.foldl (λo k=>f k o) a
 else if p.op=3 then p.ae.foldl (λo k=>dM o (f k a)) (aY (s.size+1) J)
 else if p.op=4 then ES p.ae a λk=>BW (f k) (s.size+2) a
 else if p.op=5 then ES p.ae a λk=>dM a (f k a)
 else aY (s.size+1) J
def jg(s:z):Nat->dB->M Bool->M Bool
 |0,_,a=>a
 |n+1,p,a=>La (jg s n) s p a
noncomputable def Oi(p:dB)(s:z):Bool:=(nth (jg s (aw p+1) p (I::aY s.size J)) s.size).getD J
noncomputable def Mc(t s:z):Bool:=match BQ t with
 |some p=>Oi p s
 |none=>J
def nZ(t:z):Bool:=(BQ t).isSome
theorem HY{f:M Bool->M Bool}:∀(n:Nat) (x:M Bool),(BW f n x).length=x.length
 |0,x=>rfl
 |n+1,x=>by
  simp only[BW];split
  ·rfl
  ·rw[HY n,j9]
theorem Io(t s:z)(a:M Bool):(M5 t s a).length=s.size+1:=by simp[M5]
theorem RH{f:dB->M Bool->M Bool}{s:z}{p:dB}{a:M Bool}(i:∀k∈p.ae,∀b:M Bool,b.length=s.size+1->(f k b).length=s.size+1)(c:a.length=s.size+1):(La f s p a).length=s.size+1:=by
 unfold La;have m:∀(l:M dB) (b:M Bool),(∀k∈l,k∈p.ae)->b.length=s.size+1->(l.foldl (λo k=>f k o) b).length=s.size+1:=by
  intro l
  induction l with
  |nil=>intro b _ h;exact h
  |cons k l d=>intro b e h;exact d _ (λx g=>e x (bT _ g)) (i k (e k bQ) b h)
 have j:∀(l:M dB) (b:M Bool),b.length=s.size+1->(l.foldl (λo k=>dM o (f k a)) b).length=s.size+1:=by
  intro l
  induction l with
  |nil=>intro b h;exact h
  |cons k l d=>intro b h;exact d _ (by rw[j9];exact h)
 split
 ·exact Io _ _ _
 split
 ·exact m _ _ (λ_ h=>h) c
 split
 ·exact j _ _ (by simp)
 split
 ·unfold ES;split
  ·rw[HY];exact c
  ·exact c
 split
 ·unfold ES;split
  ·rw[j9];exact c
  ·exact c
 ·simp
theorem so{s:z}:∀(n:Nat) (p:dB) (a:M Bool),a.length=s.size+1->(jg s n p a).length=s.size+1
 |0,_,_,h=>h
 |n+1,p,a,h=>RH (λk _ b c=>so n k b c) h
def outs:M Bool->Nat
 |[]=>0
 |b::l=>(if b then 0 else 1)+outs l
theorem JM:∀(l:M Bool),outs l<=l.length
 |[]=>az _
 |b::l=>by have:=JM l;cases b<;>simp[outs]<;>omega
theorem xK:∀(x y:M Bool),outs (dM x y)<=outs x/\(dM x y≠x->outs (dM x y) < outs x)
 |[],y=>by cases y<;>simp[dM,outs]
 |b::x,[]=>by simp[dM,outs]
 |b::x,c::y=>by
  obtain⟨d,a⟩:=xK x y;refine⟨by cases b<;>cases c<;>simp[dM,outs]<;>omega,λh=>?_⟩;cases b<;>cases c<;>simp_all[dM,outs]<;>omega
theorem Hf:∀(x y:M Bool),nC x y=!Z' (dM x y=x)
 |[],y=>by cases y<;>simp[dM,nC]
 |b::x,[]=>by simp[dM,nC]
 |b::x,c::y=>by
  have:=Hf x y;cases b<;>cases c<;>simp_all[dM,nC]
end
section
theorem mH{s:z}{i:Nat}{b:Int}:iC s i b=I↔i < s.size/\eA s i=b:=by simp[iC]
theorem Qi{s:z}{i:Nat}{b:Int}(h:iC s i b=J)(a:i < s.size):¬eA s i=b:=by
 intro c;rw[mH.2 ⟨a,c⟩]at h;cases h
theorem rU{s:z}{i:Nat}{c:Int}(d:s.size<=mg)(h:iC s i c=I):G 216 [.str s,E (i:Int),.bool J,.int .u8 c]=Z (0,[.bool I,.str s,E ((i+1:Nat):Int),.bool J]):=by
 obtain⟨a,e⟩:=mH.1 h;have b:=wj a d;refine cN t216 rfl ?_;simp only[go_sem,t216,a,e,fF _ _ a,b]
theorem rT{s:z}{i:Nat}{c:Int}(h:iC s i c=J):G 216 [.str s,E (i:Int),.bool J,.int .u8 c]=Z (0,[.bool J,.str s,E (i:Int),.bool J]):=by
 refine cN t216 rfl ?_;by_cases a:i < s.size
 ·have b:=Qi h a;simp only[go_sem,t216,a,b,fF _ _ a]
 ·simp only[go_sem,t216,a]
theorem JO{s:z}{i c:Int}:G 216 [.str s,E i,.bool I,.int .u8 c]=Z (0,[.bool J,.str s,E i,.bool I]):=by
 refine cN t216 rfl ?_;simp only[go_sem,t216]
abbrev hB(f:Nat->Bool):D:=.list 1 I ((cu 256).map λx=>[D.bool (f x)])
abbrev bL(f:Nat->Bool)(n:Nat):D:=.list 1 I (((cu n).filter f).map λx:Nat=>[D.int .u8 (x:Int)])
theorem On{a:Type}{f:Nat->a}{n x:Nat}(h:x < n):nth ((cu n).map f) x=Z (f x):=by
 rw[eh];simp[h]
theorem VL{f:Nat->Bool}{x:Nat}(h:x < 256):aU .TJ [hB f,E (x:Int)]=Z (.bool J):=lZ _ _ _ _ (by simpa using h)
theorem acr{f:Nat->Bool}{x:Nat}(h:x < 256):aU (.UY 1 0 1 I) [hB f,E (x:Int)]=Z (.list 0 J [[.bool (f x)]]):=by
 simp only[aU,cd,On h];simp[dW,D.plain]
theorem acs{f:Nat->Bool}{x:Nat}(h:x < 256):aU (.set 0) [hB f,E (x:Int),.bool I]=Z (hB λy=>f y ||decide (x=y)):=by
 simp only[aU,cd,On h];rw[if_pos ⟨by simp,λ_=>by simp[dW,D.plain]⟩]
 congr 2
 apply List.ext_getElem (by simp)
 intro i c b;simp only[aA,List.length_range]at b;rw[List.getElem_set];simp only[List.getElem_map,List.getElem_range];by_cases a:x=i
 ·subst a;simp[gU]
 ·simp[a]
theorem Zn:aU (.make 1 1 I [zB J]) [E 256]=Z (hB λ_=>J):=by
 have:(cu 256).map (λx:Nat=>[D.bool ((λ_=>J) x)])=aY 256 [D.bool J]:=by
  rw[qD];simp
 simp only[hB,this];rfl
theorem OD:aU (.wB 1 I) []=Z (.list 1 I []):=wI 1 I
theorem uY(f:Nat->Bool)(n:Nat):(cu (n+1)).filter f=(cu n).filter f++(if f n=I then [n] else []):=by
 rw[List.range_succ,List.filter_append]
 congr 1
 by_cases h:f n=I<;>simp[h]
theorem Uo{f:Nat->Bool}{n:Nat}(a:n < 256)(h:f n=I):aU (.app 1 1) [bL f n,.list 1 I [[.int .u8 (n:Int)]]]=Z (bL f (n+1)):=by
 have b:((cu n).filter f).length<=n:=by have:=oW f (cu n);simpa using this
 rw[OC _ _ _ _ _ (by simp only[aA,aG,aP,room,maxLen];omega)];simp only[bL,uY,h,if_true,cp,aZ,cj]
theorem afe{f:Nat->Bool}{n:Nat}(h:f n=J):bL f (n+1)=bL f n:=by
 simp only[bL,uY,h,aD,if_false,aJ]
theorem Bz:∀(l:M Nat),bytesOf (l.map λx:Nat=>[D.int .u8 (x:Int)])=Z (l.map λx:Nat=>(x:Int))
 |[]=>rfl
 |x::l=>by simp only[aZ,bytesOf,Bz l,aQ]
theorem Up{f:Nat->Bool}{n:Nat}:aU .Nu [bL f n]=Z (.str (bA (((cu n).filter f).map dD))):=by
 simp only[bL,aU,Bz,aQ,List.map_map,bA];rfl
theorem ab6{f:Nat->Bool}{n:Nat}(c:n<=256)(h:∀x,n<=x->f x=J):bA (((cu n).filter f).map dD)=YV f:=by
 have:∀m,(cu (n+m)).filter f=(cu n).filter f:=by
  intro m
  induction m with
  |zero=>rfl
  |succ m b=>rw[<- cO,uY,h (n+m) (by omega),b];simp
 have a:=this (256 - n);rw[show n+(256 - n)=256 by omega]at a;rw[YV,a]
theorem PB{x:Nat}(h:x < 256):IntKind.u8.wrap (x:Int)=(x:Int):=wrap_u8 (by omega)
theorem FI{x:Nat}(h:x<=mg):IntKind.i64.wrap (x:Int)=(x:Int):=wrap_i64 (by simp only[mg]at h;omega)
theorem mkU(x:Int):aU (.wB 1 I) [.int .u8 x]=Z (.list 1 I [[.int .u8 x]]):=tO .u8 x
abbrev F4(x:Nat):Bool:=decide (32<=x) && decide (x<=126)
theorem n32:((32:Nat):Int)=32:=(rfl)
theorem n127:((127:Nat):Int)=127:=(rfl)
theorem n256:((256:Nat):Int)=256:=(rfl)
theorem bL0(f:Nat->Bool):bL f 0=.list 1 I []:=(rfl)
theorem aje:bL F4 32=.list 1 I []:=by
 have:(cu 32).filter F4=[]:=by decide
 simp only[bL,this,cj]
theorem akO:G 221 []=Z (0,[.str Ru]):=by
 refine cN t221 rfl ?_;have p:=IL (b:=lB G D8) (λi=>(0,[E ((i:Nat):Int),bL F4 i])) (λi=>if 32<=i then O else Z (0,[])) 127 (0,[E 127,.bool J,bL F4 127]);have l:∀m i,i+m=127->32<=i->cl (lB G D8) (0,[E ((i:Nat):Int),bL F4 i])=Z (0,[E 127,.bool J,bL F4 127]):=by
  intro m
  induction m with
  |zero=>
   intro i h _;obtain rfl:i=127:=by omega
   refine aX ?_;simp only[go_sem,bK,D8,n127]
  |succ m d=>
   intro i h q;refine (bU ?_).trans (d (i+1) (by omega) (by omega));have k:(i:Int) < 127:=by omega
   have j:=PB (x:=i) (by omega);have g:=Uo (f:=F4) (n:=i) (by omega) (by simp[F4];omega);have e:=wj (i:=i) (n:=127) (by omega) (by decide);simp only[go_sem,bK,D8,k,j,g,e,mkU]
 have a:=l 95 32 rfl (by omega);rw[aje,n32]at a;have c:=Up (f:=F4) (n:=127);rw[ab6 (by decide) (λx o=>by simp[F4];omega)]at c;simp only[go_sem,t221,a,OD,c];rfl
theorem AO{e op tx s i b:D}{a:Nat}(g:a < 256):∀(m x:Nat) (f:Nat->Bool),x+m=a+1->
  cl (lB G D6) (0,[e,.int .u8 (a:Int),E (x:Int),op,tx,s,i,b,hB f])=Z (0,[e,.int .u8 (a:Int),E ((a+1:Nat):Int),.bool J,op,tx,s,i,b,hB λy=>f y ||(Z' (x<=y) && Z' (y<=a))])
 |0,x,f,h=>by
  obtain rfl:x=a+1:=by omega
  have c:Z' (((a+1:Nat):Int)<=(a:Int))=J:=by simp only[decide_eq_false_iff_not];omega
  have d:=FI (x:=a) (by simp only[mg];omega);have l:(λy=>f y ||(Z' (a+1<=y) && Z' (y<=a)))=f:=by
   funext y
   by_cases h:a+1<=y
   ·have:¬y<=a:=by omega
    simp[h,this]
   ·simp[h]
  rw[l];refine aX ?_;simp only[go_sem,bK,D6,c,d]
 |m+1,x,f,h=>by
  refine (bU ?_).trans ((AO (e:=e) (op:=op) (tx:=tx) (s:=s) (i:=i) (b:=b) g m (x+1) (λy=>f y ||decide (x=y)) (by omega)).trans ?_)
  ·have c:Z' ((x:Int)<=(a:Int))=I:=by simp only[decide_eq_true_eq];omega
   have d:=FI (x:=a) (by simp only[mg];omega);have k:=wj (i:=x) (n:=256) (by omega) (by decide);simp only[go_sem,bK,D6,c,d,k,VL (f:=f) (x:=x) (by omega),acs (f:=f) (x:=x) (by omega)]
  ·have j:(λy=>(λy=>f y ||decide (x=y)) y ||(Z' (x+1<=y) && Z' (y<=a)))=λy=>f y ||(Z' (x<=y) && Z' (y<=a)):=by
    funext y
    by_cases c:x=y
    ·subst c;have:x<=a:=by omega
     simp[this]
    ·by_cases d:x<=y
     ·have:x+1<=y:=by omega
      simp[c,d,this]
     ·have:¬x+1<=y:=by omega
      simp[c,d,this]
   rw[j]
theorem Hp{op tx s i b:D}{f:Nat->Bool}:∀(m x:Nat),x+m=256->
  cl (lB G D7) (0,[E (x:Int),op,tx,s,i,b,hB f,bL f x])=Z (0,[E 256,.bool J,op,tx,s,i,b,hB f,bL f 256])
 |0,x,h=>by
  obtain rfl:x=256:=by omega
  refine aX ?_;simp only[go_sem,bK,D7,n256,fD]
 |m+1,x,h=>by
  refine (bU ?_).trans (Hp m (x+1) (by omega));have g:(x:Int) < 256:=by omega
  have e:=VL (f:=f) (x:=x) (by omega);have c:=acr (f:=f) (x:=x) (by omega);have d:=wj (i:=x) (n:=256) (by omega) (by decide);have j:=PB (x:=x) (by omega);cases a:f x with
  |false=>
   rw[afe a];rw[a]at c;simp only[go_sem,bK,D7,g,e,c,d]
  |true=>
   rw[a]at c;simp only[go_sem,bK,D7,g,e,c,d,j,mkU,Uo (f:=f) (n:=x) (by omega) a]
theorem oO(a b:Nat):Z' ((a:Int)<=(b:Int))=Z' (a<=b):=by apply decide_eq_decide.2;omega
theorem yy(s:z)(i:Nat):∃a:Nat,a < 256/\eA s i=(a:Int):=by
 have:=sU s i;exact⟨(eA s i).toNat,by omega,by omega⟩
def kW(e:D)(s:z)(i:Nat)(f:Nat->Bool):u (D×D)->Nat×M D
 |none=>(0,[e,.int .i64 0,.str ⟨#[]⟩,.str s,.int .i64 (i:Int),.bool J,hB f])
 |some (a,v)=>(1,[e,a,v,.bool J,.int .i64 0,.str ⟨#[]⟩,.str s,.int .i64 (i:Int),.bool J,hB f])
theorem acK(f:Nat->Bool)(a:Nat)(l:M (Int×Int)):(λy:Nat=>(f y ||(Z' (a<=y) && Z' (y<=a))) ||pF l y)=λy=>f y ||pF (((a:Int),(a:Int))::l) y:=by
 funext y
 simp only[pF,nj,iu]
 congr 3<;>simp
theorem V_(f:Nat->Bool)(a b:Nat)(l:M (Int×Int)):(λy:Nat=>(f y ||(Z' (a<=y) && Z' (y<=b))) ||pF l y)=λy=>f y ||pF (((a:Int),(b:Int))::l) y:=by
 funext y
 simp only[pF,nj,iu]
 congr 3<;>simp
def aaR(e:D)(s:z)(i:Nat)(f:Nat->Bool)(r:u (M (Int×Int)×Nat))(o:Nat×M D):Prop:=match r with
 |some (l,k)=>i+1+l.length<=k/\k<=s.size/\o=(1,[e,.bool J,.int .i64 0,.str ⟨#[]⟩,.str s,.int .i64 (k:Int),.bool J,hB λy=>f y ||pF l y])
 |none=>∃k:Nat,i<=k/\k<=s.size/\o=(0,[.int .i64 0,.str ⟨#[]⟩,.str s,.int .i64 (k:Int),.bool I])
theorem Sp{e:D}{s:z}(hs:s.size<=mg):∀(g i:Nat) (f:Nat->Bool) (q:u (D×D)),i<=s.size->s.size+1 - i<=g->
  ∃o,cl (lB G iN) (kW e s i f q)=Z o/\aaR e s i f (iW s g i) o:=by
 intro g
 induction g with
 |zero=>intro i f q h1 m;omega
 |succ g ih=>
  intro i f q hi hg;have nx:∀(j:Nat) (f':Nat->Bool) (d v:D) (S:Int×Int),i < j->j<=s.size->(∀l,(λy=>f' y ||pF l y)=λy=>f y ||pF (S::l) y)->lB G iN (kW e s i f q)=Z (.go (kW e s j f' (Z (d,v))))->rQ s i=Z (S,j)->iC s i 93=J->
    ∃o,cl (lB G iN) (kW e s i f q)=Z o/\aaR e s i f (iW s (g+1) i) o:=by
   intro j f' d v S hij hj hf kF W t;obtain⟨o,h1,m⟩:=ih j f' (Z (d,v)) hj (by omega);refine⟨o,(bU kF).trans h1,?_⟩;have V:iW s (g+1) i=(iW s g j).map λp=>(S::p.1,p.2):=by simp only[iW,t,aD,if_false,W]
   rw[V];cases hr:iW s g j with
   |none=>
    rw[hr]at m;obtain⟨k,k1,T,Y⟩:=m;exact⟨k,by omega,T,Y⟩
   |some p=>
    obtain⟨l,k⟩:=p;rw[hr]at m;obtain⟨k1,T,Y⟩:=m;rw[hf]at Y;exact⟨by show i+1+(S::l).length<=k;rw[aG];omega,T,Y⟩
  have bd:∀(k:Nat),i<=k->k<=s.size->iC s i 93=J->rQ s i=O->lB G iN (kW e s i f q)=Z (.out (0,[E 0,.str ⟨#[]⟩,.str s,E (k:Int),.bool I]))->
    ∃o,cl (lB G iN) (kW e s i f q)=Z o/\aaR e s i f (iW s (g+1) i) o:=by
   intro k k1 T t W ho;refine⟨_,aX ho,?_⟩;have V:iW s (g+1) i=O:=by simp only[iW,t,aD,if_false,W]
   rw[V];exact⟨k,k1,T,rfl⟩
  cases t:iC s i 93 with
  |true=>
   obtain⟨F,_⟩:=mH.1 t;have h:=rU hs t;refine⟨(1,[e,.bool J,E 0,.str ⟨#[]⟩,.str s,E ((i+1:Nat):Int),.bool J,hB f]),?_,?_⟩
   ·refine aX ?_;cases q with
    |none=>simp only[go_sem,bK,kW,iN,h]
    |some p=>simp only[go_sem,bK,kW,iN,h]
   ·have V:iW s (g+1) i=Z ([],i+1):=by simp only[iW,t,if_true]
    rw[V];have he:(λy=>f y ||pF [] y)=f:=by funext y;simp[pF]
    refine⟨by simp,by omega,?_⟩;rw[he]
  |false=>
   have h:=rT t;by_cases F:i < s.size
   ·obtain⟨a,ha,Yw⟩:=yy s i;have r:=ahL (b:=eA s i) (sU s i);have A:=fF s i F;have B:=wj F hs;have n:¬s.size<=i:=by omega
    cases L:Nx (eA s i) with
    |false=>
     refine bd i (az _) hi t (by simp only[rQ,L,kH,aD,if_false]) ?_;rw[L]at r;cases q with
     |none=>simp only[go_sem,bK,kW,iN,h,oO,n,A,r,cz]
     |some p=>simp only[go_sem,bK,kW,iN,h,oO,n,A,r,cz]
    |true=>
     rw[L]at r;cases K:iC s (i+1) 126 with
     |false=>
      have m:=rT K;have P:=AO (e:=e) (op:=E 0) (tx:=.str ⟨#[]⟩) (s:=.str s) (i:=E ((i+1:Nat):Int)) (b:=.bool J) ha 1 a f rfl;rw[<- Yw]at P;refine nx (i+1) _ (.int .u8 (eA s i)) (E ((a+1:Nat):Int)) (eA s i,eA s i) (by omega) (by omega) (λl=>by rw[Yw];exact acK f a l) ?_ (by simp only[rQ,F,L,K,decide_true,jr,if_true,aD,if_false]) t;cases q with
      |none=>simp only[go_sem,bK,kW,iN,h,oO,n,A,r,B,m,P]
      |some p=>simp only[go_sem,bK,kW,iN,h,oO,n,A,r,B,m,P]
     |true=>
      have m:=rU hs K;obtain⟨VY,_⟩:=mH.1 K;have R:∀(k:Nat),k=i+2->rQ s i=O->lB G iN (kW e s i f q)=Z (.out (0,[E 0,.str ⟨#[]⟩,.str s,E (k:Int),.bool I]))->∃o,cl (lB G iN) (kW e s i f q)=Z o/\aaR e s i f (iW s (g+1) i) o:=λk hk W ho=>bd k (by omega) (by omega) t W ho;by_cases C:i+1+1 < s.size
      ·have w:=fF s (i+1+1) C;have N:=ahL (b:=eA s (i+1+1)) (sU s (i+1+1));have U:=wj C hs;have H:¬s.size<=i+1+1:=by omega
       cases X:Nx (eA s (i+1+1)) with
       |false=>
        rw[X]at N;refine R (i+1+1) rfl (by simp only[rQ,F,L,K,X,decide_true,jr,if_true,cM,kH,aD,if_false]) ?_;cases q with
        |none=>simp only[go_sem,bK,kW,iN,h,oO,n,A,r,B,m,H,w,N,cz]
        |some p=>simp only[go_sem,bK,kW,iN,h,oO,n,A,r,B,m,H,w,N,cz]
       |true=>
        rw[X]at N;by_cases ed:eA s (i+1+1) < eA s i
        ·have Q:¬eA s i<=eA s (i+1+1):=by omega
         refine R (i+1+1) rfl (by simp only[rQ,F,L,K,X,Q,decide_true,decide_false,jr,if_true,kH,aD,if_false]) ?_;cases q with
         |none=>simp only[go_sem,bK,kW,iN,h,oO,n,A,r,B,m,H,w,N,ed,cz]
         |some p=>simp only[go_sem,bK,kW,iN,h,oO,n,A,r,B,m,H,w,N,ed,cz]
        ·have Q:eA s i<=eA s (i+1+1):=by omega
         obtain⟨c,hz,VQ⟩:=yy s (i+1+1);have P:=AO (e:=e) (op:=E 0) (tx:=.str ⟨#[]⟩) (s:=.str s) (i:=E ((i+1+1+1:Nat):Int)) (b:=.bool J) hz (c+1 - a) a f (by omega);have wa:=FI (x:=a) (by simp only[mg];omega);rw[<- VQ,<- Yw]at P;refine nx (i+1+1+1) _ (.int .u8 (eA s (i+1+1))) (E ((c+1:Nat):Int)) (eA s i,eA s (i+1+1)) (by omega) (by omega) (λl=>by rw[Yw,VQ];exact V_ f a c l) ?_ (by simp only[rQ,F,L,K,X,C,Q,decide_true,jr,if_true]) t;cases q with
         |none=>simp only[go_sem,bK,kW,iN,h,oO,n,A,r,B,m,H,w,N,U,ed,P]
         |some p=>simp only[go_sem,bK,kW,iN,h,oO,n,A,r,B,m,H,w,N,U,ed,P]
      ·have H:s.size<=i+1+1:=by omega
       refine R (i+1+1) rfl (by
        have:¬i+2 < s.size:=C;simp only[rQ,F,L,K,this,decide_true,decide_false,jr,if_true,cM,aD,if_false]) ?_
       cases q with
       |none=>simp only[go_sem,bK,kW,iN,h,oO,n,A,r,B,m,H,cz]
       |some p=>simp only[go_sem,bK,kW,iN,h,oO,n,A,r,B,m,H,cz]
   ·have n:s.size<=i:=by omega
    refine bd i (az _) hi t (by simp only[rQ,F,decide_false,cM,aD,if_false]) ?_;cases q with
    |none=>simp only[go_sem,bK,kW,iN,h,oO,n,cz]
    |some p=>simp only[go_sem,bK,kW,iN,h,oO,n,cz]
def PA(s:z)(i c:Nat)(r:PR)(p:dB)(k:Nat)(b:Bool):Prop:=xX 64 p=I/\i<=k/\k<=s.size/\match r with
 |some q=>b=J/\q=(p,k)/\i+c<=k
 |none=>b=I
theorem kR(op:Int)(t:z)(h:t.size<=256):xX 64 ⟨op,t,[]⟩=I:=xY h (by simp) (by simp)
theorem Tc{s:z}{g i k:Nat}(h:iW s g i=Z ([],k)):k=i+1:=by
 cases g with
 |zero=>cases h
 |succ g=>
  simp only[iW]at h
  split at h
  ·cases h;rfl
  ·split at h
   ·obtain⟨p,_,h⟩:=aj.1 h;simp at h
   ·cases h
theorem akN{s:z}{i:Nat}(w:s.size<=mg)(C:i<=s.size):∃p k b,G 220 [.str s,E (i:Int),.bool J]=Z (0,je p++[.str s,.int .i64 (k:Int),.bool b])/\PA s i 0 (Ms s i) p k b:=by
 obtain⟨o,c,g⟩:=Sp (e:=E (i:Int)) w (s.size+1) i (λ_=>J) O (by omega) (by omega);have m:=Zn;simp only[kW]at c;cases a:iW s (s.size+1) i with
 |none=>
  rw[a]at g;obtain⟨k,j,d,rfl⟩:=g;refine⟨⟨0,eT,[]⟩,k,I,cN t220 rfl ?_,kR _ _ BC,j,d,by rw[Ms,a]⟩;simp only[go_sem,t220,cz,m,c,aW];rfl
 |some q=>
  obtain⟨l,k⟩:=q;rw[a]at g;obtain⟨j,d,rfl⟩:=g;have B:(λy:Nat=>(λ_=>J) y ||pF l y)=pF l:=by funext y;simp
  rw[B]at c;have v:IntKind.i64.wrap ((i:Int)+1)=((i+1:Nat):Int):=by rw[wrap_i64 (by simp only[mg]at w;omega)];omega
  have h:=λtx A b=>Hp (op:=E 0) (tx:=tx) (s:=.str s) (i:=A) (b:=b) (f:=pF l) 256 0 rfl;simp only[bL0,n0]at h;have x:=Up (f:=pF l) (n:=256);cases l with
  |nil=>
   have t:=Tc a;subst t;refine⟨⟨1,YV (pF []),[]⟩,i+1,I,cN t220 rfl ?_,kR _ _ (Af _),by omega,d,by rw[Ms,a]⟩;simp only[go_sem,t220,cz,m,c,v,OD,h,x,aW];rfl
  |cons r l=>
   have t:¬(k:Int)=((i+1:Nat):Int):=by rw[aG]at j;omega
   refine⟨⟨1,YV (pF (r::l)),[]⟩,k,J,cN t220 rfl ?_,kR _ _ (Af _),by omega,d,by rw[Ms,a];exact⟨rfl,rfl,by omega⟩⟩;simp only[go_sem,t220,cz,m,c,v,t,OD,h,x,aW];rfl
end
section
theorem Lr {a c : Type} {b : a -> u (Sg a c)} (mk : Nat -> a) (n : Nat) {fin : c} (d : ∀ i, i < n -> b (mk i) = Z (.go (mk (i + 1)))) (f : b (mk n) = Z (.out fin)) : cl b (mk 0) = Z fin := by
  have h : ∀ m i, i + m = n -> cl b (mk i) = Z fin := by
    intro m
    induction m with
    | zero => intro i h; obtain rfl : i = n := by omega
              exact aX f
    | succ m e => intro i h; rw [bU (d i (by omega))]; exact e (i + 1) (by omega)
  exact h n 0 (by omega)
theorem Pw{l:M Bool}{i:Nat}{b:Bool}(h:nth l i=Z b):aU (.el 1) [bI l,E (i:Int)]=Z (.list 0 J [[.bool b]]):=by
 rw[rR,aR,h];rfl
theorem sY{l:M Bool}{i:Nat}(h:i < l.length):aU .TJ [bI l,E (i:Int)]=Z (.bool J):=lZ _ _ _ _ (by simpa using h)
theorem C5{l:M Bool}{i:Nat}{b:Bool}(h:nth l i=Z b):aU (.UY 1 0 1 I) [bI l,E (i:Int)]=Z (.list 0 J [[.bool b]]):=by
 simp only[aU,cd,aR,h,aQ];simp[BB,dW,D.plain]
theorem C6{l:M Bool}{i:Nat}{c:Bool}(h:i < l.length):aU (.set 0) [bI l,E (i:Int),.bool c]=Z (bI (l.set i c)):=by
 have a:nth l i=Z l[i]:=dz h;simp only[aU,cd,aR,a,aQ];rw[if_pos ⟨by simp,λ_=>by simp[dW,D.plain]⟩];simp only[bI,vV];rfl
theorem yB{n:Nat}(h:n<=67108864):aU (.make 1 1 I [zB J]) [E (n:Int)]=Z (bI (aY n J)):=by
 simp only[aU,cd];rw[if_pos ⟨by omega,by simp only[room];omega,by omega⟩];simp[bI,BB,SK.d]
theorem Uy{l m:M Bool}(h:m.length=l.length):aU .GV [bI l,bI m]=Z (bI m):=by
 simp only[aU,aA,h,and_self,if_true]
def ly(a:M Bool)(i:Nat):M Bool:=a.take i++aY (a.length - i) J
theorem acm(a:M Bool):ly a 0=aY a.length J:=by simp[ly]
theorem NU(a:M Bool):ly a a.length=a:=by simp[ly]
theorem yR(a:M Bool)(i:Nat)(h:i<=a.length):(ly a i).length=a.length:=by simp[ly];omega
theorem DA(a:M Bool)(i j:Nat)(h:i<=a.length):(ly a i)[j]?=if j < i then a[j]? else if j < a.length then Z J else O:=by
 unfold ly;rw[yl];have c:(a.take i).length=i:=by rw[bj];omega
 rw[c];split
 ·rw[List.getElem?_take_of_lt (by assumption)]
 ·rw[List.getElem?_replicate];by_cases b:j < a.length
  ·rw[if_pos (by omega),if_pos b]
  ·rw[if_neg (by omega),if_neg b]
theorem At{a:M Bool}{i:Nat}{b:Bool}(h:nth a i=Z b):(ly a i).set i b=ly a (i+1):=by
 have e:i < a.length:=bw h;rw[eh]at h
 apply eE
 intro j;rw[jU,DA _ _ _ (by omega),DA _ _ _ (by omega),yR _ _ (by omega)];by_cases c:i=j
 ·subst c;rw[if_pos rfl,if_pos e,if_pos (by omega),h]
 ·rw[if_neg c];by_cases d:j < i
  ·rw[if_pos d,if_pos (by omega)]
  ·rw[if_neg d,if_neg (show ¬j < i+1 by omega)]
theorem HF:∀{a b:M Bool} {i:Nat} {x y:Bool},nth a i=Z x->nth b i=Z y->nth (dM a b) i=Z (x ||y)
 |_::_,_::_,0,_,_,d,c=>by cases d;cases c;rfl
 |a::x,b::y,i+1,_,_,d,c=>HF (a:=x) (b:=y) d c
theorem Gi{n:Nat}(h:n<=mg):IntKind.i64.wrap ((n:Int)+1)=((n+1:Nat):Int):=by rw[wrap_i64 (by simp only[mg]at h;omega)];omega
theorem adV{a b:M Bool}(o:a.length<=mg+1)(v:b.length=a.length):G 233 [bI a,bI b]=Z (0,[bI (dM a b)]):=by
 have d:=j9 a b;have m:=yB (n:=a.length) (by simp only[mg]at o;omega);have e:=Lr (b:=lB G I7) (λi=>(0,[bI a,bI b,E (i:Int),bI (ly (dM a b) i)])) a.length (fin:=(0,[bI a,bI b,E a.length,.bool J,bI (ly (dM a b) a.length)])) (by
  intro i f;have k:IntKind.i64.wrap ((i:Int)+1)=((i+1:Nat):Int):=Gi (by omega);have h:nth a i=Z a[i]:=dz f;have g:nth b i=Z (b[i]'(by omega)):=dz (by omega);have p:=HF h g;have t:=Pw h;have s:=Pw g;have r:=sY (l:=ly (dM a b) i) (i:=i) (by rw[yR _ _ (by omega)];omega);have q:=λc=>C6 (l:=ly (dM a b) i) (i:=i) (c:=c) (by rw[yR _ _ (by omega)];omega);have j:=At p;generalize a[i]=x at *;generalize (b[i]'(by omega))=y at *;cases x<;>cases y<;>simp only[la,lg,kg]at j<;>simp only[go_sem,bK,I7,f,k,t,s,r,q,j]) (by
  simp only[go_sem,bK,I7,aB])
 rw[n0,acm,d,<- d,NU,d]at e;refine cN t233 rfl ?_;simp only[go_sem,t233,m,e]
theorem uJ(p:Nat->Bool)(k:Nat):(cu (k+1)).any p=((cu k).any p ||p k):=by
 rw[List.range_succ,List.any_append];simp
theorem QN{t s:z}{a:M Bool}{i:Nat}{x:Bool}(b:i < s.size)(h:nth a i=Z x):nth (M5 t s a) (i+1)=Z (x && hasB t (eA s i)):=by
 have:=On (f:=λi=>(nth a i).getD J && hasB t (eA s i)) b;rw[h]at this;exact this
theorem Oo{l:M Bool}{i:Nat}{c:Bool}(h:i < l.length):nth (l.set i c) i=Z c:=by
 rw[eh,jU];simp[h]
theorem Sv{s t:z}{a o:M Bool}{op ks:D}{i:Nat}{x:Bool}(Q:s.size<=mg)(P:t.size<=mg)(B:i < s.size)(C:nth a i=Z x)(f:nth o (i+1)=Z J) :
  ∃d:Int,cl (lB G vl) (0,[.str s,bI a,E (i:Int),E 0,op,.str t,ks,bI o])=Z (0,[.str s,bI a,E (i:Int),E d,.bool J,op,.str t,ks,bI (o.set (i+1) (x && hasB t (eA s i)))]):=by
 have n:=Pw C;have e:=bw f;have A:IntKind.i64.wrap ((i:Int)+1)=((i+1:Nat):Int):=Gi (by omega);cases x with
 |false=>
  have m:o.set (i+1) (J && hasB t (eA s i))=o:=by
   apply eE
   intro j;rw[jU];rw[eh]at f;by_cases g:i+1=j
   ·subst g;rw[if_pos rfl,if_pos e,f];rfl
   ·rw[if_neg g]
  rw[m];refine⟨0,aX ?_⟩;by_cases w:(0:Int) < (t.size:Int)
  ·simp only[go_sem,bK,vl,w,n]
  ·simp only[go_sem,bK,vl,w,n]
 |true=>
  refine⟨t.size,?_⟩;have r:=Lr (b:=lB G vl) (λk=>(0,[.str s,bI a,E (i:Int),E (k:Int),op,.str t,ks,bI (o.set (i+1) ((cu k).any λk=>Z' (eA t k=eA s i)))])) t.size (fin:=(0,[.str s,bI a,E (i:Int),E t.size,.bool J,op,.str t,ks,bI (o.set (i+1) (hasB t (eA s i)))])) (by
   intro k v;have h:IntKind.i64.wrap ((k:Int)+1)=((k+1:Nat):Int):=Gi (by omega);rw[uJ];generalize (cu k).any (λk=>Z' (eA t k=eA s i))=q;have p:i+1 < (o.set (i+1) q).length:=by rw[qC];exact e
   have N:=sY p;have L:=C5 (Oo (l:=o) (i:=i+1) (c:=q) e);have y:=λc=>C6 (l:=o.set (i+1) q) (i:=i+1) (c:=c) p;have K:=fF t k v;have H:=fF s i B;have F:∀c,(o.set (i+1) q).set (i+1) c=o.set (i+1) c:=λc=>List.set_set ..;simp only[F]at y;cases q<;>simp only[go_sem,bK,vl,v,A,h,n,N,L,y,K,H]) (by
   have:hasB t (eA s i)=(cu t.size).any λk=>Z' (eA t k=eA s i):=rfl;rw[this];simp only[go_sem,bK,vl,aB])
  have m:o.set (i+1) ((cu 0).any λk=>Z' (eA t k=eA s i))=o:=by
   apply eE
   intro j;rw[jU];rw[eh]at f;by_cases g:i+1=j
   ·subst g;rw[if_pos rfl,if_pos e,f];rfl
   ·rw[if_neg g]
  rw[m,n0]at r;rw[cU];exact r
theorem WO{J:M Bool}{i j:Nat}(b:i<=j)(a:j < J.length):nth (ly J i) j=Z false:=by
 rw[eh,DA _ _ _ (by omega),if_neg (by omega),if_pos a]
theorem Sw{s t:z}{a:M Bool}{op ks:D}(m:s.size<=mg)(l:t.size<=mg)(p:a.length=s.size+1) :
  cl (lB G D_) (0,[.str s,bI a,E 0,op,.str t,ks,bI (aY (s.size+1) false)])=Z (0,[.str s,bI a,E s.size,.bool false,op,.str t,ks,bI (M5 t s a)]):=by
 have g:=Io t s a;have f:=Lr (b:=lB G D_) (λi=>(0,[.str s,bI a,E (i:Int),op,.str t,ks,bI (ly (M5 t s a) (i+1))])) s.size (fin:=(0,[.str s,bI a,E s.size,.bool false,op,.str t,ks,bI (ly (M5 t s a) (s.size+1))])) (by
  intro i d;have k:IntKind.i64.wrap ((i:Int)+1)=((i+1:Nat):Int):=Gi (by omega);have h:nth a i=Z (a[i]'(by omega)):=dz (by omega);have n:=QN (t:=t) d h;obtain⟨c,e⟩:=Sv (op:=op) (ks:=ks) m l d h (WO (J:=M5 t s a) (i:=i+1) (j:=i+1) (az _) (by omega));rw[At n]at e;simp only[go_sem,bK,D_,d,k,e]) (by
  simp only[go_sem,bK,D_,aB])
 have o:ly (M5 t s a) (0+1)=aY (s.size+1) false:=by
  rw[ly,g];simp[M5,gK]
 rw[o,n0]at f;rw[f]
 congr 9
 rw[<- g,NU]
def neB(x y:M Bool):Bool:=!Z' (x=y)
theorem Uj:∀{x y:M Bool},x.length=y.length->(cu x.length).any (λj=>!Z' (nth x j=nth y j))=neB x y
 |[],[],_=>rfl
 |a::x,b::y,h=>by
  have c:=Uj (x:=x) (y:=y) (by simpa using h);rw[aG,List.range_succ_eq_map,nj,List.any_map];have i:((λj=>!Z' (nth (a::x) j=nth (b::y) j)) ∘ Nat.succ)=λj=>!Z' (nth x j=nth y j):=rfl;rw[i,c];simp only[neB,bY];have g:nth (a::x) 0=Z a:=rfl;have f:nth (b::y) 0=Z b:=rfl;rw[g,f];by_cases e:a=b<;>by_cases d:x=y<;>simp[e,d]
theorem Hq{s op tx ks:D}{o x:M Bool}(t:o.length<=mg+1)(e:x.length=o.length) :
  cl (lB G AT) (0,[s,.bool J,E 0,op,tx,ks,bI o,bI x])=Z (0,[s,.bool (neB x o),E o.length,.bool J,op,tx,ks,bI o,bI x]):=by
 rw[<- Uj e];have f:=Lr (b:=lB G AT) (λi=>(0,[s,.bool ((cu i).any λj=>!Z' (nth x j=nth o j)),E (i:Int),op,tx,ks,bI o,bI x])) o.length (fin:=(0,[s,.bool ((cu o.length).any λj=>!Z' (nth x j=nth o j)),E o.length,.bool J,op,tx,ks,bI o,bI x])) (by
  intro i a;have k:IntKind.i64.wrap ((i:Int)+1)=((i+1:Nat):Int):=Gi (by omega);have h:nth o i=Z o[i]:=dz a;have g:nth x i=Z (x[i]'(by omega)):=dz (by omega);rw[uJ,h,g];generalize (cu i).any (λj=>!Z' (nth x j=nth o j))=q;have r:=C5 h;have p:=C5 g;have n:=sY a;have m:=sY (l:=x) (i:=i) (by omega);generalize o[i]=c at *;generalize (x[i]'(by omega))=d at *;cases q<;>cases c<;>cases d<;>simp only[go_sem,bK,AT,a,k,r,p,n,m,aa]) (by
  simp only[go_sem,bK,AT,aB])
 rw[n0]at f;rw[e];exact f
theorem K7(p:dB):(je p).length=3:=by rw[aW];rfl
theorem jo(p:dB)(k:Nat)(a:Bool):aU (.has 3) [.list k a [je p]]=Z (.bool J):=by
 rw[ya,K7,if_pos (az 3)]
theorem K8{l:M dB}{i:Nat}{p:dB}(h:nth l i=Z p):aU (.el 3) [cC l,E (i:Int)]=Z (.list 0 J [je p]):=by
 rw[rR,aR,h];rfl
theorem xj{k:dB}:aU (.el 3) [cC [k],E 0]=Z (.list 0 J [je k]):=K8 (l:=[k]) (i:=0) rfl
def Fk(h:u D)(s:z)(op:Int)(t:z)(k:dB)(x:M Bool):Nat×M D:=match h with
 |none=>(0,[.str s,.int .i64 op,.str t,cC [k],bI x])
 |some a=>(1,[.str s,a,.int .i64 op,.str t,cC [k],bI x])
section
variable {s:z} {k:dB} {f:M Bool->M Bool} (hs:s.size<=mg) (hf:∀x:M Bool,x.length=s.size+1->(f x).length=s.size+1)
 (ih:∀x:M Bool,x.length=s.size+1->G 234 (je k++[.str s,bI x])=Z (0,[bI (f x)]))
include hs hf ih
theorem Sy{t:z}:∀(m:Nat) (x:M Bool) (h:u D),outs x < m->x.length=s.size+1->
  cl (lB G o8) (Fk h s 4 t k x)=Z (0,[.str s,.bool I,E 4,.str t,cC [k],bI (BW f m x)]):=by
 intro m
 induction m with
 |zero=>intro x h q;omega
 |succ m p=>
  intro x h q e;have i:=ih x e;rw[aW]at i;simp only[au,av]at i;have j:=adV (a:=x) (b:=f x) (by rw[e];omega) (by rw[hf x e,e]);have n:=j9 x (f x);have g:=Hq (s:=.str s) (op:=E 4) (tx:=.str t) (ks:=cC [k]) (o:=x) (x:=dM x (f x)) (by rw[e];omega) n;simp only[BW];by_cases d:dM x (f x)=x
  ·rw[if_pos d];have l:neB (dM x (f x)) x=J:=by simp[neB,d]
   rw[l,d]at g;rw[d]at j;refine aX ?_;cases h with
   |none=>simp only[go_sem,bK,Fk,o8,xj,jo,aW k,i,j,g]
   |some c=>simp only[go_sem,bK,Fk,o8,xj,jo,aW k,i,j,g]
  ·rw[if_neg d];have l:neB (dM x (f x)) x=I:=by simp[neB,d]
   rw[l]at g;refine (bU (s':=Fk (Z (.bool J)) s 4 t k (dM x (f x))) ?_).trans (p _ (Z (.bool J)) (by have:=(xK x (f x)).2 d;omega) (by rw[n];exact e));cases h with
   |none=>simp only[go_sem,bK,Fk,o8,xj,jo,aW k,i,j,g]
   |some c=>simp only[go_sem,bK,Fk,o8,xj,jo,aW k,i,j,g]
theorem Sx{t:z}{x:M Bool}(c:x.length=s.size+1) :
  cl (lB G o8) (0,[.str s,E 5,.str t,cC [k],bI x])=Z (0,[.str s,.bool I,E 5,.str t,cC [k],bI (dM x (f x))]):=by
 have d:=ih x c;rw[aW]at d;simp only[au,av]at d;have i:=adV (a:=x) (b:=f x) (by rw[c];omega) (by rw[hf x c,c]);have h:=j9 x (f x);have e:=Hq (s:=.str s) (op:=E 5) (tx:=.str t) (ks:=cC [k]) (o:=x) (x:=dM x (f x)) (by rw[c];omega) h;refine aX ?_;cases g:neB (dM x (f x)) x<;>rw[g]at e<;>simp only[go_sem,bK,o8,xj,jo,aW k,d,i,e]
end
theorem xG{a β:Type}(g:β->a->β)(b:β)(l:M a)(i:Nat)(x:a)(h:nth l i=Z x):(l.take (i+1)).foldl g b=g ((l.take i).foldl g b) x:=by
 rw[cB l i x h,List.foldl_append];rfl
theorem Lo{s:z}{f:dB->M Bool->M Bool}(a:∀(k:dB) (x:M Bool),x.length=s.size+1->(f k x).length=s.size+1):∀(l:M dB) (b:M Bool),b.length=s.size+1->(l.foldl (λo k=>f k o) b).length=s.size+1
 |[],_,h=>h
 |k::l,b,h=>Lo a l _ (a k b h)
theorem Aw{s:z}{g:dB->M Bool}:∀(l:M dB) (b:M Bool),b.length=s.size+1->(l.foldl (λo k=>dM o (g k)) b).length=s.size+1
 |[],_,h=>h
 |k::l,b,h=>Aw l _ (by rw[j9];exact h)
theorem aan{a:Type}{l:M a}(h:l.length≠1):¬(l.length:Int)=1:=by omega
theorem adW{s:z}(P:s.size<=mg)(n:Nat):∀(p:dB) (a:M Bool),aw p < n->xX 64 p=I->a.length=s.size+1->G 234 (je p++[.str s,bI a])=Z (0,[bI (jg s n p a)]):=by
 induction n with
 |zero=>intro p a h;omega
 |succ n V=>
  intro p a hz S H;have j:=so (s:=s) n;have F:∀k∈p.ae,∀x:M Bool,x.length=s.size+1->G 234 (je k++[.str s,bI x])=Z (0,[bI (jg s n k x)]):=λk F x N=>V k x (by have:=dB.Kt F;omega) (CO S F) N;have c:=Gi P;have d:=yB (n:=s.size+1) (by simp only[mg]at P;omega);have Y:=CP S;have e:=Uy (l:=aY (s.size+1) J) (m:=a) (by simpa using H);have W:=aax S;refine cN t234 (by rw[aW];rfl) ?_;simp only[jg];unfold La;by_cases v:p.op=1
  ·have r:=Sw (s:=s) (t:=p.text) (a:=a) (op:=E 1) (ks:=cC p.ae) P (by simp only[mg];omega) H;rw[if_pos v];simp only[go_sem,c,d,e,t234,aW p,v,r]
  rw[if_neg v];by_cases w:p.op=2
  ·rw[if_pos w];have r:=ei (b:=lB G I8) p.ae (λi (x:M Bool)=>(0,[.str s,E (i:Int),E 2,.str p.text,cC p.ae,bI x])) (λi=>(p.ae.take i).foldl (λo k=>jg s n k o) a) (0,[.str s,E p.ae.length,.bool J,E 2,.str p.text,cC p.ae,bI (p.ae.foldl (λo k=>jg s n k o) a)]) (by
    intro i k y;have Q:=bw y;have q:=wj (i:=i) (n:=p.ae.length) Q (by simp only[mg];omega);have L:=F k (bp y) _ (Lo (f:=jg s n) j (p.ae.take i) a H);rw[aW]at L;simp only[au,av]at L;rw[xG _ _ _ _ _ y];simp only[go_sem,c,d,e,bK,I8,Q,q,K8 y,jo];simp only[go_sem,c,d,e,aW k,L,q]) (by
    rw[bo];simp only[go_sem,c,d,e,bK,I8,aB]) p.ae.length 0 (by omega)
   rw[n0,bE,yk]at r;simp only[go_sem,c,d,e,t234,aW p,v,w,r]
  rw[if_neg w];by_cases B:p.op=3
  ·rw[if_pos B];have r:=ei (b:=lB G I9) p.ae (λi (x:M Bool)=>(0,[.str s,bI a,E (i:Int),E 3,.str p.text,cC p.ae,bI x])) (λi=>(p.ae.take i).foldl (λo k=>dM o (jg s n k a)) (aY (s.size+1) J)) (0,[.str s,bI a,E p.ae.length,.bool J,E 3,.str p.text,cC p.ae,bI (p.ae.foldl (λo k=>dM o (jg s n k a)) (aY (s.size+1) J))]) (by
    intro i k y;have Q:=bw y;have q:=wj (i:=i) (n:=p.ae.length) Q (by simp only[mg];omega);have L:=F k (bp y) a H;have U:=Aw (s:=s) (g:=λk=>jg s n k a) (p.ae.take i) (aY (s.size+1) J) (by simp);have X:=adV (a:=(p.ae.take i).foldl (λo k=>dM o (jg s n k a)) (aY (s.size+1) J)) (b:=jg s n k a) (by rw[U];omega) (by rw[j k a H,U]);rw[aW]at L;simp only[au,av]at L;rw[xG _ _ _ _ _ y];simp only[go_sem,c,d,e,bK,I9,Q,q,K8 y,jo];simp only[go_sem,c,d,e,aW k,L,X,q]) (by
    rw[bo];simp only[go_sem,c,d,e,bK,I9,aB]) p.ae.length 0 (by omega)
   rw[n0,bE,yk]at r;simp only[go_sem,c,d,e,t234,aW p,v,w,B,r]
  rw[if_neg B];by_cases D:p.op=4
  ·rw[if_pos D];have A:¬(4:Int)=5:=by decide
   by_cases K:p.ae.length=1
   ·obtain⟨k,C⟩:=dP.1 K;have R:=Sy (t:=p.text) P (j k) (λx N=>F k (by rw[C];simp) x N) (s.size+2) a O (by have:=JM a;omega) H;simp only[Fk]at R;rw[C,JK];simp only[go_sem,c,d,e,t234,aW p,v,w,B,D,A,C,R]
   ·rw[JL K];have T:=aan K;have r:cl (lB G o8) (0,[.str s,E 4,.str p.text,cC p.ae,bI a])=Z (1,[.str s,.bool J,E 4,.str p.text,cC p.ae,bI a]):=by
     refine aX ?_;simp only[go_sem,c,d,e,bK,o8,T]
    simp only[go_sem,c,d,e,t234,aW p,v,w,B,D,A,r]
  rw[if_neg D];by_cases A:p.op=5
  ·rw[if_pos A];by_cases K:p.ae.length=1
   ·obtain⟨k,C⟩:=dP.1 K;have R:=Sx (t:=p.text) P (j k) (λx N=>F k (by rw[C];simp) x N) H;rw[C,JK];simp only[go_sem,c,d,e,t234,aW p,v,w,B,D,A,C,R]
   ·rw[JL K];have T:=aan K;have r:cl (lB G o8) (0,[.str s,E 5,.str p.text,cC p.ae,bI a])=Z (1,[.str s,.bool J,E 5,.str p.text,cC p.ae,bI a]):=by
     refine aX ?_;simp only[go_sem,c,d,e,bK,o8,T]
    simp only[go_sem,c,d,e,t234,aW p,v,w,B,D,A,r]
  rw[if_neg A];simp only[go_sem,c,d,e,t234,aW p,v,w,B,D,A]
theorem akT{s:z}{p:dB}(d:s.size<=mg)(m:xX 64 p=I):G 235 (je p++[.str s])=Z (0,[.bool (Oi p s)]):=by
 have k:=Gi d;have o:=yB (n:=s.size+1) (by simp only[mg]at d;omega);have e:=adW d (aw p+1) p (I::aY s.size J) (aS _) m (by simp);have g:=so (s:=s) (aw p+1) p (I::aY s.size J) (by simp);rw[aW]at e;simp only[au,av]at e;have j:=sY (l:=aY (s.size+1) J) (i:=0) (by simp);have f:=C6 (l:=aY (s.size+1) J) (i:=0) (c:=I) (by simp);have v:(aY (s.size+1) J).set 0 I=I::aY s.size J:=by rw[gK];rfl
 rw[v]at f;rw[n0]at j f;have t:=sY (l:=jg s (aw p+1) p (I::aY s.size J)) (i:=s.size) (by rw[g];omega);obtain⟨b,h⟩:∃b,nth (jg s (aw p+1) p (I::aY s.size J)) s.size=Z b:=⟨_,dz (by rw[g];omega)⟩
 have r:=C5 h;refine cN t235 (by rw[aW];rfl) ?_;have q:Oi p s=b:=by rw[Oi,h];rfl
 rw[q];generalize jg s (aw p+1) p (I::aY s.size J)=a at *;simp only[go_sem,t235,aW p,k,o,j,f,e,t,r]
end
section
theorem WY(b:Int):pCh b=(fS 97 122 b ||(fS 48 57 b ||decide (b=45))):=(rfl)
theorem aa1{s:z}{i:Nat}(h:i < s.size):aU (.Ti I) [.str s,E (i:Int),E ((i+1:Nat):Int)]=Z (.str (EU (eA s i))):=by
 have e:dI (E (i:Int))=Z i:=by simp[dI]
 have d:dI (E ((i+1:Nat):Int))=Z (i+1):=by simp only[dI];rw[if_pos (by omega)];congr 1
 simp only[aU,e,d];rw[if_pos ⟨by omega,by omega⟩]
 congr 2
 have a:(eA s i).toNat=(s[i]?.getD 0).toNat:=by unfold eA;simp
 have f:dD (eA s i).toNat=s[i]:=by
  rw[a,getElem?_pos s i h,ku];simp
 apply sd
 have c:(EU (eA s i)).data=#[s[i]]:=by simp only[EU,bA,f]
 rw[c,ByteArray.data_extract]
 apply Array.ext
 ·simp;omega
 ·intro j g b;have:j=0:=by simpa using b
  subst this;simp
  rfl
theorem air(k:Nat)(h:k<=mg):IntKind.i64.wrap (((k+1:Nat):Int) - 1)=(k:Int):=by rw[wrap_i64 (by simp only[mg]at h;omega)];omega
def C0(f:Nat)(s:z)(i c n:Nat)(a:Bool)(r:PR):Prop:=∃j p k b,j < n/\G f [.str s,.int .i64 (i:Int),.bool a]=Z (j,je p++[.str s,.int .i64 (k:Int),.bool b])/\PA s i c r p k b
section
variable {s:z} {alt:Nat->PR}
theorem tN(a:Int)(t:z):aU .pl [E a,.str t]=Z (.bool J):=(rfl)
theorem jw(a:Int)(t:z)(l:M dB):aU .TU [E a,.str t,cC l]=Z (.bool J):=(rfl)
theorem ajd{i d c e k:Nat}{r:PR}{p:dB}{b:Bool}(h:PA s d e r p k b)(j:i<=d)(l:i+c<=d+e):PA s i c r p k b:=by
 obtain⟨g,m,f,a⟩:=h;refine⟨g,by omega,f,?_⟩;cases r with
 |none=>exact a
 |some q=>exact⟨a.1,a.2.1,by have:=a.2.2;omega⟩
theorem akP(h:s.size<=mg){i:Nat}(l:i < s.size)(K:∀j,i < j->j<=s.size->C0 223 s j 0 2 J (alt j)):C0 222 s i 1 3 J (xp alt s i):=by
 have H:=wj l h;unfold xp;cases r:iC s i 40 with
 |true=>
  have d:=rU h r;obtain⟨j,p,k,b,C,e,B⟩:=K (i+1) (by omega) (by omega);obtain⟨g,Q,t,f⟩:=B;simp only[aW,au,av]at e;rw[if_pos rfl];cases b with
  |true=>
   have a:=λc=>JO (s:=s) (i:=(k:Int)) (c:=c);cases v:alt (i+1) with
   |some q=>rw[v]at f;cases f.1
   |none=>
    match j,C with
    |0,_=>exact⟨1,p,k,I,by decide,cN t222 rfl (by simp only[go_sem,t222,cz,d,a,e,aW]),g,by omega,t,rfl⟩
    |1,_=>exact⟨2,p,k,I,by decide,cN t222 rfl (by simp only[go_sem,t222,cz,d,a,e,aW]),g,by omega,t,rfl⟩
  |false=>
   cases v:alt (i+1) with
   |none=>rw[v]at f;cases f
   |some q=>
    rw[v]at f;obtain⟨_,rfl,P⟩:=f;dsimp only;cases D:iC s k 41 with
    |true=>
     have a:=rU h D;have R:=nH D
     match j,C with
     |0,_=>exact⟨1,p,k+1,J,by decide,cN t222 rfl (by simp only[go_sem,t222,cz,d,a,e,aW]),g,by omega,by omega,rfl,rfl,by omega⟩
     |1,_=>exact⟨2,p,k+1,J,by decide,cN t222 rfl (by simp only[go_sem,t222,cz,d,a,e,aW]),g,by omega,by omega,rfl,rfl,by omega⟩
    |false=>
     have a:=rT D
     match j,C with
     |0,_=>exact⟨1,p,k,I,by decide,cN t222 rfl (by simp only[go_sem,t222,cz,d,a,e,aW]),g,by omega,t,rfl⟩
     |1,_=>exact⟨2,p,k,I,by decide,cN t222 rfl (by simp only[go_sem,t222,cz,d,a,e,aW]),g,by omega,t,rfl⟩
 |false=>
  have d:=rT r;rw[if_neg da];cases n:iC s i 91 with
  |true=>
   have a:=rU h n;obtain⟨p,k,b,e,B⟩:=akN (i:=i+1) h (by omega);simp only[aW,au,av]at e;rw[if_pos rfl];exact⟨0,p,k,b,by decide,cN t222 rfl (by simp only[go_sem,t222,cz,d,a,e,aW]),ajd B (by omega) (by omega)⟩
  |false=>
   have a:=rT n;rw[if_neg da];cases o:iC s i 46 with
   |true=>
    have A:=rU h o;have w:=akO;rw[if_pos rfl];exact⟨0,⟨1,Ru,[]⟩,i+1,J,by decide,cN t222 rfl (by simp only[go_sem,t222,cz,d,a,A,w,aW];rfl),kR _ _ (Af _),by omega,by omega,rfl,rfl,by omega⟩
   |false=>
    have A:=rT o;have w:=fF s i l;have G:=adP (sU s i);have F:=adQ (sU s i);have N:=aa1 l;have L:=air i (by omega);rw[if_neg da];cases m:pCh (eA s i) with
    |true=>
     simp only[l,decide_true,jr,if_true];refine⟨0,⟨1,EU (eA s i),[]⟩,i+1,J,by decide,cN t222 rfl ?_,kR _ _ (by rw[EU,qO];simp),by omega,by omega,rfl,rfl,by omega⟩;rw[WY]at m;generalize fS 97 122 (eA s i)=x at *;generalize fS 48 57 (eA s i)=y at *;cases x<;>cases y<;>(try simp only[gG]at m)<;>simp only[go_sem,t222,cz,l,m,d,a,A,w,G,F,N,L,H,aW]
     all_goals rfl
    |false=>
     simp only[kH,aD,if_false];refine⟨0,⟨0,eT,[]⟩,i,I,by decide,cN t222 rfl ?_,kR _ _ BC,by omega,by omega,rfl⟩;rw[WY]at m;generalize fS 97 122 (eA s i)=x at *;generalize fS 48 57 (eA s i)=y at *;cases x<;>cases y<;>simp only[lg,la,gG,Bool.true_eq_false]at m
     simp only[go_sem,t222,cz,l,m,d,a,A,w,G,F,aW];rfl
end
end
end Go.Proofs.YtgfcijiikgjbcaaGreatDoor
