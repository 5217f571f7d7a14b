/- Part of the proof: a machine over plain data, its proof, the functions of the program run on symbols, what they answer. Condition: none. -/
import Derived.Test.YthlpjklbafakfaaGreatDoorZz14
set_option linter.unusedVariables false
set_option linter.unusedSimpArgs false
open Bool renaming and_eq_true->af,false_eq_true->aC,not_not->aI,not_eq_true'->bY,false_and->cI,true_and->cJ,false_ne_true->cS,or_eq_true->dr,eq_iff_iff->dL,not_false->dZ,and_true->ed,eq_false_iff->eg,or_false->ew,not_true->eP,false_or->fh,or_true->ft,and_false->fO,and_assoc->gR,or_assoc->iq,true_or->ir,and_self->kv,true->I,false->J
open ByteArray renaming size->nD,data_append->nV,ext->rz,size_append->uq
open Int renaming toNat_natCast->cq,lt_irrefl->iz,neg_neg->tJ
open List renaming length_map->aj,cons_append->aq,nil_append->ay,length_cons->aE,length_nil->aJ,mem_cons->aP,append_nil->aQ,length_append->aR,mem_append->aS,mem_cons_self->aU,map_cons->aW,sizeOf_lt_of_mem->aX,replicate->bc,all_eq_true->bg,take_append_drop->bh,length_take->bj,mem_cons_of_mem->bk,append_assoc->bE,mem_singleton->bI,all_cons->bJ,cons_ne_nil->bM,take_length->bN,map_append->bR,range->bW,nodup_cons->cl,mem_map->cm,map_nil->cE,length_eq_zero_iff->cG,drop_zero->cK,length_eq_one_iff->db,take_zero->dw,drop_of_length_le->eJ,map_id'->eX,ext_getElem?->fi,drop_length->fC,take_succ_cons->fE,isEmpty_nil->fS,isEmpty_cons->ga,take_of_length_le->gT,replicate_succ->ja,getElem?_set->jZ,any_eq_true->kN,any_cons->lH,map_take->lI,length_set->qa,map_const'->qc,isEmpty_iff->ui,not_mem_nil->uj,length_filter_le->wI,foldl_nil->xY,getElem?_append->xZ
open List.cons renaming sizeOf_spec->bo,injEq->bZ
open Nat renaming le_refl->au,lt_irrefl->aG,le_trans->aL,lt_succ_self->aY,zero_add->bD,zero_le->cB,add_assoc->cV,lt_or_ge->dU,add_zero->eu
open Option renaming map_eq_some_iff->ak,map_some->aH,isSome_iff_exists->cn,isSome_some->cZ,some->Z,none->O
open Option.some renaming injEq->aa,inj->iE
open SizeOf renaming sizeOf->av
open UInt8 renaming ofNat->dX
open Decidable renaming decide->Z'
namespace Go.Proofs.YthlpjklbafakfaaGreatDoor
set_option maxRecDepth 100000
set_option maxHeartbeats 4000000
section
def ix(l:M z)(v:z):u Nat:=nZ (λe=>Z' (v=e)) l 0
theorem uR{a:Type}{p:a->Bool}:∀{l:M a} {k:Nat},(nZ p l k).isSome=l.any p
 |[],_=>rfl
 |e::l,k=>by
  simp only[nZ,lH];by_cases h:p e=I
  ·simp[h]
  ·simp[h,uR (l:=l)]
def oq(l:M z)(v:z):Bool:=l.any λe=>Z' (v=e)
theorem Vt{l:M z}{v:z}:oq l v=I↔v∈l:=by simp[oq]
theorem Zt{l:M z}{v:z}:oq l v=J↔v∉l:=by rw[<- Vt];simp
theorem ady(l:M z)(v:z):(ix l v).isSome=oq l v:=by rw[ix,uR,oq]
theorem q96{l:M z}{v:z}(f:l.length<=mg):G 96 [aO l,.str v]=Z (0,[E (jG (ix l v))]):=by
 refine dd t96 rfl ?_;simp only[go_sem,t96];have d:=pK (b:=lB G PV) l (λi=>(0,[aO l,.str v,E l.length,E (i:Int)])) (λe=>Z' (v=e)) (1,[aO l,.str v,E l.length,E l.length,.bool J]) (λi e=>(0,[E (i:Int)])) (by
  intro i e a;have c:=bF a;have k:=wj c f;simp only[go_sem,bn,PV,c,aN,a,fR]
  repeat' (first|with_reducible rfl|((first|rw[gx]|rw[gB]|rw[gu]|rw[gA]);split<;>simp only[go_sem,c,aN,a,fR, *]))
  all_goals simp_all) (by simp only[go_sem,bn,PV,aG])
 rw[n0]at d;rw[aj,d];unfold ix;cases g:nZ (λe=>Z' (v=e)) l 0 with
 |none=>simp only[go_sem,jG]
 |some j=>
  obtain⟨e,h,m⟩:=dy g;simp only[go_sem,h,jG]
theorem ad1(o:u Nat):Z' (0<=jG o)=o.isSome:=by
 cases o with
 |none=>rfl
 |some j=>simp[jG]
theorem q99{l:M z}{v:z}(a:l.length<=mg):G 99 [aO l,.str v]=Z (0,[.bool (oq l v)]):=by
 refine dd t99 rfl ?_;simp only[go_sem,t99,q96 a,ad1,ady]
theorem Qv(k:Nat)(a:Bool)(es:M (M D))(n:Nat)(h:n<=es.length):aK (.cut I) [.list k a es,E 0,E (n:Int)]=Z (.list k a (es.take n)):=by
 simp[aK,dI,h]
def sM(l:M z):Bool:=allI (λi e=>!oq (l.take i) e) 0 l
theorem Eh:∀(m:M z) (l:M z) ,allI (λi e=>!oq ((m++l).take i) e) m.length l=I↔l.Nodup/\∀e∈l,e∉m
 |m,[]=>by simp[allI]
 |m,e::l=>by
  have c:=Eh (m++[e]) l;rw[bE,aR]at c;simp only[allI,af,cl];simp only[aE,aJ,List.singleton_append,bD]at c;rw[c];simp only[List.take_left',bY,Zt,aS,aP,uj,or_false,not_or];refine⟨λ⟨f,d,b⟩=>⟨⟨λh=>(b e h).2 rfl,d⟩,λx a=>?_⟩,λ⟨⟨f,d⟩,b⟩=>⟨b e (.inl rfl),d,λx a=>⟨b x (.inr a),λh=>f (h▸a)⟩⟩⟩;rcases a with rfl|a
  ·exact f
  ·exact (b x a).1
theorem rK(l:M z):sM l=I↔l.Nodup:=by
 have:=Eh [] l
 simpa [sM] using this
theorem Tg{l:M z}(g:l.length<=mg):G 257 [aO l]=Z (0,[.bool (sM l)]):=by
 refine dd t257 rfl ?_;simp only[go_sem,t257];have f:=n6 (b:=lB G IS) l (λi=>(0,[aO l,E l.length,E (i:Int)])) (λi e=>!oq (l.take i) e) (1,[aO l,E l.length,E l.length,.bool J]) (0,[.bool J]) (by
  intro i e a;have c:=bF a;have j:=wj c g;have h:aK (.cut I) [aO l,E 0,E (i:Int)]=Z (aO (l.take i)):=by
   rw[Qv _ _ _ _ (by rw[aj];omega),<- lI]
  have d:=q99 (l:=l.take i) (v:=e) (by rw[bj];omega);simp only[go_sem,bn,IS,c,aN,a,fR,h,d]
  repeat' (first|with_reducible rfl|((first|rw[gx]|rw[gB]|rw[gu]|rw[gA]);split<;>simp only[go_sem,c,aN,a,fR, *]))
  all_goals simp_all) (by simp only[go_sem,bn,IS,aG]) l.length 0 (by omega)
 rw[n0]at f;rw[aj,f];rw[show sM l=allI (λi e=>!oq (l.take i) e) 0 (l.drop 0) from rfl];cases allI (λi e=>!oq (l.take i) e) 0 (l.drop 0)<;>simp only[go_sem]
theorem aeK{l:M z}(h:bQ fR l<=mg):G 271 [aO l]=Z (0,[.bool (l.all isName)]):=by
 refine dd t271 rfl ?_;simp only[go_sem,t271];have a:l.length<=mg:=by simp only[bQ]at h;omega
 have g:=lf (b:=lB G IX) l (λi=>(0,[aO l,E l.length,E (i:Int)])) isName (1,[aO l,E l.length,E l.length,.bool J]) (0,[.bool J]) (by
  intro i e c;have d:=bF c;have j:=wj d a;have f:=aaP (s:=e) (by have:=QV l (bz c);omega);simp only[go_sem,bn,IX,d,aN,c,fR,f]
  repeat' (first|with_reducible rfl|((first|rw[gx]|rw[gB]|rw[gu]|rw[gA]);split<;>simp only[go_sem,d,aN,c,fR, *]))
  all_goals simp_all) (by simp only[go_sem,bn,IX,aG])
 rw[n0]at g;rw[aj,g];cases l.all isName<;>simp only[go_sem]
end
section
theorem Pu{o f n:Type}{b:f->u (Sg f n)}(es:M o)(mk:Nat->f)(p:Nat->o->Bool)(a g:n)
  (q:∀i e,nth es i=Z e->(∀j x,j < i->nth es j=Z x->p j x=I)->b (mk i)=Z (if p i e=I then .go (mk (i+1)) else .out g))
  (r:b (mk es.length)=Z (.out a)):∀m i,i+m=es.length->(∀j x,j < i->nth es j=Z x->p j x=I)->bK b (mk i)=Z (if allI p i (es.drop i)=I then a else g)
 |0,i,h,c=>by
  obtain rfl:i=es.length:=by omega
  rw[aF r,fC];rfl
 |m+1,i,h,s=>by
  have a1:=dV (l:=es) (i:=i) (by omega);have d:=q i _ a1 s;have w:allI p i (es.drop i)=(p i (es[i]'(by omega)) && allI p (i+1) (es.drop (i+1))):=by rw[ig es i _ a1];rfl
  rw[w];by_cases c:p i (es[i]'(by omega))=I
  ·rw[if_pos c]at d;rw[bB d,c,cJ];refine Pu es mk p a g q r m (i+1) (by omega) λj x v k=>?_;rcases dU j i with t|t
   ·exact s j x t k
   ·obtain rfl:j=i:=by omega
    rw[a1]at k;cases k;exact c
  ·rw[if_neg c]at d;rw[aF d,eg.2 c,cI,if_neg cS]
theorem Lc{g c f:Type}{b:c->u (Sg c f)}(es:M g)(mk:Nat->c)(p:Nat->g->Bool)(a d:f)
  (k:∀i e,nth es i=Z e->(∀j x,j < i->nth es j=Z x->p j x=I)->b (mk i)=Z (if p i e=I then .go (mk (i+1)) else .out d))
  (l:b (mk es.length)=Z (.out a)):bK b (mk 0)=Z (if allI p 0 es=I then a else d):=
 Pu es mk p a d k l es.length 0 (by omega) λj x h _=>by omega
def apart(l:M j_)(i:Nat)(e:j_):Bool:=match i with
 |0=>I
 |i+1=>match nth l i with
  |some p=>Z' (p.hi+1 < e.lo)
  |none=>I
def MG(l:M j_)(i:Nat)(e:j_):Bool:=Z' (e.lo<=e.hi) && (Z' (-1000000000<=e.lo) && (Z' (e.hi<=1000000000) && apart l i e))
def CS(l:M j_):Bool:=allI (MG l) 0 l && Z' (l.length<=6)
theorem tq{l:M j_}{i:Nat}{e:j_}:MG l i e=I↔e.lo<=e.hi/\-1000000000<=e.lo/\e.hi<=1000000000/\apart l i e=I:=by
 simp[MG]
theorem vV{l:M j_}{i:Nat}{e:j_}(h:¬(e.lo<=e.hi/\-1000000000<=e.lo/\e.hi<=1000000000)):MG l i e=J:=by
 rw[eg];intro a;have:=tq.1 a;exact h ⟨this.1,this.2.1,this.2.2.1⟩
theorem le6(n:Nat):Z' ((n:Int)<=6)=Z' (n<=6):=by
 rw[dL];simp
 omega
theorem ama{l:M j_}(k:l.length<=mg):G 215 [fH l]=Z (0,[.bool (CS l)]):=by
 refine dd t215 rfl ?_;simp only[go_sem,t215];have m:=Lc (b:=lB G IH) l (λi=>(0,[fH l,E (i:Int)])) (MG l) (1,[fH l,E l.length,.bool J]) (0,[.bool J]) (by
  intro i e a t;have c:=bF a;have j:=wj c k;simp only[go_sem,bn,IH,c,aN,a,ki,aj];by_cases d:e.hi < e.lo
  ·simp only[go_sem,d,vV (l:=l) (i:=i) (e:=e) (by omega),c,aN,a,ki]
  by_cases g:e.lo < -1000000000
  ·simp only[go_sem,d,g,vV (l:=l) (i:=i) (e:=e) (by omega),c,aN,a,ki]
  by_cases h:1000000000 < e.hi
  ·simp only[go_sem,d,g,h,vV (l:=l) (i:=i) (e:=e) (by omega),c,aN,a,ki]
  cases i with
  |zero=>
   have f:MG l 0 e=I:=tq.2 ⟨by omega,by omega,by omega,rfl⟩;simp only[go_sem,d,g,h,f,c,aN,a,ki,n0,iz];simp only[go_sem,n0]at j;rw[j]
  |succ i=>
   have a1:=dV (l:=l) (i:=i) (by omega);have s:=tq.1 (t i _ (by omega) a1);generalize l[i]'(by omega)=p at a1 s;have r:IntKind.i64.wrap (((i+1:Nat):Int) - 1)=(i:Int):=by rw[wrap_i64 (by simp only[mg]at k;omega)];omega
   have q:IntKind.i64.wrap (p.hi+1)=p.hi+1:=wrap_i64 (by omega);have o:(0:Int) < ((i+1:Nat):Int):=by omega
   by_cases n:e.lo<=p.hi+1
   ·have f:MG l (i+1) e=J:=by
     simp only[MG,apart,a1];have:Z' (p.hi+1 < e.lo)=J:=by simp;omega
     simp[this]
    simp only[go_sem,d,g,h,n,f,c,aN,a,ki,r,q,o,a1]
   ·have f:MG l (i+1) e=I:=tq.2 ⟨by omega,by omega,by omega,by simp only[apart,a1];simp;omega⟩;simp only[go_sem,d,g,h,n,f,c,aN,a,ki,r,q,o,a1,j]) (by simp only[go_sem,bn,IH,aG,aj])
 rw[n0]at m;rw[m];unfold CS;cases allI (MG l) 0 l with
 |false=>simp only[go_sem]
 |true=>simp only[go_sem,aj,le6]
theorem aeL(n:Int):G 273 [E n]=Z (0,[.bool (fG (-1000000000) 1000000000 n)]):=by
 refine dd t273 rfl ?_;simp only[go_sem,t273];unfold fG;by_cases h:-1000000000<=n
 ·simp only[go_sem,h]
 ·simp only[go_sem,h]
theorem amz{l:M j_}(g:l.length<=mg):G 274 [fH l]=Z (0,[.bool (CS l)]):=by
 refine dd t274 rfl ?_;simp only[go_sem,t274];have k:=Lc (b:=lB G IY) l (λi=>(0,[fH l,fH l,E l.length,E (i:Int)])) (MG l) (1,[fH l,fH l,E l.length,E l.length,.bool J]) (0,[.bool J]) (by
  intro i e j v;have m:=bF j;have f:=wj m g;simp only[go_sem,bn,IY,m,aN,j,ki,aj,aE,aJ,au,aeL];by_cases o:e.hi < e.lo
  ·simp only[go_sem,o,vV (l:=l) (i:=i) (e:=e) (by omega)]
  simp only[go_sem,o,aeL];cases d:fG (-1000000000) 1000000000 e.lo with
  |false=>
   have:¬(-1000000000<=e.lo/\e.lo<=1000000000):=λh=>by rw[(gG _ _ _).2 h]at d;cases d
   simp only[go_sem,d,vV (l:=l) (i:=i) (e:=e) (by omega)]
  |true=>
   have g1:=(gG _ _ _).1 d;simp only[go_sem,d,aeL];cases c:fG (-1000000000) 1000000000 e.hi with
   |false=>
    have:¬(-1000000000<=e.hi/\e.hi<=1000000000):=λh=>by rw[(gG _ _ _).2 h]at c;cases c
    simp only[go_sem,c,vV (l:=l) (i:=i) (e:=e) (by omega)]
   |true=>
    have g2:=(gG _ _ _).1 c;simp only[go_sem,c];cases i with
    |zero=>
     have a:MG l 0 e=I:=tq.2 ⟨by omega,by omega,by omega,rfl⟩;simp only[go_sem,a,n0,iz];simp only[go_sem,n0]at f;rw[f]
    |succ i=>
     have a1:=dV (l:=l) (i:=i) (by omega);have t:=tq.1 (v i _ (by omega) a1);generalize l[i]'(by omega)=p at a1 t;have s:IntKind.i64.wrap (((i+1:Nat):Int) - 1)=(i:Int):=by rw[wrap_i64 (by simp only[mg]at g;omega)];omega
     have r:IntKind.i64.wrap (p.hi+2)=p.hi+2:=wrap_i64 (by omega);have q:(0:Int) < ((i+1:Nat):Int):=by omega
     by_cases n:e.lo < p.hi+2
     ·have a:MG l (i+1) e=J:=by
       simp only[MG,apart,a1];have:Z' (p.hi+1 < e.lo)=J:=by simp;omega
       simp[this]
      simp only[go_sem,n,a,aN,ki,s,r,q,a1]
     ·have a:MG l (i+1) e=I:=tq.2 ⟨by omega,by omega,by omega,by simp only[apart,a1];simp;omega⟩;simp only[go_sem,n,a,aN,ki,s,r,q,a1,f]) (by simp only[go_sem,bn,IY,aG])
 rw[n0]at k;rw[aj,k];unfold CS;cases allI (MG l) 0 l with
 |false=>simp only[go_sem]
 |true=>simp only[go_sem,aj,le6]
def PL(l:M j_)(n:Int):Bool:=l.any (λe=>fG e.lo e.hi n) ||l.isEmpty
theorem fx{a:Type}(l:M a):Z' ((l.length:Int)=0)=l.isEmpty:=by cases l<;>simp;omega
theorem Pv{f a d:Type}{b:a->u (Sg a d)}(es:M f)(mk:Nat->a)(p:f->Bool)(none_ c:d)
  (g:∀i e,nth es i=Z e->b (mk i)=Z (if p e=I then .out c else .go (mk (i+1))))
  (h:b (mk es.length)=Z (.out none_)):bK b (mk 0)=Z (if es.any p=I then c else none_):=by
 rw[pK es mk p none_ (λ_ _=>c) g h,<- uR (k:=0)];cases l:nZ p es 0 with
 |none=>rfl
 |some j=>
  obtain⟨e,m,n⟩:=dy l;simp[m]
theorem amg{l:M j_}{n:Int}(g:l.length<=mg):G 232 [fH l,E n]=Z (0,[.bool (PL l n)]):=by
 refine dd t232 rfl ?_;simp only[go_sem,t232];have c:=Pv (b:=lB G II) l (λi=>(0,[fH l,E n,E (i:Int)])) (λe=>fG e.lo e.hi n) (1,[fH l,E n,E l.length,.bool J]) (0,[.bool I]) (by
  intro i e a;have d:=bF a;have f:=wj d g;simp only[go_sem,bn,II,d,aN,a,ki,aj,l9];cases h:fG e.lo e.hi n<;>simp only[go_sem,h,f]) (by simp only[go_sem,bn,II,aG,aj])
 rw[n0]at c;rw[c];unfold PL;cases l.any (λe=>fG e.lo e.hi n) with
 |true=>simp only[go_sem]
 |false=>simp only[go_sem,aj,fx]
theorem amE{l:M j_}{n:Int}(h:l.length<=mg):G 288 [fH l,E n]=Z (0,[.bool (PL l n)]):=by
 refine dd ajN rfl ?_;simp only[go_sem,ajN];have d:=Pv (b:=lB G I0) l (λi=>(0,[fH l,E n,fH l,E l.length,E (i:Int)])) (λe=>fG e.lo e.hi n) (1,[fH l,E n,fH l,E l.length,E l.length,.bool J]) (0,[.bool I]) (by
  intro i e c;have f:=bF c;have a:=wj f h;simp only[go_sem,bn,I0,f,aN,c,ki,aE,aJ,au];unfold fG;by_cases g:e.lo<=n
  ·by_cases j:n<=e.hi<;>simp only[go_sem,g,j,a]
  ·simp only[go_sem,g,a]) (by simp only[go_sem,bn,I0,aG])
 rw[n0]at d;rw[aj,d];unfold PL;cases l.any (λe=>fG e.lo e.hi n) with
 |true=>simp only[go_sem]
 |false=>simp only[go_sem,aj,fx]
end
section
def dg(s:z):Nat->Nat->Int->u Int
 |_,0,n=>Z n
 |i,m+1,n=>if fG 48 57 (cr s i)=I then (if 1000000000 < 10 * n+(cr s i - 48) then O else dg s (i+1) m (10 * n+(cr s i - 48))) else O
def dgR(s:z):u Int->Nat×M D
 |some r=>(1,[.str s,.int .i64 r,.int .i64 s.size,.bool J])
 |none=>(0,[.int .i64 0,.bool J])
theorem O4{s:z}(c:s.size<=mg):∀(m i:Nat) (n:Int),i+m=s.size->0<=n->n<=1000000000->
  bK (lB G AI) (0,[.str s,E n,E (i:Int)])=Z (dgR s (dg s i m n))
 |0,i,n,h,l,k=>by
  obtain rfl:i=s.size:=by omega
  refine aF ?_;simp only[go_sem,bn,AI,aG,dg,dgR]
 |m+1,i,n,h,l,k=>by
  have a:i < s.size:=by omega
  have j:=wj a c;have o:=mF s i;cases hd:fG 48 57 (cr s i) with
  |false=>
   refine (aF (r:=(0,[E 0,.bool J])) ?_).trans (by simp[dg,hd,dgR]);simp only[go_sem,bn,AI,a,c9,l9,hd]
  |true=>
   have p:=(gG _ _ _).1 hd;have g:IntKind.i64.wrap (10 * n)=10 * n:=wrap_i64 (by omega);have f:IntKind.u8.wrap (cr s i - 48)=cr s i - 48:=wrap_u8 (by omega);have e:IntKind.i64.wrap (cr s i - 48)=cr s i - 48:=wrap_i64 (by omega);have d:IntKind.i64.wrap (10 * n+(cr s i - 48))=10 * n+(cr s i - 48):=wrap_i64 (by omega);by_cases b:1000000000 < 10 * n+(cr s i - 48)
   ·refine (aF (r:=(0,[E 0,.bool J])) ?_).trans (by simp[dg,hd,dgR,b]);simp only[go_sem,bn,AI,a,c9,l9,hd,g,f,e,d,b]
   ·rw[show dg s i (m+1) n=dg s (i+1) m (10 * n+(cr s i - 48)) by simp[dg,hd,b],<- O4 c m (i+1) _ (by omega) (by omega) (by omega)];refine bB ?_;simp only[go_sem,bn,AI,a,c9,l9,hd,g,f,e,d,b,j]
def FK(s:z):u Int:=if s.size=0 then O else dg s 0 s.size 0
def ni:u Int->M D
 |some n=>[.int .i64 n,.bool I]
 |none=>[.int .i64 0,.bool J]
theorem gt0(n:Nat):Z' (0 < (n:Int))=!Z' (n=0):=by
 rw[dL];simp;omega
theorem aez{s:z}(c:s.size<=mg):G 229 [.str s]=Z (0,ni (FK s)):=by
 refine dd t229 rfl ?_;simp only[go_sem,t229];have b:=O4 c s.size 0 0 (by omega) (by omega) (by omega);rw[n0]at b;rw[b];unfold FK;by_cases a:s.size=0
 ·rw[if_pos a,a];simp only[go_sem,dg,dgR,ni,a,n0,iz]
 ·rw[if_neg a];cases dg s 0 s.size 0 with
  |none=>simp only[go_sem,dgR,ni]
  |some n=>
   have:(0:Int) < (s.size:Int):=by omega
   simp only[go_sem,dgR,ni,this]
theorem C5{s:z}:∀(m i:Nat) (n r:Int),0<=n->n<=1000000000->dg s i m n=Z r->0<=r/\r<=1000000000
 |0,i,n,r,b,a,h=>by cases h;exact⟨b,a⟩
 |m+1,i,n,r,b,a,h=>by
  simp only[dg]at h
  split at h
  ·rename_i hd;have c:=(gG _ _ _).1 hd
   split at h
   ·cases h
   ·exact C5 m (i+1) _ r (by omega) (by omega) h
  ·cases h
theorem Ht{s:z}{r:Int}(h:FK s=Z r):0<=r/\r<=1000000000:=by
 unfold FK at h
 split at h
 ·cases h
 ·exact C5 _ _ _ _ (by omega) (by omega) h
def Od(s:z):Bool:=!Z' (s.size=0) && (Z' (cr s 0=45) ||decide (cr s 0=43))
def tl(s:z):z:=s.extract 1 s.size
theorem JE(s:z):(tl s).size=s.size - 1:=by simp[tl]
def A7(s:z):u Int:=(FK (if Od s=I then tl s else s)).map λn=>if cr s 0=45 then -n else n
theorem lW(t:z)(h:1<=t.size):aK (.MI J) [.str t,E 1]=Z (.str (tl t)):=by
 simp[aK,dI,tl,h]
theorem gU{t:z}(h:0 < t.size):aK .XA [.str t,E 0]=Z (.int .u8 (cr t 0)):=c9 t 0 h
theorem Hu{s:z}{r:Int}(h:A7 s=Z r):-1000000000<=r/\r<=1000000000:=by
 obtain⟨n,a,rfl⟩:=ak.1 h;have:=Ht a
 split<;>omega
theorem akr{s:z}{r:Int}(h:FK s=Z r):0 < s.size:=by
 unfold FK at h
 split at h
 ·cases h
 ·omega
theorem amf{s:z}(h:s.size<=mg):G 230 [.str s]=Z (0,ni (A7 s)):=by
 refine dd t230 rfl ?_;simp only[go_sem,t230];have g:=aez (s:=tl s) (by rw[JE];omega);by_cases e:s.size=0
 ·have a:A7 s=O:=by simp[A7,Od,e,FK]
  have hd:FK s=O:=by simp[FK,e]
  rw[a];simp only[go_sem,gt0,e,aez h,hd,ni]
 ·have b:0 < s.size:=by omega
  simp only[go_sem,gt0,e,gU b];by_cases c:cr s 0=45
  ·have f:Od s=I:=by simp[Od,e,c]
   simp only[go_sem,c,lW s b,g,A7,f];cases a:FK (tl s) with
   |none=>simp only[go_sem,ni,a]
   |some n=>
    have:=Ht a;have i:IntKind.i64.wrap (-n)=-n:=wrap_i64 (by omega);simp only[go_sem,ni,a,gU b,c,i]
  ·by_cases d:cr s 0=43
   ·have f:Od s=I:=by simp[Od,e,d]
    simp only[go_sem,c,d,lW s b,g,A7,f,gU b];cases a:FK (tl s) with
    |none=>simp only[go_sem,ni,a]
    |some n=>simp only[go_sem,ni,a,gU b,c,d]
   ·have f:Od s=J:=by simp[Od,c,d]
    simp only[go_sem,c,d,aez h,A7,f,gU b];cases a:FK s with
    |none=>simp only[go_sem,ni,a]
    |some n=>simp only[go_sem,ni,a,gU b,c,d]
def di(s:z):Nat->Nat->Int->u Int
 |_,0,n=>Z n
 |i,m+1,n=>if fG 48 57 (cr s i)=I then di s (i+1) m (if n<=1000000000 then n * 10+(cr s i - 48) else n) else O
theorem UF(s:z):∀(m i:Nat) (n r:Int),1000000000 < n->di s i m n=Z r->r=n
 |0,i,n,r,h,hd=>by cases hd;rfl
 |m+1,i,n,r,h,hd=>by
  simp only[di]at hd
  split at hd
  ·rw[if_neg (by omega)]at hd;exact UF s m (i+1) n r h hd
  ·cases hd
theorem abG(s:z):∀(m i:Nat) (n:Int),0<=n->n<=1000000000->(match di s i m n with|some r=>if 1000000000 < r then O else Z r|none=>O)=dg s i m n
 |0,i,n,d,b=>by
  simp only[di,dg];rw[if_neg (by omega)]
 |m+1,i,n,d,b=>by
  simp only[di,dg];cases hd:fG 48 57 (cr s i) with
  |false=>simp
  |true=>
   have e:=(gG _ _ _).1 hd;simp only[if_true];rw[if_pos b,show n * 10+(cr s i - 48)=10 * n+(cr s i - 48) by omega];by_cases a:1000000000 < 10 * n+(cr s i - 48)
   ·rw[if_pos a];cases c:di s (i+1) m (10 * n+(cr s i - 48)) with
    |none=>rfl
    |some r=>
     rw[UF s m (i+1) _ r a c];simp only[if_pos a]
   ·rw[if_neg a];exact abG s m (i+1) _ (by omega) (by omega)
def UE(s:z)(b:Bool):u Int->Nat×M D
 |some r=>(1,[.str s,.bool b,.int .i64 r,.int .i64 s.size,.bool J])
 |none=>(0,[.int .i64 0,.bool J])
theorem yr{s:z}(e:s.size<=mg)(b:Bool):∀(m i:Nat) (n:Int),i+m=s.size->0<=n->n<=10000000009->
  bK (lB G xz) (0,[.str s,.bool b,E n,E (i:Int)])=Z (UE s b (di s i m n))
 |0,i,n,h,k,j=>by
  obtain rfl:i=s.size:=by omega
  refine aF ?_;simp only[go_sem,bn,xz,aG,di,UE]
 |m+1,i,n,h,k,j=>by
  have c:i < s.size:=by omega
  have g:=wj c e;have t:=mF s i;by_cases d:cr s i < 48
  ·have hd:fG 48 57 (cr s i)=J:=by simp[fG];omega
   refine (aF (r:=(0,[E 0,.bool J])) ?_).trans (by simp[di,hd,UE]);simp only[go_sem,bn,xz,c,c9,d]
  ·by_cases f:57 < cr s i
   ·have hd:fG 48 57 (cr s i)=J:=by simp[fG];omega
    refine (aF (r:=(0,[E 0,.bool J])) ?_).trans (by simp[di,hd,UE]);simp only[go_sem,bn,xz,c,c9,d,f]
   ·have hd:fG 48 57 (cr s i)=I:=by simp[fG];omega
    have q:n<=1000000000->IntKind.i64.wrap (n * 10)=n * 10:=λh=>wrap_i64 (by omega);have p:IntKind.u8.wrap (cr s i - 48)=cr s i - 48:=wrap_u8 (by omega);have o:IntKind.i64.wrap (cr s i - 48)=cr s i - 48:=wrap_i64 (by omega);have l:n<=1000000000->IntKind.i64.wrap (n * 10+(cr s i - 48))=n * 10+(cr s i - 48):=λh=>wrap_i64 (by omega);by_cases a:n<=1000000000
    ·rw[show di s i (m+1) n=di s (i+1) m (n * 10+(cr s i - 48)) by simp[di,hd,a],<- yr e b m (i+1) _ (by omega) (by omega) (by omega)];refine bB ?_;simp only[go_sem,bn,xz,c,c9,d,f,q a,p,o,l a,a,g]
    ·rw[show di s i (m+1) n=di s (i+1) m n by simp[di,hd,a],<- yr e b m (i+1) _ (by omega) (by omega) (by omega)];refine bB ?_;simp only[go_sem,bn,xz,c,c9,d,f,a,g]
theorem a_(s:z):Z' (s=⟨#[]⟩)=Z' (s.size=0):=by
 rw[dL];simp only[decide_eq_true_eq];refine⟨λh=>by rw[h];rfl,λh=>?_⟩;cases s with
 |mk a=>simp[nD]at h;rw[h]
theorem cp:(⟨[].toArray⟩:z)=⟨#[]⟩:=(rfl)
attribute [go_sem] cp a_
theorem amD{s:z}(m:s.size<=mg):G 287 [.str s]=Z (0,ni (A7 s)):=by
 refine dd ajM rfl ?_;simp only[go_sem,ajM];have fin:∀(t:z) (b:Bool),t.size<=mg->(match di t 0 t.size 0 with|some r=>if 1000000000 < r then O else Z r|none=>O)=dg t 0 t.size 0:=λt b j=>abG t t.size 0 0 (by omega) (by omega);by_cases h:s.size=0
 ·have e:A7 s=O:=by simp[A7,Od,h,FK]
  rw[e];simp only[go_sem,h,ni]
 ·have a:0 < s.size:=by omega
  simp only[go_sem,h,gU a];by_cases c:cr s 0=45
  ·have d:Od s=I:=by simp[Od,h,c]
   have l:(tl s).size<=mg:=by rw[JE];omega
   have k:=fin (tl s) I l;have g:=yr l I (tl s).size 0 0 (by omega) (by omega) (by omega);rw[n0]at g;simp only[go_sem,c,lW s a,gU a,A7,d];by_cases j:(tl s).size=0
   ·simp only[go_sem,c,lW s a,gU a,A7,d,j,FK,ni]
   ·simp only[go_sem,c,lW s a,gU a,A7,d,j,FK,g];rw[<- k];cases e:di (tl s) 0 (tl s).size 0 with
    |none=>simp only[go_sem,c,lW s a,gU a,A7,d,UE,ni,e]
    |some n=>
     by_cases i:1000000000 < n
     ·simp only[go_sem,c,lW s a,gU a,A7,d,UE,ni,e,i]
     ·have p:dg (tl s) 0 (tl s).size 0=Z n:=by rw[<- k,e];simp[i]
      have:=C5 _ _ _ _ (by omega) (by omega) p;have o:IntKind.i64.wrap (-n)=-n:=wrap_i64 (by omega);simp only[go_sem,c,lW s a,gU a,A7,d,UE,ni,e,i,o,c]
  ·by_cases f:cr s 0=43
   ·have d:Od s=I:=by simp[Od,h,f]
    have l:(tl s).size<=mg:=by rw[JE];omega
    have k:=fin (tl s) J l;have g:=yr l J (tl s).size 0 0 (by omega) (by omega) (by omega);rw[n0]at g;simp only[go_sem,c,f,lW s a,gU a,A7,d];by_cases j:(tl s).size=0
    ·simp only[go_sem,c,f,lW s a,gU a,A7,d,j,FK,ni]
    ·simp only[go_sem,c,f,lW s a,gU a,A7,d,j,FK,g];rw[<- k];cases e:di (tl s) 0 (tl s).size 0 with
     |none=>simp only[go_sem,c,f,lW s a,gU a,A7,d,UE,ni,e]
     |some n=>by_cases i:1000000000 < n<;>simp only[go_sem,c,f,lW s a,gU a,A7,d,UE,ni,e,i,f]
   ·have d:Od s=J:=by simp[Od,c,f]
    have k:=fin s J m;have g:=yr m J s.size 0 0 (by omega) (by omega) (by omega);rw[n0]at g;simp only[go_sem,c,f,A7,d,h,FK,g,gU a];rw[<- k];cases e:di s 0 s.size 0 with
    |none=>simp only[go_sem,c,f,A7,d,h,FK,g,gU a,UE,ni,e]
    |some n=>by_cases i:1000000000 < n<;>simp only[go_sem,c,f,A7,d,h,FK,g,gU a,UE,ni,e,i,c]
end
section
def bA(l:M UInt8):z:=⟨l.toArray⟩
theorem Ug(l m:M UInt8)(s:z):bA l++(bA m++s)=bA (l++m)++s:=by
 apply rz
 simp only[bA,nV];rw[<- Array.append_assoc];simp
def xn(n:Int):z:=bA (Lib.itoa n)
def Ib(a:Nat):M UInt8:=if a=0 then [] else Lib.decDigits a
theorem Gt{a:Nat}(h:a≠0):Ib a=Ib (a / 10)++[dX (48+a % 10)]:=by
 unfold Ib;rw[if_neg h];rw[Lib.decDigits];by_cases b:a < 10
 ·have:a / 10=0:=by omega
  rw[dif_pos b,if_pos this,show a % 10=a by omega];rfl
 ·have:a / 10≠0:=by omega
  rw[dif_neg b,if_neg this]
theorem vY(c:Int):aK .Mw [.list 1 I [[.int .u8 c]]]=Z (.str (bA [dX c.toNat])):=by
 simp[aK,bytesOf,bA]
theorem tE(k:IntKind)(c:Int):aK (.mW 1 I) [.int k c]=Z (.list 1 I [[.int k c]]):=by
 simp[aK,chunk,cD,D.plain]
theorem O5:∀(k a:Nat),a < 10 ^ (k+1)->(Lib.decDigits a).length<=k+1
 |0,a,h=>by rw[Lib.decDigits,dif_pos (by omega)];simp
 |k+1,a,h=>by
  rw[Lib.decDigits];split
  ·simp
  ·have:=O5 k (a / 10) (by rw[Nat.pow_succ]at h;omega);simp only[aR,aE,aJ];omega
theorem qn(l:M UInt8):(bA l).size=l.length:=by simp[bA,nD]
theorem Pk{n:Int}{h:Nat}{u:Nat}{s:z}{x:Int}{zs:M D}(m:(h=0/\zs=[])\/(h=1/\∃a,zs=[a]))(r:0 < u)(w:u<=1000000000)(t:s.size<=20)(q:x=(u:Int)\/x=-(u:Int)) :
  ∃a l,(l=((u / 10:Nat):Int)\/l=-((u / 10:Nat):Int))/\lB G oI (h,[E n,.str s,E x]++zs)=Z (.go (1,[E n,.str (bA [dX (48+u % 10)]++s),E l,a])):=by
 have v:u % 10 < 10:=Nat.mod_lt _ (by omega);have i:IntKind.i64.wrap (48+((u % 10:Nat):Int))=((48+u % 10:Nat):Int):=by rw[wrap_i64 (by omega)];omega
 have g:IntKind.u8.wrap ((48+u % 10:Nat):Int)=((48+u % 10:Nat):Int):=wrap_u8 (by omega);have f:(((48+u % 10:Nat):Int)).toNat=48+u % 10:=cq _;have k:IntKind.i64.wrap ((u % 10:Nat):Int)=((u % 10:Nat):Int):=wrap_i64 (by omega);have j:(bA [dX (48+u % 10)]).size+s.size<=maxLen:=by rw[qn];simp only[aE,aJ];exact aL (show 0+1+s.size<=21 by omega) (by decide)
 have e:(u:Int) % 10=((u % 10:Nat):Int):=rfl;have d:(u:Int) / 10=((u / 10:Nat):Int):=rfl;have p:0<=(u:Int):=by omega
 have n1:¬0<=-(u:Int):=by omega
 have n2:-(u:Int) < 0:=by omega
 rcases q with rfl|rfl
 ·have c:¬(u:Int)=0:=by omega
  have b:¬((u % 10:Nat):Int) < 0:=by omega
  refine⟨.list 1 I [[.int .u8 ((48+u % 10:Nat):Int)]],_,.inl rfl,?_⟩;rcases m with ⟨rfl,rfl⟩|⟨rfl,a,rfl⟩
  ·simp only[go_sem,bn,oI,c,p,e,d,b,i,g,f,j,tE,vY]
  ·simp only[go_sem,bn,oI,c,p,e,d,b,i,g,f,j,tE,vY]
 ·have c:¬-(u:Int)=0:=by omega
  refine⟨.list 1 I [[.int .u8 ((48+u % 10:Nat):Int)]],_,.inr rfl,?_⟩;by_cases b:-((u % 10:Nat):Int) < 0
  ·rcases m with ⟨rfl,rfl⟩|⟨rfl,a,rfl⟩
   ·simp only[go_sem,bn,oI,c,n1,n2,e,d,tJ,b,i,g,f,k,j,tE,vY]
   ·simp only[go_sem,bn,oI,c,n1,n2,e,d,tJ,b,i,g,f,k,j,tE,vY]
  ·have o:-((u % 10:Nat):Int)=((u % 10:Nat):Int):=by omega
   rw[o]at b;rcases m with ⟨rfl,rfl⟩|⟨rfl,a,rfl⟩
   ·simp only[go_sem,bn,oI,c,n1,n2,e,d,tJ,o,b,i,g,f,k,j,tE,vY]
   ·simp only[go_sem,bn,oI,c,n1,n2,e,d,tJ,o,b,i,g,f,k,j,tE,vY]
theorem Pj{n:Int}:∀(k u:Nat) (s:z) (x:Int) (a:D),u < 10 ^ k->k<=10->s.size+k<=20->u<=1000000000->(x=(u:Int)\/x=-(u:Int))->
  ∃d,bK (lB G oI) (1,[E n,.str s,E x,a])=Z (1,[E n,.str (bA (Ib u)++s),E 0,.bool J,d])
 |k,u,s,x,a,g,p,o,i,f=>by
  by_cases b:u=0
  ·obtain rfl:x=0:=by omega
   refine⟨a,aF ?_⟩;have:bA (Ib u)++s=s:=by rw[b];apply rz;simp[Ib,bA,nV]
   rw[this];simp only[go_sem,bn,oI]
  ·cases k with
   |zero=>omega
   |succ k=>
    obtain⟨c,e,m,l⟩:=Pk (n:=n) (h:=1) (u:=u) (s:=s) (x:=x) (zs:=[a]) (.inr ⟨rfl,a,rfl⟩) (by omega) i (by omega) f;rw[Nat.pow_succ]at g;obtain⟨z2,j⟩:=Pj k (u / 10) (bA [dX (48+u % 10)]++s) e c (by omega) (by omega) (by rw[uq,qn];simp only[aE,aJ];omega) (by omega) m;refine⟨z2,?_⟩;rw[Gt b,<- Ug,<- j];exact bB l
theorem aiT{n:Int}(q:-1000000000<=n/\n<=1000000000):G 231 [E n]=Z (0,[.str (xn n)]):=by
 refine dd t231 rfl ?_;simp only[go_sem,t231];by_cases d:n=0
 ·subst d;have a:xn 0=⟨#[48]⟩:=by
   unfold xn Lib.itoa;rw[if_neg (by omega)];show bA (Lib.decDigits 0)=_;rw[Lib.decDigits_one (by decide)];rfl
  rw[a];simp only[go_sem]
 ·simp only[go_sem,d,cp];have i:n.natAbs<=1000000000:=by omega
  obtain⟨e,f,o,l⟩:=Pk (n:=n) (h:=0) (u:=n.natAbs) (s:=⟨#[]⟩) (x:=n) (zs:=[]) (.inl ⟨rfl,rfl⟩) (by omega) i (by simp[nD]) (by omega);have g:n.natAbs / 10 < 10 ^ 9:=by omega
  obtain⟨z2,k⟩:=Pj (n:=n) 9 (n.natAbs / 10) (bA [dX (48+n.natAbs % 10)]++⟨#[]⟩) f e g (by omega) (by rw[uq,qn];simp[nD]) (by omega) o;have j:bK (lB G oI) (0,[E n,.str ⟨#[]⟩,E n])=Z (1,[E n,.str (bA (Ib n.natAbs)),E 0,.bool J,z2]):=by
   have c:lB G oI (0,[E n,.str ⟨#[]⟩,E n])=_:=l;rw[bB c,k,Ug,<- Gt (by omega)]
   congr 5
   apply rz
   simp[bA,nV]
  rw[j];have hd:Ib n.natAbs=Lib.decDigits n.natAbs:=by rw[Ib,if_neg (by omega)]
  rw[hd];by_cases b:n < 0
  ·have a:xn n=bA [45]++bA (Lib.decDigits n.natAbs):=by
    unfold xn Lib.itoa;rw[if_pos b]
    apply rz
    simp[bA,nV]
   have r:(Lib.decDigits n.natAbs).length<=10:=O5 9 _ (by omega);have p:(bA [45]).size+(bA (Lib.decDigits n.natAbs)).size<=maxLen:=by rw[qn,qn];simp only[aE,aJ];exact aL (show 0+1+(Lib.decDigits n.natAbs).length<=11 by omega) (by decide)
   rw[a];have m:(⟨[(45:UInt8)].toArray⟩:z)=bA [45]:=rfl;simp only[go_sem,b,m,p]
  ·have a:xn n=bA (Lib.decDigits n.natAbs):=by
    unfold xn Lib.itoa;rw[if_neg b]
    congr 2
    omega
   rw[a];simp only[go_sem,b]
theorem ajr(n:Int):G 9001 [E n]=Z (0,[.str (xn n)]):=
 xb (i:=9001) (sg:=⟨9001,[.val J [.d]],[([.val J [.d]],[])]⟩) (v:=([.val J [.d]],[])) (j:=0) (r:=([.val J [.d (.str (xn n))]],[])) (ws:=[E n]) rfl rfl ((Wm T rfl [.val J [.d (E n)]]).trans rfl) rfl rfl
theorem ai8(n:Int):G 303 [E n]=Z (0,[.str (xn n)]):=by
 refine dd ajO rfl ?_;simp only[go_sem,ajO,ajr]
end
section
theorem CO{a:Type}(p q:Nat->a->Bool):∀(i:Nat) (l:M a),allI (λi e=>p i e && q i e) i l=(allI p i l && allI q i l)
 |_,[]=>rfl
 |i,e::l=>by
  simp only[allI,CO p q (i+1) l];cases p i e<;>cases q i e<;>cases allI p (i+1) l<;>simp
theorem J_{a β:Type}(p:Nat->β->Bool)(f:a->β):∀(i:Nat) (l:M a),allI p i (l.map f)=allI (λi e=>p i (f e)) i l
 |_,[]=>rfl
 |i,e::l=>by simp only[aW,allI,J_ p f (i+1) l]
def atB{a:Type}(q:a->Bool)(t:M a)(j:Nat):Bool:=match nth t j with
 |some x=>q x
 |none=>I
theorem yg{a:Type}(q:a->Bool)(t:M a):∀(m i:Nat),i+m<=t.length->pB (atB q t) i m=((t.drop i).take m).all q
 |0,i,h=>by simp[pB]
 |m+1,i,h=>by
  have a1:=dV (l:=t) (i:=i) (by omega);rw[ig t i _ a1,fE,bJ,<- yg q t m (i+1) (by omega)];simp only[pB,atB,a1]
def qN(t:iH):Bool:=isName t.name_q && je t.bq
def vW(l:M iH):Bool:=sM (l.map iH.name_q) && l.all qN
theorem Vu(l:M iH)(v:z):oq (l.map iH.name_q) v=!(l.all λx=>!Z' (x.name_q=v)):=by
 induction l with
 |nil=>rfl
 |cons x l c=>
  simp only[aW,oq,lH,bJ]at c ⊢;rw[c,decide_eq_decide.2 (eq_comm (a:=v) (b:=x.name_q))];cases Z' (x.name_q=v)<;>simp
theorem N1(l:M iH):vW l=allI (λk e=>((l.take k).all λx=>!Z' (x.name_q=e.name_q)) && qN e) 0 l:=by
 have h:=CO (λk (e:iH)=>(l.take k).all λx=>!Z' (x.name_q=e.name_q)) (λ_ e=>qN e) 0 l;rw[vW,h,uy,sM,J_]
 congr 2
 funext i e
 rw[<- lI,Vu,aI]
def isStep(s:kS):Bool:=vW s.fk && (isName s.name_q && Z' (s.fk.length<=3))
def Qp(p:iG):Bool:=fG 0 8 p.nM && (Z' (p.steps.length<=10) && ((!p.root ||decide (p.nM=0)) && (p.root ||(Z' (0 < p.nM) ||!p.steps.isEmpty))))
def jv(p:iG):Bool:=p.steps.all isStep && Qp p
theorem SL(n k:Nat):Z' ((n:Int)<=(k:Int))=Z' (n<=k):=by rw[dL];simp
theorem adR(n:Nat):Z' ((n:Int)<=3)=Z' (n<=3):=SL n 3
theorem akU(n:Nat):Z' (3 < (n:Int))=!Z' (n<=3):=by rw[dL];simp;omega
theorem PX(n:Nat):Z' ((n:Int)<=10)=Z' (n<=10):=SL n 10
theorem lE{a:Type}(l:M a):Z' (0 < (l.length:Int))=!l.isEmpty:=by cases l<;>simp
theorem hH{a:Type}{f:a->M D}{l:M a}{x:a}{n:Nat}(h:bQ f l<=n)(b:x∈l):fN (f x)<=n/\l.length<=n:=by
 have:=eh f b;simp only[bQ]at *;omega
section
variable {s:kS} {rt:Bool} {up:Int} {ss:M kS}
theorem R5{t:M iH}{e:iH}{k i:Nat}(a:nth t k=Z e)(h:bQ jW t<=mg) :
  bK (lB G xx) (0,[E (i:Int),fq t,E (k:Int),E 0,.bool rt,E up,cC ss]) =
   Z (if (t.take k).all (λx=>!Z' (x.name_q=e.name_q))=I then (1,[E (i:Int),fq t,E (k:Int),E (k:Int),.bool J,.bool rt,E up,cC ss]) else (0,[.bool J])):=by
 have o:=bF a;have c:t.length<=mg:=by simp only[bQ]at h;omega
 have d:=o7 (b:=lB G xx) (λj=>(0,[E (i:Int),fq t,E (k:Int),E (j:Int),.bool rt,E up,cC ss])) (atB (λx=>!Z' (x.name_q=e.name_q)) t) k
  (1,[E (i:Int),fq t,E (k:Int),E (k:Int),.bool J,.bool rt,E up,cC ss]) (0,[.bool J]) (by
  intro j f;have a1:=dV (l:=t) (i:=j) (by omega);have g:=wj (i:=j) (n:=k) f (by omega);generalize t[j]'(by omega)=x at a1;simp only[go_sem,bn,xx,f,aN,a,a1,jW,atB];cases m:Z' (x.name_q=e.name_q)<;>simp only[go_sem,m,g]) (by simp only[go_sem,bn,xx,aG]) k 0 (by omega)
 rw[n0]at d;rw[d,yg _ t k 0 (by omega),cK]
theorem R6{t:M iH}{i:Nat}(d:bQ jW t<=mg) :
  bK (lB G Az) (0,[E (i:Int),fq t,E 0,.bool rt,E up,cC ss]) =
   Z (if vW t=I then (1,[E (i:Int),fq t,E t.length,.bool J,.bool rt,E up,cC ss]) else (0,[.bool J])):=by
 have c:t.length<=mg:=by simp only[bQ]at d;omega
 have f:=n6 (b:=lB G Az) t (λk=>(0,[E (i:Int),fq t,E (k:Int),.bool rt,E up,cC ss])) (λk e=>((t.take k).all λx=>!Z' (x.name_q=e.name_q)) && qN e)
  (1,[E (i:Int),fq t,E t.length,.bool J,.bool rt,E up,cC ss]) (0,[.bool J]) (by
  intro k e a;have g:=bF a;have m:=wj g c;have l:=eh jW (bz a);rw[EW]at l;have p:=aaK (s:=e.name_q) (by omega);have o:=aaL (s:=e.bq) (by omega);simp only[go_sem,bn,Az,g,aj,R5 a d];cases h:(t.take k).all (λx=>!Z' (x.name_q=e.name_q)) with
  |false=>simp only[go_sem,h]
  |true=>
   simp only[go_sem,h,aN,a,jW,p];cases j:isName e.name_q with
   |false=>simp only[go_sem,j,qN]
   |true=>
    simp only[go_sem,j,qN,aN,a,jW,o];cases n:je e.bq<;>simp only[go_sem,n,m]) (by simp only[go_sem,bn,Az,aG,aj]) t.length 0 (by omega)
 rw[n0,cK]at f;rw[f,N1]
end
theorem LX(p:iG):Qp p=(fG 0 8 p.nM && Z' (p.steps.length<=10) && (!p.root ||decide (p.nM=0)) && (p.root ||(Z' (0 < p.nM) ||!p.steps.isEmpty))):=by
 simp[Qp,gR]
theorem aev{p:iG}(d:fN (ej p)<=mg):G 205 (ej p)=Z (0,[.bool (jv p)]):=by
 rw[pY]at d;have a:p.steps.length<=mg:=by simp only[bQ]at d;omega
 refine dd t205 rfl ?_;simp only[go_sem,t205,ej];have f:=lf (b:=lB G IE) p.steps (λi=>(0,[E (i:Int),.bool p.root,E p.nM,cC p.steps])) isStep (1,[E p.steps.length,.bool J,.bool p.root,E p.nM,cC p.steps]) (0,[.bool J]) (by
  intro i e c;have g:=bF c;have l:=wj g a;have k:=eh eS (bz c);rw[pZ]at k;have n:=aaK (s:=e.name_q) (by omega);simp only[go_sem,bn,IE,g,aj,aN,c,eS,R6 (t:=e.fk) (by omega)];cases j:vW e.fk with
  |false=>simp only[go_sem,j,isStep]
  |true=>
   simp only[go_sem,j,isStep,aN,c,eS,n];cases h:isName e.name_q with
   |false=>simp only[go_sem,h]
   |true=>
    simp only[go_sem,h,aj,akU];cases m:Z' (e.fk.length<=3)<;>simp only[go_sem,m,l]) (by simp only[go_sem,bn,IE,aG,aj])
 rw[n0]at f;rw[f,jv];cases p.steps.all isStep with
 |false=>simp only[go_sem]
 |true=>
  rw[LX];simp only[go_sem,l9,aj,PX,lE]
  repeat' (first|with_reducible rfl|((first|rw[gx]|rw[gB]|rw[gu]|rw[gA]);split<;>simp only[go_sem,l9,aj,PX,lE, *]))
  all_goals simp_all
theorem amt{s:kS}(k:fN (eS s)<=mg):G 265 (eS s)=Z (0,[.bool (isStep s)]):=by
 rw[pZ]at k;have a:s.fk.length<=mg:=by simp only[bQ]at k;omega
 refine dd t265 rfl ?_;simp only[go_sem,t265,eS];have m:=lf (b:=lB G DT) s.fk (λi=>(0,[fq s.fk,E s.fk.length,E (i:Int),.str s.name_q,fq s.fk,aO ((s.fk.take i).map iH.name_q)])) qN
  (1,[fq s.fk,E s.fk.length,E s.fk.length,.bool J,.str s.name_q,fq s.fk,aO (s.fk.map iH.name_q)]) (0,[.bool J]) (by
  intro i e d;have n:=bF d;have q:=wj n a;have p:=eh jW (bz d);rw[EW]at p;have j:=aaP (s:=e.name_q) (by omega);have h:=aaQ (s:=e.bq) (by omega);have t:aK (.app 1 16) [aO ((s.fk.take i).map iH.name_q),.list 1 I [[.str e.name_q]]]=Z (aO ((s.fk.take (i+1)).map iH.name_q)):=by
   rw[yX d,xO]
   ·simp[fR]
   ·simp only[aj,bj,aE,aJ];simp only[mg]at a;exact⟨aL (Nat.mul_le_mul (show min i s.fk.length+(0+1)<=40000000 by omega) (au 16)) (by decide),aL (show min i s.fk.length+(0+1)<=40000000 by omega) (by decide)⟩
  have g:aK (.mW 1 I) [.str e.name_q]=Z (.list 1 I [[.str e.name_q]]):=by simp[aK,chunk,cD,D.plain]
  simp only[go_sem,bn,DT,n,aN,d,jW,aE,aJ,au,j];cases c:isName e.name_q with
  |false=>simp only[go_sem,c,qN]
  |true=>
   simp only[go_sem,c,qN,h];cases f:je e.bq<;>simp only[go_sem,f,q,t,g]) (by simp only[go_sem,bn,DT,aG,bN])
 rw[n0]at m;rw[aj];have o:bK (lB G DT) (0,[fq s.fk,E s.fk.length,E 0,.str s.name_q,fq s.fk,.list 1 I []])=_:=m;rw[o,isStep,vW];cases s.fk.all qN with
 |false=>simp only[go_sem]
 |true=>
  have j:=aaP (s:=s.name_q) (by omega);have h:=Tg (l:=s.fk.map iH.name_q) (by rw[aj];exact a);simp only[go_sem,j,aj,adR];cases c:isName s.name_q with
  |false=>simp only[go_sem,c]
  |true=>
   simp only[go_sem,c,adR,aj];cases f:Z' (s.fk.length<=3) with
   |false=>simp only[go_sem,f]
   |true=>
    have r:aK .pl [.bool (sM (s.fk.map iH.name_q))]=Z (.bool J):=rfl;simp only[go_sem,f,h,r]
theorem amu{p:iG}(d:fN (ej p)<=mg):G 266 (ej p)=Z (0,[.bool (jv p)]):=by
 rw[pY]at d;have a:p.steps.length<=mg:=by simp only[bQ]at d;omega
 refine dd t266 rfl ?_;simp only[go_sem,t266,ej];have f:=lf (b:=lB G IV) p.steps (λi=>(0,[cC p.steps,E p.steps.length,E (i:Int),.bool p.root,E p.nM,cC p.steps])) isStep (1,[cC p.steps,E p.steps.length,E p.steps.length,.bool J,.bool p.root,E p.nM,cC p.steps]) (0,[.bool J]) (by
  intro i e c;have g:=bF c;have j:=wj g a;have l:=eh eS (bz c);have h:=amt (s:=e) (by omega);rw[eS]at h;simp only[go_sem,bn,IV,g,aN,c,eS,aE,aJ,au,h];cases k:isStep e<;>simp only[go_sem,k,j]) (by simp only[go_sem,bn,IV,aG])
 rw[n0]at f;rw[aj,f,jv];cases p.steps.all isStep with
 |false=>simp only[go_sem]
 |true=>
  rw[LX];unfold fG;simp only[go_sem,aj,PX,lE]
  repeat' (first|with_reducible rfl|((first|rw[gx]|rw[gB]|rw[gu]|rw[gA]);split<;>simp only[go_sem,aj,PX,lE, *]))
  all_goals simp_all
end
section
attribute [go_sem] aE aJ au aj
theorem rL(e:cM):(cj e).length=7:=by rw[br];rfl
theorem iu(e:cM)(k:Nat)(a:Bool):aK (.has 7) [.list k a [cj e]]=Z (.bool J):=by
 rw[xQ,rL,if_pos (au 7)]
theorem q39(a b:Int):G 39 [E a,E b]=Z (0,[E (if a < b then b else a)]):=by
 refine dd t39 rfl ?_;simp only[go_sem,t39];by_cases h:a < b<;>simp only[go_sem,h]
theorem cM.gI(e:cM)(es:M cM):av e.ae < av (e::es):=by
 cases e;simp only[bo,cM.mk.sizeOf_spec];omega
def qJ:M cM->Nat
 |[]=>0
 |e::es=>max (qJ e.ae+1) (qJ es)
termination_by es=>av es
decreasing_by
 ·exact cM.gI e es
 ·simp only[bo];omega
abbrev dep(e:cM):Nat:=qJ e.ae+1
theorem d0:((qJ []:Nat):Int)=0:=by simp[qJ]
theorem C4(e:cM):∀(l:M cM),qJ (l++[e])=max (qJ l) (dep e)
 |[]=>by simp[qJ]
 |x::l=>by rw[aq,qJ,C4 e l,qJ,Nat.max_assoc]
theorem Ie:∀(n:Nat) (l:M cM),av l < n->qJ l<=bQ cj l
 |0,l,h=>by omega
 |n+1,[],h=>by simp[qJ]
 |n+1,e::l,h=>by
  have b:=Ie n e.ae (by have:=cM.gI e l;omega);have a:=Ie n l (by simp only[bo]at h;omega);rw[qJ,fJ,lO];omega
theorem UD{e:cM}:dep e<=fN (cj e)+1:=by
 have:=Ie _ e.ae (aY _);rw[lO];simp only[dep];omega
theorem mx(a b:Nat):(if (a:Int) < (b:Int) then (b:Int) else (a:Int))=((max a b:Nat):Int):=by
 by_cases h:a < b
 ·rw[if_pos (by omega),Nat.max_eq_right (by omega)]
 ·rw[if_neg (by omega),Nat.max_eq_left (by omega)]
theorem cM.Aw{e x:cM}(h:x∈e.ae):av x < av e:=cM.DB h
theorem xw{e x:cM}(h:x∈e.ae):fN (cj x)<=fN (cj e):=by
 have:=eh cj h;rw[lO e];omega
theorem rZ{e:cM}:e.ae.length<=fN (cj e):=by
 rw[lO e];simp only[bQ];omega
theorem aeu(n:Nat):∀e:cM,av e < n->fN (cj e)<=mg->G 203 (cj e)=Z (0,[E (dep e)]):=by
 induction n with
 |zero=>intro e h;omega
 |succ n l=>
  intro e o j;refine dd t203 (by rw[br];rfl) ?_;simp only[go_sem,t203,br];have c:e.ae.length<=mg:=aL rZ j;have k:=fM (b:=lB G DI) e.ae (λi (m:Nat)=>(0,E (m:Int)::E (i:Int)::cj e)) (λi=>qJ (e.ae.take i)) (0,E (qJ e.ae)::E e.ae.length::.bool J::cj e) (by
   intro i x a;have f:=bF a;have d:=wj f c;have g:=l x (by have:=cM.Aw (bz a);omega) (aL (xw (bz a)) j);rw[br]at g;simp only[go_sem,bn,DI,br e,f,aN,a,iu];simp only[go_sem,bn,DI,br,f,aN,a,iu,g,q39,mx,d,cx _ _ _ a,C4,dep]) (by simp only[go_sem,bn,DI,br,aG,bN]) e.ae.length 0 (by omega)
  rw[dw,d0,n0,br]at k;have hd:=UD (e:=e);have d:IntKind.i64.wrap ((qJ e.ae:Int)+1)=((qJ e.ae+1:Nat):Int):=by rw[wrap_i64 (by simp only[mg,dep]at *;omega)];omega
  simp only[go_sem,k,d]
theorem al5{e:cM}(a:fN (cj e)<=mg):G 203 (cj e)=Z (0,[E (dep e)]):=aeu _ e (aY _) a
theorem aeI(n:Nat):∀e:cM,av e < n->fN (cj e)<=mg->G 262 (cj e)=Z (0,[E (dep e)]):=by
 induction n with
 |zero=>intro e h;omega
 |succ n l=>
  intro e o j;refine dd t262 (by rw[br];rfl) ?_;simp only[go_sem,t262,br];have c:e.ae.length<=mg:=aL rZ j;have k:=fM (b:=lB G DS) e.ae (λi (m:Nat)=>(0,[E (m:Int),dm e.ae,E e.ae.length,E (i:Int)])) (λi=>qJ (e.ae.take i)) (0,[E (qJ e.ae),dm e.ae,E e.ae.length,E e.ae.length,.bool J]) (by
   intro i x a;have f:=bF a;have d:=wj f c;have g:=l x (by have:=cM.Aw (bz a);omega) (aL (xw (bz a)) j);rw[br]at g;simp only[go_sem,bn,DS,f,aN,a,iu];simp only[go_sem,bn,DS,br,f,aN,a,iu,g,mx,d,cx _ _ _ a,C4,dep]) (by simp only[go_sem,bn,DS,aG,bN]) e.ae.length 0 (by omega)
  rw[dw,d0,n0]at k;have hd:=UD (e:=e);have d:IntKind.i64.wrap ((qJ e.ae:Int)+1)=((qJ e.ae+1:Nat):Int):=by rw[wrap_i64 (by simp only[mg,dep]at *;omega)];omega
  simp only[go_sem,k,d]
theorem amr{e:cM}(a:fN (cj e)<=mg):G 262 (cj e)=Z (0,[E (dep e)]):=aeI _ e (aY _) a
def zp(p:iG):Bool:=!p.root && (Z' (p.nM=0) && p.steps.isEmpty)
theorem dt{a:Type}(l:M a):Z' ((l.length:Int)=0)=l.isEmpty:=by cases l<;>simp;omega
theorem al6(p:iG):G 206 (ej p)=Z (0,[.bool (zp p)]):=by
 refine dd t206 rfl ?_;simp only[go_sem,t206,ej,dt]
 repeat' (first|with_reducible rfl|((first|rw[gx]|rw[gB]|rw[gu]|rw[gA]);split<;>simp only[go_sem,dt, *]))
 all_goals simp_all[zp]
theorem ams(p:iG):G 263 (ej p)=Z (0,[.bool (zp p)]):=by
 refine dd t263 rfl ?_;simp only[go_sem,t263,ej,dt]
 repeat' (first|with_reducible rfl|((first|rw[gx]|rw[gB]|rw[gu]|rw[gA]);split<;>simp only[go_sem,dt, *]))
 all_goals simp_all[zp]
def orA:z:=⟨#[111,114]⟩
def Ua:z:=⟨#[97,110,100]⟩
theorem BR:(⟨[111,114].toArray⟩:z)=orA:=(rfl)
theorem vv:(⟨[97,110,100].toArray⟩:z)=Ua:=(rfl)
def HS(p:iG):Bool:=match p.steps with
 |s::_=>Z' (s.name_q=orA) ||decide (s.name_q=Ua)
 |[]=>J
def Ya(p:iG):Bool:=(p.root ||decide (0 < p.nM) ||!HS p) && !(p.root && p.steps.isEmpty)
theorem Ew{p:iG}(h:jv p=I):0<=p.nM/\(p.root=I->p.nM=0)/\(p.root=I\/0 < p.nM\/p.steps≠[]):=by
 simp only[jv,Qp,fG,af,dr,decide_eq_true_eq,bY,List.isEmpty_eq_false_iff]at h;obtain⟨_,⟨d,_⟩,_,b,a⟩:=h;refine⟨d,λc=>?_,?_⟩
 ·rcases b with b|b
  ·rw[c]at b;cases b
  ·exact b
 ·rcases a with a|a|a
  ·exact .inl a
  ·exact .inr (.inl a)
  ·exact .inr (.inr a)
theorem al7{p:iG}(e:jv p=I):G 207 (ej p)=Z (0,[.bool (Ya p)]):=by
 obtain⟨m,i,g⟩:=Ew e;refine dd t207 rfl ?_;simp only[go_sem,t207,ej,lE,BR,vv];cases b:p.root with
 |true=>
  have a:p.nM=0:=i b;simp only[go_sem,b,a,lE,Ya]
 |false=>
  by_cases a:0 < p.nM
  ·simp only[go_sem,b,a,Ya]
  ·have d:p.steps≠[]:=by
    rcases g with h|h|h
    ·rw[b]at h;cases h
    ·exact absurd h a
    ·exact h
   obtain⟨s,l,f⟩:=List.exists_cons_of_ne_nil d;simp only[go_sem,b,a,Ya,f,HS,aW,eS,BR,vv];have j:¬Ua=orA:=by decide
   by_cases c:s.name_q=orA
   ·simp only[go_sem,c,BR,vv]
   ·by_cases k:s.name_q=Ua<;>simp only[go_sem,c,k,j,BR,vv]
def pM(op:Int):Nat:=if op<=4 then 0 else if op=5 then 1 else 2
def rN(e:cM):Bool:=if e.op=1 then fG 0 1000000000 e.num else if e.op=2 then je e.text else if e.op=3 then jv e.path && Ya e.path else if e.op=4 then jv e.path else I
def gF(e:cM):Bool:=fG 1 15 e.op && (Z' (e.ae.length=pM e.op) && ((Z' (e.op=1) ||decide (e.num=0)) && ((Z' (e.op=2) ||decide (e.text.size=0)) && ((Z' (e.op=3) ||(Z' (e.op=4) ||zp e.path)) && rN e))))
def uh:M cM->Bool
 |[]=>I
 |e::es=>gF e && uh e.ae && uh es
termination_by es=>av es
decreasing_by
 ·exact cM.gI e es
 ·simp only[bo];omega
def qF(e:cM):Bool:=gF e && uh e.ae
theorem E7:∀(l:M cM),uh l=l.all qF
 |[]=>by simp[uh]
 |e::l=>by rw[uh,bJ,E7 l];rfl
theorem ZX{n:Nat}(h:∀e:cM,av e < n->fN (cj e)<=mg->G 208 (cj e)=Z (0,[.bool (qF e)])){e:cM}(k:av e < n+1)(f:fN (cj e)<=mg) :
  bK (lB G AA) (0,E e.ae.length::E 0::cj e)=Z (if uh e.ae=I then (1,E e.ae.length::E e.ae.length::.bool J::cj e) else (0,[.bool J])):=by
 have a:e.ae.length<=mg:=aL rZ f;rw[E7];exact lf (b:=lB G AA) e.ae (λi=>(0,E e.ae.length::E (i:Int)::cj e)) qF _ _ (by
  intro i x c;have g:=bF c;have j:=wj g a;have d:=h x (by have:=cM.Aw (bz c);omega) (aL (xw (bz c)) f);rw[br]at d;simp only[go_sem,bn,AA,br e,g,aN,c,iu];simp only[go_sem,br x,d];cases qF x<;>simp only[go_sem,j]) (by simp only[go_sem,bn,AA,br,aG])
theorem yP{e:cM}(h:e.ae.length=0):uh e.ae=I:=by
 have:e.ae=[]:=cG.1 h;rw[this];simp[uh]
theorem aew(n:Nat):∀e:cM,av e < n->fN (cj e)<=mg->G 208 (cj e)=Z (0,[.bool (qF e)]):=by
 induction n with
 |zero=>intro e h;omega
 |succ n C=>
  intro e D H;have f:=ZX C D H;rw[br]at f;have L:=lO e;have d:=aaL (s:=e.text) (by omega);have c:=aev (p:=e.path) (by omega);have b:=al6 e.path;rw[ej]at c b;have x:jv e.path=I->G 207 [.bool e.path.root,E e.path.nM,cC e.path.steps]=Z (0,[.bool (Ya e.path)]):=λh=>al7 h;refine dd t208 (by rw[br];rfl) ?_;simp only[go_sem,l9,d,c,b,cp,a_,t208,br];have small:∀{k:Nat} (g:e.ae.length=0),bK (lB G AA) (0,[E 0,E 0,E e.op,E e.num,.str e.text,.bool e.path.root,E e.path.nM,cC e.path.steps,dm e.ae])=Z (1,[E 0,E 0,.bool J,E e.op,E e.num,.str e.text,.bool e.path.root,E e.path.nM,cC e.path.steps,dm e.ae]):=by
   intro _ g;rw[yP g,g]at f;exact f
  by_cases o:e.op=1
  ·have v:gF e=(Z' (e.ae.length=0) && ((Z' (e.text.size=0)) && (zp e.path && fG 0 1000000000 e.num))):=by simp[gF,rN,pM,fG,o]
   rw[o]at small;by_cases g:e.ae.length=0
   ·have a:(e.ae.length:Int)=0:=by omega
    have q:=small (k:=0) g;have y:=yP g;simp only[go_sem,l9,d,c,b,cp,a_,o,a,q]
    repeat' (first|with_reducible rfl|((first|rw[gx]|rw[gB]|rw[gu]|rw[gA]);split<;>simp only[go_sem,l9,d,c,b,cp,a_,o,a,q, *]))
    all_goals simp_all[qF]
   ·have a:¬(e.ae.length:Int)=0:=by omega
    simp only[go_sem,l9,d,c,b,cp,a_,o,a]
    repeat' (first|with_reducible rfl|((first|rw[gx]|rw[gB]|rw[gu]|rw[gA]);split<;>simp only[go_sem,l9,d,c,b,cp,a_,o,a, *]))
    all_goals simp_all[qF]
  by_cases m:e.op=2
  ·have v:gF e=(Z' (e.ae.length=0) && ((Z' (e.num=0)) && (zp e.path && je e.text))):=by simp[gF,rN,pM,fG,m]
   rw[m]at small;by_cases g:e.ae.length=0
   ·have a:(e.ae.length:Int)=0:=by omega
    have q:=small (k:=0) g;have y:=yP g;simp only[go_sem,l9,d,c,b,cp,a_,m,a,q]
    repeat' (first|with_reducible rfl|((first|rw[gx]|rw[gB]|rw[gu]|rw[gA]);split<;>simp only[go_sem,l9,d,c,b,cp,a_,m,a,q, *]))
    all_goals simp_all[qF]
   ·have a:¬(e.ae.length:Int)=0:=by omega
    simp only[go_sem,l9,d,c,b,cp,a_,m,a]
    repeat' (first|with_reducible rfl|((first|rw[gx]|rw[gB]|rw[gu]|rw[gA]);split<;>simp only[go_sem,l9,d,c,b,cp,a_,m,a, *]))
    all_goals simp_all[qF]
  by_cases i:e.op=3
  ·have v:gF e=(Z' (e.ae.length=0) && ((Z' (e.num=0)) && (Z' (e.text.size=0) && (jv e.path && Ya e.path)))):=by simp[gF,rN,pM,fG,i]
   rw[i]at small;cases t:jv e.path with
   |false=>
    simp only[go_sem,l9,d,c,b,cp,a_,i,t]
    repeat' (first|with_reducible rfl|((first|rw[gx]|rw[gB]|rw[gu]|rw[gA]);split<;>simp only[go_sem,l9,d,c,b,cp,a_,i,t, *]))
    all_goals simp_all[qF]
   |true=>
    have A:=x t;by_cases g:e.ae.length=0
    ·have a:(e.ae.length:Int)=0:=by omega
     have q:=small (k:=0) g;have y:=yP g;simp only[go_sem,l9,d,c,b,cp,a_,i,t,a,q,A]
     repeat' (first|with_reducible rfl|((first|rw[gx]|rw[gB]|rw[gu]|rw[gA]);split<;>simp only[go_sem,l9,d,c,b,cp,a_,i,t,a,q,A, *]))
     all_goals simp_all[qF]
    ·have a:¬(e.ae.length:Int)=0:=by omega
     simp only[go_sem,l9,d,c,b,cp,a_,i,t,a]
     repeat' (first|with_reducible rfl|((first|rw[gx]|rw[gB]|rw[gu]|rw[gA]);split<;>simp only[go_sem,l9,d,c,b,cp,a_,i,t,a, *]))
     all_goals simp_all[qF]
  by_cases l:e.op=4
  ·have v:gF e=(Z' (e.ae.length=0) && ((Z' (e.num=0)) && (Z' (e.text.size=0) && jv e.path))):=by simp[gF,rN,pM,fG,l]
   rw[l]at small;by_cases g:e.ae.length=0
   ·have a:(e.ae.length:Int)=0:=by omega
    have q:=small (k:=0) g;have y:=yP g;simp only[go_sem,l9,d,c,b,cp,a_,l,a,q]
    repeat' (first|with_reducible rfl|((first|rw[gx]|rw[gB]|rw[gu]|rw[gA]);split<;>simp only[go_sem,l9,d,c,b,cp,a_,l,a,q, *]))
    all_goals simp_all[qF]
   ·have a:¬(e.ae.length:Int)=0:=by omega
    simp only[go_sem,l9,d,c,b,cp,a_,l,a]
    repeat' (first|with_reducible rfl|((first|rw[gx]|rw[gB]|rw[gu]|rw[gA]);split<;>simp only[go_sem,l9,d,c,b,cp,a_,l,a, *]))
    all_goals simp_all[qF]
  cases r:fG 5 15 e.op with
  |false=>
   have v:gF e=J:=by
    have:fG 1 15 e.op=J:=by
     rw[eg]at r ⊢;intro h
     apply r
     have:=(gG _ _ _).1 h;exact (gG _ _ _).2 (by omega)
    simp[gF,this]
   have F:qF e=J:=by simp[qF,v]
   simp only[go_sem,l9,d,c,b,cp,a_,o,m,i,l,r,F]
  |true=>
   have N:=(gG _ _ _).1 r;have B:fG 1 15 e.op=I:=(gG _ _ _).2 (by omega);by_cases j:e.op=5
   ·have v:gF e=(Z' (e.ae.length=1) && ((Z' (e.num=0)) && (Z' (e.text.size=0) && zp e.path))):=by simp[gF,rN,pM,fG,j]
    by_cases g:e.ae.length=1
    ·have a:(e.ae.length:Int)=1:=by omega
     rw[a,j]at f;cases w:uh e.ae with
     |false=>
      rw[w]at f;simp only[go_sem,l9,d,c,b,cp,a_]at f;simp only[go_sem,l9,d,c,b,cp,a_,j,a,f]
      repeat' (first|with_reducible rfl|((first|rw[gx]|rw[gB]|rw[gu]|rw[gA]);split<;>simp only[go_sem,l9,d,c,b,cp,a_,j,a,f, *]))
      all_goals simp_all[qF]
     |true=>
      rw[w]at f;simp only[go_sem,l9,d,c,b,cp,a_]at f;simp only[go_sem,l9,d,c,b,cp,a_,j,a,f]
      repeat' (first|with_reducible rfl|((first|rw[gx]|rw[gB]|rw[gu]|rw[gA]);split<;>simp only[go_sem,l9,d,c,b,cp,a_,j,a,f, *]))
      all_goals simp_all[qF]
    ·have a:¬(e.ae.length:Int)=1:=by omega
     simp only[go_sem,l9,d,c,b,cp,a_,j,a]
     repeat' (first|with_reducible rfl|((first|rw[gx]|rw[gB]|rw[gu]|rw[gA]);split<;>simp only[go_sem,l9,d,c,b,cp,a_,j,a, *]))
     all_goals simp_all[qF]
   ·have K:pM e.op=2:=by unfold pM;rw[if_neg (by omega),if_neg j]
    have v:gF e=(Z' (e.ae.length=2) && ((Z' (e.num=0)) && (Z' (e.text.size=0) && zp e.path))):=by simp[gF,rN,K,B,o,m,i,l]
    by_cases g:e.ae.length=2
    ·have a:(e.ae.length:Int)=2:=by omega
     rw[a]at f;cases w:uh e.ae with
     |false=>
      rw[w]at f;simp only[go_sem,l9,d,c,b,cp,a_]at f;simp only[go_sem,l9,d,c,b,cp,a_,o,m,i,l,j,r,a,f]
      repeat' (first|with_reducible rfl|((first|rw[gx]|rw[gB]|rw[gu]|rw[gA]);split<;>simp only[go_sem,l9,d,c,b,cp,a_,o,m,i,l,j,r,a,f, *]))
      all_goals simp_all[qF]
     |true=>
      rw[w]at f;simp only[go_sem,l9,d,c,b,cp,a_]at f;simp only[go_sem,l9,d,c,b,cp,a_,o,m,i,l,j,r,a,f]
      repeat' (first|with_reducible rfl|((first|rw[gx]|rw[gB]|rw[gu]|rw[gA]);split<;>simp only[go_sem,l9,d,c,b,cp,a_,o,m,i,l,j,r,a,f, *]))
      all_goals simp_all[qF]
    ·have a:¬(e.ae.length:Int)=2:=by omega
     simp only[go_sem,l9,d,c,b,cp,a_,o,m,i,l,j,r,a]
     repeat' (first|with_reducible rfl|((first|rw[gx]|rw[gB]|rw[gu]|rw[gA]);split<;>simp only[go_sem,l9,d,c,b,cp,a_,o,m,i,l,j,r,a, *]))
     all_goals simp_all[qF]
theorem al8{e:cM}(a:fN (cj e)<=mg):G 208 (cj e)=Z (0,[.bool (qF e)]):=aew _ e (aY _) a
end
section
theorem Z2{n:Nat}(h:∀e:cM,av e < n->fN (cj e)<=mg->G 267 (cj e)=Z (0,[.bool (qF e)])){e:cM}(k:av e < n+1)(f:fN (cj e)<=mg) :
  bK (lB G DU) (0,[dm e.ae,E e.ae.length,E 0])=Z (if uh e.ae=I then (1,[dm e.ae,E e.ae.length,E e.ae.length,.bool J]) else (0,[.bool J])):=by
 have a:e.ae.length<=mg:=aL rZ f;rw[E7];exact lf (b:=lB G DU) e.ae (λi=>(0,[dm e.ae,E e.ae.length,E (i:Int)])) qF _ _ (by
  intro i x c;have g:=bF c;have j:=wj g a;have d:=h x (by have:=cM.Aw (bz c);omega) (aL (xw (bz c)) f);rw[br]at d;simp only[go_sem,bn,DU,g,aN,c,iu];simp only[go_sem,br x,d];cases qF x<;>simp only[go_sem,j]) (by simp only[go_sem,bn,DU,aG])
theorem n2:((2:Nat):Int)=2:=(rfl)
attribute [go_sem] n1 n2
theorem afx{p:iG}(h:jv p=I):Ya p=(!(!p.root && (Z' (p.nM=0) && HS p)) && !(p.root && p.steps.isEmpty)):=by
 obtain⟨c,b,a⟩:=Ew h;unfold Ya
 congr 1
 have:Z' (0 < p.nM)=!Z' (p.nM=0):=by rw[dL];simp;omega
 rw[this];cases p.root<;>cases Z' (p.nM=0)<;>cases HS p<;>rfl
theorem aeJ(n:Nat):∀e:cM,av e < n->fN (cj e)<=mg->G 267 (cj e)=Z (0,[.bool (qF e)]):=by
 induction n with
 |zero=>intro e h;omega
 |succ n x=>
  intro e y A;have d:=Z2 x y A;have P:=lO e;have c:=aaQ (s:=e.text) (by omega);have a:=amu (p:=e.path) (by omega);have b:=ams e.path;rw[ej]at a b;refine dd t267 (by rw[br];rfl) ?_;simp only[go_sem,c,a,b,cp,a_,lE,dt,t267,br];by_cases r:e.op=1
  ·clear x d y A;have w:gF e=(Z' (e.ae.length=0) && ((Z' (e.text.size=0)) && (zp e.path && fG 0 1000000000 e.num))):=by simp[gF,rN,pM,fG,r]
   have F:e.ae.length=0->uh e.ae=I:=yP;have f:e.ae.isEmpty=Z' (e.ae.length=0):=by cases e.ae<;>simp
   unfold fG at w;simp only[go_sem,c,a,b,cp,a_,lE,dt,r,f]
   repeat' (first|with_reducible rfl|((first|rw[gx]|rw[gB]|rw[gu]|rw[gA]);split<;>simp only[go_sem,c,a,b,cp,a_,lE,dt,r,f, *]))
   all_goals simp_all[qF]
  by_cases q:e.op=2
  ·clear x d y A;have w:gF e=(Z' (e.ae.length=0) && ((Z' (e.num=0)) && (zp e.path && je e.text))):=by simp[gF,rN,pM,fG,q]
   have F:e.ae.length=0->uh e.ae=I:=yP;have f:e.ae.isEmpty=Z' (e.ae.length=0):=by cases e.ae<;>simp
   simp only[go_sem,c,a,b,cp,a_,lE,dt,q,f]
   repeat' (first|with_reducible rfl|((first|rw[gx]|rw[gB]|rw[gu]|rw[gA]);split<;>simp only[go_sem,c,a,b,cp,a_,lE,dt,q,f, *]))
   all_goals simp_all[qF]
  by_cases o:e.op=4
  ·clear x d y A;have w:gF e=(Z' (e.ae.length=0) && ((Z' (e.num=0)) && (Z' (e.text.size=0) && jv e.path))):=by simp[gF,rN,pM,fG,o]
   have F:e.ae.length=0->uh e.ae=I:=yP;have f:e.ae.isEmpty=Z' (e.ae.length=0):=by cases e.ae<;>simp
   simp only[go_sem,c,a,b,cp,a_,lE,dt,o,f]
   repeat' (first|with_reducible rfl|((first|rw[gx]|rw[gB]|rw[gu]|rw[gA]);split<;>simp only[go_sem,c,a,b,cp,a_,lE,dt,o,f, *]))
   all_goals simp_all[qF]
  by_cases g:e.op=3
  ·clear x d y A;have w:gF e=(Z' (e.ae.length=0) && ((Z' (e.num=0)) && (Z' (e.text.size=0) && (jv e.path && Ya e.path)))):=by simp[gF,rN,pM,fG,g]
   have F:e.ae.length=0->uh e.ae=I:=yP;have f:e.ae.isEmpty=Z' (e.ae.length=0):=by cases e.ae<;>simp
   have N:jv e.path=I->Ya e.path=(!(!e.path.root && (Z' (e.path.nM=0) && HS e.path)) && !(e.path.root && e.path.steps.isEmpty)):=afx;cases m:e.path.steps with
   |nil=>
    have K:HS e.path=J:=by simp[HS,m]
    rw[m]at a;cases k:e.path.root with
    |true=>
     rw[k]at a b;simp only[go_sem,c,a,b,cp,a_,lE,dt,g,f,m,k,a,b]
     repeat' (first|with_reducible rfl|((first|rw[gx]|rw[gB]|rw[gu]|rw[gA]);split<;>simp only[go_sem,c,a,b,cp,a_,lE,dt,g,f,m,k,a,b, *]))
     all_goals simp_all[qF]
    |false=>
     rw[k]at a b;simp only[go_sem,c,a,b,cp,a_,lE,dt,g,f,m,k,a,b]
     repeat' (first|with_reducible rfl|((first|rw[gx]|rw[gB]|rw[gu]|rw[gA]);split<;>simp only[go_sem,c,a,b,cp,a_,lE,dt,g,f,m,k,a,b, *]))
     all_goals simp_all[qF]
   |cons s l=>
    have K:HS e.path=(Z' (s.name_q=orA) ||decide (s.name_q=Ua)):=by simp[HS,m]
    rw[m]at a;cases k:e.path.root with
    |true=>
     rw[k]at a b;simp only[go_sem,c,a,b,cp,a_,lE,dt,g,f,m,k,a,b,aW,eS,BR,vv]
     repeat' (first|with_reducible rfl|((first|rw[gx]|rw[gB]|rw[gu]|rw[gA]);split<;>simp only[go_sem,c,a,b,cp,a_,lE,dt,g,f,m,k,a,b,aW,eS,BR,vv, *]))
     all_goals simp_all[qF]
     all_goals omega
    |false=>
     rw[k]at a b;simp only[go_sem,c,a,b,cp,a_,lE,dt,g,f,m,k,a,b,aW,eS,BR,vv]
     repeat' (first|with_reducible rfl|((first|rw[gx]|rw[gB]|rw[gu]|rw[gA]);split<;>simp only[go_sem,c,a,b,cp,a_,lE,dt,g,f,m,k,a,b,aW,eS,BR,vv, *]))
     all_goals simp_all[qF]
  cases B:fG 5 15 e.op with
  |false=>
   have D:fG 1 15 e.op=J:=by
    rw[eg]at B ⊢;intro h
    apply B
    have:=(gG _ _ _).1 h;exact (gG _ _ _).2 (by omega)
   have H:qF e=J:=by simp[qF,gF,D]
   have R:¬(5<=e.op/\e.op<=15):=λh=>by rw[(gG _ _ _).2 h]at B;cases B
   have i:¬e.op=5:=by omega
   by_cases t:e.op < 1
   ·simp only[go_sem,c,a,b,cp,a_,lE,dt,r,q,g,o,i,H,t]
   ·have v:15 < e.op:=by omega
    simp only[go_sem,c,a,b,cp,a_,lE,dt,r,q,g,o,i,H,t,v]
  |true=>
   have Q:=(gG _ _ _).1 B;have D:fG 1 15 e.op=I:=(gG _ _ _).2 (by omega);have t:¬e.op < 1:=by omega
   have v:¬15 < e.op:=by omega
   by_cases i:e.op=5
   ·have w:gF e=(Z' (e.ae.length=1) && ((Z' (e.num=0)) && (Z' (e.text.size=0) && zp e.path))):=by simp[gF,rN,pM,fG,i]
    by_cases f:e.ae.length=1
    ·have j:(e.ae.length:Int)=1:=by omega
     rw[j]at d;cases C:uh e.ae with
     |false=>
      rw[C]at d;simp only[go_sem,c,a,b,cp,a_,lE,dt]at d;simp only[go_sem,c,a,b,cp,a_,lE,dt,i,j,d]
      repeat' (first|with_reducible rfl|((first|rw[gx]|rw[gB]|rw[gu]|rw[gA]);split<;>simp only[go_sem,c,a,b,cp,a_,lE,dt,i,j,d, *]))
      all_goals simp_all[qF]
     |true=>
      rw[C]at d;simp only[go_sem,c,a,b,cp,a_,lE,dt]at d;simp only[go_sem,c,a,b,cp,a_,lE,dt,i,j,d]
      repeat' (first|with_reducible rfl|((first|rw[gx]|rw[gB]|rw[gu]|rw[gA]);split<;>simp only[go_sem,c,a,b,cp,a_,lE,dt,i,j,d, *]))
      all_goals simp_all[qF]
    ·have j:¬(e.ae.length:Int)=1:=by omega
     simp only[go_sem,c,a,b,cp,a_,lE,dt,i,j]
     repeat' (first|with_reducible rfl|((first|rw[gx]|rw[gB]|rw[gu]|rw[gA]);split<;>simp only[go_sem,c,a,b,cp,a_,lE,dt,i,j, *]))
     all_goals simp_all[qF]
   ·have L:pM e.op=2:=by unfold pM;rw[if_neg (by omega),if_neg i]
    have w:gF e=(Z' (e.ae.length=2) && ((Z' (e.num=0)) && (Z' (e.text.size=0) && zp e.path))):=by simp[gF,rN,L,D,r,q,g,o]
    by_cases f:e.ae.length=2
    ·have j:(e.ae.length:Int)=2:=by omega
     rw[j]at d;cases C:uh e.ae with
     |false=>
      rw[C]at d;simp only[go_sem,c,a,b,cp,a_,lE,dt]at d;simp only[go_sem,c,a,b,cp,a_,lE,dt,r,q,g,o,i,t,v,j,d]
      repeat' (first|with_reducible rfl|((first|rw[gx]|rw[gB]|rw[gu]|rw[gA]);split<;>simp only[go_sem,c,a,b,cp,a_,lE,dt,r,q,g,o,i,t,v,j,d, *]))
      all_goals simp_all[qF]
     |true=>
      rw[C]at d;simp only[go_sem,c,a,b,cp,a_,lE,dt]at d;simp only[go_sem,c,a,b,cp,a_,lE,dt,r,q,g,o,i,t,v,j,d]
      repeat' (first|with_reducible rfl|((first|rw[gx]|rw[gB]|rw[gu]|rw[gA]);split<;>simp only[go_sem,c,a,b,cp,a_,lE,dt,r,q,g,o,i,t,v,j,d, *]))
      all_goals simp_all[qF]
    ·have j:¬(e.ae.length:Int)=2:=by omega
     simp only[go_sem,c,a,b,cp,a_,lE,dt,r,q,g,o,i,t,v,j]
     repeat' (first|with_reducible rfl|((first|rw[gx]|rw[gB]|rw[gu]|rw[gA]);split<;>simp only[go_sem,c,a,b,cp,a_,lE,dt,r,q,g,o,i,t,v,j, *]))
     all_goals simp_all[qF]
theorem amv{e:cM}(a:fN (cj e)<=mg):G 267 (cj e)=Z (0,[.bool (qF e)]):=aeJ _ e (aY _) a
def pL(e:cM):Bool:=Z' (dep e<=8) && qF e
theorem al9{e:cM}(b:fN (cj e)<=mg):G 209 (cj e)=Z (0,[.bool (pL e)]):=by
 have c:=al5 b;have a:=al8 b;have d:Z' (((dep e:Nat):Int)<=8)=Z' (dep e<=8):=SL (dep e) 8;rw[br]at c a;refine dd t209 (by rw[br];rfl) ?_;simp only[go_sem,t209,br,c,a,d];unfold pL;cases hd:Z' (dep e<=8)<;>simp only[go_sem,a,hd]
theorem amw{e:cM}(b:fN (cj e)<=mg):G 268 (cj e)=Z (0,[.bool (pL e)]):=by
 have c:=amr b;have a:=amv b;have d:Z' (((dep e:Nat):Int)<=8)=Z' (dep e<=8):=SL (dep e) 8;rw[br]at c a;refine dd t268 (by rw[br];rfl) ?_;simp only[go_sem,t268,br,c,a,d];unfold pL;cases hd:Z' (dep e<=8)<;>simp only[go_sem,a,hd]
def Fx(l:M cM)(NO:Nat):Bool:=l.all pL && Z' (l.length<=NO)
theorem aiL{l:M cM}{m:Nat}(f:bQ cj l<=mg):G 210 [dm l,E (m:Int)]=Z (0,[.bool (Fx l m)]):=by
 have a:l.length<=mg:=by simp only[bQ]at f;omega
 refine dd t210 rfl ?_;simp only[go_sem,t210];have g:=lf (b:=lB G IF) l (λi=>(0,[dm l,E (m:Int),E (i:Int)])) pL (1,[dm l,E (m:Int),E l.length,.bool J]) (0,[.bool J]) (by
  intro i x c;have h:=bF c;have j:=wj h a;have d:=al9 (e:=x) (hH f (bz c)).1;rw[br]at d;simp only[go_sem,bn,IF,h,aN,c,iu];simp only[go_sem,br x,d];cases pL x<;>simp only[go_sem,j]) (by simp only[go_sem,bn,IF,aG])
 rw[n0]at g;rw[g,Fx];cases l.all pL<;>simp only[go_sem,SL]
theorem ai1{l:M cM}{m:Nat}(f:bQ cj l<=mg):G 269 [dm l,E (m:Int)]=Z (0,[.bool (Fx l m)]):=by
 have a:l.length<=mg:=by simp only[bQ]at f;omega
 refine dd t269 rfl ?_;simp only[go_sem,t269];have g:=lf (b:=lB G IW) l (λi=>(0,[dm l,E (m:Int),dm l,E l.length,E (i:Int)])) pL (1,[dm l,E (m:Int),dm l,E l.length,E l.length,.bool J]) (0,[.bool J]) (by
  intro i x c;have h:=bF c;have j:=wj h a;have d:=amw (e:=x) (hH f (bz c)).1;rw[br]at d;simp only[go_sem,bn,IW,h,aN,c,iu];simp only[go_sem,br x,d];cases pL x<;>simp only[go_sem,j]) (by simp only[go_sem,bn,IW,aG])
 rw[n0]at g;rw[g,Fx];cases l.all pL<;>simp only[go_sem,SL]
end
section
def lo0(l:M j_):Bool:=match l with
 |r::_=>Z' (0<=r.lo)
 |[]=>I
def zg(a:z->Bool)(t:jU):Bool:=
 if t.aw=1 then CS t.ranges && (t.names.isEmpty && (Z' (t.pattern.size=0) && Z' (t.path.size=0)))
 else if t.aw=2 then CS t.ranges && (lo0 t.ranges && ((Z' (t.pattern.size=0) ||a t.pattern) && (t.names.isEmpty && Z' (t.path.size=0))))
 else if t.aw=4 then fG 1 6 t.names.length && (t.ranges.isEmpty && (Z' (t.pattern.size=0) && Z' (t.path.size=0)))
 else if t.aw=5 then je t.path && (!Z' (t.path.size=0) && (t.ranges.isEmpty && (t.names.isEmpty && Z' (t.pattern.size=0))))
 else if t.aw=3\/t.aw=6 then t.ranges.isEmpty && (t.names.isEmpty && (Z' (t.pattern.size=0) && Z' (t.path.size=0)))
 else J
def tn(l:M z):Bool:=sM l && l.all isName
def isType(a:z->Bool)(t:jU):Bool:=tn t.names && zg a t
theorem Lg(l:M z)(v:z):oq l v=!(l.all λx=>!Z' (x=v)):=by
 induction l with
 |nil=>rfl
 |cons x l c=>
  simp only[oq,lH,bJ]at c ⊢;rw[c,decide_eq_decide.2 (eq_comm (a:=v) (b:=x))];cases Z' (x=v)<;>simp
theorem N0(l:M z):tn l=allI (λk e=>((l.take k).all λx=>!Z' (x=e)) && isName e) 0 l:=by
 have h:=CO (λk (e:z)=>(l.take k).all λx=>!Z' (x=e)) (λ_ e=>isName e) 0 l;rw[tn,h,uy,sM]
 congr 2
 funext i e
 rw[Lg,aI]
section
variable {kd:Int} {rs:D} {pt ph:z}
theorem Sb{l:M z}{e:z}{k:Nat}(a:nth l k=Z e)(h:bQ fR l<=mg) :
  bK (lB G AH) (0,[E (k:Int),E 0,E kd,rs,aO l,.str pt,.str ph]) =
   Z (if (l.take k).all (λx=>!Z' (x=e))=I then (1,[E (k:Int),E (k:Int),.bool J,E kd,rs,aO l,.str pt,.str ph]) else (0,[.bool J])):=by
 have o:=bF a;have c:l.length<=mg:=by simp only[bQ]at h;omega
 have d:=o7 (b:=lB G AH) (λj=>(0,[E (k:Int),E (j:Int),E kd,rs,aO l,.str pt,.str ph])) (atB (λx=>!Z' (x=e)) l) k
  (1,[E (k:Int),E (k:Int),.bool J,E kd,rs,aO l,.str pt,.str ph]) (0,[.bool J]) (by
  intro j f;have a1:=dV (l:=l) (i:=j) (by omega);have g:=wj (i:=j) (n:=k) f (by omega);generalize l[j]'(by omega)=x at a1;simp only[go_sem,bn,AH,f,aN,a,a1,fR,atB];cases m:Z' (x=e)<;>simp only[go_sem,m,g]) (by simp only[go_sem,bn,AH,aG]) k 0 (by omega)
 rw[n0]at d;rw[d,yg _ l k 0 (by omega),cK]
theorem Sc{l:M z}(d:bQ fR l<=mg) :
  bK (lB G DM) (0,[E 0,E kd,rs,aO l,.str pt,.str ph]) =
   Z (if tn l=I then (1,[E l.length,.bool J,E kd,rs,aO l,.str pt,.str ph]) else (0,[.bool J])):=by
 have a:l.length<=mg:=by simp only[bQ]at d;omega
 have f:=n6 (b:=lB G DM) l (λk=>(0,[E (k:Int),E kd,rs,aO l,.str pt,.str ph])) (λk e=>((l.take k).all λx=>!Z' (x=e)) && isName e)
  (1,[E l.length,.bool J,E kd,rs,aO l,.str pt,.str ph]) (0,[.bool J]) (by
  intro k e c;have g:=bF c;have i:=wj g a;have m:=aaK (s:=e) (by have:=QV l (bz c);omega);simp only[go_sem,bn,DM,g,Sb c d];cases h:(l.take k).all (λx=>!Z' (x=e)) with
  |false=>simp only[go_sem,h]
  |true=>
   simp only[go_sem,h,aN,c,fR,m];cases j:isName e<;>simp only[go_sem,j,i]) (by simp only[go_sem,bn,DM,aG]) l.length 0 (by omega)
 rw[n0,cK]at f;rw[f,N0]
end
theorem aiS{e:z->Bool}(p:∀s:z,s.size<=mg->G 227 [.str s]=Z (0,[.bool (e s)])){t:jU}(o:fN (ef t)<=mg):G 228 (ef t)=Z (0,[.bool (isType e t)]):=by
 rw[p6]at o;have a:=ama (l:=t.ranges) (by simp only[bQ]at o;omega);have d:=p t.pattern (by omega);have c:=aaL (s:=t.path) (by omega);refine dd t228 rfl ?_;simp only[go_sem,t228,ef,Sc (l:=t.names) (by omega)];cases b:tn t.names with
 |false=>simp only[go_sem,b,isType]
 |true=>
  simp only[go_sem,b,isType,a,d,c,cp,a_,lE,dt,l9];by_cases n:t.aw=1
  ·have h:zg e t=(CS t.ranges && (t.names.isEmpty && (Z' (t.pattern.size=0) && Z' (t.path.size=0)))):=by simp[zg,n]
   simp only[go_sem,b,isType,a,d,c,cp,a_,lE,dt,l9,n]
   repeat' (first|with_reducible rfl|((first|rw[gx]|rw[gB]|rw[gu]|rw[gA]);split<;>simp only[go_sem,b,isType,a,d,c,cp,a_,lE,dt,l9,n, *]))
   all_goals simp_all
  by_cases g:t.aw=2
  ·have h:zg e t=(CS t.ranges && (lo0 t.ranges && ((Z' (t.pattern.size=0) ||e t.pattern) && (t.names.isEmpty && Z' (t.path.size=0))))):=by simp[zg,g]
   cases f:t.ranges with
   |nil=>
    have q:lo0 t.ranges=I:=by rw[f];rfl
    rw[f]at a;simp only[go_sem,b,isType,a,d,c,cp,a_,lE,dt,l9,g,f,cE,fS]
    repeat' (first|with_reducible rfl|((first|rw[gx]|rw[gB]|rw[gu]|rw[gA]);split<;>simp only[go_sem,b,isType,a,d,c,cp,a_,lE,dt,l9,g,f,cE,fS, *]))
    all_goals simp_all
   |cons r l=>
    have q:lo0 t.ranges=Z' (0<=r.lo):=by rw[f];rfl
    rw[f]at a;simp only[go_sem,b,isType,a,d,c,cp,a_,lE,dt,l9,g,f,aW,ga,ki]
    repeat' (first|with_reducible rfl|((first|rw[gx]|rw[gB]|rw[gu]|rw[gA]);split<;>simp only[go_sem,b,isType,a,d,c,cp,a_,lE,dt,l9,g,f,aW,ga,ki, *]))
    all_goals simp_all
  by_cases k:t.aw=4
  ·have h:zg e t=(fG 1 6 t.names.length && (t.ranges.isEmpty && (Z' (t.pattern.size=0) && Z' (t.path.size=0)))):=by simp[zg,k]
   simp only[go_sem,b,isType,a,d,c,cp,a_,lE,dt,l9,k]
   repeat' (first|with_reducible rfl|((first|rw[gx]|rw[gB]|rw[gu]|rw[gA]);split<;>simp only[go_sem,b,isType,a,d,c,cp,a_,lE,dt,l9,k, *]))
   all_goals simp_all
  by_cases j:t.aw=5
  ·have h:zg e t=(je t.path && (!Z' (t.path.size=0) && (t.ranges.isEmpty && (t.names.isEmpty && Z' (t.pattern.size=0))))):=by simp[zg,j]
   simp only[go_sem,b,isType,a,d,c,cp,a_,lE,dt,l9,j]
   repeat' (first|with_reducible rfl|((first|rw[gx]|rw[gB]|rw[gu]|rw[gA]);split<;>simp only[go_sem,b,isType,a,d,c,cp,a_,lE,dt,l9,j, *]))
   all_goals simp_all
  by_cases m:t.aw=3
  ·have h:zg e t=(t.ranges.isEmpty && (t.names.isEmpty && (Z' (t.pattern.size=0) && Z' (t.path.size=0)))):=by simp[zg,m]
   simp only[go_sem,b,isType,a,d,c,cp,a_,lE,dt,l9,m]
   repeat' (first|with_reducible rfl|((first|rw[gx]|rw[gB]|rw[gu]|rw[gA]);split<;>simp only[go_sem,b,isType,a,d,c,cp,a_,lE,dt,l9,m, *]))
   all_goals simp_all
  by_cases i:t.aw=6
  ·have h:zg e t=(t.ranges.isEmpty && (t.names.isEmpty && (Z' (t.pattern.size=0) && Z' (t.path.size=0)))):=by simp[zg,i]
   simp only[go_sem,b,isType,a,d,c,cp,a_,lE,dt,l9,i]
   repeat' (first|with_reducible rfl|((first|rw[gx]|rw[gB]|rw[gu]|rw[gA]);split<;>simp only[go_sem,b,isType,a,d,c,cp,a_,lE,dt,l9,i, *]))
   all_goals simp_all
  have h:zg e t=J:=by simp[zg,n,g,m,k,j,i]
  simp only[go_sem,b,isType,a,d,c,cp,a_,lE,dt,l9,n,g,m,k,j,i,h]
end
section
def zT(t:jU):Bool:=Z' (t.aw=0) && (t.ranges.isEmpty && (t.names.isEmpty && (Z' (t.pattern.size=0) && Z' (t.path.size=0))))
theorem amx(t:jU):G 270 (ef t)=Z (0,[.bool (zT t)]):=by
 refine dd t270 rfl ?_;simp only[go_sem,t270,ef,dt,cp,a_]
 repeat' (first|with_reducible rfl|((first|rw[gx]|rw[gB]|rw[gu]|rw[gA]);split<;>simp only[go_sem,dt,cp,a_, *]))
 all_goals simp_all[zT]
theorem aiM(t:jU):G 211 (ef t)=Z (0,[.bool (zT t)]):=by
 refine dd t211 rfl ?_;simp only[go_sem,t211,ef,dt,cp,a_]
 repeat' (first|with_reducible rfl|((first|rw[gx]|rw[gB]|rw[gu]|rw[gA]);split<;>simp only[go_sem,dt,cp,a_, *]))
 all_goals simp_all[zT]
theorem Ek{l:M z}(h:l.isEmpty=I):tn l=I:=by rw[ui.1 h];rfl
theorem xf{l:M j_}(h:l.isEmpty=I):CS l=I:=by rw[ui.1 h];rfl
theorem ai7{f:z->Bool}(k:∀s:z,s.size<=mg->G 285 [.str s]=Z (0,[.bool (f s)])){t:jU}(g:fN (ef t)<=mg):G 286 (ef t)=Z (0,[.bool (isType f t)]):=by
 rw[p6]at g;have a:=amz (l:=t.ranges) (by simp only[bQ]at g;omega);have e:=k t.pattern (by omega);have d:=aaQ (s:=t.path) (by omega);have c:=aeK (l:=t.names) (by omega);have b:=Tg (l:=t.names) (by simp only[bQ]at g;omega);refine dd ajL rfl ?_;simp only[go_sem,isType,a,e,d,c,b,cp,a_,lE,dt,ajL,ef];by_cases q:t.aw=1
 ·have h:zg f t=(CS t.ranges && (t.names.isEmpty && (Z' (t.pattern.size=0) && Z' (t.path.size=0)))):=by simp[zg,q]
  simp only[go_sem,isType,a,e,d,c,b,cp,a_,lE,dt,q]
  repeat' (first|with_reducible rfl|((first|rw[gx]|rw[gB]|rw[gu]|rw[gA]);split<;>simp only[go_sem,isType,a,e,d,c,b,cp,a_,lE,dt,q, *]))
  all_goals clear a e d c b k g
  all_goals simp_all[Ek,xf]
 by_cases i:t.aw=2
 ·have h:zg f t=(CS t.ranges && (lo0 t.ranges && ((Z' (t.pattern.size=0) ||f t.pattern) && (t.names.isEmpty && Z' (t.path.size=0))))):=by simp[zg,i]
  cases j:t.ranges with
  |nil=>
   have v:lo0 t.ranges=I:=by rw[j];rfl
   rw[j]at a;simp only[go_sem,isType,a,e,d,c,b,cp,a_,lE,dt,i,j,cE,fS]
   repeat' (first|with_reducible rfl|((first|rw[gx]|rw[gB]|rw[gu]|rw[gA]);split<;>simp only[go_sem,isType,a,e,d,c,b,cp,a_,lE,dt,i,j,cE,fS, *]))
   all_goals clear a e d c b k g
   all_goals simp_all[Ek,xf]
  |cons r l=>
   have v:lo0 t.ranges=Z' (0<=r.lo):=by rw[j];rfl
   rw[j]at a;simp only[go_sem,isType,a,e,d,c,b,cp,a_,lE,dt,i,j,aW,ga,ki]
   repeat' (first|with_reducible rfl|((first|rw[gx]|rw[gB]|rw[gu]|rw[gA]);split<;>simp only[go_sem,isType,a,e,d,c,b,cp,a_,lE,dt,i,j,aW,ga,ki, *]))
   all_goals clear a e d c b k g
   all_goals simp_all[Ek,xf]
   all_goals omega
 by_cases o:t.aw=4
 ·have h:zg f t=(fG 1 6 t.names.length && (t.ranges.isEmpty && (Z' (t.pattern.size=0) && Z' (t.path.size=0)))):=by simp[zg,o]
  unfold fG at h;unfold tn;simp only[go_sem,isType,a,e,d,c,b,cp,a_,lE,dt,o]
  repeat' (first|with_reducible rfl|((first|rw[gx]|rw[gB]|rw[gu]|rw[gA]);split<;>simp only[go_sem,isType,a,e,d,c,b,cp,a_,lE,dt,o, *]))
  all_goals clear a e d c b k g
  all_goals simp_all[Ek,xf]
 by_cases n:t.aw=5
 ·have h:zg f t=(je t.path && (!Z' (t.path.size=0) && (t.ranges.isEmpty && (t.names.isEmpty && Z' (t.pattern.size=0))))):=by simp[zg,n]
  simp only[go_sem,isType,a,e,d,c,b,cp,a_,lE,dt,n]
  repeat' (first|with_reducible rfl|((first|rw[gx]|rw[gB]|rw[gu]|rw[gA]);split<;>simp only[go_sem,isType,a,e,d,c,b,cp,a_,lE,dt,n, *]))
  all_goals clear a e d c b k g
  all_goals simp_all[Ek,xf]
 by_cases p:t.aw=3
 ·have h:zg f t=(t.ranges.isEmpty && (t.names.isEmpty && (Z' (t.pattern.size=0) && Z' (t.path.size=0)))):=by simp[zg,p]
  simp only[go_sem,isType,a,e,d,c,b,cp,a_,lE,dt,p]
  repeat' (first|with_reducible rfl|((first|rw[gx]|rw[gB]|rw[gu]|rw[gA]);split<;>simp only[go_sem,isType,a,e,d,c,b,cp,a_,lE,dt,p, *]))
  all_goals clear a e d c b k g
  all_goals simp_all[Ek,xf]
 by_cases m:t.aw=6
 ·have h:zg f t=(t.ranges.isEmpty && (t.names.isEmpty && (Z' (t.pattern.size=0) && Z' (t.path.size=0)))):=by simp[zg,m]
  simp only[go_sem,isType,a,e,d,c,b,cp,a_,lE,dt,m]
  repeat' (first|with_reducible rfl|((first|rw[gx]|rw[gB]|rw[gu]|rw[gA]);split<;>simp only[go_sem,isType,a,e,d,c,b,cp,a_,lE,dt,m, *]))
  all_goals clear a e d c b k g
  all_goals simp_all[Ek,xf]
 have h:zg f t=J:=by simp[zg,q,i,p,o,n,m]
 simp only[go_sem,isType,a,e,d,c,b,cp,a_,lE,dt,q,i,p,o,n,m,h]
 repeat' (first|with_reducible rfl|((first|rw[gx]|rw[gB]|rw[gu]|rw[gA]);split<;>simp only[go_sem,isType,a,e,d,c,b,cp,a_,lE,dt,q,i,p,o,n,m,h, *]))
end
section
def nL:z:=⟨#[116,114,117,101]⟩
def la:z:=⟨#[102,97,108,115,101]⟩
def B7:z:=⟨#[49]⟩
def tW:z:=⟨#[48]⟩
theorem dO:(⟨[116,114,117,101].toArray⟩:z)=nL:=(rfl)
theorem cN:(⟨[102,97,108,115,101].toArray⟩:z)=la:=(rfl)
theorem eO:(⟨[49].toArray⟩:z)=B7:=(rfl)
theorem dP:(⟨[48].toArray⟩:z)=tW:=(rfl)
def l7(s:z):z:=if s=B7 then nL else if s=tW then la else s
def mI(mt:z->z->Bool)(t:jU)(s:z):u z:=
 if t.aw=1 then (match A7 s with
  |some n=>if PL t.ranges n=I then Z (xn n) else O
  |none=>O)
 else if t.aw=2 then (if (je s && (PL t.ranges s.size && (Z' (t.pattern.size=0) ||mt t.pattern s)))=I then Z s else O)
 else if t.aw=3 then (if (Z' (l7 s=nL) ||decide (l7 s=la))=I then Z (l7 s) else O)
 else if t.aw=4 then (if oq t.names s=I then Z s else O)
 else if t.aw=5 then (if (je s && !Z' (s.size=0))=I then Z s else O)
 else if t.aw=6 then (if s.size=0 then Z s else O)
 else O
def yn(a:z->Bool)(mt:z->z->Bool)(t:jU)(s:z):u z:=if isType a t=I then mI mt t s else O
def lh:u z->M D
 |some v=>[.str v,.bool I]
 |none=>[.str ⟨#[]⟩,.bool J]
theorem Fw{l:M z}{i:Nat}{e s:z}(h:nth l i=Z e):((l.take (i+1)).any λx=>Z' (x=s))=(((l.take i).any λx=>Z' (x=s)) ||decide (e=s)):=by
 rw[cx l i e h,List.any_append];simp
theorem Vs(l:M z)(s:z):(l.any λx=>Z' (x=s))=oq l s:=by
 unfold oq
 congr 1
 funext x
 exact decide_eq_decide.2 eq_comm
theorem Z1{l:M z}{s o pt ph:z}{kd:Int}{rs:D}(hlen:l.length<=mg) :
  bK (lB G DO) (0,[.str s,.str o,.bool J,E 0,E kd,rs,aO l,.str pt,.str ph])=Z (0,[.str s,.str o,.bool (oq l s),E l.length,.bool J,E kd,rs,aO l,.str pt,.str ph]):=by
 have c:=fM (b:=lB G DO) l (λi (b:Bool)=>(0,[.str s,.str o,.bool b,E (i:Int),E kd,rs,aO l,.str pt,.str ph])) (λi=>(l.take i).any λx=>Z' (x=s))
  (0,[.str s,.str o,.bool (l.any λx=>Z' (x=s)),E l.length,.bool J,E kd,rs,aO l,.str pt,.str ph]) (by
  intro i e a;have d:=bF a;have f:=wj d hlen;rw[Fw a];cases g:(l.take i).any λx=>Z' (x=s)<;>simp only[go_sem,bn,DO,d,aN,a,fR,f]) (by simp only[go_sem,bn,DO,aG,bN]) l.length 0 (by omega)
 rw[n0,dw,List.any_nil,Vs]at c;exact c
theorem aiU{ip:z->Bool}{mt:z->z->Bool}(T:∀s:z,s.size<=mg->G 227 [.str s]=Z (0,[.bool (ip s)]))(U:∀p s:z,p.size<=mg->s.size<=mg->G 236 [.str p,.str s]=Z (0,[.bool (mt p s)]))
  {t:jU} {s:z} (R:fN (ef t)<=mg) (Q:s.size<=mg):G 237 (ef t++[.str s])=Z (0,lh (yn ip mt t s)):=by
 have a:=aiS T R;have P:=R;rw[p6]at P;have H:=amf Q;have e:=aaL Q;have V:=aiT (n:=0) (by omega);have d:=U t.pattern s (by omega) Q;have c:∀n:Int,G 232 [fH t.ranges,E n]=Z (0,[.bool (PL t.ranges n)]):=λn=>amg (by simp only[bQ]at P;omega);have g:=Z1 (l:=t.names) (s:=s) (o:=s) (pt:=t.pattern) (ph:=t.path) (kd:=t.aw) (rs:=fH t.ranges) (by simp only[bQ]at P;omega);rw[ef]at a;refine dd t237 rfl ?_;simp only[go_sem,a,e,d,c,cp,a_,dO,cN,eO,dP,t237,ef];have fin:∀{r:u z},mI mt t s=r->yn ip mt t s=if isType ip t=I then r else O:=λh=>by rw[yn,h]
 clear T U;by_cases m:t.aw=1
 ·rw[m]at a g;cases x:A7 s with
  |none=>
   have b:=fin (r:=O) (by simp[mI,m,x]);rw[x]at H;clear fin g;cases f:isType ip t<;>rw[f]at a b<;>simp only[go_sem,a,e,d,c,cp,a_,dO,cN,eO,dP,m,H,V,ni,a,b,lh]
  |some n=>
   have S:=aiT (n:=n) (Hu x);rw[x]at H;cases K:PL t.ranges n with
   |false=>
    have b:=fin (r:=O) (by simp[mI,m,x,K]);clear fin g;cases f:isType ip t<;>rw[f]at a b<;>simp only[go_sem,a,e,d,c,cp,a_,dO,cN,eO,dP,m,H,S,K,ni,a,b,lh]
   |true=>
    have b:=fin (r:=Z (xn n)) (by simp[mI,m,x,K]);clear fin g;cases f:isType ip t<;>rw[f]at a b<;>simp only[go_sem,a,e,d,c,cp,a_,dO,cN,eO,dP,m,H,S,K,ni,a,b,lh]
 by_cases D:t.aw=2
 ·rw[D]at a g;have b:=fin (r:=if (je s && (PL t.ranges s.size && (Z' (t.pattern.size=0) ||mt t.pattern s)))=I then Z s else O) (by simp[mI,D]);clear fin g;cases f:isType ip t<;>rw[f]at a b<;>cases j:je s<;>cases i:PL t.ranges s.size<;>by_cases q:t.pattern.size=0<;>cases v:mt t.pattern s<;>rw[j,i,v]at b<;>simp only[go_sem,a,e,d,c,cp,a_,dO,cN,eO,dP,q]at b<;>simp only[go_sem,a,e,d,c,cp,a_,dO,cN,eO,dP,D,j,i,q,v,a,b,lh]
 by_cases k:t.aw=3
 ·rw[k]at a g;have b:=fin (r:=if (Z' (l7 s=nL) ||decide (l7 s=la))=I then Z (l7 s) else O) (by simp[mI,k]);clear fin g;have N:¬B7=tW:=by decide
  have w:¬nL=la:=by decide
  have y:¬la=nL:=by decide
  have L:¬tW=B7:=by decide
  have d5:¬nL=B7:=by decide
  have Y:¬nL=tW:=by decide
  have X:¬la=B7:=by decide
  have W:¬la=tW:=by decide
  by_cases j:s=B7
  ·have F:l7 s=nL:=by rw[l7,if_pos j]
   rw[F]at b;simp only[go_sem,a,e,d,c,cp,a_,dO,cN,eO,dP,w]at b;cases f:isType ip t<;>rw[f]at a b<;>simp only[go_sem,a,e,d,c,cp,a_,dO,cN,eO,dP,k,j,N,w,y,L,a,lh]<;>(rw[j]at b;simp only[go_sem,a,e,d,c,cp,a_,dO,cN,eO,dP,b,lh])
  by_cases i:s=tW
  ·have F:l7 s=la:=by rw[l7,if_neg j,if_pos i]
   rw[F]at b;simp only[go_sem,a,e,d,c,cp,a_,dO,cN,eO,dP,w,y]at b;cases f:isType ip t<;>rw[f]at a b<;>simp only[go_sem,a,e,d,c,cp,a_,dO,cN,eO,dP,k,i,N,w,y,L,a,lh]<;>(rw[i]at b;simp only[go_sem,a,e,d,c,cp,a_,dO,cN,eO,dP,b,lh])
  have F:l7 s=s:=by rw[l7,if_neg j,if_neg i]
  rw[F]at b;by_cases q:s=nL
  ·simp only[go_sem,a,e,d,c,cp,a_,dO,cN,eO,dP,q,w]at b;cases f:isType ip t<;>rw[f]at a b<;>simp only[go_sem,a,e,d,c,cp,a_,dO,cN,eO,dP,k,j,i,q,N,w,y,L,d5,Y,a,lh]<;>simp only[go_sem,a,e,d,c,cp,a_,dO,cN,eO,dP,b,lh]
  by_cases v:s=la
  ·simp only[go_sem,a,e,d,c,cp,a_,dO,cN,eO,dP,v,y]at b;cases f:isType ip t<;>rw[f]at a b<;>simp only[go_sem,a,e,d,c,cp,a_,dO,cN,eO,dP,k,j,i,q,v,N,w,y,L,X,W,a,lh]<;>simp only[go_sem,a,e,d,c,cp,a_,dO,cN,eO,dP,b,lh]
  simp only[go_sem,a,e,d,c,cp,a_,dO,cN,eO,dP,q,v,ite_self]at b;cases f:isType ip t<;>rw[f]at a<;>simp only[go_sem,a,e,d,c,cp,a_,dO,cN,eO,dP,k,j,i,q,v,a,b,lh]
 by_cases C:t.aw=4
 ·rw[C]at a g;have b:=fin (r:=if oq t.names s=I then Z s else O) (by simp[mI,C]);clear fin;cases f:isType ip t<;>rw[f]at a b<;>cases j:oq t.names s<;>rw[j]at g b<;>simp only[go_sem,a,e,d,c,cp,a_,dO,cN,eO,dP,C,g,a,b,lh]
 by_cases B:t.aw=5
 ·rw[B]at a g;have b:=fin (r:=if (je s && !Z' (s.size=0))=I then Z s else O) (by simp[mI,B]);clear fin g;cases f:isType ip t<;>rw[f]at a b<;>cases j:je s<;>by_cases i:s.size=0<;>rw[j]at b<;>simp only[go_sem,a,e,d,c,cp,a_,dO,cN,eO,dP,i]at b<;>simp only[go_sem,a,e,d,c,cp,a_,dO,cN,eO,dP,B,j,i,a,b,lh]
 by_cases A:t.aw=6
 ·rw[A]at a g;have b:=fin (r:=if s.size=0 then Z s else O) (by simp[mI,A]);clear fin g;cases f:isType ip t<;>rw[f]at a b<;>by_cases i:s.size=0<;>simp only[go_sem,a,e,d,c,cp,a_,dO,cN,eO,dP,i]at b<;>simp only[go_sem,a,e,d,c,cp,a_,dO,cN,eO,dP,A,i,a,b,lh]
 have b:=fin (r:=O) (by simp[mI,m,D,k,C,B,A]);clear fin g;cases f:isType ip t<;>rw[f]at a b<;>simp only[go_sem,a,e,d,c,cp,a_,dO,cN,eO,dP,m,D,k,C,B,A,a,b,lh]
end
section
theorem amG{k:z->Bool}{mt:z->z->Bool}(T:∀s:z,s.size<=mg->G 285 [.str s]=Z (0,[.bool (k s)]))(U:∀p s:z,p.size<=mg->s.size<=mg->G 310 [.str p,.str s]=Z (0,[.bool (mt p s)]))
  {t:jU} {s:z} (Q:fN (ef t)<=mg) (P:s.size<=mg):G 311 (ef t++[.str s])=Z (0,lh (yn k mt t s)):=by
 have j:=ai7 T Q;have N:=Q;rw[p6]at N;have q:=amD P;have e:=aaQ P;have h5:=ai8 0;have d:=U t.pattern s (by omega) P;have c:∀n:Int,G 288 [fH t.ranges,E n]=Z (0,[.bool (PL t.ranges n)]):=λn=>amE (by simp only[bQ]at N;omega);have b:=q99 (l:=t.names) (v:=s) (by simp only[bQ]at N;omega);rw[ef]at j;refine dd afi rfl ?_;clear T U;cases D:isType k t with
 |false=>
  have a:yn k mt t s=O:=by rw[yn,D];rfl
  rw[D]at j;simp only[go_sem,e,d,c,b,cp,a_,dO,cN,eO,dP,afi,ef,j,a,lh]
 |true=>
 have S:yn k mt t s=mI mt t s:=by rw[yn,D];rfl
 rw[D]at j;rw[S];clear S;simp only[go_sem,e,d,c,b,cp,a_,dO,cN,eO,dP,afi,ef,j];clear j;by_cases i:t.aw=1
 ·cases m:A7 s with
  |none=>
   have a:mI mt t s=O:=by simp[mI,i,m]
   rw[m]at q;simp only[go_sem,e,d,c,b,cp,a_,dO,cN,eO,dP,i,q,h5,ni,a,lh]
  |some n=>
   have R:=ai8 n;rw[m]at q;cases C:PL t.ranges n with
   |false=>
    have a:mI mt t s=O:=by simp[mI,i,m,C]
    simp only[go_sem,e,d,c,b,cp,a_,dO,cN,eO,dP,i,q,R,C,ni,a,lh]
   |true=>
    have a:mI mt t s=Z (xn n):=by simp[mI,i,m,C]
    simp only[go_sem,e,d,c,b,cp,a_,dO,cN,eO,dP,i,q,R,C,ni,a,lh]
 by_cases B:t.aw=2
 ·have a:mI mt t s=if (je s && (PL t.ranges s.size && (Z' (t.pattern.size=0) ||mt t.pattern s)))=I then Z s else O:=by simp[mI,B]
  cases f:je s<;>cases g:PL t.ranges s.size<;>by_cases w:t.pattern.size=0<;>cases r:mt t.pattern s<;>rw[f,g,r]at a<;>simp only[go_sem,e,d,c,b,cp,a_,dO,cN,eO,dP,w]at a<;>simp only[go_sem,e,d,c,b,cp,a_,dO,cN,eO,dP,B,f,g,w,r,a,lh]
 by_cases h:t.aw=3
 ·have a:mI mt t s=if (Z' (l7 s=nL) ||decide (l7 s=la))=I then Z (l7 s) else O:=by simp[mI,h]
  have L:¬B7=tW:=by decide
  have K:¬nL=la:=by decide
  have H:¬la=nL:=by decide
  have F:¬tW=B7:=by decide
  have Y:¬nL=B7:=by decide
  have X:¬nL=tW:=by decide
  have W:¬la=B7:=by decide
  have V:¬la=tW:=by decide
  by_cases f:s=B7
  ·have o:l7 s=nL:=by rw[l7,if_pos f]
   rw[o]at a;rw[a];simp only[go_sem,e,d,c,b,cp,a_,dO,cN,eO,dP,h,f,L,K,H,F,Y,X,lh]
  by_cases g:s=tW
  ·have o:l7 s=la:=by rw[l7,if_neg f,if_pos g]
   rw[o]at a;rw[a];simp only[go_sem,e,d,c,b,cp,a_,dO,cN,eO,dP,h,g,L,K,H,F,W,V,lh]
  have o:l7 s=s:=by rw[l7,if_neg f,if_neg g]
  rw[o]at a;rw[a];by_cases w:s=nL
  ·simp only[go_sem,e,d,c,b,cp,a_,dO,cN,eO,dP,h,w,L,K,H,F,Y,X,lh]
  by_cases r:s=la
  ·simp only[go_sem,e,d,c,b,cp,a_,dO,cN,eO,dP,h,r,L,K,H,F,W,V,lh]
  simp only[go_sem,e,d,c,b,cp,a_,dO,cN,eO,dP,h,f,g,w,r,lh]
 by_cases A:t.aw=4
 ·have a:mI mt t s=if oq t.names s=I then Z s else O:=by simp[mI,A]
  rw[a];cases f:oq t.names s<;>simp only[go_sem,e,d,c,b,cp,a_,dO,cN,eO,dP,A,f,lh]
 by_cases y:t.aw=5
 ·have a:mI mt t s=if (je s && !Z' (s.size=0))=I then Z s else O:=by simp[mI,y]
  rw[a];cases f:je s<;>by_cases g:s.size=0<;>simp only[go_sem,e,d,c,b,cp,a_,dO,cN,eO,dP,y,f,g,lh]
 by_cases x:t.aw=6
 ·have a:mI mt t s=if s.size=0 then Z s else O:=by simp[mI,x]
  rw[a];by_cases g:s.size=0<;>simp only[go_sem,e,d,c,b,cp,a_,dO,cN,eO,dP,x,g,lh]
 have a:mI mt t s=O:=by simp[mI,i,B,h,A,y,x]
 rw[a];simp only[go_sem,e,d,c,b,cp,a_,dO,cN,eO,dP,i,B,h,A,y,x,lh]
def isVal(a:z->Bool)(mt:z->z->Bool)(t:jU)(s:z):Bool:=match yn a mt t s with
 |some v=>Z' (v=s)
 |none=>J
theorem aiV{a:z->Bool}{mt:z->z->Bool}(e:∀s:z,s.size<=mg->G 227 [.str s]=Z (0,[.bool (a s)]))(f:∀p s:z,p.size<=mg->s.size<=mg->G 236 [.str p,.str s]=Z (0,[.bool (mt p s)]))
  {t:jU} {s:z} (c:fN (ef t)<=mg) (d:s.size<=mg):G 238 (ef t++[.str s])=Z (0,[.bool (isVal a mt t s)]):=by
 have h:=aiU e f c d;rw[ef]at h;refine dd t238 rfl ?_;unfold isVal;cases b:yn a mt t s with
 |none=>rw[b]at h;simp only[go_sem,t238,ef]at h;simp only[go_sem,t238,ef,h,lh]
 |some v=>rw[b]at h;simp only[go_sem,t238,ef]at h;simp only[go_sem,t238,ef,h,lh]
theorem ai_{a:z->Bool}{mt:z->z->Bool}(e:∀s:z,s.size<=mg->G 285 [.str s]=Z (0,[.bool (a s)]))(f:∀p s:z,p.size<=mg->s.size<=mg->G 310 [.str p,.str s]=Z (0,[.bool (mt p s)]))
  {t:jU} {s:z} (c:fN (ef t)<=mg) (d:s.size<=mg):G 312 (ef t++[.str s])=Z (0,[.bool (isVal a mt t s)]):=by
 have h:=amG e f c d;rw[ef]at h;refine dd XR rfl ?_;unfold isVal;cases b:yn a mt t s with
 |none=>rw[b]at h;simp only[go_sem,XR,ef]at h;simp only[go_sem,XR,ef,h,lh]
 |some v=>rw[b]at h;simp only[go_sem,XR,ef]at h;simp only[go_sem,XR,ef,h,lh]
end
section
theorem vH{k β d f:Type}{b:d->u (Sg d f)}(es:M k)(g:k->β)(h:Nat->d)(a:Nat->M β->d)(p:f)(j:M β->f)
  (v:∀e,nth es 0=Z e->b (h 0)=Z (.go (a 1 [g e])))
  (t:∀i e,nth es i=Z e->0 < i->b (a i ((es.take i).map g))=Z (.go (a (i+1) ((es.take i).map g++[g e]))))
  (y:es=[]->b (h 0)=Z (.out p)) (w:es≠[]->b (a es.length (es.map g))=Z (.out (j (es.map g)))) :
  bK b (h 0)=Z (if es.isEmpty=I then p else j (es.map g)):=by
 cases c:es with
 |nil=>rw[aF (y c)];rfl
 |cons x l=>
  have q:es≠[]:=by rw[c];simp
  have go:∀m i,i+m=es.length->0 < i->bK b (a i ((es.take i).map g))=Z (j (es.map g)):=by
   intro m
   induction m with
   |zero=>
    intro i s o;obtain rfl:i=es.length:=by omega
    rw[bN];exact aF (w q)
   |succ m r=>
    intro i s o;have a1:=dV (l:=es) (i:=i) (by omega);rw[bB (t i _ a1 o),<- yX a1];exact r (i+1) (by omega) (by omega)
  have n:nth es 0=Z x:=by rw[c];rfl
  rw[bB (v x n)];have:=go (es.length - 1) 1 (by rw[c];simp;omega) (by omega);rw[yX n]at this;simp only[dw,cE,ay]at this;rw[this,c];rfl
theorem eQ(k a:Nat)(c:Bool)(es b:M (M D))(d:a<=65536)(h:es.length+b.length<=2147483648):aK (.app k a) [.list k c es,.list k c b]=Z (.list k c (es++b)):=
 xO k a c es b (of_eq_true (ae8 d h))
theorem q76{t:jU}(a:fN (ef t)<=mg):G 76 (ef t)=Z (0,ef t):=by
 rw[p6]at a;have c:=eQ 2 16 I [] (t.ranges.map ki) (by decide) (by simp only[bQ,mg,aj,aJ]at *;omega);have b:=eQ 1 16 I [] (t.names.map fR) (by decide) (by simp only[bQ,mg,aj,aJ]at *;omega);refine dd t76 rfl ?_;simp only[go_sem,t76,ef,c,b]
theorem q77{p:iG}(g:fN (ej p)<=mg):G 77 (ej p)=Z (0,ej p):=by
 rw[pY]at g;have c:p.steps.length<=mg:=by simp only[bQ]at g;omega
 refine dd t77 rfl ?_;simp only[go_sem,t77,ej];have r:=vH (b:=lB G Hb) p.steps (λe=>e) (λi=>(0,[E (i:Int),.bool p.root,E p.nM,cC p.steps,.bool J,E 0,.bool p.root,E p.nM]))
  (λi a=>(1,[E (i:Int),.bool p.root,E p.nM,cC p.steps,.bool J,E 0,.bool p.root,E p.nM,cC a]))
  (0,[E 0,.bool J,.bool p.root,E p.nM,cC p.steps,.bool J,E 0,.bool p.root,E p.nM])
  (λa=>(1,[E p.steps.length,.bool J,.bool p.root,E p.nM,cC p.steps,.bool J,E 0,.bool p.root,E p.nM,cC a])) (by
   intro e d;have f:=bF d;have k:=wj f c;have j:=(hH g (bz d)).1;rw[pZ]at j;have q:=eQ 2 32 I [] (e.fk.map jW) (by decide) (by simp only[bQ,mg,aj,aJ]at *;omega);have o:aK (.mW 2 J) [.str e.name_q,fq e.fk]=Z (.list 2 J [[.str e.name_q,fq e.fk]]):=by simp[aK,chunk]
   have n:=eQ 2 40 J [] [[.str e.name_q,fq e.fk]] (by decide) (by simp);have m:aK .pl [.str e.name_q]=Z (.bool J):=rfl;simp only[go_sem,bn,Hb,f,aN,d,eS,q,o,n,m,k];simp[cC,eS]) (by
   intro i e d v;have f:=bF d;have k:=wj f c;have j:=(hH g (bz d)).1;rw[pZ]at j;have q:=eQ 2 32 I [] (e.fk.map jW) (by decide) (by simp only[bQ,mg,aj,aJ]at *;omega);have o:aK (.mW 2 J) [.str e.name_q,fq e.fk]=Z (.list 2 J [[.str e.name_q,fq e.fk]]):=by simp[aK,chunk]
   have n:=eQ 2 40 J ((p.steps.take i).map eS) [[.str e.name_q,fq e.fk]] (by decide) (by simp only[mg,aj,bj,aE,aJ]at *;omega);have m:aK .pl [.str e.name_q]=Z (.bool J):=rfl;simp only[go_sem,bn,Hb,f,aN,d,eS,eX,q,o,n,m,k,bR,aW,cE];simp[cC,eS]) (by
   intro h;simp only[go_sem,bn,Hb,h,cE,n0,iz]) (by
   intro h;simp only[go_sem,bn,Hb,aG,eX])
 rw[n0]at r;rw[r];cases t:p.steps with
 |nil=>simp only[go_sem,fS,cE];rfl
 |cons s l=>simp only[go_sem,ga,eX]
theorem jf(k:Nat)(a:M D)(h:a.length=k)(b:0 < k):aK (.mW k J) a=Z (.list k J [a]):=by
 have e:a.length / k=1:=by rw[h];exact Nat.div_self b
 have d:a.length % k=0:=by rw[h];exact Nat.mod_self k
 have c:chunk k 1 a=Z [a]:=by
  simp only[chunk];rw[if_pos (by omega),eJ (by omega),gT (by omega)];rfl
 simp only[aK,e,d,c,if_true];rw[if_pos (λh=>by cases h)]
theorem ajo(n:Nat):∀e:cM,av e < n->fN (cj e)<=mg->G 78 (cj e)=Z (0,cj e):=by
 induction n with
 |zero=>intro e h;omega
 |succ n v=>
  intro e y r;have d:e.ae.length<=mg:=aL rZ r;have A:=lO e;have t:=q77 (p:=e.path) (by omega);rw[ej]at t;refine dd t78 (by rw[br];rfl) ?_;simp only[go_sem,t78,br,t,cp];have st:∀(i:Nat) (x:cM) (l:M (M D)),nth e.ae i=Z x->l.length<=mg->G 78 (cj x)=Z (0,cj x)/\aK .pl [E x.op,E x.num,.str x.text,.bool x.path.root,E x.path.nM]=Z (.bool J)/\
    aK (.mW 7 J) (cj x)=Z (.list 7 J [cj x])/\aK (.app 7 96) [.list 7 J l,.list 7 J [cj x]]=Z (.list 7 J (l++[cj x])):=by
   intro i x l c o;refine⟨v x (by have:=cM.Aw (bz c);omega) (aL (xw (bz c)) r),rfl,jf 7 _ (rL x) (by decide),eQ 7 96 J l [cj x] (by decide) (by simp only[mg,aE,aJ]at *;omega)⟩
  have o:=vH (b:=lB G Hc) e.ae (λe=>e) (λi=>(0,E (i:Int)::(cj e++[E 0,E 0,.str ⟨#[]⟩,.bool J,E 0,E e.op,E e.num,.str e.text,.bool e.path.root,E e.path.nM,cC e.path.steps])))
   (λi a=>(1,E (i:Int)::(cj e++[E 0,E 0,.str ⟨#[]⟩,.bool J,E 0,E e.op,E e.num,.str e.text,.bool e.path.root,E e.path.nM,dm a,cC e.path.steps])))
   (0,E 0::.bool J::(cj e++[E 0,E 0,.str ⟨#[]⟩,.bool J,E 0,E e.op,E e.num,.str e.text,.bool e.path.root,E e.path.nM,cC e.path.steps]))
   (λa=>(1,E e.ae.length::.bool J::(cj e++[E 0,E 0,.str ⟨#[]⟩,.bool J,E 0,E e.op,E e.num,.str e.text,.bool e.path.root,E e.path.nM,dm a,cC e.path.steps]))) (by
    intro x c;have f:=bF c;have m:=wj f d;obtain⟨k,q,j,g⟩:=st 0 x [] c (by simp);rw[br x]at k j g;simp only[go_sem,bn,Hc,br e,f,aN,c,iu];simp only[go_sem,br x,k,q,j,g,m];simp[dm,br x]) (by
    intro i x c B;have f:=bF c;have m:=wj f d;obtain⟨k,q,j,g⟩:=st i x ((e.ae.take i).map cj) c (by simp only[aj,bj];omega);rw[br x]at k j g;simp only[go_sem,bn,Hc,br e,f,aN,c,iu,eX];simp only[go_sem,br x,k,q,j,g,m];simp[dm,br x]) (by
    intro h;simp only[go_sem,bn,Hc,br,h,cE,n0,iz]) (by
    intro h;simp only[go_sem,bn,Hc,br,aG,eX])
  simp only[go_sem,br,n0]at o;rw[o];cases w:e.ae with
  |nil=>simp only[go_sem,fS,cE];rfl
  |cons s l=>simp only[go_sem,ga,eX]
theorem q78{e:cM}(a:fN (cj e)<=mg):G 78 (cj e)=Z (0,cj e):=ajo _ e (aY _) a
end
section
def bS(e:ah):M D:=aB e++[.int .i64 0,.str ⟨#[]⟩,.int .i64 0,.str ⟨#[]⟩,.str ⟨#[]⟩,.str ⟨#[]⟩,.bool J,.bool J,.bool J,.bool J,.int .i64 0,.int .i64 0,.int .i64 e.aw,.str e.name_q,.int .i64 e.type.aw,.str e.type.pattern,.str e.type.path,.str e.default,.bool e.given,.bool e.fy,.bool e.cT,.bool e.fixed,.int .i64 e.min,.int .i64 e.max,az e.ae,aO e.bl,aO e.unique]
def rS(e:ah):M D:=[fH e.type.ranges,aO e.type.names]
theorem Wd{e:ah}{w:D}(r:fN (aB e)<=mg) :
  bK (lB G D6) (0,E 0::(bS e++[]++rS e))=Z (if e.when.isEmpty=I then (0,E 0::.bool J::(bS e++[]++rS e)) else (1,E e.when.length::.bool J::(bS e++[dm e.when]++rS e))):=by
 have q:=r;rw[dN]at q;have p:bQ cj e.when<=mg:=by omega
 have d:e.when.length<=mg:=by simp only[bQ]at p;omega
 have st:∀(i:Nat) (x:cM) (l:M (M D)),nth e.when i=Z x->l.length<=mg->G 78 (cj x)=Z (0,cj x)/\aK .pl [E x.op,E x.num,.str x.text,.bool x.path.root,E x.path.nM]=Z (.bool J)/\
   aK (.mW 7 J) (cj x)=Z (.list 7 J [cj x])/\aK (.app 7 96) [.list 7 J l,.list 7 J [cj x]]=Z (.list 7 J (l++[cj x])):=by
  intro i x l c n;refine⟨q78 (hH p (bz c)).1,rfl,jf 7 _ (rL x) (by decide),eQ 7 96 J l [cj x] (by decide) (by simp only[mg,aE,aJ]at *;omega)⟩
 have n:=vH (b:=lB G D6) e.when (λe=>e) (λi=>(0,E (i:Int)::(bS e++[]++rS e))) (λi a=>(1,E (i:Int)::(bS e++[dm a]++rS e)))
  (0,E 0::.bool J::(bS e++[]++rS e)) (λa=>(1,E e.when.length::.bool J::(bS e++[dm a]++rS e))) (by
   intro x c;have f:=bF c;have m:=wj f d;obtain⟨k,o,j,g⟩:=st 0 x [] c (by simp);rw[br x]at k j g;simp only[go_sem,bn,D6,bS,rS,ai,f,aN,c,iu];simp only[go_sem,br x,k,o,j,g,m];simp[dm,br x]) (by
   intro i x c s;have f:=bF c;have m:=wj f d;obtain⟨k,o,j,g⟩:=st i x ((e.when.take i).map cj) c (by simp only[aj,bj];omega);rw[br x]at k j g;simp only[go_sem,bn,D6,bS,rS,ai,f,aN,c,iu,eX];simp only[go_sem,br x,k,o,j,g,m];simp[dm,br x]) (by
   intro h;simp only[go_sem,bn,D6,bS,rS,ai,h,cE,n0,iz]) (by
   intro h;simp only[go_sem,bn,D6,bS,rS,ai,aG,eX])
 rw[n0]at n;rw[n,eX]
theorem We{e:ah}{w:D}(r:fN (aB e)<=mg) :
  bK (lB G D7) (0,E 0::(bS e++[]++rS e))=Z (if e.iP.isEmpty=I then (0,E 0::.bool J::(bS e++[]++rS e)) else (1,E e.iP.length::.bool J::(bS e++[dm e.iP]++rS e))):=by
 have q:=r;rw[dN]at q;have p:bQ cj e.iP<=mg:=by omega
 have d:e.iP.length<=mg:=by simp only[bQ]at p;omega
 have st:∀(i:Nat) (x:cM) (l:M (M D)),nth e.iP i=Z x->l.length<=mg->G 78 (cj x)=Z (0,cj x)/\aK .pl [E x.op,E x.num,.str x.text,.bool x.path.root,E x.path.nM]=Z (.bool J)/\
   aK (.mW 7 J) (cj x)=Z (.list 7 J [cj x])/\aK (.app 7 96) [.list 7 J l,.list 7 J [cj x]]=Z (.list 7 J (l++[cj x])):=by
  intro i x l c n;refine⟨q78 (hH p (bz c)).1,rfl,jf 7 _ (rL x) (by decide),eQ 7 96 J l [cj x] (by decide) (by simp only[mg,aE,aJ]at *;omega)⟩
 have n:=vH (b:=lB G D7) e.iP (λe=>e) (λi=>(0,E (i:Int)::(bS e++[]++rS e))) (λi a=>(1,E (i:Int)::(bS e++[dm a]++rS e)))
  (0,E 0::.bool J::(bS e++[]++rS e)) (λa=>(1,E e.iP.length::.bool J::(bS e++[dm a]++rS e))) (by
   intro x c;have f:=bF c;have m:=wj f d;obtain⟨k,o,j,g⟩:=st 0 x [] c (by simp);rw[br x]at k j g;simp only[go_sem,bn,D7,bS,rS,ai,f,aN,c,iu];simp only[go_sem,br x,k,o,j,g,m];simp[dm,br x]) (by
   intro i x c s;have f:=bF c;have m:=wj f d;obtain⟨k,o,j,g⟩:=st i x ((e.iP.take i).map cj) c (by simp only[aj,bj];omega);rw[br x]at k j g;simp only[go_sem,bn,D7,bS,rS,ai,f,aN,c,iu,eX];simp only[go_sem,br x,k,o,j,g,m];simp[dm,br x]) (by
   intro h;simp only[go_sem,bn,D7,bS,rS,ai,h,cE,n0,iz]) (by
   intro h;simp only[go_sem,bn,D7,bS,rS,ai,aG,eX])
 rw[n0]at n;rw[n,eX]
theorem Wf{e:ah}{w:D}(r:fN (aB e)<=mg) :
  bK (lB G D8) (0,E 0::(bS e++[w]++rS e))=Z (if e.iP.isEmpty=I then (0,E 0::.bool J::(bS e++[w]++rS e)) else (1,E e.iP.length::.bool J::(bS e++[w,dm e.iP]++rS e))):=by
 have q:=r;rw[dN]at q;have p:bQ cj e.iP<=mg:=by omega
 have d:e.iP.length<=mg:=by simp only[bQ]at p;omega
 have st:∀(i:Nat) (x:cM) (l:M (M D)),nth e.iP i=Z x->l.length<=mg->G 78 (cj x)=Z (0,cj x)/\aK .pl [E x.op,E x.num,.str x.text,.bool x.path.root,E x.path.nM]=Z (.bool J)/\
   aK (.mW 7 J) (cj x)=Z (.list 7 J [cj x])/\aK (.app 7 96) [.list 7 J l,.list 7 J [cj x]]=Z (.list 7 J (l++[cj x])):=by
  intro i x l c n;refine⟨q78 (hH p (bz c)).1,rfl,jf 7 _ (rL x) (by decide),eQ 7 96 J l [cj x] (by decide) (by simp only[mg,aE,aJ]at *;omega)⟩
 have n:=vH (b:=lB G D8) e.iP (λe=>e) (λi=>(0,E (i:Int)::(bS e++[w]++rS e))) (λi a=>(1,E (i:Int)::(bS e++[w,dm a]++rS e)))
  (0,E 0::.bool J::(bS e++[w]++rS e)) (λa=>(1,E e.iP.length::.bool J::(bS e++[w,dm a]++rS e))) (by
   intro x c;have f:=bF c;have m:=wj f d;obtain⟨k,o,j,g⟩:=st 0 x [] c (by simp);rw[br x]at k j g;simp only[go_sem,bn,D8,bS,rS,ai,f,aN,c,iu];simp only[go_sem,br x,k,o,j,g,m];simp[dm,br x]) (by
   intro i x c s;have f:=bF c;have m:=wj f d;obtain⟨k,o,j,g⟩:=st i x ((e.iP.take i).map cj) c (by simp only[aj,bj];omega);rw[br x]at k j g;simp only[go_sem,bn,D8,bS,rS,ai,f,aN,c,iu,eX];simp only[go_sem,br x,k,o,j,g,m];simp[dm,br x]) (by
   intro h;simp only[go_sem,bn,D8,bS,rS,ai,h,cE,n0,iz]) (by
   intro h;simp only[go_sem,bn,D8,bS,rS,ai,aG,eX])
 rw[n0]at n;rw[n,eX]
theorem ah.gI(e:ah)(es:M ah):av e.ae < av (e::es):=by
 cases e;simp only[bo,ah.mk.sizeOf_spec];omega
theorem ah.ek(e:ah):av e.ae < av e:=by
 cases e;simp only[ah.mk.sizeOf_spec];omega
theorem oh(e:ah):(aB e).length=19:=by rw[ai];rfl
theorem ba(e:ah)(k:Nat)(a:Bool):aK (.has 19) [.list k a [aB e]]=Z (.bool J):=by
 rw[xQ,oh,if_pos (au 19)]
theorem jI(e:ah):bQ aB e.ae<=fN (aB e):=by rw[dN];omega
theorem Xb{e:ah}(b:fN (aB e)<=mg)(c:G 79 [az e.ae]=Z (0,[az e.ae])):G 80 (aB e)=Z (0,aB e):=by
 have i:=b;rw[dN]at i;have a:=q76 (t:=e.type) (by omega);rw[ef]at a;have o:=p6 e.type;have n:=eQ 1 16 I [] (e.bl.map fR) (by decide) (by simp only[bQ,mg,aj,aJ]at *;omega);have k:=eQ 1 16 I [] (e.unique.map fR) (by decide) (by simp only[bQ,mg,aj,aJ]at *;omega);have g:=Wd (e:=e) (w:=.bool J) b;have f:=We (e:=e) (w:=.bool J) b;have d:=Wf (e:=e) (w:=dm e.when) b;simp only[go_sem,bS,rS,ai]at g f d;refine dd t80 (by rw[ai];rfl) ?_;simp only[go_sem,t80,ai,a,n,k,cp];rw[g];cases h:e.when with
 |nil=>
  rw[h]at f g;simp only[go_sem,fS];rw[f];cases j:e.iP with
  |nil=>simp only[go_sem,fS,c];rfl
  |cons x l=>simp only[go_sem,ga,c];rfl
 |cons y m=>
  rw[h]at d;simp only[go_sem,ga];rw[d];cases j:e.iP with
  |nil=>simp only[go_sem,fS,c];rfl
  |cons x l=>simp only[go_sem,ga,c]
end
section
theorem plS(x:ah):aK .pl [E x.aw,.str x.name_q,E x.type.aw,.str x.type.pattern,.str x.type.path,.str x.default,.bool x.given,.bool x.fy,.bool x.cT,.bool x.fixed,E x.min,E x.max]=Z (.bool J):=(rfl)
theorem mkS(x:ah):aK (.mW 19 J) (aB x)=Z (.list 19 J [aB x]):=jf 19 _ (oh x) (by decide)
theorem afT(l:M (M D))(x:M D)(h:l.length<=mg):aK (.app 19 272) [.list 19 J l,.list 19 J [x]]=Z (.list 19 J (l++[x])):=
 eQ 19 272 J l [x] (by decide) (by simp only[mg,aE,aJ]at *;omega)
theorem ajp(n:Nat):∀l:M ah,av l < n->bQ aB l<=mg->G 79 [az l]=Z (0,[az l]):=by
 induction n with
 |zero=>intro l h;omega
 |succ n q=>
  intro l t g;have d:l.length<=mg:=by simp only[bQ]at g;omega
  refine dd t79 rfl ?_;simp only[go_sem,t79];have j:=fM (b:=lB G Lt) l (λi (a:M ah)=>(0,[az l,E (i:Int),az a])) (λi=>l.take i) (0,[az l,E l.length,.bool J,az l]) (by
   intro i x c;have k:=bF c;have r:=wj k d;have f:fN (aB x)<=mg:=(hH g (bz c)).1;have s:=q x.ae (by have:=aX (bz c);have:=ah.ek x;omega) (aL (jI x) f);have e:=Xb f s;have o:=mkS x;have m:=afT ((l.take i).map aB) (aB x) (by simp only[aj,bj];omega);rw[ai x]at e o m;simp only[go_sem,bn,Lt,k,aN,c,ba];simp only[go_sem,ai x,e,plS,o,m,r,cx _ _ _ c];simp[az,ai x]) (by simp only[go_sem,bn,Lt,aG,bN]) l.length 0 (by omega)
  rw[n0,dw]at j;have p:bK (lB G Lt) (0,[az l,E 0,.list 19 J []])=_:=j;rw[p];simp only[go_sem]
theorem q79{l:M ah}(a:bQ aB l<=mg):G 79 [az l]=Z (0,[az l]):=ajp _ l (aY _) a
theorem q80{e:ah}(a:fN (aB e)<=mg):G 80 (aB e)=Z (0,aB e):=Xb a (q79 (aL (jI e) a))
def mc(k:Int):Bool:=fG 1 4 k
def oH(k:Int):Bool:=Z' (k=5) ||decide (k=6)
theorem q75(k:Int):G 75 [E k]=Z (0,[.bool (mc k)]):=by
 refine dd t75 rfl ?_;simp only[go_sem,t75,l9,mc]
theorem zO(k:Int):G 92 [E k]=Z (0,[.bool (mc k)]):=by
 have h:mc k=(Z' (k=1) ||decide (k=2) ||decide (k=3) ||decide (k=4)):=by
  rw[dL];simp[mc,fG];omega
 refine dd t92 rfl ?_;simp only[go_sem,t92]
 repeat' (first|with_reducible rfl|((first|rw[gx]|rw[gB]|rw[gu]|rw[gA]);split<;>simp only[go_sem, *]))
 all_goals simp_all
def dk:M ah->M ah
 |[]=>[]
 |e::es=>(if mc e.aw=I then [e] else if oH e.aw=I then dk e.ae else [])++dk es
termination_by es=>av es
decreasing_by
 ·exact ah.gI e es
 ·simp only[bo];omega
def uI(e:ah):M ah:=if mc e.aw=I then [e] else if oH e.aw=I then dk e.ae else []
theorem nb(e:ah)(es:M ah):dk (e::es)=uI e++dk es:=by rw[dk];rfl
theorem sN:dk []=[]:=by rw[dk]
theorem UG:∀(a b:M ah),dk (a++b)=dk a++dk b
 |[],b=>by rw[sN];rfl
 |e::a,b=>by rw[aq,nb,nb,UG a b,bE]
theorem Ck(a:M ah)(e:ah):dk (a++[e])=dk a++uI e:=by rw[UG,nb,sN,aQ]
theorem ago(n:Nat):∀(es:M ah),av es < n->bQ aB (dk es)<=bQ aB es:=by
 induction n with
 |zero=>intro es h;omega
 |succ n a=>
  intro es h;cases es with
  |nil=>rw[sN];exact au _
  |cons e es=>
   have d:=a es (by simp only[bo]at h;omega);have c:=a e.ae (by have:=ah.gI e es;omega);rw[nb,hY,fJ];have b:bQ aB (uI e)<=fN (aB e)+1:=by
    unfold uI;split
    ·rw[fJ];simp[bQ,nG]
    ·split
     ·have:=jI e;omega
     ·simp[bQ,nG]
   omega
theorem nH{es:M ah}:bQ aB (dk es)<=bQ aB es:=ago _ es (aY _)
theorem Cm{es:M ah}(i:Nat)(a:bQ aB es<=mg):(dk (es.take i)).length<=mg:=by
 have c:=nH (es:=es.take i);have b:=XQ aB es i;simp only[bQ]at *;omega
theorem ab3{k:Int}(h:mc k=I):oH k=J/\¬k=5/\¬k=6:=by
 have:=(gG _ _ _).1 h;have b:¬k=5:=by omega
 have a:¬k=6:=by omega
 exact⟨by simp[oH,b,a],b,a⟩
theorem ajq(n:Nat):∀l:M ah,av l < n->bQ aB l<=mg->G 81 [az l]=Z (0,[az (dk l)]):=by
 induction n with
 |zero=>intro l h;omega
 |succ n A=>
  intro l C p;have j:l.length<=mg:=by simp only[bQ]at p;omega
  refine dd t81 rfl ?_;simp only[go_sem,t81];have s:=fM (b:=lB G BE) l (λi (a:M ah)=>(0,[az l,E (i:Int),az a])) (λi=>dk (l.take i)) (0,[az l,E l.length,.bool J,az (dk l)]) (by
   intro i x c;have k:=bF c;have o:=wj k j;have r:fN (aB x)<=mg:=(hH p (bz c)).1;have B:=aL (jI x) r;have w:=Cm i p;have q:=Cm (i+1) p;rw[cx _ _ _ c,Ck]at q;rw[cx _ _ _ c,Ck];cases hd:mc x.aw with
   |true=>
    obtain⟨D,e,d⟩:=ab3 hd;have m:=q80 r;have t:=mkS x;have g:=afT ((dk (l.take i)).map aB) (aB x) (by rw[aj];exact w);have f:uI x=[x]:=by rw[uI,if_pos hd]
    rw[ai x]at m t g;rw[f];simp only[go_sem,bn,BE,k,aN,c,ba];simp only[go_sem,ai x,q75,hd];simp only[go_sem,ai x,c,ba,aN,m,plS,t,g,e,d,o];simp[az,ai x]
   |false=>
    have v:=A x.ae (by have:=aX (bz c);have:=ah.ek x;omega) B;by_cases e:x.aw=5
    ·have f:uI x=dk x.ae:=by rw[uI,if_neg (by rw[hd];simp),if_pos (by simp[oH,e])]
     rw[f]at q ⊢;have g:=eQ 19 272 J ((dk (l.take i)).map aB) ((dk x.ae).map aB) (by decide) (by simp only[mg,aj,aR]at *;omega);rw[e]at hd;simp only[go_sem,bn,BE,k,aN,c,ba];simp only[go_sem,ai x,q75,hd,e];simp only[go_sem,ai x,c,aN,e,v,g,o];simp[az]
    ·by_cases d:x.aw=6
     ·have f:uI x=dk x.ae:=by rw[uI,if_neg (by rw[hd];simp),if_pos (by simp[oH,d])]
      rw[f]at q ⊢;have g:=eQ 19 272 J ((dk (l.take i)).map aB) ((dk x.ae).map aB) (by decide) (by simp only[mg,aj,aR]at *;omega);rw[d]at hd;simp only[go_sem,bn,BE,k,aN,c,ba];simp only[go_sem,ai x,q75,hd,d];simp only[go_sem,ai x,c,aN,d,v,g,o];simp[az]
     ·have f:uI x=[]:=by rw[uI,if_neg (by rw[hd];simp),if_neg (by simp[oH,e,d])]
      rw[f,aQ];simp only[go_sem,bn,BE,k,aN,c,ba];simp only[go_sem,ai x,q75,hd];simp only[go_sem,ai x,c,aN,e,d,o]) (by simp only[go_sem,bn,BE,aG,bN]) l.length 0 (by omega)
  rw[n0,dw,sN]at s;have y:bK (lB G BE) (0,[az l,E 0,.list 19 J []])=_:=s;rw[y];simp only[go_sem]
theorem q81{l:M ah}(a:bQ aB l<=mg):G 81 [az l]=Z (0,[az (dk l)]):=ajq _ l (aY _) a
end
section
def Ab(c:Bool)(l:M ah):M Bool:=match l with
 |[]=>[]
 |e::es=>(if mc e.aw=I then [c] else if oH e.aw=I then Ab (c ||decide (e.aw=6)) e.ae else [])++Ab c es
termination_by av l
decreasing_by
 ·exact ah.gI e es
 ·simp only[bo];omega
def uJ(c:Bool)(e:ah):M Bool:=if mc e.aw=I then [c] else if oH e.aw=I then Ab (c ||decide (e.aw=6)) e.ae else []
theorem uK(c:Bool)(e:ah)(es:M ah):Ab c (e::es)=uJ c e++Ab c es:=by rw[Ab];rfl
theorem Cj(c:Bool):Ab c []=[]:=by rw[Ab]
theorem KC(c:Bool)(e:ah):∀(a:M ah),Ab c (a++[e])=Ab c a++uJ c e
 |[]=>by rw[ay,uK,Cj];simp
 |x::a=>by rw[aq,uK,uK,KC c e a,bE]
theorem Y8(n:Nat):∀(c:Bool) (l:M ah),av l < n->(Ab c l).length=(dk l).length:=by
 induction n with
 |zero=>intro c l h;omega
 |succ n a=>
  intro c l h;cases l with
  |nil=>rw[Cj,sN];rfl
  |cons e es=>
   rw[uK,nb,aR,aR,a c es (by simp only[bo]at h;omega)]
   congr 1
   unfold uJ uI;split
   ·rfl
   ·split
    ·exact a _ e.ae (by have:=ah.gI e es;omega)
    ·rfl
theorem Ac(c:Bool)(l:M ah):(Ab c l).length=(dk l).length:=Y8 _ c l (aY _)
def kE{a:Type}(l:M a):Nat:=if l.isEmpty=I then 0 else 1
theorem alN(x:ah):aK .LJ (aB x)=Z (.bool J):=by rw[ai];rfl
theorem gH{a:Type}:kE ([]:M a)=0:=(rfl)
theorem qO{a:Type}(l m:M a)(h:m≠[]):kE (l++m)=1:=by
 unfold kE;rw[if_neg];cases l<;>cases m<;>simp_all
theorem iU{a:Type}{l:M a}(h:l≠[]):kE l=1:=by simpa using qO [] l h
theorem afW(a b:M ah)(h:a.length+b.length<=mg):aK (.app 19 272) [az a,az b]=Z (az (a++b)):=by
 have:=eQ 19 272 J (a.map aB) (b.map aB) (by decide) (by simp only[mg,aj]at *;omega);rw[<- bR]at this;exact this
theorem afP(a b:M Bool)(h:a.length+b.length<=mg):aK (.app 1 1) [bu a,bu b]=Z (bu (a++b)):=by
 have:=eQ 1 1 I (a.map Bn) (b.map Bn) (by decide) (by simp only[mg,aj]at *;omega);rw[<- bR]at this;exact this
theorem mkB(c:Bool):aK (.mW 1 I) [.bool c]=Z (bu [c]):=by simp[aK,chunk,cD,D.plain,Bn,bu]
theorem aju(n:Nat):∀(l:M ah) (c:Bool),av l < n->bQ aB l<=mg->G 93 [az l,.bool c]=Z (kE (dk l),[az (dk l),bu (Ab c l)]):=by
 induction n with
 |zero=>intro l c h;omega
 |succ n H=>
  intro l c Y K;have D:l.length<=mg:=by simp only[bQ]at K;omega
  refine dd t93 rfl ?_;simp only[go_sem,t93];have S:=fM (b:=lB G kW) l (λi (a:M ah×M Bool)=>(kE a.1,[.bool c,az l,E l.length,E (i:Int),az a.1,bu a.2])) (λi=>(dk (l.take i),Ab c (l.take i)))
   (kE (dk l),[.bool c,az l,E l.length,E l.length,.bool J,az (dk l),bu (Ab c l)]) (by
   intro i x g;have k:=bF g;have m:=wj k D;have U:fN (aB x)<=mg:=(hH K (bz g)).1;have L:=aL (jI x) U;have X:=Cm i K;have F:=Cm (i+1) K;have Q:=Ac c (l.take i);rw[cx _ _ _ g,Ck]at F;rw[cx _ _ _ g,Ck,KC];have v:dk (l.take i)=[]->Ab c (l.take i)=[]:=λh=>cG.1 (by rw[Q,h];rfl);have P:(uJ c x).length=(uI x).length:=by
    have t:=Ac c [x];rw[uK,Cj,nb,sN]at t
    simpa using t
   have j:=afW (dk (l.take i)) (uI x) (by rw[aR]at F;exact F);have hB:=afP (Ab c (l.take i)) (uJ c x) (by rw[Q,P];rw[aR]at F;exact F);have R:=mkB c;have B:=mkS x;have A:=alN x;rw[ai x]at B A;generalize W:dk (l.take i)=a at *;generalize V:Ab c (l.take i)=f at *;cases hd:mc x.aw with
   |true=>
    have t:uI x=[x]:=by rw[uI,if_pos hd]
    have s:uJ c x=[c]:=by rw[uJ,if_pos hd]
    rw[t]at j ⊢;rw[s]at hB ⊢;have C:aK (.app 19 272) [az a,.list 19 J [aB x]]=Z (az (a++[x])):=j;rw[ai x]at C;rw[qO a [x] (by simp)];cases a with
    |nil=>
     have q:=v rfl;subst q;simp only[go_sem,bn,kW,gH,k,aN,g,ba];simp only[go_sem,ai x,zO,hd,A,B,C,R,hB,m]
    |cons y a=>
     simp only[go_sem,bn,kW,iU (bM y a),k,aN,g,ba];simp only[go_sem,ai x,zO,hd,A,B,C,R,hB,m]
   |false=>
    have N:=hd;by_cases p:x.aw=6
    ·have t:uI x=dk x.ae:=by rw[uI,if_neg (by rw[hd];simp),if_pos (by simp[oH,p])]
     have o:¬x.aw=5:=by omega
     rw[t]at j ⊢;rw[p]at hd;cases c with
     |true=>
      have e:=H x.ae I (by have:=aX (bz g);have:=ah.ek x;omega) L;have s:uJ I x=Ab I x.ae:=by rw[uJ,if_neg (by rw[N];simp),if_pos (by simp[oH,p])];simp[p]
      rw[s]at hB ⊢;cases r:dk x.ae with
      |nil=>
       rw[r]at e j;have w:Ab I x.ae=[]:=cG.1 (by rw[Ac,r];rfl);rw[w]at e hB ⊢;cases a with
       |nil=>
        have q:=v rfl;subst q;rw[aQ,aQ];simp only[go_sem,bn,kW,gH,gH,k,aN,g,ba];simp only[go_sem,ai x,zO,hd,p,e,gH,j,hB,m,aQ]
       |cons y a=>
        rw[aQ,aQ];simp only[go_sem,bn,kW,iU (bM y a),gH,k,aN,g,ba];simp only[go_sem,ai x,zO,hd,p,e,gH,j,hB,m,aQ]
      |cons d b=>
       rw[r]at e j;cases a with
       |nil=>
        have q:=v rfl;subst q;rw[qO _ (d::b) (by simp)];simp only[go_sem,bn,kW,gH,iU (bM d b),k,aN,g,ba];simp only[go_sem,ai x,zO,hd,p,e,iU (bM d b),j,hB,m,aQ]
       |cons y a=>
        rw[qO _ (d::b) (by simp)];simp only[go_sem,bn,kW,iU (bM y a),iU (bM d b),k,aN,g,ba];simp only[go_sem,ai x,zO,hd,p,e,iU (bM d b),j,hB,m,aQ]
     |false=>
      have e:=H x.ae I (by have:=aX (bz g);have:=ah.ek x;omega) L;have s:uJ J x=Ab I x.ae:=by rw[uJ,if_neg (by rw[N];simp),if_pos (by simp[oH,p])];simp[p]
      rw[s]at hB ⊢;cases r:dk x.ae with
      |nil=>
       rw[r]at e j;have w:Ab I x.ae=[]:=cG.1 (by rw[Ac,r];rfl);rw[w]at e hB ⊢;cases a with
       |nil=>
        have q:=v rfl;subst q;rw[aQ,aQ];simp only[go_sem,bn,kW,gH,gH,k,aN,g,ba];simp only[go_sem,ai x,zO,hd,p,e,gH,j,hB,m,aQ]
       |cons y a=>
        rw[aQ,aQ];simp only[go_sem,bn,kW,iU (bM y a),gH,k,aN,g,ba];simp only[go_sem,ai x,zO,hd,p,e,gH,j,hB,m,aQ]
      |cons d b=>
       rw[r]at e j;cases a with
       |nil=>
        have q:=v rfl;subst q;rw[qO _ (d::b) (by simp)];simp only[go_sem,bn,kW,gH,iU (bM d b),k,aN,g,ba];simp only[go_sem,ai x,zO,hd,p,e,iU (bM d b),j,hB,m,aQ]
       |cons y a=>
        rw[qO _ (d::b) (by simp)];simp only[go_sem,bn,kW,iU (bM y a),iU (bM d b),k,aN,g,ba];simp only[go_sem,ai x,zO,hd,p,e,iU (bM d b),j,hB,m,aQ]
    ·by_cases o:x.aw=5
     ·have t:uI x=dk x.ae:=by rw[uI,if_neg (by rw[hd];simp),if_pos (by simp[oH,o])]
      rw[t]at j ⊢;rw[o]at hd;cases c with
      |true=>
       have e:=H x.ae I (by have:=aX (bz g);have:=ah.ek x;omega) L;have s:uJ I x=Ab I x.ae:=by rw[uJ,if_neg (by rw[N];simp),if_pos (by simp[oH,o])];simp[o]
       rw[s]at hB ⊢;cases r:dk x.ae with
       |nil=>
        rw[r]at e j;have w:Ab I x.ae=[]:=cG.1 (by rw[Ac,r];rfl);rw[w]at e hB ⊢;cases a with
        |nil=>
         have q:=v rfl;subst q;rw[aQ,aQ];simp only[go_sem,bn,kW,gH,gH,k,aN,g,ba];simp only[go_sem,ai x,zO,hd,o,e,gH,j,hB,m,aQ]
        |cons y a=>
         rw[aQ,aQ];simp only[go_sem,bn,kW,iU (bM y a),gH,k,aN,g,ba];simp only[go_sem,ai x,zO,hd,o,e,gH,j,hB,m,aQ]
       |cons d b=>
        rw[r]at e j;cases a with
        |nil=>
         have q:=v rfl;subst q;rw[qO _ (d::b) (by simp)];simp only[go_sem,bn,kW,gH,iU (bM d b),k,aN,g,ba];simp only[go_sem,ai x,zO,hd,o,e,iU (bM d b),j,hB,m,aQ]
        |cons y a=>
         rw[qO _ (d::b) (by simp)];simp only[go_sem,bn,kW,iU (bM y a),iU (bM d b),k,aN,g,ba];simp only[go_sem,ai x,zO,hd,o,e,iU (bM d b),j,hB,m,aQ]
      |false=>
       have e:=H x.ae J (by have:=aX (bz g);have:=ah.ek x;omega) L;have s:uJ J x=Ab J x.ae:=by rw[uJ,if_neg (by rw[N];simp),if_pos (by simp[oH,o])];simp[o]
       rw[s]at hB ⊢;cases r:dk x.ae with
       |nil=>
        rw[r]at e j;have w:Ab J x.ae=[]:=cG.1 (by rw[Ac,r];rfl);rw[w]at e hB ⊢;cases a with
        |nil=>
         have q:=v rfl;subst q;rw[aQ,aQ];simp only[go_sem,bn,kW,gH,gH,k,aN,g,ba];simp only[go_sem,ai x,zO,hd,o,e,gH,j,hB,m,aQ]
        |cons y a=>
         rw[aQ,aQ];simp only[go_sem,bn,kW,iU (bM y a),gH,k,aN,g,ba];simp only[go_sem,ai x,zO,hd,o,e,gH,j,hB,m,aQ]
       |cons d b=>
        rw[r]at e j;cases a with
        |nil=>
         have q:=v rfl;subst q;rw[qO _ (d::b) (by simp)];simp only[go_sem,bn,kW,gH,iU (bM d b),k,aN,g,ba];simp only[go_sem,ai x,zO,hd,o,e,iU (bM d b),j,hB,m,aQ]
        |cons y a=>
         rw[qO _ (d::b) (by simp)];simp only[go_sem,bn,kW,iU (bM y a),iU (bM d b),k,aN,g,ba];simp only[go_sem,ai x,zO,hd,o,e,iU (bM d b),j,hB,m,aQ]
     ·have t:uI x=[]:=by rw[uI,if_neg (by rw[hd];simp),if_neg (by simp[oH,o,p])]
      have s:uJ c x=[]:=by rw[uJ,if_neg (by rw[hd];simp),if_neg (by simp[oH,o,p])]
      rw[t,s,aQ,aQ];cases a with
      |nil=>
       simp only[go_sem,bn,kW,gH,k,aN,g,ba];simp only[go_sem,ai x,zO,hd,o,p,m]
      |cons y a=>
       simp only[go_sem,bn,kW,iU (bM y a),k,aN,g,ba];simp only[go_sem,ai x,zO,hd,o,p,m]) (by
   rw[bN];cases hd:dk l with
   |nil=>simp only[go_sem,bn,kW,gH,aG]
   |cons y a=>simp only[go_sem,bn,kW,iU (bM y a),aG]) l.length 0 (by omega)
  rw[n0,dw,sN,Cj]at S;have T:bK (lB G kW) (0,[.bool c,az l,E l.length,E 0,.list 19 J [],.list 1 I []])=_:=S;rw[T];cases hd:dk l with
  |nil=>simp only[go_sem,gH]
  |cons y a=>simp only[go_sem,iU (bM y a)]
theorem q93{l:M ah}{c:Bool}(a:bQ aB l<=mg):G 93 [az l,.bool c]=Z (kE (dk l),[az (dk l),bu (Ab c l)]):=aju _ l c (aY _) a
theorem q94{l:M ah}(b:bQ aB l<=mg):G 94 [az l]=Z (kE (dk l),[az (dk l)]):=by
 have h:=q93 (c:=J) b;refine dd t94 rfl ?_;cases hd:dk l with
 |nil=>rw[hd]at h;simp only[go_sem,t94,h,gH]
 |cons y a=>rw[hd]at h;simp only[go_sem,t94,h,iU (bM y a)]
end
section
def dh(l:M ah)(a:z):u Nat:=nZ (λe=>Z' (e.name_q=a)) l 0
theorem Xc{l:M ah}{nm:z}(hlen:l.length<=mg):G 82 [az l,.str nm]=Z (0,[E (jG (dh l nm))]):=by
 refine dd t82 rfl ?_;simp only[go_sem,t82];have c:=pK (b:=lB G PU) l (λi=>(0,[az l,.str nm,E (i:Int)])) (λe=>Z' (e.name_q=nm)) (1,[az l,.str nm,E l.length,.bool J]) (λi e=>(0,[E (i:Int)])) (by
  intro i e a;have d:=bF a;have f:=wj d hlen;simp only[go_sem,bn,PU,d,aN,a,ai];cases h:Z' (e.name_q=nm)<;>simp only[go_sem,h,f]) (by simp only[go_sem,bn,PU,aG])
 rw[n0]at c;rw[c];unfold dh;cases g:nZ (λe=>Z' (e.name_q=nm)) l 0 with
 |none=>simp only[go_sem,jG]
 |some j=>
  obtain⟨e,k,m⟩:=dy g;simp only[go_sem,k,jG]
theorem q95{l:M ah}(hlen:l.length<=mg):G 95 [az l]=Z (0,[aO (l.map ah.name_q)]):=by
 refine dd t95 rfl ?_;simp only[go_sem,t95];have f:=fM (b:=lB G Lu) l (λi (a:M z)=>(0,[az l,E l.length,E (i:Int),aO a])) (λi=>(l.take i).map ah.name_q) (0,[az l,E l.length,E l.length,.bool J,aO (l.map ah.name_q)]) (by
  intro i e c;have g:=bF c;have k:=wj g hlen;have m:aK (.app 1 16) [aO ((l.take i).map ah.name_q),.list 1 I [[.str e.name_q]]]=Z (aO ((l.take (i+1)).map ah.name_q)):=by
   have h:=eQ 1 16 I (((l.take i).map ah.name_q).map fR) [[.str e.name_q]] (by decide) (by simp only[mg,aj,bj,aE,aJ]at *;omega);rw[h,yX c];simp[fR]
  have d:aK (.mW 1 I) [.str e.name_q]=Z (.list 1 I [[.str e.name_q]]):=by simp[aK,chunk,cD,D.plain]
  simp only[go_sem,bn,Lu,g,aN,c,ba];simp only[go_sem,ai e,d,m,k]) (by simp only[go_sem,bn,Lu,aG,bN]) l.length 0 (by omega)
 rw[n0,dw]at f;have j:bK (lB G Lu) (0,[az l,E l.length,E 0,.list 1 I []])=_:=f;rw[j];simp only[go_sem]
theorem ZY{l:M z}{e:z}{k:Nat}(a:nth l k=Z e)(hlen:l.length<=mg) :
  bK (lB G AB) (0,[aO l,E (k:Int),E 0])=Z (if (l.take k).all (λx=>!Z' (x=e))=I then (1,[aO l,E (k:Int),E (k:Int),.bool J]) else (0,[.bool J])):=by
 have h:=bF a;have c:=o7 (b:=lB G AB) (λj=>(0,[aO l,E (k:Int),E (j:Int)])) (atB (λx=>!Z' (x=e)) l) k (1,[aO l,E (k:Int),E (k:Int),.bool J]) (0,[.bool J]) (by
  intro j d;have a1:=dV (l:=l) (i:=j) (by omega);have f:=wj (i:=j) (n:=k) d (by omega);generalize l[j]'(by omega)=x at a1;simp only[go_sem,bn,AB,d,aN,a,a1,fR,atB];cases g:Z' (x=e)<;>simp only[go_sem,g,f]) (by simp only[go_sem,bn,AB,aG]) k 0 (by omega)
 rw[n0]at c;rw[c,yg _ l k 0 (by omega),cK]
def vh(l:M z):Bool:=sM l && Z' (l.length<=3)
theorem Y7(l:M z):sM l=allI (λk e=>(l.take k).all λx=>!Z' (x=e)) 0 l:=by
 rw[sM]
 congr 1
 funext i e
 rw[Lg,aI]
theorem aiN{l:M z}(hlen:l.length<=mg):G 212 [aO l]=Z (0,[.bool (vh l)]):=by
 refine dd t212 rfl ?_;simp only[go_sem,t212];have c:=n6 (b:=lB G IG) l (λk=>(0,[aO l,E (k:Int)])) (λk e=>(l.take k).all λx=>!Z' (x=e)) (1,[aO l,E l.length,.bool J]) (0,[.bool J]) (by
  intro k e a;have d:=bF a;have f:=wj d hlen;simp only[go_sem,bn,IG,d,ZY a hlen];cases g:(l.take k).all (λx=>!Z' (x=e))<;>simp only[go_sem,g,f]) (by simp only[go_sem,bn,IG,aG]) l.length 0 (by omega)
 rw[n0,cK]at c;rw[c,vh,Y7];cases allI (λk e=>(l.take k).all λx=>!Z' (x=e)) 0 l<;>simp only[go_sem,adR]
def mH(e:ah):Bool:=fG 0 1000000000 e.min && (Z' (e.max=0) ||fG e.min 1000000000 e.max)
theorem aiO(e:ah):G 213 (aB e)=Z (0,[.bool (mH e)]):=by
 refine dd t213 (by rw[ai];rfl) ?_;simp only[go_sem,t213,ai,l9]
 repeat' (first|with_reducible rfl|((first|rw[gx]|rw[gB]|rw[gu]|rw[gA]);split<;>simp only[go_sem,l9, *]))
 all_goals simp_all[mH]
theorem S5(e:ah):mH e=(Z' (0<=e.min) && (Z' (e.min<=1000000000) && (Z' (0<=e.max) && (Z' (e.max<=1000000000) && (Z' (e.max=0) ||decide (e.min<=e.max)))))):=by
 rw[dL];simp only[mH,fG,af,dr,decide_eq_true_eq];omega
theorem amy(e:ah):G 272 (aB e)=Z (0,[.bool (mH e)]):=by
 rw[S5];refine dd t272 (by rw[ai];rfl) ?_;simp only[go_sem,t272,ai]
 repeat' (first|with_reducible rfl|((first|rw[gx]|rw[gB]|rw[gu]|rw[gA]);split<;>simp only[go_sem, *]))
 all_goals simp_all
end
section
def eA:M ah->Nat
 |[]=>0
 |e::es=>1+eA e.ae+eA es
termination_by es=>av es
decreasing_by
 ·exact ah.gI e es
 ·simp only[bo];omega
def eZ:M ah->Nat
 |[]=>0
 |e::es=>eA e.ae+eZ es
theorem qp:∀(l:M ah),eA l=l.length+eZ l
 |[]=>by rw[eA];rfl
 |e::l=>by rw[eA,qp l,eZ,aE];omega
theorem qH(e:ah):∀(l:M ah),eZ (l++[e])=eZ l+eA e.ae
 |[]=>by simp[eZ]
 |x::l=>by rw[aq,eZ,eZ,qH e l];omega
theorem Fz(l:M ah)(i:Nat):eZ l=eZ (l.take i)+eZ (l.drop i):=by
 have app:∀(a b:M ah),eZ (a++b)=eZ a+eZ b:=by
  intro a
  induction a with
  |nil=>intro b;simp[eZ]
  |cons x a c=>intro b;rw[aq,eZ,eZ,c b];omega
 rw[<- app,bh]
theorem Ku(n:Nat):∀(l:M ah),av l < n->eA l<=bQ aB l:=by
 induction n with
 |zero=>intro l h;omega
 |succ n a=>
  intro l h;cases l with
  |nil=>rw[eA];omega
  |cons e l=>
   have c:=a l (by simp only[bo]at h;omega);have b:=a e.ae (by have:=ah.gI e l;omega);rw[eA,fJ];have:=jI e;omega
theorem Kv{l:M ah}:eA l<=bQ aB l:=Ku _ l (aY _)
theorem aeF(n:Nat):∀l:M ah,av l < n->bQ aB l<=mg->G 255 [az l]=Z (0,[E (eA l)]):=by
 induction n with
 |zero=>intro l h;omega
 |succ n g=>
  intro l t d;have c:l.length<=mg:=by simp only[bQ]at d;omega
  refine dd t255 rfl ?_;simp only[go_sem,t255];have e:=fM (b:=lB G IP) l (λi (m:Nat)=>(0,[E (m:Int),az l,E l.length,E (i:Int)])) (λi=>l.length+eZ (l.take i)) (0,[E (eA l),az l,E l.length,E l.length,.bool J]) (by
   intro i x a;have f:=bF a;have k:=wj f c;have j:=(hH d (bz a)).1;have o:=aL (jI x) j;have s:=g x.ae (by have:=aX (bz a);have:=ah.ek x;omega) o;have r:=Fz l (i+1);have q:=Kv (l:=l);rw[qp]at q;rw[cx _ _ _ a,qH]at r;have p:IntKind.i64.wrap (((l.length+eZ (l.take i):Nat):Int)+(eA x.ae:Int))=((l.length+(eZ (l.take i)+eA x.ae):Nat):Int):=by rw[wrap_i64 (by simp only[mg]at d;omega)];omega
   rw[cx _ _ _ a,qH];simp only[go_sem,bn,IP,f,aN,a,ba];simp only[go_sem,ai x,s,p,k]) (by
   rw[bN,qp];simp only[go_sem,bn,IP,aG]) l.length 0 (by omega)
  rw[n0,dw,eZ,eu]at e;rw[e];simp only[go_sem]
theorem amp{l:M ah}(a:bQ aB l<=mg):G 255 [az l]=Z (0,[E (eA l)]):=aeF _ l (aY _) a
def vA(l:M ah)(x r:Int):Prop:=((eA l:Int)<=x->r=x - eA l)/\(x < (eA l:Int)->r < 0)/\-33554432<=r
theorem aet(n:Nat):∀(l:M ah) (x:Int),av l < n->bQ aB l<=mg->0<=x->x<=1048576->∃r,G 201 [az l,E x]=Z (0,[E r])/\vA l x r:=by
 induction n with
 |zero=>intro l x h;omega
 |succ n B=>
  intro l x K v N L;have b:l.length<=mg:=by simp only[bQ]at v;omega
  have p:IntKind.i64.wrap (x - (l.length:Int))=x - l.length:=wrap_i64 (by simp only[mg]at b;omega);have loop:∀m i (y:Int),i+m=l.length->-33554432<=y->y<=1048576->∃(r a:Int),bK (lB G DH) (0,[az l,E y,E (i:Int)])=Z (0,[az l,E r,E a,.bool J])/\(0<=y->(eZ (l.drop i):Int)<=y->r=y - eZ (l.drop i))/\(y < 0\/y < (eZ (l.drop i):Int)->r < 0)/\-33554432<=r:=by
   intro m
   induction m with
   |zero=>
    intro i y D A w;obtain rfl:i=l.length:=by omega
    refine⟨y,l.length,aF (by simp only[go_sem,bn,DH,aG]),?_⟩;rw[fC];simp only[eZ];omega
   |succ m o=>
    intro i y D A w;have c:i < l.length:=by omega
    have a1:=dV (l:=l) (i:=i) c;have hd:=ig l i _ a1;generalize l[i]'c=e at a1 hd;by_cases f:0<=y
    ·have s:=bz a1;have H:=aL (jI e) (hH v s).1;obtain⟨t,g1,g2,g3,g4⟩:=B e.ae y (by have:=aX s;have:=ah.ek e;omega) H f w;have F:t<=1048576:=by
      by_cases q:(eA e.ae:Int)<=y
      ·have:=g2 q;omega
      ·have:=g3 (by omega);omega
     obtain⟨r,a,k,j,d,g⟩:=o (i+1) t (by omega) g4 F;have C:=wj c b;refine⟨r,a,?_,?_⟩
     ·rw[<- k];refine bB ?_;simp only[go_sem,bn,DH,c,aN,a1,f];simp only[go_sem,ai e,g1,C]
     ·rw[hd,eZ];refine⟨λ_ h=>?_,λh=>?_,g⟩
      ·have:=g2 (by omega);have:=j (by omega) (by omega);omega
      ·by_cases q:(eA e.ae:Int)<=y
       ·have:=g2 q;exact d (by omega)
       ·have:=g3 (by omega);exact d (.inl this)
    ·refine⟨y,i,aF (by simp only[go_sem,bn,DH,c,f]),λh=>absurd h f,λ_=>by omega,A⟩
  obtain⟨r,a,k,j,d,g⟩:=loop l.length 0 (x - l.length) (by omega) (by simp only[mg]at b;omega) (by omega);rw[n0,cK]at *;refine⟨r,dd t201 rfl ?_,?_⟩
  ·simp only[go_sem,t201,p,k]
  ·unfold vA;rw[qp];refine⟨λh=>?_,λh=>?_,g⟩
   ·have:=j (by omega) (by omega);omega
   ·exact d (by omega)
theorem al4{l:M ah}{x:Int}(b:bQ aB l<=mg)(c:0<=x)(a:x<=1048576):∃r,G 201 [az l,E x]=Z (0,[E r])/\vA l x r:=aet _ l x (aY _) b c a
theorem aD.gI(e:aD)(es:M aD):av e.ae < av (e::es):=by
 cases e;simp only[bo,aD.mk.sizeOf_spec];omega
theorem aD.ek(e:aD):av e.ae < av e:=by
 cases e;simp only[aD.mk.sizeOf_spec];omega
theorem Ro(e:aD):(bp e).length=3:=by rw[aT];rfl
theorem cR(e:aD)(k:Nat)(a:Bool):aK (.has 3) [.list k a [bp e]]=Z (.bool J):=by
 rw[xQ,Ro,if_pos (au 3)]
theorem yZ(e:aD):bQ bp e.ae<=fN (bp e):=by rw[jJ];omega
def ez:M aD->Nat
 |[]=>0
 |e::es=>1+ez e.ae+ez es
termination_by es=>av es
decreasing_by
 ·exact aD.gI e es
 ·simp only[bo];omega
def ic:M aD->Nat
 |[]=>0
 |e::es=>ez e.ae+ic es
theorem vE:∀(l:M aD),ez l=l.length+ic l
 |[]=>by rw[ez];rfl
 |e::l=>by rw[ez,vE l,ic,aE];omega
theorem uB(e:aD):∀(l:M aD),ic (l++[e])=ic l+ez e.ae
 |[]=>by simp[ic]
 |x::l=>by rw[aq,ic,ic,uB e l];omega
theorem Kg(l:M aD)(i:Nat):ic l=ic (l.take i)+ic (l.drop i):=by
 have app:∀(a b:M aD),ic (a++b)=ic a+ic b:=by
  intro a
  induction a with
  |nil=>intro b;simp[ic]
  |cons x a c=>intro b;rw[aq,ic,ic,c b];omega
 rw[<- app,bh]
theorem Rj(n:Nat):∀(l:M aD),av l < n->ez l<=bQ bp l:=by
 induction n with
 |zero=>intro l h;omega
 |succ n a=>
  intro l h;cases l with
  |nil=>rw[ez];omega
  |cons e l=>
   have c:=a l (by simp only[bo]at h;omega);have b:=a e.ae (by have:=aD.gI e l;omega);rw[ez,fJ];have:=yZ e;omega
theorem Rk{l:M aD}:ez l<=bQ bp l:=Rj _ l (aY _)
theorem aeR(n:Nat):∀l:M aD,av l < n->bQ bp l<=mg->G 317 [aZ l]=Z (0,[E (ez l)]):=by
 induction n with
 |zero=>intro l h;omega
 |succ n g=>
  intro l t d;have c:l.length<=mg:=by simp only[bQ]at d;omega
  refine dd ajR rfl ?_;simp only[go_sem,ajR];have e:=fM (b:=lB G I3) l (λi (m:Nat)=>(0,[E (m:Int),aZ l,E l.length,E (i:Int)])) (λi=>l.length+ic (l.take i)) (0,[E (ez l),aZ l,E l.length,E l.length,.bool J]) (by
   intro i x a;have f:=bF a;have k:=wj f c;have j:=(hH d (bz a)).1;have o:=aL (yZ x) j;have s:=g x.ae (by have:=aX (bz a);have:=aD.ek x;omega) o;have r:=Kg l (i+1);have q:=Rk (l:=l);rw[vE]at q;rw[cx _ _ _ a,uB]at r;have p:IntKind.i64.wrap (((l.length+ic (l.take i):Nat):Int)+(ez x.ae:Int))=((l.length+(ic (l.take i)+ez x.ae):Nat):Int):=by rw[wrap_i64 (by simp only[mg]at d;omega)];omega
   rw[cx _ _ _ a,uB];simp only[go_sem,bn,I3,f,aN,a,cR];simp only[go_sem,aT x,s,p,k]) (by
   rw[bN,vE];simp only[go_sem,bn,I3,aG]) l.length 0 (by omega)
  rw[n0,dw,ic,eu]at e;rw[e];simp only[go_sem]
theorem amJ{l:M aD}(a:bQ bp l<=mg):G 317 [aZ l]=Z (0,[E (ez l)]):=aeR _ l (aY _) a
def Cc(l:M aD)(x r:Int):Prop:=((ez l:Int)<=x->r=x - ez l)/\(x < (ez l:Int)->r < 0)/\-33554432<=r
theorem aeD(n:Nat):∀(l:M aD) (x:Int),av l < n->bQ bp l<=mg->0<=x->x<=1048576->∃r,G 242 [aZ l,E x]=Z (0,[E r])/\Cc l x r:=by
 induction n with
 |zero=>intro l x h;omega
 |succ n B=>
  intro l x K v N L;have b:l.length<=mg:=by simp only[bQ]at v;omega
  have p:IntKind.i64.wrap (x - (l.length:Int))=x - l.length:=wrap_i64 (by simp only[mg]at b;omega);have loop:∀m i (y:Int),i+m=l.length->-33554432<=y->y<=1048576->∃(r a:Int),bK (lB G DP) (0,[aZ l,E y,E (i:Int)])=Z (0,[aZ l,E r,E a,.bool J])/\(0<=y->(ic (l.drop i):Int)<=y->r=y - ic (l.drop i))/\(y < 0\/y < (ic (l.drop i):Int)->r < 0)/\-33554432<=r:=by
   intro m
   induction m with
   |zero=>
    intro i y D A w;obtain rfl:i=l.length:=by omega
    refine⟨y,l.length,aF (by simp only[go_sem,bn,DP,aG]),?_⟩;rw[fC];simp only[ic];omega
   |succ m o=>
    intro i y D A w;have c:i < l.length:=by omega
    have a1:=dV (l:=l) (i:=i) c;have hd:=ig l i _ a1;generalize l[i]'c=e at a1 hd;by_cases f:0<=y
    ·have s:=bz a1;have H:=aL (yZ e) (hH v s).1;obtain⟨t,g1,g2,g3,g4⟩:=B e.ae y (by have:=aX s;have:=aD.ek e;omega) H f w;have F:t<=1048576:=by
      by_cases q:(ez e.ae:Int)<=y
      ·have:=g2 q;omega
      ·have:=g3 (by omega);omega
     obtain⟨r,a,k,j,d,g⟩:=o (i+1) t (by omega) g4 F;have C:=wj c b;refine⟨r,a,?_,?_⟩
     ·rw[<- k];refine bB ?_;simp only[go_sem,bn,DP,c,aN,a1,f];simp only[go_sem,aT e,g1,C]
     ·rw[hd,ic];refine⟨λ_ h=>?_,λh=>?_,g⟩
      ·have:=g2 (by omega);have:=j (by omega) (by omega);omega
      ·by_cases q:(ez e.ae:Int)<=y
       ·have:=g2 q;exact d (by omega)
       ·have:=g3 (by omega);exact d (.inl this)
    ·refine⟨y,i,aF (by simp only[go_sem,bn,DP,c,f]),λh=>absurd h f,λ_=>by omega,A⟩
  obtain⟨r,a,k,j,d,g⟩:=loop l.length 0 (x - l.length) (by omega) (by simp only[mg]at b;omega) (by omega);rw[n0,cK]at *;refine⟨r,dd t242 rfl ?_,?_⟩
  ·simp only[go_sem,t242,p,k]
  ·unfold Cc;rw[vE];refine⟨λh=>?_,λh=>?_,g⟩
   ·have:=j (by omega) (by omega);omega
   ·exact d (by omega)
theorem amj{l:M aD}{x:Int}(b:bQ bp l<=mg)(c:0<=x)(a:x<=1048576):∃r,G 242 [aZ l,E x]=Z (0,[E r])/\Cc l x r:=aeD _ l x (aY _) b c a
end
section
def sO:M ah->Nat
 |[]=>0
 |e::es=>max (1+sO e.ae) (sO es)
termination_by es=>av es
decreasing_by
 ·exact ah.gI e es
 ·simp only[bo];omega
theorem KH(e:ah):∀(l:M ah),sO (l++[e])=max (sO l) (1+sO e.ae)
 |[]=>by simp[sO]
 |x::l=>by rw[aq,sO,KH e l,sO,Nat.max_assoc]
theorem agy(n:Nat):∀(l:M ah),av l < n->sO l<=bQ aB l:=by
 induction n with
 |zero=>intro l h;omega
 |succ n a=>
  intro l h;cases l with
  |nil=>rw[sO];omega
  |cons e l=>
   have c:=a l (by simp only[bo]at h;omega);have b:=a e.ae (by have:=ah.gI e l;omega);rw[sO,fJ];have:=jI e;omega
theorem UJ{l:M ah}:sO l<=bQ aB l:=agy _ l (aY _)
theorem aeG(n:Nat):∀l:M ah,av l < n->bQ aB l<=mg->G 256 [az l]=Z (0,[E (sO l)]):=by
 induction n with
 |zero=>intro l h;omega
 |succ n k=>
  intro l s e;have c:l.length<=mg:=by simp only[bQ]at e;omega
  refine dd t256 rfl ?_;simp only[go_sem,t256];have f:=fM (b:=lB G IQ) l (λi (m:Nat)=>(0,[E (m:Int),az l,E l.length,E (i:Int)])) (λi=>sO (l.take i)) (0,[E (sO l),az l,E l.length,E l.length,.bool J]) (by
   intro i x a;have j:=bF a;have p:=wj j c;have o:=(hH e (bz a)).1;have g:=aL (jI x) o;have r:=k x.ae (by have:=aX (bz a);have:=ah.ek x;omega) g;have t:=UJ (l:=x.ae);have q:IntKind.i64.wrap (1+(sO x.ae:Int))=((1+sO x.ae:Nat):Int):=by rw[wrap_i64 (by simp only[mg]at g;omega)];omega
   rw[cx _ _ _ a,KH];simp only[go_sem,bn,IQ,j,aN,a,ba];simp only[go_sem,ai x,r,q,mx,p]) (by
   rw[bN];simp only[go_sem,bn,IQ,aG]) l.length 0 (by omega)
  have d:((sO []:Nat):Int)=0:=by simp[sO]
  rw[n0,dw,d]at f;rw[f];simp only[go_sem]
theorem amq{l:M ah}(a:bQ aB l<=mg):G 256 [az l]=Z (0,[E (sO l)]):=aeG _ l (aY _) a
def qU:ah:=⟨0,⟨#[]⟩,⟨0,[],[],⟨#[]⟩,⟨#[]⟩⟩,[],[],⟨#[]⟩,J,J,J,J,0,0,[],[],[]⟩
def l8(l:M ah)(a:z):u Nat:=nZ (λe=>Z' (e.name_q=a) && Z' (e.aw=3)) l 0
theorem aja{l:M ah}{nm:z}(hlen:l.length<=mg):G 314 [az l,.str nm]=Z (match l8 l nm with
  |some j=>match nth l j with
   |some e=>(0,aB e++[.bool I])
   |none=>(1,aB qU++[.bool J])
  |none=>(1,aB qU++[.bool J])):=by
 refine dd ajQ rfl ?_;simp only[go_sem,ajQ,cp];have g:=pK (b:=lB G I2) l (λi=>(0,[.str nm,az l,E l.length,E (i:Int),E 0,.str ⟨#[]⟩,E 0,.str ⟨#[]⟩,.str ⟨#[]⟩,.str ⟨#[]⟩,.bool J,.bool J,.bool J,.bool J,E 0,E 0])) (λe=>Z' (e.name_q=nm) && Z' (e.aw=3))
  (1,[.str nm,az l,E l.length,E l.length,.bool J,E 0,.str ⟨#[]⟩,E 0,.str ⟨#[]⟩,.str ⟨#[]⟩,.str ⟨#[]⟩,.bool J,.bool J,.bool J,.bool J,E 0,E 0]) (λi e=>(0,.bool I::aB e)) (by
  intro i e f;have h:=bF f;have d:=wj h hlen;simp only[go_sem,bn,I2,h,aN,f,ba];by_cases a:e.name_q=nm
  ·by_cases c:e.aw=3
   ·simp only[go_sem,ai e,a,c]
   ·simp only[go_sem,ai e,a,c,d]
  ·simp only[go_sem,ai e,a,d]) (by simp only[go_sem,bn,I2,aG])
 rw[n0]at g;rw[g];unfold l8;cases k:nZ (λe=>Z' (e.name_q=nm) && Z' (e.aw=3)) l 0 with
 |none=>simp only[go_sem,ai,qU,cp];rfl
 |some j=>
  obtain⟨e,a,c⟩:=dy k;simp only[go_sem,a,ai]
end
section
noncomputable def unr{a c:Type}(b:a->u (Sg a c)):u (Sg a c)->u c
 |some (.go s)=>bK b s
 |some (.out r)=>Z r
 |none=>O
theorem vI{a c:Type}(b:a->u (Sg a c))(s:a):bK b s=unr b (b s):=by
 cases h:b s with
 |none=>
  unfold bK;rw[dif_neg]
  ·rfl
  ·rintro⟨r,d⟩
   cases d with
   |out g=>rw[h]at g;cases g
   |go g _=>rw[h]at g;cases g
 |some x=>
  cases x with
  |go e=>rw[bB h];rfl
  |out r=>rw[aF h];rfl
theorem JJ{a c:Type}(b:a->u (Sg a c))(s:a):unr b (Z (.go s))=bK b s:=(rfl)
theorem CG{a c:Type}(b:a->u (Sg a c))(r:c):unr b (Z (.out r))=Z r:=(rfl)
theorem Po{a β:Type}(f:a->β)(p:β->Bool):∀(l:M a) (k:Nat),nZ p (l.map f) k=nZ (λe=>p (f e)) l k
 |[],_=>rfl
 |e::l,k=>by simp only[aW,nZ,Po f p l (k+1)]
theorem Dt(l:M ah)(a:z):ix (l.map ah.name_q) a=dh l a:=by
 rw[ix,Po,dh]
 congr 1
 funext e
 exact decide_eq_decide.2 eq_comm
theorem abK{d:M ah}{j:Nat}{e:ah}(h:nth d j=Z e):aK (.Gv 19 0 19 J) [az d,E (j:Int)]=Z (.list 0 J [aB e]):=by
 have a:nth (d.map aB) j=Z (aB e):=by rw[aN,h];rfl
 simp only[aK,cq,a];rw[oh];simp
theorem agB{d:M ah}{j:Nat}{e:ah}(h:nth d j=Z e):aK (.Gv 19 18 1 J) [az d,E (j:Int)]=Z (.list 0 J [aB e]):=by
 have a:nth (d.map aB) j=Z (aB e):=by rw[aN,h];rfl
 simp only[aK,cq,a];rw[oh];simp
theorem Xd{l:M ah}{nm:z}(q:bQ aB l<=mg):G 97 [az l,aO [nm]]=Z (match dh (dk l) nm with
  |some j=>match nth (dk l) j with
   |some e=>(1,aB e++[.bool I])
   |none=>(0,aB qU++[.bool J])
  |none=>(0,aB qU++[.bool J])):=by
 have hd:=nH (es:=l);have m:(dk l).length<=mg:=by simp only[bQ]at *;omega
 have b:=q94 q;have k:=q95 (l:=dk l) m;have a:=q96 (l:=(dk l).map ah.name_q) (v:=nm) (by rw[aj];exact m);rw[Dt]at a;refine dd t97 rfl ?_;simp only[go_sem,cp,vI,JJ,CG,bn,Lv,aN,fR,t97];cases i:dh (dk l) nm with
 |none=>
  rw[i]at a;have f:aK .pl [E (-1)]=Z (.bool J):=rfl;by_cases n:dk l=[]
  ·have d:kE (dk l)=0:=by rw[n];rfl
   simp only[go_sem,cp,vI,JJ,CG,bn,Lv,aN,fR,b,d,k,a,f,jG,ai,qU];rfl
  ·have d:kE (dk l)=1:=iU n;simp only[go_sem,cp,vI,JJ,CG,bn,Lv,aN,fR,b,d,k,a,f,jG,ai,qU];rfl
 |some j=>
  obtain⟨e,c,y⟩:=dy i;rw[i]at a;have f:aK .pl [E (j:Int)]=Z (.bool J):=rfl;have o:dk l≠[]:=by intro h;rw[h]at c;cases c
  have r:=bF c;have x:=abK c;have w:=agB c;have t:=xP 19 J ((dk l).map aB) j (by rw[aj];exact r);have g:¬(j:Int) < 0:=by omega
  have d:kE (dk l)=1:=iU o;have p:IntKind.i64.wrap 1=1:=by decide
  have s:Z' ((1:Int) < 1)=J:=by decide
  simp only[go_sem,cp,vI,JJ,CG,bn,Lv,aN,fR,b,d,k,a,f,jG,x,w,t,g,c,p,s,ai]
end
section
def r7(l:M aD)(a:z):u Nat:=nZ (λe=>Z' (e.name_q=a)) l 0
theorem amk{l:M aD}{nm:z}(hlen:l.length<=mg):G 243 [aZ l,.str nm]=Z (0,[E (jG (r7 l nm))]):=by
 refine dd t243 rfl ?_;simp only[go_sem,t243];have c:=pK (b:=lB G IN) l (λi=>(0,[aZ l,.str nm,E (i:Int)])) (λe=>Z' (e.name_q=nm)) (1,[aZ l,.str nm,E l.length,.bool J]) (λi e=>(0,[E (i:Int)])) (by
  intro i e a;have d:=bF a;have f:=wj d hlen;simp only[go_sem,bn,IN,d,aN,a,aT];cases h:Z' (e.name_q=nm)<;>simp only[go_sem,h,f]) (by simp only[go_sem,bn,IN,aG])
 rw[n0]at c;rw[c];unfold r7;cases g:nZ (λe=>Z' (e.name_q=nm)) l 0 with
 |none=>simp only[go_sem,jG]
 |some j=>
  obtain⟨e,k,m⟩:=dy g;simp only[go_sem,k,jG]
theorem Qb(a:z):∀(l:M aD) (k:Nat),SW a (l.map bp) (k:Int)=Z (jG (nZ (λe=>Z' (e.name_q=a)) l k))
 |[],k=>rfl
 |e::l,k=>by
  have h:=Qb a l (k+1);simp only[aW,aT e,SW,nZ];by_cases b:e.name_q=a
  ·simp[b,jG]
  ·have c:SW a (l.map bp) ((k:Int)+1)=Z (jG (nZ (λe=>Z' (e.name_q=a)) l (k+1))):=h;simp[b,c]
theorem ajt(l:M aD)(a:z):G 9003 [aZ l,.str a]=Z (0,[E (jG (r7 l a))]):=
 xb (i:=9003) (sg:=⟨9003,[.val J [.d],.val J [.d]],[([.val J [.d]],[])]⟩) (v:=([.val J [.d]],[])) (j:=0) (r:=([.val J [.d (E (jG (r7 l a)))]],[])) (ws:=[aZ l,.str a]) rfl rfl ((Wm T rfl [.val J [.d (aZ l)],.val J [.d (.str a)]]).trans (by
  have h:=Qb a l 0;have b:SW a (l.map bp) 0=Z (jG (r7 l a)):=h;simp only[XT,aZ,b];rfl)) rfl rfl
def kV(k:Int):Bool:=Z' (k=2) ||decide (k=4)
theorem amm(k:Int):G 247 [E k]=Z (0,[.bool (kV k)]):=by
 refine dd t247 rfl ?_;simp only[go_sem,t247,kV];cases h:Z' (k=2)<;>simp only[go_sem,h]
def pd(l:M aD)(a:z):u z:=match r7 l a with
 |some j=>(nth l j).map aD.bq
 |none=>O
def s_(l:M aD):M z->M z->M z×Bool
 |t,[]=>(t,I)
 |t,k::a=>match pd l k with
  |none=>(t,J)
  |some v=>s_ l (t++[v]) a
def ZW{a:Type}(l:M aD)(g:Nat->M z->a)(i:Nat)(t:M z)(k:z):Sg (M z) a:=match pd l k with
 |none=>.out (g i t)
 |some v=>.go (t++[v])
def keyOf(n:ah)(x:aD):M z×Bool:=
 if n.aw=2 then (if (s_ x.ae [] n.bl).2=I then ((s_ x.ae [] n.bl).1,I) else ([],J)) else ([x.bq],I)
theorem Hl{l:M aD}{k:z}:r7 l k=O->pd l k=O:=λh=>by rw[pd,h]
theorem Hn{l:M aD}{k:z}{j:Nat}{e:aD}(h:r7 l k=Z j)(a:nth l j=Z e):pd l k=Z e.bq:=by rw[pd,h];simp only[a,aH]
theorem Di{b:Type}(l:M aD)(g:M z->b):∀(a:M z) (i:Nat) (t:M z),
  iI (ZW l (λ_ t=>g t)) i t a=if (s_ l t a).2=I then .go (s_ l t a).1 else .out (g (s_ l t a).1)
 |[],_,_=>rfl
 |k::a,i,t=>by
  cases h:pd l k with
  |none=>simp only[iI,ZW,s_,h];rfl
  |some v=>simp only[iI,ZW,s_,h];exact Di l g a (i+1) (t++[v])
theorem afN{t:M z}{v:z}(h:t.length < mg):aK (.app 1 16) [aO t,.list 1 I [[.str v]]]=Z (aO (t++[v])):=by
 have h:=eQ 1 16 I (t.map fR) [[.str v]] (by decide) (by simp only[mg,aj,aE,aJ]at *;omega);rw[h];simp[fR]
theorem Gq:aO []=.list 1 I []:=(rfl)
theorem NM(v:z):aK (.mW 1 I) [.str v]=Z (.list 1 I [[.str v]]):=by simp[aK,chunk,cD,D.plain]
theorem W7{n:ah}{x:aD}(w:n.bl.length<=mg)(q:x.ae.length<=mg):G 244 (aB n++bp x)=Z (0,[aO (keyOf n x).1,.bool (keyOf n x).2]):=by
 refine dd t244 (by rw[ai,aT];rfl) ?_;simp only[go_sem,t244,ai,aT];have d:=yD (b:=lB G DQ) n.bl (λi (t:M z)=>(0,E (i:Int)::(aB n++bp x++[aO t]))) (ZW x.ae (λ_ t=>(0,[.bool J,aO t])))
  (λt=>(1,E n.bl.length::.bool J::(aB n++bp x++[aO t]))) (λi t=>t.length=i) [] rfl (by
  intro i k t g o;have h:=bF g;have r:=wj h w;have f:=amk (l:=x.ae) (nm:=k) q;have A:∀v,aK (.app 1 16) [aO t,.list 1 I [[.str v]]]=Z (aO (t++[v])):=λv=>afN (by omega);cases a:r7 x.ae k with
  |none=>
   rw[a]at f;simp only[go_sem,bn,DQ,h,aN,g,ai,aT,fR,f,jG,ZW,Hl a,MH];intro B s;cases s
  |some j=>
   obtain⟨e,p,C⟩:=dy a;rw[a]at f;have y:¬(j:Int) < 0:=by omega
   simp only[go_sem,bn,DQ,h,aN,g,ai n,aT x,fR,f,jG,y,ZW,Hn a p,MH];simp only[go_sem,p,aT e,NM,A,r];simp[o]) (by
  intro t o;simp only[go_sem,bn,DQ,aG,ai,aT])
 rw[n0,Di]at d;simp only[ai,aT,aq,ay,Gq]at d;rw[keyOf];by_cases c:n.aw=2
 ·have hd:Z' (n.aw=2)=I:=by simp[c]
  simp only[go_sem,hd];rw[d];clear d;cases m:(s_ x.ae [] n.bl).2
  ·simp only[go_sem,sgF,c,m];rfl
  ·simp only[go_sem,sgF,c,m]
 ·have hd:Z' (n.aw=2)=J:=by simp[c]
  simp only[go_sem,hd,NM,c];rfl
theorem W9{n:ah}{x:aD}(w:n.bl.length<=mg)(C:x.ae.length<=mg):G 320 (aB n++bp x)=Z (0,[aO (keyOf n x).1,.bool (keyOf n x).2]):=by
 refine dd ajS (by rw[ai,aT];rfl) ?_;simp only[go_sem,ajS,ai,aT];have d:=yD (b:=lB G DW) n.bl (λi (t:M z)=>(0,[aO n.bl,E n.bl.length,E (i:Int),.str x.name_q,.str x.bq,aZ x.ae,aO t])) (ZW x.ae (λ_ t=>(0,[.bool J,aO t,aO []])))
  (λt=>(1,[aO n.bl,E n.bl.length,E n.bl.length,.bool J,.str x.name_q,.str x.bq,aZ x.ae,aO t])) (λi t=>t.length=i) [] rfl (by
  intro i k t h p;have m:=bF h;have r:=wj m w;have f:=ajt x.ae k;have l:aK (.mW 1 I) []=Z (aO []):=by simp[aK,chunk,cD,D.plain]
  have A:∀v,aK (.app 1 16) [aO t,.list 1 I [[.str v]]]=Z (aO (t++[v])):=λv=>afN (by omega);cases a:r7 x.ae k with
  |none=>
   rw[a]at f;simp only[go_sem,bn,DW,m,aN,h,fR,f,jG,ZW,Hl a,MH,l];intro B s;cases s
  |some j=>
   obtain⟨e,q,F⟩:=dy a;rw[a]at f;have y:¬(j:Int) < 0:=by omega
   simp only[go_sem,bn,DW,m,aN,h,fR,f,jG,y,ZW,Hn a q,MH];simp only[go_sem,q,aT e,NM,A,r];simp[p]) (by
  intro t p;simp only[go_sem,bn,DW,aG])
 rw[n0,Di (g:=λt=>(0,[D.bool J,aO t,aO []]))]at d;simp only[Gq]at d;rw[keyOf];by_cases c:n.aw=2
 ·have hd:Z' (n.aw=2)=I:=by simp[c]
  simp only[go_sem,hd];rw[d];clear d;cases o:(s_ x.ae [] n.bl).2
  ·simp only[go_sem,sgF,c,o];rfl
  ·simp only[go_sem,sgF,c,o]
 ·have hd:Z' (n.aw=2)=J:=by simp[c]
  simp only[go_sem,hd,NM,c];rfl
end
section
theorem Dd{β:Type}(f:Nat->u β):∀m i,ma f (i+1) m=ma (λj=>f (j+1)) i m
 |0,_=>rfl
 |m+1,i=>by
  simp only[ma,Dd f m (i+1)]
theorem Nb{a β:Type}(f:Nat->u a)(g:a->β):∀m i,ma (λj=>(f j).map g) i m=(ma f i m).map g
 |0,_=>rfl
 |m+1,i=>by
  simp only[ma];cases h:f i with
  |none=>simp only[Option.map_none,Nb f g m (i+1)]
  |some r=>rfl
def pk{d β:Type}(c:d->d->u β)(a b:M d)(i:Nat):u β:=match nth a i,nth b i with
 |some x,Z y=>c x y
 |_,_=>O
def yU{d β:Type}(c:d->d->u β):M d->M d->u β
 |x::a,y::b=>match c x y with
  |some r=>Z r
  |none=>yU c a b
 |_,_=>O
theorem Vb{d β:Type}(c:d->d->u β):∀(a b:M d),ma (pk c a b) 0 (min a.length b.length)=yU c a b
 |[],b=>by simp only[aJ,Nat.zero_min,ma,yU]
 |x::a,[]=>by simp only[aJ,Nat.min_zero,ma,yU]
 |x::a,y::b=>by
  have h:(min (x::a).length (y::b).length)=min a.length b.length+1:=by simp only[aE];omega
  rw[h];have f:(λj=>pk c (x::a) (y::b) (j+1))=pk c a b:=rfl;have e:pk c (x::a) (y::b) 0=c x y:=rfl;simp only[ma,Dd,f,e,yU,Vb c a b];cases c x y<;>rfl
def YE(x y:z):u Bool:=if Z' (x=y)=I then O else Z (kG x y)
def iK(a b:M z):Bool:=(yU YE a b).getD (Z' (a.length < b.length))
theorem amn{a b:M z}(k:a.length<=mg)(p:b.length<=mg):G 248 [aO a,aO b]=Z (0,[.bool (iK a b)]):=by
 refine dd t248 rfl ?_;simp only[go_sem,t248];have f:=Iq (b:=lB G DR) (λi=>(0,[aO a,aO b,E (i:Int)])) (λi=>(pk YE a b i).map (λr=>(0,[.bool r]))) (min a.length b.length) (1,[aO a,aO b,E (min a.length b.length:Nat),.bool J]) (by
  intro i o;have c:i < a.length:=by omega
  have d:i < b.length:=by omega
  have a1:=dV (l:=a) c;have a2:=dV (l:=b) d;generalize a[i]'c=x at a1;generalize b[i]'d=y at a2;have g:=wj c k;simp only[go_sem,bn,DR,c,d,aN,a1,a2,fR,pk,YE];cases j:Z' (x=y)<;>simp only[go_sem,j,g,Uu,aN,a1,a2,fR]) (by
  by_cases h:a.length < b.length
  ·have e:min a.length b.length=a.length:=by omega
   rw[e];simp only[go_sem,bn,DR,aG]
  ·have e:min a.length b.length=b.length:=by omega
   rw[e];simp only[go_sem,bn,DR,aG];by_cases m:b.length < a.length<;>simp only[go_sem,m,aG]) (min a.length b.length) 0 (by omega)
 rw[n0,Nb,Vb]at f;rw[f,iK];cases n:yU YE a b<;>simp only[go_sem,Option.getD,Option.map]
theorem amL(a:z):G 323 [.str a]=Z (0,[.bool J]):=by
 refine dd ajV rfl ?_;simp only[go_sem,ajV]
def qh(x y:z):Int:=if kG x y=I then -1 else if Z' (x=y)=I then 0 else 1
theorem amM(x y:z):G 324 [.str x,.str y]=Z (0,[E (qh x y)]):=by
 refine dd ajW rfl ?_;simp only[go_sem,ajW,amL,qh];cases b:kG x y<;>cases a:Z' (x=y)<;>simp only[go_sem,b,a]
def Ks(a b:M z)(i:Nat):u Int:=match nth a i with
 |none=>O
 |some x=>match nth b i with
  |none=>Z 1
  |some y=>if qh x y=0 then O else Z (qh x y)
def cmpL(a b:M z):Int:=match ma (Ks a b) 0 a.length with
 |some r=>r
 |none=>if a.length < b.length then -1 else 0
theorem LM{a:Type}:∀{l:M a} {i:Nat},l.length<=i->nth l i=O
 |[],_,_=>rfl
 |_::l,0,h=>by simp at h
 |_::l,i+1,h=>by
  have:=LM (l:=l) (i:=i) (by simpa using h)
  simpa [nth] using this
theorem amN{a b:M z}(m:a.length<=mg)(o:b.length<=mg):G 325 [aO a,aO b]=Z (0,[E (cmpL a b)]):=by
 refine dd ajX rfl ?_;simp only[go_sem,ajX];have k:=Iq (b:=lB G DY) (λi=>(0,[aO a,aO b,aO a,E a.length,E (i:Int)])) (λi=>(Ks a b i).map (λr=>(0,[E r]))) a.length (1,[aO a,aO b,aO a,E a.length,E a.length,.bool J]) (by
  intro i c;have a1:=dV (l:=a) c;generalize a[i]'c=x at a1;have j:=wj c m;by_cases e:i < b.length
  ·have a2:=dV (l:=b) e;generalize b[i]'e=y at a2;have g:Z' ((b.length:Int)<=(i:Int))=J:=by simp only[decide_eq_false_iff_not];omega
   have f:=amM x y;simp only[go_sem,bn,DY,c,e,g,aN,a1,a2,fR,Ks,f];by_cases d:qh x y=0
   ·have hd:Z' (qh x y=0)=I:=by simp[d]
    simp only[go_sem,hd,d,j,Uu,aN,a1,a2,fR,f]
   ·have hd:Z' (qh x y=0)=J:=by simp[d]
    simp only[go_sem,hd,d,j,Uu,aN,a1,a2,fR,f]
  ·have a2:=LM (l:=b) (i:=i) (by omega);have g:Z' ((b.length:Int)<=(i:Int))=I:=by simp only[decide_eq_true_eq];omega
   simp only[go_sem,bn,DY,c,e,g,aN,a1,a2,fR,Ks,Uu]) (by simp only[go_sem,bn,DY,aG]) a.length 0 (by omega)
 rw[n0,Nb]at k;rw[k,cmpL];cases n:ma (Ks a b) 0 a.length
 ·simp only[go_sem,Option.getD,Option.map];by_cases h:a.length < b.length<;>simp only[go_sem,h]
 ·simp only[go_sem,Option.getD,Option.map]
end
section
theorem Um:∀l:M UInt8,Op.bytesLess l l=J
 |[]=>rfl
 |x::l=>by
  have h:¬x < x:=by simp
  simp[Op.bytesLess,Um l,h]
theorem Of(x:z):kG x x=J:=Um _
theorem uG(b:M z):cmpL [] b=if 0 < b.length then -1 else 0:=(rfl)
theorem Gl(x:z)(a:M z):cmpL (x::a) []=1:=(rfl)
theorem zY(x y:z)(a b:M z):cmpL (x::a) (y::b)=if qh x y=0 then cmpL a b else qh x y:=by
 have d:(λj=>Ks (x::a) (y::b) (j+1))=Ks a b:=rfl;have c:Ks (x::a) (y::b) 0=if qh x y=0 then O else Z (qh x y):=rfl
 rw[cmpL];simp only[aE,ma,Dd,d,c];by_cases h:qh x y=0
 ·simp only[h,if_true,cmpL,Nat.add_lt_add_iff_right]
 ·simp only[h,if_false]
theorem yS:∀a b:M z,iK a b=Z' (cmpL a b < 0)
 |[],[]=>rfl
 |[],y::b=>by
  rw[uG];simp[iK,yU]
 |x::a,[]=>by
  rw[Gl];simp[iK,yU]
 |x::a,y::b=>by
  rw[zY];by_cases h:x=y
  ·subst h;have c:qh x x=0:=by simp[qh,Of]
   have d:YE x x=O:=by simp[YE]
   rw[if_pos c,<- yS a b];simp only[iK,yU,d,aE,Nat.add_lt_add_iff_right]
  ·have d:YE x y=Z (kG x y):=by simp[YE,h]
   have f:iK (x::a) (y::b)=kG x y:=by simp only[iK,yU,d,Option.getD]
   rw[f];cases e:kG x y
   ·have c:qh x y=1:=by simp[qh,e,h]
    simp[c]
   ·have c:qh x y=-1:=by simp[qh,e]
    simp[c]
theorem Lp(l:M aD):∀(a t:M z),(s_ l t a).1.length<=t.length+a.length
 |[],t=>by simp[s_]
 |k::a,t=>by
  cases h:pd l k with
  |none=>simp only[s_,h,aE];omega
  |some v=>
   have:=Lp l a (t++[v]);simp only[s_,h,aE,aR,aJ]at *;omega
theorem rY{n:ah}{x:aD}(b:n.bl.length<=mg):(keyOf n x).1.length<=mg:=by
 have h:=Lp x.ae n.bl [];simp only[aJ,bD]at h;unfold keyOf;have a:1<=mg:=by decide
 split
 ·split
  ·exact aL h b
  ·simp
 ·simpa using a
def tV(n:ah)(a b:aD):Int:=if kV n.aw=I then cmpL (keyOf n a).1 (keyOf n b).1 else 0
theorem ajc{n:ah}{a b:aD}(d:n.bl.length<=mg)(i:a.ae.length<=mg)(h:b.ae.length<=mg):G 326 (aB n++bp a++bp b)=Z (0,[E (tV n a b)]):=by
 have f:=W9 (n:=n) (x:=a) d i;have e:=W9 (n:=n) (x:=b) d h;have j:=amN (a:=(keyOf n a).1) (b:=(keyOf n b).1) (rY d) (rY d);have g:∀c:Int,aK .pl [E c]=Z (.bool J):=λc=>rfl;simp only[ai,aT,aq,ay]at f e;refine dd ajY (by rw[ai,aT,aT];rfl) ?_;simp only[go_sem,ajY,ai,aT,tV,kV];obtain⟨v1,c1⟩:∃v,Z' (n.aw=2)=v:=⟨_,rfl⟩
 obtain⟨v2,k⟩:∃v,Z' (n.aw=4)=v:=⟨_,rfl⟩
 cases v1<;>cases v2<;>simp only[go_sem,c1,k,f,e,j,g]
theorem aiY{d:M ah}{a b:aD}{i k:Nat}{e:ah}(hd:d.length<=mg)(f:e.bl.length<=mg)(w:a.ae.length<=mg)(v:b.ae.length<=mg)
  (t:dh d a.name_q=Z i) (s:dh d b.name_q=Z k) (h:nth d i=Z e) :
  G 249 ([az d]++bp a++bp b)=Z (0,[.bool (if Z' (i=k) && kV e.aw then iK (keyOf e a).1 (keyOf e b).1 else Z' (i < k))]):=by
 have q:=Xc (l:=d) (nm:=a.name_q) hd;have p:=Xc (l:=d) (nm:=b.name_q) hd;rw[t]at q;rw[s]at p;have o:=W7 (n:=e) (x:=a) f w;have m:=W7 (n:=e) (x:=b) f v;have y:=amn (a:=(keyOf e a).1) (b:=(keyOf e b).1) (rY f) (rY f);have j:=amm e.aw;have r:aK .pl [.bool (iK (keyOf e a).1 (keyOf e b).1)]=Z (.bool J):=rfl;simp only[ai,aT,aq,ay]at o m;refine dd t249 (by rw[aT,aT];rfl) ?_;have B:(Z (aB e):u (M D))=Z (aB e):=rfl;simp only[go_sem,t249,aT,q,p,jG];by_cases c:i=k
 ·subst c;cases c1:kV e.aw<;>simp only[go_sem,aN,h,ai e,o,m,y,j,c1,r,ba,aG]
 ·have A:Z' (i=k)=J:=by simp[c]
  have g:Z' ((i:Int)=(k:Int))=J:=by simp only[decide_eq_false_iff_not];omega
  simp only[go_sem,aN,h,ai e,j,c,A,g]
end
section
def r8(a:z->Bool)(mt:z->z->Bool)(r:M ah->M aD->Bool)(n:ah)(x:aD):Bool:=
 if Z' (n.aw=3) ||decide (n.aw=4) then Z' (x.ae.length=0) && isVal a mt n.type x.bq
 else if Z' (n.aw=2) then (keyOf n x).2 && (Z' (x.bq.size=0) && r (dk n.ae) x.ae)
 else Z' (x.bq.size=0) && ((n.cT ||decide (0 < x.ae.length)) && r (dk n.ae) x.ae)
theorem aml{A:z->Bool}{mt:z->z->Bool}(B:∀s:z,s.size<=mg->G 227 [.str s]=Z (0,[.bool (A s)]))(C:∀p s:z,p.size<=mg->s.size<=mg->G 236 [.str p,.str s]=Z (0,[.bool (mt p s)]))
  {r:M ah->M aD->Bool} {n:ah} {x:aD} (l:fN (aB n)<=mg) (j:fN (bp x)<=mg)
  (m:G 246 [az (dk n.ae),aZ x.ae]=Z (0,[.bool (r (dk n.ae) x.ae)])) :
  G 245 (aB n++bp x)=Z (0,[.bool (r8 A mt r n x)]):=by
 rw[dN]at l;rw[jJ]at j;have L:fN (ef n.type)<=mg:=by omega
 have K:n.bl.length<=mg:=by simp only[bQ]at l;omega
 have H:bQ aB n.ae<=mg:=by omega
 have F:x.bq.size<=mg:=by omega
 have D:x.ae.length<=mg:=by simp only[bQ]at j;omega
 have h:=aiV B C L F;have g:=W7 (n:=n) (x:=x) K D;have o:=q81 H;have k:∀b:Bool,aK .pl [.bool b]=Z (.bool J):=λb=>rfl;clear B C l j L K H F D;simp only[ai,aT,ef,aq,ay]at h g;refine dd t245 (by rw[ai,aT];rfl) ?_;simp only[go_sem,t245,ai,aT,r8];obtain⟨v3,t⟩:∃v,Z' (n.aw=3)=v:=⟨_,rfl⟩
 obtain⟨v4,q⟩:∃v,Z' (n.aw=4)=v:=⟨_,rfl⟩
 obtain⟨v2,y⟩:∃v,Z' (n.aw=2)=v:=⟨_,rfl⟩
 obtain⟨w,f⟩:∃v,Z' (x.ae.length=0)=v:=⟨_,rfl⟩
 have a:Z' ((x.ae.length:Int)=0)=w:=by rw[<- f];apply decide_eq_decide.2;omega
 have cg:Z' ((0:Int) < (x.ae.length:Int))=!w:=by rw[<- f,<- decide_not];apply decide_eq_decide.2;omega
 have c:Z' (0 < x.ae.length)=!w:=by rw[<- f,<- decide_not];apply decide_eq_decide.2;omega
 obtain⟨e,i⟩:∃v,Z' (x.bq=⟨#[]⟩)=v:=⟨_,rfl⟩
 have d:Z' (x.bq.size=0)=e:=by rw[<- i,a_]
 cases v3<;>cases v4<;>cases v2<;>cases w<;>cases e<;>simp only[go_sem,t,q,y,f,a,cg,c,i,d,h,g,o,m,k]
 all_goals try (cases N:(keyOf n x).2<;>simp only[go_sem,t,q,y,f,a,cg,c,i,d,h,g,o,m,k,N])
 all_goals try (cases P:n.cT<;>simp only[go_sem,t,q,y,f,a,cg,c,i,d,h,g,o,m,k,P])
theorem amK{B:z->Bool}{mt:z->z->Bool}(D:∀s:z,s.size<=mg->G 285 [.str s]=Z (0,[.bool (B s)]))(F:∀p s:z,p.size<=mg->s.size<=mg->G 310 [.str p,.str s]=Z (0,[.bool (mt p s)]))
  {r:M ah->M aD->Bool} {n:ah} {x:aD} (o:fN (aB n)<=mg) (l:fN (bp x)<=mg)
  (hd:n.aw=1\/n.aw=2\/n.aw=3\/n.aw=4) (q:G 322 [az n.ae,aZ x.ae]=Z (0,[.bool (r (dk n.ae) x.ae)])) :
  G 321 (aB n++bp x)=Z (0,[.bool (r8 B mt r n x)]):=by
 rw[dN]at o;rw[jJ]at l;have N:fN (ef n.type)<=mg:=by omega
 have L:n.bl.length<=mg:=by simp only[bQ]at o;omega
 have R:bQ aB n.ae<=mg:=by omega
 have K:x.bq.size<=mg:=by omega
 have H:x.ae.length<=mg:=by simp only[bQ]at l;omega
 have j:=ai_ D F N K;have i:=W9 (n:=n) (x:=x) L H;have m:∀b:Bool,aK .pl [.bool b]=Z (.bool J):=λb=>rfl;clear D F o l N L R K H;simp only[ai,aT,ef,aq,ay]at j i;refine dd ajT (by rw[ai,aT];rfl) ?_;simp only[go_sem,ajT,ai,aT,r8];have Q:∃v1 v2 v3 v4:Bool,Z' (n.aw=1)=v1/\Z' (n.aw=2)=v2/\Z' (n.aw=3)=v3/\Z' (n.aw=4)=v4/\((v1,v2,v3,v4)=(I,J,J,J)\/(v1,v2,v3,v4)=(J,I,J,J)\/(v1,v2,v3,v4)=(J,J,I,J)\/(v1,v2,v3,v4)=(J,J,J,I)):=by
  refine⟨_,_,_,_,rfl,rfl,rfl,rfl,?_⟩;rcases hd with h|h|h|h<;>rw[h]<;>decide
 obtain⟨v1,v2,v3,v4,c1,A,y,t,f⟩:=Q;clear hd;obtain⟨w,g⟩:∃v,Z' (x.ae.length=0)=v:=⟨_,rfl⟩
 have a:Z' ((x.ae.length:Int)=0)=w:=by rw[<- g];apply decide_eq_decide.2;omega
 have cg:Z' ((0:Int) < (x.ae.length:Int))=!w:=by rw[<- g,<- decide_not];apply decide_eq_decide.2;omega
 have c:Z' (0 < x.ae.length)=!w:=by rw[<- g,<- decide_not];apply decide_eq_decide.2;omega
 obtain⟨e,k⟩:∃v,Z' (x.bq=⟨#[]⟩)=v:=⟨_,rfl⟩
 have d:Z' (x.bq.size=0)=e:=by rw[<- k,a_]
 cases C:r (dk n.ae) x.ae<;>rcases f with f|f|f|f<;>cases f<;>cases w<;>cases e<;>simp only[go_sem,y,t,A,g,a,cg,c,k,d,j,i,c1,q,m,C]
 all_goals try (cases P:(keyOf n x).2<;>simp only[go_sem,y,t,A,g,a,cg,c,k,d,j,i,c1,q,m,P])
 all_goals try (cases S:n.cT<;>simp only[go_sem,y,t,A,g,a,cg,c,k,d,j,i,c1,q,m,S])
 all_goals try rw[C]
end
section
def sH(t:u (aD×Nat))(s:ah)(k:Nat)(e:aD):Bool:=match t with
 |none=>I
 |some (p,a)=>if Z' (a=k) && kV s.aw then iK (keyOf s p).1 (keyOf s e).1 else Z' (a < k)
def mj{b:Type}(a:b)(nr:ah->aD->Bool)(d:M ah)(i:Nat)(t:u (aD×Nat))(e:aD):Sg (u (aD×Nat)) b:=match dh d e.name_q with
 |none=>.out a
 |some k=>match nth d k with
  |none=>.out a
  |some s=>if (nr s e && sH t s k e)=I then .go (Z (e,k)) else .out a
def FE{a b:Type}:Sg a b->Bool
 | .go _=>I
 | .out _=>J
def jg(nr:ah->aD->Bool)(d:M ah)(l:M aD):Bool:=FE (iI (mj () nr d) 0 O l)
theorem Mb{b:Type}(c:b)(nr:ah->aD->Bool)(d:M ah)(fin:u (aD×Nat)->b)(yes:b)(hf:∀t,fin t=yes):∀(l:M aD) (i:Nat) (t:u (aD×Nat)),
  sgF fin (iI (mj c nr d) i t l)=if FE (iI (mj () nr d) i t l)=I then yes else c
 |[],_,t=>hf t
 |e::l,i,t=>by
  cases a:dh d e.name_q with
  |none=>simp only[iI,mj,a];rfl
  |some k=>
   cases f:nth d k with
   |none=>simp only[iI,mj,a,f];rfl
   |some s=>
    cases h:(nr s e && sH t s k e)
    ·simp only[iI,mj,a,f,h,aC,if_false];rfl
    ·simp only[iI,mj,a,f,h,if_true];exact Mb c nr d fin yes hf l (i+1) (Z (e,k))
def VU(d:M ah)(l:M aD)(i:Nat)(t:u (aD×Nat)):Prop:=match t with
 |none=>i=0
 |some (p,k)=>∃j,i=j+1/\nth l j=Z p/\dh d p.name_q=Z k
theorem aiX{nr:ah->aD->Bool}{d:M ah}{l:M aD}(hd:bQ aB d<=mg)(B:bQ bp l<=mg)
  (P:∀s e,s∈d->e∈l->G 245 (aB s++bp e)=Z (0,[.bool (nr s e)])):G 246 [az d,aZ l]=Z (0,[.bool (jg nr d l)]):=by
 have C:d.length<=mg:=by simp only[bQ]at hd;omega
 have T:l.length<=mg:=by simp only[bQ]at B;omega
 refine dd t246 rfl ?_;simp only[go_sem,t246];have K:=yD (b:=lB G AK) l (λi (t:u (aD×Nat))=>(0,[az d,aZ l,E (i:Int)])) (mj (0,[.bool J]) nr d) (λt=>(1,[az d,aZ l,E l.length,.bool J])) (VU d l) O rfl (by
  intro i e t a x;have o:=bF a;have X:=wj o T;have w:=Xc (l:=d) (nm:=e.name_q) C;cases hf:dh d e.name_q with
  |none=>
   rw[hf]at w;simp only[go_sem,bn,AK,o,aN,a,aT e,w,jG,mj,hf,MH];intro g f;cases f
  |some k=>
   rw[hf]at w;obtain⟨s,r,h2⟩:=dy hf;have g1:=P s e (bz r) (bz a);have F:Z' ((k:Int) < 0)=J:=by simp only[decide_eq_false_iff_not];omega
   simp only[ai,aT,aq,ay]at g1;have c:∀g,Sg.go (Z (e,k))=(Sg.go g:Sg (u (aD×Nat)) (Nat×M D))->VU d l (i+1) g:=by
    intro g f;cases f;exact⟨i,rfl,a,hf⟩
   have U:mj (0,[D.bool J]) nr d i t e=if (nr s e && sH t s k e)=I then .go (Z (e,k)) else .out (0,[D.bool J]):=by simp only[mj,hf,r]
   rw[U];cases t with
   |none=>
    obtain rfl:i=0:=x;simp only[go_sem,bn,AK,o,aN,a,r,aT e,ai s,w,jG,g1,F,cR,ba,sH,iz];cases H:nr s e
    ·simp only[go_sem,H,MH];intro g f;cases f
    ·simp only[go_sem,H,MH];exact⟨rfl,c⟩
   |some pk=>
    obtain⟨p,m⟩:=pk;obtain⟨j,rfl,i2,i3⟩:=x;obtain⟨h,i4,_⟩:=dy i3;have S:h.bl.length<=mg:=by
     have a1:=eh aB (bz i4);rw[dN]at a1;simp only[bQ]at a1 hd;omega
    have A:∀y:aD,y∈l->y.ae.length<=mg:=by
     intro y W;have a1:=eh bp W;rw[jJ]at a1;simp only[bQ]at a1 B;omega
    have g2:=aiY C S (A p (bz i2)) (A e (bz a)) i3 hf i4;have g3:(if Z' (m=k) && kV h.aw then iK (keyOf h p).1 (keyOf h e).1 else Z' (m < k))=sH (Z (p,m)) s k e:=by
     by_cases L:m=k
     ·subst L;have:h=s:=iE (i4.symm.trans r);subst this;simp only[sH]
     ·simp[sH,L]
    rw[g3]at g2;simp only[aT,aq,ay]at g2;have R:IntKind.i64.wrap (((j+1:Nat):Int) - 1)=(j:Int):=by rw[wrap_i64 (by simp only[mg]at T;omega)];omega
    have Q:(0:Int) < ((j+1:Nat):Int):=by omega
    have N:j < l.length:=by omega
    clear hd B P S A g3;obtain⟨Y,q⟩:∃v,sH (Z (p,m)) s k e=v:=⟨_,rfl⟩
    obtain⟨V,n⟩:∃v,nr s e=v:=⟨_,rfl⟩
    rw[q]at g2;rw[n]at g1;rw[q,n];simp only[go_sem,bn,AK,o,N,aN,a,i2,r,aT e,aT p,ai s,w,jG,g1,g2,F,cR,ba,R,Q];cases V<;>cases Y<;>simp only[go_sem,MH,R,Q,aN,a,i2,N,o,aT e,aT p,g2,cR,X]
    all_goals try (intro g f;cases f)
    all_goals exact c _ rfl) (by
  intro t x;simp only[go_sem,bn,AK,aG])
 rw[n0,Mb (yes:=(1,[az d,aZ l,E l.length,.bool J])) (hf:=λ_=>rfl)]at K;rw[K,jg];cases FE (iI (mj () nr d) 0 O l)<;>simp only[go_sem]
end
section
def tU(t:u (aD×Nat)):Int:=match t with
 |none=>-1
 |some (_,k)=>(k:Int)
theorem EL{g:Type}(c:g)(nr:ah->aD->Bool)(d:M ah)(fin:u (aD×Nat)->g):∀(l:M aD) (i:Nat) (t:u (aD×Nat)),
  ∃b,sgF fin (iI (mj c nr d) i t l)=if FE (iI (mj () nr d) i t l)=I then fin b else c
 |[],_,t=>⟨t,rfl⟩
 |e::l,i,t=>by
  cases a:dh d e.name_q with
  |none=>exact⟨t,by simp only[iI,mj,a];rfl⟩
  |some k=>
   cases f:nth d k with
   |none=>exact⟨t,by simp only[iI,mj,a,f];rfl⟩
   |some s=>
    cases h:(nr s e && sH t s k e)
    ·exact⟨t,by simp only[iI,mj,a,f,h,aC,if_false];rfl⟩
    ·obtain⟨b,j⟩:=EL c nr d fin l (i+1) (Z (e,k));exact⟨b,by simp only[iI,mj,a,f,h,if_true];exact j⟩
theorem aeT{nr:ah->aD->Bool}{d:M ah}{l:M aD}(hd:bQ aB d<=mg)(x:bQ bp l<=mg)
  (r:d=[]) (B:∀s e,s∈d->e∈l->G 321 (aB s++bp e)=Z (0,[.bool (nr s e)])) :
  ∃t,bK (lB G DX) (0,[aZ l,E (-1),aZ l,E l.length,E 0,az d,aO (d.map ah.name_q)])=Z (if jg nr d l=I then (1,[aZ l,E (tU t),aZ l,E l.length,E l.length,.bool J,az d,aO (d.map ah.name_q)]) else (0,[.bool J])):=by
 have n:d.length<=mg:=by simp only[bQ]at hd;omega
 have y:l.length<=mg:=by simp only[bQ]at x;omega
 have h:=yD (b:=lB G DX) l (λi (t:u (aD×Nat))=>(0,[aZ l,E (tU t),aZ l,E l.length,E (i:Int),az d,aO (d.map ah.name_q)])) (mj (0,[.bool J]) nr d) (λt=>(1,[aZ l,E (tU t),aZ l,E l.length,E l.length,.bool J,az d,aO (d.map ah.name_q)])) (VU d l) O rfl (by
  intro i e t g q;have j:=bF g;have A:=wj j y;have c:=q96 (l:=d.map ah.name_q) (v:=e.name_q) (by rw[aj];exact n);rw[Dt]at c;cases a:dh d e.name_q with
  |none=>
   rw[a]at c;have p:aK .pl [E (-1)]=Z (.bool J):=rfl;simp only[go_sem,bn,DX,j,aN,g,aT e,c,jG,mj,a,MH,p,cR];intro f o;cases o
  |some k=>
   obtain⟨s,m,_⟩:=dy a;rw[r]at m;cases m) (by
  intro t q;simp only[go_sem,bn,DX,aG])
 obtain⟨f,w⟩:=EL (0,[D.bool J]) nr d (λt=>(1,[aZ l,E (tU t),aZ l,E l.length,E l.length,.bool J,az d,aO (d.map ah.name_q)])) l 0 O;rw[n0,w]at h;exact⟨f,h⟩
theorem aeU{nr:ah->aD->Bool}{d:M ah}{l:M aD}(hd:bQ aB d<=mg)(Nk:bQ bp l<=mg)
  (hN:∀s e,s∈d->e∈l->G 321 (aB s++bp e)=Z (0,[.bool (nr s e)])) :
  ∃t,bK (lB G tf) (0,[aZ l,E (-1),aZ l,E l.length,E 0,az d,aO (d.map ah.name_q)])=Z (if jg nr d l=I then (1,[aZ l,E (tU t),aZ l,E l.length,E l.length,.bool J,az d,aO (d.map ah.name_q)]) else (0,[.bool J])):=by
 have vK:d.length<=mg:=by simp only[bQ]at hd;omega
 have Bz:l.length<=mg:=by simp only[bQ]at Nk;omega
 have hl:=yD (b:=lB G tf) l (λi (t:u (aD×Nat))=>(0,[aZ l,E (tU t),aZ l,E l.length,E (i:Int),az d,aO (d.map ah.name_q)])) (mj (0,[.bool J]) nr d) (λt=>(1,[aZ l,E (tU t),aZ l,E l.length,E l.length,.bool J,az d,aO (d.map ah.name_q)])) (VU d l) O rfl (by
  intro i e t r X;have F:=bF r;have U:=wj F Bz;have A:=q96 (l:=d.map ah.name_q) (v:=e.name_q) (by rw[aj];exact vK);rw[Dt]at A;cases H:dh d e.name_q with
  |none=>
   rw[H]at A;have C:aK .pl [E (-1)]=Z (.bool J):=rfl;simp only[go_sem,bn,tf,F,aN,r,aT e,A,jG,mj,H,MH,C,cR];intro q h;cases h
  |some k=>
   rw[H]at A;obtain⟨s,L,h2⟩:=dy H;have g1:=hN s e (bz L) (bz r);have N:Z' ((k:Int) < 0)=J:=by simp only[decide_eq_false_iff_not];omega
   simp only[ai,aT,aq,ay]at g1;have C:aK .pl [E (k:Int)]=Z (.bool J):=rfl;have Q:=abK L;have P:=xP 19 J (d.map aB) k (by rw[aj];exact bF L);have f:∀q,Sg.go (Z (e,k))=(Sg.go q:Sg (u (aD×Nat)) (Nat×M D))->VU d l (i+1) q:=by
    intro q h;cases h;exact⟨i,rfl,r,H⟩
   have qf:mj (0,[D.bool J]) nr d i t e=if (nr s e && sH t s k e)=I then .go (Z (e,k)) else .out (0,[D.bool J]):=by simp only[mj,H,L]
   rw[qf];have b1:∀y:ah,y∈d->y.bl.length<=mg:=by
    intro y T;have a1:=eh aB T;rw[dN]at a1;simp only[bQ]at a1 hd;omega
   have b2:∀y:aD,y∈l->y.ae.length<=mg:=by
    intro y T;have a1:=eh bp T;rw[jJ]at a1;simp only[bQ]at a1 Nk;omega
   clear hN hd Nk;cases t with
   |none=>
    obtain rfl:i=0:=X;have g:Z' ((k:Int) < -1)=J:=by simp only[decide_eq_false_iff_not];omega
    have w:Z' ((k:Int)=-1)=J:=by simp only[decide_eq_false_iff_not];omega
    obtain⟨K,m⟩:∃v,nr s e=v:=⟨_,rfl⟩
    rw[m]at g1;rw[m];simp only[go_sem,bn,tf,F,aN,r,aT e,ai s,A,jG,g1,N,cR,sH,tU,C,Q,P,g,w];cases K<;>simp only[go_sem,MH,U,g,w]
    ·intro q h;cases h
    ·exact f
   |some pk=>
    obtain⟨p,x⟩:=pk;obtain⟨j,rfl,i2,i3⟩:=X;have g2:=ajc (n:=s) (a:=p) (b:=e) (b1 s (bz L)) (b2 p (bz i2)) (b2 e (bz r));simp only[ai,aT,aq,ay]at g2;have e1:IntKind.i64.wrap (((j+1:Nat):Int) - 1)=(j:Int):=by rw[wrap_i64 (by simp only[mg]at Bz;omega)];omega
    have hj:j < l.length:=by omega
    obtain⟨Y,B⟩:∃v,sH (Z (p,x)) s k e=v:=⟨_,rfl⟩
    obtain⟨K,m⟩:∃v,nr s e=v:=⟨_,rfl⟩
    have R:Y=if x=k then Z' (tV s p e < 0) else Z' (x < k):=by
     rw[<- B];by_cases hk:x=k
     ·subst hk;cases hr:kV s.aw<;>simp[sH,hr,tV,yS]
     ·simp[sH,hk]
    rw[m]at g1;rw[B,m];clear b1 b2 qf B;obtain⟨o,W⟩:∃v,Z' (0<=tV s p e)=v:=⟨_,rfl⟩
    have V:Z' (tV s p e < 0)=!o:=by rw[<- W,<- decide_not];apply decide_eq_decide.2;omega
    rcases Nat.lt_trichotomy k x with c|c|c
    ·have g:Z' ((k:Int) < (x:Int))=I:=by simp only[decide_eq_true_eq];omega
     have S:Y=J:=by rw[R,if_neg (by omega)];simp only[decide_eq_false_iff_not];omega
     subst S;simp only[go_sem,bn,tf,F,aN,r,aT e,ai s,A,jG,g1,N,cR,tU,C,Q,P,g];cases K<;>simp only[go_sem,MH,g]
     all_goals (intro q h;cases h)
    ·subst c;have g:Z' ((k:Int) < (k:Int))=J:=by simp
     have w:Z' ((k:Int)=(k:Int))=I:=by simp
     rw[if_pos rfl,V]at R;subst R;simp only[go_sem,bn,tf,F,hj,aN,r,i2,aT e,aT p,ai s,A,jG,g1,g2,N,cR,tU,C,Q,P,g,w,e1,W];cases K<;>cases o<;>simp only[go_sem,MH,U,g,w,e1,hj,aN,i2,aT p,cR,g2,W]
     all_goals first|exact⟨rfl,f⟩|exact f|(intro q h;cases h)
    ·have g:Z' ((k:Int) < (x:Int))=J:=by simp only[decide_eq_false_iff_not];omega
     have w:Z' ((k:Int)=(x:Int))=J:=by simp only[decide_eq_false_iff_not];omega
     have S:Y=I:=by rw[R,if_neg (by omega)];simp only[decide_eq_true_eq];omega
     subst S;simp only[go_sem,bn,tf,F,aN,r,aT e,ai s,A,jG,g1,N,cR,tU,C,Q,P,g,w];cases K<;>simp only[go_sem,MH,U,g,w]
     all_goals first|exact⟨rfl,f⟩|exact f|(intro q h;cases h)) (by
  intro t X;simp only[go_sem,bn,tf,aG])
 obtain⟨q,h'⟩:=EL (0,[D.bool J]) nr d (λt=>(1,[aZ l,E (tU t),aZ l,E l.length,E l.length,.bool J,az d,aO (d.map ah.name_q)])) l 0 O;rw[n0,h']at hl;exact⟨q,hl⟩
end
section
theorem ajb{nr:ah->aD->Bool}{ks:M ah}{l:M aD}(f:bQ aB ks<=mg)(h:bQ bp l<=mg)
  (g:∀s e,s∈dk ks->e∈l->G 321 (aB s++bp e)=Z (0,[.bool (nr s e)])):G 322 [az ks,aZ l]=Z (0,[.bool (jg nr (dk ks) l)]):=by
 have hd:=aL (nH (es:=ks)) f;have j:(dk ks).length<=mg:=by simp only[bQ]at hd;omega
 have a:=q94 f;have i:=q95 (l:=dk ks) j;refine dd ajU rfl ?_;simp only[go_sem,ajU];by_cases c:dk ks=[]
 ·have d:kE (dk ks)=0:=by rw[c];rfl
  obtain⟨t,b⟩:=aeT hd h c g;simp only[go_sem,a,d,i,b];cases jg nr (dk ks) l<;>simp only[go_sem]
 ·have d:kE (dk ks)=1:=iU c;obtain⟨t,b⟩:=aeU hd h g;simp only[go_sem,a,d,i,b];cases jg nr (dk ks) l<;>simp only[go_sem]
end
section
def jR(a:z->Bool)(mt:z->z->Bool):Nat->ah->aD->Bool
 |0,_,_=>J
 |N+1,n,x=>r8 a mt (jg (jR a mt N)) n x
theorem aeE{a:z->Bool}{mt:z->z->Bool}(i:∀s:z,s.size<=mg->G 227 [.str s]=Z (0,[.bool (a s)]))(j:∀p s:z,p.size<=mg->s.size<=mg->G 236 [.str p,.str s]=Z (0,[.bool (mt p s)]))
  (N:Nat):∀(n:ah) (x:aD),av x < N->fN (aB n)<=mg->fN (bp x)<=mg->G 245 (aB n++bp x)=Z (0,[.bool (jR a mt N n x)]):=by
 induction N with
 |zero=>intro n x h;omega
 |succ N f=>
  intro n x h c b;refine aml (r:=jg (jR a mt N)) i j c b ?_;have a1:=c;have a2:=b;rw[dN]at a1;rw[jJ]at a2;have l:bQ aB (dk n.ae)<=mg:=aL nH (by omega);have k:bQ bp x.ae<=mg:=by omega
  refine aiX l k ?_;intro s e g d;have c1:=eh aB g;have o:=eh bp d;have m:=aD.DB d;exact f s e (by omega) (by omega) (by omega)
end
section
theorem Ii(n:Nat):∀(es:M ah),av es < n->∀s,s∈dk es->mc s.aw=I:=by
 induction n with
 |zero=>intro es h;omega
 |succ n b=>
  intro es h s a;cases es with
  |nil=>rw[sN]at a;cases a
  |cons e es=>
   rw[nb]at a;rcases aS.1 a with a|a
   ·unfold uI at a
    split at a
    ·rename_i c;rw[bI.1 a];exact c
    ·split at a
     ·have d:=ah.gI e es;exact b e.ae (by omega) s a
     ·cases a
   ·exact b es (by simp only[bo]at h;omega) s a
theorem KJ{k:Int}(h:mc k=I):k=1\/k=2\/k=3\/k=4:=by
 simp only[mc,fG,af,decide_eq_true_eq]at h;omega
theorem aeS{a:z->Bool}{mt:z->z->Bool}(k:∀s:z,s.size<=mg->G 285 [.str s]=Z (0,[.bool (a s)]))(l:∀p s:z,p.size<=mg->s.size<=mg->G 310 [.str p,.str s]=Z (0,[.bool (mt p s)]))
  (N:Nat):∀(n:ah) (x:aD),av x < N->mc n.aw=I->fN (aB n)<=mg->fN (bp x)<=mg->G 321 (aB n++bp x)=Z (0,[.bool (jR a mt N n x)]):=by
 induction N with
 |zero=>intro n x h;omega
 |succ N i=>
  intro n x h j d b;refine amK (r:=jg (jR a mt N)) k l d b (KJ j) ?_;have a1:=d;have a2:=b;rw[dN]at a1;rw[jJ]at a2;have g:bQ aB n.ae<=mg:=by omega
  have t:bQ aB (dk n.ae)<=mg:=aL nH g;have m:bQ bp x.ae<=mg:=by omega
  refine ajb g m ?_;intro s e c f;have c1:=eh aB c;have q:=eh bp f;have o:=aD.DB f;exact i s e (by omega) (Ii _ _ (aY _) s c) (by omega) (by omega)
end
section
noncomputable def s6(a:z->Bool)(mt:z->z->Bool)(ok:Bool)(s:M ah)(l:M aD):Bool:=
 ok && (Z' (ez l<=120) && jg (jR a mt (av l)) (dk s) l)
theorem ab1{l:M aD}{e:aD}(h:e∈l):av e < av l:=aX h
theorem amo{a:z->Bool}{mt:z->z->Bool}(j:∀s:z,s.size<=mg->G 227 [.str s]=Z (0,[.bool (a s)]))(k:∀p s:z,p.size<=mg->s.size<=mg->G 236 [.str p,.str s]=Z (0,[.bool (mt p s)]))
  {ok:Bool} {s:M ah} {l:M aD} (f:bQ aB s<=mg) (h:bQ bp l<=mg) (t:G 241 [az s]=Z (0,[.bool ok])):G 250 [az s,aZ l]=Z (0,[.bool (s6 a mt ok s l)]):=by
 obtain⟨r,A,m⟩:=amj (l:=l) (x:=120) h (by omega) (by omega);have y:=q81 f;have w:=aiX (nr:=jR a mt (av l)) (d:=dk s) (l:=l) (aL nH f) h (by
  intro n e o i;have c1:=eh aB o;have C:=eh bp i;have B:=nH (es:=s);exact aeE j k _ n e (ab1 i) (by omega) (by omega))
 have g:Z' (0<=r)=Z' (ez l<=120):=by
  apply decide_eq_decide.2
  unfold Cc at m;omega
 have q:∀b:Bool,aK .pl [.bool b]=Z (.bool J):=λb=>rfl;clear j k m;refine dd t250 rfl ?_;simp only[go_sem,t250,t,s6];obtain⟨v,c⟩:∃v,Z' (ez l<=120)=v:=⟨_,rfl⟩
 rw[c]at g;cases ok<;>cases v<;>simp only[go_sem,A,y,w,g,c,q]
theorem amO{a:z->Bool}{mt:z->z->Bool}(i:∀s:z,s.size<=mg->G 285 [.str s]=Z (0,[.bool (a s)]))(j:∀p s:z,p.size<=mg->s.size<=mg->G 310 [.str p,.str s]=Z (0,[.bool (mt p s)]))
  {ok:Bool} {s:M ah} {l:M aD} (k:bQ aB s<=mg) (g:bQ bp l<=mg) (m:G 316 [az s]=Z (0,[.bool ok])):G 327 [az s,aZ l]=Z (0,[.bool (s6 a mt ok s l)]):=by
 have o:=amJ g;have n:=ajb (nr:=jR a mt (av l)) (ks:=s) (l:=l) k g (by
  intro b e c h;have c1:=eh aB c;have r:=eh bp h;have q:=nH (es:=s);exact aeS i j _ b e (ab1 h) (Ii _ _ (aY _) b c) (by omega) (by omega))
 have f:Z' ((ez l:Int)<=120)=Z' (ez l<=120):=by apply decide_eq_decide.2;omega
 clear i j;refine dd ajZ rfl ?_;simp only[go_sem,ajZ,m,s6];obtain⟨v,d⟩:∃v,Z' (ez l<=120)=v:=⟨_,rfl⟩
 rw[d]at f;cases ok<;>cases v<;>simp only[go_sem,o,n,f,d]
end
section
theorem Un:∀(a b:M UInt8),Op.bytesLess a b=J->Op.bytesLess b a=J->a=b
 |[],[],_,_=>rfl
 |[],y::b,h,_=>by simp[Op.bytesLess]at h
 |x::a,[],_,h=>by simp[Op.bytesLess]at h
 |x::a,y::b,d,c=>by
  unfold Op.bytesLess at d c;by_cases h:x < y
  ·simp[h]at d
  ·by_cases f:y < x
   ·simp[f]at c
   ·have e:x=y:=by
     have a1:¬x.toNat < y.toNat:=h;have a2:¬y.toNat < x.toNat:=f;exact UInt8.toNat_inj.1 (by omega)
    subst e;simp[h]at d c;rw[Un a b d c]
theorem aff{a b:z}(d:kG a b=J)(c:kG b a=J):a=b:=by
 have h:=Un a.toList b.toList d c;have e:∀x:z,x.toList=x.data.toList:=λx=>ByteArray.toList_eq x;rw[e,e]at h;cases a;cases b
 simp only[ByteArray.mk.injEq]at h ⊢;exact Array.toList_inj.1 h
theorem C0{a b:z}:qh a b=0↔a=b:=by
 unfold qh;by_cases h:kG a b=I
 ·simp only[h,if_true]
  constructor
  ·intro h;omega
  ·rintro rfl;rw[Of]at h;cases h
 ·rw[if_neg h];by_cases e:a=b
  ·simp[e]
  ·simp[e]
theorem H_:∀{a b:M z},cmpL a b=0↔a=b
 |[],[]=>by simp[uG]
 |[],y::b=>by simp[uG]
 |x::a,[]=>by rw[Gl];simp
 |x::a,y::b=>by
  rw[zY];split
  ·rename_i h;rw[H_,C0.1 h];simp
  ·rename_i h
   constructor
   ·intro c;exact absurd c h
   ·intro c;cases c;exact absurd (C0.2 rfl) h
theorem Kt:∀{a b:M z},¬cmpL a b < 0->¬cmpL b a < 0->a=b
 |[],[],_,_=>rfl
 |[],y::b,h,_=>by rw[uG]at h;simp at h
 |x::a,[],_,h=>by rw[uG]at h;simp at h
 |x::a,y::b,d,c=>by
  rw[zY]at d c;by_cases e:x=y
  ·subst e;rw[if_pos (C0.2 rfl)]at d c;rw[Kt d c]
  ·rw[if_neg (λh=>e (C0.1 h))]at d;rw[if_neg (λh=>e (C0.1 h).symm)]at c;have a1:kG x y=J:=by
    cases h:kG x y with
    |false=>rfl
    |true=>exfalso;apply d;simp[qh,h]
   have a2:kG y x=J:=by
    cases h:kG y x with
    |false=>rfl
    |true=>exfalso;apply c;simp[qh,h]
   exact absurd (aff a1 a2) e
theorem I9(a b:M z):(!iK a b && !iK b a)=Z' (a=b):=by
 rw[yS,yS,dL];simp only[af,bY,decide_eq_false_iff_not,decide_eq_true_eq]
 constructor
 ·rintro⟨d,c⟩;exact Kt d c
 ·rintro rfl;have:=(H_ (a:=a) (b:=a)).2 rfl;omega
def VP(n:ah)(l:M aD)(v:z)(a:M z):u Nat:=
 nZ (λy=>Z' (y.name_q=n.name_q) && (!(Z' (n.aw=4) && !Z' (y.bq=v)) && (!Z' (n.aw=2) ||(!iK (keyOf n y).1 a && !iK a (keyOf n y).1)))) l 0
def BJ(n:ah)(a b:aD):Bool:=!kV n.aw ||((keyOf n a).2 && ((keyOf n b).2 && Z' ((keyOf n a).1=(keyOf n b).1)))
def rV(n:ah)(l:M aD)(x:aD):u Nat:=
 nZ (λy=>Z' (y.name_q=n.name_q) && (Z' (tV n x y=0) && BJ n x y)) l 0
theorem GH{a:Type}{p q:a->Bool}:∀{l:M a} {k:Nat},(∀x∈l,p x=q x)->nZ p l k=nZ q l k
 |[],_,_=>rfl
 |y::l,k,h=>by simp only[nZ,h y aU,GH λx b=>h x (bk _ b)]
theorem idx_eq{n:ah}{l:M aD}{x:aD}(j:n.aw=2->(keyOf n x).2=I)(k:∀y∈l,y.name_q=n.name_q->n.aw=2->(keyOf n y).2=I):VP n l x.bq (keyOf n x).1=rV n l x:=by
 refine GH λy i=>?_;by_cases e:y.name_q=n.name_q
 ·simp only[e,decide_true,cJ];by_cases b:n.aw=2
  ·have c:¬n.aw=4:=by omega
   have d:kV n.aw=I:=by simp[kV,b]
   have g:¬(2:Int)=4:=by decide
   simp only[b,g,decide_true,decide_false,cI,dZ,cJ,eP,fh,I9,BJ,d,j b,k y i e b,tV,if_true,show kV 2=I from rfl];rw[dL];simp only[af,decide_eq_true_eq,H_,and_self];exact eq_comm
  ·by_cases c:n.aw=4
   ·have d:kV n.aw=I:=by simp[kV,c]
    have h:∀a:aD,keyOf n a=([a.bq],I):=λa=>by rw[keyOf,if_neg b]
    have f:¬(4:Int)=2:=by decide
    simp only[c,f,decide_true,decide_false,cJ,dZ,ir,ed,aI,BJ,d,tV,if_true,h,show kV 4=I from rfl,eP,fh];rw[dL];simp only[af,decide_eq_true_eq,H_,and_self,bZ,and_true];exact eq_comm
   ·have d:kV n.aw=J:=by simp[kV,b,c]
    simp only[b,c,decide_false,cI,dZ,ir,ed,BJ,d,tV,aC,if_false,decide_true]
 ·simp only[e,decide_false,cI]
section
variable {ip:z->Bool} {mt:z->z->Bool}
def Rt(ip:z->Bool)(mt:z->z->Bool)(d:M ah)(l:M aD):Prop:=∃N,jg (jR ip mt N) d l=I
theorem A_{nr:ah->aD->Bool}{d:M ah}:∀{l:M aD} {i:Nat} {t:u (aD×Nat)},FE (iI (mj () nr d) i t l)=I->∀x∈l,∃k n,dh d x.name_q=Z k/\nth d k=Z n/\nr n x=I
 |e::l,i,t,h,x,c=>by
  cases a:dh d e.name_q with
  |none=>simp only[iI,mj,a]at h;cases h
  |some k=>
   cases b:nth d k with
   |none=>simp only[iI,mj,a,b]at h;cases h
   |some s=>
    cases f:(nr s e && sH t s k e) with
    |false=>simp only[iI,mj,a,b,f,aC,if_false]at h;cases h
    |true=>
     simp only[iI,mj,a,b,f,if_true]at h;rcases aP.1 c with rfl|c
     ·exact⟨k,s,a,b,(af _ _▸f).1⟩
     ·exact A_ h x c
theorem acq{d:M ah}:Rt ip mt d []:=⟨0,rfl⟩
theorem xd{d:M ah}{l:M aD}(h:Rt ip mt d l){x:aD}(c:x∈l):∃k n,dh d x.name_q=Z k/\nth d k=Z n/\(n.aw=2->(keyOf n x).2=I)/\Rt ip mt (dk n.ae) x.ae:=by
 obtain⟨N,e⟩:=h;obtain⟨k,n,g,f,a⟩:=A_ e x c;refine⟨k,n,g,f,?_⟩;cases N with
 |zero=>cases a
 |succ N=>
  simp only[jR,r8]at a
  split at a
  ·rename_i b;simp only[dr,decide_eq_true_eq]at b;simp only[af,decide_eq_true_eq]at a;refine⟨λh=>by omega,?_⟩;rw[cG.1 a.1];exact acq
  ·split at a
   ·simp only[af]at a;exact⟨λ_=>a.1,N,a.2.2⟩
   ·rename_i b;simp only[af]at a;refine⟨λh=>by simp[h]at b,N,a.2.2⟩
theorem R0{ok:Bool}{s:M ah}{l:M aD}(h:s6 ip mt ok s l=I):Rt ip mt (dk s) l:=by
 simp only[s6,af]at h;exact⟨_,h.2.2⟩
def pS(ix:ah->M aD->aD->u Nat)(s:M ah)(b:M aD)(x:aD):u (ah×aD):=match dh (dk s) x.name_q with
 |some k=>(match nth (dk s) k with
  |some n=>(match ix n b x with
   |some j=>(match nth b j with
    |some y=>if (Z' (n.aw=3) && !Z' (y.bq=x.bq))=I then O else Z (n,y)
    |none=>O)
   |none=>O)
  |none=>O)
 |none=>O
def TV(n:ah)(b:M aD)(x:aD):u Nat:=VP n b x.bq (keyOf n x).1
def qA(ix:ah->M aD->aD->u Nat):Nat->M ah->M aD->M aD->Bool
 |0,_,_,_=>J
 |m+1,s,a,b=>a.all λx=>match pS ix s b x with
  |some (n,y)=>qA ix m n.ae x.ae y.ae
  |none=>J
theorem aho{s:M ah}{a b:M aD}(p:Rt ip mt (dk s) a)(o:Rt ip mt (dk s) b){x:aD}(l:x∈a){k:Nat}{n:ah}(f:dh (dk s) x.name_q=Z k)(d:nth (dk s) k=Z n):TV n b x=rV n b x:=by
 have m:n.name_q=x.name_q:=by
  obtain⟨e,g,q⟩:=dy f;rw[d]at g;cases g
  simpa using q
 refine idx_eq (λc=>?_) λy j r c=>?_
 ·obtain⟨i,h,g1,g2,g3,_⟩:=xd p l;rw[f]at g1;cases g1;rw[d]at g2;cases g2;exact g3 c
 ·obtain⟨i,h,g1,g2,g3,_⟩:=xd o j;rw[r,m,f]at g1;cases g1;rw[d]at g2;cases g2;exact g3 c
theorem aax{s:M ah}{a b:M aD}(e:Rt ip mt (dk s) a)(d:Rt ip mt (dk s) b){x:aD}(c:x∈a):pS TV s b x=pS rV s b x:=by
 unfold pS;split
 ·rename_i k g;split
  ·rename_i n f;rw[aho e d c g f]
  ·rfl
 ·rfl
theorem aaw{ix:ah->M aD->aD->u Nat}(d:∀n l x j y,ix n l x=Z j->nth l j=Z y->y.name_q=n.name_q){s:M ah}{a b:M aD}(v:Rt ip mt (dk s) a)(t:Rt ip mt (dk s) b){x y:aD}{n:ah}(r:x∈a)
  (h:pS ix s b x=Z (n,y)):Rt ip mt (dk n.ae) x.ae/\Rt ip mt (dk n.ae) y.ae/\n∈dk s/\y∈b/\n.name_q=x.name_q:=by
 unfold pS at h
 split at h
 ·rename_i k g
  split at h
  ·rename_i i c
   split at h
   ·rename_i j w
    split at h
    ·rename_i B f
     split at h
     ·cases h
     ·cases h;obtain⟨e,o,A⟩:=dy g;rw[c]at o;cases o;have m:n.name_q=x.name_q:=by simpa using A
      have q:=d _ _ _ _ _ w f;refine⟨?_,?_,bz c,bz f,m⟩
      ·obtain⟨p,i,g1,g2,_,g4⟩:=xd v r;rw[g]at g1;cases g1;rw[c]at g2;cases g2;exact g4
      ·obtain⟨p,i,g1,g2,_,g4⟩:=xd t (bz f);rw[q,m,g]at g1;cases g1;rw[c]at g2;cases g2;exact g4
    ·cases h
   ·cases h
  ·cases h
 ·cases h
theorem RX(n:ah)(l:M aD)(x:aD)(j:Nat)(y:aD)(h:rV n l x=Z j)(c:nth l j=Z y):y.name_q=n.name_q:=by
 obtain⟨e,b,a⟩:=dy h;rw[c]at b;cases b;simp only[af,decide_eq_true_eq]at a;exact a.1
theorem Qo:∀(m:Nat) (s:M ah) (a b:M aD),Rt ip mt (dk s) a->Rt ip mt (dk s) b->qA TV m s a b=qA rV m s a b
 |0,_,_,_,_,_=>rfl
 |m+1,s,a,b,f,e=>by
  simp only[qA];rw[dL,bg,bg];have h:∀x∈a,(match pS TV s b x with
    |some (n,y)=>qA TV m n.ae x.ae y.ae
    |none=>J)=(match pS rV s b x with
    |some (n,y)=>qA rV m n.ae x.ae y.ae
    |none=>J):=by
   intro x c;rw[aax f e c];cases j:pS rV s b x with
   |none=>rfl
   |some p=>
    obtain⟨n,y⟩:=p;obtain⟨i,g,_⟩:=aaw RX f e c j;exact Qo m n.ae x.ae y.ae i g
  exact⟨λd x c=>(h x c)▸d x c,λd x c=>(h x c).symm▸d x c⟩
end
end
section
def qz(n:ah):Bool:=n.bl.isEmpty && (n.unique.isEmpty && (Z' (n.default.size=0) && (!n.given && (!n.fixed && (Z' (n.min=0) && Z' (n.max=0))))))
def wC(l:M ah)(o:u Nat)(p:ah->Bool):Bool:=match o with
 |some j=>(match nth l j with
  |some x=>p x
  |none=>J)
 |none=>J
def R3(x:ah):Bool:=x.when.isEmpty && (!x.given && !Z' (x.type.aw=6))
def B3(l:M ah)(k:z):Bool:=wC l (dh l k) λx=>Z' (x.aw=3) && R3 x
def EZ(l:M ah)(k:z):Bool:=wC l (dh l k) λx=>Z' (x.aw=3)
def Ee(n:ah):Bool:=n.bl.all (B3 n.ae) && (n.unique.all (EZ n.ae) && (zT n.type && (!n.bl.isEmpty && (vh n.bl && (vh n.unique && (mH n && (!n.given && (!n.fy && (!n.cT && (!n.fixed && Z' (n.default.size=0)))))))))))
def yQ(a:z->Bool)(n:ah):Bool:=n.bl.isEmpty && (n.unique.isEmpty && (Z' (n.min=0) && (Z' (n.max=0) && (!n.cT && (n.ae.isEmpty && isType a n.type)))))
def LC(a:z->Bool)(n:ah):Bool:=n.bl.isEmpty && (n.unique.isEmpty && (Z' (n.default.size=0) && (!n.given && (!n.fixed && (!n.fy && (!n.cT && (n.ae.isEmpty && (mH n && isType a n.type))))))))
def GP(n:ah):Bool:=isName n.name_q && (Fx n.when 1 && Fx n.iP 3)
section
variable (ip:z->Bool) (mt:z->z->Bool)
def jV(n:ah)(free:Bool):Bool:=
 if n.aw=1 then qz n && (!n.fy && zT n.type)
 else if n.aw=2 then Ee n
 else if n.aw=3 then (if n.given=I then yQ ip n && (free && (!n.fy && (n.when.isEmpty && isVal ip mt n.type n.default))) else yQ ip n && Z' (n.default.size=0))
 else if n.aw=4 then LC ip n
 else if n.aw=5 then qz n && (!n.cT && (n.iP.isEmpty && zT n.type))
 else if n.aw=6 then qz n && (!n.cT && (!n.fy && (n.iP.isEmpty && zT n.type)))
 else J
def wU(n:ah)(free:Bool):Bool:=GP n && jV ip mt n free
def sI(n:ah)(free:Bool):Bool:=free && (n.when.isEmpty && !Z' (n.aw=6))
def qP:Nat->M ah->Int->Bool->Nat->Bool
 |0,_,_,_,_=>J
 |m+1,l,k,free,deep=>
  allI (λi n=>Z' (dh l n.name_q=Z i) && (Z' (Z' (k=5)=Z' (n.aw=6)) && (wU ip mt n free && qP m n.ae n.aw (sI n free) (deep+1)))) 0 l &&
   (allI (λi n=>Z' (dh (dk l) n.name_q=Z i)) 0 (dk l) && (Z' (deep<=8) ||l.isEmpty))
def wB(l:M ah)(k:z):Bool:=wC l (l8 l k) R3
def pC(n:ah):Bool:=
 (!Z' (n.aw=3) && (!Z' (n.aw=4) && !zT n.type)) ||
 ((!Z' (n.aw=2) && !(n.bl.isEmpty && n.unique.isEmpty)) ||
 ((!Z' (n.aw=3) && (!Z' (n.default.size=0) ||(n.given ||n.fixed))) ||
 ((!Z' (n.aw=3) && (!Z' (n.aw=5) && n.fy)) ||
 ((!Z' (n.aw=1) && n.cT) ||
 ((!Z' (n.aw=2) && (!Z' (n.aw=4) && (!Z' (n.min=0) ||!Z' (n.max=0)))) ||
 ((!mc n.aw && !n.iP.isEmpty) ||
 ((Z' (n.aw=3) ||decide (n.aw=4)) && !n.ae.isEmpty)))))))
def nj(l:M z):Bool:=Z' (l.length<=3) && (sM l && l.all isName)
def lK(n:ah):Bool:=
 if n.aw=1 then I
 else if n.aw=2 then !n.bl.isEmpty && (nj n.bl && (nj n.unique && mH n))
 else if n.aw=3 then isType ip n.type && (!(n.given && (n.fy ||!n.when.isEmpty)) && (if n.given=I then isVal ip mt n.type n.default else Z' (n.default.size=0)))
 else if n.aw=4 then isType ip n.type && mH n
 else if n.aw=5 then I
 else if n.aw=6 then I
 else if n.aw=7 then n.when.isEmpty && n.ae.isEmpty
 else J
def za(n:ah):Bool:=GP n && (!pC n && lK ip mt n)
def wD:Nat->M ah->Int->Bool->Bool
 |0,_,_,_=>J
 |m+1,l,k,bound=>
  (sM (l.map ah.name_q) && (oH k ||sM ((dk l).map ah.name_q))) &&
   l.all λn=>za ip mt n && (!Z' (n.aw=7) && (Z' (Z' (n.aw=6)=Z' (k=5)) && (!(n.given && bound) && (n.bl.all (wB n.ae) && (n.unique.all (λa=>(l8 n.ae a).isSome) && wD m n.ae n.aw (bound ||(!n.when.isEmpty ||decide (n.aw=6))))))))
end
theorem mm{b:Type}{p:Nat->b->Bool}:∀{l:M b} {i:Nat},allI p i l=I↔∀j x,nth l j=Z x->p (i+j) x=I
 |[],i=>⟨λ_ j x h=>by simp[nth]at h,λ_=>rfl⟩
 |y::l,i=>by
  simp only[allI,af,mm (l:=l)]
  constructor
  ·rintro⟨d,c⟩ j x a
   cases j with
   |zero=>cases a;exact d
   |succ j=>have:=c j x a;rwa [Nat.add_right_comm,cV]at this
  ·intro h;refine⟨h 0 y rfl,λj x a=>?_⟩;have:=h (j+1) x a
   rwa [Nat.add_right_comm,cV]
theorem pR{a:Type}:∀{l:M a} {x:a},x∈l->∃j,nth l j=Z x
 |y::l,x,h=>by
  rcases aP.1 h with rfl|h
  ·exact⟨0,rfl⟩
  ·obtain⟨j,b⟩:=pR h;exact⟨j+1,b⟩
theorem Am{a:Type}{p:a->Bool}:∀{l:M a} {k j:Nat} {e:a},nth l j=Z e->p e=I->(∀i x,i < j->nth l i=Z x->p x=J)->nZ p l k=Z (k+j)
 |y::l,k,0,e,h,b,_=>by cases h;simp only[nZ,b,if_true,eu]
 |y::l,k,j+1,e,h,b,c=>by
  have f:=c 0 y (by omega) rfl;simp only[nZ,f,aC,if_false];rw[Am (l:=l) (k:=k+1) h b λi x g d=>c (i+1) x (by omega) d]
  congr 1;omega
theorem Dh{a:Type}{p:a->Bool}:∀{l:M a} {k j:Nat},nZ p l k=Z j->∀i x,k+i < j->nth l i=Z x->p x=J
 |[],k,j,h=>by simp[nZ]at h
 |y::l,k,j,h=>by
  intro i x d b;simp only[nZ]at h
  split at h
  ·cases h;omega
  ·rename_i c;cases i with
   |zero=>cases b;exact eg.2 c
   |succ i=>exact Dh h i x (by omega) b
theorem AX{g β:Type}(f:g->β):∀{l:M g},(l.map f).Nodup↔∀i j x y,i < j->nth l i=Z x->nth l j=Z y->f x≠f y
 |[]=>by simp[nth]
 |a::l=>by
  simp only[aW,cl,AX f (l:=l)]
  constructor
  ·rintro⟨q,p⟩ i j x y d c b
   obtain⟨j,rfl⟩:∃m,j=m+1:=⟨j - 1,by omega⟩
   cases i with
   |zero=>cases c;exact λe=>q (cm.2 ⟨y,bz (l:=l) b,e.symm⟩)
   |succ i=>exact p i j x y (by omega) c b
  ·intro h;refine⟨λk=>?_,λi j x y d c b=>h (i+1) (j+1) x y (by omega) c b⟩;obtain⟨y,b,o⟩:=cm.1 k;obtain⟨j,n⟩:=pR b;exact h 0 (j+1) a y (by omega) rfl n o.symm
theorem nN(l:M ah):allI (λi n=>Z' (dh l n.name_q=Z i)) 0 l=I↔(l.map ah.name_q).Nodup:=by
 rw[mm,AX];simp only[bD,decide_eq_true_eq]
 constructor
 ·intro h i j x y c a b f;have g:=h j y b;have:=Dh g i x (by omega) a;simp[f]at this
 ·intro h j x a;have:=Am (p:=λe:ah=>Z' (e.name_q=x.name_q)) (k:=0) a (by simp) λi y d b=>by simpa using h i j y x d b a
  rw[bD]at this;exact this
theorem PZ{l:M ah}(f:(l.map ah.name_q).Nodup)(k:z)(p:ah->Bool):wC l (dh l k) (λx=>Z' (x.aw=3) && p x)=wC l (l8 l k) p:=by
 cases h:l8 l k with
 |some j=>
  obtain⟨e,b,a⟩:=dy h;simp only[af,decide_eq_true_eq]at a;have:dh l k=Z j:=by
   have:=Am (p:=λe:ah=>Z' (e.name_q=k)) (k:=0) b (by simp[a.1]) λi y g d=>by
    have:=(AX ah.name_q).1 f i j y e g d b;rw[a.1]at this
    simpa using this
   rw[bD]at this;exact this
  simp only[this,wC,b,a.2,decide_true,cJ]
 |none=>
  cases m:dh l k with
  |none=>rfl
  |some j=>
   obtain⟨e,b,a⟩:=dy m;by_cases c:e.aw=3
   ·have:(l8 l k).isSome=I:=by
     unfold l8;rw[uR,kN];exact⟨e,bz b,by simpa [c] using a⟩
    rw[h]at this;cases this
   ·simp only[wC,b,c,decide_false,cI]
theorem aad{l:M ah}(a:(l.map ah.name_q).Nodup)(k:z):EZ l k=(l8 l k).isSome:=by
 have:=PZ a k λ_=>I;simp only[ed]at this;rw[EZ,this];cases h:l8 l k with
 |none=>rfl
 |some j=>
  obtain⟨e,b,_⟩:=dy h;simp only[wC,b,cZ]
theorem aac{l:M ah}(a:(l.map ah.name_q).Nodup)(k:z):B3 l k=wB l k:=PZ a k R3
theorem Ed{l:M ah}(h:∀x∈l,isName x.name_q=I){k:z}(b:(l8 l k).isSome=I):isName k=I:=by
 obtain⟨j,c⟩:=cn.1 b;obtain⟨e,d,a⟩:=dy c;simp only[af,decide_eq_true_eq]at a;rw[<- a.1];exact h e (bz d)
theorem R2{l:M ah}{k:z}(h:wB l k=I):(l8 l k).isSome=I:=by
 unfold wB wC at h
 split at h
 ·rename_i j a;rw[a];rfl
 ·cases h
theorem LS{l:M z}(h:∀k∈l,isName k=I):nj l=vh l:=by
 have:l.all isName=I:=bg.2 h;rw[nj,vh,this,ed,Bool.and_comm]
section
variable {ip:z->Bool} {mt:z->z->Bool}
theorem YZ{n:ah}(h:n.aw=2):(!pC n && lK ip mt n)=(zT n.type && (!n.bl.isEmpty && (nj n.bl && (nj n.unique && (mH n && (!n.given && (!n.fy && (!n.cT && (!n.fixed && Z' (n.default.size=0)))))))))):=by
 simp only[pC,lK,h,mc];cases zT n.type<;>cases n.bl.isEmpty<;>cases nj n.bl<;>cases nj n.unique<;>cases mH n<;>cases n.given<;>cases n.fy<;>cases n.cT<;>cases n.fixed<;>cases Z' (n.default.size=0)<;>rfl
theorem ZU{n:ah}{free:Bool}(h:¬(1<=n.aw/\n.aw<=6)):jV ip mt n free=J:=by
 simp only[jV];rw[if_neg (by omega),if_neg (by omega),if_neg (by omega),if_neg (by omega),if_neg (by omega),if_neg (by omega)]
theorem V_{n:ah}(h:¬(1<=n.aw/\n.aw<=6))(a:n.aw≠7):lK ip mt n=J:=by
 simp only[lK];rw[if_neg (by omega),if_neg (by omega),if_neg (by omega),if_neg (by omega),if_neg (by omega),if_neg (by omega),if_neg a]
theorem Qc{n:ah}{bound:Bool}(C:(n.ae.map ah.name_q).Nodup)(D:∀x∈n.ae,isName x.name_q=I) :
  (wU ip mt n (!bound)=I)↔za ip mt n=I/\n.aw≠7/\(n.given && bound)=J/\n.bl.all (wB n.ae)=I/\n.unique.all (λc=>(l8 n.ae c).isSome)=I:=by
 unfold wU za;cases GP n with
 |false=>simp
 |true=>
  simp only[cJ];by_cases i:n.aw=2
  ·have R:n.bl.all (B3 n.ae)=n.bl.all (wB n.ae):=by congr 1;funext k;exact aac C k
   have Q:n.unique.all (EZ n.ae)=n.unique.all (λc=>(l8 n.ae c).isSome):=by congr 1;funext k;exact aad C k
   rw[YZ i];have P:jV ip mt n (!bound)=Ee n:=by simp only[jV,i];rfl
   rw[P,Ee,R,Q];cases L:n.bl.all (wB n.ae) with
   |false=>simp
   |true=>
    cases K:n.unique.all (λc=>(l8 n.ae c).isSome) with
    |false=>simp
    |true=>
     have G:=LS (l:=n.bl) λk y=>Ed D (R2 (bg.1 L k y));have F:=LS (l:=n.unique) λk y=>Ed D (bg.1 K k y);rw[G,F,i];cases n.given<;>simp
  ·by_cases r:1<=n.aw/\n.aw<=6
   ·have hd:mc n.aw=Z' (n.aw<=4):=by
     by_cases h:n.aw<=4
     ·rw[decide_eq_true h];exact (gG _ _ _).2 ⟨r.1,h⟩
     ·rw[decide_eq_false h];exact eg.2 λN=>h ((gG _ _ _).1 N).2
    cases B:n.bl with
    |cons a l=>
     have:pC n=I:=by simp[pC,i,B]
     have j:jV ip mt n (!bound)=J:=by simp[jV,i,qz,yQ,LC,B]
     simp[this,j]
    |nil=>
     cases A:n.unique with
     |cons a l=>
      have:pC n=I:=by simp[pC,i,A]
      have j:jV ip mt n (!bound)=J:=by simp[jV,i,qz,yQ,LC,A]
      simp[this,j]
     |nil=>
      have s:n.aw≠7:=by omega
      have j:jV ip mt n (!bound)=(!pC n && (lK ip mt n && !(n.given && bound))):=by
       simp only[pC,jV,lK,qz,yQ,LC,B,A,hd,fS,cJ,ed];obtain⟨T,S⟩:=r;have H:n.aw=1\/n.aw=3\/n.aw=4\/n.aw=5\/n.aw=6:=by omega
       rcases H with h|h|h|h|h<;>simp only[h]<;>generalize zT n.type=b<;>generalize isType ip n.type=t<;>generalize isVal ip mt n.type n.default=v<;>generalize n.when.isEmpty=w<;>generalize n.iP.isEmpty=c<;>generalize n.ae.isEmpty=q<;>generalize mH n=o<;>generalize Z' (n.default.size=0)=d<;>generalize Z' (n.min=0)=m<;>generalize Z' (n.max=0)=x<;>generalize n.given=g<;>generalize n.fixed=f<;>generalize n.fy=e<;>generalize n.cT=p
       ·cases b<;>cases d<;>cases m<;>cases x<;>cases g<;>cases f<;>cases e<;>cases bound<;>rfl
       ·cases t<;>cases v<;>cases w<;>cases q<;>cases d<;>cases m<;>cases x<;>cases g<;>cases e<;>cases p<;>cases bound<;>rfl
       ·cases t<;>cases o<;>cases q<;>cases d<;>cases g<;>cases f<;>cases e<;>cases p<;>cases bound<;>rfl
       ·cases b<;>cases d<;>cases m<;>cases x<;>cases g<;>cases f<;>cases c<;>cases p<;>cases bound<;>rfl
       ·cases b<;>cases d<;>cases m<;>cases x<;>cases g<;>cases f<;>cases e<;>cases c<;>cases p<;>cases bound<;>rfl
      rw[j];cases n.given<;>simp[s,and_assoc]
   ·rw[ZU r];by_cases s:n.aw=7
    ·simp[s]
    ·rw[V_ r s];simp
theorem DC{m:Nat}{l:M ah}{k:Int}{b:Bool}(h:wD ip mt m l k b=I):(l.map ah.name_q).Nodup/\∀x∈l,isName x.name_q=I:=by
 cases m with
 |zero=>cases h
 |succ m=>
  simp only[wD,af,bg]at h;refine⟨(rK _).1 h.1.1,λx a=>?_⟩;have:=(h.2 x a).1;simp only[za,GP,af]at this;exact this.1.1
theorem Cn:∀(l:M ah) (N:Nat),sO l<=N↔∀x∈l,1+sO x.ae<=N
 |[],N=>by simp[sO]
 |e::l,N=>by rw[sO,Nat.max_le,Cn l N];simp
theorem UI{l:M ah}:sO l=0↔l=[]:=by
 cases l with
 |nil=>simp[sO]
 |cons e l=>rw[sO];simp
theorem F4(n:ah)(bound:Bool):sI n (!bound)=!(bound ||(!n.when.isEmpty ||decide (n.aw=6))):=by
 unfold sI;cases bound<;>cases n.when.isEmpty<;>cases Z' (n.aw=6)<;>rfl
theorem M_{l:M ah}{n:ah}(a:n∈l)(b:oH n.aw=I):(dk n.ae).Sublist (dk l):=by
 induction l with
 |nil=>cases a
 |cons e l c=>
  rw[nb];rcases aP.1 a with rfl|h
  ·have:uI n=dk n.ae:=by
    unfold uI;rw[if_neg,if_pos b];intro h;have:=(ab3 h).1;rw[b]at this;cases this
   rw[this];exact List.sublist_append_left _ _
  ·exact (c h).trans (List.sublist_append_right _ _)
theorem adG:∀(m:Nat) (l:M ah) (k:Int) (d:Bool) (deep:Nat),av l < m->1<=deep->
  (qP ip mt m l k (!d) deep=I↔wD ip mt m l k d=I/\((dk l).map ah.name_q).Nodup/\(sO l=0\/deep+sO l<=9)):=by
 intro m
 induction m with
 |zero=>intro l k d deep h;omega
 |succ m G=>
  intro l k d deep L hd;have q:∀n∈l,∀b,(qP ip mt m n.ae n.aw (!b) (deep+1)=I↔wD ip mt m n.ae n.aw b=I/\((dk n.ae).map ah.name_q).Nodup/\(sO n.ae=0\/deep+1+sO n.ae<=9)):=λn f b=>
   G n.ae n.aw b (deep+1) (by have:=aX f;have:=ah.ek n;omega) (by omega)
  constructor
  ·intro h;simp only[qP,af]at h;obtain⟨i,H,g⟩:=h;rw[mm]at i;simp only[bD,af,decide_eq_true_eq]at i;have w:(l.map ah.name_q).Nodup:=(nN l).1 (by rw[mm];intro j x p;rw[bD,decide_eq_true_eq];exact (i j x p).1);have s:=(nN (dk l)).1 H;have p:∀n∈l,(Z' (k=5)=Z' (n.aw=6))/\(za ip mt n=I/\n.aw≠7/\(n.given && d)=J/\n.bl.all (wB n.ae)=I/\n.unique.all (λc=>(l8 n.ae c).isSome)=I)/\wD ip mt m n.ae n.aw (d ||(!n.when.isEmpty ||decide (n.aw=6)))=I/\(sO n.ae=0\/deep+1+sO n.ae<=9):=by
    intro n f;obtain⟨j,t⟩:=pR f;obtain⟨_,a2,a3,a4⟩:=i j n t;rw[F4]at a4;obtain⟨F,_,K⟩:=(q n f _).1 a4;obtain⟨c1,y⟩:=DC F;exact⟨a2,(Qc c1 y).1 a3,F,K⟩
   refine⟨?_,s,?_⟩
   ·simp only[wD,af,bg];refine⟨⟨(rK _).2 w,by rw[dr];exact .inr ((rK _).2 s)⟩,λn f=>?_⟩;obtain⟨a1,⟨a2,a3,a4,a5,A⟩,o,_⟩:=p n f;exact⟨a2,by simpa using a3,by rw[decide_eq_true_eq];exact a1.symm,by rw[a4];rfl,bg.1 a5,bg.1 A,o⟩
   ·by_cases B:l=[]
    ·exact .inl (UI.2 B)
    ·have Q:deep<=8:=by
      cases l with
      |nil=>exact absurd rfl B
      |cons e l=>simpa using g
     have:=(Cn l (9 - deep)).2 λn f=>by
      obtain⟨_,_,_,a⟩:=p n f;omega
     omega
  ·rintro⟨i,s,g⟩
   simp only[wD,af,bg]at i;obtain⟨⟨w,P⟩,p⟩:=i;have v:=(rK _).1 w;have r:∀n∈l,deep+(1+sO n.ae)<=9:=by
    intro n f;rcases g with g|g
    ·rw[UI.1 g]at f;cases f
    ·have:=(Cn l (9 - deep)).1 (by omega) n f;omega
   simp only[qP,af];refine⟨?_,(nN (dk l)).2 s,?_⟩
   ·rw[mm];intro j n t;have f:=bz t;obtain⟨a1,a2,a3,a4,a5,A,o⟩:=p n f;obtain⟨c1,y⟩:=DC o;have C:=(nN l).2 v;rw[mm]at C;simp only[af];refine⟨C j n t,by rw[decide_eq_true_eq]at a3 ⊢;exact a3.symm,(Qc c1 y).2 ⟨a1,by simpa using a2,by cases N:n.given<;>cases d<;>simp_all,bg.2 a5,bg.2 A⟩,?_⟩;rw[F4];refine (q n f _).2 ⟨o,?_,.inr (by have:=r n f;omega)⟩;cases D:oH n.aw with
    |true=>exact List.Nodup.sublist ((M_ f D).map _) s
    |false=>
     cases m with
     |zero=>cases o
     |succ m=>
      simp only[wD,af,D,fh]at o;exact (rK _).1 o.1.2
   ·rcases g with g|g
    ·rw[UI.1 g];simp
    ·cases l with
     |nil=>simp
     |cons e l=>
      have:=r e aU;have:deep<=8:=by omega
      simp[this]
noncomputable def tR(ip:z->Bool)(mt:z->z->Bool)(l:M ah):Bool:=Z' (eA l<=60) && qP ip mt (av l+1) l 0 I 1
theorem ZS(l:M ah):tR ip mt l=(Z' (eA l<=60) && (Z' (sO l<=8) && wD ip mt (av l+1) l 0 J)):=by
 have h:=adG (ip:=ip) (mt:=mt) (av l+1) l 0 J 1 (aY _) (au _);rw[dZ]at h;unfold tR
 congr 1
 rw[dL,h,af,decide_eq_true_eq]
 constructor
 ·rintro⟨a,_,c⟩
  exact⟨by omega,a⟩
 ·rintro⟨a,b⟩
  refine⟨b,?_,by omega⟩;simp only[wD,af,oH,dr,decide_eq_true_eq]at b;rcases b.1.2 with h|h
  ·rcases h with h|h<;>omega
  ·exact (rK _).1 h
end
end
section
abbrev PR:=u (dq×Nat)
abbrev eT:z:=⟨#[]⟩
def iB(s:z)(i:Nat)(b:Int):Bool:=Z' (i < s.size) && Z' (cr s i=b)
def Y0(f:Nat->Bool):z:=bA (((bW 256).filter f).map dX)
def Q_:z:=Y0 λx=>Z' (32<=x) && Z' (x<=126)
def o9(r:M (Int×Int))(x:Nat):Bool:=r.any λp=>Z' (p.1<=(x:Int)) && Z' ((x:Int)<=p.2)
def ae7(r:M (Int×Int)):z:=Y0 (o9 r)
def qV(s:z)(i:Nat):u ((Int×Int)×Nat):=
 if (Z' (i < s.size) && M3 (cr s i))=I then
  if iB s (i+1) 126=I then
   if (Z' (i+2 < s.size) && (M3 (cr s (i+2)) && Z' (cr s i<=cr s (i+2))))=I then Z ((cr s i,cr s (i+2)),i+3) else O
  else Z ((cr s i,cr s i),i+1)
 else O
def iY(s:z):Nat->Nat->u (M (Int×Int)×Nat)
 |0,_=>O
 |f+1,i=>if iB s i 93=I then Z ([],i+1) else match qV s i with
  |some (r,j)=>(iY s f j).map λp=>(r::p.1,p.2)
  |none=>O
def LW(s:z)(i:Nat):PR:=match iY s (s.size+1) i with
 |some (r::l,k)=>Z (⟨1,ae7 (r::l),[]⟩,k)
 |_=>O
def pCh(b:Int):Bool:=fG 97 122 b ||(fG 48 57 b ||decide (b=45))
def Ep(b:Int):z:=bA [dX b.toNat]
def wW(alt:Nat->PR)(s:z)(i:Nat):PR:=
 if iB s i 40=I then (match alt (i+1) with
  |some (p,j)=>if iB s j 41=I then Z (p,j+1) else O
  |none=>O)
 else if iB s i 91=I then LW s (i+1)
 else if iB s i 46=I then Z (⟨1,Q_,[]⟩,i+1)
 else if (Z' (i < s.size) && pCh (cr s i))=I then Z (⟨1,Ep (cr s i),[]⟩,i+1)
 else O
def Eu(s:z)(p:dq)(j:Nat):dq×Nat:=
 if iB s j 42=I then (⟨4,eT,[p]⟩,j+1)
 else if iB s j 43=I then (⟨2,eT,[p,⟨4,eT,[p]⟩]⟩,j+1)
 else if iB s j 63=I then (⟨5,eT,[p]⟩,j+1)
 else (p,j)
def sb(alt:Nat->PR)(s:z)(i:Nat):PR:=(wW alt s i).map λp=>Eu s p.1 p.2
def vk(s:z)(i:Nat):Bool:=Z' (i < s.size) && (!Z' (cr s i=124) && !Z' (cr s i=41))
def vj(alt:Nat->PR)(s:z):Nat->Nat->u (M dq×Nat)
 |0,_=>O
 |f+1,i=>if vk s i=I then match sb alt s i with
   |some (p,j)=>(vj alt s f j).map λq=>(p::q.1,q.2)
   |none=>O
  else Z ([],i)
def su(op:Int):M dq->dq
 |[p]=>p
 |l=>⟨op,eT,l⟩
def B9(alt:Nat->PR)(s:z)(i:Nat):PR:=(vj alt s (s.size+1) i).map λq=>(su 2 q.1,q.2)
def BG(alt:Nat->PR)(s:z):Nat->Nat->u (M dq×Nat)
 |0,_=>O
 |f+1,i=>if iB s i 124=I then match B9 alt s (i+1) with
   |some (p,j)=>(BG alt s f j).map λq=>(p::q.1,q.2)
   |none=>O
  else Z ([],i)
def Et(alt:Nat->PR)(s:z)(i:Nat):PR:=match B9 alt s i with
 |some (p,j)=>(BG alt s (s.size+1) j).map λq=>(su 3 (p::q.1),q.2)
 |none=>O
def S_(s:z):Nat->Nat->PR
 |0,_=>O
 |f+1,i=>Et (S_ s f) s i
def BH(s:z):u dq:=if 30 < s.size then O else match S_ s (s.size+1) 0 with
 |some (p,k)=>if k=s.size then Z p else O
 |none=>O
def xL(n:Nat)(p:dq):Bool:=(Z' (p.ae.length<=n) && Z' (p.text.size<=256)) && p.ae.attach.all λq=>xL n q.1
termination_by av p
decreasing_by exact dq.DB q.2
theorem Jn(n:Nat)(p:dq):xL n p=((Z' (p.ae.length<=n) && Z' (p.text.size<=256)) && p.ae.all (xL n)):=by
 rw[xL]
 congr 1
 rw[dL,bg,bg];exact⟨λh x a=>h ⟨x,a⟩ (List.mem_attach _ _),λh x _=>h x.1 x.2⟩
theorem Cz{n:Nat}{p q:dq}(h:xL n p=I)(a:q∈p.ae):xL n q=I:=by
 rw[Jn,af,bg]at h;exact h.2 q a
theorem CA{n:Nat}{p:dq}(h:xL n p=I):p.ae.length<=n:=by
 rw[Jn,af,af,decide_eq_true_eq]at h;exact h.1.1
theorem aau{n:Nat}{p:dq}(h:xL n p=I):p.text.size<=256:=by
 rw[Jn,af,af,decide_eq_true_eq,decide_eq_true_eq]at h;exact h.1.2
theorem xM{n:Nat}{op:Int}{t:z}{l:M dq}(a:t.size<=256)(h:l.length<=n)(b:∀q∈l,xL n q=I):xL n ⟨op,t,l⟩=I:=by
 rw[Jn,af,af,decide_eq_true_eq,decide_eq_true_eq,bg];exact⟨⟨h,a⟩,b⟩
theorem Bo:eT.size<=256:=cB _
theorem vy{n:Nat}{op:Int}:∀{l:M dq},l.length<=n->(∀q∈l,xL n q=I)->xL n (su op l)=I
 |[p],_,h=>h p (bI.2 rfl)
 |[],h,a=>xM Bo h a
 |_::_::_,h,a=>xM Bo h a
theorem Qn{n:Nat}(a:2<=n){s:z}{p:dq}(j:Nat)(h:xL n p=I):xL n (Eu s p j).1=I:=by
 unfold Eu;have b:xL n ⟨4,eT,[p]⟩=I:=xM Bo (by simp;omega) (by simpa using h);have c:xL n ⟨5,eT,[p]⟩=I:=xM Bo (by simp;omega) (by simpa using h);have a:xL n ⟨2,eT,[p,⟨4,eT,[p]⟩]⟩=I:=xM Bo (by simpa using a) (by simp[h,b]);split
 ·exact b
 split
 ·exact a
 split
 ·exact c
 ·exact h
theorem Qm(s:z)(p:dq)(j:Nat):j<=(Eu s p j).2/\(j<=s.size->(Eu s p j).2<=s.size):=by
 unfold Eu;have a:∀b,iB s j b=I->j < s.size:=λb h=>by simp only[iB,af,decide_eq_true_eq]at h;exact h.1
 split
 ·rename_i h;have:=a _ h;exact⟨by simp,λ_=>this⟩
 split
 ·rename_i h;have:=a _ h;exact⟨by simp,λ_=>this⟩
 split
 ·rename_i h;have:=a _ h;exact⟨by simp,λ_=>this⟩
 ·exact⟨au _,λh=>h⟩
theorem zV(f:Nat->Bool):(Y0 f).size<=256:=by
 have:=wI f (bW 256);simp only[Y0,qn,aj,List.length_range]at this ⊢;exact this
theorem nf{s:z}{i:Nat}{b:Int}(h:iB s i b=I):i < s.size:=by simp only[iB,af,decide_eq_true_eq]at h;exact h.1
end
section
def hasB(t:z)(b:Int):Bool:=(bW t.size).any λk=>Z' (cr t k=b)
def Mx(t s:z)(a:M Bool):M Bool:=J::(bW s.size).map λi=>(nth a i).getD J && hasB t (cr s i)
def BM(f:M Bool->M Bool):Nat->M Bool->M Bool
 |0,x=>x
 |n+1,x=>if dM x (f x)=x then x else BM f n (dM x (f x))
def B6{b β:Type}(l:M b)(a:β)(g:b->β):β:=match l with
 |[k]=>g k
 |_=>a
theorem Jk{b β:Type}{l:M b}{a:β}{g:b->β}(h:l.length≠1):B6 l a g=a:=by
 unfold B6;split
 ·exact absurd rfl h
 ·rfl
theorem Jj{b β:Type}(k:b)(a:β)(g:b->β):B6 [k] a g=g k:=(rfl)
def KY(f:dq->M Bool->M Bool)(s:z)(p:dq)(a:M Bool):M Bool:=
 if p.op=1 then Mx p.text s a
 else if p.op=2 then p.ae.foldl (λo k=>f k o) a
 else if p.op=3 then p.ae.foldl (λo k=>dM o (f k a)) (bc (s.size+1) J)
 else if p.op=4 then B6 p.ae a λk=>BM (f k) (s.size+2) a
 else if p.op=5 then B6 p.ae a λk=>dM a (f k a)
 else bc (s.size+1) J
def jc(s:z):Nat->dq->M Bool->M Bool
 |0,_,a=>a
 |n+1,p,a=>KY (jc s n) s p a
noncomputable def NJ(p:dq)(s:z):Bool:=(nth (jc s (av p+1) p (I::bc s.size J)) s.size).getD J
noncomputable def uf(t s:z):Bool:=match BH t with
 |some p=>NJ p s
 |none=>J
def jX(t:z):Bool:=(BH t).isSome
theorem HC{f:M Bool->M Bool}:∀(n:Nat) (x:M Bool),(BM f n x).length=x.length
 |0,x=>rfl
 |n+1,x=>by
  simp only[BM];split
  ·rfl
  ·rw[HC n,ko]
theorem HY(t s:z)(a:M Bool):(Mx t s a).length=s.size+1:=by simp[Mx]
theorem Rr{f:dq->M Bool->M Bool}{s:z}{p:dq}{a:M Bool}(i:∀k∈p.ae,∀b:M Bool,b.length=s.size+1->(f k b).length=s.size+1)(c:a.length=s.size+1):(KY f s p a).length=s.size+1:=by
 unfold KY;have m:∀(l:M dq) (b:M Bool),(∀k∈l,k∈p.ae)->b.length=s.size+1->(l.foldl (λo k=>f k o) b).length=s.size+1:=by
  intro l
  induction l with
  |nil=>intro b _ h;exact h
  |cons k l d=>intro b e h;exact d _ (λx g=>e x (bk _ g)) (i k (e k aU) b h)
 have j:∀(l:M dq) (b:M Bool),b.length=s.size+1->(l.foldl (λo k=>dM o (f k a)) b).length=s.size+1:=by
  intro l
  induction l with
  |nil=>intro b h;exact h
  |cons k l d=>intro b h;exact d _ (by rw[ko];exact h)
 split
 ·exact HY _ _ _
 split
 ·exact m _ _ (λ_ h=>h) c
 split
 ·exact j _ _ (by simp)
 split
 ·unfold B6;split
  ·rw[HC];exact c
  ·exact c
 split
 ·unfold B6;split
  ·rw[ko];exact c
  ·exact c
 ·simp
theorem rM{s:z}:∀(n:Nat) (p:dq) (a:M Bool),a.length=s.size+1->(jc s n p a).length=s.size+1
 |0,_,_,h=>h
 |n+1,p,a,h=>Rr (λk _ b c=>rM n k b c) h
def outs:M Bool->Nat
 |[]=>0
 |b::l=>(if b then 0 else 1)+outs l
theorem Jl:∀(l:M Bool),outs l<=l.length
 |[]=>au _
 |b::l=>by have:=Jl l;cases b<;>simp[outs]<;>omega
theorem xv:∀(x y:M Bool),outs (dM x y)<=outs x/\(dM x y≠x->outs (dM x y) < outs x)
 |[],y=>by cases y<;>simp[dM,outs]
 |b::x,[]=>by simp[dM,outs]
 |b::x,c::y=>by
  obtain⟨d,a⟩:=xv x y;refine⟨by cases b<;>cases c<;>simp[dM,outs]<;>omega,λh=>?_⟩;cases b<;>cases c<;>simp_all[dM,outs]<;>omega
theorem GL:∀(x y:M Bool),nd x y=!Z' (dM x y=x)
 |[],y=>by cases y<;>simp[dM,nd]
 |b::x,[]=>by simp[dM,nd]
 |b::x,c::y=>by
  have:=GL x y;cases b<;>cases c<;>simp_all[dM,nd]
end
section
theorem mw{s:z}{i:Nat}{b:Int}:iB s i b=I↔i < s.size/\cr s i=b:=by simp[iB]
theorem PM{s:z}{i:Nat}{b:Int}(h:iB s i b=J)(a:i < s.size):¬cr s i=b:=by
 intro c;rw[mw.2 ⟨a,c⟩]at h;cases h
theorem qZ{s:z}{i:Nat}{c:Int}(d:s.size<=mg)(h:iB s i c=I):G 216 [.str s,E (i:Int),.bool J,.int .u8 c]=Z (0,[.bool I,.str s,E ((i+1:Nat):Int),.bool J]):=by
 obtain⟨a,e⟩:=mw.1 h;have b:=wj a d;refine dd t216 rfl ?_;simp only[go_sem,t216,a,e,c9 _ _ a,b]
theorem qY{s:z}{i:Nat}{c:Int}(h:iB s i c=J):G 216 [.str s,E (i:Int),.bool J,.int .u8 c]=Z (0,[.bool J,.str s,E (i:Int),.bool J]):=by
 refine dd t216 rfl ?_;by_cases a:i < s.size
 ·have b:=PM h a;simp only[go_sem,t216,a,b,c9 _ _ a]
 ·simp only[go_sem,t216,a]
theorem Jq{s:z}{i c:Int}:G 216 [.str s,E i,.bool I,.int .u8 c]=Z (0,[.bool J,.str s,E i,.bool I]):=by
 refine dd t216 rfl ?_;simp only[go_sem,t216]
abbrev hB(f:Nat->Bool):D:=.list 1 I ((bW 256).map λx=>[D.bool (f x)])
abbrev bL(f:Nat->Bool)(n:Nat):D:=.list 1 I (((bW n).filter f).map λx:Nat=>[D.int .u8 (x:Int)])
theorem NS{a:Type}{f:Nat->a}{n x:Nat}(h:x < n):nth ((bW n).map f) x=Z (f x):=by
 rw[fU];simp[h]
theorem Vq{f:Nat->Bool}{x:Nat}(h:x < 256):aK .FA [hB f,E (x:Int)]=Z (.bool J):=xP _ _ _ _ (by simpa using h)
theorem ac8{f:Nat->Bool}{x:Nat}(h:x < 256):aK (.Gv 1 0 1 I) [hB f,E (x:Int)]=Z (.list 0 J [[.bool (f x)]]):=by
 simp only[aK,cq,NS h];simp[cD,D.plain]
theorem ac9{f:Nat->Bool}{x:Nat}(h:x < 256):aK (.set 0) [hB f,E (x:Int),.bool I]=Z (hB λy=>f y ||decide (x=y)):=by
 simp only[aK,cq,NS h];rw[if_pos ⟨by simp,λ_=>by simp[cD,D.plain]⟩]
 congr 2
 apply List.ext_getElem (by simp)
 intro i c b;simp only[aj,List.length_range]at b;rw[List.getElem_set];simp only[List.getElem_map,List.getElem_range];by_cases a:x=i
 ·subst a;simp[mi]
 ·simp[a]
theorem Zp:aK (.make 1 1 I [zB J]) [E 256]=Z (hB λ_=>J):=by
 have:(bW 256).map (λx:Nat=>[D.bool ((λ_=>J) x)])=bc 256 [D.bool J]:=by
  rw[qc];simp
 simp only[hB,this];rfl
theorem N9:aK (.mW 1 I) []=Z (.list 1 I []):=tz 1 I
theorem uQ(f:Nat->Bool)(n:Nat):(bW (n+1)).filter f=(bW n).filter f++(if f n=I then [n] else []):=by
 rw[List.range_succ,List.filter_append]
 congr 1
 by_cases h:f n=I<;>simp[h]
theorem Ui{f:Nat->Bool}{n:Nat}(a:n < 256)(h:f n=I):aK (.app 1 1) [bL f n,.list 1 I [[.int .u8 (n:Int)]]]=Z (bL f (n+1)):=by
 have b:((bW n).filter f).length<=n:=by have:=wI f (bW n);simpa using this
 rw[xO _ _ _ _ _ (by simp only[aj,aE,aJ,room,maxLen];omega)];simp only[bL,uQ,h,if_true,bR,aW,cE]
theorem afZ{f:Nat->Bool}{n:Nat}(h:f n=J):bL f (n+1)=bL f n:=by
 simp only[bL,uQ,h,aC,if_false,aQ]
theorem Bl:∀(l:M Nat),bytesOf (l.map λx:Nat=>[D.int .u8 (x:Int)])=Z (l.map λx:Nat=>(x:Int))
 |[]=>rfl
 |x::l=>by simp only[aW,bytesOf,Bl l,aH]
theorem Uj{f:Nat->Bool}{n:Nat}:aK .Mw [bL f n]=Z (.str (bA (((bW n).filter f).map dX))):=by
 simp only[bL,aK,Bl,aH,List.map_map,bA];rfl
theorem acD{f:Nat->Bool}{n:Nat}(c:n<=256)(h:∀x,n<=x->f x=J):bA (((bW n).filter f).map dX)=Y0 f:=by
 have:∀m,(bW (n+m)).filter f=(bW n).filter f:=by
  intro m
  induction m with
  |zero=>rfl
  |succ m b=>rw[<- cV,uQ,h (n+m) (by omega),b];simp
 have a:=this (256 - n);rw[show n+(256 - n)=256 by omega]at a;rw[Y0,a]
theorem O0{x:Nat}(h:x < 256):IntKind.u8.wrap (x:Int)=(x:Int):=wrap_u8 (by omega)
theorem E6{x:Nat}(h:x<=mg):IntKind.i64.wrap (x:Int)=(x:Int):=wrap_i64 (by simp only[mg]at h;omega)
theorem mkU(x:Int):aK (.mW 1 I) [.int .u8 x]=Z (.list 1 I [[.int .u8 x]]):=tE .u8 x
abbrev Fv(x:Nat):Bool:=decide (32<=x) && decide (x<=126)
theorem n32:((32:Nat):Int)=32:=(rfl)
theorem n127:((127:Nat):Int)=127:=(rfl)
theorem n256:((256:Nat):Int)=256:=(rfl)
theorem bL0(f:Nat->Bool):bL f 0=.list 1 I []:=(rfl)
theorem akv:bL Fv 32=.list 1 I []:=by
 have:(bW 32).filter Fv=[]:=by decide
 simp only[bL,this,cE]
theorem amc:G 221 []=Z (0,[.str Q_]):=by
 refine dd t221 rfl ?_;have p:=Iq (b:=lB G DL) (λi=>(0,[E ((i:Nat):Int),bL Fv i])) (λi=>if 32<=i then O else Z (0,[])) 127 (0,[E 127,.bool J,bL Fv 127]);have l:∀m i,i+m=127->32<=i->bK (lB G DL) (0,[E ((i:Nat):Int),bL Fv i])=Z (0,[E 127,.bool J,bL Fv 127]):=by
  intro m
  induction m with
  |zero=>
   intro i h _;obtain rfl:i=127:=by omega
   refine aF ?_;simp only[go_sem,bn,DL,n127]
  |succ m d=>
   intro i h q;refine (bB ?_).trans (d (i+1) (by omega) (by omega));have k:(i:Int) < 127:=by omega
   have j:=O0 (x:=i) (by omega);have g:=Ui (f:=Fv) (n:=i) (by omega) (by simp[Fv];omega);have e:=wj (i:=i) (n:=127) (by omega) (by decide);simp only[go_sem,bn,DL,k,j,g,e,mkU]
 have a:=l 95 32 rfl (by omega);rw[akv,n32]at a;have c:=Uj (f:=Fv) (n:=127);rw[acD (by decide) (λx o=>by simp[Fv];omega)]at c;simp only[go_sem,t221,a,N9,c];rfl
theorem AF{e op tx s i b:D}{a:Nat}(g:a < 256):∀(m x:Nat) (f:Nat->Bool),x+m=a+1->
  bK (lB G DJ) (0,[e,.int .u8 (a:Int),E (x:Int),op,tx,s,i,b,hB f])=Z (0,[e,.int .u8 (a:Int),E ((a+1:Nat):Int),.bool J,op,tx,s,i,b,hB λy=>f y ||(Z' (x<=y) && Z' (y<=a))])
 |0,x,f,h=>by
  obtain rfl:x=a+1:=by omega
  have c:Z' (((a+1:Nat):Int)<=(a:Int))=J:=by simp only[decide_eq_false_iff_not];omega
  have d:=E6 (x:=a) (by simp only[mg];omega);have l:(λy=>f y ||(Z' (a+1<=y) && Z' (y<=a)))=f:=by
   funext y
   by_cases h:a+1<=y
   ·have:¬y<=a:=by omega
    simp[h,this]
   ·simp[h]
  rw[l];refine aF ?_;simp only[go_sem,bn,DJ,c,d]
 |m+1,x,f,h=>by
  refine (bB ?_).trans ((AF (e:=e) (op:=op) (tx:=tx) (s:=s) (i:=i) (b:=b) g m (x+1) (λy=>f y ||decide (x=y)) (by omega)).trans ?_)
  ·have c:Z' ((x:Int)<=(a:Int))=I:=by simp only[decide_eq_true_eq];omega
   have d:=E6 (x:=a) (by simp only[mg];omega);have k:=wj (i:=x) (n:=256) (by omega) (by decide);simp only[go_sem,bn,DJ,c,d,k,Vq (f:=f) (x:=x) (by omega),ac9 (f:=f) (x:=x) (by omega)]
  ·have j:(λy=>(λy=>f y ||decide (x=y)) y ||(Z' (x+1<=y) && Z' (y<=a)))=λy=>f y ||(Z' (x<=y) && Z' (y<=a)):=by
    funext y
    by_cases c:x=y
    ·subst c;have:x<=a:=by omega
     simp[this]
    ·by_cases d:x<=y
     ·have:x+1<=y:=by omega
      simp[c,d,this]
     ·have:¬x+1<=y:=by omega
      simp[c,d,this]
   rw[j]
theorem G8{op tx s i b:D}{f:Nat->Bool}:∀(m x:Nat),x+m=256->
  bK (lB G DK) (0,[E (x:Int),op,tx,s,i,b,hB f,bL f x])=Z (0,[E 256,.bool J,op,tx,s,i,b,hB f,bL f 256])
 |0,x,h=>by
  obtain rfl:x=256:=by omega
  refine aF ?_;simp only[go_sem,bn,DK,n256,iz]
 |m+1,x,h=>by
  refine (bB ?_).trans (G8 m (x+1) (by omega));have g:(x:Int) < 256:=by omega
  have e:=Vq (f:=f) (x:=x) (by omega);have c:=ac8 (f:=f) (x:=x) (by omega);have d:=wj (i:=x) (n:=256) (by omega) (by decide);have j:=O0 (x:=x) (by omega);cases a:f x with
  |false=>
   rw[afZ a];rw[a]at c;simp only[go_sem,bn,DK,g,e,c,d]
  |true=>
   rw[a]at c;simp only[go_sem,bn,DK,g,e,c,d,j,mkU,Ui (f:=f) (n:=x) (by omega) a]
theorem ot(a b:Nat):Z' ((a:Int)<=(b:Int))=Z' (a<=b):=by apply decide_eq_decide.2;omega
theorem yh(s:z)(i:Nat):∃a:Nat,a < 256/\cr s i=(a:Int):=by
 have:=mF s i;exact⟨(cr s i).toNat,by omega,by omega⟩
def kZ(e:D)(s:z)(i:Nat)(f:Nat->Bool):u (D×D)->Nat×M D
 |none=>(0,[e,.int .i64 0,.str ⟨#[]⟩,.str s,.int .i64 (i:Int),.bool J,hB f])
 |some (a,v)=>(1,[e,a,v,.bool J,.int .i64 0,.str ⟨#[]⟩,.str s,.int .i64 (i:Int),.bool J,hB f])
theorem adu(f:Nat->Bool)(a:Nat)(l:M (Int×Int)):(λy:Nat=>(f y ||(Z' (a<=y) && Z' (y<=a))) ||o9 l y)=λy=>f y ||o9 (((a:Int),(a:Int))::l) y:=by
 funext y
 simp only[o9,lH,iq]
 congr 3<;>simp
theorem VQ(f:Nat->Bool)(a b:Nat)(l:M (Int×Int)):(λy:Nat=>(f y ||(Z' (a<=y) && Z' (y<=b))) ||o9 l y)=λy=>f y ||o9 (((a:Int),(b:Int))::l) y:=by
 funext y
 simp only[o9,lH,iq]
 congr 3<;>simp
def aaS(e:D)(s:z)(i:Nat)(f:Nat->Bool)(r:u (M (Int×Int)×Nat))(o:Nat×M D):Prop:=match r with
 |some (l,k)=>i+1+l.length<=k/\k<=s.size/\o=(1,[e,.bool J,.int .i64 0,.str ⟨#[]⟩,.str s,.int .i64 (k:Int),.bool J,hB λy=>f y ||o9 l y])
 |none=>∃k:Nat,i<=k/\k<=s.size/\o=(0,[.int .i64 0,.str ⟨#[]⟩,.str s,.int .i64 (k:Int),.bool I])
theorem R9{e:D}{s:z}(hs:s.size<=mg):∀(g i:Nat) (f:Nat->Bool) (q:u (D×D)),i<=s.size->s.size+1 - i<=g->
  ∃o,bK (lB G iN) (kZ e s i f q)=Z o/\aaS e s i f (iY s g i) o:=by
 intro g
 induction g with
 |zero=>intro i f q h1 m;omega
 |succ g ih=>
  intro i f q hi hg;have nx:∀(j:Nat) (f':Nat->Bool) (d v:D) (S:Int×Int),i < j->j<=s.size->(∀l,(λy=>f' y ||o9 l y)=λy=>f y ||o9 (S::l) y)->lB G iN (kZ e s i f q)=Z (.go (kZ e s j f' (Z (d,v))))->qV s i=Z (S,j)->iB s i 93=J->
    ∃o,bK (lB G iN) (kZ e s i f q)=Z o/\aaS e s i f (iY s (g+1) i) o:=by
   intro j f' d v S hij hj hf o8 W t;obtain⟨o,h1,m⟩:=ih j f' (Z (d,v)) hj (by omega);refine⟨o,(bB o8).trans h1,?_⟩;have V:iY s (g+1) i=(iY s g j).map λp=>(S::p.1,p.2):=by simp only[iY,t,aC,if_false,W]
   rw[V];cases hr:iY s g j with
   |none=>
    rw[hr]at m;obtain⟨k,k1,T,Y⟩:=m;exact⟨k,by omega,T,Y⟩
   |some p=>
    obtain⟨l,k⟩:=p;rw[hr]at m;obtain⟨k1,T,Y⟩:=m;rw[hf]at Y;exact⟨by show i+1+(S::l).length<=k;rw[aE];omega,T,Y⟩
  have bd:∀(k:Nat),i<=k->k<=s.size->iB s i 93=J->qV s i=O->lB G iN (kZ e s i f q)=Z (.out (0,[E 0,.str ⟨#[]⟩,.str s,E (k:Int),.bool I]))->
    ∃o,bK (lB G iN) (kZ e s i f q)=Z o/\aaS e s i f (iY s (g+1) i) o:=by
   intro k k1 T t W ho;refine⟨_,aF ho,?_⟩;have V:iY s (g+1) i=O:=by simp only[iY,t,aC,if_false,W]
   rw[V];exact⟨k,k1,T,rfl⟩
  cases t:iB s i 93 with
  |true=>
   obtain⟨F,_⟩:=mw.1 t;have h:=qZ hs t;refine⟨(1,[e,.bool J,E 0,.str ⟨#[]⟩,.str s,E ((i+1:Nat):Int),.bool J,hB f]),?_,?_⟩
   ·refine aF ?_;cases q with
    |none=>simp only[go_sem,bn,kZ,iN,h]
    |some p=>simp only[go_sem,bn,kZ,iN,h]
   ·have V:iY s (g+1) i=Z ([],i+1):=by simp only[iY,t,if_true]
    rw[V];have he:(λy=>f y ||o9 [] y)=f:=by funext y;simp[o9]
    refine⟨by simp,by omega,?_⟩;rw[he]
  |false=>
   have h:=qY t;by_cases F:i < s.size
   ·obtain⟨a,ha,Yv⟩:=yh s i;have r:=aiP (b:=cr s i) (mF s i);have A:=c9 s i F;have B:=wj F hs;have n:¬s.size<=i:=by omega
    cases L:M3 (cr s i) with
    |false=>
     refine bd i (au _) hi t (by simp only[qV,L,fO,aC,if_false]) ?_;rw[L]at r;cases q with
     |none=>simp only[go_sem,bn,kZ,iN,h,ot,n,A,r,cp]
     |some p=>simp only[go_sem,bn,kZ,iN,h,ot,n,A,r,cp]
    |true=>
     rw[L]at r;cases K:iB s (i+1) 126 with
     |false=>
      have m:=qY K;have P:=AF (e:=e) (op:=E 0) (tx:=.str ⟨#[]⟩) (s:=.str s) (i:=E ((i+1:Nat):Int)) (b:=.bool J) ha 1 a f rfl;rw[<- Yv]at P;refine nx (i+1) _ (.int .u8 (cr s i)) (E ((a+1:Nat):Int)) (cr s i,cr s i) (by omega) (by omega) (λl=>by rw[Yv];exact adu f a l) ?_ (by simp only[qV,F,L,K,decide_true,kv,if_true,aC,if_false]) t;cases q with
      |none=>simp only[go_sem,bn,kZ,iN,h,ot,n,A,r,B,m,P]
      |some p=>simp only[go_sem,bn,kZ,iN,h,ot,n,A,r,B,m,P]
     |true=>
      have m:=qZ hs K;obtain⟨VB,_⟩:=mw.1 K;have R:∀(k:Nat),k=i+2->qV s i=O->lB G iN (kZ e s i f q)=Z (.out (0,[E 0,.str ⟨#[]⟩,.str s,E (k:Int),.bool I]))->∃o,bK (lB G iN) (kZ e s i f q)=Z o/\aaS e s i f (iY s (g+1) i) o:=λk hk W ho=>bd k (by omega) (by omega) t W ho;by_cases C:i+1+1 < s.size
      ·have w:=c9 s (i+1+1) C;have N:=aiP (b:=cr s (i+1+1)) (mF s (i+1+1));have U:=wj C hs;have H:¬s.size<=i+1+1:=by omega
       cases X:M3 (cr s (i+1+1)) with
       |false=>
        rw[X]at N;refine R (i+1+1) rfl (by simp only[qV,F,L,K,X,decide_true,kv,if_true,cI,fO,aC,if_false]) ?_;cases q with
        |none=>simp only[go_sem,bn,kZ,iN,h,ot,n,A,r,B,m,H,w,N,cp]
        |some p=>simp only[go_sem,bn,kZ,iN,h,ot,n,A,r,B,m,H,w,N,cp]
       |true=>
        rw[X]at N;by_cases iM:cr s (i+1+1) < cr s i
        ·have Q:¬cr s i<=cr s (i+1+1):=by omega
         refine R (i+1+1) rfl (by simp only[qV,F,L,K,X,Q,decide_true,decide_false,kv,if_true,fO,aC,if_false]) ?_;cases q with
         |none=>simp only[go_sem,bn,kZ,iN,h,ot,n,A,r,B,m,H,w,N,iM,cp]
         |some p=>simp only[go_sem,bn,kZ,iN,h,ot,n,A,r,B,m,H,w,N,iM,cp]
        ·have Q:cr s i<=cr s (i+1+1):=by omega
         obtain⟨c,hz,Vx⟩:=yh s (i+1+1);have P:=AF (e:=e) (op:=E 0) (tx:=.str ⟨#[]⟩) (s:=.str s) (i:=E ((i+1+1+1:Nat):Int)) (b:=.bool J) hz (c+1 - a) a f (by omega);have wa:=E6 (x:=a) (by simp only[mg];omega);rw[<- Vx,<- Yv]at P;refine nx (i+1+1+1) _ (.int .u8 (cr s (i+1+1))) (E ((c+1:Nat):Int)) (cr s i,cr s (i+1+1)) (by omega) (by omega) (λl=>by rw[Yv,Vx];exact VQ f a c l) ?_ (by simp only[qV,F,L,K,X,C,Q,decide_true,kv,if_true]) t;cases q with
         |none=>simp only[go_sem,bn,kZ,iN,h,ot,n,A,r,B,m,H,w,N,U,iM,P]
         |some p=>simp only[go_sem,bn,kZ,iN,h,ot,n,A,r,B,m,H,w,N,U,iM,P]
      ·have H:s.size<=i+1+1:=by omega
       refine R (i+1+1) rfl (by
        have:¬i+2 < s.size:=C;simp only[qV,F,L,K,this,decide_true,decide_false,kv,if_true,cI,aC,if_false]) ?_
       cases q with
       |none=>simp only[go_sem,bn,kZ,iN,h,ot,n,A,r,B,m,H,cp]
       |some p=>simp only[go_sem,bn,kZ,iN,h,ot,n,A,r,B,m,H,cp]
   ·have n:s.size<=i:=by omega
    refine bd i (au _) hi t (by simp only[qV,F,decide_false,cI,aC,if_false]) ?_;cases q with
    |none=>simp only[go_sem,bn,kZ,iN,h,ot,n,cp]
    |some p=>simp only[go_sem,bn,kZ,iN,h,ot,n,cp]
def PA(s:z)(i c:Nat)(r:PR)(p:dq)(k:Nat)(b:Bool):Prop:=xL 64 p=I/\i<=k/\k<=s.size/\match r with
 |some q=>b=J/\q=(p,k)/\i+c<=k
 |none=>b=I
theorem kY(op:Int)(t:z)(h:t.size<=256):xL 64 ⟨op,t,[]⟩=I:=xM h (by simp) (by simp)
theorem Ta{s:z}{g i k:Nat}(h:iY s g i=Z ([],k)):k=i+1:=by
 cases g with
 |zero=>cases h
 |succ g=>
  simp only[iY]at h
  split at h
  ·cases h;rfl
  ·split at h
   ·obtain⟨p,_,h⟩:=ak.1 h;simp at h
   ·cases h
theorem amb{s:z}{i:Nat}(w:s.size<=mg)(C:i<=s.size):∃p k b,G 220 [.str s,E (i:Int),.bool J]=Z (0,jb p++[.str s,.int .i64 (k:Int),.bool b])/\PA s i 0 (LW s i) p k b:=by
 obtain⟨o,c,g⟩:=R9 (e:=E (i:Int)) w (s.size+1) i (λ_=>J) O (by omega) (by omega);have m:=Zp;simp only[kZ]at c;cases a:iY s (s.size+1) i with
 |none=>
  rw[a]at g;obtain⟨k,j,d,rfl⟩:=g;refine⟨⟨0,eT,[]⟩,k,I,dd t220 rfl ?_,kY _ _ Bo,j,d,by rw[LW,a]⟩;simp only[go_sem,t220,cp,m,c,aV];rfl
 |some q=>
  obtain⟨l,k⟩:=q;rw[a]at g;obtain⟨j,d,rfl⟩:=g;have B:(λy:Nat=>(λ_=>J) y ||o9 l y)=o9 l:=by funext y;simp
  rw[B]at c;have v:IntKind.i64.wrap ((i:Int)+1)=((i+1:Nat):Int):=by rw[wrap_i64 (by simp only[mg]at w;omega)];omega
  have h:=λtx A b=>G8 (op:=E 0) (tx:=tx) (s:=.str s) (i:=A) (b:=b) (f:=o9 l) 256 0 rfl;simp only[bL0,n0]at h;have x:=Uj (f:=o9 l) (n:=256);cases l with
  |nil=>
   have t:=Ta a;subst t;refine⟨⟨1,Y0 (o9 []),[]⟩,i+1,I,dd t220 rfl ?_,kY _ _ (zV _),by omega,d,by rw[LW,a]⟩;simp only[go_sem,t220,cp,m,c,v,N9,h,x,aV];rfl
  |cons r l=>
   have t:¬(k:Int)=((i+1:Nat):Int):=by rw[aE]at j;omega
   refine⟨⟨1,Y0 (o9 (r::l)),[]⟩,k,J,dd t220 rfl ?_,kY _ _ (zV _),by omega,d,by rw[LW,a];exact⟨rfl,rfl,by omega⟩⟩;simp only[go_sem,t220,cp,m,c,v,t,N9,h,x,aV];rfl
end
section
theorem Ld {a c : Type} {b : a -> u (Sg a c)} (mk : Nat -> a) (n : Nat) {fin : c} (d : ∀ i, i < n -> b (mk i) = Z (.go (mk (i + 1)))) (f : b (mk n) = Z (.out fin)) : bK b (mk 0) = Z fin := by
  have h : ∀ m i, i + m = n -> bK b (mk i) = Z fin := by
    intro m
    induction m with
    | zero => intro i h; obtain rfl : i = n := by omega
              exact aF f
    | succ m e => intro i h; rw [bB (d i (by omega))]; exact e (i + 1) (by omega)
  exact h n 0 (by omega)
theorem OV{l:M Bool}{i:Nat}{b:Bool}(h:nth l i=Z b):aK (.el 1) [bu l,E (i:Int)]=Z (.list 0 J [[.bool b]]):=by
 rw[pT,aN,h];rfl
theorem sJ{l:M Bool}{i:Nat}(h:i < l.length):aK .FA [bu l,E (i:Int)]=Z (.bool J):=xP _ _ _ _ (by simpa using h)
theorem CU{l:M Bool}{i:Nat}{b:Bool}(h:nth l i=Z b):aK (.Gv 1 0 1 I) [bu l,E (i:Int)]=Z (.list 0 J [[.bool b]]):=by
 simp only[aK,cq,aN,h,aH];simp[Bn,cD,D.plain]
theorem CV{l:M Bool}{i:Nat}{c:Bool}(h:i < l.length):aK (.set 0) [bu l,E (i:Int),.bool c]=Z (bu (l.set i c)):=by
 have a:nth l i=Z l[i]:=dV h;simp only[aK,cq,aN,a,aH];rw[if_pos ⟨by simp,λ_=>by simp[cD,D.plain]⟩];simp only[bu,List.map_set];rfl
theorem yl{n:Nat}(h:n<=67108864):aK (.make 1 1 I [zB J]) [E (n:Int)]=Z (bu (bc n J)):=by
 simp only[aK,cq];rw[if_pos ⟨by omega,by simp only[room];omega,by omega⟩];simp[bu,Bn,SK.d]
theorem Uo{l m:M Bool}(h:m.length=l.length):aK .Gn [bu l,bu m]=Z (bu m):=by
 simp only[aK,aj,h,and_self,if_true]
def lu(a:M Bool)(i:Nat):M Bool:=a.take i++bc (a.length - i) J
theorem ac1(a:M Bool):lu a 0=bc a.length J:=by simp[lu]
theorem Nc(a:M Bool):lu a a.length=a:=by simp[lu]
theorem yA(a:M Bool)(i:Nat)(h:i<=a.length):(lu a i).length=a.length:=by simp[lu];omega
theorem Df(a:M Bool)(i j:Nat)(h:i<=a.length):(lu a i)[j]?=if j < i then a[j]? else if j < a.length then Z J else O:=by
 unfold lu;rw[xZ];have c:(a.take i).length=i:=by rw[bj];omega
 rw[c];split
 ·rw[List.getElem?_take_of_lt (by assumption)]
 ·rw[List.getElem?_replicate];by_cases b:j < a.length
  ·rw[if_pos (by omega),if_pos b]
  ·rw[if_neg (by omega),if_neg b]
theorem Ak{a:M Bool}{i:Nat}{b:Bool}(h:nth a i=Z b):(lu a i).set i b=lu a (i+1):=by
 have e:i < a.length:=bF h;rw[fU]at h
 apply fi
 intro j;rw[jZ,Df _ _ _ (by omega),Df _ _ _ (by omega),yA _ _ (by omega)];by_cases c:i=j
 ·subst c;rw[if_pos rfl,if_pos e,if_pos (by omega),h]
 ·rw[if_neg c];by_cases d:j < i
  ·rw[if_pos d,if_pos (by omega)]
  ·rw[if_neg d,if_neg (show ¬j < i+1 by omega)]
theorem Hk:∀{a b:M Bool} {i:Nat} {x y:Bool},nth a i=Z x->nth b i=Z y->nth (dM a b) i=Z (x ||y)
 |_::_,_::_,0,_,_,d,c=>by cases d;cases c;rfl
 |a::x,b::y,i+1,_,_,d,c=>Hk (a:=x) (b:=y) d c
theorem FF{n:Nat}(h:n<=mg):IntKind.i64.wrap ((n:Int)+1)=((n+1:Nat):Int):=by rw[wrap_i64 (by simp only[mg]at h;omega)];omega
theorem aeA{a b:M Bool}(o:a.length<=mg+1)(v:b.length=a.length):G 233 [bu a,bu b]=Z (0,[bu (dM a b)]):=by
 have d:=ko a b;have m:=yl (n:=a.length) (by simp only[mg]at o;omega);have e:=Ld (b:=lB G IJ) (λi=>(0,[bu a,bu b,E (i:Int),bu (lu (dM a b) i)])) a.length (fin:=(0,[bu a,bu b,E a.length,.bool J,bu (lu (dM a b) a.length)])) (by
  intro i f;have k:IntKind.i64.wrap ((i:Int)+1)=((i+1:Nat):Int):=FF (by omega);have h:nth a i=Z a[i]:=dV f;have g:nth b i=Z (b[i]'(by omega)):=dV (by omega);have p:=Hk h g;have t:=OV h;have s:=OV g;have r:=sJ (l:=lu (dM a b) i) (i:=i) (by rw[yA _ _ (by omega)];omega);have q:=λc=>CV (l:=lu (dM a b) i) (i:=i) (c:=c) (by rw[yA _ _ (by omega)];omega);have j:=Ak p;generalize a[i]=x at *;generalize (b[i]'(by omega))=y at *;cases x<;>cases y<;>simp only[ft,ir,ew]at j<;>simp only[go_sem,bn,IJ,f,k,t,s,r,q,j]) (by
  simp only[go_sem,bn,IJ,aG])
 rw[n0,ac1,d,<- d,Nc,d]at e;refine dd t233 rfl ?_;simp only[go_sem,t233,m,e]
theorem uA(p:Nat->Bool)(k:Nat):(bW (k+1)).any p=((bW k).any p ||p k):=by
 rw[List.range_succ,List.any_append];simp
theorem Qd{t s:z}{a:M Bool}{i:Nat}{x:Bool}(b:i < s.size)(h:nth a i=Z x):nth (Mx t s a) (i+1)=Z (x && hasB t (cr s i)):=by
 have:=NS (f:=λi=>(nth a i).getD J && hasB t (cr s i)) b;rw[h]at this;exact this
theorem NT{l:M Bool}{i:Nat}{c:Bool}(h:i < l.length):nth (l.set i c) i=Z c:=by
 rw[fU,jZ];simp[h]
theorem Sd{s t:z}{a o:M Bool}{op ks:D}{i:Nat}{x:Bool}(Q:s.size<=mg)(P:t.size<=mg)(B:i < s.size)(C:nth a i=Z x)(f:nth o (i+1)=Z J) :
  ∃d:Int,bK (lB G uY) (0,[.str s,bu a,E (i:Int),E 0,op,.str t,ks,bu o])=Z (0,[.str s,bu a,E (i:Int),E d,.bool J,op,.str t,ks,bu (o.set (i+1) (x && hasB t (cr s i)))]):=by
 have n:=OV C;have e:=bF f;have A:IntKind.i64.wrap ((i:Int)+1)=((i+1:Nat):Int):=FF (by omega);cases x with
 |false=>
  have m:o.set (i+1) (J && hasB t (cr s i))=o:=by
   apply fi
   intro j;rw[jZ];rw[fU]at f;by_cases g:i+1=j
   ·subst g;rw[if_pos rfl,if_pos e,f];rfl
   ·rw[if_neg g]
  rw[m];refine⟨0,aF ?_⟩;by_cases w:(0:Int) < (t.size:Int)
  ·simp only[go_sem,bn,uY,w,n]
  ·simp only[go_sem,bn,uY,w,n]
 |true=>
  refine⟨t.size,?_⟩;have r:=Ld (b:=lB G uY) (λk=>(0,[.str s,bu a,E (i:Int),E (k:Int),op,.str t,ks,bu (o.set (i+1) ((bW k).any λk=>Z' (cr t k=cr s i)))])) t.size (fin:=(0,[.str s,bu a,E (i:Int),E t.size,.bool J,op,.str t,ks,bu (o.set (i+1) (hasB t (cr s i)))])) (by
   intro k v;have h:IntKind.i64.wrap ((k:Int)+1)=((k+1:Nat):Int):=FF (by omega);rw[uA];generalize (bW k).any (λk=>Z' (cr t k=cr s i))=q;have p:i+1 < (o.set (i+1) q).length:=by rw[qa];exact e
   have N:=sJ p;have L:=CU (NT (l:=o) (i:=i+1) (c:=q) e);have y:=λc=>CV (l:=o.set (i+1) q) (i:=i+1) (c:=c) p;have K:=c9 t k v;have H:=c9 s i B;have F:∀c,(o.set (i+1) q).set (i+1) c=o.set (i+1) c:=λc=>List.set_set ..;simp only[F]at y;cases q<;>simp only[go_sem,bn,uY,v,A,h,n,N,L,y,K,H]) (by
   have:hasB t (cr s i)=(bW t.size).any λk=>Z' (cr t k=cr s i):=rfl;rw[this];simp only[go_sem,bn,uY,aG])
  have m:o.set (i+1) ((bW 0).any λk=>Z' (cr t k=cr s i))=o:=by
   apply fi
   intro j;rw[jZ];rw[fU]at f;by_cases g:i+1=j
   ·subst g;rw[if_pos rfl,if_pos e,f];rfl
   ·rw[if_neg g]
  rw[m,n0]at r;rw[cJ];exact r
theorem WB{J:M Bool}{i j:Nat}(b:i<=j)(a:j < J.length):nth (lu J i) j=Z false:=by
 rw[fU,Df _ _ _ (by omega),if_neg (by omega),if_pos a]
theorem Se{s t:z}{a:M Bool}{op ks:D}(m:s.size<=mg)(l:t.size<=mg)(p:a.length=s.size+1) :
  bK (lB G DN) (0,[.str s,bu a,E 0,op,.str t,ks,bu (bc (s.size+1) false)])=Z (0,[.str s,bu a,E s.size,.bool false,op,.str t,ks,bu (Mx t s a)]):=by
 have g:=HY t s a;have f:=Ld (b:=lB G DN) (λi=>(0,[.str s,bu a,E (i:Int),op,.str t,ks,bu (lu (Mx t s a) (i+1))])) s.size (fin:=(0,[.str s,bu a,E s.size,.bool false,op,.str t,ks,bu (lu (Mx t s a) (s.size+1))])) (by
  intro i d;have k:IntKind.i64.wrap ((i:Int)+1)=((i+1:Nat):Int):=FF (by omega);have h:nth a i=Z (a[i]'(by omega)):=dV (by omega);have n:=Qd (t:=t) d h;obtain⟨c,e⟩:=Sd (op:=op) (ks:=ks) m l d h (WB (J:=Mx t s a) (i:=i+1) (j:=i+1) (au _) (by omega));rw[Ak n]at e;simp only[go_sem,bn,DN,d,k,e]) (by
  simp only[go_sem,bn,DN,aG])
 have o:lu (Mx t s a) (0+1)=bc (s.size+1) false:=by
  rw[lu,g];simp[Mx,ja]
 rw[o,n0]at f;rw[f]
 congr 9
 rw[<- g,Nc]
def neB(x y:M Bool):Bool:=!Z' (x=y)
theorem Uc:∀{x y:M Bool},x.length=y.length->(bW x.length).any (λj=>!Z' (nth x j=nth y j))=neB x y
 |[],[],_=>rfl
 |a::x,b::y,h=>by
  have c:=Uc (x:=x) (y:=y) (by simpa using h);rw[aE,List.range_succ_eq_map,lH,List.any_map];have i:((λj=>!Z' (nth (a::x) j=nth (b::y) j)) ∘ Nat.succ)=λj=>!Z' (nth x j=nth y j):=rfl;rw[i,c];simp only[neB,bZ];have g:nth (a::x) 0=Z a:=rfl;have f:nth (b::y) 0=Z b:=rfl;rw[g,f];by_cases e:a=b<;>by_cases d:x=y<;>simp[e,d]
theorem G9{s op tx ks:D}{o x:M Bool}(t:o.length<=mg+1)(e:x.length=o.length) :
  bK (lB G AJ) (0,[s,.bool J,E 0,op,tx,ks,bu o,bu x])=Z (0,[s,.bool (neB x o),E o.length,.bool J,op,tx,ks,bu o,bu x]):=by
 rw[<- Uc e];have f:=Ld (b:=lB G AJ) (λi=>(0,[s,.bool ((bW i).any λj=>!Z' (nth x j=nth o j)),E (i:Int),op,tx,ks,bu o,bu x])) o.length (fin:=(0,[s,.bool ((bW o.length).any λj=>!Z' (nth x j=nth o j)),E o.length,.bool J,op,tx,ks,bu o,bu x])) (by
  intro i a;have k:IntKind.i64.wrap ((i:Int)+1)=((i+1:Nat):Int):=FF (by omega);have h:nth o i=Z o[i]:=dV a;have g:nth x i=Z (x[i]'(by omega)):=dV (by omega);rw[uA,h,g];generalize (bW i).any (λj=>!Z' (nth x j=nth o j))=q;have r:=CU h;have p:=CU g;have n:=sJ a;have m:=sJ (l:=x) (i:=i) (by omega);generalize o[i]=c at *;generalize (x[i]'(by omega))=d at *;cases q<;>cases c<;>cases d<;>simp only[go_sem,bn,AJ,a,k,r,p,n,m,aa]) (by
  simp only[go_sem,bn,AJ,aG])
 rw[n0]at f;rw[e];exact f
theorem KM(p:dq):(jb p).length=3:=by rw[aV];rfl
theorem jj(p:dq)(k:Nat)(a:Bool):aK (.has 3) [.list k a [jb p]]=Z (.bool J):=by
 rw[xQ,KM,if_pos (au 3)]
theorem KN{l:M dq}{i:Nat}{p:dq}(h:nth l i=Z p):aK (.el 3) [ct l,E (i:Int)]=Z (.list 0 J [jb p]):=by
 rw[pT,aN,h];rfl
theorem wQ{k:dq}:aK (.el 3) [ct [k],E 0]=Z (.list 0 J [jb k]):=KN (l:=[k]) (i:=0) rfl
def EI(h:u D)(s:z)(op:Int)(t:z)(k:dq)(x:M Bool):Nat×M D:=match h with
 |none=>(0,[.str s,.int .i64 op,.str t,ct [k],bu x])
 |some a=>(1,[.str s,a,.int .i64 op,.str t,ct [k],bu x])
section
variable {s:z} {k:dq} {f:M Bool->M Bool} (hs:s.size<=mg) (hf:∀x:M Bool,x.length=s.size+1->(f x).length=s.size+1)
 (ih:∀x:M Bool,x.length=s.size+1->G 234 (jb k++[.str s,bu x])=Z (0,[bu (f x)]))
include hs hf ih
theorem Sh{t:z}:∀(m:Nat) (x:M Bool) (h:u D),outs x < m->x.length=s.size+1->
  bK (lB G oJ) (EI h s 4 t k x)=Z (0,[.str s,.bool I,E 4,.str t,ct [k],bu (BM f m x)]):=by
 intro m
 induction m with
 |zero=>intro x h q;omega
 |succ m p=>
  intro x h q e;have i:=ih x e;rw[aV]at i;simp only[aq,ay]at i;have j:=aeA (a:=x) (b:=f x) (by rw[e];omega) (by rw[hf x e,e]);have n:=ko x (f x);have g:=G9 (s:=.str s) (op:=E 4) (tx:=.str t) (ks:=ct [k]) (o:=x) (x:=dM x (f x)) (by rw[e];omega) n;simp only[BM];by_cases d:dM x (f x)=x
  ·rw[if_pos d];have l:neB (dM x (f x)) x=J:=by simp[neB,d]
   rw[l,d]at g;rw[d]at j;refine aF ?_;cases h with
   |none=>simp only[go_sem,bn,EI,oJ,wQ,jj,aV k,i,j,g]
   |some c=>simp only[go_sem,bn,EI,oJ,wQ,jj,aV k,i,j,g]
  ·rw[if_neg d];have l:neB (dM x (f x)) x=I:=by simp[neB,d]
   rw[l]at g;refine (bB (s':=EI (Z (.bool J)) s 4 t k (dM x (f x))) ?_).trans (p _ (Z (.bool J)) (by have:=(xv x (f x)).2 d;omega) (by rw[n];exact e));cases h with
   |none=>simp only[go_sem,bn,EI,oJ,wQ,jj,aV k,i,j,g]
   |some c=>simp only[go_sem,bn,EI,oJ,wQ,jj,aV k,i,j,g]
theorem Sf{t:z}{x:M Bool}(c:x.length=s.size+1) :
  bK (lB G oJ) (0,[.str s,E 5,.str t,ct [k],bu x])=Z (0,[.str s,.bool I,E 5,.str t,ct [k],bu (dM x (f x))]):=by
 have d:=ih x c;rw[aV]at d;simp only[aq,ay]at d;have i:=aeA (a:=x) (b:=f x) (by rw[c];omega) (by rw[hf x c,c]);have h:=ko x (f x);have e:=G9 (s:=.str s) (op:=E 5) (tx:=.str t) (ks:=ct [k]) (o:=x) (x:=dM x (f x)) (by rw[c];omega) h;refine aF ?_;cases g:neB (dM x (f x)) x<;>rw[g]at e<;>simp only[go_sem,bn,oJ,wQ,jj,aV k,d,i,e]
end
theorem xo{a β:Type}(g:β->a->β)(b:β)(l:M a)(i:Nat)(x:a)(h:nth l i=Z x):(l.take (i+1)).foldl g b=g ((l.take i).foldl g b) x:=by
 rw[cx l i x h,List.foldl_append];rfl
theorem K9{s:z}{f:dq->M Bool->M Bool}(a:∀(k:dq) (x:M Bool),x.length=s.size+1->(f k x).length=s.size+1):∀(l:M dq) (b:M Bool),b.length=s.size+1->(l.foldl (λo k=>f k o) b).length=s.size+1
 |[],_,h=>h
 |k::l,b,h=>K9 a l _ (a k b h)
theorem An{s:z}{g:dq->M Bool}:∀(l:M dq) (b:M Bool),b.length=s.size+1->(l.foldl (λo k=>dM o (g k)) b).length=s.size+1
 |[],_,h=>h
 |k::l,b,h=>An l _ (by rw[ko];exact h)
theorem aai{a:Type}{l:M a}(h:l.length≠1):¬(l.length:Int)=1:=by omega
theorem aeB{s:z}(P:s.size<=mg)(n:Nat):∀(p:dq) (a:M Bool),av p < n->xL 64 p=I->a.length=s.size+1->G 234 (jb p++[.str s,bu a])=Z (0,[bu (jc s n p a)]):=by
 induction n with
 |zero=>intro p a h;omega
 |succ n V=>
  intro p a Y S F;have j:=rM (s:=s) n;have D:∀k∈p.ae,∀x:M Bool,x.length=s.size+1->G 234 (jb k++[.str s,bu x])=Z (0,[bu (jc s n k x)]):=λk D x N=>V k x (by have:=dq.DB D;omega) (Cz S D) N;have c:=FF P;have d:=yl (n:=s.size+1) (by simp only[mg]at P;omega);have Ct:=CA S;have e:=Uo (l:=bc (s.size+1) J) (m:=a) (by simpa using F);have W:=aau S;refine dd t234 (by rw[aV];rfl) ?_;simp only[jc];unfold KY;by_cases v:p.op=1
  ·have r:=Se (s:=s) (t:=p.text) (a:=a) (op:=E 1) (ks:=ct p.ae) P (by simp only[mg];omega) F;rw[if_pos v];simp only[go_sem,c,d,e,t234,aV p,v,r]
  rw[if_neg v];by_cases w:p.op=2
  ·rw[if_pos w];have r:=fM (b:=lB G IK) p.ae (λi (x:M Bool)=>(0,[.str s,E (i:Int),E 2,.str p.text,ct p.ae,bu x])) (λi=>(p.ae.take i).foldl (λo k=>jc s n k o) a) (0,[.str s,E p.ae.length,.bool J,E 2,.str p.text,ct p.ae,bu (p.ae.foldl (λo k=>jc s n k o) a)]) (by
    intro i k y;have Q:=bF y;have q:=wj (i:=i) (n:=p.ae.length) Q (by simp only[mg];omega);have K:=D k (bz y) _ (K9 (f:=jc s n) j (p.ae.take i) a F);rw[aV]at K;simp only[aq,ay]at K;rw[xo _ _ _ _ _ y];simp only[go_sem,c,d,e,bn,IK,Q,q,KN y,jj];simp only[go_sem,c,d,e,aV k,K,q]) (by
    rw[bN];simp only[go_sem,c,d,e,bn,IK,aG]) p.ae.length 0 (by omega)
   rw[n0,dw,xY]at r;simp only[go_sem,c,d,e,t234,aV p,v,w,r]
  rw[if_neg w];by_cases B:p.op=3
  ·rw[if_pos B];have r:=fM (b:=lB G IL) p.ae (λi (x:M Bool)=>(0,[.str s,bu a,E (i:Int),E 3,.str p.text,ct p.ae,bu x])) (λi=>(p.ae.take i).foldl (λo k=>dM o (jc s n k a)) (bc (s.size+1) J)) (0,[.str s,bu a,E p.ae.length,.bool J,E 3,.str p.text,ct p.ae,bu (p.ae.foldl (λo k=>dM o (jc s n k a)) (bc (s.size+1) J))]) (by
    intro i k y;have Q:=bF y;have q:=wj (i:=i) (n:=p.ae.length) Q (by simp only[mg];omega);have K:=D k (bz y) a F;have U:=An (s:=s) (g:=λk=>jc s n k a) (p.ae.take i) (bc (s.size+1) J) (by simp);have X:=aeA (a:=(p.ae.take i).foldl (λo k=>dM o (jc s n k a)) (bc (s.size+1) J)) (b:=jc s n k a) (by rw[U];omega) (by rw[j k a F,U]);rw[aV]at K;simp only[aq,ay]at K;rw[xo _ _ _ _ _ y];simp only[go_sem,c,d,e,bn,IL,Q,q,KN y,jj];simp only[go_sem,c,d,e,aV k,K,X,q]) (by
    rw[bN];simp only[go_sem,c,d,e,bn,IL,aG]) p.ae.length 0 (by omega)
   rw[n0,dw,xY]at r;simp only[go_sem,c,d,e,t234,aV p,v,w,B,r]
  rw[if_neg B];by_cases C:p.op=4
  ·rw[if_pos C];have A:¬(4:Int)=5:=by decide
   by_cases H:p.ae.length=1
   ·obtain⟨k,L⟩:=db.1 H;have R:=Sh (t:=p.text) P (j k) (λx N=>D k (by rw[L];simp) x N) (s.size+2) a O (by have:=Jl a;omega) F;simp only[EI]at R;rw[L,Jj];simp only[go_sem,c,d,e,t234,aV p,v,w,B,C,A,L,R]
   ·rw[Jk H];have T:=aai H;have r:bK (lB G oJ) (0,[.str s,E 4,.str p.text,ct p.ae,bu a])=Z (1,[.str s,.bool J,E 4,.str p.text,ct p.ae,bu a]):=by
     refine aF ?_;simp only[go_sem,c,d,e,bn,oJ,T]
    simp only[go_sem,c,d,e,t234,aV p,v,w,B,C,A,r]
  rw[if_neg C];by_cases A:p.op=5
  ·rw[if_pos A];by_cases H:p.ae.length=1
   ·obtain⟨k,L⟩:=db.1 H;have R:=Sf (t:=p.text) P (j k) (λx N=>D k (by rw[L];simp) x N) F;rw[L,Jj];simp only[go_sem,c,d,e,t234,aV p,v,w,B,C,A,L,R]
   ·rw[Jk H];have T:=aai H;have r:bK (lB G oJ) (0,[.str s,E 5,.str p.text,ct p.ae,bu a])=Z (1,[.str s,.bool J,E 5,.str p.text,ct p.ae,bu a]):=by
     refine aF ?_;simp only[go_sem,c,d,e,bn,oJ,T]
    simp only[go_sem,c,d,e,t234,aV p,v,w,B,C,A,r]
  rw[if_neg A];simp only[go_sem,c,d,e,t234,aV p,v,w,B,C,A]
theorem amh{s:z}{p:dq}(d:s.size<=mg)(m:xL 64 p=I):G 235 (jb p++[.str s])=Z (0,[.bool (NJ p s)]):=by
 have k:=FF d;have o:=yl (n:=s.size+1) (by simp only[mg]at d;omega);have e:=aeB d (av p+1) p (I::bc s.size J) (aY _) m (by simp);have g:=rM (s:=s) (av p+1) p (I::bc s.size J) (by simp);rw[aV]at e;simp only[aq,ay]at e;have j:=sJ (l:=bc (s.size+1) J) (i:=0) (by simp);have f:=CV (l:=bc (s.size+1) J) (i:=0) (c:=I) (by simp);have v:(bc (s.size+1) J).set 0 I=I::bc s.size J:=by rw[ja];rfl
 rw[v]at f;rw[n0]at j f;have t:=sJ (l:=jc s (av p+1) p (I::bc s.size J)) (i:=s.size) (by rw[g];omega);obtain⟨b,h⟩:∃b,nth (jc s (av p+1) p (I::bc s.size J)) s.size=Z b:=⟨_,dV (by rw[g];omega)⟩
 have r:=CU h;refine dd t235 (by rw[aV];rfl) ?_;have q:NJ p s=b:=by rw[NJ,h];rfl
 rw[q];generalize jc s (av p+1) p (I::bc s.size J)=a at *;simp only[go_sem,t235,aV p,k,o,j,f,e,t,r]
end
end Go.Proofs.YthlpjklbafakfaaGreatDoor
