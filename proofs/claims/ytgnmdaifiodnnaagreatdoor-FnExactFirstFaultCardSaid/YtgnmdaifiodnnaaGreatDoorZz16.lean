/- Part of the proof. Condition: none. -/
import Derived.Test.YtgnmdaifiodnnaaGreatDoorZz10
set_option linter.all false
open Bool renaming and_eq_true->aw,false_eq_true->aL,not_eq_true'->cx,not_false->dh,false_ne_true->dr,not_true->dv,true_and->dw,or_eq_true->dE,false_and->dH,eq_false_iff->dS,eq_iff_iff->dU,false_or->fV,not_not->iN,and_assoc->iV,true->I,false->J
open ByteArray renaming size->nP,data_append->n_,ext->sE
open Int renaming toNat_natCast->cn,lt_irrefl->eg,neg_neg->uJ
open List renaming length_map->aj,nil_append->av,cons_append->ax,length_append->az,append_nil->aH,length_nil->aK,length_cons->aN,length_singleton->aQ,mem_cons->aU,mem_append->aZ,map_cons->bc,append_assoc->bh,length_take->bo,take_length->bq,take_zero->bB,sizeOf_lt_of_mem->bD,all_eq_true->bG,mem_singleton->bO,drop_zero->cj,take_append_drop->ck,forall_mem_cons->cz,map_nil->cA,map_append->cC,all_cons->cK,take_succ_cons->cT,nodup_cons->cU,cons_ne_nil->cW,drop_of_length_le->cX,length_eq_one_iff->dm,mem_map_of_mem->dM,mem_cons_of_mem->dO,isEmpty_iff->dT,mem_cons_self->dV,isEmpty_nil->ei,drop_length->eI,flatMap_cons->eJ,length_filter_le->eW,map_id'->fc,length_eq_zero_iff->fe,any_eq_true->fG,sum_cons->gB,any_cons->hO,isEmpty_cons->i_,flatMap_nil->jJ,length_pos_iff->kK,filter_cons->kN,filter_append->k9,take_left->oc,flatMap_append->qA,length_filterMap_le->uL,map_take->uN,not_mem_nil->vh,take_of_length_le->wJ,filterMap->zq,filter_sublist->A7
open List.cons renaming sizeOf_spec->bM
open Nat renaming lt_irrefl->aG,le_refl->aI,le_trans->aV,lt_succ_self->aW,zero_add->bF,zero_le->bK,add_zero->dG,lt_or_ge->ed,reduceAdd->eh,mul_le_mul->gD,add_mul->mq,le_mul_of_pos_left->xv
open Option renaming map_eq_some_iff->ay,map_some->aX,isSome_none->bw,isSome_some->bT,some->Z,none->O
open Option.some renaming inj->fQ
open SizeOf renaming sizeOf->aF
open UInt8 renaming ofNat->dW
open Decidable renaming decide->Z'
namespace Go.Proofs.YtgnmdaifiodnnaaGreatDoor
set_option maxRecDepth 100000
set_option maxHeartbeats 4000000
set_option maxHeartbeats 8000000
def ix(l:M z)(v:z):u Nat:=u7 (λe=>Z' (v=e)) l 0
theorem pV{a:Type}{p:a->Bool}:∀{l:M a} {k:Nat},(u7 p l k).isSome=l.any p
 |[],_=>rfl
 |e::l,k=>by simp only[u7,hO];by_cases h:p e=I;{simp[h]};simp[h,pV (l:=l)]
def iA(l:M z)(v:z):Bool:=l.any λe=>Z' (v=e)
def aad{l:M z}{v:z}:iA l v=I↔v∈l:=by simp[iA]
def adj{l:M z}{v:z}:iA l v=J↔v∉l:=by rw[<- aad];simp
def ahf(l:M z)(v:z):(ix l v).isSome=iA l v:=by rw[ix,pV,iA]
theorem q96{l:M z}{v:z}(f:l.length<=mg):G 96 [aJ l,.str v]=Z (0,[E (lE (ix l v))]):=by refine ch t96 rfl ?_;simp only[go_sem,t96];have c:=vI (b:=lB G TE) l (λi=>(0,[aJ l,.str v,E l.length,E (i:Int)])) (λe=>Z' (v=e)) (1,[aJ l,.str v,E l.length,E l.length,.bool J]) (λi e=>(0,[E (i:Int)])) (by intro i e a;have d:=bj a;have k:=wj d f;simp only[go_sem,bn,TE,d,aY,a,gk];(repeat' (first|with_reducible rfl|((first|rw[gM]|rw[gQ]|rw[gL]|rw[gP]);split<;>simp only[go_sem, *])));all_goals simp_all) (by simp only[go_sem,bn,TE,aG]);rw[n0]at c;rw[aj,c];unfold ix;cases g:u7 (λe=>Z' (v=e)) l 0 with|none=>{simp only[go_sem,lE]}|some j=>obtain⟨e,h,m⟩:=dy g;simp only[go_sem,h,lE]
theorem Rd(o:u Nat):Z' (0<=lE o)=o.isSome:=by cases o with|none=>{rfl}|some j=>simp[lE]
def q99{l:M z}{v:z}(a:l.length<=mg):G 99 [aJ l,.str v]=Z (0,[.bool (iA l v)]):=by refine ch t99 rfl ?_;simp only[go_sem,t99,q96 a,Rd,ahf]
def aef(k:Nat)(a:Bool)(es:M (M D))(n:Nat)(h:n<=es.length):aS (.cut I) [.list k a es,E 0,E (n:Int)]=Z (.list k a (es.take n)):=by simp[aS,dI,h]
def tO(l:M z):Bool:=allI (λi e=>!iA (l.take i) e) 0 l
theorem GJ:∀(m:M z) (l:M z) ,allI (λi e=>!iA ((m++l).take i) e) m.length l=I↔l.Nodup/\∀e∈l,e∉m
 |m,[]=>by simp[allI]
 |m,e::l=>by have c:=GJ (m++[e]) l;rw[bh,az]at c;simp only[allI,aw,cU];simp only[aN,aK,List.singleton_append,bF]at c;rw[c];simp only[List.take_left',cx,adj,aZ,aU,vh,or_false,not_or];refine⟨λ⟨f,d,b⟩=>⟨⟨λh=>(b e h).2 rfl,d⟩,λx a=>?_⟩,λ⟨⟨f,d⟩,b⟩=>⟨b e (.inl rfl),d,λx a=>⟨b x (.inr a),λh=>f (h▸a)⟩⟩⟩;rcases a with rfl|a;{exact f};exact (b x a).1
def sK(l:M z):tO l=I↔l.Nodup:=by have:=GJ [] l;simpa [tO] using this
def Xm{l:M z}(g:l.length<=mg):G 257 [aJ l]=Z (0,[.bool (tO l)]):=by refine ch t257 rfl ?_;simp only[go_sem,t257];have d:=qZ (b:=lB G Lq) l (λi=>(0,[aJ l,E l.length,E (i:Int)])) (λi e=>!iA (l.take i) e) (1,[aJ l,E l.length,E l.length,.bool J]) (0,[.bool J]) (by intro i e c;have f:=bj c;have j:=wj f g;have h:aS (.cut I) [aJ l,E 0,E (i:Int)]=Z (aJ (l.take i)):=by{rw[aef _ _ _ _ (by rw[aj];omega),<- uN]};have a:=q99 (l:=l.take i) (v:=e) (by rw[bo];omega);simp only[go_sem,bn,Lq,f,aY,c,gk,h,a];(repeat' (first|with_reducible rfl|((first|rw[gM]|rw[gQ]|rw[gL]|rw[gP]);split<;>simp only[go_sem, *])));all_goals simp_all) (by simp only[go_sem,bn,Lq,aG]) l.length 0 (by omega);rw[n0]at d;rw[aj,d];rw[show tO l=allI (λi e=>!iA (l.take i) e) 0 (l.drop 0) from rfl];cases allI (λi e=>!iA (l.take i) e) 0 (l.drop 0)<;>simp only[go_sem]
def aip{l:M z}(h:bQ gk l<=mg):G 271 [aJ l]=Z (0,[.bool (l.all isName)]):=by refine ch t271 rfl ?_;simp only[go_sem,t271];(have a:l.length<=mg:=by simp only[bQ]at h;omega);have f:=ig (b:=lB G Lx) l (λi=>(0,[aJ l,E l.length,E (i:Int)])) isName (1,[aJ l,E l.length,E l.length,.bool J]) (0,[.bool J]) (by intro i e c;have g:=bj c;have j:=wj g a;have d:=aex (s:=e) (by have:=Ut l (bp c);omega);simp only[go_sem,bn,Lx,g,aY,c,gk,d];(repeat' (first|with_reducible rfl|((first|rw[gM]|rw[gQ]|rw[gL]|rw[gP]);split<;>simp only[go_sem, *])));all_goals simp_all) (by simp only[go_sem,bn,Lx,aG]);rw[n0]at f;rw[aj,f];cases l.all isName<;>simp only[go_sem]
theorem Ta{o f n:Type}{b:f->u (Sg f n)}(es:M o)(mk:Nat->f)(p:Nat->o->Bool)(a g:n)
  (q:∀i e,nth es i=Z e->(∀j x,j<i->nth es j=Z x->p j x=I)->b (mk i)=Z (if p i e=I then .go (mk (i+1)) else .out g))
  (r:b (mk es.length)=Z (.out a)):∀m i,i+m=es.length->(∀j x,j<i->nth es j=Z x->p j x=I)->bJ b (mk i)=Z (if allI p i (es.drop i)=I then a else g)
 |0,i,h,c=>by (obtain rfl:i=es.length:=by omega);rw[aO r,eI];rfl
 |m+1,i,h,s=>by have a1:=dL (l:=es) (i:=i) (by omega);have d:=q i _ a1 s;(have w:allI p i (es.drop i)=(p i (es[i]'(by omega)) && allI p (i+1) (es.drop (i+1))):=by rw[fM es i _ a1];rfl);rw[w];by_cases c:p i (es[i]'(by omega))=I;{rw[if_pos c]at d;rw[bE d,c,dw];refine Ta es mk p a g q r m (i+1) (by omega) λj x v k=>?_;rcases ed j i with t|t;{exact s j x t k};(obtain rfl:j=i:=by omega);rw[a1]at k;cases k;exact c};rw[if_neg c]at d;rw[aO d,dS.2 c,dH,if_neg dr]
def N3{g c f:Type}{b:c->u (Sg c f)}(es:M g)(mk:Nat->c)(p:Nat->g->Bool)(a d:f)
  (k:∀i e,nth es i=Z e->(∀j x,j<i->nth es j=Z x->p j x=I)->b (mk i)=Z (if p i e=I then .go (mk (i+1)) else .out d))
  (l:b (mk es.length)=Z (.out a)):bJ b (mk 0)=Z (if allI p 0 es=I then a else d):=
 Ta es mk p a d k l es.length 0 (by omega) λj x h _=>by omega
def apart(l:M ku)(i:Nat)(e:ku):Bool:=match i with
 |0=>I
 |i+1=>match nth l i with
  |some p=>Z' (p.hi+1<e.lo)
  |none=>I
def PQ(l:M ku)(i:Nat)(e:ku):Bool:=Z' (e.lo<=e.hi) && (Z' (-1000000000<=e.lo) && (Z' (e.hi<=1000000000) && apart l i e))
def Er(l:M ku):Bool:=allI (PQ l) 0 l && Z' (l.length<=6)
def uz{l:M ku}{i:Nat}{e:ku}:PQ l i e=I↔e.lo<=e.hi/\-1000000000<=e.lo/\e.hi<=1000000000/\apart l i e=I:=by simp[PQ]
def xh{l:M ku}{i:Nat}{e:ku}(h:¬(e.lo<=e.hi/\-1000000000<=e.lo/\e.hi<=1000000000)):PQ l i e=J:=by rw[dS];intro a;have:=uz.1 a;exact h ⟨this.1,this.2.1,this.2.2.1⟩
def le6(n:Nat):Z' ((n:Int)<=6)=Z' (n<=6):=by rw[dU];simp;omega
theorem aqC{l:M ku}(j:l.length<=mg):G 215 [gR l]=Z (0,[.bool (Er l)]):=by refine ch t215 rfl ?_;simp only[go_sem,t215];have k:=N3 (b:=lB G Lh) l (λi=>(0,[gR l,E (i:Int)])) (PQ l) (1,[gR l,E l.length,.bool J]) (0,[.bool J]) (by intro i e a t;have m:=bj a;have h:=wj m j;simp only[go_sem,bn,Lh,m,aY,a,lK,aj];by_cases c:e.hi<e.lo;{simp only[go_sem,c,xh (l:=l) (i:=i) (e:=e) (by omega)]};by_cases f:e.lo < -1000000000;{simp only[go_sem,c,f,xh (l:=l) (i:=i) (e:=e) (by omega),aY,a,lK]};by_cases g:1000000000<e.hi;{simp only[go_sem,c,f,g,xh (l:=l) (i:=i) (e:=e) (by omega),aY,a,lK]};cases i with|zero=>{have d:PQ l 0 e=I:=uz.2 ⟨by omega,by omega,by omega,rfl⟩;simp only[go_sem,c,f,g,d,aY,a,lK,n0,eg];simp only[go_sem,n0]at h;rw[h]}|succ i=>have a1:=dL (l:=l) (i:=i) (by omega);have s:=uz.1 (t i _ (by omega) a1);generalize l[i]'(by omega)=p at a1 s;(have r:IntKind.i64.wrap (((i+1:Nat):Int) - 1)=(i:Int):=by rw[wrap_i64 (by simp only[mg]at j;omega)];omega);have q:IntKind.i64.wrap (p.hi+1)=p.hi+1:=wrap_i64 (by omega);(have o:(0:Int)<((i+1:Nat):Int):=by omega);by_cases n:e.lo<=p.hi+1;{have d:PQ l (i+1) e=J:=by{simp only[PQ,apart,a1];(have:Z' (p.hi+1<e.lo)=J:=by simp;omega);simp[this]};simp only[go_sem,c,f,g,n,d,aY,a,lK,r,q,o,a1]};have d:PQ l (i+1) e=I:=uz.2 ⟨by omega,by omega,by omega,by simp only[apart,a1];simp;omega⟩;simp only[go_sem,c,f,g,n,d,aY,a,lK,r,q,o,a1,h]) (by simp only[go_sem,bn,Lh,aG,aj]);rw[n0]at k;rw[k];unfold Er;cases allI (PQ l) 0 l with|false=>{simp only[go_sem]}|true=>simp only[go_sem,aj,le6]
def aeA(n:Int):G 273 [E n]=Z (0,[.bool (eB (-1000000000) 1000000000 n)]):=by refine ch t273 rfl ?_;simp only[go_sem,t273];unfold eB;by_cases h:-1000000000<=n;{simp only[go_sem,h]};simp only[go_sem,h]
theorem aqZ{l:M ku}(g:l.length<=mg):G 274 [gR l]=Z (0,[.bool (Er l)]):=by refine ch t274 rfl ?_;simp only[go_sem,t274];have k:=N3 (b:=lB G Ly) l (λi=>(0,[gR l,gR l,E l.length,E (i:Int)])) (PQ l) (1,[gR l,gR l,E l.length,E l.length,.bool J]) (0,[.bool J]) (by intro i e j v;have m:=bj j;have c:=wj m g;simp only[go_sem,bn,Ly,m,aY,j,lK,aN,aK,aI];by_cases o:e.hi<e.lo;{simp only[go_sem,o,xh (l:=l) (i:=i) (e:=e) (by omega)]};simp only[go_sem,o,aeA];cases f:eB (-1000000000) 1000000000 e.lo with|false=>{(have:¬(-1000000000<=e.lo/\e.lo<=1000000000):=λh=>by rw[(ej _ _ _).2 h]at f;cases f);simp only[go_sem,xh (l:=l) (i:=i) (e:=e) (by omega)]}|true=>have x:=(ej _ _ _).1 f;simp only[go_sem,aeA];cases d:eB (-1000000000) 1000000000 e.hi with|false=>{(have:¬(-1000000000<=e.hi/\e.hi<=1000000000):=λh=>by rw[(ej _ _ _).2 h]at d;cases d);simp only[go_sem,xh (l:=l) (i:=i) (e:=e) (by omega)]}|true=>have w:=(ej _ _ _).1 d;simp only[go_sem];cases i with|zero=>{have a:PQ l 0 e=I:=uz.2 ⟨by omega,by omega,by omega,rfl⟩;simp only[go_sem,a,n0,eg];simp only[go_sem,n0]at c;rw[c]}|succ i=>have a1:=dL (l:=l) (i:=i) (by omega);have t:=uz.1 (v i _ (by omega) a1);generalize l[i]'(by omega)=p at a1 t;(have s:IntKind.i64.wrap (((i+1:Nat):Int) - 1)=(i:Int):=by rw[wrap_i64 (by simp only[mg]at g;omega)];omega);have r:IntKind.i64.wrap (p.hi+2)=p.hi+2:=wrap_i64 (by omega);(have q:(0:Int)<((i+1:Nat):Int):=by omega);by_cases n:e.lo<p.hi+2;{have a:PQ l (i+1) e=J:=by{simp only[PQ,apart,a1];(have:Z' (p.hi+1<e.lo)=J:=by simp;omega);simp[this]};simp only[go_sem,n,a,aY,lK,s,r,q,a1]};have a:PQ l (i+1) e=I:=uz.2 ⟨by omega,by omega,by omega,by simp only[apart,a1];simp;omega⟩;simp only[go_sem,n,a,aY,lK,s,r,q,a1,c]) (by simp only[go_sem,bn,Ly,aG]);rw[n0]at k;rw[aj,k];unfold Er;cases allI (PQ l) 0 l with|false=>{simp only[go_sem]}|true=>simp only[go_sem,aj,le6]
def To(l:M ku)(n:Int):Bool:=l.any (λe=>eB e.lo e.hi n) ||l.isEmpty
def uq{a:Type}(l:M a):Z' ((l.length:Int)=0)=l.isEmpty:=by cases l<;>simp;omega
theorem q9{f a d:Type}{b:a->u (Sg a d)}(es:M f)(mk:Nat->a)(p:f->Bool)(none_ c:d)
  (g:∀i e,nth es i=Z e->b (mk i)=Z (if p e=I then .out c else .go (mk (i+1))))
  (h:b (mk es.length)=Z (.out none_)):bJ b (mk 0)=Z (if es.any p=I then c else none_):=by rw[vI es mk p none_ (λ_ _=>c) g h,<- pV (k:=0)];cases l:u7 p es 0 with|none=>{rfl}|some j=>obtain⟨e,m,n⟩:=dy l;simp[m]
theorem aqI{l:M ku}{n:Int}(g:l.length<=mg):G 232 [gR l,E n]=Z (0,[.bool (To l n)]):=by refine ch t232 rfl ?_;simp only[go_sem,t232];have c:=q9 (b:=lB G Li) l (λi=>(0,[gR l,E n,E (i:Int)])) (λe=>eB e.lo e.hi n) (1,[gR l,E n,E l.length,.bool J]) (0,[.bool I]) (by intro i e a;have d:=bj a;have f:=wj d g;simp only[go_sem,bn,Li,d,aY,a,lK,aj,zA];cases h:eB e.lo e.hi n<;>simp only[go_sem,f]) (by simp only[go_sem,bn,Li,aG,aj]);rw[n0]at c;rw[c];unfold To;cases l.any (λe=>eB e.lo e.hi n) with|true=>{simp only[go_sem]}|false=>simp only[go_sem,aj,uq]
theorem aq3{l:M ku}{n:Int}(h:l.length<=mg):G 288 [gR l,E n]=Z (0,[.bool (To l n)]):=by refine ch t288 rfl ?_;simp only[go_sem,t288];have d:=q9 (b:=lB G LB) l (λi=>(0,[gR l,E n,gR l,E l.length,E (i:Int)])) (λe=>eB e.lo e.hi n) (1,[gR l,E n,gR l,E l.length,E l.length,.bool J]) (0,[.bool I]) (by intro i e c;have f:=bj c;have a:=wj f h;simp only[go_sem,bn,LB,f,aY,c,lK,aN,aK,aI];unfold eB;by_cases g:e.lo<=n;{by_cases j:n<=e.hi<;>simp only[go_sem,g,j,a]};simp only[go_sem,g,a]) (by simp only[go_sem,bn,LB,aG]);rw[n0]at d;rw[aj,d];unfold To;cases l.any (λe=>eB e.lo e.hi n) with|true=>{simp only[go_sem]}|false=>simp only[go_sem,aj,uq]
def dg(s:z):Nat->Nat->Int->u Int
 |_,0,n=>Z n
 |i,m+1,n=>if eB 48 57 (bY s i)=I then (if 1000000000<10 * n+(bY s i - 48) then O else dg s (i+1) m (10 * n+(bY s i - 48))) else O
def dgR(s:z):u Int->Nat×M D
 |some r=>(1,[.str s,.int .i64 r,.int .i64 s.size,.bool J])
 |none=>(0,[.int .i64 0,.bool J])
theorem SD{s:z}(c:s.size<=mg):∀(m i:Nat) (n:Int),i+m=s.size->0<=n->n<=1000000000->
  bJ (lB G BW) (0,[.str s,E n,E (i:Int)])=Z (dgR s (dg s i m n))
 |0,i,n,h,l,k=>by (obtain rfl:i=s.size:=by omega);refine aO ?_;simp only[go_sem,bn,BW,aG,dg,dgR]
 |m+1,i,n,h,l,k=>by (have a:i<s.size:=by omega);have j:=wj a c;have o:=mP s i;cases hd:eB 48 57 (bY s i) with|false=>{refine (aO (r:=(0,[E 0,.bool J])) ?_).trans (by simp[dg,hd,dgR]);simp only[go_sem,bn,BW,a,df,zA,hd]}|true=>have p:=(ej _ _ _).1 hd;have g:IntKind.i64.wrap (10 * n)=10 * n:=wrap_i64 (by omega);have f:IntKind.u8.wrap (bY s i - 48)=bY s i - 48:=wrap_u8 (by omega);have e:IntKind.i64.wrap (bY s i - 48)=bY s i - 48:=wrap_i64 (by omega);have d:IntKind.i64.wrap (10 * n+(bY s i - 48))=10 * n+(bY s i - 48):=wrap_i64 (by omega);by_cases b:1000000000<10 * n+(bY s i - 48);{refine (aO (r:=(0,[E 0,.bool J])) ?_).trans (by simp[dg,hd,dgR,b]);simp only[go_sem,bn,BW,a,df,zA,hd,g,f,e,d,b]};rw[show dg s i (m+1) n=dg s (i+1) m (10 * n+(bY s i - 48)) by simp[dg,hd,b],<- SD c m (i+1) _ (by omega) (by omega) (by omega)];refine bE ?_;simp only[go_sem,bn,BW,a,df,zA,hd,g,f,e,d,b,j]
def AK(s:z):u Int:=if s.size=0 then O else dg s 0 s.size 0
def eN:u Int->M D
 |some n=>[.int .i64 n,.bool I]
 |none=>[.int .i64 0,.bool J]
def gt0(n:Nat):Z' (0<(n:Int))=!Z' (n=0):=by rw[dU];simp;omega
theorem abt{s:z}(c:s.size<=mg):G 229 [.str s]=Z (0,eN (AK s)):=by refine ch t229 rfl ?_;simp only[go_sem,t229];have b:=SD c s.size 0 0 (by omega) (by omega) (by omega);rw[n0]at b;rw[b];unfold AK;by_cases a:s.size=0;{rw[if_pos a,a];simp only[go_sem,dg,dgR,eN,a,n0,eg]};rw[if_neg a];cases dg s 0 s.size 0 with|none=>{simp only[go_sem,dgR,eN]}|some n=>(have:(0:Int)<(s.size:Int):=by omega);simp only[go_sem,dgR,eN,this]
theorem ED{s:z}:∀(m i:Nat) (n r:Int),0<=n->n<=1000000000->dg s i m n=Z r->0<=r/\r<=1000000000
 |0,i,n,r,b,a,h=>by cases h;exact⟨b,a⟩
 |m+1,i,n,r,b,a,h=>by simp only[dg]at h;split at h;{rename_i hd;have c:=(ej _ _ _).1 hd;split at h;{cases h};exact ED m (i+1) _ r (by omega) (by omega) h};cases h
def ti{s:z}{r:Int}(h:AK s=Z r):0<=r/\r<=1000000000:=by unfold AK at h;split at h;{cases h};exact ED _ _ _ _ (by omega) (by omega) h
def Hd(s:z):Bool:=!Z' (s.size=0) && (Z' (bY s 0=45) ||decide (bY s 0=43))
def tl(s:z):z:=s.extract 1 s.size
def Ee(s:z):(tl s).size=s.size - 1:=by simp[tl]
def Ma(s:z):u Int:=(AK (if Hd s=I then tl s else s)).map λn=>if bY s 0=45 then -n else n
def uE(t:z)(h:1<=t.size):aS (.MQ J) [.str t,E 1]=Z (.str (tl t)):=by simp[aS,dI,tl,h]
def ji{t:z}(h:0<t.size):aS .six [.str t,E 0]=Z (.int .u8 (bY t 0)):=df t 0 h
def Xp{s:z}{r:Int}(h:Ma s=Z r):-1000000000<=r/\r<=1000000000:=by obtain⟨n,a,rfl⟩:=ay.1 h;have:=ti a;split<;>omega
theorem aqH{s:z}(h:s.size<=mg):G 230 [.str s]=Z (0,eN (Ma s)):=by refine ch t230 rfl ?_;simp only[go_sem,t230];have g:=abt (s:=tl s) (by rw[Ee];omega);by_cases d:s.size=0;{(have e:Ma s=O:=by simp[Ma,Hd,d,AK]);(have hd:AK s=O:=by simp[AK,d]);rw[e];simp only[go_sem,gt0,d,abt h,hd,eN]};(have b:0<s.size:=by omega);simp only[go_sem,gt0,d,ji b];by_cases c:bY s 0=45;{(have a:Hd s=I:=by simp[Hd,d,c]);simp only[go_sem,c,uE s b,g,Ma,a];cases e:AK (tl s) with|none=>{simp only[go_sem,eN]}|some n=>have:=ti e;have i:IntKind.i64.wrap (-n)=-n:=wrap_i64 (by omega);simp only[go_sem,eN,ji b,c,i]};by_cases f:bY s 0=43;{(have a:Hd s=I:=by simp[Hd,d,f]);simp only[go_sem,f,uE s b,g,Ma,a,ji b];cases e:AK (tl s) with|none=>{simp only[go_sem,eN]}|some n=>simp only[go_sem,eN,ji b,f]};(have a:Hd s=J:=by simp[Hd,c,f]);simp only[go_sem,c,f,abt h,Ma,a,ji b];cases e:AK s with|none=>{simp only[go_sem,eN]}|some n=>simp only[go_sem,eN,ji b,c]
def di(s:z):Nat->Nat->Int->u Int
 |_,0,n=>Z n
 |i,m+1,n=>if eB 48 57 (bY s i)=I then di s (i+1) m (if n<=1000000000 then n * 10+(bY s i - 48) else n) else O
theorem Y_(s:z):∀(m i:Nat) (n r:Int),1000000000<n->di s i m n=Z r->r=n
 |0,i,n,r,h,hd=>by cases hd;rfl
 |m+1,i,n,r,h,hd=>by simp only[di]at hd;split at hd;{rw[if_neg (by omega)]at hd;exact Y_ s m (i+1) n r h hd};cases hd
theorem afo(s:z):∀(m i:Nat) (n:Int),0<=n->n<=1000000000->(match di s i m n with|some r=>if 1000000000<r then O else Z r|none=>O)=dg s i m n
 |0,i,n,d,b=>by simp only[di,dg];rw[if_neg (by omega)]
 |m+1,i,n,d,b=>by simp only[di,dg];cases hd:eB 48 57 (bY s i) with|false=>{simp}|true=>have e:=(ej _ _ _).1 hd;simp only[if_true];rw[if_pos b,show n * 10+(bY s i - 48)=10 * n+(bY s i - 48) by omega];by_cases a:1000000000<10 * n+(bY s i - 48);{rw[if_pos a];cases c:di s (i+1) m (10 * n+(bY s i - 48)) with|none=>{rfl}|some r=>rw[Y_ s m (i+1) _ r a c];simp only[if_pos a]};rw[if_neg a];exact afo s m (i+1) _ (by omega) (by omega)
def Y9(s:z)(b:Bool):u Int->Nat×M D
 |some r=>(1,[.str s,.bool b,.int .i64 r,.int .i64 s.size,.bool J])
 |none=>(0,[.int .i64 0,.bool J])
theorem zQ{s:z}(e:s.size<=mg)(b:Bool):∀(m i:Nat) (n:Int),i+m=s.size->0<=n->n<=10000000009->
  bJ (lB G yD) (0,[.str s,.bool b,E n,E (i:Int)])=Z (Y9 s b (di s i m n))
 |0,i,n,h,k,j=>by (obtain rfl:i=s.size:=by omega);refine aO ?_;simp only[go_sem,bn,yD,aG,di,Y9]
 |m+1,i,n,h,k,j=>by (have c:i<s.size:=by omega);have g:=wj c e;have t:=mP s i;by_cases d:bY s i<48;{(have hd:eB 48 57 (bY s i)=J:=by simp[eB];omega);refine (aO (r:=(0,[E 0,.bool J])) ?_).trans (by simp[di,hd,Y9]);simp only[go_sem,bn,yD,c,df,d]};by_cases f:57<bY s i;{(have hd:eB 48 57 (bY s i)=J:=by simp[eB];omega);refine (aO (r:=(0,[E 0,.bool J])) ?_).trans (by simp[di,hd,Y9]);simp only[go_sem,bn,yD,c,df,d,f]};(have hd:eB 48 57 (bY s i)=I:=by simp[eB];omega);have q:n<=1000000000->IntKind.i64.wrap (n * 10)=n * 10:=λh=>wrap_i64 (by omega);have p:IntKind.u8.wrap (bY s i - 48)=bY s i - 48:=wrap_u8 (by omega);have o:IntKind.i64.wrap (bY s i - 48)=bY s i - 48:=wrap_i64 (by omega);have l:n<=1000000000->IntKind.i64.wrap (n * 10+(bY s i - 48))=n * 10+(bY s i - 48):=λh=>wrap_i64 (by omega);by_cases a:n<=1000000000;{rw[show di s i (m+1) n=di s (i+1) m (n * 10+(bY s i - 48)) by simp[di,hd,a],<- zQ e b m (i+1) _ (by omega) (by omega) (by omega)];refine bE ?_;simp only[go_sem,bn,yD,c,df,d,f,q a,p,o,l a,a,g]};rw[show di s i (m+1) n=di s (i+1) m n by simp[di,hd,a],<- zQ e b m (i+1) _ (by omega) (by omega) (by omega)];refine bE ?_;simp only[go_sem,bn,yD,c,df,d,f,a,g]
theorem dC(s:z):Z' (s=⟨#[]⟩)=Z' (s.size=0):=by rw[dU];simp only[decide_eq_true_eq];refine⟨λh=>by rw[h];rfl,λh=>?_⟩;cases s with|mk a=>simp[nP]at h;rw[h]
theorem ba0:(⟨[].toArray⟩:z)=⟨#[]⟩:=(rfl)
attribute [go_sem] ba0 dC
theorem anG{s:z}(m:s.size<=mg):G 287 [.str s]=Z (0,eN (Ma s)):=by refine ch t287 rfl ?_;simp only[go_sem,t287];have fin:∀(t:z) (b:Bool),t.size<=mg->(match di t 0 t.size 0 with|some r=>if 1000000000<r then O else Z r|none=>O)=dg t 0 t.size 0:=λt b e=>afo t t.size 0 0 (by omega) (by omega);by_cases h:s.size=0;{(have j:Ma s=O:=by simp[Ma,Hd,h,AK]);rw[j];simp only[go_sem,h,eN]};(have f:0<s.size:=by omega);simp only[go_sem,h,ji f];by_cases l:bY s 0=45;{(have a:Hd s=I:=by simp[Hd,h,l]);(have i:(tl s).size<=mg:=by rw[Ee];omega);have g:=fin (tl s) I i;have c:=zQ i I (tl s).size 0 0 (by omega) (by omega) (by omega);rw[n0]at c;simp only[go_sem,l,uE s f,ji f,Ma,a];by_cases e:(tl s).size=0;{simp only[go_sem,e,AK,eN]};simp only[go_sem,e,AK,c];rw[<- g];cases j:di (tl s) 0 (tl s).size 0 with|none=>{simp only[go_sem,Y9,eN]}|some n=>by_cases d:1000000000<n;{simp only[go_sem,Y9,eN,d]};(have p:dg (tl s) 0 (tl s).size 0=Z n:=by rw[<- g,j];simp[d]);have:=ED _ _ _ _ (by omega) (by omega) p;have o:IntKind.i64.wrap (-n)=-n:=wrap_i64 (by omega);simp only[go_sem,Y9,eN,d,o]};by_cases k:bY s 0=43;{(have a:Hd s=I:=by simp[Hd,h,k]);(have i:(tl s).size<=mg:=by rw[Ee];omega);have g:=fin (tl s) J i;have c:=zQ i J (tl s).size 0 0 (by omega) (by omega) (by omega);rw[n0]at c;simp only[go_sem,k,uE s f,ji f,Ma,a];by_cases e:(tl s).size=0;{simp only[go_sem,e,AK,eN]};simp only[go_sem,e,AK,c];rw[<- g];cases j:di (tl s) 0 (tl s).size 0 with|none=>{simp only[go_sem,Y9,eN]}|some n=>by_cases d:1000000000<n<;>simp only[go_sem,Y9,eN,d]};(have a:Hd s=J:=by simp[Hd,l,k]);have g:=fin s J m;have c:=zQ m J s.size 0 0 (by omega) (by omega) (by omega);rw[n0]at c;simp only[go_sem,l,k,Ma,a,h,AK,c,ji f];rw[<- g];cases j:di s 0 s.size 0 with|none=>{simp only[go_sem,Y9,eN]}|some n=>by_cases d:1000000000<n<;>simp only[go_sem,Y9,eN,d]
def bA(l:M UInt8):z:=⟨l.toArray⟩
def Yw(l m:M UInt8)(s:z):bA l++(bA m++s)=bA (l++m)++s:=by apply sE;simp only[bA,n_];rw[<- Array.append_assoc];simp
def oC(n:Int):z:=bA (Lib.itoa n)
def Km(a:Nat):M UInt8:=if a=0 then [] else Lib.decDigits a
def IV{a:Nat}(h:a≠0):Km a=Km (a / 10)++[dW (48+a % 10)]:=by unfold Km;rw[if_neg h];rw[Lib.decDigits];by_cases b:a<10;{(have:a / 10=0:=by omega);rw[dif_pos b,if_pos this,show a % 10=a by omega];rfl};(have:a / 10≠0:=by omega);rw[dif_neg b,if_neg this]
def xn(c:Int):aS .PI [.list 1 I [[.int .u8 c]]]=Z (.str (bA [dW c.toNat])):=by simp[aS,bytesOf,bA]
def uD(k:IntKind)(c:Int):aS (.lD 1 I) [.int k c]=Z (.list 1 I [[.int k c]]):=by simp[aS,chunk,db,D.plain]
theorem DO:∀(k a:Nat),a<10 ^ (k+1)->(Lib.decDigits a).length<=k+1
 |0,a,h=>by rw[Lib.decDigits,dif_pos (by omega)];simp
 |k+1,a,h=>by rw[Lib.decDigits];split;{simp};have:=DO k (a / 10) (by rw[Nat.pow_succ]at h;omega);simp only[az,aN,aK];omega
def pg(l:M UInt8):(bA l).size=l.length:=by simp[bA,nP]
def SW{n:Int}{h:Nat}{u:Nat}{s:z}{x:Int}{zs:M D}(l:(h=0/\zs=[])\/(h=1/\∃a,zs=[a]))(r:0<u)(w:u<=1000000000)(t:s.size<=20)(q:x=(u:Int)\/x=-(u:Int)) :
  ∃a k,(k=((u / 10:Nat):Int)\/k=-((u / 10:Nat):Int))/\lB G oU (h,[E n,.str s,E x]++zs)=Z (.go (1,[E n,.str (bA [dW (48+u % 10)]++s),E k,a])):=by have v:u % 10<10:=Nat.mod_lt _ (by omega);(have i:IntKind.i64.wrap (48+((u % 10:Nat):Int))=((48+u % 10:Nat):Int):=by rw[wrap_i64 (by omega)];omega);have g:IntKind.u8.wrap ((48+u % 10:Nat):Int)=((48+u % 10:Nat):Int):=wrap_u8 (by omega);have f:(((48+u % 10:Nat):Int)).toNat=48+u % 10:=cn _;have p:IntKind.i64.wrap ((u % 10:Nat):Int)=((u % 10:Nat):Int):=wrap_i64 (by omega);(have j:(bA [dW (48+u % 10)]).size+s.size<=maxLen:=by rw[pg];simp only[aN,aK];exact aV (show 0+1+s.size<=21 by omega) (by decide));have e:(u:Int) % 10=((u % 10:Nat):Int):=rfl;have d:(u:Int) / 10=((u / 10:Nat):Int):=rfl;(have o:0<=(u:Int):=by omega);(have n1:¬0<=-(u:Int):=by omega);(have n2:-(u:Int)<0:=by omega);rcases q with rfl|rfl;{(have c:¬(u:Int)=0:=by omega);(have b:¬((u % 10:Nat):Int)<0:=by omega);refine⟨.list 1 I [[.int .u8 ((48+u % 10:Nat):Int)]],_,.inl rfl,?_⟩;rcases l with ⟨rfl,rfl⟩|⟨rfl,a,rfl⟩;{simp only[go_sem,bn,oU,c,o,e,d,b,i,g,f,j,uD,xn]};simp only[go_sem,bn,oU,c,o,e,d,b,i,g,f,j,uD,xn]};(have c:¬-(u:Int)=0:=by omega);refine⟨.list 1 I [[.int .u8 ((48+u % 10:Nat):Int)]],_,.inr rfl,?_⟩;by_cases b:-((u % 10:Nat):Int)<0;{rcases l with ⟨rfl,rfl⟩|⟨rfl,a,rfl⟩;{simp only[go_sem,bn,oU,c,n1,n2,e,d,uJ,b,i,g,f,p,j,uD,xn]};simp only[go_sem,bn,oU,c,n1,n2,e,d,uJ,b,i,g,f,p,j,uD,xn]};(have m:-((u % 10:Nat):Int)=((u % 10:Nat):Int):=by omega);rw[m]at b;rcases l with ⟨rfl,rfl⟩|⟨rfl,a,rfl⟩;{simp only[go_sem,bn,oU,c,n1,n2,e,d,uJ,m,b,i,g,f,j,uD,xn]};simp only[go_sem,bn,oU,c,n1,n2,e,d,uJ,m,b,i,g,f,j,uD,xn]
theorem SV{n:Int}:∀(k u:Nat) (s:z) (x:Int) (a:D),u<10 ^ k->k<=10->s.size+k<=20->u<=1000000000->(x=(u:Int)\/x=-(u:Int))->
  ∃e,bJ (lB G oU) (1,[E n,.str s,E x,a])=Z (1,[E n,.str (bA (Km u)++s),E 0,.bool J,e])
 |k,u,s,x,a,i,p,o,j,g=>by by_cases c:u=0;{(obtain rfl:x=0:=by omega);refine⟨a,aO ?_⟩;(have:bA (Km u)++s=s:=by rw[c];apply sE;simp[Km,bA,n_]);rw[this];simp only[go_sem,bn,oU]};cases k with|zero=>{omega}|succ k=>obtain⟨d,f,b,m⟩:=SW (n:=n) (h:=1) (u:=u) (s:=s) (x:=x) (zs:=[a]) (.inr ⟨rfl,a,rfl⟩) (by omega) j (by omega) g;rw[Nat.pow_succ]at i;obtain⟨z2,l⟩:=SV k (u / 10) (bA [dW (48+u % 10)]++s) f d (by omega) (by omega) (by rw[ByteArray.size_append,pg];simp only[aN,aK];omega) (by omega) b;refine⟨z2,?_⟩;rw[IV c,<- Yw,<- l];exact bE m
def abu{n:Int}(q:-1000000000<=n/\n<=1000000000):G 231 [E n]=Z (0,[.str (oC n)]):=by refine ch t231 rfl ?_;simp only[go_sem,t231];by_cases e:n=0;{subst e;have a:oC 0=⟨#[48]⟩:=by{unfold oC Lib.itoa;rw[if_neg (by omega)];show bA (Lib.decDigits 0)=_;rw[Lib.decDigits_one (by decide)];rfl};rw[a];simp only[go_sem]};simp only[go_sem,e];(have i:n.natAbs<=1000000000:=by omega);obtain⟨f,g,c,l⟩:=SW (n:=n) (h:=0) (u:=n.natAbs) (s:=⟨#[]⟩) (x:=n) (zs:=[]) (.inl ⟨rfl,rfl⟩) (by omega) i (by simp[nP]) (by omega);(have m:n.natAbs / 10<10 ^ 9:=by omega);obtain⟨z2,k⟩:=SV (n:=n) 9 (n.natAbs / 10) (bA [dW (48+n.natAbs % 10)]++⟨#[]⟩) g f m (by omega) (by rw[ByteArray.size_append,pg];simp[nP]) (by omega) c;have j:bJ (lB G oU) (0,[E n,.str ⟨#[]⟩,E n])=Z (1,[E n,.str (bA (Km n.natAbs)),E 0,.bool J,z2]):=by{have d:lB G oU (0,[E n,.str ⟨#[]⟩,E n])=_:=l;rw[bE d,k,Yw,<- IV (by omega)];congr 5;apply sE;simp[bA,n_]};rw[j];(have hd:Km n.natAbs=Lib.decDigits n.natAbs:=by rw[Km,if_neg (by omega)]);rw[hd];by_cases b:n<0;{have a:oC n=bA [45]++bA (Lib.decDigits n.natAbs):=by{unfold oC Lib.itoa;rw[if_pos b];apply sE;simp[bA,n_]};have r:(Lib.decDigits n.natAbs).length<=10:=DO 9 _ (by omega);(have p:(bA [45]).size+(bA (Lib.decDigits n.natAbs)).size<=maxLen:=by rw[pg,pg];simp only[aN,aK];exact aV (show 0+1+(Lib.decDigits n.natAbs).length<=11 by omega) (by decide));rw[a];have o:(⟨[(45:UInt8)].toArray⟩:z)=bA [45]:=rfl;simp only[go_sem,b,o,p]};have a:oC n=bA (Lib.decDigits n.natAbs):=by{unfold oC Lib.itoa;rw[if_neg b];congr 2;omega};rw[a];simp only[go_sem,b]
def an_(n:Int):G 9001 [E n]=Z (0,[.str (oC n)]):=
 yf (i:=9001) (sg:=⟨9001,[.val J [.d]],[([.val J [.d]],[])]⟩) (v:=([.val J [.d]],[])) (j:=0) (r:=([.val J [.d (.str (oC n))]],[])) (ws:=[E n]) rfl rfl ((aaY T rfl [.val J [.d (E n)]]).trans rfl) rfl rfl
def aeB(n:Int):G 303 [E n]=Z (0,[.str (oC n)]):=by refine ch t303 rfl ?_;simp only[go_sem,t303,an_]
theorem Eo{a:Type}(p q:Nat->a->Bool):∀(i:Nat) (l:M a),allI (λi e=>p i e && q i e) i l=(allI p i l && allI q i l)
 |_,[]=>rfl
 |i,e::l=>by simp only[allI,Eo p q (i+1) l];cases p i e<;>cases q i e<;>cases allI p (i+1) l<;>simp
theorem MY{a β:Type}(p:Nat->β->Bool)(f:a->β):∀(i:Nat) (l:M a),allI p i (l.map f)=allI (λi e=>p i (f e)) i l
 |_,[]=>rfl
 |i,e::l=>by simp only[bc,allI,MY p f (i+1) l]
def atB{a:Type}(q:a->Bool)(t:M a)(j:Nat):Bool:=match nth t j with
 |some x=>q x
 |none=>I
theorem zG{a:Type}(q:a->Bool)(t:M a):∀(m i:Nat),i+m<=t.length->oP (atB q t) i m=((t.drop i).take m).all q
 |0,i,h=>by simp[oP]
 |m+1,i,h=>by have a1:=dL (l:=t) (i:=i) (by omega);rw[fM t i _ a1,cT,cK,<- zG q t m (i+1) (by omega)];simp only[oP,atB,a1]
def rV(t:fL):Bool:=isName t.au && ja t.bu
def xi(l:M fL):Bool:=tO (l.map fL.au) && l.all rV
theorem aae(l:M fL)(v:z):iA (l.map fL.au) v=!(l.all λx=>!Z' (x.au=v)):=by induction l with|nil=>{rfl}|cons x l c=>simp only[bc,iA,hO,cK]at c ⊢;rw[c,decide_eq_decide.2 (eq_comm (a:=v) (b:=x.au))];cases Z' (x.au=v)<;>simp
def Ri(l:M fL):xi l=allI (λk e=>((l.take k).all λx=>!Z' (x.au=e.au)) && rV e) 0 l:=by have h:=Eo (λk (e:fL)=>(l.take k).all λx=>!Z' (x.au=e.au)) (λ_ e=>rV e) 0 l;rw[xi,h,zF,tO,MY];congr 2;funext i e;rw[<- uN,aae,iN]
def isStep(s:eb):Bool:=xi s.cY && (isName s.au && Z' (s.cY.length<=3))
def T7(p:fC):Bool:=eB 0 8 p.kj && (Z' (p.steps.length<=10) && ((!p.root ||decide (p.kj=0)) && (p.root ||(Z' (0<p.kj) ||!p.steps.isEmpty))))
def gz(p:fC):Bool:=p.steps.all isStep && T7 p
def WV(n k:Nat):Z' ((n:Int)<=(k:Int))=Z' (n<=k):=by rw[dU];simp
def amj(n:Nat):Z' ((n:Int)<=3)=Z' (n<=3):=WV n 3
def apt(n:Nat):Z' (3<(n:Int))=!Z' (n<=3):=by rw[dU];simp;omega
def afQ(n:Nat):Z' ((n:Int)<=10)=Z' (n<=10):=WV n 10
def MJ{a:Type}(l:M a):Z' (0<(l.length:Int))=!l.isEmpty:=by cases l<;>simp
def gX{a:Type}{f:a->M D}{l:M a}{x:a}{n:Nat}(h:bQ f l<=n)(b:x∈l):eu (f x)<=n/\l.length<=n:=by have:=cy f b;simp only[bQ]at *;omega
section
variable {s:eb} {rt:Bool} {up:Int} {ss:M eb}
theorem VN{t:M fL}{e:fL}{k i:Nat}(a:nth t k=Z e)(h:bQ gT t<=mg) :
  bJ (lB G yB) (0,[E (i:Int),cS t,E (k:Int),E 0,.bool rt,E up,bP ss]) =
   Z (if (t.take k).all (λx=>!Z' (x.au=e.au))=I then (1,[E (i:Int),cS t,E (k:Int),E (k:Int),.bool J,.bool rt,E up,bP ss]) else (0,[.bool J])):=by
 have m:=bj a;have c:t.length<=mg:=by simp only[bQ]at h;omega
 have d:=pq (b:=lB G yB) (λj=>(0,[E (i:Int),cS t,E (k:Int),E (j:Int),.bool rt,E up,bP ss])) (atB (λx=>!Z' (x.au=e.au)) t) k
  (1,[E (i:Int),cS t,E (k:Int),E (k:Int),.bool J,.bool rt,E up,bP ss]) (0,[.bool J]) (by
  intro j f;have a1:=dL (l:=t) (i:=j) (by omega);have g:=wj (i:=j) (n:=k) f (by omega);generalize t[j]'(by omega)=x at a1;simp only[go_sem,bn,yB,f,aY,a,a1,gT,atB];cases o:Z' (x.au=e.au)<;>simp only[go_sem,g]) (by simp only[go_sem,bn,yB,aG]) k 0 (by omega)
 rw[n0]at d;rw[d,zG _ t k 0 (by omega),cj]
theorem VO{t:M fL}{i:Nat}(d:bQ gT t<=mg) :
  bJ (lB G BO) (0,[E (i:Int),cS t,E 0,.bool rt,E up,bP ss]) =
   Z (if xi t=I then (1,[E (i:Int),cS t,E t.length,.bool J,.bool rt,E up,bP ss]) else (0,[.bool J])):=by
 have c:t.length<=mg:=by simp only[bQ]at d;omega
 have f:=qZ (b:=lB G BO) t (λk=>(0,[E (i:Int),cS t,E (k:Int),.bool rt,E up,bP ss])) (λk e=>((t.take k).all λx=>!Z' (x.au=e.au)) && rV e)
  (1,[E (i:Int),cS t,E t.length,.bool J,.bool rt,E up,bP ss]) (0,[.bool J]) (by
  intro k e a;have g:=bj a;have l:=wj g c;have j:=cy gT (bp a);rw[Hv]at j;have n:=aer (s:=e.au) (by omega);have m:=aes (s:=e.bu) (by omega);simp only[go_sem,bn,BO,g,aj,VN a d];cases o:(t.take k).all (λx=>!Z' (x.au=e.au)) with
  |false=>simp only[go_sem]
  |true=>
   simp only[go_sem,aY,a,gT,n];cases h:isName e.au with
   |false=>simp only[go_sem,h,rV]
   |true=>
    simp only[go_sem,h,rV,aY,a,gT,m];cases p:ja e.bu<;>simp only[go_sem,l]) (by simp only[go_sem,bn,BO,aG,aj]) t.length 0 (by omega)
 rw[n0,cj]at f;rw[f,Ri]
end
def OU(p:fC):T7 p=(eB 0 8 p.kj && Z' (p.steps.length<=10) && (!p.root ||decide (p.kj=0)) && (p.root ||(Z' (0<p.kj) ||!p.steps.isEmpty))):=by simp[T7,iV]
theorem aet{p:fC}(d:eu (bU p)<=mg):G 205 (bU p)=Z (0,[.bool (gz p)]):=by rw[jV]at d;(have a:p.steps.length<=mg:=by simp only[bQ]at d;omega);refine ch t205 rfl ?_;simp only[go_sem,t205,bU];have f:=ig (b:=lB G Le) p.steps (λi=>(0,[E (i:Int),.bool p.root,E p.kj,bP p.steps])) isStep (1,[E p.steps.length,.bool J,.bool p.root,E p.kj,bP p.steps]) (0,[.bool J]) (by intro i e c;have g:=bj c;have k:=wj g a;have j:=cy dt (bp c);rw[nN]at j;have l:=aer (s:=e.au) (by omega);simp only[go_sem,bn,Le,g,aj,aY,c,dt,VO (t:=e.cY) (by omega)];cases h:xi e.cY with|false=>{simp only[go_sem,h,isStep]}|true=>simp only[go_sem,h,isStep,aY,c,dt,l];cases n:isName e.au with|false=>{simp only[go_sem]}|true=>simp only[go_sem,aj,apt];cases m:Z' (e.cY.length<=3)<;>simp only[go_sem,k]) (by simp only[go_sem,bn,Le,aG,aj]);rw[n0]at f;rw[f,gz];cases p.steps.all isStep with|false=>{simp only[go_sem]}|true=>rw[OU];simp only[go_sem,zA];(repeat' (first|with_reducible rfl|((first|rw[gM]|rw[gQ]|rw[gL]|rw[gP]);split<;>simp only[go_sem,aj,afQ,MJ, *])));all_goals simp_all
theorem aqV{s:eb}(j:eu (dt s)<=mg):G 265 (dt s)=Z (0,[.bool (isStep s)]):=by
 rw[nN]at j;have a:s.cY.length<=mg:=by simp only[bQ]at j;omega
 refine ch t265 rfl ?_;simp only[go_sem,t265,dt];have k:=ig (b:=lB G FT) s.cY (λi=>(0,[cS s.cY,E s.cY.length,E (i:Int),.str s.au,cS s.cY,aJ ((s.cY.take i).map fL.au)])) rV
  (1,[cS s.cY,E s.cY.length,E s.cY.length,.bool J,.str s.au,cS s.cY,aJ (s.cY.map fL.au)]) (0,[.bool J]) (by
  intro i e c;have m:=bj c;have o:=wj m a;have n:=cy gT (bp c);rw[Hv]at n;have h:=aex (s:=e.au) (by omega);have g:=aey (s:=e.bu) (by omega);have t:aS (.app 1 16) [aJ ((s.cY.take i).map fL.au),.list 1 I [[.str e.au]]]=Z (aJ ((s.cY.take (i+1)).map fL.au)):=by
   rw[As c,Rl]
   .simp[gk]
   .simp only[aj,bo,aN,aK];simp only[mg]at a;exact⟨aV (gD (show min i s.cY.length+(0+1)<=300000000 by omega) (aI 16)) (by decide),aV (show min i s.cY.length+(0+1)<=300000000 by omega) (by decide)⟩
  have d:aS (.lD 1 I) [.str e.au]=Z (.list 1 I [[.str e.au]]):=by simp[aS,chunk,db,D.plain]
  simp only[go_sem,bn,FT,m,aY,c,gT,aN,aK,aI,h];cases f:isName e.au with
  |false=>simp only[go_sem,f,rV]
  |true=>
   simp only[go_sem,f,rV,g];cases q:ja e.bu<;>simp only[go_sem,o,t,d]) (by simp only[go_sem,bn,FT,aG,bq])
 rw[n0]at k;rw[aj];have r:bJ (lB G FT) (0,[cS s.cY,E s.cY.length,E 0,.str s.au,cS s.cY,.list 1 I []])=_:=k;rw[r,isStep,xi];cases s.cY.all rV with|false=>{simp only[go_sem]}|true=>have h:=aex (s:=s.au) (by omega);have g:=Xm (l:=s.cY.map fL.au) (by rw[aj];exact a);simp only[go_sem,h];cases f:isName s.au with|false=>{simp only[go_sem]}|true=>simp only[go_sem,amj,aj];cases q:Z' (s.cY.length<=3) with|false=>{simp only[go_sem]}|true=>have p:aS .pl [.bool (tO (s.cY.map fL.au))]=Z (.bool J):=rfl;simp only[go_sem,g,p]
theorem aez{p:fC}(d:eu (bU p)<=mg):G 266 (bU p)=Z (0,[.bool (gz p)]):=by rw[jV]at d;(have a:p.steps.length<=mg:=by simp only[bQ]at d;omega);refine ch t266 rfl ?_;simp only[go_sem,t266,bU];have f:=ig (b:=lB G Lv) p.steps (λi=>(0,[bP p.steps,E p.steps.length,E (i:Int),.bool p.root,E p.kj,bP p.steps])) isStep (1,[bP p.steps,E p.steps.length,E p.steps.length,.bool J,.bool p.root,E p.kj,bP p.steps]) (0,[.bool J]) (by intro i e c;have g:=bj c;have j:=wj g a;have k:=cy dt (bp c);have h:=aqV (s:=e) (by omega);rw[dt]at h;simp only[go_sem,bn,Lv,g,aY,c,dt,aN,aK,aI,h];cases l:isStep e<;>simp only[go_sem,j]) (by simp only[go_sem,bn,Lv,aG]);rw[n0]at f;rw[aj,f,gz];cases p.steps.all isStep with|false=>{simp only[go_sem]}|true=>rw[OU];unfold eB;simp only[go_sem];(repeat' (first|with_reducible rfl|((first|rw[gM]|rw[gQ]|rw[gL]|rw[gP]);split<;>simp only[go_sem,aj,afQ,MJ, *])));all_goals simp_all
attribute [go_sem] aN aK aI aj
def sN(e:cu):(bW e).length=7:=by rw[aT];rfl
def jT(e:cu)(k:Nat)(a:Bool):aS (.has 7) [.list k a [bW e]]=Z (.bool J):=by rw[zb,sN,if_pos (aI 7)]
def q39(a b:Int):G 39 [E a,E b]=Z (0,[E (if a<b then b else a)]):=by refine ch t39 rfl ?_;simp only[go_sem,t39];by_cases h:a<b<;>simp only[go_sem,h]
def cu.gu(e:cu)(es:M cu):aF e.ai<aF (e::es):=by cases e;simp only[bM,cu.mk.sizeOf_spec];omega
def rO:M cu->Nat
 |[]=>0
 |e::es=>max (rO e.ai+1) (rO es)
termination_by es=>aF es
decreasing_by
 .exact cu.gu e es
 .simp only[bM];omega
abbrev dep(e:cu):Nat:=rO e.ai+1
def d0:((rO []:Nat):Int)=0:=by simp[rO]
theorem EC(e:cu):∀(l:M cu),rO (l++[e])=max (rO l) (dep e)
 |[]=>by simp[rO]
 |x::l=>by rw[ax,rO,EC e l,rO,Nat.max_assoc]
theorem Kq:∀(n:Nat) (l:M cu),aF l<n->rO l<=bQ bW l
 |0,l,h=>by omega
 |n+1,[],h=>by simp[rO]
 |n+1,e::l,h=>by have b:=Kq n e.ai (by have:=cu.gu e l;omega);have a:=Kq n l (by simp only[bM]at h;omega);rw[rO,fX,jE];omega
def Y7{e:cu}:dep e<=eu (bW e)+1:=by have:=Kq _ e.ai (aW _);rw[jE];simp only[dep];omega
def mx(a b:Nat):(if (a:Int)<(b:Int) then (b:Int) else (a:Int))=((max a b:Nat):Int):=by by_cases h:a<b;{rw[if_pos (by omega),Nat.max_eq_right (by omega)]};rw[if_neg (by omega),Nat.max_eq_left (by omega)]
def cu.uc{e x:cu}(h:x∈e.ai):aF x<aF e:=cu.uT h
def pY{e x:cu}(h:x∈e.ai):eu (bW x)<=eu (bW e):=by have:=cy bW h;rw[jE e];omega
def p9{e:cu}:e.ai.length<=eu (bW e):=by rw[jE e];simp only[bQ];omega
theorem ah9(n:Nat):∀e:cu,aF e<n->eu (bW e)<=mg->G 203 (bW e)=Z (0,[E (dep e)]):=by induction n with|zero=>{intro e h;omega}|succ n l=>intro e o g;refine ch t203 (by rw[aT];rfl) ?_;simp only[go_sem,t203,aT];have c:e.ai.length<=mg:=aV p9 g;have j:=cO (b:=lB G Lc) e.ai (λi (m:Nat)=>(0,E (m:Int)::E (i:Int)::bW e)) (λi=>rO (e.ai.take i)) (0,E (rO e.ai)::E e.ai.length::.bool J::bW e) (by intro i x a;have k:=bj a;have d:=wj k c;have f:=l x (by have:=cu.uc (bp a);omega) (aV (pY (bp a)) g);rw[aT]at f;simp only[go_sem,bn,Lc,aT e,k,aY,a,jT];simp only[go_sem,aT,f,q39,mx,d,cd _ _ _ a,EC,dep]) (by simp only[go_sem,bn,Lc,aT,aG,bq]) e.ai.length 0 (by omega);rw[bB,d0,n0,aT]at j;have hd:=Y7 (e:=e);(have d:IntKind.i64.wrap ((rO e.ai:Int)+1)=((rO e.ai+1:Nat):Int):=by rw[wrap_i64 (by simp only[mg,dep]at *;omega)];omega);simp only[go_sem,j,d]
def aqx{e:cu}(a:eu (bW e)<=mg):G 203 (bW e)=Z (0,[E (dep e)]):=ah9 _ e (aW _) a
theorem ain(n:Nat):∀e:cu,aF e<n->eu (bW e)<=mg->G 262 (bW e)=Z (0,[E (dep e)]):=by induction n with|zero=>{intro e h;omega}|succ n l=>intro e o g;refine ch t262 (by rw[aT];rfl) ?_;simp only[go_sem,t262,aT];have c:e.ai.length<=mg:=aV p9 g;have j:=cO (b:=lB G Lt) e.ai (λi (m:Nat)=>(0,[E (m:Int),cG e.ai,E e.ai.length,E (i:Int)])) (λi=>rO (e.ai.take i)) (0,[E (rO e.ai),cG e.ai,E e.ai.length,E e.ai.length,.bool J]) (by intro i x a;have k:=bj a;have d:=wj k c;have f:=l x (by have:=cu.uc (bp a);omega) (aV (pY (bp a)) g);rw[aT]at f;simp only[go_sem,bn,Lt,k,aY,a,jT];simp only[go_sem,aT,f,mx,d,cd _ _ _ a,EC,dep]) (by simp only[go_sem,bn,Lt,aG,bq]) e.ai.length 0 (by omega);rw[bB,d0,n0]at j;have hd:=Y7 (e:=e);(have d:IntKind.i64.wrap ((rO e.ai:Int)+1)=((rO e.ai+1:Nat):Int):=by rw[wrap_i64 (by simp only[mg,dep]at *;omega)];omega);simp only[go_sem,j,d]
def aqT{e:cu}(a:eu (bW e)<=mg):G 262 (bW e)=Z (0,[E (dep e)]):=ain _ e (aW _) a
def zp(p:fC):Bool:=!p.root && (Z' (p.kj=0) && p.steps.isEmpty)
def sZ{a:Type}(l:M a):Z' ((l.length:Int)=0)=l.isEmpty:=by cases l<;>simp;omega
def aqy(p:fC):G 206 (bU p)=Z (0,[.bool (zp p)]):=by refine ch t206 rfl ?_;simp only[go_sem,t206,bU];(repeat' (first|with_reducible rfl|((first|rw[gM]|rw[gQ]|rw[gL]|rw[gP]);split<;>simp only[go_sem,sZ, *])));all_goals simp_all[zp]
def aqU(p:fC):G 263 (bU p)=Z (0,[.bool (zp p)]):=by refine ch t263 rfl ?_;simp only[go_sem,t263,bU];(repeat' (first|with_reducible rfl|((first|rw[gM]|rw[gQ]|rw[gL]|rw[gP]);split<;>simp only[go_sem,sZ, *])));all_goals simp_all[zp]
def orA:z:=⟨#[111,114]⟩
def Ym:z:=⟨#[97,110,100]⟩
theorem acE:(⟨[111,114].toArray⟩:z)=orA:=(rfl)
theorem R4:(⟨[97,110,100].toArray⟩:z)=Ym:=(rfl)
def J9(p:fC):Bool:=match p.steps with
 |s::_=>Z' (s.au=orA) ||decide (s.au=Ym)
 |[]=>J
def wrt(p:fC):Bool:=(p.root ||decide (0<p.kj) ||!J9 p) && !(p.root && p.steps.isEmpty)
def tg{p:fC}(h:gz p=I):0<=p.kj/\(p.root=I->p.kj=0)/\(p.root=I\/0<p.kj\/p.steps≠[]):=by simp only[gz,T7,eB,aw,dE,decide_eq_true_eq,cx,List.isEmpty_eq_false_iff]at h;obtain⟨_,⟨d,_⟩,_,b,a⟩:=h;refine⟨d,λc=>?_,?_⟩;{rcases b with b|b;{rw[c]at b;cases b};exact b};rcases a with a|a|a;{exact .inl a};{exact .inr (.inl a)};exact .inr (.inr a)
theorem aqz{p:fC}(e:gz p=I):G 207 (bU p)=Z (0,[.bool (wrt p)]):=by obtain⟨m,i,g⟩:=tg e;refine ch t207 rfl ?_;simp only[go_sem,t207,bU,acE,R4];cases b:p.root with|true=>{have a:p.kj=0:=i b;simp only[go_sem,b,a,MJ,wrt]}|false=>by_cases a:0<p.kj;{simp only[go_sem,b,a,wrt]};have d:p.steps≠[]:=by{rcases g with h|h|h;{rw[b]at h;cases h};{exact absurd h a};exact h};obtain⟨s,l,f⟩:=List.exists_cons_of_ne_nil d;simp only[go_sem,b,a,wrt,f,J9,bc,dt];(have j:¬Ym=orA:=by decide);by_cases c:s.au=orA;{simp only[go_sem,c]};by_cases k:s.au=Ym<;>simp only[go_sem,c,k,j]
def nU(op:Int):Nat:=if op<=4 then 0 else if op=5 then 1 else 2
def pS(e:cu):Bool:=if e.op=1 then eB 0 1000000000 e.num else if e.op=2 then ja e.text else if e.op=3 then gz e.path && wrt e.path else if e.op=4 then gz e.path else I
def gJ(e:cu):Bool:=eB 1 15 e.op && (Z' (e.ai.length=nU e.op) && ((Z' (e.op=1) ||decide (e.num=0)) && ((Z' (e.op=2) ||decide (e.text.size=0)) && ((Z' (e.op=3) ||(Z' (e.op=4) ||zp e.path)) && pS e))))
def vg:M cu->Bool
 |[]=>I
 |e::es=>gJ e && vg e.ai && vg es
termination_by es=>aF es
decreasing_by
 .exact cu.gu e es
 .simp only[bM];omega
def ot(e:cu):Bool:=gJ e && vg e.ai
theorem A5:∀(l:M cu),vg l=l.all ot
 |[]=>by simp[vg]
 |e::l=>by rw[vg,cK,A5 l];rfl
def adw{n:Nat}(h:∀e:cu,aF e<n->eu (bW e)<=mg->G 208 (bW e)=Z (0,[.bool (ot e)])){e:cu}(k:aF e<n+1)(f:eu (bW e)<=mg) :
  bJ (lB G BP) (0,E e.ai.length::E 0::bW e)=Z (if vg e.ai=I then (1,E e.ai.length::E e.ai.length::.bool J::bW e) else (0,[.bool J])):=by have a:e.ai.length<=mg:=aV p9 f;rw[A5];exact ig (b:=lB G BP) e.ai (λi=>(0,E e.ai.length::E (i:Int)::bW e)) ot _ _ (by intro i x c;have g:=bj c;have j:=wj g a;have d:=h x (by have:=cu.uc (bp c);omega) (aV (pY (bp c)) f);rw[aT]at d;simp only[go_sem,bn,BP,aT e,g,aY,c,jT];simp only[go_sem,aT x,d];cases ot x<;>simp only[go_sem,j]) (by simp only[go_sem,bn,BP,aT,aG])
def An{e:cu}(h:e.ai.length=0):vg e.ai=I:=by have:e.ai=[]:=fe.1 h;rw[this];simp[vg]
theorem ah_(n:Nat):∀e:cu,aF e<n->eu (bW e)<=mg->G 208 (bW e)=Z (0,[.bool (ot e)]):=by induction n with|zero=>{intro e h;omega}|succ n B=>intro e C F;have c:=adw B C F;rw[aT]at c;have K:=jE e;have w:=aes (s:=e.text) (by omega);have o:=aet (p:=e.path) (by omega);have y:=aqy e.path;rw[bU]at o y;have v:gz e.path=I->G 207 [.bool e.path.root,E e.path.kj,bP e.path.steps]=Z (0,[.bool (wrt e.path)]):=λh=>aqz h;refine ch t208 (by rw[aT];rfl) ?_;simp only[go_sem,t208,aT];have small:∀{k:Nat} (a:e.ai.length=0),bJ (lB G BP) (0,[E 0,E 0,E e.op,E e.num,.str e.text,.bool e.path.root,E e.path.kj,bP e.path.steps,cG e.ai])=Z (1,[E 0,E 0,.bool J,E e.op,E e.num,.str e.text,.bool e.path.root,E e.path.kj,bP e.path.steps,cG e.ai]):=by{intro _ a;rw[An a,a]at c;exact c};by_cases j:e.op=1;{(have m:gJ e=(Z' (e.ai.length=0) && ((Z' (e.text.size=0)) && (zp e.path && eB 0 1000000000 e.num))):=by simp[gJ,pS,nU,eB,j]);rw[j]at small;by_cases a:e.ai.length=0;{(have b:(e.ai.length:Int)=0:=by omega);have t:=small (k:=0) a;have x:=An a;simp only[go_sem,zA,j];(repeat' (first|with_reducible rfl|((first|rw[gM]|rw[gQ]|rw[gL]|rw[gP]);split<;>simp only[go_sem,dC, *])));all_goals simp_all[ot]};(have b:¬(e.ai.length:Int)=0:=by omega);simp only[go_sem,zA,j];(repeat' (first|with_reducible rfl|((first|rw[gM]|rw[gQ]|rw[gL]|rw[gP]);split<;>simp only[go_sem,dC, *])));all_goals simp_all[ot]};by_cases i:e.op=2;{(have m:gJ e=(Z' (e.ai.length=0) && ((Z' (e.num=0)) && (zp e.path && ja e.text))):=by simp[gJ,pS,nU,eB,i]);rw[i]at small;by_cases a:e.ai.length=0;{(have b:(e.ai.length:Int)=0:=by omega);have t:=small (k:=0) a;have x:=An a;simp only[go_sem,w,i];(repeat' (first|with_reducible rfl|((first|rw[gM]|rw[gQ]|rw[gL]|rw[gP]);split<;>simp only[go_sem, *])));all_goals simp_all[ot]};(have b:¬(e.ai.length:Int)=0:=by omega);simp only[go_sem,w,i];(repeat' (first|with_reducible rfl|((first|rw[gM]|rw[gQ]|rw[gL]|rw[gP]);split<;>simp only[go_sem, *])));all_goals simp_all[ot]};by_cases d:e.op=3;{(have m:gJ e=(Z' (e.ai.length=0) && ((Z' (e.num=0)) && (Z' (e.text.size=0) && (gz e.path && wrt e.path)))):=by simp[gJ,pS,nU,eB,d]);rw[d]at small;cases q:gz e.path with|false=>{simp only[go_sem,o,d,q];(repeat' (first|with_reducible rfl|((first|rw[gM]|rw[gQ]|rw[gL]|rw[gP]);split<;>simp only[go_sem,zA,w,o,y,ba0,dC,d,q, *])));all_goals simp_all[ot]}|true=>have N:=v q;by_cases a:e.ai.length=0;{(have b:(e.ai.length:Int)=0:=by omega);have t:=small (k:=0) a;have x:=An a;simp only[go_sem,o,d,q];(repeat' (first|with_reducible rfl|((first|rw[gM]|rw[gQ]|rw[gL]|rw[gP]);split<;>simp only[go_sem,dC, *])));all_goals simp_all[ot]};(have b:¬(e.ai.length:Int)=0:=by omega);simp only[go_sem,o,d,q];(repeat' (first|with_reducible rfl|((first|rw[gM]|rw[gQ]|rw[gL]|rw[gP]);split<;>simp only[go_sem,dC, *])));all_goals simp_all[ot]};by_cases g:e.op=4;{(have m:gJ e=(Z' (e.ai.length=0) && ((Z' (e.num=0)) && (Z' (e.text.size=0) && gz e.path))):=by simp[gJ,pS,nU,eB,g]);rw[g]at small;by_cases a:e.ai.length=0;{(have b:(e.ai.length:Int)=0:=by omega);have t:=small (k:=0) a;have x:=An a;simp only[go_sem,o,g];(repeat' (first|with_reducible rfl|((first|rw[gM]|rw[gQ]|rw[gL]|rw[gP]);split<;>simp only[go_sem,dC, *])));all_goals simp_all[ot]};(have b:¬(e.ai.length:Int)=0:=by omega);simp only[go_sem,o,g];(repeat' (first|with_reducible rfl|((first|rw[gM]|rw[gQ]|rw[gL]|rw[gP]);split<;>simp only[go_sem,dC, *])));all_goals simp_all[ot]};cases l:eB 5 15 e.op with|false=>{have m:gJ e=J:=by{have:eB 1 15 e.op=J:=by{rw[dS]at l ⊢;intro h;apply l;have:=(ej _ _ _).1 h;exact (ej _ _ _).2 (by omega)};simp[gJ,this]};(have D:ot e=J:=by simp[ot,m]);simp only[go_sem,zA,j,i,d,g,l,D]}|true=>have L:=(ej _ _ _).1 l;have A:eB 1 15 e.op=I:=(ej _ _ _).2 (by omega);by_cases f:e.op=5;{(have m:gJ e=(Z' (e.ai.length=1) && ((Z' (e.num=0)) && (Z' (e.text.size=0) && zp e.path))):=by simp[gJ,pS,nU,eB,f]);by_cases a:e.ai.length=1;{(have b:(e.ai.length:Int)=1:=by omega);rw[b,f]at c;cases r:vg e.ai with|false=>{rw[r]at c;simp only[go_sem]at c;simp only[go_sem,zA,f];(repeat' (first|with_reducible rfl|((first|rw[gM]|rw[gQ]|rw[gL]|rw[gP]);split<;>simp only[go_sem,dC, *])));all_goals simp_all[ot]}|true=>rw[r]at c;simp only[go_sem]at c;simp only[go_sem,zA,f];(repeat' (first|with_reducible rfl|((first|rw[gM]|rw[gQ]|rw[gL]|rw[gP]);split<;>simp only[go_sem,dC, *])));all_goals simp_all[ot]};(have b:¬(e.ai.length:Int)=1:=by omega);simp only[go_sem,zA,f];(repeat' (first|with_reducible rfl|((first|rw[gM]|rw[gQ]|rw[gL]|rw[gP]);split<;>simp only[go_sem,dC, *])));all_goals simp_all[ot]};(have H:nU e.op=2:=by unfold nU;rw[if_neg (by omega),if_neg f]);(have m:gJ e=(Z' (e.ai.length=2) && ((Z' (e.num=0)) && (Z' (e.text.size=0) && zp e.path))):=by simp[gJ,pS,H,A,j,i,d,g]);by_cases a:e.ai.length=2;{(have b:(e.ai.length:Int)=2:=by omega);rw[b]at c;cases r:vg e.ai with|false=>{rw[r]at c;simp only[go_sem]at c;simp only[go_sem,zA,j,i,d,g,f,l];(repeat' (first|with_reducible rfl|((first|rw[gM]|rw[gQ]|rw[gL]|rw[gP]);split<;>simp only[go_sem,dC, *])));all_goals simp_all[ot]}|true=>rw[r]at c;simp only[go_sem]at c;simp only[go_sem,zA,j,i,d,g,f,l];(repeat' (first|with_reducible rfl|((first|rw[gM]|rw[gQ]|rw[gL]|rw[gP]);split<;>simp only[go_sem,dC, *])));all_goals simp_all[ot]};(have b:¬(e.ai.length:Int)=2:=by omega);simp only[go_sem,zA,j,i,d,g,f,l];(repeat' (first|with_reducible rfl|((first|rw[gM]|rw[gQ]|rw[gL]|rw[gP]);split<;>simp only[go_sem,dC, *])));all_goals simp_all[ot]
def aqA{e:cu}(a:eu (bW e)<=mg):G 208 (bW e)=Z (0,[.bool (ot e)]):=ah_ _ e (aW _) a
def adB{n:Nat}(h:∀e:cu,aF e<n->eu (bW e)<=mg->G 267 (bW e)=Z (0,[.bool (ot e)])){e:cu}(k:aF e<n+1)(f:eu (bW e)<=mg) :
  bJ (lB G FU) (0,[cG e.ai,E e.ai.length,E 0])=Z (if vg e.ai=I then (1,[cG e.ai,E e.ai.length,E e.ai.length,.bool J]) else (0,[.bool J])):=by have a:e.ai.length<=mg:=aV p9 f;rw[A5];exact ig (b:=lB G FU) e.ai (λi=>(0,[cG e.ai,E e.ai.length,E (i:Int)])) ot _ _ (by intro i x c;have g:=bj c;have j:=wj g a;have d:=h x (by have:=cu.uc (bp c);omega) (aV (pY (bp c)) f);rw[aT]at d;simp only[go_sem,bn,FU,g,aY,c,jT];simp only[go_sem,aT x,d];cases ot x<;>simp only[go_sem,j]) (by simp only[go_sem,bn,FU,aG])
theorem n2:((2:Nat):Int)=2:=(rfl)
attribute [go_sem] n1 n2
def ajI{p:fC}(h:gz p=I):wrt p=(!(!p.root && (Z' (p.kj=0) && J9 p)) && !(p.root && p.steps.isEmpty)):=by obtain⟨c,b,a⟩:=tg h;unfold wrt;congr 1;(have:Z' (0<p.kj)=!Z' (p.kj=0):=by rw[dU];simp;omega);rw[this];cases p.root<;>cases Z' (p.kj=0)<;>cases J9 p<;>rfl
theorem aio(n:Nat):∀e:cu,aF e<n->eu (bW e)<=mg->G 267 (bW e)=Z (0,[.bool (ot e)]):=by induction n with|zero=>{intro e h;omega}|succ n v=>intro e w x;have a:=adB v w x;have P:=jE e;have H:=aey (s:=e.text) (by omega);have m:=aez (p:=e.path) (by omega);have o:=aqU e.path;rw[bU]at m o;refine ch t267 (by rw[aT];rfl) ?_;simp only[go_sem,t267,aT];by_cases k:e.op=1;{clear v a w x;(have r:gJ e=(Z' (e.ai.length=0) && ((Z' (e.text.size=0)) && (zp e.path && eB 0 1000000000 e.num))):=by simp[gJ,pS,nU,eB,k]);have D:e.ai.length=0->vg e.ai=I:=An;(have f:e.ai.isEmpty=Z' (e.ai.length=0):=by cases e.ai<;>simp);unfold eB at r;simp only[go_sem,sZ,k,f];(repeat' (first|with_reducible rfl|((first|rw[gM]|rw[gQ]|rw[gL]|rw[gP]);split<;>simp only[go_sem,dC, *])));all_goals simp_all[ot]};by_cases j:e.op=2;{clear v a w x;(have r:gJ e=(Z' (e.ai.length=0) && ((Z' (e.num=0)) && (zp e.path && ja e.text))):=by simp[gJ,pS,nU,eB,j]);have D:e.ai.length=0->vg e.ai=I:=An;(have f:e.ai.isEmpty=Z' (e.ai.length=0):=by cases e.ai<;>simp);simp only[go_sem,sZ,j,f];(repeat' (first|with_reducible rfl|((first|rw[gM]|rw[gQ]|rw[gL]|rw[gP]);split<;>simp only[go_sem, *])));all_goals simp_all[ot]};by_cases i:e.op=4;{clear v a w x;(have r:gJ e=(Z' (e.ai.length=0) && ((Z' (e.num=0)) && (Z' (e.text.size=0) && gz e.path))):=by simp[gJ,pS,nU,eB,i]);have D:e.ai.length=0->vg e.ai=I:=An;(have f:e.ai.isEmpty=Z' (e.ai.length=0):=by cases e.ai<;>simp);simp only[go_sem,sZ,i,f];(repeat' (first|with_reducible rfl|((first|rw[gM]|rw[gQ]|rw[gL]|rw[gP]);split<;>simp only[go_sem,dC, *])));all_goals simp_all[ot]};by_cases d:e.op=3;{clear v a w x;(have r:gJ e=(Z' (e.ai.length=0) && ((Z' (e.num=0)) && (Z' (e.text.size=0) && (gz e.path && wrt e.path)))):=by simp[gJ,pS,nU,eB,d]);have D:e.ai.length=0->vg e.ai=I:=An;(have f:e.ai.isEmpty=Z' (e.ai.length=0):=by cases e.ai<;>simp);have N:gz e.path=I->wrt e.path=(!(!e.path.root && (Z' (e.path.kj=0) && J9 e.path)) && !(e.path.root && e.path.steps.isEmpty)):=ajI;cases B:e.path.steps with|nil=>{(have K:J9 e.path=J:=by simp[J9,B]);rw[B]at m;cases g:e.path.root with|true=>{rw[g]at m o;simp only[go_sem,sZ,d,f];(repeat' (first|with_reducible rfl|((first|rw[gM]|rw[gQ]|rw[gL]|rw[gP]);split<;>simp only[go_sem,dC, *])));all_goals simp_all[ot]}|false=>rw[g]at m o;simp only[go_sem,sZ,d,f];(repeat' (first|with_reducible rfl|((first|rw[gM]|rw[gQ]|rw[gL]|rw[gP]);split<;>simp only[go_sem,dC, *])));all_goals simp_all[ot]}|cons s l=>(have K:J9 e.path=(Z' (s.au=orA) ||decide (s.au=Ym)):=by simp[J9,B]);rw[B]at m;cases g:e.path.root with|true=>{rw[g]at m o;simp only[go_sem,sZ,d,f,acE,R4];(repeat' (first|with_reducible rfl|((first|rw[gM]|rw[gQ]|rw[gL]|rw[gP]);split<;>simp only[go_sem,dC,bc,dt, *])));(all_goals simp_all[ot]);all_goals omega}|false=>rw[g]at m o;simp only[go_sem,sZ,d,f,acE,R4];(repeat' (first|with_reducible rfl|((first|rw[gM]|rw[gQ]|rw[gL]|rw[gP]);split<;>simp only[go_sem,dC,bc,dt, *])));all_goals simp_all[ot]};cases y:eB 5 15 e.op with|false=>{have C:eB 1 15 e.op=J:=by{rw[dS]at y ⊢;intro h;apply y;have:=(ej _ _ _).1 h;exact (ej _ _ _).2 (by omega)};(have F:ot e=J:=by simp[ot,gJ,C]);(have R:¬(5<=e.op/\e.op<=15):=λh=>by rw[(ej _ _ _).2 h]at y;cases y);(have c:¬e.op=5:=by omega);by_cases q:e.op<1;{simp only[go_sem,k,j,d,i,c,F,q]};(have t:15<e.op:=by omega);simp only[go_sem,k,j,d,i,c,F,q,t]}|true=>have Q:=(ej _ _ _).1 y;have C:eB 1 15 e.op=I:=(ej _ _ _).2 (by omega);(have q:¬e.op<1:=by omega);(have t:¬15<e.op:=by omega);by_cases c:e.op=5;{(have r:gJ e=(Z' (e.ai.length=1) && ((Z' (e.num=0)) && (Z' (e.text.size=0) && zp e.path))):=by simp[gJ,pS,nU,eB,c]);by_cases f:e.ai.length=1;{(have b:(e.ai.length:Int)=1:=by omega);rw[b]at a;cases A:vg e.ai with|false=>{rw[A]at a;simp only[go_sem]at a;simp only[go_sem,c,b];(repeat' (first|with_reducible rfl|((first|rw[gM]|rw[gQ]|rw[gL]|rw[gP]);split<;>simp only[go_sem,dC, *])));all_goals simp_all[ot]}|true=>rw[A]at a;simp only[go_sem]at a;simp only[go_sem,c,b];(repeat' (first|with_reducible rfl|((first|rw[gM]|rw[gQ]|rw[gL]|rw[gP]);split<;>simp only[go_sem,dC, *])));all_goals simp_all[ot]};(have b:¬(e.ai.length:Int)=1:=by omega);simp only[go_sem,c,b];(repeat' (first|with_reducible rfl|((first|rw[gM]|rw[gQ]|rw[gL]|rw[gP]);split<;>simp only[go_sem,H,m,o,ba0,dC,MJ,sZ,c,b, *])));all_goals simp_all[ot]};(have L:nU e.op=2:=by unfold nU;rw[if_neg (by omega),if_neg c]);(have r:gJ e=(Z' (e.ai.length=2) && ((Z' (e.num=0)) && (Z' (e.text.size=0) && zp e.path))):=by simp[gJ,pS,L,C,k,j,d,i]);by_cases f:e.ai.length=2;{(have b:(e.ai.length:Int)=2:=by omega);rw[b]at a;cases A:vg e.ai with|false=>{rw[A]at a;simp only[go_sem]at a;simp only[go_sem,k,j,d,i,c,q,t,b];(repeat' (first|with_reducible rfl|((first|rw[gM]|rw[gQ]|rw[gL]|rw[gP]);split<;>simp only[go_sem,dC, *])));all_goals simp_all[ot]}|true=>rw[A]at a;simp only[go_sem]at a;simp only[go_sem,k,j,d,i,c,q,t,b];(repeat' (first|with_reducible rfl|((first|rw[gM]|rw[gQ]|rw[gL]|rw[gP]);split<;>simp only[go_sem,dC, *])));all_goals simp_all[ot]};(have b:¬(e.ai.length:Int)=2:=by omega);simp only[go_sem,k,j,d,i,c,q,t,b];(repeat' (first|with_reducible rfl|((first|rw[gM]|rw[gQ]|rw[gL]|rw[gP]);split<;>simp only[go_sem,H,m,o,ba0,dC,MJ,sZ,k,j,d,i,c,q,t,b, *])));all_goals simp_all[ot]
def aqW{e:cu}(a:eu (bW e)<=mg):G 267 (bW e)=Z (0,[.bool (ot e)]):=aio _ e (aW _) a
def l8(e:cu):Bool:=Z' (dep e<=8) && ot e
def anj{e:cu}(a:eu (bW e)<=mg):G 209 (bW e)=Z (0,[.bool (l8 e)]):=by have c:=aqx a;have b:=aqA a;have d:Z' (((dep e:Nat):Int)<=8)=Z' (dep e<=8):=WV (dep e) 8;rw[aT]at c b;refine ch t209 (by rw[aT];rfl) ?_;simp only[go_sem,t209,aT,c,d];unfold l8;cases hd:Z' (dep e<=8)<;>simp only[go_sem,b]
def anz{e:cu}(a:eu (bW e)<=mg):G 268 (bW e)=Z (0,[.bool (l8 e)]):=by have c:=aqT a;have b:=aqW a;have d:Z' (((dep e:Nat):Int)<=8)=Z' (dep e<=8):=WV (dep e) 8;rw[aT]at c b;refine ch t268 (by rw[aT];rfl) ?_;simp only[go_sem,t268,aT,c,d];unfold l8;cases hd:Z' (dep e<=8)<;>simp only[go_sem,b]
def HZ(l:M cu)(Q8:Nat):Bool:=l.all l8 && Z' (l.length<=Q8)
def ank{l:M cu}{m:Nat}(f:bQ bW l<=mg):G 210 [cG l,E (m:Int)]=Z (0,[.bool (HZ l m)]):=by (have a:l.length<=mg:=by simp only[bQ]at f;omega);refine ch t210 rfl ?_;simp only[go_sem,t210];have g:=ig (b:=lB G Lf) l (λi=>(0,[cG l,E (m:Int),E (i:Int)])) l8 (1,[cG l,E (m:Int),E l.length,.bool J]) (0,[.bool J]) (by intro i x c;have h:=bj c;have j:=wj h a;have d:=anj (e:=x) (gX f (bp c)).1;rw[aT]at d;simp only[go_sem,bn,Lf,h,aY,c,jT];simp only[go_sem,aT x,d];cases l8 x<;>simp only[go_sem,j]) (by simp only[go_sem,bn,Lf,aG]);rw[n0]at g;rw[g,HZ];cases l.all l8<;>simp only[go_sem,WV]
def anA{l:M cu}{m:Nat}(f:bQ bW l<=mg):G 269 [cG l,E (m:Int)]=Z (0,[.bool (HZ l m)]):=by (have a:l.length<=mg:=by simp only[bQ]at f;omega);refine ch t269 rfl ?_;simp only[go_sem,t269];have g:=ig (b:=lB G Lw) l (λi=>(0,[cG l,E (m:Int),cG l,E l.length,E (i:Int)])) l8 (1,[cG l,E (m:Int),cG l,E l.length,E l.length,.bool J]) (0,[.bool J]) (by intro i x c;have h:=bj c;have j:=wj h a;have d:=anz (e:=x) (gX f (bp c)).1;rw[aT]at d;simp only[go_sem,bn,Lw,h,aY,c,jT];simp only[go_sem,aT x,d];cases l8 x<;>simp only[go_sem,j]) (by simp only[go_sem,bn,Lw,aG]);rw[n0]at g;rw[g,HZ];cases l.all l8<;>simp only[go_sem,WV]
def lo0(l:M ku):Bool:=match l with
 |r::_=>Z' (0<=r.lo)
 |[]=>I
def Az(a:z->Bool)(t:lI):Bool:=
 if t.aA=1 then Er t.ranges && (t.names.isEmpty && (Z' (t.pattern.size=0) && Z' (t.path.size=0)))
 else if t.aA=2 then Er t.ranges && (lo0 t.ranges && ((Z' (t.pattern.size=0) ||a t.pattern) && (t.names.isEmpty && Z' (t.path.size=0))))
 else if t.aA=4 then eB 1 6 t.names.length && (t.ranges.isEmpty && (Z' (t.pattern.size=0) && Z' (t.path.size=0)))
 else if t.aA=5 then ja t.path && (!Z' (t.path.size=0) && (t.ranges.isEmpty && (t.names.isEmpty && Z' (t.pattern.size=0))))
 else if t.aA=3\/t.aA=6 then t.ranges.isEmpty && (t.names.isEmpty && (Z' (t.pattern.size=0) && Z' (t.path.size=0)))
 else J
def uy(l:M z):Bool:=tO l && l.all isName
def isType(a:z->Bool)(t:lI):Bool:=uy t.names && Az a t
theorem N_(l:M z)(v:z):iA l v=!(l.all λx=>!Z' (x=v)):=by induction l with|nil=>{rfl}|cons x l c=>simp only[iA,hO,cK]at c ⊢;rw[c,decide_eq_decide.2 (eq_comm (a:=v) (b:=x))];cases Z' (x=v)<;>simp
def Rg(l:M z):uy l=allI (λk e=>((l.take k).all λx=>!Z' (x=e)) && isName e) 0 l:=by have h:=Eo (λk (e:z)=>(l.take k).all λx=>!Z' (x=e)) (λ_ e=>isName e) 0 l;rw[uy,h,zF,tO];congr 2;funext i e;rw[N_,iN]
section
variable {kd:Int} {rs:D} {pt ph:z}
theorem VV{l:M z}{e:z}{k:Nat}(a:nth l k=Z e)(h:bQ gk l<=mg) :
  bJ (lB G BV) (0,[E (k:Int),E 0,E kd,rs,aJ l,.str pt,.str ph]) =
   Z (if (l.take k).all (λx=>!Z' (x=e))=I then (1,[E (k:Int),E (k:Int),.bool J,E kd,rs,aJ l,.str pt,.str ph]) else (0,[.bool J])):=by
 have m:=bj a;have c:l.length<=mg:=by simp only[bQ]at h;omega
 have d:=pq (b:=lB G BV) (λj=>(0,[E (k:Int),E (j:Int),E kd,rs,aJ l,.str pt,.str ph])) (atB (λx=>!Z' (x=e)) l) k
  (1,[E (k:Int),E (k:Int),.bool J,E kd,rs,aJ l,.str pt,.str ph]) (0,[.bool J]) (by
  intro j f;have a1:=dL (l:=l) (i:=j) (by omega);have g:=wj (i:=j) (n:=k) f (by omega);generalize l[j]'(by omega)=x at a1;simp only[go_sem,bn,BV,f,aY,a,a1,gk,atB];cases o:Z' (x=e)<;>simp only[go_sem,g]) (by simp only[go_sem,bn,BV,aG]) k 0 (by omega)
 rw[n0]at d;rw[d,zG _ l k 0 (by omega),cj]
theorem VW{l:M z}(d:bQ gk l<=mg) :
  bJ (lB G FM) (0,[E 0,E kd,rs,aJ l,.str pt,.str ph]) =
   Z (if uy l=I then (1,[E l.length,.bool J,E kd,rs,aJ l,.str pt,.str ph]) else (0,[.bool J])):=by
 have a:l.length<=mg:=by simp only[bQ]at d;omega
 have f:=qZ (b:=lB G FM) l (λk=>(0,[E (k:Int),E kd,rs,aJ l,.str pt,.str ph])) (λk e=>((l.take k).all λx=>!Z' (x=e)) && isName e)
  (1,[E l.length,.bool J,E kd,rs,aJ l,.str pt,.str ph]) (0,[.bool J]) (by
  intro k e c;have g:=bj c;have h:=wj g a;have i:=aer (s:=e) (by have:=Ut l (bp c);omega);simp only[go_sem,bn,FM,g,VV c d];cases j:(l.take k).all (λx=>!Z' (x=e)) with
  |false=>simp only[go_sem]
  |true=>
   simp only[go_sem,aY,c,gk,i];cases m:isName e<;>simp only[go_sem,h]) (by simp only[go_sem,bn,FM,aG]) l.length 0 (by omega)
 rw[n0,cj]at f;rw[f,Rg]
end
theorem anr{a:z->Bool}(n:∀s:z,s.size<=mg->G 227 [.str s]=Z (0,[.bool (a s)])){t:lI}(k:eu (dJ t)<=mg):G 228 (dJ t)=Z (0,[.bool (isType a t)]):=by rw[oM]at k;have d:=aqC (l:=t.ranges) (by simp only[bQ]at k;omega);have q:=n t.pattern (by omega);have o:=aes (s:=t.path) (by omega);refine ch t228 rfl ?_;simp only[go_sem,t228,dJ,VW (l:=t.names) (by omega)];cases m:uy t.names with|false=>{simp only[go_sem,m,isType]}|true=>simp only[go_sem,m,isType,MJ];by_cases i:t.aA=1;{(have b:Az a t=(Er t.ranges && (t.names.isEmpty && (Z' (t.pattern.size=0) && Z' (t.path.size=0)))):=by simp[Az,i]);simp only[go_sem,d,i];(repeat' (first|with_reducible rfl|((first|rw[gM]|rw[gQ]|rw[gL]|rw[gP]);split<;>simp only[go_sem,dC, *])));all_goals simp_all};by_cases c:t.aA=2;{(have b:Az a t=(Er t.ranges && (lo0 t.ranges && ((Z' (t.pattern.size=0) ||a t.pattern) && (t.names.isEmpty && Z' (t.path.size=0))))):=by simp[Az,c]);cases j:t.ranges with|nil=>{(have p:lo0 t.ranges=I:=by rw[j];rfl);rw[j]at d;simp only[go_sem,d,c,ei];(repeat' (first|with_reducible rfl|((first|rw[gM]|rw[gQ]|rw[gL]|rw[gP]);split<;>simp only[go_sem,dC, *])));all_goals simp_all}|cons r l=>(have p:lo0 t.ranges=Z' (0<=r.lo):=by rw[j];rfl);rw[j]at d;simp only[go_sem,d,c,i_];(repeat' (first|with_reducible rfl|((first|rw[gM]|rw[gQ]|rw[gL]|rw[gP]);split<;>simp only[go_sem,dC,bc,lK, *])));all_goals simp_all};by_cases g:t.aA=4;{(have b:Az a t=(eB 1 6 t.names.length && (t.ranges.isEmpty && (Z' (t.pattern.size=0) && Z' (t.path.size=0)))):=by simp[Az,g]);simp only[go_sem,zA,g];(repeat' (first|with_reducible rfl|((first|rw[gM]|rw[gQ]|rw[gL]|rw[gP]);split<;>simp only[go_sem,dC, *])));all_goals simp_all};by_cases f:t.aA=5;{(have b:Az a t=(ja t.path && (!Z' (t.path.size=0) && (t.ranges.isEmpty && (t.names.isEmpty && Z' (t.pattern.size=0))))):=by simp[Az,f]);simp only[go_sem,o,f];(repeat' (first|with_reducible rfl|((first|rw[gM]|rw[gQ]|rw[gL]|rw[gP]);split<;>simp only[go_sem,dC, *])));all_goals simp_all};by_cases h:t.aA=3;{(have b:Az a t=(t.ranges.isEmpty && (t.names.isEmpty && (Z' (t.pattern.size=0) && Z' (t.path.size=0)))):=by simp[Az,h]);simp only[go_sem,h];(repeat' (first|with_reducible rfl|((first|rw[gM]|rw[gQ]|rw[gL]|rw[gP]);split<;>simp only[go_sem,dC, *])));all_goals simp_all};by_cases e:t.aA=6;{(have b:Az a t=(t.ranges.isEmpty && (t.names.isEmpty && (Z' (t.pattern.size=0) && Z' (t.path.size=0)))):=by simp[Az,e]);simp only[go_sem,e];(repeat' (first|with_reducible rfl|((first|rw[gM]|rw[gQ]|rw[gL]|rw[gP]);split<;>simp only[go_sem,dC, *])));all_goals simp_all};(have b:Az a t=J:=by simp[Az,i,c,h,g,f,e]);simp only[go_sem,i,c,h,g,f,e,b]
def zT(t:lI):Bool:=Z' (t.aA=0) && (t.ranges.isEmpty && (t.names.isEmpty && (Z' (t.pattern.size=0) && Z' (t.path.size=0))))
def aqX(t:lI):G 270 (dJ t)=Z (0,[.bool (zT t)]):=by refine ch t270 rfl ?_;simp only[go_sem,t270,dJ];(repeat' (first|with_reducible rfl|((first|rw[gM]|rw[gQ]|rw[gL]|rw[gP]);split<;>simp only[go_sem,sZ,dC, *])));all_goals simp_all[zT]
def anl(t:lI):G 211 (dJ t)=Z (0,[.bool (zT t)]):=by refine ch t211 rfl ?_;simp only[go_sem,t211,dJ];(repeat' (first|with_reducible rfl|((first|rw[gM]|rw[gQ]|rw[gL]|rw[gP]);split<;>simp only[go_sem,sZ,dC, *])));all_goals simp_all[zT]
def GM{l:M z}(h:l.isEmpty=I):uy l=I:=by rw[dT.1 h];rfl
def Yu{l:M ku}(h:l.isEmpty=I):Er l=I:=by rw[dT.1 h];rfl
theorem anF{a:z->Bool}(e:∀s:z,s.size<=mg->G 285 [.str s]=Z (0,[.bool (a s)])){t:lI}(b:eu (dJ t)<=mg):G 286 (dJ t)=Z (0,[.bool (isType a t)]):=by rw[oM]at b;have c:=aqZ (l:=t.ranges) (by simp only[bQ]at b;omega);have i:=e t.pattern (by omega);have h:=aey (s:=t.path) (by omega);have g:=aip (l:=t.names) (by omega);have f:=Xm (l:=t.names) (by simp only[bQ]at b;omega);refine ch t286 rfl ?_;simp only[go_sem,isType,t286,dJ];by_cases k:t.aA=1;{(have d:Az a t=(Er t.ranges && (t.names.isEmpty && (Z' (t.pattern.size=0) && Z' (t.path.size=0)))):=by simp[Az,k]);simp only[go_sem,MJ,k];(repeat' (first|with_reducible rfl|((first|rw[gM]|rw[gQ]|rw[gL]|rw[gP]);split<;>simp only[go_sem,dC, *])));(all_goals clear c i h g f e b);all_goals simp_all[GM]};by_cases j:t.aA=2;{(have d:Az a t=(Er t.ranges && (lo0 t.ranges && ((Z' (t.pattern.size=0) ||a t.pattern) && (t.names.isEmpty && Z' (t.path.size=0))))):=by simp[Az,j]);cases m:t.ranges with|nil=>{(have v:lo0 t.ranges=I:=by rw[m];rfl);rw[m]at c;simp only[go_sem,MJ,j];(repeat' (first|with_reducible rfl|((first|rw[gM]|rw[gQ]|rw[gL]|rw[gP]);split<;>simp only[go_sem,dC,cA, *])));(all_goals clear c i h g f e b);all_goals simp_all[GM,Yu]}|cons r l=>(have v:lo0 t.ranges=Z' (0<=r.lo):=by rw[m];rfl);rw[m]at c;simp only[go_sem,MJ,j];(repeat' (first|with_reducible rfl|((first|rw[gM]|rw[gQ]|rw[gL]|rw[gP]);split<;>simp only[go_sem,dC,bc,lK, *])));(all_goals clear c i h g f e b);(all_goals simp_all[GM]);all_goals omega};by_cases p:t.aA=4;{(have d:Az a t=(eB 1 6 t.names.length && (t.ranges.isEmpty && (Z' (t.pattern.size=0) && Z' (t.path.size=0)))):=by simp[Az,p]);unfold eB at d;unfold uy;simp only[go_sem,MJ,p];(repeat' (first|with_reducible rfl|((first|rw[gM]|rw[gQ]|rw[gL]|rw[gP]);split<;>simp only[go_sem,dC, *])));(all_goals clear c i h g f e b);all_goals simp_all[GM,Yu]};by_cases o:t.aA=5;{(have d:Az a t=(ja t.path && (!Z' (t.path.size=0) && (t.ranges.isEmpty && (t.names.isEmpty && Z' (t.pattern.size=0))))):=by simp[Az,o]);simp only[go_sem,MJ,o];(repeat' (first|with_reducible rfl|((first|rw[gM]|rw[gQ]|rw[gL]|rw[gP]);split<;>simp only[go_sem,dC,MJ, *])));(all_goals clear c i h g f e b);all_goals simp_all[GM]};by_cases q:t.aA=3;{(have d:Az a t=(t.ranges.isEmpty && (t.names.isEmpty && (Z' (t.pattern.size=0) && Z' (t.path.size=0)))):=by simp[Az,q]);simp only[go_sem,MJ,q];(repeat' (first|with_reducible rfl|((first|rw[gM]|rw[gQ]|rw[gL]|rw[gP]);split<;>simp only[go_sem,dC,MJ, *])));(all_goals clear c i h g f e b);all_goals simp_all[GM]};by_cases n:t.aA=6;{(have d:Az a t=(t.ranges.isEmpty && (t.names.isEmpty && (Z' (t.pattern.size=0) && Z' (t.path.size=0)))):=by simp[Az,n]);simp only[go_sem,MJ,n];(repeat' (first|with_reducible rfl|((first|rw[gM]|rw[gQ]|rw[gL]|rw[gP]);split<;>simp only[go_sem,dC,MJ, *])));(all_goals clear c i h g f e b);all_goals simp_all[GM]};(have d:Az a t=J:=by simp[Az,k,j,q,p,o,n]);simp only[go_sem,MJ,k,j,d];repeat' (first|with_reducible rfl|((first|rw[gM]|rw[gQ]|rw[gL]|rw[gP]);split<;>simp only[go_sem,dC,MJ, *]))
def kD:z:=⟨#[116,114,117,101]⟩
def iz:z:=⟨#[102,97,108,115,101]⟩
def Dt:z:=⟨#[49]⟩
def uZ:z:=⟨#[48]⟩
theorem Ms:(⟨[116,114,117,101].toArray⟩:z)=kD:=(rfl)
theorem HA:(⟨[102,97,108,115,101].toArray⟩:z)=iz:=(rfl)
theorem R5:(⟨[49].toArray⟩:z)=Dt:=(rfl)
theorem Mt:(⟨[48].toArray⟩:z)=uZ:=(rfl)
def mw(s:z):z:=if s=Dt then kD else if s=uZ then iz else s
def nu(mt:z->z->Bool)(t:lI)(s:z):u z:=
 if t.aA=1 then (match Ma s with
  |some n=>if To t.ranges n=I then Z (oC n) else O
  |none=>O)
 else if t.aA=2 then (if (ja s && (To t.ranges s.size && (Z' (t.pattern.size=0) ||mt t.pattern s)))=I then Z s else O)
 else if t.aA=3 then (if (Z' (mw s=kD) ||decide (mw s=iz))=I then Z (mw s) else O)
 else if t.aA=4 then (if iA t.names s=I then Z s else O)
 else if t.aA=5 then (if (ja s && !Z' (s.size=0))=I then Z s else O)
 else if t.aA=6 then (if s.size=0 then Z s else O)
 else O
def Ev(a:z->Bool)(mt:z->z->Bool)(t:lI)(s:z):u z:=if isType a t=I then nu mt t s else O
def mi:u z->M D
 |some v=>[.str v,.bool I]
 |none=>[.str ⟨#[]⟩,.bool J]
def HX{l:M z}{i:Nat}{e s:z}(h:nth l i=Z e):((l.take (i+1)).any λx=>Z' (x=s))=(((l.take i).any λx=>Z' (x=s)) ||decide (e=s)):=by rw[cd l i e h,List.any_append];simp
def aac(l:M z)(s:z):(l.any λx=>Z' (x=s))=iA l s:=by unfold iA;congr 1;funext x;exact decide_eq_decide.2 eq_comm
def adA{l:M z}{s o pt ph:z}{kd:Int}{rs:D}(hlen:l.length<=mg) :
  bJ (lB G FO) (0,[.str s,.str o,.bool J,E 0,E kd,rs,aJ l,.str pt,.str ph])=Z (0,[.str s,.str o,.bool (iA l s),E l.length,.bool J,E kd,rs,aJ l,.str pt,.str ph]):=by
 have c:=cO (b:=lB G FO) l (λi (b:Bool)=>(0,[.str s,.str o,.bool b,E (i:Int),E kd,rs,aJ l,.str pt,.str ph])) (λi=>(l.take i).any λx=>Z' (x=s))
  (0,[.str s,.str o,.bool (l.any λx=>Z' (x=s)),E l.length,.bool J,E kd,rs,aJ l,.str pt,.str ph]) (by
  intro i e a;have d:=bj a;have f:=wj d hlen;rw[HX a];cases g:(l.take i).any λx=>Z' (x=s)<;>simp only[go_sem,bn,FO,d,aY,a,gk,f]) (by simp only[go_sem,bn,FO,aG,bq]) l.length 0 (by omega)
 rw[n0,bB,List.any_nil,aac]at c;exact c
theorem aqK{d:z->Bool}{mt:z->z->Bool}(P:∀s:z,s.size<=mg->G 227 [.str s]=Z (0,[.bool (d s)]))(Q:∀p s:z,p.size<=mg->s.size<=mg->G 236 [.str p,.str s]=Z (0,[.bool (mt p s)]))
  {t:lI} {s:z} (L:eu (dJ t)<=mg) (H:s.size<=mg):G 237 (dJ t++[.str s])=Z (0,mi (Ev d mt t s)):=by have b:=anr P L;have F:=L;rw[oM]at F;have B:=aqH H;have R:=aes H;have U:=abu (n:=0) (by omega);have T:=Q t.pattern s (by omega) H;have K:∀n:Int,G 232 [gR t.ranges,E n]=Z (0,[.bool (To t.ranges n)]):=λn=>aqI (by simp only[bQ]at F;omega);have e:=adA (l:=t.names) (s:=s) (o:=s) (pt:=t.pattern) (ph:=t.path) (kd:=t.aA) (rs:=gR t.ranges) (by simp only[bQ]at F;omega);rw[dJ]at b;refine ch t237 rfl ?_;simp only[go_sem,Ms,HA,R5,Mt,t237,dJ];(have fin:∀{r:u z},nu mt t s=r->Ev d mt t s=if isType d t=I then r else O:=λh=>by rw[Ev,h]);clear P Q;by_cases j:t.aA=1;{rw[j]at b e;cases q:Ma s with|none=>{have a:=fin (r:=O) (by simp[nu,j,q]);rw[q]at B;clear fin e;cases c:isType d t<;>rw[c]at b a<;>simp only[go_sem,j,B,U,eN,a,mi]}|some n=>have N:=abu (n:=n) (Xp q);rw[q]at B;cases C:To t.ranges n with|false=>{have a:=fin (r:=O) (by simp[nu,j,q,C]);clear fin e;cases c:isType d t<;>rw[c]at b a<;>simp only[go_sem,K,j,B,N,C,eN,a,mi]}|true=>have a:=fin (r:=Z (oC n)) (by simp[nu,j,q,C]);clear fin e;cases c:isType d t<;>rw[c]at b a<;>simp only[go_sem,K,j,B,N,C,eN,b,a,mi]};by_cases y:t.aA=2;{rw[y]at b e;have a:=fin (r:=if (ja s && (To t.ranges s.size && (Z' (t.pattern.size=0) ||mt t.pattern s)))=I then Z s else O) (by simp[nu,y]);clear fin e;cases c:isType d t<;>rw[c]at b a<;>cases g:ja s<;>cases f:To t.ranges s.size<;>by_cases m:t.pattern.size=0<;>cases k:mt t.pattern s<;>rw[g,f,k]at a<;>simp only[go_sem,m]at a<;>simp only[go_sem,R,T,K,dC,y,g,f,m,k,b,a,mi]};by_cases i:t.aA=3;{rw[i]at b e;have a:=fin (r:=if (Z' (mw s=kD) ||decide (mw s=iz))=I then Z (mw s) else O) (by simp[nu,i]);clear fin e;(have d1:¬Dt=uZ:=by decide);(have S:¬kD=iz:=by decide);(have D:¬iz=kD:=by decide);(have d4:¬uZ=Dt:=by decide);(have Y:¬kD=Dt:=by decide);(have X:¬kD=uZ:=by decide);(have W:¬iz=Dt:=by decide);(have V:¬iz=uZ:=by decide);by_cases g:s=Dt;{(have A:mw s=kD:=by rw[mw,if_pos g]);rw[A]at a;simp only[go_sem,S]at a;cases c:isType d t<;>rw[c]at b a<;>simp only[go_sem,i,g,b,mi]<;>(rw[g]at a;simp only[go_sem,a])};by_cases f:s=uZ;{(have A:mw s=iz:=by rw[mw,if_neg g,if_pos f]);rw[A]at a;simp only[go_sem,D]at a;cases c:isType d t<;>rw[c]at b a<;>simp only[go_sem,i,f,D,d4,b,mi]<;>(rw[f]at a;simp only[go_sem,a])};(have A:mw s=s:=by rw[mw,if_neg g,if_neg f]);rw[A]at a;by_cases m:s=kD;{simp only[go_sem,m,S]at a;cases c:isType d t<;>rw[c]at b a<;>simp only[go_sem,i,m,Y,X,b,mi]<;>simp only[go_sem,a]};by_cases k:s=iz;{simp only[go_sem,k,D]at a;cases c:isType d t<;>rw[c]at b a<;>simp only[go_sem,i,k,D,W,V,b,mi]<;>simp only[go_sem,a]};simp only[go_sem,m,k,ite_self]at a;cases c:isType d t<;>rw[c]at b<;>simp only[go_sem,i,g,f,m,k,a,mi]};by_cases x:t.aA=4;{rw[x]at b e;have a:=fin (r:=if iA t.names s=I then Z s else O) (by simp[nu,x]);clear fin;cases c:isType d t<;>rw[c]at b a<;>cases g:iA t.names s<;>rw[g]at e a<;>simp only[go_sem,x,e,b,a,mi]};by_cases w:t.aA=5;{rw[w]at b e;have a:=fin (r:=if (ja s && !Z' (s.size=0))=I then Z s else O) (by simp[nu,w]);clear fin e;cases c:isType d t<;>rw[c]at b a<;>cases g:ja s<;>by_cases f:s.size=0<;>rw[g]at a<;>simp only[go_sem,f]at a<;>simp only[go_sem,R,dC,w,g,f,b,a,mi]};by_cases v:t.aA=6;{rw[v]at b e;have a:=fin (r:=if s.size=0 then Z s else O) (by simp[nu,v]);clear fin e;cases c:isType d t<;>rw[c]at b a<;>by_cases f:s.size=0<;>simp only[go_sem,f]at a<;>simp only[go_sem,dC,v,f,b,a,mi]};have a:=fin (r:=O) (by simp[nu,j,y,i,x,w,v]);clear fin e;cases c:isType d t<;>rw[c]at b a<;>simp only[go_sem,j,y,i,x,w,v,a,mi]
def lY{a:Type}(l:M a)(i:Int):u a:=if 0<=i then nth l i.toNat else O
def wk{a:Type}(l:M a)(i:Nat):lY l (i:Int)=nth l i:=by unfold lY;rw[if_pos (by omega),cn]
theorem tc{a:Type}{l:M a}{i:Int}(h:¬(0<=i/\i<=(l.length:Int) - 1)):lY l i=O:=by unfold lY;split;{cases b:nth l i.toNat with|none=>{rfl}|some x=>have:=bj b;exact absurd ⟨by assumption,by omega⟩ h};rfl
def xf{b:Type}{l:M b}{i:Int}(h:0<=i/\i<=(l.length:Int) - 1):∃(k:Nat) (x:b),i=(k:Int)/\k<l.length/\nth l k=Z x/\lY l i=Z x:=by (have a:i.toNat<l.length:=by omega);refine⟨i.toNat,l[i.toNat],by omega,a,dL a,?_⟩;unfold lY;rw[if_pos h.1,dL a]
def iJ:M aE->M Int->M aE
 |l,[]=>l
 |l,i::is=>match lY l i with
  |none=>[]
  |some x=>iJ x.ai is
def iW:M aE->M Int->u aE
 |_,[]=>O
 |l,i::is=>match lY l i with
  |none=>O
  |some x=>if is.isEmpty=I then Z x else iW x.ai is
theorem VM:∀a:M Int,iJ [] a=[]
 |[]=>rfl
 |i::a=>by have:lY ([]:M aE) i=O:=tc (by simp only[aK];omega);rw[iJ,this]
theorem FD:∀(l:M aE) (b:M Int) (i:Int),iJ l (b++[i])=iJ (iJ l b) [i]
 |l,[],i=>rfl
 |l,a::b,i=>by show (match lY l a with|none=>[]|some x=>iJ x.ai (b++[i]))=iJ (match lY l a with|none=>[]|some x=>iJ x.ai b) [i];cases lY l a with|none=>{exact (VM [i]).symm}|some x=>exact FD x.ai b i
theorem GH:∀(l:M aE) (b:M Int) (i:Int),iW l (b++[i])=lY (iJ l b) i
 |l,[],i=>by rw[av,iW,iJ];cases lY l i<;>rfl
 |l,a::b,i=>by rw[ax,iW,iJ];cases lY l a with|none=>{exact (tc (by simp only[aK];omega)).symm}|some x=>dsimp only;rw[if_neg (by simp)];exact GH x.ai b i
theorem FC:∀(l:M aE) (a:M Int),a≠[]->iJ l a=match iW l a with
  |none=>[]
  |some x=>x.ai
 |l,[],h=>absurd rfl h
 |l,[i],_=>by rw[iJ,iW];cases lY l i<;>rfl
 |l,i::j::a,_=>by rw[iJ,iW];cases lY l i with|none=>{rfl}|some x=>exact FC x.ai (j::a) (by simp)
def AV{l:M aE}{i:Int}{x:aE}(h:lY l i=Z x):bQ bl x.ai+1<=bQ bl l:=by unfold lY at h;split at h;{have b:=cy bl (bp h);have a:=eF x;omega};cases h
theorem pZ:∀(l:M aE) (a:M Int),bQ bl (iJ l a)<=bQ bl l
 |l,[]=>aI _
 |l,i::a=>by rw[iJ];cases h:lY l i with|none=>{exact bK _}|some x=>have c:=pZ x.ai a;have b:=AV h;dsimp only;omega
def AF(x:aE)(t:M fL):Bool:=t.all λt=>x.ai.any λk=>Z' (k.au=t.au) && Z' (k.bu=t.bu)
def adk(st:eb)(x:aE):Bool:=Z' (x.au=st.au) && AF x st.cY
def jB(st:eb)(pl:M Int):M aE->Nat->M (M Int)
 |[],_=>[]
 |x::xs,j=>if adk st x=I then (pl++[(j:Int)])::jB st pl xs (j+1) else jB st pl xs (j+1)
def pC(l:M aE)(st:eb)(a:M (M Int)):M (M Int):=a.flatMap λpl=>jB st pl (iJ l pl) 0
def Dx(l:M aE):M eb->M (M Int)->M (M Int)
 |[],now=>now
 |st::a,now=>Dx l a (pC l st now)
def uF(l:M aE)(at_:M Int)(p:fC):M (M Int):=
 if gz p=I/\p.kj.toNat<=at_.length then Dx l p.steps [if p.root=I then [] else at_.take (at_.length - p.kj.toNat)] else []
theorem yt(st:eb)(pl:M Int)(x:aE):∀(l:M aE) (j:Nat),jB st pl (l++[x]) j=jB st pl l j++if adk st x=I then [pl++[((j+l.length:Nat):Int)]] else []
 |[],j=>by rw[av,jB,jB,av];split<;>rw[jB]<;>rfl
 |y::l,j=>by rw[ax,jB,jB,yt st pl x l (j+1),aN,show j+1+l.length=j+(l.length+1) by omega];split<;>rfl
def mW(l:M aE):M (M Int)->Nat
 |[]=>0
 |pl::a=>1+bQ bl (iJ l pl)+mW l a
theorem GB(l:M aE)(b:M (M Int)):∀a,mW l (a++b)=mW l a+mW l b
 |[]=>by simp[mW]
 |p::a=>by rw[ax,mW,mW,GB l b a];omega
theorem nG(l:M aE):∀a:M (M Int),a.length<=mW l a
 |[]=>bK _
 |p::a=>by rw[mW,aN];have:=nG l a;omega
theorem Fh(l:M aE)(st:eb)(pl:M Int):∀(b a:M aE),iJ l pl=a++b->mW l (jB st pl b a.length)<=bQ bl b
 |[],a,h=>bK _
 |x::b,a,h=>by have c:=Fh l st pl b (a++[x]) (by rw[h];simp);rw[az,aQ]at c;rw[jB,fX,eF];split;{have d:iJ l (pl++[(a.length:Int)])=x.ai:=by{rw[FD,h,iJ,wk];(have:nth (a++x::b) a.length=Z x:=by rw[ek];simp);rw[this];rfl};rw[mW,d];omega};omega
theorem pI(l:M aE)(st:eb):∀a:M (M Int),mW l (pC l st a)+a.length<=mW l a
 |[]=>aI _
 |pl::a=>by have c:=Fh l st pl (iJ l pl) [] rfl;have b:=pI l st a;rw[aK]at c;rw[pC,eJ,GB,mW,aN];rw[pC]at b;omega
theorem JR(l:M aE):∀(b:M eb) (a:M (M Int)),mW l (Dx l b a)<=mW l a
 |[],a=>aI _
 |st::b,a=>by have d:=JR l b (pC l st a);have c:=pI l st a;rw[Dx];omega
def xp(l:M aE)(at_:M Int)(p:fC):mW l (uF l at_ p)<=1+bQ bl l:=by unfold uF;split;{refine aV (JR l _ _) ?_;rw[mW,mW];have:=pZ l (if p.root=I then [] else at_.take (at_.length - p.kj.toNat));omega};exact bK _
def Ii(n:Nat)(a:M (M Int)):Prop:=∀p∈a,p.length<=n
theorem Fg{n:Nat}(st:eb){pl:M Int}(h:pl.length<=n):∀(b:M aE) (j:Nat),Ii (n+1) (jB st pl b j)
 |[],j=>λp a=>by simp[jB]at a
 |x::b,j=>by have c:=Fg st h b (j+1);rw[jB];split;{intro p a;rcases aU.1 a with rfl|a;{rw[az,aQ];omega};exact c p a};exact c
def CC{n:Nat}(l:M aE)(st:eb){a:M (M Int)}(h:Ii n a):Ii (n+1) (pC l st a):=by intro p b;obtain⟨pl,d,c⟩:=List.mem_flatMap.1 b;exact Fg st (h pl d) _ _ p c
def qR(l:M aE)(at_:M Int)(p:fC):M z:=(uF l at_ p).filterMap λpl=>(iW l pl).map aE.bu
def AZ(l:M aE)(at_:M Int)(p:fC):(qR l at_ p).length<=1+bQ bl l:=by have c:=xp l at_ p;have b:=nG l (uF l at_ p);have a:=uL (λpl=>(iW l pl).map aE.bu) (uF l at_ p);unfold qR;omega
structure iR where
 aA:Int
 num:Int
 text:ByteArray
 yes:Bool
 list:List ByteArray
def aa7:iR:=⟨0,0,⟨#[]⟩,J,[]⟩
def X3:iR:=⟨2,0,⟨#[]⟩,J,[]⟩
def GL(n:Int):iR:=⟨1,n,⟨#[]⟩,J,[]⟩
def PC(b:Bool):iR:=⟨3,0,⟨#[]⟩,b,[]⟩
def cq(w:iR):M D:=[.int .i64 w.aA,.int .i64 w.num,.str w.text,.bool w.yes,aJ w.list]
def fY(w:iR):M z:=if w.aA=1 then [oC w.num] else if w.aA=2 then [w.text] else if w.aA=3 then [if w.yes=I then kD else iz] else if w.aA=4 then w.list else []
def fJ(w:iR):Bool:=if w.aA=1 then !Z' (w.num=0) else if w.aA=2 then !Z' (w.text.size=0) else if w.aA=3 then w.yes else Z' (w.aA=4) && !w.list.isEmpty
def YU(op:Int)(x y:Int):Bool:=if op=10 then Z' (x<y) else if op=11 then Z' (x<=y) else if op=12 then Z' (y<x) else if op=13 then Z' (y<=x) else J
def xJ(s:z):Bool:=Z' (0<s.size) && Z' (bY s 0=45)
def sh(s:z):u Int:=match AK (if xJ s=I then tl s else s) with
 |none=>O
 |some n=>if oC (if xJ s=I then -n else n)=s then Z (if xJ s=I then -n else n) else O
def ny(op:Int)(a b:z):Bool:=
 if op=8 then Z' (a=b) else if op=9 then !Z' (a=b) else match sh a,sh b with
  |some x,Z y=>YU op x y
  |_,_=>J
def rR(w:iR):u Int:=match fY w with
 |[]=>O
 |a::_=>sh a
def Rz(op:Int)(a b:iR):iR:=match rR a,rR b with
 |some x,Z y=>if eB (-1000000000) 1000000000 (if op=15 then x - y else x+y)=I then GL (if op=15 then x - y else x+y) else X3
 |_,_=>X3
def vlO(t:M aE)(at_:M Int)(e:cu)(c:M iR):iR:=
 if e.op=1 then GL e.num else if e.op=2 then ⟨2,0,e.text,J,[]⟩ else if e.op=3 then ⟨4,0,⟨#[]⟩,J,qR t at_ e.path⟩ else if e.op=4 then GL (uF t at_ e.path).length else match c with
  |[]=>aa7
  |a::c=>if e.op=5 then PC (!fJ a) else match c with
   |[]=>aa7
   |b::_=>if e.op=7 then PC (fJ a && fJ b) else if e.op=6 then PC (fJ a ||fJ b) else if e.op=14\/e.op=15 then Rz e.op a b else
    PC ((fY a).any λx=>(fY b).any λy=>ny e.op x y)
def vlL(t:M aE)(at_:M Int):M cu->M iR
 |[]=>[]
 |e::es=>vlO t at_ e (vlL t at_ e.ai)::vlL t at_ es
termination_by es=>aF es
decreasing_by
 all_goals first
  |exact cu.gu e es
  |(simp only[bM];omega)
def Ef(t:M aE)(at_:M Int)(e:cu):iR:=vlO t at_ e (vlL t at_ e.ai)
def vlX(t:M aE)(at_:M Int)(e:cu):iR:=if l8 e=I then Ef t at_ e else aa7
def pX(t:M aE)(at_:M Int)(e:cu):Bool:=fJ (vlX t at_ e)
theorem aq5{g:z->Bool}{mt:z->z->Bool}(K:∀s:z,s.size<=mg->G 285 [.str s]=Z (0,[.bool (g s)]))(L:∀p s:z,p.size<=mg->s.size<=mg->G 310 [.str p,.str s]=Z (0,[.bool (mt p s)]))
  {t:lI} {s:z} (D:eu (dJ t)<=mg) (B:s.size<=mg):G 311 (dJ t++[.str s])=Z (0,mi (Ev g mt t s)):=by
 have f:=anF K D;have A:=D;rw[oM]at A;have j:=anG B;have N:=aey B;have U:=aeB 0;have T:=L t.pattern s (by omega) B;have C:∀n:Int,G 288 [gR t.ranges,E n]=Z (0,[.bool (To t.ranges n)]):=λn=>aq3 (by simp only[bQ]at A;omega);have S:=q99 (l:=t.names) (v:=s) (by simp only[bQ]at A;omega);rw[dJ]at f;refine ch t311 rfl ?_;clear K L;cases y:isType g t with
 |false=>
  have a:Ev g mt t s=O:=by rw[Ev,y];rfl
  rw[y]at f;simp only[go_sem,Ms,HA,R5,Mt,t311,dJ,f,a,mi]
 |true=>
 have H:Ev g mt t s=nu mt t s:=by rw[Ev,y];rfl
 rw[y]at f;rw[H];clear H;simp only[go_sem,Ms,HA,R5,Mt,t311,dJ,f];clear f;by_cases e:t.aA=1
 .cases h:Ma s with
  |none=>
   have a:nu mt t s=O:=by simp[nu,e,h]
   rw[h]at j;simp only[go_sem,e,j,U,eN,a,mi]
  |some n=>
   have F:=aeB n;rw[h]at j;cases x:To t.ranges n with
   |false=>
    have a:nu mt t s=O:=by simp[nu,e,h,x]
    simp only[go_sem,C,e,j,F,x,eN,a,mi]
   |true=>
    have a:nu mt t s=Z (oC n):=by simp[nu,e,h,x]
    simp only[go_sem,C,e,j,F,x,eN,a,mi]
 by_cases w:t.aA=2
 .have a:nu mt t s=if (ja s && (To t.ranges s.size && (Z' (t.pattern.size=0) ||mt t.pattern s)))=I then Z s else O:=by simp[nu,w]
  cases b:ja s<;>cases c:To t.ranges s.size<;>by_cases m:t.pattern.size=0<;>cases k:mt t.pattern s<;>rw[b,c,k]at a<;>simp only[go_sem,m]at a<;>simp only[go_sem,N,T,C,dC,w,b,c,m,k,a,mi]
 by_cases d:t.aA=3
 .have a:nu mt t s=if (Z' (mw s=kD) ||decide (mw s=iz))=I then Z (mw s) else O:=by simp[nu,d]
  have d1:¬Dt=uZ:=by decide
  have R:¬kD=iz:=by decide
  have Q:¬iz=kD:=by decide
  have Y:¬uZ=Dt:=by decide
  have X:¬kD=Dt:=by decide
  have P:¬kD=uZ:=by decide
  have W:¬iz=Dt:=by decide
  have V:¬iz=uZ:=by decide
  by_cases b:s=Dt
  .have i:mw s=kD:=by rw[mw,if_pos b]
   rw[i]at a;rw[a];simp only[go_sem,d,b,R,P,mi]
  by_cases c:s=uZ
  .have i:mw s=iz:=by rw[mw,if_neg b,if_pos c]
   rw[i]at a;rw[a];simp only[go_sem,d,c,Q,Y,mi]
  have i:mw s=s:=by rw[mw,if_neg b,if_neg c]
  rw[i]at a;rw[a];by_cases m:s=kD
  .simp only[go_sem,d,m,R,X,P,mi]
  by_cases k:s=iz
  .simp only[go_sem,d,k,Q,W,V,mi]
  simp only[go_sem,d,b,c,m,k,mi]
 by_cases r:t.aA=4
 .have a:nu mt t s=if iA t.names s=I then Z s else O:=by simp[nu,r]
  rw[a];cases b:iA t.names s<;>simp only[go_sem,S,r,b,mi]
 by_cases q:t.aA=5
 .have a:nu mt t s=if (ja s && !Z' (s.size=0))=I then Z s else O:=by simp[nu,q]
  rw[a];cases b:ja s<;>by_cases c:s.size=0<;>simp only[go_sem,N,dC,q,b,c,mi]
 by_cases o:t.aA=6
 .have a:nu mt t s=if s.size=0 then Z s else O:=by simp[nu,o]
  rw[a];by_cases c:s.size=0<;>simp only[go_sem,dC,o,c,mi]
 have a:nu mt t s=O:=by simp[nu,e,w,d,r,q,o]
 rw[a];simp only[go_sem,e,w,d,r,q,o,mi]
def isVal(a:z->Bool)(mt:z->z->Bool)(t:lI)(s:z):Bool:=match Ev a mt t s with
 |some v=>Z' (v=s)
 |none=>J
theorem ans{a:z->Bool}{mt:z->z->Bool}(e:∀s:z,s.size<=mg->G 227 [.str s]=Z (0,[.bool (a s)]))(f:∀p s:z,p.size<=mg->s.size<=mg->G 236 [.str p,.str s]=Z (0,[.bool (mt p s)]))
  {t:lI} {s:z} (c:eu (dJ t)<=mg) (d:s.size<=mg):G 238 (dJ t++[.str s])=Z (0,[.bool (isVal a mt t s)]):=by have h:=aqK e f c d;rw[dJ]at h;refine ch t238 rfl ?_;unfold isVal;cases b:Ev a mt t s with|none=>{rw[b]at h;simp only[go_sem]at h;simp only[go_sem,t238,dJ,h,mi]}|some v=>rw[b]at h;simp only[go_sem]at h;simp only[go_sem,t238,dJ,h,mi]
theorem anI{a:z->Bool}{mt:z->z->Bool}(e:∀s:z,s.size<=mg->G 285 [.str s]=Z (0,[.bool (a s)]))(f:∀p s:z,p.size<=mg->s.size<=mg->G 310 [.str p,.str s]=Z (0,[.bool (mt p s)]))
  {t:lI} {s:z} (c:eu (dJ t)<=mg) (d:s.size<=mg):G 312 (dJ t++[.str s])=Z (0,[.bool (isVal a mt t s)]):=by have h:=aq5 e f c d;rw[dJ]at h;refine ch t312 rfl ?_;unfold isVal;cases b:Ev a mt t s with|none=>{rw[b]at h;simp only[go_sem]at h;simp only[go_sem,t312,dJ,h,mi]}|some v=>rw[b]at h;simp only[go_sem]at h;simp only[go_sem,t312,dJ,h,mi]
theorem tS{k β d f:Type}{b:d->u (Sg d f)}(es:M k)(g:k->β)(h:Nat->d)(a:Nat->M β->d)(p:f)(j:M β->f)
  (v:∀e,nth es 0=Z e->b (h 0)=Z (.go (a 1 [g e])))
  (t:∀i e,nth es i=Z e->0<i->b (a i ((es.take i).map g))=Z (.go (a (i+1) ((es.take i).map g++[g e]))))
  (y:es=[]->b (h 0)=Z (.out p)) (w:es≠[]->b (a es.length (es.map g))=Z (.out (j (es.map g)))) :
  bJ b (h 0)=Z (if es.isEmpty=I then p else j (es.map g)):=by cases c:es with|nil=>{rw[aO (y c)];rfl}|cons x l=>(have r:es≠[]:=by rw[c];simp);have go:∀m i,i+m=es.length->0<i->bJ b (a i ((es.take i).map g))=Z (j (es.map g)):=by{intro m;induction m with|zero=>{intro i s o;(obtain rfl:i=es.length:=by omega);rw[bq];exact aO (w r)}|succ m q=>intro i s o;have a1:=dL (l:=es) (i:=i) (by omega);rw[bE (t i _ a1 o),<- As a1];exact q (i+1) (by omega) (by omega)};(have n:nth es 0=Z x:=by rw[c];rfl);rw[bE (v x n)];have:=go (es.length - 1) 1 (by rw[c];simp;omega) (by omega);rw[As n]at this;simp only[bB,cA,av]at this;rw[this,c];rfl
def dQ(k a:Nat)(c:Bool)(es b:M (M D))(d:a<=65536)(h:es.length+b.length<=2147483648):aS (.app k a) [.list k c es,.list k c b]=Z (.list k c (es++b)):=
 Rl k a c es b (of_eq_true (ai1 d h))
def q76{t:lI}(a:eu (dJ t)<=mg):G 76 (dJ t)=Z (0,dJ t):=by rw[oM]at a;have c:=dQ 2 16 I [] (t.ranges.map lK) (by decide) (by simp only[bQ,mg,aj,aK]at *;omega);have b:=dQ 1 16 I [] (t.names.map gk) (by decide) (by simp only[bQ,mg,aj,aK]at *;omega);refine ch t76 rfl ?_;simp only[go_sem,t76,dJ,c,b]
theorem q77{p:fC}(g:eu (bU p)<=mg):G 77 (bU p)=Z (0,bU p):=by
 rw[jV]at g;have c:p.steps.length<=mg:=by simp only[bQ]at g;omega
 refine ch t77 rfl ?_;simp only[go_sem,t77,bU];have r:=tS (b:=lB G Jr) p.steps (λe=>e) (λi=>(0,[E (i:Int),.bool p.root,E p.kj,bP p.steps,.bool J,E 0,.bool p.root,E p.kj]))
  (λi a=>(1,[E (i:Int),.bool p.root,E p.kj,bP p.steps,.bool J,E 0,.bool p.root,E p.kj,bP a]))
  (0,[E 0,.bool J,.bool p.root,E p.kj,bP p.steps,.bool J,E 0,.bool p.root,E p.kj])
  (λa=>(1,[E p.steps.length,.bool J,.bool p.root,E p.kj,bP p.steps,.bool J,E 0,.bool p.root,E p.kj,bP a])) (by
   intro e d;have f:=bj d;have k:=wj f c;have j:=(gX g (bp d)).1;rw[nN]at j;have q:=dQ 2 32 I [] (e.cY.map gT) (by decide) (by simp only[bQ,mg,aj,aK]at *;omega);have o:aS (.lD 2 J) [.str e.au,cS e.cY]=Z (.list 2 J [[.str e.au,cS e.cY]]):=by simp[aS,chunk]
   have n:=dQ 2 40 J [] [[.str e.au,cS e.cY]] (by decide) (by simp);have m:aS .pl [.str e.au]=Z (.bool J):=rfl;simp only[go_sem,bn,Jr,f,aY,d,dt,q,o,n,m,k];simp[bP,dt]) (by
   intro i e d v;have f:=bj d;have k:=wj f c;have j:=(gX g (bp d)).1;rw[nN]at j;have q:=dQ 2 32 I [] (e.cY.map gT) (by decide) (by simp only[bQ,mg,aj,aK]at *;omega);have o:aS (.lD 2 J) [.str e.au,cS e.cY]=Z (.list 2 J [[.str e.au,cS e.cY]]):=by simp[aS,chunk]
   have n:=dQ 2 40 J ((p.steps.take i).map dt) [[.str e.au,cS e.cY]] (by decide) (by simp only[mg,aj,bo,aN,aK]at *;omega);have m:aS .pl [.str e.au]=Z (.bool J):=rfl;simp only[go_sem,bn,Jr,f,aY,d,dt,fc,q,o,n,m,k];simp[bP,dt]) (by
   intro h;simp only[go_sem,bn,Jr,h,cA,n0,eg]) (by
   intro h;simp only[go_sem,bn,Jr,aG,fc])
 rw[n0]at r;rw[r];cases t:p.steps with|nil=>{simp only[go_sem,ei,cA];rfl}|cons s l=>simp only[go_sem,i_,fc]
def gW(k:Nat)(a:M D)(h:a.length=k)(b:0<k):aS (.lD k J) a=Z (.list k J [a]):=by (have e:a.length / k=1:=by rw[h];exact Nat.div_self b);(have d:a.length % k=0:=by rw[h];exact Nat.mod_self k);have c:chunk k 1 a=Z [a]:=by{simp only[chunk];rw[if_pos (by omega),cX (by omega),wJ (by omega)];rfl};simp only[aS,e,d,c,if_true];rw[if_pos (λh=>by cases h)]
theorem an7(n:Nat):∀e:cu,aF e<n->eu (bW e)<=mg->G 78 (bW e)=Z (0,bW e):=by
 induction n with
 |zero=>intro e h;omega
 |succ n v=>
  intro e y r;have d:e.ai.length<=mg:=aV p9 r;have A:=jE e;have t:=q77 (p:=e.path) (by omega);rw[bU]at t;refine ch t78 (by rw[aT];rfl) ?_;simp only[go_sem,t78,aT,t];have st:∀(i:Nat) (x:cu) (l:M (M D)),nth e.ai i=Z x->l.length<=mg->G 78 (bW x)=Z (0,bW x)/\aS .pl [E x.op,E x.num,.str x.text,.bool x.path.root,E x.path.kj]=Z (.bool J)/\ aS (.lD 7 J) (bW x)=Z (.list 7 J [bW x])/\aS (.app 7 96) [.list 7 J l,.list 7 J [bW x]]=Z (.list 7 J (l++[bW x])):=by{intro i x l c o;refine⟨v x (by have:=cu.uc (bp c);omega) (aV (pY (bp c)) r),rfl,gW 7 _ (sN x) (by decide),dQ 7 96 J l [bW x] (by decide) (by simp only[mg,aN,aK]at *;omega)⟩}
  have o:=tS (b:=lB G Js) e.ai (λe=>e) (λi=>(0,E (i:Int)::(bW e++[E 0,E 0,.str ⟨#[]⟩,.bool J,E 0,E e.op,E e.num,.str e.text,.bool e.path.root,E e.path.kj,bP e.path.steps])))
   (λi a=>(1,E (i:Int)::(bW e++[E 0,E 0,.str ⟨#[]⟩,.bool J,E 0,E e.op,E e.num,.str e.text,.bool e.path.root,E e.path.kj,cG a,bP e.path.steps])))
   (0,E 0::.bool J::(bW e++[E 0,E 0,.str ⟨#[]⟩,.bool J,E 0,E e.op,E e.num,.str e.text,.bool e.path.root,E e.path.kj,bP e.path.steps]))
   (λa=>(1,E e.ai.length::.bool J::(bW e++[E 0,E 0,.str ⟨#[]⟩,.bool J,E 0,E e.op,E e.num,.str e.text,.bool e.path.root,E e.path.kj,cG a,bP e.path.steps]))) (by
    intro x c;have f:=bj c;have m:=wj f d;obtain⟨k,q,j,g⟩:=st 0 x [] c (by simp);rw[aT x]at k j g;simp only[go_sem,bn,Js,aT e,f,aY,c,jT];simp only[go_sem,aT x,k,q,j,g,m];simp[cG,aT x]) (by
    intro i x c B;have f:=bj c;have m:=wj f d;obtain⟨k,q,j,g⟩:=st i x ((e.ai.take i).map bW) c (by simp only[aj,bo];omega);rw[aT x]at k j g;simp only[go_sem,bn,Js,aT e,f,aY,c,jT,fc];simp only[go_sem,aT x,k,q,j,g,m];simp[cG,aT x]) (by
    intro h;simp only[go_sem,bn,Js,aT,h,cA,n0,eg]) (by
    intro h;simp only[go_sem,bn,Js,aT,aG,fc])
  simp only[go_sem,aT,n0]at o;rw[o];cases w:e.ai with|nil=>{simp only[go_sem,ei,cA];rfl}|cons s l=>simp only[go_sem,i_,fc]
def q78{e:cu}(a:eu (bW e)<=mg):G 78 (bW e)=Z (0,bW e):=an7 _ e (aW _) a
def bS(e:aq):M D:=aC e++[.int .i64 0,.str ⟨#[]⟩,.int .i64 0,.str ⟨#[]⟩,.str ⟨#[]⟩,.str ⟨#[]⟩,.bool J,.bool J,.bool J,.bool J,.int .i64 0,.int .i64 0,.int .i64 e.aA,.str e.au,.int .i64 e.type.aA,.str e.type.pattern,.str e.type.path,.str e.default,.bool e.given,.bool e.dB,.bool e.dq,.bool e.fixed,.int .i64 e.min,.int .i64 e.max,aD e.ai,aJ e.cl,aJ e.unique]
def rS(e:aq):M D:=[gR e.type.ranges,aJ e.type.names]
def aaQ{e:aq}{w:D}(r:eu (aC e)<=mg) :
  bJ (lB G Gl) (0,E 0::(bS e++[]++rS e))=Z (if e.when.isEmpty=I then (0,E 0::.bool J::(bS e++[]++rS e)) else (1,E e.when.length::.bool J::(bS e++[cG e.when]++rS e))):=by
 have q:=r;rw[cp]at q;(have p:bQ bW e.when<=mg:=by omega);(have d:e.when.length<=mg:=by simp only[bQ]at p;omega);have st:∀(i:Nat) (x:cu) (l:M (M D)),nth e.when i=Z x->l.length<=mg->G 78 (bW x)=Z (0,bW x)/\aS .pl [E x.op,E x.num,.str x.text,.bool x.path.root,E x.path.kj]=Z (.bool J)/\ aS (.lD 7 J) (bW x)=Z (.list 7 J [bW x])/\aS (.app 7 96) [.list 7 J l,.list 7 J [bW x]]=Z (.list 7 J (l++[bW x])):=by{intro i x l c n;refine⟨q78 (gX p (bp c)).1,rfl,gW 7 _ (sN x) (by decide),dQ 7 96 J l [bW x] (by decide) (by simp only[mg,aN,aK]at *;omega)⟩}
 have n:=tS (b:=lB G Gl) e.when (λe=>e) (λi=>(0,E (i:Int)::(bS e++[]++rS e))) (λi a=>(1,E (i:Int)::(bS e++[cG a]++rS e)))
  (0,E 0::.bool J::(bS e++[]++rS e)) (λa=>(1,E e.when.length::.bool J::(bS e++[cG a]++rS e))) (by
   intro x c;have f:=bj c;have m:=wj f d;obtain⟨k,o,j,g⟩:=st 0 x [] c (by simp);rw[aT x]at k j g;simp only[go_sem,bn,Gl,bS,rS,ak,f,aY,c,jT];simp only[go_sem,aT x,k,o,j,g,m];simp[cG,aT x]) (by
   intro i x c s;have f:=bj c;have m:=wj f d;obtain⟨k,o,j,g⟩:=st i x ((e.when.take i).map bW) c (by simp only[aj,bo];omega);rw[aT x]at k j g;simp only[go_sem,bn,Gl,bS,rS,ak,f,aY,c,jT,fc];simp only[go_sem,aT x,k,o,j,g,m];simp[cG,aT x]) (by
   intro h;simp only[go_sem,bn,Gl,bS,rS,ak,h,cA,n0,eg]) (by
   intro h;simp only[go_sem,bn,Gl,bS,rS,ak,aG,fc])
 rw[n0]at n;rw[n,fc]
def aaR{e:aq}{w:D}(r:eu (aC e)<=mg) :
  bJ (lB G Gn) (0,E 0::(bS e++[]++rS e))=Z (if e.gZ.isEmpty=I then (0,E 0::.bool J::(bS e++[]++rS e)) else (1,E e.gZ.length::.bool J::(bS e++[cG e.gZ]++rS e))):=by
 have q:=r;rw[cp]at q;(have p:bQ bW e.gZ<=mg:=by omega);(have d:e.gZ.length<=mg:=by simp only[bQ]at p;omega);have st:∀(i:Nat) (x:cu) (l:M (M D)),nth e.gZ i=Z x->l.length<=mg->G 78 (bW x)=Z (0,bW x)/\aS .pl [E x.op,E x.num,.str x.text,.bool x.path.root,E x.path.kj]=Z (.bool J)/\ aS (.lD 7 J) (bW x)=Z (.list 7 J [bW x])/\aS (.app 7 96) [.list 7 J l,.list 7 J [bW x]]=Z (.list 7 J (l++[bW x])):=by{intro i x l c n;refine⟨q78 (gX p (bp c)).1,rfl,gW 7 _ (sN x) (by decide),dQ 7 96 J l [bW x] (by decide) (by simp only[mg,aN,aK]at *;omega)⟩}
 have n:=tS (b:=lB G Gn) e.gZ (λe=>e) (λi=>(0,E (i:Int)::(bS e++[]++rS e))) (λi a=>(1,E (i:Int)::(bS e++[cG a]++rS e)))
  (0,E 0::.bool J::(bS e++[]++rS e)) (λa=>(1,E e.gZ.length::.bool J::(bS e++[cG a]++rS e))) (by
   intro x c;have f:=bj c;have m:=wj f d;obtain⟨k,o,j,g⟩:=st 0 x [] c (by simp);rw[aT x]at k j g;simp only[go_sem,bn,Gn,bS,rS,ak,f,aY,c,jT];simp only[go_sem,aT x,k,o,j,g,m];simp[cG,aT x]) (by
   intro i x c s;have f:=bj c;have m:=wj f d;obtain⟨k,o,j,g⟩:=st i x ((e.gZ.take i).map bW) c (by simp only[aj,bo];omega);rw[aT x]at k j g;simp only[go_sem,bn,Gn,bS,rS,ak,f,aY,c,jT,fc];simp only[go_sem,aT x,k,o,j,g,m];simp[cG,aT x]) (by
   intro h;simp only[go_sem,bn,Gn,bS,rS,ak,h,cA,n0,eg]) (by
   intro h;simp only[go_sem,bn,Gn,bS,rS,ak,aG,fc])
 rw[n0]at n;rw[n,fc]
def aaS{e:aq}{w:D}(r:eu (aC e)<=mg) :
  bJ (lB G Gq) (0,E 0::(bS e++[w]++rS e))=Z (if e.gZ.isEmpty=I then (0,E 0::.bool J::(bS e++[w]++rS e)) else (1,E e.gZ.length::.bool J::(bS e++[w,cG e.gZ]++rS e))):=by
 have q:=r;rw[cp]at q;(have p:bQ bW e.gZ<=mg:=by omega);(have d:e.gZ.length<=mg:=by simp only[bQ]at p;omega);have st:∀(i:Nat) (x:cu) (l:M (M D)),nth e.gZ i=Z x->l.length<=mg->G 78 (bW x)=Z (0,bW x)/\aS .pl [E x.op,E x.num,.str x.text,.bool x.path.root,E x.path.kj]=Z (.bool J)/\ aS (.lD 7 J) (bW x)=Z (.list 7 J [bW x])/\aS (.app 7 96) [.list 7 J l,.list 7 J [bW x]]=Z (.list 7 J (l++[bW x])):=by{intro i x l c n;refine⟨q78 (gX p (bp c)).1,rfl,gW 7 _ (sN x) (by decide),dQ 7 96 J l [bW x] (by decide) (by simp only[mg,aN,aK]at *;omega)⟩}
 have n:=tS (b:=lB G Gq) e.gZ (λe=>e) (λi=>(0,E (i:Int)::(bS e++[w]++rS e))) (λi a=>(1,E (i:Int)::(bS e++[w,cG a]++rS e)))
  (0,E 0::.bool J::(bS e++[w]++rS e)) (λa=>(1,E e.gZ.length::.bool J::(bS e++[w,cG a]++rS e))) (by
   intro x c;have f:=bj c;have m:=wj f d;obtain⟨k,o,j,g⟩:=st 0 x [] c (by simp);rw[aT x]at k j g;simp only[go_sem,bn,Gq,bS,rS,ak,f,aY,c,jT];simp only[go_sem,aT x,k,o,j,g,m];simp[cG,aT x]) (by
   intro i x c s;have f:=bj c;have m:=wj f d;obtain⟨k,o,j,g⟩:=st i x ((e.gZ.take i).map bW) c (by simp only[aj,bo];omega);rw[aT x]at k j g;simp only[go_sem,bn,Gq,bS,rS,ak,f,aY,c,jT,fc];simp only[go_sem,aT x,k,o,j,g,m];simp[cG,aT x]) (by
   intro h;simp only[go_sem,bn,Gq,bS,rS,ak,h,cA,n0,eg]) (by
   intro h;simp only[go_sem,bn,Gq,bS,rS,ak,aG,fc])
 rw[n0]at n;rw[n,fc]
def aq.gu(e:aq)(es:M aq):aF e.ai<aF (e::es):=by cases e;simp only[bM,aq.mk.sizeOf_spec];omega
def aq.fD(e:aq):aF e.ai<aF e:=by cases e;simp only[aq.mk.sizeOf_spec];omega
def qX(e:aq):(aC e).length=19:=by rw[ak];rfl
def fo(e:aq)(k:Nat)(a:Bool):aS (.has 19) [.list k a [aC e]]=Z (.bool J):=by rw[zb,qX,if_pos (aI 19)]
def iY(e:aq):bQ aC e.ai<=eu (aC e):=by rw[cp];omega
theorem abA{e:aq}(b:eu (aC e)<=mg)(c:G 79 [aD e.ai]=Z (0,[aD e.ai])):G 80 (aC e)=Z (0,aC e):=by have i:=b;rw[cp]at i;have a:=q76 (t:=e.type) (by omega);rw[dJ]at a;have o:=oM e.type;have n:=dQ 1 16 I [] (e.cl.map gk) (by decide) (by simp only[bQ,mg,aj,aK]at *;omega);have k:=dQ 1 16 I [] (e.unique.map gk) (by decide) (by simp only[bQ,mg,aj,aK]at *;omega);have g:=aaQ (e:=e) (w:=.bool J) b;have f:=aaR (e:=e) (w:=.bool J) b;have d:=aaS (e:=e) (w:=cG e.when) b;simp only[go_sem,bS,rS,ak]at g f d;refine ch t80 (by rw[ak];rfl) ?_;simp only[go_sem,t80,ak,a,n,k];rw[g];cases h:e.when with|nil=>{rw[h]at f g;simp only[go_sem,ei];rw[f];cases j:e.gZ with|nil=>{simp only[go_sem,ei,c];rfl}|cons x l=>simp only[go_sem,i_,c];rfl}|cons y m=>rw[h]at d;simp only[go_sem,i_];rw[d];cases j:e.gZ with|nil=>{simp only[go_sem,ei,c];rfl}|cons x l=>simp only[go_sem,i_,c]
theorem plS(x:aq):aS .pl [E x.aA,.str x.au,E x.type.aA,.str x.type.pattern,.str x.type.path,.str x.default,.bool x.given,.bool x.dB,.bool x.dq,.bool x.fixed,E x.min,E x.max]=Z (.bool J):=(rfl)
def mkS(x:aq):aS (.lD 19 J) (aC x)=Z (.list 19 J [aC x]):=gW 19 _ (qX x) (by decide)
def aj5(l:M (M D))(x:M D)(h:l.length<=mg):aS (.app 19 272) [.list 19 J l,.list 19 J [x]]=Z (.list 19 J (l++[x])):=
 dQ 19 272 J l [x] (by decide) (by simp only[mg,aN,aK]at *;omega)
theorem an8(n:Nat):∀l:M aq,aF l<n->bQ aC l<=mg->G 79 [aD l]=Z (0,[aD l]):=by induction n with|zero=>{intro l h;omega}|succ n p=>intro l t g;(have d:l.length<=mg:=by simp only[bQ]at g;omega);refine ch t79 rfl ?_;simp only[go_sem,t79];have j:=cO (b:=lB G Oz) l (λi (a:M aq)=>(0,[aD l,E (i:Int),aD a])) (λi=>l.take i) (0,[aD l,E l.length,.bool J,aD l]) (by intro i x c;have k:=bj c;have q:=wj k d;have f:eu (aC x)<=mg:=(gX g (bp c)).1;have r:=p x.ai (by have:=bD (bp c);have:=aq.fD x;omega) (aV (iY x) f);have e:=abA f r;have o:=mkS x;have m:=aj5 ((l.take i).map aC) (aC x) (by simp only[aj,bo];omega);rw[ak x]at e o m;simp only[go_sem,bn,Oz,k,aY,c,fo];simp only[go_sem,ak x,e,plS,o,m,q,cd _ _ _ c];simp[aD,ak x]) (by simp only[go_sem,bn,Oz,aG,bq]) l.length 0 (by omega);rw[n0,bB]at j;have s:bJ (lB G Oz) (0,[aD l,E 0,.list 19 J []])=_:=j;rw[s];simp only[go_sem]
def q79{l:M aq}(a:bQ aC l<=mg):G 79 [aD l]=Z (0,[aD l]):=an8 _ l (aW _) a
def q80{e:aq}(a:eu (aC e)<=mg):G 80 (aC e)=Z (0,aC e):=abA a (q79 (aV (iY e) a))
def j6(k:Int):Bool:=eB 1 4 k
def pw(k:Int):Bool:=Z' (k=5) ||decide (k=6)
def q75(k:Int):G 75 [E k]=Z (0,[.bool (j6 k)]):=by refine ch t75 rfl ?_;simp only[go_sem,t75,zA,j6]
def AJ(k:Int):G 92 [E k]=Z (0,[.bool (j6 k)]):=by have h:j6 k=(Z' (k=1) ||decide (k=2) ||decide (k=3) ||decide (k=4)):=by{rw[dU];simp[j6,eB];omega};refine ch t92 rfl ?_;simp only[go_sem,t92];(repeat' (first|with_reducible rfl|((first|rw[gM]|rw[gQ]|rw[gL]|rw[gP]);split<;>simp only[go_sem, *])));all_goals simp_all
def dk:M aq->M aq
 |[]=>[]
 |e::es=>(if j6 e.aA=I then [e] else if pw e.aA=I then dk e.ai else [])++dk es
termination_by es=>aF es
decreasing_by
 .exact aq.gu e es
 .simp only[bM];omega
def sL(e:aq):M aq:=if j6 e.aA=I then [e] else if pw e.aA=I then dk e.ai else []
def jQ(e:aq)(es:M aq):dk (e::es)=sL e++dk es:=by rw[dk];rfl
def mR:dk []=[]:=by rw[dk]
theorem Qm:∀(a b:M aq),dk (a++b)=dk a++dk b
 |[],b=>by rw[mR];rfl
 |e::a,b=>by rw[ax,jQ,jQ,Qm a b,bh]
def DQ(a:M aq)(e:aq):dk (a++[e])=dk a++sL e:=by rw[Qm,jQ,mR,aH]
theorem aky(n:Nat):∀(es:M aq),aF es<n->bQ aC (dk es)<=bQ aC es:=by induction n with|zero=>{intro es h;omega}|succ n a=>intro es h;cases es with|nil=>{rw[mR];exact aI _}|cons e es=>have d:=a es (by simp only[bM]at h;omega);have c:=a e.ai (by have:=aq.gu e es;omega);rw[jQ,kM,fX];have b:bQ aC (sL e)<=eu (aC e)+1:=by{unfold sL;split;{rw[fX];simp[bQ,qN]};split;{have:=iY e;omega};simp[bQ,qN]};omega
def my{es:M aq}:bQ aC (dk es)<=bQ aC es:=aky _ es (aW _)
def DR{es:M aq}(i:Nat)(a:bQ aC es<=mg):(dk (es.take i)).length<=mg:=by have c:=my (es:=es.take i);have b:=aci aC es i;simp only[bQ]at *;omega
def afU{k:Int}(h:j6 k=I):pw k=J/\¬k=5/\¬k=6:=by have:=(ej _ _ _).1 h;(have b:¬k=5:=by omega);(have a:¬k=6:=by omega);exact⟨by simp[pw,b,a],b,a⟩
theorem an9(n:Nat):∀l:M aq,aF l<n->bQ aC l<=mg->G 81 [aD l]=Z (0,[aD (dk l)]):=by induction n with|zero=>{intro l h;omega}|succ n y=>intro l C p;(have j:l.length<=mg:=by simp only[bQ]at p;omega);refine ch t81 rfl ?_;simp only[go_sem,t81];have s:=cO (b:=lB G C0) l (λi (a:M aq)=>(0,[aD l,E (i:Int),aD a])) (λi=>dk (l.take i)) (0,[aD l,E l.length,.bool J,aD (dk l)]) (by intro i x c;have k:=bj c;have o:=wj k j;have r:eu (aC x)<=mg:=(gX p (bp c)).1;have A:=aV (iY x) r;have w:=DR i p;have q:=DR (i+1) p;rw[cd _ _ _ c,DQ]at q;rw[cd _ _ _ c,DQ];cases hd:j6 x.aA with|true=>{obtain⟨D,e,d⟩:=afU hd;have m:=q80 r;have t:=mkS x;have g:=aj5 ((dk (l.take i)).map aC) (aC x) (by rw[aj];exact w);(have f:sL x=[x]:=by rw[sL,if_pos hd]);rw[ak x]at m t g;rw[f];simp only[go_sem,bn,C0,k,aY,c];simp only[go_sem,ak x,q75,hd];simp only[go_sem,ak x,c,aY,m,plS,t,g,e,d,o];simp[aD,ak x]}|false=>have v:=y x.ai (by have:=bD (bp c);have:=aq.fD x;omega) A;by_cases e:x.aA=5;{(have f:sL x=dk x.ai:=by rw[sL,if_neg (by rw[hd];simp),if_pos (by simp[pw,e])]);rw[f]at q ⊢;have g:=dQ 19 272 J ((dk (l.take i)).map aC) ((dk x.ai).map aC) (by decide) (by simp only[mg,aj,az]at *;omega);rw[e]at hd;simp only[go_sem,bn,C0,k,aY,c];simp only[go_sem,ak x,q75,hd,e];simp only[go_sem,ak x,c,aY,e,v,g,o];simp[aD]};by_cases d:x.aA=6;{(have f:sL x=dk x.ai:=by rw[sL,if_neg (by rw[hd];simp),if_pos (by simp[pw,d])]);rw[f]at q ⊢;have g:=dQ 19 272 J ((dk (l.take i)).map aC) ((dk x.ai).map aC) (by decide) (by simp only[mg,aj,az]at *;omega);rw[d]at hd;simp only[go_sem,bn,C0,k,aY,c];simp only[go_sem,ak x,q75,hd,d];simp only[go_sem,ak x,c,aY,d,v,g,o];simp[aD]};(have f:sL x=[]:=by rw[sL,if_neg (by rw[hd];simp),if_neg (by simp[pw,e,d])]);rw[f,aH];simp only[go_sem,bn,C0,k,aY,c];simp only[go_sem,ak x,q75,hd];simp only[go_sem,ak x,c,aY,e,d,o]) (by simp only[go_sem,bn,C0,aG,bq]) l.length 0 (by omega);rw[n0,bB,mR]at s;have B:bJ (lB G C0) (0,[aD l,E 0,.list 19 J []])=_:=s;rw[B];simp only[go_sem]
def q81{l:M aq}(a:bQ aC l<=mg):G 81 [aD l]=Z (0,[aD (dk l)]):=an9 _ l (aW _) a
def sM(c:Bool)(l:M aq):M Bool:=match l with
 |[]=>[]
 |e::es=>(if j6 e.aA=I then [c] else if pw e.aA=I then sM (c ||decide (e.aA=6)) e.ai else [])++sM c es
termination_by aF l
decreasing_by
 .exact aq.gu e es
 .simp only[bM];omega
def qF(c:Bool)(e:aq):M Bool:=if j6 e.aA=I then [c] else if pw e.aA=I then sM (c ||decide (e.aA=6)) e.ai else []
def nz(c:Bool)(e:aq)(es:M aq):sM c (e::es)=qF c e++sM c es:=by rw[sM];rfl
def tP(c:Bool):sM c []=[]:=by rw[sM]
theorem Np(c:Bool)(e:aq):∀(a:M aq),sM c (a++[e])=sM c a++qF c e
 |[]=>by rw[av,nz,tP];simp
 |x::a=>by rw[ax,nz,nz,Np c e a,bh]
theorem ac2(n:Nat):∀(c:Bool) (l:M aq),aF l<n->(sM c l).length=(dk l).length:=by induction n with|zero=>{intro c l h;omega}|succ n a=>intro c l h;cases l with|nil=>{rw[tP,mR];rfl}|cons e es=>rw[nz,jQ,az,az,a c es (by simp only[bM]at h;omega)];congr 1;unfold qF sL;split;{rfl};split;{exact a _ e.ai (by have:=aq.gu e es;omega)};rfl
def pP(c:Bool)(l:M aq):(sM c l).length=(dk l).length:=ac2 _ c l (aW _)
def kE{a:Type}(l:M a):Nat:=if l.isEmpty=I then 0 else 1
def aqf(x:aq):aS .xK (aC x)=Z (.bool J):=by rw[ak];rfl
theorem iB{a:Type}:kE ([]:M a)=0:=(rfl)
def rW{a:Type}(l m:M a)(h:m≠[]):kE (l++m)=1:=by unfold kE;rw[if_neg];cases l<;>cases m<;>simp_all
def kJ{a:Type}{l:M a}(h:l≠[]):kE l=1:=by simpa using rW [] l h
def aj8(a b:M aq)(h:a.length+b.length<=mg):aS (.app 19 272) [aD a,aD b]=Z (aD (a++b)):=by have:=dQ 19 272 J (a.map aC) (b.map aC) (by decide) (by simp only[mg,aj]at *;omega);rw[<- cC]at this;exact this
def aj2(a b:M Bool)(h:a.length+b.length<=mg):aS (.app 1 1) [bR a,bR b]=Z (bR (a++b)):=by have:=dQ 1 1 I (a.map CS) (b.map CS) (by decide) (by simp only[mg,aj]at *;omega);rw[<- cC]at this;exact this
def mkB(c:Bool):aS (.lD 1 I) [.bool c]=Z (bR [c]):=by simp[aS,chunk,db,D.plain,CS,bR]
theorem aoa(n:Nat):∀(l:M aq) (c:Bool),aF l<n->bQ aC l<=mg->G 93 [aD l,.bool c]=Z (kE (dk l),[aD (dk l),bR (sM c l)]):=by
 induction n with
 |zero=>intro l c h;omega
 |succ n H=>
  intro l c Y K;have D:l.length<=mg:=by simp only[bQ]at K;omega
  refine ch t93 rfl ?_;simp only[go_sem,t93];have S:=cO (b:=lB G kU) l (λi (a:M aq×M Bool)=>(kE a.1,[.bool c,aD l,E l.length,E (i:Int),aD a.1,bR a.2])) (λi=>(dk (l.take i),sM c (l.take i)))
   (kE (dk l),[.bool c,aD l,E l.length,E l.length,.bool J,aD (dk l),bR (sM c l)]) (by
   intro i x g;have k:=bj g;have m:=wj k D;have T:eu (aC x)<=mg:=(gX K (bp g)).1;have N:=aV (iY x) T;have X:=DR i K;have F:=DR (i+1) K;have Q:=pP c (l.take i);rw[cd _ _ _ g,DQ]at F;rw[cd _ _ _ g,DQ,Np];have v:dk (l.take i)=[]->sM c (l.take i)=[]:=λh=>fe.1 (by rw[Q,h];rfl);have P:(qF c x).length=(sL x).length:=by
    have t:=pP c [x];rw[nz,tP,jQ,mR]at t
    simpa using t
   have j:=aj8 (dk (l.take i)) (sL x) (by rw[az]at F;exact F);have hB:=aj2 (sM c (l.take i)) (qF c x) (by rw[Q,P];rw[az]at F;exact F);have R:=mkB c;have B:=mkS x;have A:=aqf x;rw[ak x]at B A;generalize V:dk (l.take i)=a at *;generalize U:sM c (l.take i)=f at *;cases hd:j6 x.aA with
   |true=>
    have t:sL x=[x]:=by rw[sL,if_pos hd]
    have s:qF c x=[c]:=by rw[qF,if_pos hd]
    rw[t]at j ⊢;rw[s]at hB ⊢;have C:aS (.app 19 272) [aD a,.list 19 J [aC x]]=Z (aD (a++[x])):=j;rw[ak x]at C;rw[rW a [x] (by simp)];cases a with
    |nil=>
     have q:=v rfl;subst q;simp only[go_sem,bn,kU,iB,k,aY,g,fo];simp only[go_sem,ak x,AJ,hd,A,B,C,R,hB,m]
    |cons y a=>
     simp only[go_sem,bn,kU,kJ (cW y a),k,aY,g,fo];simp only[go_sem,ak x,AJ,hd,A,B,C,R,hB,m]
   |false=>
    have L:=hd;by_cases p:x.aA=6
    .have t:sL x=dk x.ai:=by rw[sL,if_neg (by rw[hd];simp),if_pos (by simp[pw,p])]
     have o:¬x.aA=5:=by omega
     rw[t]at j ⊢;rw[p]at hd;cases c with
     |true=>
      have e:=H x.ai I (by have:=bD (bp g);have:=aq.fD x;omega) N;have s:qF I x=sM I x.ai:=by rw[qF,if_neg (by rw[L];simp),if_pos (by simp[pw,p])];simp[p]
      rw[s]at hB ⊢;cases r:dk x.ai with
      |nil=>
       rw[r]at e j;have w:sM I x.ai=[]:=fe.1 (by rw[pP,r];rfl);rw[w]at e hB ⊢;cases a with
       |nil=>
        have q:=v rfl;subst q;rw[aH,aH];simp only[go_sem,bn,kU,iB,iB,k,aY,g,fo];simp only[go_sem,ak x,AJ,hd,p,e,iB,j,hB,m,aH]
       |cons y a=>
        rw[aH,aH];simp only[go_sem,bn,kU,kJ (cW y a),k,aY,g,fo];simp only[go_sem,ak x,AJ,hd,p,e,iB,j,hB,m,aH]
      |cons d b=>
       rw[r]at e j;cases a with
       |nil=>
        have q:=v rfl;subst q;rw[rW _ (d::b) (by simp)];simp only[go_sem,bn,kU,iB,k,aY,g,fo];simp only[go_sem,ak x,AJ,hd,p,e,kJ (cW d b),j,hB,m]
       |cons y a=>
        rw[rW _ (d::b) (by simp)];simp only[go_sem,bn,kU,kJ (cW y a),k,aY,g,fo];simp only[go_sem,ak x,AJ,hd,p,e,kJ (cW d b),j,hB,m]
     |false=>
      have e:=H x.ai I (by have:=bD (bp g);have:=aq.fD x;omega) N;have s:qF J x=sM I x.ai:=by rw[qF,if_neg (by rw[L];simp),if_pos (by simp[pw,p])];simp[p]
      rw[s]at hB ⊢;cases r:dk x.ai with
      |nil=>
       rw[r]at e j;have w:sM I x.ai=[]:=fe.1 (by rw[pP,r];rfl);rw[w]at e hB ⊢;cases a with
       |nil=>
        have q:=v rfl;subst q;rw[aH,aH];simp only[go_sem,bn,kU,iB,iB,k,aY,g,fo];simp only[go_sem,ak x,AJ,hd,p,e,iB,j,hB,m,aH]
       |cons y a=>
        rw[aH,aH];simp only[go_sem,bn,kU,kJ (cW y a),k,aY,g,fo];simp only[go_sem,ak x,AJ,hd,p,e,iB,j,hB,m,aH]
      |cons d b=>
       rw[r]at e j;cases a with
       |nil=>
        have q:=v rfl;subst q;rw[rW _ (d::b) (by simp)];simp only[go_sem,bn,kU,iB,k,aY,g,fo];simp only[go_sem,ak x,AJ,hd,p,e,kJ (cW d b),j,hB,m]
       |cons y a=>
        rw[rW _ (d::b) (by simp)];simp only[go_sem,bn,kU,kJ (cW y a),k,aY,g,fo];simp only[go_sem,ak x,AJ,hd,p,e,kJ (cW d b),j,hB,m]
    .by_cases o:x.aA=5
     .have t:sL x=dk x.ai:=by rw[sL,if_neg (by rw[hd];simp),if_pos (by simp[pw,o])]
      rw[t]at j ⊢;rw[o]at hd;cases c with
      |true=>
       have e:=H x.ai I (by have:=bD (bp g);have:=aq.fD x;omega) N;have s:qF I x=sM I x.ai:=by rw[qF,if_neg (by rw[L];simp),if_pos (by simp[pw,o])];simp[o]
       rw[s]at hB ⊢;cases r:dk x.ai with
       |nil=>
        rw[r]at e j;have w:sM I x.ai=[]:=fe.1 (by rw[pP,r];rfl);rw[w]at e hB ⊢;cases a with
        |nil=>
         have q:=v rfl;subst q;rw[aH,aH];simp only[go_sem,bn,kU,iB,iB,k,aY,g,fo];simp only[go_sem,ak x,AJ,hd,o,e,iB,j,hB,m,aH]
        |cons y a=>
         rw[aH,aH];simp only[go_sem,bn,kU,kJ (cW y a),k,aY,g,fo];simp only[go_sem,ak x,AJ,hd,o,e,iB,j,hB,m,aH]
       |cons d b=>
        rw[r]at e j;cases a with
        |nil=>
         have q:=v rfl;subst q;rw[rW _ (d::b) (by simp)];simp only[go_sem,bn,kU,iB,k,aY,g,fo];simp only[go_sem,ak x,AJ,hd,o,e,kJ (cW d b),j,hB,m]
        |cons y a=>
         rw[rW _ (d::b) (by simp)];simp only[go_sem,bn,kU,kJ (cW y a),k,aY,g,fo];simp only[go_sem,ak x,AJ,hd,o,e,kJ (cW d b),j,hB,m]
      |false=>
       have e:=H x.ai J (by have:=bD (bp g);have:=aq.fD x;omega) N;have s:qF J x=sM J x.ai:=by rw[qF,if_neg (by rw[L];simp),if_pos (by simp[pw,o])];simp[o]
       rw[s]at hB ⊢;cases r:dk x.ai with
       |nil=>
        rw[r]at e j;have w:sM J x.ai=[]:=fe.1 (by rw[pP,r];rfl);rw[w]at e hB ⊢;cases a with
        |nil=>
         have q:=v rfl;subst q;rw[aH,aH];simp only[go_sem,bn,kU,iB,iB,k,aY,g,fo];simp only[go_sem,ak x,AJ,hd,o,e,iB,j,hB,m,aH]
        |cons y a=>
         rw[aH,aH];simp only[go_sem,bn,kU,kJ (cW y a),k,aY,g,fo];simp only[go_sem,ak x,AJ,hd,o,e,iB,j,hB,m,aH]
       |cons d b=>
        rw[r]at e j;cases a with
        |nil=>
         have q:=v rfl;subst q;rw[rW _ (d::b) (by simp)];simp only[go_sem,bn,kU,iB,k,aY,g,fo];simp only[go_sem,ak x,AJ,hd,o,e,kJ (cW d b),j,hB,m]
        |cons y a=>
         rw[rW _ (d::b) (by simp)];simp only[go_sem,bn,kU,kJ (cW y a),k,aY,g,fo];simp only[go_sem,ak x,AJ,hd,o,e,kJ (cW d b),j,hB,m]
     .have t:sL x=[]:=by rw[sL,if_neg (by rw[hd];simp),if_neg (by simp[pw,o,p])]
      have s:qF c x=[]:=by rw[qF,if_neg (by rw[hd];simp),if_neg (by simp[pw,o,p])]
      rw[t,s,aH,aH];cases a with
      |nil=>
       simp only[go_sem,bn,kU,iB,k,aY,g,fo];simp only[go_sem,ak x,AJ,hd,o,p,m]
      |cons y a=>
       simp only[go_sem,bn,kU,kJ (cW y a),k,aY,g,fo];simp only[go_sem,ak x,AJ,hd,o,p,m]) (by
   rw[bq];cases hd:dk l with
   |nil=>simp only[go_sem,bn,kU,iB,aG]
   |cons y a=>simp only[go_sem,bn,kU,kJ (cW y a),aG]) l.length 0 (by omega)
  rw[n0,bB,mR,tP]at S;have W:bJ (lB G kU) (0,[.bool c,aD l,E l.length,E 0,.list 19 J [],.list 1 I []])=_:=S;rw[W];cases hd:dk l with|nil=>{simp only[go_sem,iB]}|cons y a=>simp only[go_sem,kJ (cW y a)]
def q93{l:M aq}{c:Bool}(a:bQ aC l<=mg):G 93 [aD l,.bool c]=Z (kE (dk l),[aD (dk l),bR (sM c l)]):=aoa _ l c (aW _) a
theorem q94{l:M aq}(b:bQ aC l<=mg):G 94 [aD l]=Z (kE (dk l),[aD (dk l)]):=by have h:=q93 (c:=J) b;refine ch t94 rfl ?_;cases hd:dk l with|nil=>{rw[hd]at h;simp only[go_sem,t94,h,iB]}|cons y a=>rw[hd]at h;simp only[go_sem,t94,h,kJ (cW y a)]
def ey(l:M aq)(a:z):u Nat:=u7 (λe=>Z' (e.au=a)) l 0
theorem q82{l:M aq}{nm:z}(hlen:l.length<=mg):G 82 [aD l,.str nm]=Z (0,[E (lE (ey l nm))]):=by refine ch t82 rfl ?_;simp only[go_sem,t82];have c:=vI (b:=lB G TD) l (λi=>(0,[aD l,.str nm,E (i:Int)])) (λe=>Z' (e.au=nm)) (1,[aD l,.str nm,E l.length,.bool J]) (λi e=>(0,[E (i:Int)])) (by intro i e a;have d:=bj a;have f:=wj d hlen;simp only[go_sem,bn,TD,d,aY,a,ak];cases k:Z' (e.au=nm)<;>simp only[go_sem,f]) (by simp only[go_sem,bn,TD,aG]);rw[n0]at c;rw[c];unfold ey;cases g:u7 (λe=>Z' (e.au=nm)) l 0 with|none=>{simp only[go_sem,lE]}|some j=>obtain⟨e,h,m⟩:=dy g;simp only[go_sem,h,lE]
def q95{l:M aq}(hlen:l.length<=mg):G 95 [aD l]=Z (0,[aJ (l.map aq.au)]):=by refine ch t95 rfl ?_;simp only[go_sem,t95];have f:=cO (b:=lB G OA) l (λi (a:M z)=>(0,[aD l,E l.length,E (i:Int),aJ a])) (λi=>(l.take i).map aq.au) (0,[aD l,E l.length,E l.length,.bool J,aJ (l.map aq.au)]) (by intro i e c;have g:=bj c;have j:=wj g hlen;have m:aS (.app 1 16) [aJ ((l.take i).map aq.au),.list 1 I [[.str e.au]]]=Z (aJ ((l.take (i+1)).map aq.au)):=by{have h:=dQ 1 16 I (((l.take i).map aq.au).map gk) [[.str e.au]] (by decide) (by simp only[mg,aj,bo,aN,aK]at *;omega);rw[h,As c];simp[gk]};(have d:aS (.lD 1 I) [.str e.au]=Z (.list 1 I [[.str e.au]]):=by simp[aS,chunk,db,D.plain]);simp only[go_sem,bn,OA,g,aY,c,fo];simp only[go_sem,ak e,d,m,j]) (by simp only[go_sem,bn,OA,aG,bq]) l.length 0 (by omega);rw[n0,bB]at f;have k:bJ (lB G OA) (0,[aD l,E l.length,E 0,.list 1 I []])=_:=f;rw[k];simp only[go_sem]
def adx{l:M z}{e:z}{k:Nat}(a:nth l k=Z e)(hlen:l.length<=mg) :
  bJ (lB G BQ) (0,[aJ l,E (k:Int),E 0])=Z (if (l.take k).all (λx=>!Z' (x=e))=I then (1,[aJ l,E (k:Int),E (k:Int),.bool J]) else (0,[.bool J])):=by have g:=bj a;have c:=pq (b:=lB G BQ) (λj=>(0,[aJ l,E (k:Int),E (j:Int)])) (atB (λx=>!Z' (x=e)) l) k (1,[aJ l,E (k:Int),E (k:Int),.bool J]) (0,[.bool J]) (by intro j d;have a1:=dL (l:=l) (i:=j) (by omega);have f:=wj (i:=j) (n:=k) d (by omega);generalize l[j]'(by omega)=x at a1;simp only[go_sem,bn,BQ,d,aY,a,a1,gk,atB];cases h:Z' (x=e)<;>simp only[go_sem,f]) (by simp only[go_sem,bn,BQ,aG]) k 0 (by omega);rw[n0]at c;rw[c,zG _ l k 0 (by omega),cj]
def wm(l:M z):Bool:=tO l && Z' (l.length<=3)
def ac1(l:M z):tO l=allI (λk e=>(l.take k).all λx=>!Z' (x=e)) 0 l:=by rw[tO];congr 1;funext i e;rw[N_,iN]
def anm{l:M z}(hlen:l.length<=mg):G 212 [aJ l]=Z (0,[.bool (wm l)]):=by refine ch t212 rfl ?_;simp only[go_sem,t212];have c:=qZ (b:=lB G Lg) l (λk=>(0,[aJ l,E (k:Int)])) (λk e=>(l.take k).all λx=>!Z' (x=e)) (1,[aJ l,E l.length,.bool J]) (0,[.bool J]) (by intro k e a;have d:=bj a;have f:=wj d hlen;simp only[go_sem,bn,Lg,d,adx a hlen];cases g:(l.take k).all (λx=>!Z' (x=e))<;>simp only[go_sem,f]) (by simp only[go_sem,bn,Lg,aG]) l.length 0 (by omega);rw[n0,cj]at c;rw[c,wm,ac1];cases allI (λk e=>(l.take k).all λx=>!Z' (x=e)) 0 l<;>simp only[go_sem,amj]
def lR(e:aq):Bool:=eB 0 1000000000 e.min && (Z' (e.max=0) ||eB e.min 1000000000 e.max)
def ann(e:aq):G 213 (aC e)=Z (0,[.bool (lR e)]):=by refine ch t213 (by rw[ak];rfl) ?_;simp only[go_sem,t213,ak,zA];(repeat' (first|with_reducible rfl|((first|rw[gM]|rw[gQ]|rw[gL]|rw[gP]);split<;>simp only[go_sem,zA, *])));all_goals simp_all[lR]
def Xc(e:aq):lR e=(Z' (0<=e.min) && (Z' (e.min<=1000000000) && (Z' (0<=e.max) && (Z' (e.max<=1000000000) && (Z' (e.max=0) ||decide (e.min<=e.max)))))):=by rw[dU];simp only[lR,eB,aw,dE,decide_eq_true_eq];omega
def aqY(e:aq):G 272 (aC e)=Z (0,[.bool (lR e)]):=by rw[Xc];refine ch t272 (by rw[ak];rfl) ?_;simp only[go_sem,t272,ak];(repeat' (first|with_reducible rfl|((first|rw[gM]|rw[gQ]|rw[gL]|rw[gP]);split<;>simp only[go_sem, *])));all_goals simp_all
def bN:M aq->Nat
 |[]=>0
 |e::es=>1+bN e.ai+bN es
termination_by es=>aF es
decreasing_by
 .exact aq.gu e es
 .simp only[bM];omega
def ff:M aq->Nat
 |[]=>0
 |e::es=>bN e.ai+ff es
theorem qV:∀(l:M aq),bN l=l.length+ff l
 |[]=>by rw[bN];rfl
 |e::l=>by rw[bN,qV l,ff,aN];omega
theorem rL(e:aq):∀(l:M aq),ff (l++[e])=ff l+bN e.ai
 |[]=>by simp[ff]
 |x::l=>by rw[ax,ff,ff,rL e l];omega
theorem H0(l:M aq)(i:Nat):ff l=ff (l.take i)+ff (l.drop i):=by have app:∀(a b:M aq),ff (a++b)=ff a+ff b:=by{intro a;induction a with|nil=>{intro b;simp[ff]}|cons x a c=>intro b;rw[ax,ff,ff,c b];omega};rw[<- app,ck]
theorem Nh(n:Nat):∀(l:M aq),aF l<n->bN l<=bQ aC l:=by induction n with|zero=>{intro l h;omega}|succ n a=>intro l h;cases l with|nil=>{rw[bN];omega}|cons e l=>have c:=a l (by simp only[bM]at h;omega);have b:=a e.ai (by have:=aq.gu e l;omega);rw[bN,fX];have:=iY e;omega
def Ni{l:M aq}:bN l<=bQ aC l:=Nh _ l (aW _)
theorem ail(n:Nat):∀l:M aq,aF l<n->bQ aC l<=mg->G 255 [aD l]=Z (0,[E (bN l)]):=by induction n with|zero=>{intro l h;omega}|succ n g=>intro l t d;(have c:l.length<=mg:=by simp only[bQ]at d;omega);refine ch t255 rfl ?_;simp only[go_sem,t255];have e:=cO (b:=lB G Lo) l (λi (m:Nat)=>(0,[E (m:Int),aD l,E l.length,E (i:Int)])) (λi=>l.length+ff (l.take i)) (0,[E (bN l),aD l,E l.length,E l.length,.bool J]) (by intro i x a;have f:=bj a;have k:=wj f c;have j:=(gX d (bp a)).1;have o:=aV (iY x) j;have s:=g x.ai (by have:=bD (bp a);have:=aq.fD x;omega) o;have r:=H0 l (i+1);have q:=Ni (l:=l);rw[qV]at q;rw[cd _ _ _ a,rL]at r;(have p:IntKind.i64.wrap (((l.length+ff (l.take i):Nat):Int)+(bN x.ai:Int))=((l.length+(ff (l.take i)+bN x.ai):Nat):Int):=by rw[wrap_i64 (by simp only[mg]at d;omega)];omega);rw[cd _ _ _ a,rL];simp only[go_sem,bn,Lo,f,aY,a,fo];simp only[go_sem,ak x,s,p,k]) (by rw[bq,qV];simp only[go_sem,bn,Lo,aG]) l.length 0 (by omega);rw[n0,bB,ff,dG]at e;rw[e];simp only[go_sem]
def aqR{l:M aq}(a:bQ aC l<=mg):G 255 [aD l]=Z (0,[E (bN l)]):=ail _ l (aW _) a
def wK(l:M aq)(x r:Int):Prop:=((bN l:Int)<=x->r=x - bN l)/\(x<(bN l:Int)->r<0)/\-268435456<=r
theorem ah8(n:Nat):∀(l:M aq) (x:Int),aF l<n->bQ aC l<=mg->0<=x->x<=1048576->∃r,G 201 [aD l,E x]=Z (0,[E r])/\wK l x r:=by induction n with|zero=>{intro l x h;omega}|succ n F=>intro l x Q w S R;(have b:l.length<=mg:=by simp only[bQ]at w;omega);have P:IntKind.i64.wrap (x - (l.length:Int))=x - l.length:=wrap_i64 (by simp only[mg]at b;omega);have loop:∀m i (y:Int),i+m=l.length->-268435456<=y->y<=1048576->∃(r a:Int),bJ (lB G FH) (0,[aD l,E y,E (i:Int)])=Z (0,[aD l,E r,E a,.bool J])/\(0<=y->(ff (l.drop i):Int)<=y->r=y - ff (l.drop i))/\(y<0\/y<(ff (l.drop i):Int)->r<0)/\-268435456<=r:=by{intro m;induction m with|zero=>{intro i y K B A;(obtain rfl:i=l.length:=by omega);refine⟨y,l.length,aO (by simp only[go_sem,bn,FH,aG]),?_⟩;rw[eI];simp only[ff];omega}|succ m o=>intro i y K B A;(have c:i<l.length:=by omega);have a1:=dL (l:=l) (i:=i) c;have hd:=fM l i _ a1;generalize l[i]'c=e at a1 hd;by_cases f:0<=y;{have D:=bp a1;have q:=aV (iY e) (gX w D).1;obtain⟨v,N,t,C,L⟩:=F e.ai y (by have:=bD D;have:=aq.fD e;omega) q f A;have p:v<=1048576:=by{by_cases s:(bN e.ai:Int)<=y;{have:=t s;omega};have:=C (by omega);omega};obtain⟨r,a,k,j,d,g⟩:=o (i+1) v (by omega) L p;have H:=wj c b;refine⟨r,a,?_,?_⟩;{rw[<- k];refine bE ?_;simp only[go_sem,bn,FH,c,aY,a1,f];simp only[go_sem,ak e,N,H]};rw[hd,ff];refine⟨λ_ h=>?_,λh=>?_,g⟩;{have:=t (by omega);have:=j (by omega) (by omega);omega};by_cases s:(bN e.ai:Int)<=y;{have:=t s;exact d (by omega)};have:=C (by omega);exact d (.inl this)};refine⟨y,i,aO (by simp only[go_sem,bn,FH,c,f]),λh=>absurd h f,λ_=>by omega,B⟩};obtain⟨r,a,k,j,d,g⟩:=loop l.length 0 (x - l.length) (by omega) (by simp only[mg]at b;omega) (by omega);rw[n0,cj]at *;refine⟨r,ch t201 rfl ?_,?_⟩;{simp only[go_sem,t201,P,k]};unfold wK;rw[qV];refine⟨λh=>?_,λh=>?_,g⟩;{have:=j (by omega) (by omega);omega};exact d (by omega)
def aqw{l:M aq}{x:Int}(b:bQ aC l<=mg)(c:0<=x)(a:x<=1048576):∃r,G 201 [aD l,E x]=Z (0,[E r])/\wK l x r:=ah8 _ l x (aW _) b c a
def aE.gu(e:aE)(es:M aE):aF e.ai<aF (e::es):=by cases e;simp only[bM,aE.mk.sizeOf_spec];omega
def aE.fD(e:aE):aF e.ai<aF e:=by cases e;simp only[aE.mk.sizeOf_spec];omega
def U4(e:aE):(bl e).length=3:=by rw[aR];rfl
def aeg(e:aE)(k:Nat)(a:Bool):aS (.has 3) [.list k a [bl e]]=Z (.bool J):=by rw[zb,U4,if_pos (aI 3)]
def GD(e:aE):bQ bl e.ai<=eu (bl e):=by rw[eF];omega
def bz:M aE->Nat
 |[]=>0
 |e::es=>1+bz e.ai+bz es
termination_by es=>aF es
decreasing_by
 .exact aE.gu e es
 .simp only[bM];omega
def iH:M aE->Nat
 |[]=>0
 |e::es=>bz e.ai+iH es
theorem wN:∀(l:M aE),bz l=l.length+iH l
 |[]=>by rw[bz];rfl
 |e::l=>by rw[bz,wN l,iH,aN];omega
theorem vw(e:aE):∀(l:M aE),iH (l++[e])=iH l+bz e.ai
 |[]=>by simp[iH]
 |x::l=>by rw[ax,iH,iH,vw e l];omega
theorem M6(l:M aE)(i:Nat):iH l=iH (l.take i)+iH (l.drop i):=by have app:∀(a b:M aE),iH (a++b)=iH a+iH b:=by{intro a;induction a with|nil=>{intro b;simp[iH]}|cons x a c=>intro b;rw[ax,iH,iH,c b];omega};rw[<- app,ck]
theorem U0(n:Nat):∀(l:M aE),aF l<n->bz l<=bQ bl l:=by induction n with|zero=>{intro l h;omega}|succ n a=>intro l h;cases l with|nil=>{rw[bz];omega}|cons e l=>have c:=a l (by simp only[bM]at h;omega);have b:=a e.ai (by have:=aE.gu e l;omega);rw[bz,fX];have:=GD e;omega
def U1{l:M aE}:bz l<=bQ bl l:=U0 _ l (aW _)
theorem aiy(n:Nat):∀l:M aE,aF l<n->bQ bl l<=mg->G 317 [aB l]=Z (0,[E (bz l)]):=by induction n with|zero=>{intro l h;omega}|succ n g=>intro l t d;(have c:l.length<=mg:=by simp only[bQ]at d;omega);refine ch t317 rfl ?_;simp only[go_sem,t317];have e:=cO (b:=lB G LF) l (λi (m:Nat)=>(0,[E (m:Int),aB l,E l.length,E (i:Int)])) (λi=>l.length+iH (l.take i)) (0,[E (bz l),aB l,E l.length,E l.length,.bool J]) (by intro i x a;have f:=bj a;have k:=wj f c;have j:=(gX d (bp a)).1;have o:=aV (GD x) j;have s:=g x.ai (by have:=bD (bp a);have:=aE.fD x;omega) o;have r:=M6 l (i+1);have q:=U1 (l:=l);rw[wN]at q;rw[cd _ _ _ a,vw]at r;(have p:IntKind.i64.wrap (((l.length+iH (l.take i):Nat):Int)+(bz x.ai:Int))=((l.length+(iH (l.take i)+bz x.ai):Nat):Int):=by rw[wrap_i64 (by simp only[mg]at d;omega)];omega);rw[cd _ _ _ a,vw];simp only[go_sem,bn,LF,f,aY,a,aeg];simp only[go_sem,aR x,s,p,k]) (by rw[bq,wN];simp only[go_sem,bn,LF,aG]) l.length 0 (by omega);rw[n0,bB,iH,dG]at e;rw[e];simp only[go_sem]
def aq7{l:M aE}(a:bQ bl l<=mg):G 317 [aB l]=Z (0,[E (bz l)]):=aiy _ l (aW _) a
def DE(l:M aE)(x r:Int):Prop:=((bz l:Int)<=x->r=x - bz l)/\(x<(bz l:Int)->r<0)/\-268435456<=r
theorem aii(n:Nat):∀(l:M aE) (x:Int),aF l<n->bQ bl l<=mg->0<=x->x<=1048576->∃r,G 242 [aB l,E x]=Z (0,[E r])/\DE l x r:=by induction n with|zero=>{intro l x h;omega}|succ n F=>intro l x Q w S R;(have b:l.length<=mg:=by simp only[bQ]at w;omega);have P:IntKind.i64.wrap (x - (l.length:Int))=x - l.length:=wrap_i64 (by simp only[mg]at b;omega);have loop:∀m i (y:Int),i+m=l.length->-268435456<=y->y<=1048576->∃(r a:Int),bJ (lB G FP) (0,[aB l,E y,E (i:Int)])=Z (0,[aB l,E r,E a,.bool J])/\(0<=y->(iH (l.drop i):Int)<=y->r=y - iH (l.drop i))/\(y<0\/y<(iH (l.drop i):Int)->r<0)/\-268435456<=r:=by{intro m;induction m with|zero=>{intro i y K B A;(obtain rfl:i=l.length:=by omega);refine⟨y,l.length,aO (by simp only[go_sem,bn,FP,aG]),?_⟩;rw[eI];simp only[iH];omega}|succ m o=>intro i y K B A;(have c:i<l.length:=by omega);have a1:=dL (l:=l) (i:=i) c;have hd:=fM l i _ a1;generalize l[i]'c=e at a1 hd;by_cases f:0<=y;{have D:=bp a1;have q:=aV (GD e) (gX w D).1;obtain⟨v,N,t,C,L⟩:=F e.ai y (by have:=bD D;have:=aE.fD e;omega) q f A;have p:v<=1048576:=by{by_cases s:(bz e.ai:Int)<=y;{have:=t s;omega};have:=C (by omega);omega};obtain⟨r,a,k,j,d,g⟩:=o (i+1) v (by omega) L p;have H:=wj c b;refine⟨r,a,?_,?_⟩;{rw[<- k];refine bE ?_;simp only[go_sem,bn,FP,c,aY,a1,f];simp only[go_sem,aR e,N,H]};rw[hd,iH];refine⟨λ_ h=>?_,λh=>?_,g⟩;{have:=t (by omega);have:=j (by omega) (by omega);omega};by_cases s:(bz e.ai:Int)<=y;{have:=t s;exact d (by omega)};have:=C (by omega);exact d (.inl this)};refine⟨y,i,aO (by simp only[go_sem,bn,FP,c,f]),λh=>absurd h f,λ_=>by omega,B⟩};obtain⟨r,a,k,j,d,g⟩:=loop l.length 0 (x - l.length) (by omega) (by simp only[mg]at b;omega) (by omega);rw[n0,cj]at *;refine⟨r,ch t242 rfl ?_,?_⟩;{simp only[go_sem,t242,P,k]};unfold DE;rw[wN];refine⟨λh=>?_,λh=>?_,g⟩;{have:=j (by omega) (by omega);omega};exact d (by omega)
def aqM{l:M aE}{x:Int}(b:bQ bl l<=mg)(c:0<=x)(a:x<=1048576):∃r,G 242 [aB l,E x]=Z (0,[E r])/\DE l x r:=aii _ l x (aW _) b c a
def Zj(i:Int):M D:=[.int .i64 i]
abbrev bH(l:M Int):D:=.list 1 I (l.map Zj)
abbrev fg(l:M (M Int)):D:=.list 1 J (l.map λp=>[bH p])
def ij{l:M aE}{i:Nat}{y:aE}(h:nth l i=Z y):aS (.el 3) [aB l,E (i:Int)]=Z (.list 0 J [bl y]):=by rw[kB,aY,h];rfl
def vB{l:M Int}{i:Nat}{y:Int}(h:nth l i=Z y):aS (.el 1) [bH l,E (i:Int)]=Z (.list 0 J [[E y]]):=by rw[kB,aY,h];rfl
def aaD{at_:M Int}{l:M aE}{i:Nat}(a:¬i<at_.length):lB G vX (0,[aB l,bH at_,E (i:Int)])=Z (.out (1,[aB l,bH at_,E (i:Int),.bool J])):=by simp only[go_sem,bn,vX,aj,a]
def aaE{at_:M Int}{l:M aE}{i:Nat}{a:Int}(e:i<at_.length)(d:nth at_ i=Z a)(h:l.length<=mg)(c:eB 0 ((l.length:Int) - 1) a=J):lB G vX (0,[aB l,bH at_,E (i:Int)])=Z (.out (0,[aB []])):=by have f:=vB d;have g:IntKind.i64.wrap ((l.length:Int) - 1)=(l.length:Int) - 1:=wrap_i64 (by simp only[mg]at *;omega);have b:=zA a 0 ((l.length:Int) - 1);rw[c]at b;simp only[go_sem,bn,vX,aj,e,f,g,b];rfl
def aaF{at_:M Int}{l:M aE}{i k:Nat}{x:aE}(g:at_.length<=mg)(b:i<at_.length)(f:nth at_ i=Z (k:Int))(d:nth l k=Z x)(n:l.length<=mg)(c:eB 0 ((l.length:Int) - 1) (k:Int)=I):lB G vX (0,[aB l,bH at_,E (i:Int)])=Z (.go (0,[aB x.ai,bH at_,E ((i+1:Nat):Int)])):=by have j:=vB f;have h:=ij d;have m:IntKind.i64.wrap ((l.length:Int) - 1)=(l.length:Int) - 1:=wrap_i64 (by simp only[mg]at *;omega);have a:=zA (k:Int) 0 ((l.length:Int) - 1);have e:=wj b g;rw[c]at a;simp only[go_sem,bn,vX,aj,b,j,m,a,h,aR,e]
theorem adG{at_:M Int}(r:at_.length<=mg):∀(m i:Nat) (l:M aE),i+m=at_.length->bQ bl l<=mg->
  ∃R,bJ (lB G vX) (0,[aB l,bH at_,E (i:Int)])=Z R/\((∃q,R=(1,[aB (iJ l (at_.drop i)),bH at_,q,.bool J]))\/R=(0,[aB (iJ l (at_.drop i))])):=by intro m;induction m with|zero=>{intro i l h g;(have b:¬i<at_.length:=by omega);rw[cX (by omega),iJ];exact⟨_,aO (aaD b),.inl ⟨_,rfl⟩⟩}|succ m p=>intro i l h g;(have b:i<at_.length:=by omega);have d:=dL (l:=at_) (i:=i) b;have e:=fM at_ i _ d;generalize at_[i]'b=a at d e;(have f:l.length<=mg:=by simp only[bQ]at g;omega);rw[e,iJ];cases c:eB 0 ((l.length:Int) - 1) a;{rw[tc (λh=>by rw[(ej _ _ _).2 h]at c;cases c)];exact⟨_,aO (aaE b d f c),.inr rfl⟩};obtain⟨k,x,rfl,v,s,j⟩:=xf ((ej _ _ _).1 c);rw[j];have t:=AV j;obtain⟨R,o,n⟩:=p (i+1) x.ai (by omega) (by omega);exact⟨R,(bE (aaF r b d s f c)).trans o,n⟩
def anS{l:M aE}{at_:M Int}(c:bQ bl l<=mg)(d:at_.length<=mg):G 451 [aB l,bH at_]=Z (0,[aB (iJ l at_)]):=by obtain⟨R,a,b⟩:=adG d at_.length 0 l (by omega) c;rw[n0,cj]at *;refine ch aje rfl ?_;rcases b with ⟨e,rfl⟩|rfl;{simp only[go_sem,aje,a]};simp only[go_sem,aje,a]
def Zl{l:M fL}{i:Nat}{y:fL}(h:nth l i=Z y):aS (.el 2) [cS l,E (i:Int)]=Z (.list 0 J [gT y]):=by rw[kB,aY,h];rfl
def qQ(y:fL)(k:aE):Bool:=Z' (k.au=y.au) && Z' (k.bu=y.bu)
def Wl{n v:D}{a:M aE}{t:M fL}{i:Nat}{y:fL}(p:nth t i=Z y)(q:a.length<=mg) :
  bJ (lB G vY) (0,[cS t,E (i:Int),.bool J,E 0,n,v,aB a])=Z (0,[cS t,E (i:Int),.bool (a.any (qQ y)),E a.length,.bool J,n,v,aB a]):=by have h:=cO (b:=lB G vY) a (λk (m:Bool)=>(0,[cS t,E (i:Int),.bool m,E (k:Int),n,v,aB a])) (λk=>(a.take k).any (qQ y)) (0,[cS t,E (i:Int),.bool (a.any (qQ y)),E a.length,.bool J,n,v,aB a]) (by intro k x d;have c:=bj d;have e:=wj c q;have l:=ij d;have j:=Zl p;(have o:(a.take (k+1)).any (qQ y)=((a.take k).any (qQ y) ||qQ y x):=by rw[cd _ _ _ d];simp);rw[o];obtain⟨r,f⟩:∃b,(a.take k).any (qQ y)=b:=⟨_,rfl⟩;rw[f];cases r;{by_cases g:x.au=y.au;{simp only[go_sem,bn,vY,aj,c,l,j,aR,gT,g,e,qQ]};simp only[go_sem,bn,vY,aj,c,l,j,aR,gT,g,e,qQ]};simp only[go_sem,bn,vY,aj,c,e]) (by simp only[go_sem,bn,vY,aj,aG,bq]) a.length 0 (by omega);rw[bB,n0]at h;exact h
def aru{x:aE}{t:M fL}(k:x.ai.length<=mg)(g:t.length<=mg):G 452 (bl x++[cS t])=Z (0,[.bool (AF x t)]):=by have h:=ig (b:=lB G F6) t (λi=>(0,[cS t,E (i:Int),.str x.au,.str x.bu,aB x.ai])) (λy=>x.ai.any (qQ y)) (1,[cS t,E t.length,.bool J,.str x.au,.str x.bu,aB x.ai]) (0,[.bool J]) (by intro i y d;have c:=bj d;have e:=wj c g;have f:=Wl (n:=.str x.au) (v:=.str x.bu) d k;cases a:x.ai.any (qQ y);{rw[a]at f;simp only[go_sem,bn,F6,aj,c,f]};rw[a]at f;simp only[go_sem,bn,F6,aj,c,f,e]) (by simp only[go_sem,bn,F6,aj,aG]);rw[n0]at h;have j:AF x t=t.all λy=>x.ai.any (qQ y):=rfl;rw[j];refine ch ajf (by rw[aR];rfl) ?_;cases a:t.all λy=>x.ai.any (qQ y);{rw[a,if_neg (by simp)]at h;simp only[go_sem,ajf,aR,h]};rw[a,if_pos rfl]at h;simp only[go_sem,ajf,aR,h]
theorem anH(a:Nat):∀l:M aE,aF l<a->bQ bl l<=mg->G 2 [aB l]=Z (0,[aB l]):=by induction a with|zero=>{intro l h;omega}|succ a k=>intro l C o;(have e:l.length<=mg:=by simp only[bQ]at o;omega);have B:aS (.lD 3 J) []=Z (aB []):=rfl;have step:∀h,h=0\/h=1->∀i x,nth l i=Z x->lB G QX (h,[aB l,.int .i64 (i:Int),aB (l.take i)])=Z (.go (1,[aB l,E ((i+1:Nat):Int),aB (l.take (i+1))])):=by{intro h f i x d;have j:=bj d;have n:=wj j e;have A:=ij d;have D:=cy bl (bp d);have m:=eF x;have w:=k x.ai (by have:=bD (bp d);have:=aE.fD x;omega) (by omega);have v:aS (.lD 3 J) [.str x.au,.str x.bu,aB x.ai]=Z (.list 3 J [[.str x.au,.str x.bu,aB x.ai]]):=gW 3 _ rfl (by decide);have s:aS (.app 3 56) [aB (l.take i),.list 3 J [[.str x.au,.str x.bu,aB x.ai]]]=Z (aB (l.take i++[x])):=by{rw[dQ 3 56 J _ _ (by decide) (by simp only[aj,bo,aQ,mg]at *;omega)];simp[aB,aR x]};have r:aS .xK [.str x.au,.str x.bu,aB x.ai]=Z (.bool J):=rfl;rw[cd l i x d];generalize l.take i=t at *;rcases f with rfl|rfl<;>simp only[go_sem,bn,QX,j,n,A,aR x,w,v,s,r]};have fin:∀h,h=0\/h=1->lB G QX (h,[aB l,E l.length,aB l])=Z (.out (h,[aB l,E l.length,.bool J,aB l])):=by{intro h f;rcases f with rfl|rfl<;>simp only[go_sem,bn,QX,aG]};have g:∃h,(h=0\/h=1)/\bJ (lB G QX) (0,[aB l,E 0,aB []])=Z (h,[aB l,E l.length,.bool J,aB l]):=by{cases l with|nil=>{exact⟨0,.inl rfl,aO (fin 0 (.inl rfl))⟩}|cons x c=>have q:=step 0 (.inl rfl) 0 x rfl;have p:=cO (b:=lB G QX) (x::c) (λi t=>(1,[aB (x::c),.int .i64 (i:Int),aB t])) (λi=>(x::c).take i) (1,[aB (x::c),E (x::c).length,.bool J,aB (x::c)]) (λi y d=>step 1 (.inr rfl) i y d) (by rw[bq];exact fin 1 (.inr rfl)) c.length 1 (by simp only[aN];omega);exact⟨1,.inr rfl,(bE q).trans p⟩};obtain⟨h,f,g⟩:=g;refine ch t2 rfl ?_;rcases f with rfl|rfl<;>simp only[go_sem,t2,B,g]
def q2v{l:M aE}(a:bQ bl l<=mg):G 2 [aB l]=Z (0,[aB l]):=anH _ l (aW _) a
def ndR:u aE->Nat×M D
 |none=>(0,[.str ⟨#[]⟩,.str ⟨#[]⟩,aB [],.bool J])
 |some x=>(1,bl x++[.bool I])
def D8{l:M Int}{b:Nat}(h:b<=l.length):aS (.cut I) [bH l,E 0,E (b:Int)]=Z (bH (l.take b)):=by have c:dI (E 0)=Z 0:=rfl;(have a:dI (E (b:Int))=Z b:=by simp[dI]);simp only[aS,c,a,aj];rw[if_pos ⟨bK _,h⟩,cj,<- uN]
def aek{l:M aE}{k:Nat}{x:aE}(h:nth l k=Z x):aS (.AO 3 I) [aB l,E (k:Int),E ((k+1:Nat):Int)]=Z (aB [x]):=by (have d:dI (E (k:Int))=Z k:=by simp[dI]);(have c:dI (E ((k+1:Nat):Int))=Z (k+1):=by simp[dI];omega);have b:=bj h;have a:(l.take (k+1)).drop k=[x]:=by{rw[cd l k x h];(have:(l.take k).length=k:=by rw[bo];omega);exact List.drop_left' this};simp only[aS,d,c,aj];rw[if_pos ⟨trivial,Nat.le_succ k,b⟩,<- uN,<- List.map_drop,a]
def arv{l:M aE}{at_:M Int}(n:bQ bl l<=mg)(o:at_.length<=mg):G 454 [aB l,bH at_]=Z (ndR (iW l at_)):=by rcases List.eq_nil_or_concat at_ with rfl|⟨A,a,rfl⟩;{refine ch acj rfl ?_;simp only[go_sem,acj,aK,n0];rfl};rw[List.concat_eq_append]at *;rw[GH];(have L:A.length+1<=mg:=by rw[az,aQ]at o;exact o);(have w:nth (A++[a]) A.length=Z a:=by rw[ek];simp);have s:=vB w;(have j:¬((A.length+1:Nat):Int)=0:=by omega);(have m:IntKind.i64.wrap (((A.length+1:Nat):Int) - 1)=(A.length:Int):=by rw[wrap_i64 (by simp only[mg]at *;omega)];omega);have g:=D8 (l:=A++[a]) (b:=A.length) (by simp);rw[oc]at g;have q:=anS (at_:=A) n (by omega);have v:=pZ l A;(have d:(A++[a]).length=A.length+1:=by simp);generalize iJ l A=U at *;(have f:U.length<=mg:=by simp only[bQ]at v n;omega);have t:IntKind.i64.wrap ((U.length:Int) - 1)=(U.length:Int) - 1:=wrap_i64 (by simp only[mg]at *;omega);have c:=zA a 0 ((U.length:Int) - 1);refine ch acj rfl ?_;cases e:eB 0 ((U.length:Int) - 1) a;{rw[e]at c;rw[tc (λh=>by rw[(ej _ _ _).2 h]at e;cases e)];simp only[go_sem,acj,aj,d,j,m,g,q,s,t,c];rfl};obtain⟨k,x,rfl,C,p,B⟩:=xf ((ej _ _ _).1 e);rw[e]at c;rw[B];have H:=wj C f;have F:=aek p;have K:=cy bl (bp p);have D:=q2v (l:=[x]) (by rw[fX];have:bQ bl []=0:=rfl;omega);have r:=ij (l:=[x]) (i:=0) (y:=x) rfl;rw[n0]at r;simp only[go_sem,acj,aj,d,j,m,g,q,s,t,c,H,F,D,r,aR]
def Nt{l:M eb}{i:Nat}{y:eb}(h:nth l i=Z y):aS (.el 2) [bP l,E (i:Int)]=Z (.list 0 J [[.str y.au,cS y.cY]]):=by rw[kB,aY,h];rfl
def zW{l:M (M Int)}{i:Nat}{y:M Int}(h:nth l i=Z y):aS (.el 1) [fg l,E (i:Int)]=Z (.list 0 J [[bH y]]):=by rw[kB,aY,h];rfl
def Yp{a b:M Int}(h:a.length+b.length<=2147483648):aS (.app 1 8) [bH a,bH b]=Z (bH (a++b)):=by rw[dQ 1 8 I _ _ (by decide) (by simpa using h),bH,cC]
theorem ve:aS (.lD 1 I) []=Z (bH []):=(rfl)
def ad0(j:Int):aS (.lD 1 I) [E j]=Z (bH [j]):=by simp[aS,chunk,db,D.plain,Zj,bH]
theorem W5:aS (.lD 1 J) []=Z (fg []):=(rfl)
def W6(p:M Int):aS (.lD 1 J) [bH p]=Z (fg [p]):=by rw[gW 1 _ rfl (by decide)];rfl
def aj0{a b:M (M Int)}(h:a.length+b.length<=2147483648):aS (.app 1 24) [fg a,fg b]=Z (fg (a++b)):=by rw[dQ 1 24 J _ _ (by decide) (by simpa using h),fg,cC]
def gl(a b:z)(l:M aE)(k:Nat)(c:Bool):aS (.has 3) [.list k c [[.str a,.str b,aB l]]]=Z (.bool J):=by simp[aS,elC]
theorem BK(st:eb)(pl:M Int):∀(a:M aE) (j:Nat),(jB st pl a j).length<=a.length
 |[],j=>bK _
 |x::a,j=>by have:=BK st pl a (j+1);rw[jB];split<;>simp only[aN]<;>omega
def Wm{l:M aE}{now N:M (M Int)}{i k:Nat}{ks:M aE}{r u z:D}{ss:M eb}{st:eb}{pl:M Int}(v:nth ss i=Z st)(K:nth now k=Z pl)(P:bQ bl ks<=mg)(R:N.length<=mg+1)(Q:pl.length<=mg)(y:st.cY.length<=mg) :
  bJ (lB G uh) (0,[aB l,fg now,E (i:Int),E (k:Int),aB ks,E 0,r,u,bP ss,fg N,z])=Z (0,[aB l,fg now,E (i:Int),E (k:Int),aB ks,E ks.length,.bool J,r,u,bP ss,fg (N++jB st pl ks 0),z]):=by (have s:ks.length<=mg:=by simp only[bQ]at P;omega);have h:=cO (b:=lB G uh) ks (λj (t:M (M Int))=>(0,[aB l,fg now,E (i:Int),E (k:Int),aB ks,E (j:Int),r,u,bP ss,fg t,z])) (λj=>N++jB st pl (ks.take j) 0) (0,[aB l,fg now,E (i:Int),E (k:Int),aB ks,E ks.length,.bool J,r,u,bP ss,fg (N++jB st pl ks 0),z]) (by intro j x e;have g:=bj e;have m:=wj g s;have o:=ij e;have n:=Nt v;have H:=zW K;have S:=cy bl (bp e);have w:=eF x;have f:=aru (x:=x) (t:=st.cY) (by simp only[bQ]at *;omega) y;have p:=yt st pl x (ks.take j) 0;(have c:(ks.take j).length=j:=by rw[bo];omega);rw[c,bF]at p;have L:=BK st pl (ks.take j) 0;rw[c]at L;have F:aS (.app 1 8) [bH [],bH pl]=Z (bH pl):=Yp (a:=[]) (by simp only[mg,aK]at *;omega);have C:=Yp (a:=pl) (b:=[(j:Int)]) (by simp only[mg,aQ]at *;omega);have B:=aj0 (a:=N++jB st pl (ks.take j) 0) (b:=[pl++[(j:Int)]]) (by simp only[mg,aQ,az]at *;omega);rw[cd _ _ _ e,p];rw[aR]at f;have A:adk st x=(Z' (x.au=st.au) && AF x st.cY):=rfl;rw[A,<- bh];generalize N++jB st pl (ks.take j) 0=t at *;simp only[ax,av]at f;by_cases d:x.au=st.au;{rw[d]at f;cases q:AF x st.cY;{rw[q]at f;simp only[go_sem,bn,uh,aj,g,o,n,aR x,gl,d,f,m,aH]};rw[q]at f;simp only[go_sem,bn,uh,aj,g,o,n,H,aR x,gl,d,f,m,ve,ad0,W6,F,C,B]};simp only[go_sem,bn,uh,aj,g,o,n,aR x,d,m,aH]) (by simp only[go_sem,bn,uh,aj,aG,bq]) ks.length 0 (by omega);rw[bB,jB,aH,n0]at h;exact h
def lV{a β:Type}(f:a->M β){l:M a}{i:Nat}{x:a}(h:nth l i=Z x):(l.take (i+1)).flatMap f=(l.take i).flatMap f++f x:=by rw[cd l i x h,qA];simp
def Jz{l:M aE}:∀(a:M (M Int)) (k:Nat),mW l (a.take k)<=mW l a:=by intro a k;have h:=GB l (a.drop k) (a.take k);rw[ck]at h;omega
def Wn{l:M aE}{now:M (M Int)}{i n:Nat}{r u z:D}{ss:M eb}{st:eb}(e:nth ss i=Z st)(c:bQ bl l<=mg)(B:mW l now<=mg+1)(p:Ii n now)(o:n<=mg)(g:st.cY.length<=mg) :
  bJ (lB G B6) (0,[aB l,fg now,E (i:Int),E 0,r,u,bP ss,fg [],z])=Z (0,[aB l,fg now,E (i:Int),E now.length,.bool J,r,u,bP ss,fg (pC l st now),z]):=by have C:=nG l now;have h:=cO (b:=lB G B6) now (λk (t:M (M Int))=>(0,[aB l,fg now,E (i:Int),E (k:Int),r,u,bP ss,fg t,z])) (λk=>pC l st (now.take k)) (0,[aB l,fg now,E (i:Int),E now.length,.bool J,r,u,bP ss,fg (pC l st now),z]) (by intro k pl a;have d:=bj a;have f:IntKind.i64.wrap ((k:Int)+1)=((k+1:Nat):Int):=wi1 d (by simp only[mg]at *;omega);have w:=zW a;have A:=p pl (bp a);have v:=anS (l:=l) (at_:=pl) c (by omega);have x:=aV (pZ l pl) c;have j:=pI l st (now.take k);have q:=Jz (l:=l) now k;have y:=nG l (pC l st (now.take k));have s:=Wm (l:=l) (now:=now) (N:=pC l st (now.take k)) (i:=i) (k:=k) (ks:=iJ l pl) (r:=r) (u:=u) (z:=z) (ss:=ss) (st:=st) (pl:=pl) e a x (by omega) (by omega) g;have m:pC l st (now.take (k+1))=pC l st (now.take k)++jB st pl (iJ l pl) 0:=lV _ a;rw[m];simp only[go_sem,bn,B6,aj,d,w,v,s,f]) (by simp only[go_sem,bn,B6,aj,aG,bq]) now.length 0 (by omega);rw[bB,n0]at h;exact h
theorem Wo{l:M aE}{r u:D}{ss:M eb}(y:bQ bl l<=mg)(x:bQ dt ss<=mg):∀(m i n:Nat) (now:M (M Int)) (z:D),i+m=ss.length->mW l now<=mg+1->Ii n now->n+m<=mg->
  ∃c d,bJ (lB G LH) (0,[aB l,fg now,E (i:Int),r,u,bP ss,z])=Z (0,[aB l,fg c,E ss.length,.bool J,r,u,bP ss,d])/\c=Dx l (ss.drop i) now:=by intro m;induction m with|zero=>{intro i n now z h j e A;(obtain rfl:i=ss.length:=by omega);refine⟨now,z,aO ?_,by rw[eI];rfl⟩;simp only[go_sem,bn,LH,aj,aG]}|succ m q=>intro i n now z h j e A;(have b:i<ss.length:=by omega);have a:=dL (l:=ss) (i:=i) b;have g:=fM ss i _ a;generalize ss[i]'b=st at a g;(have p:ss.length<=mg:=by simp only[bQ]at x;omega);have t:=wj b p;have s:=cy dt (bp a);have v:st.cY.length<=mg:=by{simp only[dt,eu,D.sz,aj]at s;omega};have f:=Wn (l:=l) (now:=now) (i:=i) (r:=r) (u:=u) (z:=z) (ss:=ss) (st:=st) a y j e (by omega) v;have w:=pI l st now;obtain⟨c,d,o,k⟩:=q (i+1) (n+1) (pC l st now) (fg (pC l st now)) (by omega) (by omega) (CC l st e) (by omega);refine⟨c,d,(bE ?_).trans o,by rw[k,g,Dx]⟩;simp only[go_sem,bn,LH,aj,b,W5,f,t]
theorem JQ(l:M aE):∀(b:M eb) (n:Nat) (a:M (M Int)),Ii n a->Ii (n+b.length) (Dx l b a)
 |[],n,a,h=>h
 |st::b,n,a,h=>by have c:=JQ l b (n+1) (pC l st a) (CC l st h);rw[Dx,aN,show n+(b.length+1)=n+1+b.length by omega];exact c
def JS(l:M aE)(at_:M Int)(p:fC):Ii (at_.length+p.steps.length) (uF l at_ p):=by unfold uF;split;{refine JQ l p.steps at_.length _ λq a=>?_;rw[bO]at a;rw[a];split;{exact bK _};rw[bo];omega};intro q a;cases a
def anT{l:M aE}{at_:M Int}{p:fC}(A:bQ bl l<=mg)(B:at_.length+eu (bU p)<=mg):G 453 ([aB l,bH at_]++bU p)=Z (0,[fg (uF l at_ p)]):=by have f:=aet (p:=p) (by omega);rw[bU]at f;rw[jV]at B;(have D:p.steps.length<=bQ dt p.steps:=by simp only[bQ];omega);unfold uF;cases j:gz p;{rw[j]at f;rw[if_neg (by simp)];refine ch Pj rfl ?_;simp only[go_sem,Pj,bU,f,W5]};rw[j]at f;have F:=tg j;obtain⟨u,v⟩:∃u:Nat,p.kj=(u:Int):=⟨p.kj.toNat,by omega⟩;(have i:p.kj.toNat=u:=by omega);rw[i];by_cases k:(at_.length:Int)<p.kj;{rw[if_neg (λh=>by omega)];refine ch Pj rfl ?_;simp only[go_sem,Pj,bU,f,k,W5,aj]};rw[if_pos ⟨rfl,by omega⟩];(have n:IntKind.i64.wrap ((at_.length:Int) - p.kj)=((at_.length - u:Nat):Int):=by rw[v,wrap_i64 (by simp only[mg]at *;omega)];omega);have o:=D8 (l:=at_) (b:=at_.length - u) (by omega);have s:aS (.app 1 8) [bH [],bH (at_.take (at_.length - u))]=Z (bH (at_.take (at_.length - u))):=Yp (a:=[]) (by simp only[bo,aK,mg]at *;omega);have x:∀q,mW l [q]<=mg+1:=λq=>by{have:=pZ l q;rw[mW,mW];omega};have go:=λq (w:q.length<=at_.length) c=>Wo (l:=l) (r:=.bool p.root) (u:=E p.kj) (ss:=p.steps) A (by omega) p.steps.length 0 at_.length [q] c (by omega) (x q) (λy m=>by rw[bO]at m;rw[m];exact w) (by omega);cases d:p.root;{obtain⟨C,t,g,e⟩:=go (at_.take (at_.length - u)) (by rw[bo];omega) (fg [at_.take (at_.length - u)]);rw[cj]at e;rw[n0,d]at g;rw[d]at f;rw[if_neg (by simp),<- e];refine ch Pj rfl ?_;simp only[go_sem,Pj,bU,f,k,aj,n,o,s,ve,W6,d,g]};obtain⟨C,t,g,e⟩:=go [] (bK _) (fg [[]]);rw[cj]at e;rw[n0,d]at g;rw[d]at f;rw[if_pos rfl,<- e];refine ch Pj rfl ?_;simp only[go_sem,Pj,bU,f,k,aj,n,o,s,ve,W6,d,g]
def HY{a b:M z}(h:a.length+b.length<=2147483648):aS (.app 1 16) [aJ a,aJ b]=Z (aJ (a++b)):=by rw[dQ 1 16 I _ _ (by decide) (by simpa using h),aJ,cC]
def se(x:z):aS (.lD 1 I) [.str x]=Z (aJ [x]):=by simp[aS,chunk,db,D.plain,gk,aJ]
theorem nH:aS (.lD 1 I) []=Z (aJ []):=(rfl)
theorem anU{l:M aE}{at_:M Int}{p:fC}(m:bQ bl l<=mg)(v:at_.length+eu (bU p)<=mg):G 455 ([aB l,bH at_]++bU p)=Z (0,[aJ (qR l at_ p)]):=by have n:=anT m v;have A:=JS l at_ p;have r:=xp l at_ p;have s:=nG l (uF l at_ p);(have B:p.steps.length<=eu (bU p):=by rw[jV];simp only[bQ];omega);have q:qR l at_ p=(uF l at_ p).filterMap λpl=>(iW l pl).map aE.bu:=rfl;rw[q];simp only[bU,ax,av]at n;generalize uF l at_ p=c at *;have h:=cO (b:=lB G F7) c (λk (t:M z)=>(0,[aB l,fg c,E (k:Int),aJ t])) (λk=>(c.take k).filterMap λpl=>(iW l pl).map aE.bu) (0,[aB l,fg c,E c.length,.bool J,aJ (c.filterMap λpl=>(iW l pl).map aE.bu)]) (by intro k pl f;have i:=bj f;have j:IntKind.i64.wrap ((k:Int)+1)=((k+1:Nat):Int):=wi1 i (by simp only[mg]at *;omega);have o:=zW f;have C:=A pl (bp f);have d:=arv (l:=l) (at_:=pl) m (by omega);have w:=uL (λpl=>(iW l pl).map aE.bu) (c.take k);(have g:(c.take k).length=k:=by rw[bo];omega);rw[g]at w;rw[cd _ _ _ f,List.filterMap_append];generalize (c.take k).filterMap (λpl=>(iW l pl).map aE.bu)=t at *;cases e:iW l pl with|none=>{rw[e]at d;simp only[ndR]at d;(have:zq (λpl=>(iW l pl).map aE.bu) [pl]=[]:=by simp[e]);rw[this,aH];simp only[go_sem,bn,F7,aj,i,o,d,j]}|some x=>rw[e]at d;simp only[ndR,aR,ax,av]at d;(have:zq (λpl=>(iW l pl).map aE.bu) [pl]=[x.bu]:=by simp[e]);rw[this];have y:=HY (a:=t) (b:=[x.bu]) (by simp only[mg,aQ]at *;omega);simp only[go_sem,bn,F7,aj,i,o,d,j,se,y]) (by simp only[go_sem,bn,F7,aj,aG,bq]) c.length 0 (by omega);rw[bB,List.filterMap_nil,n0]at h;refine ch aov rfl ?_;simp only[go_sem,aov,bU,nH,n,h]
def ze{s:z}{r:Int}(h:sh s=Z r):-1000000000<=r/\r<=1000000000:=by unfold sh at h;split at h;{cases h};rename_i n b;have:=ti b;by_cases a:oC (if xJ s=I then -n else n)=s;{rw[if_pos a]at h;have c:=fQ h;split at c<;>omega};rw[if_neg a]at h;cases h
theorem aiH{s:z}(k:s.size<=mg):G 399 [.str s]=Z (0,eN (sh s)):=by have h:=abt (s:=tl s) (by rw[Ee];omega);have g:=abt k;unfold sh;refine ch Pg rfl ?_;by_cases c:s.size=0;{(have i:xJ s=J:=by simp[xJ,c]);(have hd:AK s=O:=by simp[AK,c]);rw[i,if_neg (by simp),hd];rw[hd]at g;simp only[go_sem,Pg,gt0,c,g,eN]};(have a:0<s.size:=by omega);by_cases d:bY s 0=45;{(have i:xJ s=I:=by simp[xJ,d,a]);rw[i,if_pos rfl];simp only[if_true];cases e:AK (tl s) with|none=>{rw[e]at h;have j:IntKind.i64.wrap (-0)=0:=rfl;simp only[go_sem,Pg,gt0,c,ji a,d,uE s a,h,eN,Int.neg_zero]}|some n=>rw[e]at h;have l:=ti e;have j:IntKind.i64.wrap (-n)=-n:=wrap_i64 (by omega);have f:=abu (n:=-n) (by omega);by_cases b:oC (-n)=s;{dsimp only;rw[if_pos b];rw[b]at f;simp only[go_sem,Pg,gt0,c,ji a,d,uE s a,h,eN,j,f]};dsimp only;rw[if_neg b];simp only[go_sem,Pg,gt0,c,ji a,d,uE s a,h,eN,j,f,b]};(have i:xJ s=J:=by simp[xJ,d]);rw[i,if_neg (by simp)];simp only[aL,if_false];cases e:AK s with|none=>{rw[e]at g;simp only[go_sem,Pg,gt0,c,ji a,d,g,eN]}|some n=>rw[e]at g;have l:=ti e;have f:=abu (n:=n) (by omega);by_cases b:oC n=s;{dsimp only;rw[if_pos b];rw[b]at f;simp only[go_sem,Pg,gt0,c,ji a,d,g,eN,f]};dsimp only;rw[if_neg b];simp only[go_sem,Pg,gt0,c,ji a,d,g,eN,f,b]
def tx0(s:z):Z' (s=⟨#[]⟩)=Z' (s.size=0):=dC s
def g0n(n:Nat):Z' (0<(n:Int))=!Z' (n=0):=gt0 n
def aeC(w:iR):G 456 (cq w)=Z (0,[.bool (fJ w)]):=by unfold fJ;refine ch Xy rfl ?_;by_cases d:w.aA=1;{simp only[go_sem,Xy,cq,d]};by_cases c:w.aA=2;{simp only[go_sem,Xy,cq,c,tx0]};by_cases b:w.aA=3;{simp only[go_sem,Xy,cq,b]};by_cases a:w.aA=4;{simp only[go_sem,Xy,cq,a,aj,g0n];cases w.list<;>rfl};simp only[go_sem,Xy,cq,d,c,b,a]
def arw(b:Bool):G 457 [.bool b]=Z (0,cq (PC b)):=by refine ch aow rfl ?_;simp only[go_sem,aow,cq,PC];rfl
def aiL{w:iR}(j:-1000000000<=w.num/\w.num<=1000000000)(l:w.list.length<=mg):G 458 (cq w)=Z (0,[aJ (fY w)]):=by have f:=abu j;have k:aS (.app 1 16) [aJ [],aJ w.list]=Z (aJ w.list):=HY (a:=[]) (by simp only[mg,aK]at *;omega);unfold fY;refine ch RQ rfl ?_;by_cases i:w.aA=1;{simp only[go_sem,RQ,cq,i,f,se]};by_cases h:w.aA=2;{simp only[go_sem,RQ,cq,h,se]};by_cases b:w.aA=3;{have d:=se kD;have e:=se iz;unfold kD at d;unfold iz at e;cases c:w.yes;{simp only[go_sem,RQ,cq,b,c,e,kD,iz]};simp only[go_sem,RQ,cq,b,c,d,kD,iz]};by_cases g:w.aA=4;{simp only[go_sem,RQ,cq,g,nH,k]};simp only[go_sem,RQ,cq,i,h,b,g,nH]
theorem anV{w:iR}(j:-1000000000<=w.num/\w.num<=1000000000)(k:w.list.length<=mg)(g:∀a∈fY w,a.size<=mg):G 459 (cq w)=Z (0,eN (rR w)):=by have f:=aiL j k;unfold rR;simp only[cq]at f;refine ch ae4 rfl ?_;cases h:fY w with|nil=>{rw[h]at f;simp only[go_sem,ae4,cq,f,eN,cA,aK,n0]}|cons a b=>rw[h]at f g;have d:=aiH (g a (by simp));(have e:¬((b.length+1:Nat):Int)=0:=by omega);have i:aS (.el 1) [aJ (a::b),E 0]=Z (.list 0 J [[.str a]]):=rfl;cases c:sh a with|none=>{rw[c]at d;simp only[go_sem,ae4,cq,f,e,i,d,eN,aj,c]}|some n=>rw[c]at d;simp only[go_sem,ae4,cq,f,e,i,d,eN,aj,c]
theorem arx{op:Int}{a b:z}(n:a.size<=mg)(m:b.size<=mg):G 460 [E op,.str a,.str b]=Z (0,[.bool (ny op a b)]):=by have d:=aiH n;have c:=aiH m;unfold ny;refine ch Hx rfl ?_;by_cases g:op=8;{simp only[go_sem,Hx,g]};by_cases f:op=9;{simp only[go_sem,Hx,f]};cases j:sh a with|none=>{rw[j]at d;cases e:sh b with|none=>{rw[e]at c;simp only[go_sem,Hx,g,f,d,c,eN]}|some y=>rw[e]at c;simp only[go_sem,Hx,g,f,d,c,eN]}|some x=>rw[j]at d;cases e:sh b with|none=>{rw[e]at c;simp only[go_sem,Hx,g,f,d,c,eN]}|some y=>rw[e]at c;unfold YU;by_cases i:op=10;{simp only[go_sem,Hx,d,c,eN,i]};by_cases l:op=11;{simp only[go_sem,Hx,d,c,eN,l]};by_cases h:op=12;{simp only[go_sem,Hx,d,c,eN,h]};by_cases k:op=13;{simp only[go_sem,Hx,d,c,eN,k]};simp only[go_sem,Hx,g,f,d,c,eN,i,l,h,k]
def aeD{at_:M Int}(e:at_.length<=mg)(k:Int):G 468 [bH at_,E k]=Z (0,[bH (at_++[k])]):=by have d:aS (.app 1 8) [bH [],bH at_]=Z (bH at_):=Yp (a:=[]) (by simp only[mg,aK]at *;omega);have c:=Yp (a:=at_) (b:=[k]) (by simp only[mg,aQ]at *;omega);refine ch aoA rfl ?_;simp only[go_sem,aoA,ve,ad0,d,c]
def WK(w:iR):Prop:=(-1000000000<=w.num/\w.num<=1000000000)/\w.list.length<=mg/\∀a∈fY w,a.size<=mg
def r00:-1000000000<=(0:Int)/\(0:Int)<=1000000000:=by decide
def Vi{n:Int}(h:-1000000000<=n/\n<=1000000000):(oC n).size<=20:=by have hd:=DO 10 n.natAbs (by simp only[eh,Nat.reducePow];omega);have hd2:=DO 10 n.toNat (by simp only[eh,Nat.reducePow];omega);unfold oC;rw[pg];unfold Lib.itoa;split;{simp only[aN];omega};omega
def P8{n:Int}(h:-1000000000<=n/\n<=1000000000):WK (GL n):=by refine⟨h,bK _,λa b=>?_⟩;have e:fY (GL n)=[oC n]:=rfl;rw[e,bO]at b;rw[b];have:=Vi h;simp only[mg];omega
def J5(b:Bool):WK (PC b):=by refine⟨r00,bK _,λa c=>?_⟩;have e:fY (PC b)=[if b=I then kD else iz]:=rfl;rw[e,bO]at c;rw[c];cases b<;>decide
def afh:WK X3:=by refine⟨r00,bK _,λa b=>?_⟩;have e:fY X3=[⟨#[]⟩]:=rfl;rw[e,bO]at b;rw[b];decide
def agf(op:Int)(a b:iR):WK (Rz op a b):=by unfold Rz;split;{rename_i x y _ _;generalize (if op=15 then x - y else x+y)=c;split;{rename_i h;exact P8 ((ej _ _ _).1 h)};exact afh};exact afh
theorem OI:∀(at_:M Int) (l:M aE) (x:aE),iW l at_=Z x->eu (bl x)<bQ bl l
 |[],l,x,h=>by cases h
 |i::is,l,x,h=>by rw[iW]at h;cases a:lY l i with|none=>{rw[a]at h;cases h}|some y=>rw[a]at h;dsimp only at h;have b:eu (bl y)<bQ bl l:=by{unfold lY at a;split at a;{exact cy bl (bp a)};cases a};by_cases c:is.isEmpty=I;{rw[if_pos c]at h;cases h;exact b};rw[if_neg c]at h;have d:=OI is y.ai x h;rw[eF]at b;omega
def agi{t:M aE}{at_:M Int}{p:fC}(g:bQ bl t+1<=mg):WK ⟨4,0,⟨#[]⟩,J,qR t at_ p⟩:=by have h:=AZ t at_ p;refine⟨r00,by dsimp only;omega,λa b=>?_⟩;have e:fY ⟨4,0,⟨#[]⟩,J,qR t at_ p⟩=qR t at_ p:=rfl;rw[e]at b;obtain⟨pl,_,f⟩:=List.mem_filterMap.1 b;obtain⟨x,d,rfl⟩:=ay.1 f;have c:=OI pl t x d;rw[eF]at c;omega
def agh{s:z}(h:s.size<=mg):WK ⟨2,0,s,J,[]⟩:=by refine⟨r00,bK _,λa b=>?_⟩;have e:fY ⟨2,0,s,J,[]⟩=[s]:=rfl;rw[e,bO]at b;rw[b];exact h
def J4{w:iR}(h:WK w):(fY w).length<=mg:=by unfold fY;split;{exact (by decide:1<=mg)};split;{exact (by decide:1<=mg)};split;{exact (by decide:1<=mg)};split;{exact h.2.1};exact bK _
abbrev wT(b:Bool):M D:=[.int .i64 3,.int .i64 0,.str ⟨#[]⟩,.bool b,.list 1 I []]
def G7(b:Bool):G 457 [.bool b]=Z (0,wT b):=arw b
def wO{l:M z}{i:Nat}{y:z}(h:nth l i=Z y):aS (.el 1) [aJ l,E (i:Int)]=Z (.list 0 J [[.str y]]):=by rw[kB,aY,h];rfl
section
variable {X Y:M z} {op:Int} {a1 a2 a3 a4 a5 a6 a7 a8 a9 aa:D}
theorem Wp{i:Nat}{x:z}(m:nth X i=Z x)(o:Y.length<=mg)(p:x.size<=mg)(a:∀y∈Y,y.size<=mg) :
  bJ (lB G yH) (0,[aJ X,aJ Y,E (i:Int),E 0,E op,a1,a2,a3,a4,a5,a6,a7,a8,a9,aa])=Z (if (Y.any (ny op x))=I then (0,wT I) else (1,[aJ X,aJ Y,E (i:Int),E Y.length,.bool J,E op,a1,a2,a3,a4,a5,a6,a7,a8,a9,aa])):=by have h:=q9 (b:=lB G yH) Y (λk=>(0,[aJ X,aJ Y,E (i:Int),E (k:Int),E op,a1,a2,a3,a4,a5,a6,a7,a8,a9,aa])) (ny op x) (1,[aJ X,aJ Y,E (i:Int),E Y.length,.bool J,E op,a1,a2,a3,a4,a5,a6,a7,a8,a9,aa]) (0,wT I) (by intro k y c;have d:=bj c;have n:=wj d o;have l:=wO m;have j:=wO c;have f:=arx (op:=op) p (a y (bp c));have g:=G7 I;cases e:ny op x y;{rw[e]at f;simp only[go_sem,bn,yH,aj,d,l,j,f,n]};rw[e]at f;simp only[go_sem,bn,yH,aj,d,l,j,f,g]) (by simp only[go_sem,bn,yH,aj,aG]);rw[n0]at h;exact h
theorem Wq(j:X.length<=mg)(i:Y.length<=mg)(l:∀x∈X,x.size<=mg)(a:∀y∈Y,y.size<=mg) :
  bJ (lB G B7) (0,[aJ X,aJ Y,E 0,E op,a1,a2,a3,a4,a5,a6,a7,a8,a9,aa])=Z (if (X.any λx=>Y.any (ny op x))=I then (0,wT I) else (1,[aJ X,aJ Y,E X.length,.bool J,E op,a1,a2,a3,a4,a5,a6,a7,a8,a9,aa])):=by have h:=q9 (b:=lB G B7) X (λk=>(0,[aJ X,aJ Y,E (k:Int),E op,a1,a2,a3,a4,a5,a6,a7,a8,a9,aa])) (λx=>Y.any (ny op x)) (1,[aJ X,aJ Y,E X.length,.bool J,E op,a1,a2,a3,a4,a5,a6,a7,a8,a9,aa]) (0,wT I) (by intro k x c;have d:=bj c;have g:=wj d j;have f:=Wp (op:=op) (a1:=a1) (a2:=a2) (a3:=a3) (a4:=a4) (a5:=a5) (a6:=a6) (a7:=a7) (a8:=a8) (a9:=a9) (aa:=aa) c i (l x (bp c)) a;cases e:Y.any (ny op x);{rw[e,if_neg (by simp)]at f;simp only[go_sem,bn,B7,aj,d,f,g]};rw[e,if_pos rfl]at f;simp only[go_sem,bn,B7,aj,d,f]) (by simp only[go_sem,bn,B7,aj,aG]);rw[n0]at h;exact h
end
theorem xM(b:Bool):aS .pl [.bool b]=Z (.bool J):=(rfl)
theorem afV(l:M z):aS .xK [aJ l]=Z (.bool J):=(rfl)
theorem xZ(n:Int)(b:Bool):aS .pl [E n,.bool b]=Z (.bool J):=(rfl)
def Mx(t:M aE)(at_:M Int)(a:cu):vlL t at_ [a]=[Ef t at_ a]:=by rw[vlL,vlL];rfl
def Ux(t:M aE)(at_:M Int)(a b:cu):vlL t at_ [a,b]=[Ef t at_ a,Ef t at_ b]:=by rw[vlL,Mx];rfl
def Mz{e:cu}(h:ot e=I):(1<=e.op/\e.op<=15)/\e.ai.length=nU e.op/\pS e=I/\∀x∈e.ai,ot x=I:=by unfold ot at h;rw[A5]at h;unfold gJ at h;simp only[aw,decide_eq_true_eq]at h;exact⟨(ej _ _ _).1 h.1.1,h.1.2.1,h.1.2.2.2.2.2,λx a=>bG.1 h.2 x a⟩
def afi{t:M aE}{at_:M Int}(l:bQ bl t+1<=1000000000)(d:bQ bl t+1<=mg){e:cu}(h:ot e=I):WK (Ef t at_ e):=by obtain⟨o,n,b,m⟩:=Mz h;unfold Ef vlO;unfold pS at b;by_cases j:e.op=1;{rw[if_pos j]at b ⊢;have:=(ej _ _ _).1 b;exact P8 (by omega)};rw[if_neg j]at b ⊢;by_cases i:e.op=2;{rw[if_pos i]at b ⊢;refine agh ?_;unfold ja at b;simp only[aw,decide_eq_true_eq]at b;simp only[mg];omega};rw[if_neg i]at ⊢;by_cases g:e.op=3;{rw[if_pos g];exact agi d};rw[if_neg g];by_cases f:e.op=4;{rw[if_pos f];have a1:=xp t at_ e.path;have a2:=nG t (uF t at_ e.path);exact P8 (by omega)};rw[if_neg f];have c:WK aa7:=⟨r00,bK _,λa k=>by have e:fY aa7=[]:=rfl;rw[e]at k;cases k⟩;split;{exact c};split;{exact J5 _};split;{exact c};split;{exact J5 _};split;{exact J5 _};split;{exact agf _ _ _};exact J5 _
theorem aiM(g:Nat){t:M aE}{at_:M Int}(ht:bQ bl t+1<=mg):∀e:cu,aF e<g->ot e=I->at_.length+eu (bW e)<=mg->G 461 ([aB t,bH at_]++bW e)=Z (0,cq (Ef t at_ e)):=by induction g with|zero=>{intro e h;omega}|succ g ih=>intro e hz du hs;obtain⟨h1,h2,h3,h4⟩:=Mz du;have lW:=jE e;(have hb:bQ bl t+1<=1000000000:=by simp only[mg]at ht;omega);unfold Ef vlO;refine ch qO (by rw[aT];rfl) ?_;by_cases V:e.op=1;{simp only[go_sem,qO,aT,V,cq,GL];rfl};by_cases U:e.op=2;{simp only[go_sem,qO,aT,U,cq];rfl};by_cases T:e.op=3;{have f:=anU (l:=t) (at_:=at_) (p:=e.path) (by omega) (by omega);simp only[bU,ax,av]at f;simp only[go_sem,qO,aT,T,cq,f]};by_cases S:e.op=4;{have f:=anT (l:=t) (at_:=at_) (p:=e.path) (by omega) (by omega);simp only[bU,ax,av]at f;simp only[go_sem,qO,aT,S,cq,f,GL,aj];rfl};have uT:∀a∈e.ai,G 461 ([aB t,bH at_]++bW a)=Z (0,cq (Ef t at_ a))/\WK (Ef t at_ a):=λa i=> ⟨ih a (by have:=cu.uc i;omega) (h4 a i) (by have:=pY i;omega),afi hb ht (h4 a i)⟩;by_cases P:e.op=5;{(have Y:e.ai.length=1:=by rw[h2,P];rfl);obtain⟨a,i⟩:=dm.1 Y;rw[i]at uT;obtain⟨n,H⟩:=uT a (by simp);rw[i,Mx];generalize Ef t at_ a=w at *;have m:=aeC w;have B:=G7 (!fJ w);simp only[aT a,cq,ax,av]at n m;have r:aS (.el 7) [cG [a],E 0]=Z (.list 0 J [bW a]):=rfl;have s:=jT a;have D:=xM (fJ w);simp only[go_sem,qO,aT,i,P,r,n,m,B,D];rfl};(have Y:e.ai.length=2:=by rw[h2];unfold nU;rw[if_neg (by omega),if_neg P]);obtain⟨a,b,i⟩:∃a b,e.ai=[a,b]:=by{generalize e.ai=l at Y;rcases l with _|⟨a,_|⟨b,_|⟨c,l⟩⟩⟩<;>simp at Y;exact⟨a,b,rfl⟩};rw[i]at uT;obtain⟨n,H⟩:=uT a (by simp);obtain⟨m,N⟩:=uT b (by simp);rw[i,Ux];generalize Ef t at_ a=v at *;generalize Ef t at_ b=w at *;have B:=aeC v;have f4:=aeC w;simp only[aT a,cq,ax,av]at n;simp only[aT b,cq,ax,av]at m;simp only[cq]at B f4;have r:aS (.el 7) [cG [a,b],E 0]=Z (.list 0 J [bW a]):=rfl;have s:aS (.el 7) [cG [a,b],E 1]=Z (.list 0 J [bW b]):=rfl;have D:=xM (fJ v);have e4:=xM (fJ w);by_cases Q:e.op=7;{have k:=G7 (fJ w);have j:=G7 J;cases A:fJ v;{rw[A]at B D;simp only[go_sem,qO,aT,i,Q,r,s,n,m,B,j,D];rw[A];rfl};rw[A]at B D;simp only[go_sem,qO,aT,i,Q,r,s,n,m,B,f4,k,D,e4];rw[A];rfl};by_cases R:e.op=6;{have k:=G7 (fJ w);have j:=G7 I;cases A:fJ v;{rw[A]at B D;simp only[go_sem,qO,aT,i,R,r,s,n,m,B,f4,k,D,e4];rw[A];rfl};rw[A]at B D;simp only[go_sem,qO,aT,i,R,r,s,n,m,B,j,D];rw[A];rfl};by_cases L:e.op=14\/e.op=15;{have k:=anV H.1 H.2.1 H.2.2;have j:=anV N.1 N.2.1 N.2.2;simp only[cq]at k j;have hA:∀x y:Int,-1000000000<=x/\x<=1000000000->-1000000000<=y/\y<=1000000000->IntKind.i64.wrap (x+y)=x+y/\IntKind.i64.wrap (x - y)=x - y:=λx y C K=>⟨wrap_i64 (by omega),wrap_i64 (by omega)⟩;have hF:∀d x,rR d=Z x->-1000000000<=x/\x<=1000000000:=by{intro d x C;unfold rR at C;split at C;{cases C};exact ze C};rw[if_neg V,if_neg U,if_neg T,if_neg S];dsimp only;rw[if_neg P,if_neg Q,if_neg R,if_pos L];unfold Rz;cases C:rR v with|none=>{rw[C]at k;cases K:rR w with|none=>{rw[K]at j;obtain⟨a1,a2⟩:=hA 0 0 r00 r00;rcases L with o|o;{simp only[go_sem,qO,aT,i,o,r,s,n,m,k,j,eN,xZ];rfl};simp only[go_sem,qO,aT,i,o,r,s,n,m,k,j,eN,xZ];rfl}|some y=>rw[K]at j;obtain⟨a1,a2⟩:=hA 0 y r00 (hF w y K);rcases L with o|o;{simp only[go_sem,qO,aT,i,o,r,s,n,m,k,j,eN,xZ,a1];rfl};simp only[go_sem,qO,aT,i,o,r,s,n,m,k,j,eN,xZ,a1,a2];rfl}|some x=>rw[C]at k;cases K:rR w with|none=>{rw[K]at j;obtain⟨a1,a2⟩:=hA x 0 (hF v x C) r00;rcases L with o|o;{simp only[go_sem,qO,aT,i,o,r,s,n,m,k,j,eN,xZ,a1];rfl};simp only[go_sem,qO,aT,i,o,r,s,n,m,k,j,eN,xZ,a1,a2];rfl}|some y=>rw[K]at j;obtain⟨a1,a2⟩:=hA x y (hF v x C) (hF w y K);rcases L with o|o;{(have F:¬(14:Int)=15:=by decide);have q:=zA (x+y) (-1000000000) 1000000000;rw[o];dsimp only;rw[if_neg F];cases X:eB (-1000000000) 1000000000 (x+y);{rw[X]at q;rw[if_neg (by simp)];simp only[go_sem,qO,aT,i,o,r,s,n,m,k,j,eN,xZ,a1,q];rfl};rw[X]at q;rw[if_pos rfl];simp only[go_sem,qO,aT,i,o,r,s,n,m,k,j,eN,xZ,a1,q];rfl};have q:=zA (x - y) (-1000000000) 1000000000;rw[o];dsimp only;rw[if_pos rfl];cases X:eB (-1000000000) 1000000000 (x - y);{rw[X]at q;rw[if_neg (by simp)];simp only[go_sem,qO,aT,i,o,r,s,n,m,k,j,eN,xZ,a1,a2,q];rfl};rw[X]at q;rw[if_pos rfl];simp only[go_sem,qO,aT,i,o,r,s,n,m,k,j,eN,xZ,a1,a2,q];rfl};have W:¬e.op=14:=λh=>L (.inl h);have F:¬e.op=15:=λh=>L (.inr h);have k:=aiL H.1 H.2.1;have j:=aiL N.1 N.2.1;have f7:=G7 J;simp only[cq]at k j;have g1:=afV (fY v);have g2:=afV (fY w);have hX:(fY v).length<=mg:=J4 H;have hY:(fY w).length<=mg:=J4 N;have lp:=Wq (op:=e.op) (a1:=E e.num) (a2:=.str e.text) (a3:=.bool e.path.root) (a4:=E e.path.kj) (a5:=bP e.path.steps) (a6:=cG [a,b]) (a7:=E 0) (a8:=E 0) (a9:=.str ⟨#[]⟩) (aa:=.bool J) hX hY H.2.2 N.2.2;rw[if_neg V,if_neg U,if_neg T,if_neg S];dsimp only;rw[if_neg P,if_neg Q,if_neg R,if_neg L];cases A:(fY v).any λx=>(fY w).any (ny e.op x);{rw[A,if_neg (by simp)]at lp;simp only[go_sem,qO,aT,i,V,U,T,S,P,Q,R,W,F,r,s,n,m,k,j,f7,g1,g2,lp];rfl};rw[A,if_pos rfl]at lp;simp only[go_sem,qO,aT,i,V,U,T,S,P,Q,R,W,F,r,s,n,m,k,j,g1,g2,lp];rfl
def ary{t:M aE}{at_:M Int}(a:bQ bl t+1<=mg){e:cu}(c:ot e=I)(b:at_.length+eu (bW e)<=mg):G 461 ([aB t,bH at_]++bW e)=Z (0,cq (Ef t at_ e)):=aiM _ a e (aW _) c b
def arz{t:M aE}{at_:M Int}(d:bQ bl t+1<=mg){e:cu}(f:at_.length+eu (bW e)<=mg):G 462 ([aB t,bH at_]++bW e)=Z (0,cq (vlX t at_ e)):=by have b:=anj (e:=e) (by omega);unfold vlX;refine ch ajg (by rw[aT];rfl) ?_;rw[aT]at b;cases a:l8 e;{rw[a]at b;simp only[go_sem,ajg,aT,b];rfl};have g:ot e=I:=by{unfold l8 at a;simp only[aw]at a;exact a.2};have c:=ary d g f;rw[a]at b;rw[if_pos rfl];generalize Ef t at_ e=w at *;simp only[aT,cq,ax,av]at c;simp only[go_sem,ajg,aT,b,c,cq]
def arA{t:M aE}{at_:M Int}(c:bQ bl t+1<=mg){e:cu}(d:at_.length+eu (bW e)<=mg):G 463 ([aB t,bH at_]++bW e)=Z (0,[.bool (pX t at_ e)]):=by have b:=arz c d;have a:=aeC (vlX t at_ e);have f:=xM (fJ (vlX t at_ e));unfold pX;generalize vlX t at_ e=w at *;simp only[aT,cq,ax,av]at b a;refine ch aox (by rw[aT];rfl) ?_;simp only[go_sem,aox,aT,b,a,f]
def named(l:M aE)(a:z):M aE:=l.filter λx=>Z' (x.au=a)
def uQ(s:M aq)(a:z):Bool:=match ey s a with
 |none=>J
 |some k=>match nth s k with
  |none=>J
  |some n=>j6 n.aA && n.when.isEmpty
def rQ(r:M aq->M aE->M aE)(d:aq)(x:aE):aE:=⟨x.au,x.bu,if d.ai.isEmpty=I then [] else r d.ai x.ai⟩
def Dj(r:M aq->M aE->M aE)(fr:Bool)(d:aq):M aE:=
 if d.aA=3/\d.given=I then [⟨d.au,d.default,[]⟩] else if d.aA=1/\d.dq=J/\fr=I then (if (r d.ai []).isEmpty=I then [] else [⟨d.au,⟨#[]⟩,r d.ai []⟩]) else []
def pU(r:M aq->M aE->M aE)(s:M aq)(l:M aE)(d:aq):M aE:=
 if (named l d.au).isEmpty=I then Dj r (uQ s d.au) d else (named l d.au).map (rQ r d)
def kl:Nat->M aq->M aE->M aE
 |0,_,_=>[]
 |n+1,s,l=>(dk s).flatMap (pU (kl n) s l)
noncomputable def oS(s:M aq)(l:M aE):M aE:=kl (aF s+1) s l
structure cM where
 code:Int
 names:List ByteArray
 place:List Int
def pR(x:cM):M D:=[.int .i64 x.code,aJ x.names,bH x.place]
def fj(t:M aE)(es:M cu)(at_:M Int):Bool:=es.all (pX t at_)
def Q9(x:aE)(l:M aE)(a:z):named (x::l) a=if x.au=a then x::named l a else named l a:=by unfold named;rw[kN];by_cases h:x.au=a<;>simp[h]
theorem Ck{f:M aE->Nat}(n:f []=0)(m:∀x l,f (x::l)=f [x]+f l):∀(l:M aE) (a:M aq),(a.map aq.au).Nodup->(a.map λd=>f (named l d.au)).sum<=f l
 |[],a,h=>by rw[n];have:∀a:M aq,(a.map λd=>f (named [] d.au)).sum=0:=by{intro a;induction a with|nil=>{rfl}|cons d a c=>rw[bc,gB,c];show f []+0=0;rw[n]};rw[this];exact aI 0
 |x::l,a,h=>by have c:=Ck n m l a h;rw[m];have e:∀a:M aq,(a.map aq.au).Nodup->(a.map λd=>f (named (x::l) d.au)).sum<=(a.map λd=>f (named l d.au)).sum+if (a.any λd=>Z' (x.au=d.au))=I then f [x] else 0:=by{intro a;induction a with|nil=>{intro _;simp}|cons d a c=>intro k;rw[bc,cU]at k;have r:=c k.2;rw[bc,gB,bc,gB,Q9,hO];by_cases b:x.au=d.au;{rw[if_pos b,m];have j:¬(a.any λd=>Z' (x.au=d.au))=I:=by{intro p;obtain⟨y,o,i⟩:=fG.1 p;(have g:x.au=y.au:=by simpa using i);exact k.1 (by rw[<- b,g];exact dM o)};rw[if_neg j]at r;rw[if_pos (by simp[b])];omega};rw[if_neg b];(have:Z' (x.au=d.au)=J:=by simp[b]);rw[this,fV];omega};have q:=e a h;split at q<;>omega
def IA:Nat->M aq->Prop
 |0,_=>True
 |n+1,s=>((dk s).map aq.au).Nodup/\∀d∈dk s,IA n d.ai
theorem Pe{a:Type}{g:a->M aE}:∀l:M a,bQ bl (l.flatMap g)=(l.map λd=>bQ bl (g d)).sum
 |[]=>rfl
 |x::l=>by rw[eJ,kM,Pe l,bc,gB]
def lh(x:aE)(l:M aE):bz (x::l)=1+bz x.ai+bz l:=by rw[bz]
theorem YX:∀{l m:M aE},l.Sublist m->bz l<=bz m:=by intro l m h;induction h with|slnil=>{exact aI _}|cons a _ b=>{rw[lh];omega}|cons_cons a _ b=>rw[lh,lh];omega
def acf(r:M aq->M aE->M aE)(d:aq)(x:aE){a:Nat}(h:bQ bl (r d.ai x.ai)<=bQ bl x.ai+(bz x.ai+1) * a):eu (bl (rQ r d x))<=eu (bl x)+(bz x.ai+1) * a:=by rw[eF,eF];unfold rQ;dsimp only;split;{have:bQ bl []=0:=rfl;omega};omega
theorem NQ(r:M aq->M aE->M aE)(d:aq){a:Nat}:∀l:M aE,(∀x∈l,bQ bl (r d.ai x.ai)<=bQ bl x.ai+(bz x.ai+1) * a)->bQ bl (l.map (rQ r d))<=bQ bl l+bz l * a
 |[],h=>bK _
 |x::l,h=>by have f:=NQ r d l λy b=>h y (by simp[b]);have c:=acf r d x (h x (by simp));rw[bc,fX,fX,lh];(have e:(1+bz x.ai+bz l) * a=(bz x.ai+1) * a+bz l * a:=by rw[<- mq];congr 1;omega);omega
theorem RA{a:Type}{f g:a->Nat}:∀l:M a,(∀x∈l,f x<=g x)->(l.map f).sum<=(l.map g).sum
 |[],h=>aI _
 |x::l,h=>by have d:=RA l λy b=>h y (by simp[b]);have c:=h x (by simp);simp only[bc,gB];omega
theorem sum_add{a:Type}{f g:a->Nat}:∀l:M a,(l.map λx=>f x+g x).sum=(l.map f).sum+(l.map g).sum
 |[]=>rfl
 |x::l=>by simp only[bc,gB,sum_add l];omega
theorem rz{a:Type}{g:a->Nat}(k:Nat):∀l:M a,(l.map λx=>k * g x).sum=k * (l.map g).sum
 |[]=>by simp
 |x::l=>by simp only[bc,gB,rz k l,Nat.mul_add]
theorem Uu{a:Type}(f:a->M D):∀l:M a,bQ f l=(l.map λx=>eu (f x)+1).sum
 |[]=>rfl
 |x::l=>by rw[fX,bc,gB,Uu f l];omega
theorem DX:∀(n:Nat) (s:M aq) (l:M aE),IA n s->bQ bl (kl n s l)<=bQ bl l+(bz l+1) * bQ aC s
 |0,s,l,h=>bK _
 |n+1,s,l,h=>by have hd:∀d∈dk s,bQ bl (pU (kl n) s l d)<=bQ bl (named l d.au)+(bz l+1) * (eu (aC d)+1):=by{intro d hd;have o:=cp d;have a:=λc=>DX n d.ai c (h.2 d hd);unfold pU;split;{have m:eu (aC d)+1<=(bz l+1) * (eu (aC d)+1):=xv _ (by omega);unfold Dj;have j:=a [];have z0:bQ bl []=0:=rfl;(have k:bz []=0:=by rw[bz]);rw[z0,k]at j;split;{rw[fX,eF];dsimp only;omega};split;{split;{omega};rw[fX,eF];dsimp only;have p:nP ⟨#[]⟩=0:=rfl;omega};omega};have b:=NQ (kl n) d (named l d.au) λx _=>a x.ai;have i:bz (named l d.au)<=bz l:=YX A7;have e:bz (named l d.au) * bQ aC d.ai<=(bz l+1) * (eu (aC d)+1):=gD (by omega) (by omega);omega};rw[kl,Pe];have b:=RA (f:=λd=>bQ bl (pU (kl n) s l d)) (g:=λd=>bQ bl (named l d.au)+(bz l+1) * (eu (aC d)+1)) _ hd;rw[sum_add (f:=λd:aq=>bQ bl (named l d.au)) (g:=λd=>(bz l+1) * (eu (aC d)+1)),rz (g:=λd:aq=>eu (aC d)+1),<- Uu]at b;have i:=Ck (f:=bQ bl) rfl (λx l=>by rw[fX,fX];have:bQ bl []=0:=rfl;omega) l (dk s) h.1;have e:=Nat.mul_le_mul_left (bz l+1) (my (es:=s));omega
def po{l:M aq}{i:Nat}{y:aq}(h:nth l i=Z y):aS (.el 19) [aD l,E (i:Int)]=Z (.list 0 J [aC y]):=by rw[kB,aY,h];rfl
theorem arq{s:M aq}{nm:z}(g:bQ aC s<=mg):G 447 [aD s,.str nm]=Z (0,[.bool (uQ s nm)]):=by have f:=q82 (l:=s) (nm:=nm) (by simp only[bQ]at g;omega);unfold uQ;refine ch ae3 rfl ?_;cases b:ey s nm with|none=>{rw[b]at f;simp only[go_sem,ae3,f,lE]}|some k=>obtain⟨n,d,h⟩:=dy b;rw[b]at f;(have c:(0:Int)<=(k:Int):=by omega);have e:=po d;have a:=q75 n.aA;dsimp only;rw[d];dsimp only;cases hd:j6 n.aA;{rw[hd]at a;simp only[go_sem,ae3,f,lE,c,e,ak,a]};rw[hd]at a;simp only[go_sem,ae3,f,lE,c,e,ak,a,aj];cases n.when<;>rfl
abbrev bI(l:M cM):D:=.list 3 J (l.map pR)
def Xn{t:M aE}{out:M cM}{es:M cu}{at_:M Int}(l:bQ bl t+1<=mg)(m:at_.length+bQ bW es<=mg):G 464 [aB t,bI out,cG es,bH at_]=Z (0,[.bool (fj t es at_),aB t,bI out]):=by (have c:es.length<=mg:=by simp only[bQ]at m;omega);have h:=ig (b:=lB G F8) es (λi=>(0,[cG es,bH at_,E (i:Int),aB t,bI out])) (pX t at_) (1,[cG es,bH at_,E es.length,.bool J,aB t,bI out]) (0,[.bool J,aB t,bI out]) (by intro i e d;have g:=bj d;have k:=wj g c;have n:=cy bW (bp d);have f:=arA (at_:=at_) l (e:=e) (by omega);(have j:aS (.el 7) [cG es,E (i:Int)]=Z (.list 0 J [bW e]):=by rw[kB,aY,d];rfl);simp only[aT,ax,av]at f;cases a:pX t at_ e;{rw[a]at f;simp only[go_sem,bn,F8,aj,g,j,aT e,f]};rw[a]at f;simp only[go_sem,bn,F8,aj,g,j,aT e,f,k]) (by simp only[go_sem,bn,F8,aj,aG]);rw[n0]at h;unfold fj;refine ch ajh rfl ?_;cases a:es.all (pX t at_);{rw[a,if_neg (by simp)]at h;simp only[go_sem,ajh,h]};rw[a,if_pos rfl]at h;simp only[go_sem,ajh,h]
def Xo{T_:D}{out:M cM}{c:Int}{ns:M z}{at_:M Int}(h:out.length<=1073741824)(i:ns.length<=mg)(j:at_.length<=mg):G 465 [T_,bI out,E c,aJ ns,bH at_]=Z (0,[T_,bI (out++[⟨c,ns,at_⟩])]):=by have g:aS (.app 1 16) [aJ [],aJ ns]=Z (aJ ns):=HY (a:=[]) (by simp only[mg,aK]at *;omega);have f:aS (.app 1 8) [aJ [],bH at_]=Z (bH at_):=Yp (a:=[]) (by simp only[mg,aK]at *;omega);have e:aS .pl [E c]=Z (.bool J):=rfl;have d:aS (.lD 3 J) [E c,aJ ns,bH at_]=Z (.list 3 J [[E c,aJ ns,bH at_]]):=gW 3 _ rfl (by decide);have b:aS (.app 3 56) [bI out,.list 3 J [[E c,aJ ns,bH at_]]]=Z (bI (out++[⟨c,ns,at_⟩])):=by{rw[dQ 3 56 J _ _ (by decide) (by simp only[aj,aQ];omega)];simp[bI,pR]};refine ch aoy rfl ?_;simp only[go_sem,aoy,nH,g,f,e,d,b]
theorem Kk:∀{l:M aE} {x:aE},x∈l->1+bz x.ai<=bz l
 |y::l,x,h=>by rw[bz];rcases aU.1 h with rfl|h;{omega};have:=Kk h;omega
theorem afp{s:M aq}{d:aq}(h:d∈dk s):aF d.ai<aF s:=by have a:∀(m:Nat) (s:M aq),aF s<m->d∈dk s->aF d.ai<aF s:=by{intro m;induction m with|zero=>{intro s h;omega}|succ m b=>intro s c hd;cases s with|nil=>{rw[mR]at hd;cases hd}|cons e es=>have f:=aq.gu e es;rw[jQ]at hd;rcases aZ.1 hd with hd|hd;{unfold sL at hd;split at hd;{rw[bO.1 hd];exact f};split at hd;{have:=b e.ai (by omega) hd;omega};cases hd};have:=b es (by simp only[bM]at c;omega) hd;simp only[bM];omega};exact a _ s (aW _) h
def mk3(a b:z)(k:D):aS (.lD 3 J) [.str a,.str b,k]=Z (.list 3 J [[.str a,.str b,k]]):=gW 3 _ rfl (by decide)
def UO{t:M aE}(h:t.length<=1073741824)(a b:z)(c:M aE):aS (.app 3 56) [aB t,.list 3 J [[.str a,.str b,aB c]]]=Z (aB (t++[⟨a,b,c⟩])):=by rw[dQ 3 56 J _ _ (by decide) (by simp only[aj,aQ];omega)];simp[aB,aR]
def Yr{t:M aE}(h:t.length<=1073741824)(a b:z):aS (.app 3 56) [aB t,.list 3 J [[.str a,.str b,.list 3 J []]]]=Z (aB (t++[⟨a,b,[]⟩])):=UO h a b []
theorem T9(a b:z):aS .pl [.str a,.str b]=Z (.bool J):=(rfl)
theorem afY(a:z):aS .pl [.str a]=Z (.bool J):=(rfl)
theorem akL:Z' ((0:Int)<((0:Nat):Int))=J:=(rfl)
def GC{l:M aE}{k:Nat}{x:aE}(h:nth l k=Z x)(a:z):named (l.take (k+1)) a=named (l.take k) a++if x.au=a then [x] else []:=by unfold named;rw[cd _ _ _ h,k9];by_cases b:x.au=a<;>simp[b]
def Wk{s ks:M aq}{l N:M aE}{i:Nat}{d:aq}{z:D}{r:M aq->M aE->M aE}(hd:nth ks i=Z d)(F:l.length<=mg)(L:N.length<=mg)
  (C:d.ai≠[]->∀x∈l,x.au=d.au->G 448 [aD d.ai,aB x.ai]=Z (0,[aB (r d.ai x.ai)])) :
  bJ (lB G vW) (0,[aD s,aB l,aD ks,E (i:Int),.bool J,E 0,aB N,z])=Z (0,[aD s,aB l,aD ks,E (i:Int),.bool (!(named l d.au).isEmpty),E l.length,.bool J,aB (N++(named l d.au).map (rQ r d)),z]):=by have h:=cO (b:=lB G vW) l (λk (t:Bool×M aE)=>(0,[aD s,aB l,aD ks,E (i:Int),.bool t.1,E (k:Int),aB t.2,z])) (λk=>(!(named (l.take k) d.au).isEmpty,N++(named (l.take k) d.au).map (rQ r d))) (0,[aD s,aB l,aD ks,E (i:Int),.bool (!(named l d.au).isEmpty),E l.length,.bool J,aB (N++(named l d.au).map (rQ r d)),z]) (by intro k x n;have p:=bj n;have q:=wj p F;have A:=ij n;have y:=po hd;have P:(named (l.take k) d.au).length<=k:=by{have:=eW (λx:aE=>Z' (x.au=d.au)) (l.take k);rw[bo]at this;unfold named;omega};have c:=GC n d.au;dsimp only;by_cases a:x.au=d.au;{rw[if_pos a]at c;(have B:(named (l.take (k+1)) d.au).isEmpty=J:=by rw[c];simp);rw[B,c,cC,<- bh,List.map_singleton];(have e:(N++(named (l.take k) d.au).map (rQ r d)).length<=1073741824:=by simp only[az,aj,mg]at *;omega);generalize N++(named (l.take k) d.au).map (rQ r d)=t at *;unfold rQ;by_cases o:d.ai=[];{have m:=Yr e x.au x.bu;have j:=mk3 x.au x.bu (.list 3 J []);have g:=T9 x.au x.bu;rw[a]at m j g;rw[a,o,ei,if_pos rfl];simp only[go_sem,bn,vW,aj,p,A,y,aR x,ak d,a,o,q,akL,m,j,g]};have f:=C o x (bp n) a;(have w:d.ai.isEmpty=J:=by cases K:d.ai<;>simp_all);(have v:(0:Int)<(d.ai.length:Int):=by have:=kK.2 o;omega);have m:=UO e x.au x.bu (r d.ai x.ai);have j:=mk3 x.au x.bu (aB (r d.ai x.ai));have g:=T9 x.au x.bu;rw[a]at m j g;rw[a,w];simp only[go_sem,bn,vW,aj,p,A,y,aR x,ak d,a,v,f,q,m,j,g]};rw[if_neg a,aH]at c;rw[c];simp only[go_sem,bn,vW,aj,p,A,y,aR x,ak d,a,q]) (by simp only[go_sem,bn,vW,aj,aG,bq]) l.length 0 (by omega);rw[bB,n0]at h;have H:named [] d.au=[]:=rfl;rw[H,cA,aH]at h;exact h
def aco{l:M aq}(g:aq->M aE)(i:Nat):bQ bl ((l.take i).flatMap g)<=bQ bl (l.flatMap g):=by (have h:l.flatMap g=(l.take i).flatMap g++(l.drop i).flatMap g:=by rw[<- qA,ck]);rw[h,kM];omega
theorem aiK(a:Nat):∀(s:M aq) (l:M aE),aF s<a->IA a s->bQ aC s<=mg->bQ bl l+(bz l+1) * bQ aC s<=mg->G 448 [aD s,aB l]=Z (0,[aB (kl a s l)]):=by induction a with|zero=>{intro s l h;omega}|succ a X=>intro s l hz S B hl;have H:=q81 B;have K:=DX (a+1) s l S;rw[kl]at K ⊢;have QN:=my (es:=s);(have U:(dk s).length<=mg:=by simp only[bQ]at QN B;omega);(have V:l.length<=mg:=by simp only[bQ]at hl;omega);have T:∀d∈dk s,∀j,bQ bl j<=bQ bl l->bz j<=bz l->G 448 [aD d.ai,aB j]=Z (0,[aB (kl a d.ai j)]):=by{intro d hd j g h2;have A:=cy aC hd;have HQ:=cp d;have m:(bz j+1) * bQ aC d.ai<=(bz l+1) * bQ aC s:=gD (by omega) (by omega);exact X d.ai j (by have:=afp hd;omega) (S.2 d hd) (by omega) (by omega)};have OG:aS (.lD 3 J) []=Z (aB []):=rfl;have h:=cO (b:=lB G qc) (dk s) (λi (t:M aE)=>(0,[aD s,aB l,aD (dk s),E (i:Int),aB t,aD (dk s)])) (λi=>((dk s).take i).flatMap (pU (kl a) s l)) (0,[aD s,aB l,aD (dk s),E (dk s).length,.bool J,aB ((dk s).flatMap (pU (kl a) s l)),aD (dk s)]) (by intro i d n;have e:=bj n;have f:=wj e U;have hd:=bp n;have k:=po n;have Y:=aco (l:=dk s) (pU (kl a) s l) i;rw[lV _ n];have R:(((dk s).take i).flatMap (pU (kl a) s l)).length<=mg:=by{(have:(((dk s).take i).flatMap (pU (kl a) s l)).length<=bQ bl (((dk s).take i).flatMap (pU (kl a) s l)):=by simp only[bQ];omega);omega};generalize ((dk s).take i).flatMap (pU (kl a) s l)=N at *;have c:=Wk (s:=s) (ks:=dk s) (l:=l) (N:=N) (i:=i) (d:=d) (z:=aD (dk s)) (r:=kl a) n V R (λ_ x A _=>T d hd x.ai (by have:=cy bl A;have:=eF x;omega) (by have:=Kk A;omega));have v:G 448 [aD d.ai,.list 3 J []]=Z (0,[aB (kl a d.ai [])]):=T d hd [] (bK _) (by rw[bz];exact bK _);have p:=arq (s:=s) (nm:=d.au) B;(have o:N.length<=1073741824:=by simp only[mg]at R;omega);unfold pU;cases w:(named l d.au).isEmpty;{rw[w]at c;rw[if_neg (by simp)];simp only[go_sem,bn,qc,aj,e,c,f]};have Oh:named l d.au=[]:=dT.1 w;rw[w,Oh,cA,aH]at c;rw[if_pos rfl];unfold Dj;by_cases m:d.aA=3;{(have XZ:¬d.aA=1:=by omega);(have W:¬(3:Int)=1:=by decide);cases P:d.given;{rw[if_neg (by simp),if_neg (λh=>XZ h.1),aH];simp only[go_sem,bn,qc,aj,e,c,k,ak d,m,P,f]};rw[if_pos ⟨m,rfl⟩];have F:=Yr o d.au d.default;have D:=mk3 d.au d.default (.list 3 J []);have C:=T9 d.au d.default;simp only[go_sem,bn,qc,aj,e,c,k,ak d,m,P,f,F,D,C]};rw[if_neg (λh=>m h.1)];by_cases g:d.aA=1;{cases q:d.dq;{cases Q:uQ s d.au;{rw[Q]at p;rw[if_neg (by simp),aH];simp only[go_sem,bn,qc,aj,e,c,k,ak d,g,q,p,f]};rw[Q]at p;rw[if_pos ⟨g,rfl,rfl⟩];cases L:kl a d.ai []with|nil=>{rw[L]at v;rw[ei,if_pos rfl,aH];simp only[go_sem,bn,qc,aj,e,c,k,ak d,g,q,p,v,f,aK,akL]}|cons y ys=>rw[L]at v;(have K3:(0:Int)<((ys.length+1:Nat):Int):=by omega);have F:=UO o d.au ⟨#[]⟩ (y::ys);have D:=mk3 d.au ⟨#[]⟩ (aB (y::ys));have C:=afY d.au;rw[if_neg (by simp)];simp only[go_sem,bn,qc,aj,e,c,k,ak d,g,q,p,v,f,aN,K3,F,D,C]};rw[if_neg (by simp),aH];simp only[go_sem,bn,qc,aj,e,c,k,ak d,g,q,f]};rw[if_neg (λh=>g h.1),aH];simp only[go_sem,bn,qc,aj,e,c,k,ak d,m,g,f]) (by simp only[go_sem,bn,qc,aj,aG,bq]) (dk s).length 0 (by omega);rw[bB,jJ,n0]at h;refine ch aou rfl ?_;simp only[go_sem,aou,H,OG,h]
def ars{s:M aq}{l:M aE}(c:IA (aF s+1) s)(a:bQ aC s<=mg)(b:bQ bl l+(bz l+1) * bQ aC s<=mg):G 448 [aD s,aB l]=Z (0,[aB (oS s l)]):=aiK _ s l (aW _) c a b
def tQ:M aq->Nat
 |[]=>0
 |e::es=>max (1+tQ e.ai) (tQ es)
termination_by es=>aF es
decreasing_by
 .exact aq.gu e es
 .simp only[bM];omega
theorem Nq(e:aq):∀(l:M aq),tQ (l++[e])=max (tQ l) (1+tQ e.ai)
 |[]=>by simp[tQ]
 |x::l=>by rw[ax,tQ,Nq e l,tQ,Nat.max_assoc]
theorem akK(n:Nat):∀(l:M aq),aF l<n->tQ l<=bQ aC l:=by induction n with|zero=>{intro l h;omega}|succ n a=>intro l h;cases l with|nil=>{rw[tQ];omega}|cons e l=>have c:=a l (by simp only[bM]at h;omega);have b:=a e.ai (by have:=aq.gu e l;omega);rw[tQ,fX];have:=iY e;omega
def Zg{l:M aq}:tQ l<=bQ aC l:=akK _ l (aW _)
theorem aim(n:Nat):∀l:M aq,aF l<n->bQ aC l<=mg->G 256 [aD l]=Z (0,[E (tQ l)]):=by induction n with|zero=>{intro l h;omega}|succ n k=>intro l s e;(have c:l.length<=mg:=by simp only[bQ]at e;omega);refine ch t256 rfl ?_;simp only[go_sem,t256];have f:=cO (b:=lB G Lp) l (λi (m:Nat)=>(0,[E (m:Int),aD l,E l.length,E (i:Int)])) (λi=>tQ (l.take i)) (0,[E (tQ l),aD l,E l.length,E l.length,.bool J]) (by intro i x a;have j:=bj a;have p:=wj j c;have o:=(gX e (bp a)).1;have g:=aV (iY x) o;have r:=k x.ai (by have:=bD (bp a);have:=aq.fD x;omega) g;have t:=Zg (l:=x.ai);(have q:IntKind.i64.wrap (1+(tQ x.ai:Int))=((1+tQ x.ai:Nat):Int):=by rw[wrap_i64 (by simp only[mg]at g;omega)];omega);rw[cd _ _ _ a,Nq];simp only[go_sem,bn,Lp,j,aY,a,fo];simp only[go_sem,ak x,r,q,mx,p]) (by rw[bq];simp only[go_sem,bn,Lp,aG]) l.length 0 (by omega);(have d:((tQ []:Nat):Int)=0:=by simp[tQ]);rw[n0,bB,d]at f;rw[f];simp only[go_sem]
def aqS{l:M aq}(a:bQ aC l<=mg):G 256 [aD l]=Z (0,[E (tQ l)]):=aim _ l (aW _) a
def qM:aq:=⟨0,⟨#[]⟩,⟨0,[],[],⟨#[]⟩,⟨#[]⟩⟩,[],[],⟨#[]⟩,J,J,J,J,0,0,[],[],[]⟩
def kV(l:M aq)(a:z):u Nat:=u7 (λe=>Z' (e.au=a) && Z' (e.aA=3)) l 0
theorem aiw{l:M aq}{nm:z}(hlen:l.length<=mg):G 314 [aD l,.str nm]=Z (match kV l nm with
  |some j=>match nth l j with
   |some e=>(0,aC e++[.bool I])
   |none=>(1,aC qM++[.bool J])
  |none=>(1,aC qM++[.bool J])):=by
 refine ch t314 rfl ?_;simp only[go_sem,t314];have g:=vI (b:=lB G LD) l (λi=>(0,[.str nm,aD l,E l.length,E (i:Int),E 0,.str ⟨#[]⟩,E 0,.str ⟨#[]⟩,.str ⟨#[]⟩,.str ⟨#[]⟩,.bool J,.bool J,.bool J,.bool J,E 0,E 0])) (λe=>Z' (e.au=nm) && Z' (e.aA=3))
  (1,[.str nm,aD l,E l.length,E l.length,.bool J,E 0,.str ⟨#[]⟩,E 0,.str ⟨#[]⟩,.str ⟨#[]⟩,.str ⟨#[]⟩,.bool J,.bool J,.bool J,.bool J,E 0,E 0]) (λi e=>(0,.bool I::aC e)) (by
  intro i e f;have h:=bj f;have d:=wj h hlen;simp only[go_sem,bn,LD,h,aY,f,fo];by_cases a:e.au=nm
  .by_cases c:e.aA=3
   .simp only[go_sem,ak e,a,c]
   .simp only[go_sem,ak e,a,c,d]
  .simp only[go_sem,ak e,a,d]) (by simp only[go_sem,bn,LD,aG])
 rw[n0]at g;rw[g];unfold kV;cases k:u7 (λe=>Z' (e.au=nm) && Z' (e.aA=3)) l 0 with
 |none=>simp only[go_sem,ak,qM];rfl
 |some j=>
  obtain⟨e,a,c⟩:=dy k;simp only[go_sem,a,ak]
noncomputable def unr{a c:Type}(b:a->u (Sg a c)):u (Sg a c)->u c
 |some (.go s)=>bJ b s
 |some (.out r)=>Z r
 |none=>O
theorem ni{a c:Type}(b:a->u (Sg a c))(s:a):bJ b s=unr b (b s):=by cases h:b s with|none=>{unfold bJ;rw[dif_neg];{rfl};rintro⟨r,d⟩;cases d with|out g=>{rw[h]at g;cases g}|go g _=>rw[h]at g;cases g}|some x=>cases x with|go e=>{rw[bE h];rfl}|out r=>rw[aO h];rfl
theorem rD{a c:Type}(b:a->u (Sg a c))(r:c):unr b (Z (.out r))=Z r:=(rfl)
theorem S4{a β:Type}(f:a->β)(p:β->Bool):∀(l:M a) (k:Nat),u7 p (l.map f) k=u7 (λe=>p (f e)) l k
 |[],_=>rfl
 |e::l,k=>by simp only[bc,u7,S4 f p l (k+1)]
def Ak(l:M aq)(a:z):ix (l.map aq.au) a=ey l a:=by rw[ix,S4,ey];congr 1;funext e;exact decide_eq_decide.2 eq_comm
def SH{d:M aq}{j:Nat}{e:aq}(h:nth d j=Z e):aS (.IY 19 0 19 J) [aD d,E (j:Int)]=Z (.list 0 J [aC e]):=by (have a:nth (d.map aC) j=Z (aC e):=by rw[aY,h];rfl);simp only[aS,cn,a];rw[qX];simp
def afu{d:M aq}{j:Nat}{e:aq}(h:nth d j=Z e):aS (.IY 19 18 1 J) [aD d,E (j:Int)]=Z (.list 0 J [aC e]):=by (have a:nth (d.map aC) j=Z (aC e):=by rw[aY,h];rfl);simp only[aS,cn,a];rw[qX];simp
def iK(l:M aE)(a:z):u Nat:=u7 (λe=>Z' (e.au=a)) l 0
theorem abv{l:M aE}{nm:z}(hlen:l.length<=mg):G 243 [aB l,.str nm]=Z (0,[E (lE (iK l nm))]):=by refine ch t243 rfl ?_;simp only[go_sem,t243];have c:=vI (b:=lB G Ln) l (λi=>(0,[aB l,.str nm,E (i:Int)])) (λe=>Z' (e.au=nm)) (1,[aB l,.str nm,E l.length,.bool J]) (λi e=>(0,[E (i:Int)])) (by intro i e a;have d:=bj a;have f:=wj d hlen;simp only[go_sem,bn,Ln,d,aY,a,aR];cases k:Z' (e.au=nm)<;>simp only[go_sem,f]) (by simp only[go_sem,bn,Ln,aG]);rw[n0]at c;rw[c];unfold iK;cases g:u7 (λe=>Z' (e.au=nm)) l 0 with|none=>{simp only[go_sem,lE]}|some j=>obtain⟨e,h,m⟩:=dy g;simp only[go_sem,h,lE]
theorem TS(a:z):∀(l:M aE) (k:Nat),W8 a (l.map bl) (k:Int)=Z (lE (u7 (λe=>Z' (e.au=a)) l k))
 |[],k=>rfl
 |e::l,k=>by have h:=TS a l (k+1);simp only[bc,aR e,W8,u7];by_cases b:e.au=a;{simp[b,lE]};have c:W8 a (l.map bl) ((k:Int)+1)=Z (lE (u7 (λe=>Z' (e.au=a)) l (k+1))):=h;simp[b,c]
def abB(l:M aE)(a:z):G 9003 [aB l,.str a]=Z (0,[E (lE (iK l a))]):=
 yf (i:=9003) (sg:=⟨9003,[.val J [.d],.val J [.d]],[([.val J [.d]],[])]⟩) (v:=([.val J [.d]],[])) (j:=0) (r:=([.val J [.d (E (lE (iK l a)))]],[])) (ws:=[aB l,.str a]) rfl rfl ((aaY T rfl [.val J [.d (aB l)],.val J [.d (.str a)]]).trans (by
  have h:=TS a l 0;have b:W8 a (l.map bl) 0=Z (lE (iK l a)):=h;simp only[XT,aB,b];rfl)) rfl rfl
def nn(k:Int):Bool:=Z' (k=2) ||decide (k=4)
def anv(k:Int):G 247 [E k]=Z (0,[.bool (nn k)]):=by refine ch t247 rfl ?_;simp only[go_sem,t247,nn];cases h:Z' (k=2)<;>simp only[go_sem]
def yW(l:M aE)(a:z):u z:=match iK l a with
 |some j=>(nth l j).map aE.bu
 |none=>O
def Am(l:M aE):M z->M z->M z×Bool
 |t,[]=>(t,I)
 |t,k::a=>match yW l k with
  |none=>(t,J)
  |some v=>Am l (t++[v]) a
def kst{a:Type}(l:M aE)(g:Nat->M z->a)(i:Nat)(t:M z)(k:z):Sg (M z) a:=match yW l k with
 |none=>.out (g i t)
 |some v=>.go (t++[v])
def keyOf(n:aq)(x:aE):M z×Bool:=
 if n.aA=2 then (if (Am x.ai [] n.cl).2=I then ((Am x.ai [] n.cl).1,I) else ([],J)) else ([x.bu],I)
def JE{l:M aE}{k:z}:iK l k=O->yW l k=O:=λh=>by rw[yW,h]
def JF{l:M aE}{k:z}{j:Nat}{e:aE}(h:iK l k=Z j)(a:nth l j=Z e):yW l k=Z e.bu:=by rw[yW,h];simp only[a,aX]
theorem E4{b:Type}(l:M aE)(g:M z->b):∀(a:M z) (i:Nat) (t:M z),
  jA (kst l (λ_ t=>g t)) i t a=if (Am l t a).2=I then .go (Am l t a).1 else .out (g (Am l t a).1)
 |[],_,_=>rfl
 |k::a,i,t=>by cases h:yW l k with|none=>{simp only[jA,kst,Am,h];rfl}|some v=>simp only[jA,kst,Am,h];exact E4 l g a (i+1) (t++[v])
def aj1{t:M z}{v:z}(h:t.length<mg):aS (.app 1 16) [aJ t,.list 1 I [[.str v]]]=Z (aJ (t++[v])):=by have h:=dQ 1 16 I (t.map gk) [[.str v]] (by decide) (by simp only[mg,aj,aN,aK]at *;omega);rw[h];simp[gk]
theorem IU:aJ []=.list 1 I []:=(rfl)
def aa4(v:z):aS (.lD 1 I) [.str v]=Z (.list 1 I [[.str v]]):=by simp[aS,chunk,db,D.plain]
theorem aij{n:aq}{x:aE}(s:n.cl.length<=mg)(p:x.ai.length<=mg):G 244 (aC n++bl x)=Z (0,[aJ (keyOf n x).1,.bool (keyOf n x).2]):=by
 refine ch t244 (by rw[ak,aR];rfl) ?_;simp only[go_sem,t244,ak,aR];have d:=Ab (b:=lB G FQ) n.cl (λi (t:M z)=>(0,E (i:Int)::(aC n++bl x++[aJ t]))) (kst x.ai (λ_ t=>(0,[.bool J,aJ t])))
  (λt=>(1,E n.cl.length::.bool J::(aC n++bl x++[aJ t]))) (λi t=>t.length=i) [] rfl (by
  intro i k t g m;have h:=bj g;have q:=wj h s;have f:=abv (l:=x.ai) (nm:=k) p;have y:∀v,aS (.app 1 16) [aJ t,.list 1 I [[.str v]]]=Z (aJ (t++[v])):=λv=>aj1 (by omega);cases a:iK x.ai k with
  |none=>
   rw[a]at f;simp only[go_sem,bn,FQ,h,aY,g,ak,aR,gk,f,lE,kst,JE a,PT];intro A r;cases r
  |some j=>
   obtain⟨e,o,C⟩:=dy a;rw[a]at f;have w:¬(j:Int)<0:=by omega
   simp only[go_sem,bn,FQ,h,aY,g,ak n,aR x,gk,f,lE,w,kst,JF a o,PT];simp only[go_sem,o,aR e,aa4,y,q];simp[m]) (by
  intro t m;simp only[go_sem,bn,FQ,aG,ak,aR])
 rw[n0,E4]at d;simp only[ak,aR,ax,av,IU]at d;rw[keyOf];by_cases c:n.aA=2;{(have hd:Z' (n.aA=2)=I:=by simp[c]);simp only[go_sem,hd];rw[d];clear d;cases B:(Am x.ai [] n.cl).2;{simp only[go_sem,sgF,c];rfl};simp only[go_sem,sgF,c]};(have hd:Z' (n.aA=2)=J:=by simp[c]);simp only[go_sem,aa4,c];rfl
theorem aiz{n:aq}{x:aE}(s:n.cl.length<=mg)(B:x.ai.length<=mg):G 320 (aC n++bl x)=Z (0,[aJ (keyOf n x).1,.bool (keyOf n x).2]):=by
 refine ch t320 (by rw[ak,aR];rfl) ?_;simp only[go_sem,t320,ak,aR];have d:=Ab (b:=lB G FW) n.cl (λi (t:M z)=>(0,[aJ n.cl,E n.cl.length,E (i:Int),.str x.au,.str x.bu,aB x.ai,aJ t])) (kst x.ai (λ_ t=>(0,[.bool J,aJ t,aJ []])))
  (λt=>(1,[aJ n.cl,E n.cl.length,E n.cl.length,.bool J,.str x.au,.str x.bu,aB x.ai,aJ t])) (λi t=>t.length=i) [] rfl (by
  intro i k t h o;have m:=bj h;have q:=wj m s;have f:=abB x.ai k;have l:aS (.lD 1 I) []=Z (aJ []):=by simp[aS,chunk]
  have y:∀v,aS (.app 1 16) [aJ t,.list 1 I [[.str v]]]=Z (aJ (t++[v])):=λv=>aj1 (by omega);cases a:iK x.ai k with
  |none=>
   rw[a]at f;simp only[go_sem,bn,FW,m,aY,h,gk,f,lE,kst,JE a,PT,l];intro A r;cases r
  |some j=>
   obtain⟨e,p,F⟩:=dy a;rw[a]at f;have w:¬(j:Int)<0:=by omega
   simp only[go_sem,bn,FW,m,aY,h,gk,f,lE,w,kst,JF a p,PT];simp only[go_sem,p,aR e,aa4,y,q];simp[o]) (by
  intro t o;simp only[go_sem,bn,FW,aG])
 rw[n0,E4 (g:=λt=>(0,[D.bool J,aJ t,aJ []]))]at d;simp only[IU]at d;rw[keyOf];by_cases c:n.aA=2;{(have hd:Z' (n.aA=2)=I:=by simp[c]);simp only[go_sem,hd];rw[d];clear d;cases C:(Am x.ai [] n.cl).2;{simp only[go_sem,sgF,c];rfl};simp only[go_sem,sgF,c]};(have hd:Z' (n.aA=2)=J:=by simp[c]);simp only[go_sem,aa4,c];rfl
def DA(a b:aE)(c:z):Bool:=match yW a.ai c,yW b.ai c with
 |some x,Z y=>Z' (x=y)
 |_,_=>J
def uniq(n:aq)(a b:aE):Bool:=n.unique.all (DA a b) && !n.unique.isEmpty
def pr(l:M aE)(c:aq):Bool:=(dk c.ai).any λd=>(iK l d.au).isSome
def agA{l:M aq}{i:Nat}{y:aq}(h:nth l i=Z y):aS (.IY 19 1 1 I) [aD l,E (i:Int)]=Z (.list 0 J [aC y]):=by (have a:nth (l.map aC) i=Z (aC y):=by rw[aY,h];rfl);simp only[aS,cn,a];rw[ak];rfl
def anR{n:aq}{l:M aE}(k:bQ aC n.ai<=mg)(r:l.length<=mg):G 450 (aC n++[aB l])=Z (0,[.bool (pr l n)]):=by have e:=q81 k;have s:=my (es:=n.ai);(have p:(dk n.ai).length<=mg:=by simp only[bQ]at s k;omega);unfold pr;generalize dk n.ai=a at *;have h:=q9 (b:=lB G F5) a (λi=>(0,[aB l,E (i:Int),aD a])) (λd=>(iK l d.au).isSome) (1,[aB l,E a.length,.bool J,aD a]) (0,[.bool I]) (by intro i d hd;have j:=bj hd;have q:=wj j p;have o:=agA hd;have m:=jh 19 J (a.map aC) i (by rw[aj];exact j);have f:=abv (l:=l) (nm:=d.au) r;have g:=Rd (iK l d.au);cases c:(iK l d.au).isSome;{rw[c]at g;simp only[go_sem,bn,F5,aj,j,o,m,ak d,f,g,q]};rw[c]at g;simp only[go_sem,bn,F5,aj,j,o,m,ak d,f,g]) (by simp only[go_sem,bn,F5,aj,aG]);rw[n0]at h;refine ch ajd (by rw[ak];rfl) ?_;cases c:a.any λd=>(iK l d.au).isSome;{rw[c,if_neg (by simp)]at h;simp only[go_sem,ajd,ak n,e,h]};rw[c,if_pos rfl]at h;simp only[go_sem,ajd,ak n,e,h]
theorem LU(o:u Nat):Z' (lE o<0)=!o.isSome:=by cases o with|none=>{rfl}|some k=>exact decide_eq_false (show ¬(k:Int)<0 by omega)
def Uv{a b:aE}{c:z}(h:iK a.ai c=O):DA a b c=J:=by simp[DA,yW,h]
def Uw{a b:aE}{c:z}(h:iK b.ai c=O):DA a b c=J:=by unfold DA;(have:yW b.ai c=O:=by simp[yW,h]);rw[this];cases yW a.ai c<;>rfl
def acF{a b x y:aE}{c:z}{j k:Nat}(e:iK a.ai c=Z j)(a1:nth a.ai j=Z x)(d:iK b.ai c=Z k)(f:nth b.ai k=Z y):DA a b c=Z' (x.bu=y.bu):=by simp[DA,yW,e,a1,d,f]
theorem arC{n:aq}{a b:aE}(F:n.unique.length<=mg)(K:a.ai.length<=mg)(H:b.ai.length<=mg):G 470 (aC n++(bl a++bl b))=Z (0,[.bool (uniq n a b)]):=by have h:=ig (b:=lB G yJ) n.unique (λi=>(0,E (i:Int)::(aC n++(bl a++bl b)))) (DA a b) (1,E n.unique.length::.bool J::(aC n++(bl a++bl b))) (0,[.bool J]) (by intro i c t;have o:=bj t;have D:=wj o F;have r:=wO t;have g:=abv (l:=a.ai) (nm:=c) K;have f:=abv (l:=b.ai) (nm:=c) H;have d:=LU (iK a.ai c);have e:=LU (iK b.ai c);cases q:iK a.ai c with|none=>{rw[q]at d g;simp only[bw,dh]at d;rw[Uv q];simp only[go_sem,bn,yJ,ak n,aR,aj,o,r,g,f,d]}|some j=>rw[q]at d g;simp only[bT,dv]at d;obtain⟨x,a1,a2⟩:=dy q;cases p:iK b.ai c with|none=>{rw[p]at e f;simp only[bw,dh]at e;rw[Uw p];simp only[go_sem,bn,yJ,ak n,aR,aj,o,r,g,f,d,e]}|some k=>rw[p]at e f;simp only[bT,dv]at e;obtain⟨y,A,L⟩:=dy p;rw[acF q a1 p A];have w:=ij a1;have v:=ij A;have C:lE (Z j)=(j:Int):=rfl;have B:lE (Z k)=(k:Int):=rfl;rw[C]at d g;rw[B]at e f;by_cases m:x.bu=y.bu;{simp only[go_sem,bn,yJ,ak n,aR,aj,o,r,w,v,g,f,d,e,D,m]};simp only[go_sem,bn,yJ,ak n,aR,aj,o,r,w,v,g,f,d,e,m]) (by simp only[go_sem,bn,yJ,ak n,aR,aj,aG]);rw[n0]at h;unfold uniq;refine ch aji (by rw[ak,aR,aR];rfl) ?_;cases s:n.unique.all (DA a b);{rw[s,if_neg (by simp)]at h;simp only[ak n,aR,ax,av]at h;simp only[go_sem,aji,ak n,aR,h]};rw[s,if_pos rfl]at h;simp only[ak n,aR,ax,av]at h;simp only[go_sem,aji,ak n,aR,h,aj,g0n];cases n.unique<;>rfl
theorem EV{β:Type}(f:Nat->u β):∀m i,lM f (i+1) m=lM (λj=>f (j+1)) i m
 |0,_=>rfl
 |m+1,i=>by simp only[lM,EV f m (i+1)]
theorem Qz{a β:Type}(f:Nat->u a)(g:a->β):∀m i,lM (λj=>(f j).map g) i m=(lM f i m).map g
 |0,_=>rfl
 |m+1,i=>by simp only[lM];cases h:f i with|none=>{simp only[Option.map_none,Qz f g m (i+1)]}|some r=>rfl
def pk{d β:Type}(c:d->d->u β)(a b:M d)(i:Nat):u β:=match nth a i,nth b i with
 |some x,Z y=>c x y
 |_,_=>O
def Ap{d β:Type}(c:d->d->u β):M d->M d->u β
 |x::a,y::b=>match c x y with
  |some r=>Z r
  |none=>Ap c a b
 |_,_=>O
theorem ZP{d β:Type}(c:d->d->u β):∀(a b:M d),lM (pk c a b) 0 (min a.length b.length)=Ap c a b
 |[],b=>by simp only[aK,Nat.zero_min,lM,Ap]
 |x::a,[]=>by simp only[aK,Nat.min_zero,lM,Ap]
 |x::a,y::b=>by (have h:(min (x::a).length (y::b).length)=min a.length b.length+1:=by simp only[aN];omega);rw[h];have f:(λj=>pk c (x::a) (y::b) (j+1))=pk c a b:=rfl;have e:pk c (x::a) (y::b) 0=c x y:=rfl;simp only[lM,EV,f,e,Ap,ZP c a b];cases c x y<;>rfl
def lsC(x y:z):u Bool:=if Z' (x=y)=I then O else Z (nL x y)
def lQ(a b:M z):Bool:=(Ap lsC a b).getD (Z' (a.length<b.length))
def aqO{a b:M z}(j:a.length<=mg)(p:b.length<=mg):G 248 [aJ a,aJ b]=Z (0,[.bool (lQ a b)]):=by refine ch t248 rfl ?_;simp only[go_sem,t248];have f:=E6 (b:=lB G FR) (λi=>(0,[aJ a,aJ b,E (i:Int)])) (λi=>(pk lsC a b i).map (λr=>(0,[.bool r]))) (min a.length b.length) (1,[aJ a,aJ b,E (min a.length b.length:Nat),.bool J]) (by intro i n;(have c:i<a.length:=by omega);(have d:i<b.length:=by omega);have a1:=dL (l:=a) c;have a2:=dL (l:=b) d;generalize a[i]'c=x at a1;generalize b[i]'d=y at a2;have g:=wj c j;simp only[go_sem,bn,FR,c,d,aY,a1,a2,gk,pk,lsC];cases o:Z' (x=y)<;>simp only[go_sem,g,Qg,aY,a1,a2,gk]) (by by_cases h:a.length<b.length;{(have e:min a.length b.length=a.length:=by omega);rw[e];simp only[go_sem,bn,FR,aG]};(have e:min a.length b.length=b.length:=by omega);rw[e];simp only[go_sem,bn,FR];by_cases k:b.length<a.length<;>simp only[go_sem,k,aG]) (min a.length b.length) 0 (by omega);rw[n0,Qz,ZP]at f;rw[f,lQ];cases m:Ap lsC a b<;>simp only[go_sem,Option.getD,Option.map]
def aq9(a:z):G 323 [.str a]=Z (0,[.bool J]):=by refine ch t323 rfl ?_;simp only[go_sem,t323]
def u5(x y:z):Int:=if nL x y=I then -1 else if Z' (x=y)=I then 0 else 1
def aq_(x y:z):G 324 [.str x,.str y]=Z (0,[E (u5 x y)]):=by refine ch t324 rfl ?_;simp only[go_sem,t324,aq9,u5];cases b:nL x y<;>cases a:Z' (x=y)<;>simp only[go_sem,b,a]
def Nf(a b:M z)(i:Nat):u Int:=match nth a i with
 |none=>O
 |some x=>match nth b i with
  |none=>Z 1
  |some y=>if u5 x y=0 then O else Z (u5 x y)
def cmpL(a b:M z):Int:=match lM (Nf a b) 0 a.length with
 |some r=>r
 |none=>if a.length<b.length then -1 else 0
theorem OM{a:Type}:∀{l:M a} {i:Nat},l.length<=i->nth l i=O
 |[],_,_=>rfl
 |_::l,0,h=>by simp at h
 |_::l,i+1,h=>by have:=OM (l:=l) (i:=i) (by simpa using h);simpa [nth] using this
def ara{a b:M z}(k:a.length<=mg)(o:b.length<=mg):G 325 [aJ a,aJ b]=Z (0,[E (cmpL a b)]):=by refine ch t325 rfl ?_;simp only[go_sem,t325];have f:=E6 (b:=lB G FY) (λi=>(0,[aJ a,aJ b,aJ a,E a.length,E (i:Int)])) (λi=>(Nf a b i).map (λr=>(0,[E r]))) a.length (1,[aJ a,aJ b,aJ a,E a.length,E a.length,.bool J]) (by intro i c;have a1:=dL (l:=a) c;generalize a[i]'c=x at a1;have j:=wj c k;by_cases g:i<b.length;{have a2:=dL (l:=b) g;generalize b[i]'g=y at a2;(have e:Z' ((b.length:Int)<=(i:Int))=J:=by simp only[decide_eq_false_iff_not];omega);have m:=aq_ x y;simp only[go_sem,bn,FY,c,e,aY,a1,a2,gk,Nf,m];by_cases d:u5 x y=0;{(have hd:Z' (u5 x y=0)=I:=by simp[d]);simp only[go_sem,d,j,Qg]};(have hd:Z' (u5 x y=0)=J:=by simp[d]);simp only[go_sem,d,Qg]};have a2:=OM (l:=b) (i:=i) (by omega);(have e:Z' ((b.length:Int)<=(i:Int))=I:=by simp only[decide_eq_true_eq];omega);simp only[go_sem,bn,FY,c,e,aY,a1,a2,gk,Nf,Qg]) (by simp only[go_sem,bn,FY,aG]) a.length 0 (by omega);rw[n0,Qz]at f;rw[f,cmpL];cases n:lM (Nf a b) 0 a.length;{simp only[go_sem,Option.getD,Option.map];by_cases h:a.length<b.length<;>simp only[go_sem,h]};simp only[go_sem,Option.getD,Option.map]
theorem YG:∀l:M UInt8,Op.bytesLess l l=J
 |[]=>rfl
 |x::l=>by (have h:¬x<x:=by simp);simp[Op.bytesLess,YG l,h]
def ab2(x:z):nL x x=J:=YG _
theorem YT(b:M z):cmpL [] b=if 0<b.length then -1 else 0:=(rfl)
theorem UZ(x:z)(a:M z):cmpL (x::a) []=1:=(rfl)
def UY(x y:z)(a b:M z):cmpL (x::a) (y::b)=if u5 x y=0 then cmpL a b else u5 x y:=by have d:(λj=>Nf (x::a) (y::b) (j+1))=Nf a b:=rfl;have c:Nf (x::a) (y::b) 0=if u5 x y=0 then O else Z (u5 x y):=rfl;rw[cmpL];simp only[aN,lM,EV,d,c];by_cases h:u5 x y=0;{simp only[h,if_true,cmpL,Nat.add_lt_add_iff_right]};simp only[h,if_false]
theorem OC:∀a b:M z,lQ a b=Z' (cmpL a b<0)
 |[],[]=>rfl
 |[],y::b=>by rw[YT];simp[lQ,Ap]
 |x::a,[]=>by rw[UZ];simp[lQ,Ap]
 |x::a,y::b=>by rw[UY];by_cases h:x=y;{subst h;(have c:u5 x x=0:=by simp[u5,ab2]);(have d:lsC x x=O:=by simp[lsC]);rw[if_pos c,<- OC a b];simp only[lQ,Ap,d,aN,Nat.add_lt_add_iff_right]};(have d:lsC x y=Z (nL x y):=by simp[lsC,h]);(have f:lQ (x::a) (y::b)=nL x y:=by simp only[lQ,Ap,d,Option.getD]);rw[f];cases e:nL x y;{(have c:u5 x y=1:=by simp[u5,e,h]);simp[c]};(have c:u5 x y=-1:=by simp[u5,e]);simp[c]
theorem Ot(l:M aE):∀(a t:M z),(Am l t a).1.length<=t.length+a.length
 |[],t=>by simp[Am]
 |k::a,t=>by cases h:yW l k with|none=>{simp only[Am,h,aN];omega}|some v=>have:=Ot l a (t++[v]);simp only[Am,h,aN,az,aK]at *;omega
def w8{n:aq}{x:aE}(b:n.cl.length<=mg):(keyOf n x).1.length<=mg:=by have h:=Ot x.ai n.cl [];simp only[aK,bF]at h;unfold keyOf;(have a:1<=mg:=by decide);split;{split;{exact aV h b};simp};simpa using a
def JJ(n:aq)(a b:aE):Int:=if nn n.aA=I then cmpL (keyOf n a).1 (keyOf n b).1 else 0
def arb{n:aq}{a b:aE}(d:n.cl.length<=mg)(i:a.ai.length<=mg)(h:b.ai.length<=mg):G 326 (aC n++bl a++bl b)=Z (0,[E (JJ n a b)]):=by have f:=aiz (n:=n) (x:=a) d i;have e:=aiz (n:=n) (x:=b) d h;have j:=ara (a:=(keyOf n a).1) (b:=(keyOf n b).1) (w8 d) (w8 d);have g:∀c:Int,aS .pl [E c]=Z (.bool J):=λc=>rfl;simp only[ak,aR,ax,av]at f e;refine ch t326 (by rw[ak,aR,aR];rfl) ?_;simp only[go_sem,t326,ak,aR,JJ,nn];obtain⟨v1,c1⟩:∃v,Z' (n.aA=2)=v:=⟨_,rfl⟩;obtain⟨v2,k⟩:∃v,Z' (n.aA=4)=v:=⟨_,rfl⟩;cases v1<;>cases v2<;>simp only[go_sem,c1,k,f,e,j,g]
def aqP{d:M aq}{a b:aE}{i k:Nat}{e:aq}(hd:d.length<=mg)(f:e.cl.length<=mg)(v:a.ai.length<=mg)(t:b.ai.length<=mg)
  (r:ey d a.au=Z i) (q:ey d b.au=Z k) (s:nth d i=Z e) :
  G 249 ([aD d]++bl a++bl b)=Z (0,[.bool (if Z' (i=k) && nn e.aA then lQ (keyOf e a).1 (keyOf e b).1 else Z' (i<k))]):=by have o:=q82 (l:=d) (nm:=a.au) hd;have m:=q82 (l:=d) (nm:=b.au) hd;rw[r]at o;rw[q]at m;have j:=aij (n:=e) (x:=a) f v;have h:=aij (n:=e) (x:=b) f t;have y:=aqO (a:=(keyOf e a).1) (b:=(keyOf e b).1) (w8 f) (w8 f);have w:=anv e.aA;have p:aS .pl [.bool (lQ (keyOf e a).1 (keyOf e b).1)]=Z (.bool J):=rfl;simp only[ak,aR,ax,av]at j h;refine ch t249 (by rw[aR,aR];rfl) ?_;have A:(Z (aC e):u (M D))=Z (aC e):=rfl;simp only[go_sem,t249,aR,o,m,lE];by_cases c:i=k;{subst c;cases c1:nn e.aA<;>simp only[go_sem,aY,s,ak e,j,h,y,w,c1,p,aG]};(have B:Z' (i=k)=J:=by simp[c]);(have g:Z' ((i:Int)=(k:Int))=J:=by simp only[decide_eq_false_iff_not];omega);simp only[go_sem,c,g]
def Ax(a:z->Bool)(mt:z->z->Bool)(r:M aq->M aE->Bool)(n:aq)(x:aE):Bool:=
 if Z' (n.aA=3) ||decide (n.aA=4) then Z' (x.ai.length=0) && isVal a mt n.type x.bu
 else if Z' (n.aA=2) then (keyOf n x).2 && (Z' (x.bu.size=0) && r (dk n.ai) x.ai)
 else Z' (x.bu.size=0) && ((n.dq ||decide (0<x.ai.length)) && r (dk n.ai) x.ai)
def aqN{j:z->Bool}{mt:z->z->Bool}(m:∀s:z,s.size<=mg->G 227 [.str s]=Z (0,[.bool (j s)]))(o:∀p s:z,p.size<=mg->s.size<=mg->G 236 [.str p,.str s]=Z (0,[.bool (mt p s)]))
  {r:M aq->M aE->Bool} {n:aq} {x:aE} (d:eu (aC n)<=mg) (c:eu (bl x)<=mg)
  (l:G 246 [aD (dk n.ai),aB x.ai]=Z (0,[.bool (r (dk n.ai) x.ai)])) :
  G 245 (aC n++bl x)=Z (0,[.bool (Ax j mt r n x)]):=by rw[cp]at d;rw[eF]at c;(have F:eu (dJ n.type)<=mg:=by omega);(have D:n.cl.length<=mg:=by simp only[bQ]at d;omega);(have C:bQ aC n.ai<=mg:=by omega);(have B:x.bu.size<=mg:=by omega);(have A:x.ai.length<=mg:=by simp only[bQ]at c;omega);have y:=ans m o F B;have t:=aij (n:=n) (x:=x) D A;have q:=q81 C;have k:∀b:Bool,aS .pl [.bool b]=Z (.bool J):=λb=>rfl;clear m o d c F D C B A;simp only[ak,aR,dJ,ax,av]at y t;refine ch t245 (by rw[ak,aR];rfl) ?_;simp only[go_sem,t245,ak,aR,Ax];obtain⟨v3,K⟩:∃v,Z' (n.aA=3)=v:=⟨_,rfl⟩;obtain⟨v4,H⟩:∃v,Z' (n.aA=4)=v:=⟨_,rfl⟩;obtain⟨v2,L⟩:∃v,Z' (n.aA=2)=v:=⟨_,rfl⟩;obtain⟨w,a⟩:∃v,Z' (x.ai.length=0)=v:=⟨_,rfl⟩;(have f:Z' ((x.ai.length:Int)=0)=w:=by rw[<- a];apply decide_eq_decide.2;omega);(have cg:Z' ((0:Int)<(x.ai.length:Int))=!w:=by rw[<- a,<- decide_not];apply decide_eq_decide.2;omega);(have g:Z' (0<x.ai.length)=!w:=by rw[<- a,<- decide_not];apply decide_eq_decide.2;omega);obtain⟨e,i⟩:∃v,Z' (x.bu=⟨#[]⟩)=v:=⟨_,rfl⟩;(have h:Z' (x.bu.size=0)=e:=by rw[<- i,dC]);cases v3<;>cases v4<;>cases v2<;>cases w<;>cases e<;>simp only[go_sem,K,H,L,a,f,g,i,h,y,t];(all_goals try (cases N:(keyOf n x).2<;>simp only[go_sem,i,q,l,k]));all_goals try (cases P:n.dq<;>simp only[go_sem,cg,q,l,k])
def aq8{l:z->Bool}{mt:z->z->Bool}(q:∀s:z,s.size<=mg->G 285 [.str s]=Z (0,[.bool (l s)]))(t:∀p s:z,p.size<=mg->s.size<=mg->G 310 [.str p,.str s]=Z (0,[.bool (mt p s)]))
  {r:M aq->M aE->Bool} {n:aq} {x:aE} (f:eu (aC n)<=mg) (d:eu (bl x)<=mg)
  (hd:n.aA=1\/n.aA=2\/n.aA=3\/n.aA=4) (o:G 322 [aD n.ai,aB x.ai]=Z (0,[.bool (r (dk n.ai) x.ai)])) :
  G 321 (aC n++bl x)=Z (0,[.bool (Ax l mt r n x)]):=by rw[cp]at f;rw[eF]at d;(have F:eu (dJ n.type)<=mg:=by omega);(have D:n.cl.length<=mg:=by simp only[bQ]at f;omega);(have P:bQ aC n.ai<=mg:=by omega);(have C:x.bu.size<=mg:=by omega);(have B:x.ai.length<=mg:=by simp only[bQ]at d;omega);have A:=anI q t F C;have y:=aiz (n:=n) (x:=x) D B;have Q:∀b:Bool,aS .pl [.bool b]=Z (.bool J):=λb=>rfl;clear q t f d F D P C B;simp only[ak,aR,dJ,ax,av]at A y;refine ch t321 (by rw[ak,aR];rfl) ?_;simp only[go_sem,t321,ak,aR,Ax];have H:∃v1 v2 v3 v4:Bool,Z' (n.aA=1)=v1/\Z' (n.aA=2)=v2/\Z' (n.aA=3)=v3/\Z' (n.aA=4)=v4/\((v1,v2,v3,v4)=(I,J,J,J)\/(v1,v2,v3,v4)=(J,I,J,J)\/(v1,v2,v3,v4)=(J,J,I,J)\/(v1,v2,v3,v4)=(J,J,J,I)):=by{refine⟨_,_,_,_,rfl,rfl,rfl,rfl,?_⟩;rcases hd with h|h|h|h<;>rw[h]<;>decide};obtain⟨v1,v2,v3,v4,c1,N,L,K,a⟩:=H;clear hd;obtain⟨w,c⟩:∃v,Z' (x.ai.length=0)=v:=⟨_,rfl⟩;(have g:Z' ((x.ai.length:Int)=0)=w:=by rw[<- c];apply decide_eq_decide.2;omega);(have cg:Z' ((0:Int)<(x.ai.length:Int))=!w:=by rw[<- c,<- decide_not];apply decide_eq_decide.2;omega);(have i:Z' (0<x.ai.length)=!w:=by rw[<- c,<- decide_not];apply decide_eq_decide.2;omega);obtain⟨e,k⟩:∃v,Z' (x.bu=⟨#[]⟩)=v:=⟨_,rfl⟩;(have j:Z' (x.bu.size=0)=e:=by rw[<- k,dC]);(cases m:r (dk n.ai) x.ai<;>rcases a with a|a|a|a<;>cases a<;>cases w<;>cases e<;>simp only[go_sem,L,K,N,c,g,i,k,j,A,y,c1,o,m]);(all_goals try (cases R:(keyOf n x).2<;>simp only[go_sem,k,o]));(all_goals try (cases S:n.dq<;>simp only[go_sem,cg]));all_goals try rw[m]
def tL(t:u (aE×Nat))(s:aq)(k:Nat)(e:aE):Bool:=match t with
 |none=>I
 |some (p,a)=>if Z' (a=k) && nn s.aA then lQ (keyOf s p).1 (keyOf s e).1 else Z' (a<k)
def mh{b:Type}(a:b)(nr:aq->aE->Bool)(d:M aq)(i:Nat)(t:u (aE×Nat))(e:aE):Sg (u (aE×Nat)) b:=match ey d e.au with
 |none=>.out a
 |some k=>match nth d k with
  |none=>.out a
  |some s=>if (nr s e && tL t s k e)=I then .go (Z (e,k)) else .out a
def Ig{a b:Type}:Sg a b->Bool
 | .go _=>I
 | .out _=>J
def mb(nr:aq->aE->Bool)(d:M aq)(l:M aE):Bool:=Ig (jA (mh () nr d) 0 O l)
theorem Pa{b:Type}(c:b)(nr:aq->aE->Bool)(d:M aq)(fin:u (aE×Nat)->b)(yes:b)(hf:∀t,fin t=yes):∀(l:M aE) (i:Nat) (t:u (aE×Nat)),
  sgF fin (jA (mh c nr d) i t l)=if Ig (jA (mh () nr d) i t l)=I then yes else c
 |[],_,t=>hf t
 |e::l,i,t=>by cases a:ey d e.au with|none=>{simp only[jA,mh,a];rfl}|some k=>cases f:nth d k with|none=>{simp only[jA,mh,a,f];rfl}|some s=>cases h:(nr s e && tL t s k e);{simp only[jA,mh,a,f,h,aL,if_false];rfl};simp only[jA,mh,a,f,h,if_true];exact Pa c nr d fin yes hf l (i+1) (Z (e,k))
def aar(d:M aq)(l:M aE)(i:Nat)(t:u (aE×Nat)):Prop:=match t with
 |none=>i=0
 |some (p,k)=>∃j,i=j+1/\nth l j=Z p/\ey d p.au=Z k
theorem anu{nr:aq->aE->Bool}{d:M aq}{l:M aE}(hd:bQ aC d<=mg)(F:bQ bl l<=mg)
  (Q:∀s e,s∈d->e∈l->G 245 (aC s++bl e)=Z (0,[.bool (nr s e)])):G 246 [aD d,aB l]=Z (0,[.bool (mb nr d l)]):=by (have K:d.length<=mg:=by simp only[bQ]at hd;omega);(have L:l.length<=mg:=by simp only[bQ]at F;omega);refine ch t246 rfl ?_;simp only[go_sem,t246];have N:=Ab (b:=lB G BY) l (λi (t:u (aE×Nat))=>(0,[aD d,aB l,E (i:Int)])) (mh (0,[.bool J]) nr d) (λt=>(1,[aD d,aB l,E l.length,.bool J])) (aar d l) O rfl (by intro i e t a B;have w:=bj a;have W:=wj w L;have r:=q82 (l:=d) (nm:=e.au) K;cases hf:ey d e.au with|none=>{rw[hf]at r;simp only[go_sem,bn,BY,w,aY,a,aR e,r,lE,mh,hf,PT];intro g f;cases f}|some k=>rw[hf]at r;obtain⟨s,q,h2⟩:=dy hf;have A:=Q s e (bp q) (bp a);(have H:Z' ((k:Int)<0)=J:=by simp only[decide_eq_false_iff_not];omega);simp only[ak,aR,ax,av]at A;have c:∀g,Sg.go (Z (e,k))=(Sg.go g:Sg (u (aE×Nat)) (Nat×M D))->aar d l (i+1) g:=by{intro g f;cases f;exact⟨i,rfl,a,hf⟩};(have U:mh (0,[D.bool J]) nr d i t e=if (nr s e && tL t s k e)=I then .go (Z (e,k)) else .out (0,[D.bool J]):=by simp only[mh,hf,q]);rw[U];cases t with|none=>{obtain rfl:i=0:=B;simp only[go_sem,bn,BY,w,aY,a,q,aR e,ak s,r,lE,A,H,tL];cases hq:nr s e;{simp only[go_sem,PT];intro g f;cases f};simp only[go_sem,PT];exact⟨rfl,c⟩}|some pk=>obtain⟨p,m⟩:=pk;obtain⟨j,rfl,i2,i3⟩:=B;obtain⟨h,i4,_⟩:=dy i3;have S:h.cl.length<=mg:=by{have a1:=cy aC (bp i4);rw[cp]at a1;simp only[bQ]at a1 hd;omega};have C:∀y:aE,y∈l->y.ai.length<=mg:=by{intro y V;have a1:=cy bl V;rw[eF]at a1;simp only[bQ]at a1 F;omega};have x:=aqP K S (C p (bp i2)) (C e (bp a)) i3 hf i4;have R:(if Z' (m=k) && nn h.aA then lQ (keyOf h p).1 (keyOf h e).1 else Z' (m<k))=tL (Z (p,m)) s k e:=by{by_cases P:m=k;{subst P;have:h=s:=fQ (i4.symm.trans q);subst this;simp only[tL]};simp[tL,P]};rw[R]at x;simp only[aR,ax,av]at x;(have Y:IntKind.i64.wrap (((j+1:Nat):Int) - 1)=(j:Int):=by rw[wrap_i64 (by simp only[mg]at L;omega)];omega);(have X:(0:Int)<((j+1:Nat):Int):=by omega);(have hj:j<l.length:=by omega);clear hd F Q S C R;obtain⟨bf,o⟩:∃v,tL (Z (p,m)) s k e=v:=⟨_,rfl⟩;obtain⟨T,n⟩:∃v,nr s e=v:=⟨_,rfl⟩;rw[o]at x;rw[n]at A;rw[o,n];simp only[go_sem,bn,BY,w,aY,a,q,aR e,ak s,r,lE,A,H];cases T<;>cases bf<;>simp only[go_sem,PT,Y,X,aY,a,i2,aR e,aR p,x,W];(all_goals try (intro g f;cases f));all_goals exact c _ rfl) (by intro t B;simp only[go_sem,bn,BY,aG]);rw[n0,Pa (yes:=(1,[aD d,aB l,E l.length,.bool J])) (hf:=λ_=>rfl)]at N;rw[N,mb];cases Ig (jA (mh () nr d) 0 O l)<;>simp only[go_sem]
def uW(t:u (aE×Nat)):Int:=match t with
 |none=>-1
 |some (_,k)=>(k:Int)
theorem Hl{g:Type}(c:g)(nr:aq->aE->Bool)(d:M aq)(fin:u (aE×Nat)->g):∀(l:M aE) (i:Nat) (t:u (aE×Nat)),
  ∃b,sgF fin (jA (mh c nr d) i t l)=if Ig (jA (mh () nr d) i t l)=I then fin b else c
 |[],_,t=>⟨t,rfl⟩
 |e::l,i,t=>by cases a:ey d e.au with|none=>{exact⟨t,by simp only[jA,mh,a];rfl⟩}|some k=>cases f:nth d k with|none=>{exact⟨t,by simp only[jA,mh,a,f];rfl⟩}|some s=>cases h:(nr s e && tL t s k e);{exact⟨t,by simp only[jA,mh,a,f,h,aL,if_false];rfl⟩};obtain⟨b,j⟩:=Hl c nr d fin l (i+1) (Z (e,k));exact⟨b,by simp only[jA,mh,a,f,h,if_true];exact j⟩
theorem aiB{nr:aq->aE->Bool}{d:M aq}{l:M aE}(hd:bQ aC d<=mg)(y:bQ bl l<=mg)
  (w:d=[]) (B:∀s e,s∈d->e∈l->G 321 (aC s++bl e)=Z (0,[.bool (nr s e)])) :
  ∃t,bJ (lB G FX) (0,[aB l,E (-1),aB l,E l.length,E 0,aD d,aJ (d.map aq.au)])=Z (if mb nr d l=I then (1,[aB l,E (uW t),aB l,E l.length,E l.length,.bool J,aD d,aJ (d.map aq.au)]) else (0,[.bool J])):=by (have n:d.length<=mg:=by simp only[bQ]at hd;omega);(have o:l.length<=mg:=by simp only[bQ]at y;omega);have h:=Ab (b:=lB G FX) l (λi (t:u (aE×Nat))=>(0,[aB l,E (uW t),aB l,E l.length,E (i:Int),aD d,aJ (d.map aq.au)])) (mh (0,[.bool J]) nr d) (λt=>(1,[aB l,E (uW t),aB l,E l.length,E l.length,.bool J,aD d,aJ (d.map aq.au)])) (aar d l) O rfl (by intro i e t g r;have j:=bj g;have A:=wj j o;have c:=q96 (l:=d.map aq.au) (v:=e.au) (by rw[aj];exact n);rw[Ak]at c;cases a:ey d e.au with|none=>{rw[a]at c;have q:aS .pl [E (-1)]=Z (.bool J):=rfl;simp only[go_sem,bn,FX,j,aY,g,aR e,c,lE,mh,a,PT,q];intro f p;cases p}|some k=>obtain⟨s,m,_⟩:=dy a;rw[w]at m;cases m) (by intro t r;simp only[go_sem,bn,FX,aG]);obtain⟨f,x⟩:=Hl (0,[D.bool J]) nr d (λt=>(1,[aB l,E (uW t),aB l,E l.length,E l.length,.bool J,aD d,aJ (d.map aq.au)])) l 0 O;rw[n0,x]at h;exact⟨f,h⟩
theorem aiC{nr:aq->aE->Bool}{d:M aq}{l:M aE}(hd:bQ aC d<=mg)(KZ:bQ bl l<=mg)
  (hN:∀s e,s∈d->e∈l->G 321 (aC s++bl e)=Z (0,[.bool (nr s e)])) :
  ∃t,bJ (lB G ue) (0,[aB l,E (-1),aB l,E l.length,E 0,aD d,aJ (d.map aq.au)])=Z (if mb nr d l=I then (1,[aB l,E (uW t),aB l,E l.length,E l.length,.bool J,aD d,aJ (d.map aq.au)]) else (0,[.bool J])):=by (have vj:d.length<=mg:=by simp only[bQ]at hd;omega);(have qK:l.length<=mg:=by simp only[bQ]at KZ;omega);have hl:=Ab (b:=lB G ue) l (λi (t:u (aE×Nat))=>(0,[aB l,E (uW t),aB l,E l.length,E (i:Int),aD d,aJ (d.map aq.au)])) (mh (0,[.bool J]) nr d) (λt=>(1,[aB l,E (uW t),aB l,E l.length,E l.length,.bool J,aD d,aJ (d.map aq.au)])) (aar d l) O rfl (by intro i e t q X;have C:=bj q;have V:=wj C qK;have w:=q96 (l:=d.map aq.au) (v:=e.au) (by rw[aj];exact vj);rw[Ak]at w;cases F:ey d e.au with|none=>{rw[F]at w;have B:aS .pl [E (-1)]=Z (.bool J):=rfl;simp only[go_sem,bn,ue,C,aY,q,aR e,w,lE,mh,F,PT,B];intro m g;cases g}|some k=>rw[F]at w;obtain⟨s,L,h2⟩:=dy F;have H:=hN s e (bp L) (bp q);(have N:Z' ((k:Int)<0)=J:=by simp only[decide_eq_false_iff_not];omega);simp only[ak,aR,ax,av]at H;have B:aS .pl [E (k:Int)]=Z (.bool J):=rfl;have S:=SH L;have R:=jh 19 J (d.map aC) k (by rw[aj];exact bj L);have f:∀m,Sg.go (Z (e,k))=(Sg.go m:Sg (u (aE×Nat)) (Nat×M D))->aar d l (i+1) m:=by{intro m g;cases g;exact⟨i,rfl,q,F⟩};(have nY:mh (0,[D.bool J]) nr d i t e=if (nr s e && tL t s k e)=I then .go (Z (e,k)) else .out (0,[D.bool J]):=by simp only[mh,F,L]);rw[nY];have b1:∀y:aq,y∈d->y.cl.length<=mg:=by{intro y U;have a1:=cy aC U;rw[cp]at a1;simp only[bQ]at a1 hd;omega};have b2:∀y:aE,y∈l->y.ai.length<=mg:=by{intro y U;have a1:=cy bl U;rw[eF]at a1;simp only[bQ]at a1 KZ;omega};clear hN hd KZ;cases t with|none=>{obtain rfl:i=0:=X;(have x:Z' ((k:Int) < -1)=J:=by simp only[decide_eq_false_iff_not];omega);(have P:Z' ((k:Int)=-1)=J:=by simp only[decide_eq_false_iff_not];omega);obtain⟨K,h⟩:∃v,nr s e=v:=⟨_,rfl⟩;rw[h]at H;rw[h];simp only[go_sem,bn,ue,C,aY,q,aR e,ak s,w,lE,H,N,tL,uW,B,S,R,x];cases K<;>simp only[go_sem,PT,V,P];{intro m g;cases g};exact f}|some pk=>obtain⟨p,r⟩:=pk;obtain⟨j,rfl,i2,i3⟩:=X;have g2:=arb (n:=s) (a:=p) (b:=e) (b1 s (bp L)) (b2 p (bp i2)) (b2 e (bp q));simp only[ak,aR,ax,av]at g2;(have e1:IntKind.i64.wrap (((j+1:Nat):Int) - 1)=(j:Int):=by rw[wrap_i64 (by simp only[mg]at qK;omega)];omega);(have hj:j<l.length:=by omega);obtain⟨Y,A⟩:∃v,tL (Z (p,r)) s k e=v:=⟨_,rfl⟩;obtain⟨K,h⟩:∃v,nr s e=v:=⟨_,rfl⟩;have Q:Y=if r=k then Z' (JJ s p e<0) else Z' (r<k):=by{rw[<- A];by_cases hk:r=k;{subst hk;cases hr:nn s.aA<;>simp[tL,hr,JJ,OC]};simp[tL,hk]};rw[h]at H;rw[A,h];clear b1 b2 nY A;obtain⟨o,ho⟩:∃v,Z' (0<=JJ s p e)=v:=⟨_,rfl⟩;(have W:Z' (JJ s p e<0)=!o:=by rw[<- ho,<- decide_not];apply decide_eq_decide.2;omega);rcases Nat.lt_trichotomy k r with c|c|c;{(have x:Z' ((k:Int)<(r:Int))=I:=by simp only[decide_eq_true_eq];omega);(have T:Y=J:=by rw[Q,if_neg (by omega)];simp only[decide_eq_false_iff_not];omega);subst T;simp only[go_sem,bn,ue,C,aY,q,aR e,w,lE,N,uW,B,x];cases K<;>simp only[go_sem,PT];all_goals (intro m g;cases g)};{subst c;(have x:Z' ((k:Int)<(k:Int))=J:=by simp);(have P:Z' ((k:Int)=(k:Int))=I:=by simp);rw[if_pos rfl,W]at Q;subst Q;simp only[go_sem,bn,ue,C,aY,q,aR e,ak s,w,lE,H,N,uW,B,S,R,x];cases K<;>cases o<;>simp only[go_sem,PT,V,e1,aY,i2,aR p,g2,ho];all_goals first|exact⟨rfl,f⟩|exact f|(intro m g;cases g)};(have x:Z' ((k:Int)<(r:Int))=J:=by simp only[decide_eq_false_iff_not];omega);(have P:Z' ((k:Int)=(r:Int))=J:=by simp only[decide_eq_false_iff_not];omega);(have T:Y=I:=by rw[Q,if_neg (by omega)];simp only[decide_eq_true_eq];omega);subst T;simp only[go_sem,bn,ue,C,aY,q,aR e,ak s,w,lE,H,N,uW,B,S,R,x];cases K<;>simp only[go_sem,PT,V,P];all_goals first|exact⟨rfl,f⟩|exact f|(intro m g;cases g)) (by intro t X;simp only[go_sem,bn,ue,aG]);obtain⟨m,h'⟩:=Hl (0,[D.bool J]) nr d (λt=>(1,[aB l,E (uW t),aB l,E l.length,E l.length,.bool J,aD d,aJ (d.map aq.au)])) l 0 O;rw[n0,h']at hl;exact⟨m,hl⟩
def anK{nr:aq->aE->Bool}{ks:M aq}{l:M aE}(d:bQ aC ks<=mg)(h:bQ bl l<=mg)
  (f:∀s e,s∈dk ks->e∈l->G 321 (aC s++bl e)=Z (0,[.bool (nr s e)])):G 322 [aD ks,aB l]=Z (0,[.bool (mb nr (dk ks) l)]):=by have hd:=aV (my (es:=ks)) d;(have j:(dk ks).length<=mg:=by simp only[bQ]at hd;omega);have g:=q94 d;have i:=q95 (l:=dk ks) j;refine ch t322 rfl ?_;simp only[go_sem,t322];by_cases b:dk ks=[];{(have c:kE (dk ks)=0:=by rw[b];rfl);obtain⟨t,a⟩:=aiB hd h b f;simp only[go_sem,g,c,i,a];cases mb nr (dk ks) l<;>simp only[go_sem]};have c:kE (dk ks)=1:=kJ b;obtain⟨t,a⟩:=aiC hd h f;simp only[go_sem,g,c,i,a];cases mb nr (dk ks) l<;>simp only[go_sem]
def qm(a:z->Bool)(mt:z->z->Bool):Nat->aq->aE->Bool
 |0,_,_=>J
 |N+1,n,x=>Ax a mt (mb (qm a mt N)) n x
theorem aik{a:z->Bool}{mt:z->z->Bool}(i:∀s:z,s.size<=mg->G 227 [.str s]=Z (0,[.bool (a s)]))(j:∀p s:z,p.size<=mg->s.size<=mg->G 236 [.str p,.str s]=Z (0,[.bool (mt p s)]))
  (N:Nat):∀(n:aq) (x:aE),aF x<N->eu (aC n)<=mg->eu (bl x)<=mg->G 245 (aC n++bl x)=Z (0,[.bool (qm a mt N n x)]):=by induction N with|zero=>{intro n x h;omega}|succ N f=>intro n x h c b;refine aqN (r:=mb (qm a mt N)) i j c b ?_;have a1:=c;have a2:=b;rw[cp]at a1;rw[eF]at a2;have l:bQ aC (dk n.ai)<=mg:=aV my (by omega);(have k:bQ bl x.ai<=mg:=by omega);refine anu l k ?_;intro s e g d;have c1:=cy aC g;have o:=cy bl d;have m:=aE.uT d;exact f s e (by omega) (by omega) (by omega)
theorem SF(n:Nat):∀(es:M aq),aF es<n->∀s,s∈dk es->j6 s.aA=I:=by induction n with|zero=>{intro es h;omega}|succ n b=>intro es h s a;cases es with|nil=>{rw[mR]at a;cases a}|cons e es=>rw[jQ]at a;rcases aZ.1 a with a|a;{unfold sL at a;split at a;{rename_i c;rw[bO.1 a];exact c};split at a;{have d:=aq.gu e es;exact b e.ai (by omega) s a};cases a};exact b es (by simp only[bM]at h;omega) s a
def Zi{k:Int}(h:j6 k=I):k=1\/k=2\/k=3\/k=4:=by simp only[j6,eB,aw,decide_eq_true_eq]at h;omega
theorem aiA{a:z->Bool}{mt:z->z->Bool}(k:∀s:z,s.size<=mg->G 285 [.str s]=Z (0,[.bool (a s)]))(l:∀p s:z,p.size<=mg->s.size<=mg->G 310 [.str p,.str s]=Z (0,[.bool (mt p s)]))
  (N:Nat):∀(n:aq) (x:aE),aF x<N->j6 n.aA=I->eu (aC n)<=mg->eu (bl x)<=mg->G 321 (aC n++bl x)=Z (0,[.bool (qm a mt N n x)]):=by induction N with|zero=>{intro n x h;omega}|succ N i=>intro n x h j d b;refine aq8 (r:=mb (qm a mt N)) k l d b (Zi j) ?_;have a1:=d;have a2:=b;rw[cp]at a1;rw[eF]at a2;(have g:bQ aC n.ai<=mg:=by omega);have t:bQ aC (dk n.ai)<=mg:=aV my g;(have m:bQ bl x.ai<=mg:=by omega);refine anK g m ?_;intro s e c f;have c1:=cy aC c;have q:=cy bl f;have o:=aE.uT f;exact i s e (by omega) (SF _ _ (aW _) s c) (by omega) (by omega)
noncomputable def tZ(a:z->Bool)(mt:z->z->Bool)(ok:Bool)(s:M aq)(l:M aE):Bool:=
 ok && (Z' (bz l<=120) && mb (qm a mt (aF l)) (dk s) l)
def afT{l:M aE}{e:aE}(h:e∈l):aF e<aF l:=bD h
def aqQ{a:z->Bool}{mt:z->z->Bool}(j:∀s:z,s.size<=mg->G 227 [.str s]=Z (0,[.bool (a s)]))(k:∀p s:z,p.size<=mg->s.size<=mg->G 236 [.str p,.str s]=Z (0,[.bool (mt p s)]))
  {ok:Bool} {s:M aq} {l:M aE} (f:bQ aC s<=mg) (h:bQ bl l<=mg) (t:G 241 [aD s]=Z (0,[.bool ok])):G 250 [aD s,aB l]=Z (0,[.bool (tZ a mt ok s l)]):=by obtain⟨r,A,m⟩:=aqM (l:=l) (x:=120) h (by omega) (by omega);have y:=q81 f;have w:=anu (nr:=qm a mt (aF l)) (d:=dk s) (l:=l) (aV my f) h (by intro o e n i;have c1:=cy aC n;have C:=cy bl i;have B:=my (es:=s);exact aik j k _ o e (afT i) (by omega) (by omega));have g:Z' (0<=r)=Z' (bz l<=120):=by{apply decide_eq_decide.2;unfold DE at m;omega};have q:∀b:Bool,aS .pl [.bool b]=Z (.bool J):=λb=>rfl;clear j k m;refine ch t250 rfl ?_;simp only[go_sem,t250,t,tZ];obtain⟨v,c⟩:∃v,Z' (bz l<=120)=v:=⟨_,rfl⟩;rw[c]at g;cases ok<;>cases v<;>simp only[go_sem,A,y,w,g,c,q]
def arc{a:z->Bool}{mt:z->z->Bool}(i:∀s:z,s.size<=mg->G 285 [.str s]=Z (0,[.bool (a s)]))(j:∀p s:z,p.size<=mg->s.size<=mg->G 310 [.str p,.str s]=Z (0,[.bool (mt p s)]))
  {ok:Bool} {s:M aq} {l:M aE} (k:bQ aC s<=mg) (g:bQ bl l<=mg) (m:G 316 [aD s]=Z (0,[.bool ok])):G 327 [aD s,aB l]=Z (0,[.bool (tZ a mt ok s l)]):=by have o:=aq7 g;have n:=anK (nr:=qm a mt (aF l)) (ks:=s) (l:=l) k g (by intro c e b h;have c1:=cy aC b;have r:=cy bl h;have q:=my (es:=s);exact aiA i j _ c e (afT h) (SF _ _ (aW _) c b) (by omega) (by omega));(have f:Z' ((bz l:Int)<=120)=Z' (bz l<=120):=by apply decide_eq_decide.2;omega);clear i j;refine ch aop rfl ?_;simp only[go_sem,aop,m,tZ];obtain⟨v,d⟩:∃v,Z' (bz l<=120)=v:=⟨_,rfl⟩;rw[d]at f;cases ok<;>cases v<;>simp only[go_sem,o,n,f,d]
section
variable {ip:z->Bool} {mt:z->z->Bool}
def Rt(ip:z->Bool)(mt:z->z->Bool)(d:M aq)(l:M aE):Prop:=∃N,mb (qm ip mt N) d l=I
theorem Cz{nr:aq->aE->Bool}{d:M aq}:∀{l:M aE} {i:Nat} {t:u (aE×Nat)},Ig (jA (mh () nr d) i t l)=I->∀x∈l,∃k n,ey d x.au=Z k/\nth d k=Z n/\nr n x=I
 |e::l,i,t,h,x,c=>by cases a:ey d e.au with|none=>{simp only[jA,mh,a]at h;cases h}|some k=>cases b:nth d k with|none=>{simp only[jA,mh,a,b]at h;cases h}|some s=>cases f:(nr s e && tL t s k e) with|false=>{simp only[jA,mh,a,b,f,aL,if_false]at h;cases h}|true=>simp only[jA,mh,a,b,f,if_true]at h;rcases aU.1 c with rfl|c;{exact⟨k,s,a,b,(aw _ _▸f).1⟩};exact Cz h x c
theorem age{d:M aq}:Rt ip mt d []:=⟨0,rfl⟩
theorem agd{d:M aq}{l:M aE}(h:Rt ip mt d l){x:aE}(c:x∈l):∃k n,ey d x.au=Z k/\nth d k=Z n/\(n.aA=2->(keyOf n x).2=I)/\Rt ip mt (dk n.ai) x.ai:=by obtain⟨N,e⟩:=h;obtain⟨k,n,g,f,a⟩:=Cz e x c;refine⟨k,n,g,f,?_⟩;cases N with|zero=>{cases a}|succ N=>simp only[qm,Ax]at a;split at a;{rename_i b;simp only[dE,decide_eq_true_eq]at b;simp only[aw,decide_eq_true_eq]at a;refine⟨λh=>by omega,?_⟩;rw[fe.1 a.1];exact age};split at a;{simp only[aw]at a;exact⟨λ_=>a.1,N,a.2.2⟩};rename_i b;simp only[aw]at a;refine⟨λh=>by simp[h]at b,N,a.2.2⟩
theorem VI{ok:Bool}{s:M aq}{l:M aE}(h:tZ ip mt ok s l=I):Rt ip mt (dk s) l:=by simp only[tZ,aw]at h;exact⟨_,h.2.2⟩
end
theorem M7:∀{a b c:M UInt8},Op.bytesLess a b=I->Op.bytesLess b c=I->Op.bytesLess a c=I
 |_,[],_,h,_=>by rename_i a c;cases a<;>simp[Op.bytesLess]at h
 |_,_::_,[],_,h=>by simp[Op.bytesLess]at h
 |[],_::_,_::_,_,_=>by simp[Op.bytesLess]
 |x::a,y::b,d::c,f,e=>by simp only[Op.bytesLess,dE,decide_eq_true_eq,aw,beq_iff_eq]at f e ⊢;rcases f with f|⟨rfl,f⟩;{rcases e with e|⟨rfl,e⟩;{have a1:x.toNat<y.toNat:=f;have a2:y.toNat<d.toNat:=e;exact .inl (show x.toNat<d.toNat by omega)};exact .inl f};rcases e with e|⟨rfl,e⟩;{exact .inl e};exact .inr ⟨rfl,M7 f e⟩
def ab3{a b c:z}(e:nL a b=I)(d:nL b c=I):nL a c=I:=M7 e d
def OD(a:M z):lQ a []=J:=by cases a<;>simp[lQ,Ap]
def aa8(y:z)(b:M z):lQ [] (y::b)=I:=by simp[lQ,Ap]
def WY(x y:z)(a b:M z):lQ (x::a) (y::b)=if x=y then lQ a b else nL x y:=by unfold lQ;rw[Ap];by_cases h:x=y;{subst h;simp[lsC]};simp[lsC,h]
theorem Gw:∀{a b c:M z},lQ a b=I->lQ b c=I->lQ a c=I
 |a,[],c,h,_=>by rw[OD]at h;cases h
 |a,y::b,[],_,h=>by rw[OD]at h;cases h
 |[],y::b,d::c,_,_=>aa8 d c
 |x::a,y::b,d::c,g,f=>by rw[WY]at g f ⊢;by_cases k:x=y;{subst k;rw[if_pos rfl]at g;by_cases i:x=d;{rw[if_pos i]at f ⊢;exact Gw g f};rw[if_neg i]at f ⊢;exact f};rw[if_neg k]at g;by_cases i:y=d;{subst i;rw[if_neg k];exact g};rw[if_neg i]at f;have j:=ab3 g f;(have l:¬x=d:=λe=>by rw[e,ab2]at j;cases j);rw[if_neg l];exact j
def aeK(d:M aq)(i:Nat):Bool:=match nth d i with
 |some n=>nn n.aA
 |none=>J
def ahl(d:M aq)(i:Nat)(x:aE):M z:=match nth d i with
 |some n=>(keyOf n x).1
 |none=>[]
def XS(d:M aq)(x y:aE):Bool:=match ey d x.au,ey d y.au with
 |some i,Z k=>if (Z' (i=k) && aeK d i)=I then lQ (ahl d i x) (ahl d i y) else Z' (i<k)
 |_,_=>J
theorem UQ{d:M aq}{x y a:aE}(c:XS d x y=I)(b:XS d y a=I):XS d x a=I:=by unfold XS at *;cases l:ey d x.au with|none=>{simp[l]at c}|some i=>cases f:ey d y.au with|none=>{simp[f]at b}|some j=>cases h:ey d a.au with|none=>{simp[f,h]at b}|some k=>simp only[l,f]at c;simp only[f,h]at b;simp only;by_cases g:i=j;{subst g;by_cases e:i=k;{subst e;cases m:aeK d i<;>simp[m]at c b ⊢;exact Gw c b};simp only[e,decide_false,dH,aL,if_false]at b ⊢;exact b};simp only[g,decide_false,dH,aL,if_false,decide_eq_true_eq]at c;by_cases e:j=k;{subst e;simp only[g,decide_false,dH,aL,if_false,decide_eq_true_eq];exact c};simp only[e,decide_false,dH,aL,if_false,decide_eq_true_eq]at b;(have n:¬i=k:=by omega);simp only[n,decide_false,dH,aL,if_false,decide_eq_true_eq];omega
def Srt(d:M aq)(l:M aE):Prop:=l.Pairwise λx y=>XS d x y=I
def Okn(nr:aq->aE->Bool)(d:M aq)(x:aE):Prop:=∃k n,ey d x.au=Z k/\nth d k=Z n/\nr n x=I
def acX{d:M aq}{p e:aE}{a k:Nat}{s:aq}(c:ey d p.au=Z a)(f:ey d e.au=Z k)(b:nth d k=Z s):tL (Z (p,a)) s k e=XS d p e:=by unfold tL XS;simp only[c,f];by_cases h:a=k;{subst h;simp only[aeK,ahl,b]};simp only[h,decide_false,dH,aL,if_false]
theorem NZ{nr:aq->aE->Bool}{d:M aq}:∀{l:M aE} {i:Nat} {t:u (aE×Nat)},(∀p k,t=Z (p,k)->ey d p.au=Z k)->
  (Ig (jA (mh () nr d) i t l)=I↔(∀x∈l,Okn nr d x)/\Srt d l/\∀p k,t=Z (p,k)->∀x∈l,XS d p x=I)
 |[],i,t,m=>by simp[jA,Ig,Srt]
 |e::l,i,t,m=>by cases c:ey d e.au with|none=>{simp only[jA,mh,c,Ig,aL,false_iff];rintro⟨h,_⟩;obtain⟨k,n,b,_⟩:=h e dV;rw[c]at b;cases b}|some k=>cases b:nth d k with|none=>{simp only[jA,mh,c,b,Ig,aL,false_iff];rintro⟨h,_⟩;obtain⟨a,n,v,r,_⟩:=h e dV;rw[c]at v;cases v;rw[b]at r;cases r}|some s=>(have o:∀p a,t=Z (p,a)->tL t s k e=XS d p e:=λp a h=>by rw[h];exact acX (m p a h) c b);have y:=NZ (nr:=nr) (l:=l) (i:=i+1) (t:=Z (e,k)) (d:=d) (λp a h=>by cases h;exact c);simp only[jA,mh,c,b];by_cases f:(nr s e && tL t s k e)=I;{rw[if_pos f];simp only;rw[y];simp only[aw]at f;constructor;{rintro⟨a1,a2,a3⟩;refine⟨cz.2 ⟨⟨k,s,c,b,f.1⟩,a1⟩,List.pairwise_cons.2 ⟨a3 e k rfl,a2⟩,λp a h=>?_⟩;(have g:XS d p e=I:=by rw[<- o p a h];exact f.2);exact cz.2 ⟨g,λx j=>UQ g (a3 e k rfl x j)⟩};rintro⟨a1,a2,a3⟩;have a4:=List.pairwise_cons.1 a2;exact⟨λx j=>a1 x (dO _ j),a4.2,λp a h=>by cases h;exact a4.1⟩};rw[if_neg f];simp only[Ig,aL,false_iff];rintro⟨a1,a2,a3⟩;apply f;obtain⟨a,n,g,w,A⟩:=a1 e dV;rw[c]at g;cases g;rw[b]at w;cases w;rw[A,dw];cases t with|none=>{rfl}|some q=>obtain⟨p,a⟩:=q;rw[o p a rfl];exact a3 p a rfl e dV
def Xq{nr:aq->aE->Bool}{d:M aq}{l:M aE}:mb nr d l=I↔(∀x∈l,Okn nr d x)/\Srt d l:=by unfold mb;rw[NZ (λp k h=>by cases h)];simp
def l_:z:=⟨#[]⟩
def xd(s:M aq)(a:z):u aq:=match ey (dk s) a with
 |some k=>nth (dk s) k
 |none=>O
def LR{s:M aq}{a:z}{n:aq}(h:xd s a=Z n):∃k,ey (dk s) a=Z k/\nth (dk s) k=Z n/\n.au=a/\n∈dk s:=by unfold xd at h;split at h;{rename_i k b;obtain⟨e,c,d⟩:=dy b;rw[h]at c;cases c;exact⟨k,b,h,by simpa using d,bp h⟩};cases h
def ZX{a:Type}{p:a->Bool}{l:M a}{k:Nat}(h:u7 p l k=O){x:a}(d:x∈l):p x=J:=by have c:=pV (p:=p) (l:=l) (k:=k);rw[h]at c;have b:l.any p=J:=c.symm;rw[List.any_eq_false]at b;simpa using b x d
section
variable {d:M aq} {n:aq} {k:Nat} (hk:ey d n.au=Z k) (hn:nth d k=Z n)
include hk hn
end
end Go.Proofs.YtgnmdaifiodnnaaGreatDoor
