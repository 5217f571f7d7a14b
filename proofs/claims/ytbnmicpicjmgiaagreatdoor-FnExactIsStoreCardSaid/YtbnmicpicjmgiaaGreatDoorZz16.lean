/- Part of the proof. Condition: none. -/
import Derived.Test.YtbnmicpicjmgiaaGreatDoorZz10
set_option linter.all false
open Bool renaming and_eq_true->aw,false_eq_true->aQ,not_false->db,false_ne_true->dh,not_eq_true'->dm,not_true->dr,true_and->dC,false_and->dK,eq_false_iff->dQ,eq_iff_iff->dS,or_eq_true->eY,false_or->fU,not_not->iO,and_assoc->iW,true->I,false->J
open ByteArray renaming size->nH,data_append->n8,ext->sE
open Int renaming toNat_natCast->cn,lt_irrefl->ee,neg_neg->uG
open List renaming length_map->aj,nil_append->au,cons_append->av,length_append->ay,append_nil->aG,length_nil->aJ,length_singleton->aL,length_cons->aN,mem_cons->aU,mem_append->aX,append_assoc->aZ,length_take->bk,take_length->bl,take_zero->br,forall_mem_cons->bw,map_cons->bz,sizeOf_lt_of_mem->bB,all_eq_true->bF,drop_zero->bQ,take_append_drop->cp,mem_singleton->ct,take_succ_cons->cy,map_append->cE,map_nil->cO,cons_ne_nil->cR,drop_of_length_le->cS,nodup_cons->cW,length_eq_one_iff->dd,all_cons->dt,mem_map_of_mem->dH,isEmpty_iff->dR,mem_cons_of_mem->eb,isEmpty_nil->ei,mem_cons_self->eo,drop_length->eI,length_filter_le->eR,map_id'->eX,length_eq_zero_iff->eZ,flatMap_cons->fe,any_eq_true->fC,sum_cons->gC,any_cons->g_,isEmpty_cons->i_,flatMap_nil->jL,length_pos_iff->kJ,filter_append->k9,take_left->n9,filter_cons->oZ,flatMap_append->qB,length_filterMap_le->uI,map_take->uJ,not_mem_nil->vb,take_of_length_le->wE,filterMap->zo,filter_sublist->A_
open List.cons renaming sizeOf_spec->bJ
open Nat renaming lt_irrefl->aE,le_refl->aH,le_trans->aS,lt_succ_self->aT,zero_le->bI,zero_add->bN,add_zero->dY,lt_or_ge->dZ,reduceAdd->eg,mul_le_mul->gD,add_mul->mj,le_mul_of_pos_left->xp
open Option renaming map_eq_some_iff->aC,isSome_none->bp,isSome_some->bR,map_some->cV,some->Z,none->O
open Option.some renaming inj->hO
open SizeOf renaming sizeOf->aF
open UInt8 renaming ofNat->dT
open Decidable renaming decide->Z'
namespace Go.Proofs.YtbnmicpicjmgiaaGreatDoor
set_option maxRecDepth 100000
set_option maxHeartbeats 4000000
set_option maxHeartbeats 8000000
def ix(l:M z)(v:z):u Nat:=uZ (λe=>Z' (v=e)) l 0
theorem pW{a:Type}{p:a->Bool}:∀{l:M a} {k:Nat},(uZ p l k).isSome=l.any p
 |[],_=>rfl
 |e::l,k=>by simp only[uZ,g_];by_cases h:p e=I;{simp[h]};simp[h,pW (l:=l)]
def iB(l:M z)(v:z):Bool:=l.any λe=>Z' (v=e)
def aaH{l:M z}{v:z}:iB l v=I↔v∈l:=by simp[iB]
def adT{l:M z}{v:z}:iB l v=J↔v∉l:=by rw[<- aaH];simp
def ahW(l:M z)(v:z):(ix l v).isSome=iB l v:=by rw[ix,pW,iB]
theorem q96{l:M z}{v:z}(f:l.length<=mg):G 96 [aI l,.str v]=Z (0,[E (lx (ix l v))]):=by refine bW t96 rfl ?_;simp only[go_sem,t96];have c:=vB (b:=lB G T3) l (λi=>(0,[aI l,.str v,E l.length,E (i:Int)])) (λe=>Z' (v=e)) (1,[aI l,.str v,E l.length,E l.length,.bool J]) (λi e=>(0,[E (i:Int)])) (by intro i e a;have d:=aY a;have k:=wj d f;simp only[go_sem,bc,T3,d,aV,a,gm];(repeat' (first|with_reducible rfl|((first|rw[gN]|rw[gQ]|rw[gM]|rw[gP]);split<;>simp only[go_sem, *])));all_goals simp_all) (by simp only[go_sem,bc,T3,aE]);rw[n0]at c;rw[aj,c];unfold ix;cases g:uZ (λe=>Z' (v=e)) l 0 with|none=>{simp only[go_sem,lx]}|some j=>obtain⟨e,h,m⟩:=dw g;simp only[go_sem,h,lx]
theorem Rx(o:u Nat):Z' (0<=lx o)=o.isSome:=by cases o with|none=>{rfl}|some j=>simp[lx]
def q99{l:M z}{v:z}(a:l.length<=mg):G 99 [aI l,.str v]=Z (0,[.bool (iB l v)]):=by refine bW t99 rfl ?_;simp only[go_sem,t99,q96 a,Rx,ahW]
def aeV(k:Nat)(a:Bool)(es:M (M D))(n:Nat)(h:n<=es.length):aP (.cut I) [.list k a es,E 0,E (n:Int)]=Z (.list k a (es.take n)):=by simp[aP,dI,h]
def tL(l:M z):Bool:=allI (λi e=>!iB (l.take i) e) 0 l
theorem GQ:∀(m:M z) (l:M z) ,allI (λi e=>!iB ((m++l).take i) e) m.length l=I↔l.Nodup/\∀e∈l,e∉m
 |m,[]=>by simp[allI]
 |m,e::l=>by have c:=GQ (m++[e]) l;rw[aZ,ay]at c;simp only[allI,aw,cW];simp only[aN,aJ,List.singleton_append,bN]at c;rw[c];simp only[List.take_left',dm,adT,aX,aU,vb,or_false,not_or];refine⟨λ⟨f,d,b⟩=>⟨⟨λh=>(b e h).2 rfl,d⟩,λx a=>?_⟩,λ⟨⟨f,d⟩,b⟩=>⟨b e (.inl rfl),d,λx a=>⟨b x (.inr a),λh=>f (h▸a)⟩⟩⟩;rcases a with rfl|a;{exact f};exact (b x a).1
def sK(l:M z):tL l=I↔l.Nodup:=by have:=GQ [] l;simpa [tL] using this
def XF{l:M z}(g:l.length<=mg):G 257 [aI l]=Z (0,[.bool (tL l)]):=by refine bW t257 rfl ?_;simp only[go_sem,t257];have d:=qZ (b:=lB G LA) l (λi=>(0,[aI l,E l.length,E (i:Int)])) (λi e=>!iB (l.take i) e) (1,[aI l,E l.length,E l.length,.bool J]) (0,[.bool J]) (by intro i e c;have f:=aY c;have j:=wj f g;have h:aP (.cut I) [aI l,E 0,E (i:Int)]=Z (aI (l.take i)):=by{rw[aeV _ _ _ _ (by rw[aj];omega),<- uJ]};have a:=q99 (l:=l.take i) (v:=e) (by rw[bk];omega);simp only[go_sem,bc,LA,f,aV,c,gm,h,a];(repeat' (first|with_reducible rfl|((first|rw[gN]|rw[gQ]|rw[gM]|rw[gP]);split<;>simp only[go_sem, *])));all_goals simp_all) (by simp only[go_sem,bc,LA,aE]) l.length 0 (by omega);rw[n0]at d;rw[aj,d];rw[show tL l=allI (λi e=>!iB (l.take i) e) 0 (l.drop 0) from rfl];cases allI (λi e=>!iB (l.take i) e) 0 (l.drop 0)<;>simp only[go_sem]
def ai8{l:M z}(h:bO gm l<=mg):G 271 [aI l]=Z (0,[.bool (l.all isName)]):=by refine bW t271 rfl ?_;simp only[go_sem,t271];(have a:l.length<=mg:=by simp only[bO]at h;omega);have f:=gJ (b:=lB G LH) l (λi=>(0,[aI l,E l.length,E (i:Int)])) isName (1,[aI l,E l.length,E l.length,.bool J]) (0,[.bool J]) (by intro i e c;have g:=aY c;have j:=wj g a;have d:=afb (s:=e) (by have:=UN l (bj c);omega);simp only[go_sem,bc,LH,g,aV,c,gm,d];(repeat' (first|with_reducible rfl|((first|rw[gN]|rw[gQ]|rw[gM]|rw[gP]);split<;>simp only[go_sem, *])));all_goals simp_all) (by simp only[go_sem,bc,LH,aE]);rw[n0]at f;rw[aj,f];cases l.all isName<;>simp only[go_sem]
theorem Tx{o f n:Type}{b:f->u (Sg f n)}(es:M o)(mk:Nat->f)(p:Nat->o->Bool)(a g:n)
  (q:∀i e,nth es i=Z e->(∀j x,j<i->nth es j=Z x->p j x=I)->b (mk i)=Z (if p i e=I then .go (mk (i+1)) else .out g))
  (r:b (mk es.length)=Z (.out a)):∀m i,i+m=es.length->(∀j x,j<i->nth es j=Z x->p j x=I)->bG b (mk i)=Z (if allI p i (es.drop i)=I then a else g)
 |0,i,h,c=>by (obtain rfl:i=es.length:=by omega);rw[aK r,eI];rfl
 |m+1,i,h,s=>by have a1:=dG (l:=es) (i:=i) (by omega);have d:=q i _ a1 s;(have w:allI p i (es.drop i)=(p i (es[i]'(by omega)) && allI p (i+1) (es.drop (i+1))):=by rw[fJ es i _ a1];rfl);rw[w];by_cases c:p i (es[i]'(by omega))=I;{rw[if_pos c]at d;rw[bD d,c,dC];refine Tx es mk p a g q r m (i+1) (by omega) λj x v k=>?_;rcases dZ j i with t|t;{exact s j x t k};(obtain rfl:j=i:=by omega);rw[a1]at k;cases k;exact c};rw[if_neg c]at d;rw[aK d,dQ.2 c,dK,if_neg dh]
def Oc{g c f:Type}{b:c->u (Sg c f)}(es:M g)(mk:Nat->c)(p:Nat->g->Bool)(a d:f)
  (k:∀i e,nth es i=Z e->(∀j x,j<i->nth es j=Z x->p j x=I)->b (mk i)=Z (if p i e=I then .go (mk (i+1)) else .out d))
  (l:b (mk es.length)=Z (.out a)):bG b (mk 0)=Z (if allI p 0 es=I then a else d):=
 Tx es mk p a d k l es.length 0 (by omega) λj x h _=>by omega
def apart(l:M kv)(i:Nat)(e:kv):Bool:=match i with
 |0=>I
 |i+1=>match nth l i with
  |some p=>Z' (p.hi+1<e.lo)
  |none=>I
def P_(l:M kv)(i:Nat)(e:kv):Bool:=Z' (e.lo<=e.hi) && (Z' (-1000000000<=e.lo) && (Z' (e.hi<=1000000000) && apart l i e))
def Ey(l:M kv):Bool:=allI (P_ l) 0 l && Z' (l.length<=6)
def ux{l:M kv}{i:Nat}{e:kv}:P_ l i e=I↔e.lo<=e.hi/\-1000000000<=e.lo/\e.hi<=1000000000/\apart l i e=I:=by simp[P_]
def wZ{l:M kv}{i:Nat}{e:kv}(h:¬(e.lo<=e.hi/\-1000000000<=e.lo/\e.hi<=1000000000)):P_ l i e=J:=by rw[dQ];intro a;have:=ux.1 a;exact h ⟨this.1,this.2.1,this.2.2.1⟩
def le6(n:Nat):Z' ((n:Int)<=6)=Z' (n<=6):=by rw[dS];simp;omega
theorem arK{l:M kv}(j:l.length<=mg):G 215 [gR l]=Z (0,[.bool (Ey l)]):=by refine bW t215 rfl ?_;simp only[go_sem,t215];have k:=Oc (b:=lB G Lp) l (λi=>(0,[gR l,E (i:Int)])) (P_ l) (1,[gR l,E l.length,.bool J]) (0,[.bool J]) (by intro i e a t;have m:=aY a;have h:=wj m j;simp only[go_sem,bc,Lp,m,aV,a,lD,aj];by_cases c:e.hi<e.lo;{simp only[go_sem,c,wZ (l:=l) (i:=i) (e:=e) (by omega)]};by_cases f:e.lo < -1000000000;{simp only[go_sem,c,f,wZ (l:=l) (i:=i) (e:=e) (by omega),aV,a,lD]};by_cases g:1000000000<e.hi;{simp only[go_sem,c,f,g,wZ (l:=l) (i:=i) (e:=e) (by omega),aV,a,lD]};cases i with|zero=>{have d:P_ l 0 e=I:=ux.2 ⟨by omega,by omega,by omega,rfl⟩;simp only[go_sem,c,f,g,d,aV,a,lD,n0,ee];simp only[go_sem,n0]at h;rw[h]}|succ i=>have a1:=dG (l:=l) (i:=i) (by omega);have s:=ux.1 (t i _ (by omega) a1);generalize l[i]'(by omega)=p at a1 s;(have r:IntKind.i64.wrap (((i+1:Nat):Int) - 1)=(i:Int):=by rw[wrap_i64 (by simp only[mg]at j;omega)];omega);have q:IntKind.i64.wrap (p.hi+1)=p.hi+1:=wrap_i64 (by omega);(have o:(0:Int)<((i+1:Nat):Int):=by omega);by_cases n:e.lo<=p.hi+1;{have d:P_ l (i+1) e=J:=by{simp only[P_,apart,a1];(have:Z' (p.hi+1<e.lo)=J:=by simp;omega);simp[this]};simp only[go_sem,c,f,g,n,d,aV,a,lD,r,q,o,a1]};have d:P_ l (i+1) e=I:=ux.2 ⟨by omega,by omega,by omega,by simp only[apart,a1];simp;omega⟩;simp only[go_sem,c,f,g,n,d,aV,a,lD,r,q,o,a1,h]) (by simp only[go_sem,bc,Lp,aE,aj]);rw[n0]at k;rw[k];unfold Ey;cases allI (P_ l) 0 l with|false=>{simp only[go_sem]}|true=>simp only[go_sem,aj,le6]
def afd(n:Int):G 273 [E n]=Z (0,[.bool (eA (-1000000000) 1000000000 n)]):=by refine bW t273 rfl ?_;simp only[go_sem,t273];unfold eA;by_cases h:-1000000000<=n;{simp only[go_sem,h]};simp only[go_sem,h]
theorem ar7{l:M kv}(g:l.length<=mg):G 274 [gR l]=Z (0,[.bool (Ey l)]):=by refine bW t274 rfl ?_;simp only[go_sem,t274];have k:=Oc (b:=lB G LI) l (λi=>(0,[gR l,gR l,E l.length,E (i:Int)])) (P_ l) (1,[gR l,gR l,E l.length,E l.length,.bool J]) (0,[.bool J]) (by intro i e j v;have m:=aY j;have c:=wj m g;simp only[go_sem,bc,LI,m,aV,j,lD,aN,aJ,aH];by_cases o:e.hi<e.lo;{simp only[go_sem,o,wZ (l:=l) (i:=i) (e:=e) (by omega)]};simp only[go_sem,o,afd];cases f:eA (-1000000000) 1000000000 e.lo with|false=>{(have:¬(-1000000000<=e.lo/\e.lo<=1000000000):=λh=>by rw[(ej _ _ _).2 h]at f;cases f);simp only[go_sem,wZ (l:=l) (i:=i) (e:=e) (by omega)]}|true=>have x:=(ej _ _ _).1 f;simp only[go_sem,afd];cases d:eA (-1000000000) 1000000000 e.hi with|false=>{(have:¬(-1000000000<=e.hi/\e.hi<=1000000000):=λh=>by rw[(ej _ _ _).2 h]at d;cases d);simp only[go_sem,wZ (l:=l) (i:=i) (e:=e) (by omega)]}|true=>have w:=(ej _ _ _).1 d;simp only[go_sem];cases i with|zero=>{have a:P_ l 0 e=I:=ux.2 ⟨by omega,by omega,by omega,rfl⟩;simp only[go_sem,a,n0,ee];simp only[go_sem,n0]at c;rw[c]}|succ i=>have a1:=dG (l:=l) (i:=i) (by omega);have t:=ux.1 (v i _ (by omega) a1);generalize l[i]'(by omega)=p at a1 t;(have s:IntKind.i64.wrap (((i+1:Nat):Int) - 1)=(i:Int):=by rw[wrap_i64 (by simp only[mg]at g;omega)];omega);have r:IntKind.i64.wrap (p.hi+2)=p.hi+2:=wrap_i64 (by omega);(have q:(0:Int)<((i+1:Nat):Int):=by omega);by_cases n:e.lo<p.hi+2;{have a:P_ l (i+1) e=J:=by{simp only[P_,apart,a1];(have:Z' (p.hi+1<e.lo)=J:=by simp;omega);simp[this]};simp only[go_sem,n,a,aV,lD,s,r,q,a1]};have a:P_ l (i+1) e=I:=ux.2 ⟨by omega,by omega,by omega,by simp only[apart,a1];simp;omega⟩;simp only[go_sem,n,a,aV,lD,s,r,q,a1,c]) (by simp only[go_sem,bc,LI,aE]);rw[n0]at k;rw[aj,k];unfold Ey;cases allI (P_ l) 0 l with|false=>{simp only[go_sem]}|true=>simp only[go_sem,aj,le6]
def TL(l:M kv)(n:Int):Bool:=l.any (λe=>eA e.lo e.hi n) ||l.isEmpty
def um{a:Type}(l:M a):Z' ((l.length:Int)=0)=l.isEmpty:=by cases l<;>simp;omega
theorem q9{f a d:Type}{b:a->u (Sg a d)}(es:M f)(mk:Nat->a)(p:f->Bool)(none_ c:d)
  (g:∀i e,nth es i=Z e->b (mk i)=Z (if p e=I then .out c else .go (mk (i+1))))
  (h:b (mk es.length)=Z (.out none_)):bG b (mk 0)=Z (if es.any p=I then c else none_):=by rw[vB es mk p none_ (λ_ _=>c) g h,<- pW (k:=0)];cases l:uZ p es 0 with|none=>{rfl}|some j=>obtain⟨e,m,n⟩:=dw l;simp[m]
theorem arQ{l:M kv}{n:Int}(g:l.length<=mg):G 232 [gR l,E n]=Z (0,[.bool (TL l n)]):=by refine bW t232 rfl ?_;simp only[go_sem,t232];have c:=q9 (b:=lB G Lq) l (λi=>(0,[gR l,E n,E (i:Int)])) (λe=>eA e.lo e.hi n) (1,[gR l,E n,E l.length,.bool J]) (0,[.bool I]) (by intro i e a;have d:=aY a;have f:=wj d g;simp only[go_sem,bc,Lq,d,aV,a,lD,aj,zy];cases h:eA e.lo e.hi n<;>simp only[go_sem,f]) (by simp only[go_sem,bc,Lq,aE,aj]);rw[n0]at c;rw[c];unfold TL;cases l.any (λe=>eA e.lo e.hi n) with|true=>{simp only[go_sem]}|false=>simp only[go_sem,aj,um]
theorem asa{l:M kv}{n:Int}(h:l.length<=mg):G 288 [gR l,E n]=Z (0,[.bool (TL l n)]):=by refine bW t288 rfl ?_;simp only[go_sem,t288];have d:=q9 (b:=lB G LK) l (λi=>(0,[gR l,E n,gR l,E l.length,E (i:Int)])) (λe=>eA e.lo e.hi n) (1,[gR l,E n,gR l,E l.length,E l.length,.bool J]) (0,[.bool I]) (by intro i e c;have f:=aY c;have a:=wj f h;simp only[go_sem,bc,LK,f,aV,c,lD,aN,aJ,aH];unfold eA;by_cases g:e.lo<=n;{by_cases j:n<=e.hi<;>simp only[go_sem,g,j,a]};simp only[go_sem,g,a]) (by simp only[go_sem,bc,LK,aE]);rw[n0]at d;rw[aj,d];unfold TL;cases l.any (λe=>eA e.lo e.hi n) with|true=>{simp only[go_sem]}|false=>simp only[go_sem,aj,um]
def dg(s:z):Nat->Nat->Int->u Int
 |_,0,n=>Z n
 |i,m+1,n=>if eA 48 57 (bY s i)=I then (if 1000000000<10 * n+(bY s i - 48) then O else dg s (i+1) m (10 * n+(bY s i - 48))) else O
def dgR(s:z):u Int->Nat×M D
 |some r=>(1,[.str s,.int .i64 r,.int .i64 s.size,.bool J])
 |none=>(0,[.int .i64 0,.bool J])
theorem S9{s:z}(c:s.size<=mg):∀(m i:Nat) (n:Int),i+m=s.size->0<=n->n<=1000000000->
  bG (lB G B1) (0,[.str s,E n,E (i:Int)])=Z (dgR s (dg s i m n))
 |0,i,n,h,l,k=>by (obtain rfl:i=s.size:=by omega);refine aK ?_;simp only[go_sem,bc,B1,aE,dg,dgR]
 |m+1,i,n,h,l,k=>by (have a:i<s.size:=by omega);have j:=wj a c;have o:=mH s i;cases hd:eA 48 57 (bY s i) with|false=>{refine (aK (r:=(0,[E 0,.bool J])) ?_).trans (by simp[dg,hd,dgR]);simp only[go_sem,bc,B1,a,cZ,zy,hd]}|true=>have p:=(ej _ _ _).1 hd;have g:IntKind.i64.wrap (10 * n)=10 * n:=wrap_i64 (by omega);have f:IntKind.u8.wrap (bY s i - 48)=bY s i - 48:=wrap_u8 (by omega);have e:IntKind.i64.wrap (bY s i - 48)=bY s i - 48:=wrap_i64 (by omega);have d:IntKind.i64.wrap (10 * n+(bY s i - 48))=10 * n+(bY s i - 48):=wrap_i64 (by omega);by_cases b:1000000000<10 * n+(bY s i - 48);{refine (aK (r:=(0,[E 0,.bool J])) ?_).trans (by simp[dg,hd,dgR,b]);simp only[go_sem,bc,B1,a,cZ,zy,hd,g,f,e,d,b]};rw[show dg s i (m+1) n=dg s (i+1) m (10 * n+(bY s i - 48)) by simp[dg,hd,b],<- S9 c m (i+1) _ (by omega) (by omega) (by omega)];refine bD ?_;simp only[go_sem,bc,B1,a,cZ,zy,hd,g,f,e,d,b,j]
def AM(s:z):u Int:=if s.size=0 then O else dg s 0 s.size 0
def eN:u Int->M D
 |some n=>[.int .i64 n,.bool I]
 |none=>[.int .i64 0,.bool J]
def gt0(n:Nat):Z' (0<(n:Int))=!Z' (n=0):=by rw[dS];simp;omega
theorem abY{s:z}(c:s.size<=mg):G 229 [.str s]=Z (0,eN (AM s)):=by refine bW t229 rfl ?_;simp only[go_sem,t229];have b:=S9 c s.size 0 0 (by omega) (by omega) (by omega);rw[n0]at b;rw[b];unfold AM;by_cases a:s.size=0;{rw[if_pos a,a];simp only[go_sem,dg,dgR,eN,a,n0,ee]};rw[if_neg a];cases dg s 0 s.size 0 with|none=>{simp only[go_sem,dgR,eN]}|some n=>(have:(0:Int)<(s.size:Int):=by omega);simp only[go_sem,dgR,eN,this]
theorem EI{s:z}:∀(m i:Nat) (n r:Int),0<=n->n<=1000000000->dg s i m n=Z r->0<=r/\r<=1000000000
 |0,i,n,r,b,a,h=>by cases h;exact⟨b,a⟩
 |m+1,i,n,r,b,a,h=>by simp only[dg]at h;split at h;{rename_i hd;have c:=(ej _ _ _).1 hd;split at h;{cases h};exact EI m (i+1) _ r (by omega) (by omega) h};cases h
def ti{s:z}{r:Int}(h:AM s=Z r):0<=r/\r<=1000000000:=by unfold AM at h;split at h;{cases h};exact EI _ _ _ _ (by omega) (by omega) h
def Hi(s:z):Bool:=!Z' (s.size=0) && (Z' (bY s 0=45) ||decide (bY s 0=43))
def tl(s:z):z:=s.extract 1 s.size
def El(s:z):(tl s).size=s.size - 1:=by simp[tl]
def Mj(s:z):u Int:=(AM (if Hi s=I then tl s else s)).map λn=>if bY s 0=45 then -n else n
def uB(t:z)(h:1<=t.size):aP (.MZ J) [.str t,E 1]=Z (.str (tl t)):=by simp[aP,dI,tl,h]
def jh{t:z}(h:0<t.size):aP .six [.str t,E 0]=Z (.int .u8 (bY t 0)):=cZ t 0 h
def XI{s:z}{r:Int}(h:Mj s=Z r):-1000000000<=r/\r<=1000000000:=by obtain⟨n,a,rfl⟩:=aC.1 h;have:=ti a;split<;>omega
theorem arP{s:z}(h:s.size<=mg):G 230 [.str s]=Z (0,eN (Mj s)):=by refine bW t230 rfl ?_;simp only[go_sem,t230];have g:=abY (s:=tl s) (by rw[El];omega);by_cases d:s.size=0;{(have e:Mj s=O:=by simp[Mj,Hi,d,AM]);(have hd:AM s=O:=by simp[AM,d]);rw[e];simp only[go_sem,gt0,d,abY h,hd,eN]};(have b:0<s.size:=by omega);simp only[go_sem,gt0,d,jh b];by_cases c:bY s 0=45;{(have a:Hi s=I:=by simp[Hi,d,c]);simp only[go_sem,c,uB s b,g,Mj,a];cases e:AM (tl s) with|none=>{simp only[go_sem,eN]}|some n=>have:=ti e;have i:IntKind.i64.wrap (-n)=-n:=wrap_i64 (by omega);simp only[go_sem,eN,jh b,c,i]};by_cases f:bY s 0=43;{(have a:Hi s=I:=by simp[Hi,d,f]);simp only[go_sem,f,uB s b,g,Mj,a,jh b];cases e:AM (tl s) with|none=>{simp only[go_sem,eN]}|some n=>simp only[go_sem,eN,jh b,f]};(have a:Hi s=J:=by simp[Hi,c,f]);simp only[go_sem,c,f,abY h,Mj,a,jh b];cases e:AM s with|none=>{simp only[go_sem,eN]}|some n=>simp only[go_sem,eN,jh b,c]
def di(s:z):Nat->Nat->Int->u Int
 |_,0,n=>Z n
 |i,m+1,n=>if eA 48 57 (bY s i)=I then di s (i+1) m (if n<=1000000000 then n * 10+(bY s i - 48) else n) else O
theorem Zy(s:z):∀(m i:Nat) (n r:Int),1000000000<n->di s i m n=Z r->r=n
 |0,i,n,r,h,hd=>by cases hd;rfl
 |m+1,i,n,r,h,hd=>by simp only[di]at hd;split at hd;{rw[if_neg (by omega)]at hd;exact Zy s m (i+1) n r h hd};cases hd
theorem af4(s:z):∀(m i:Nat) (n:Int),0<=n->n<=1000000000->(match di s i m n with|some r=>if 1000000000<r then O else Z r|none=>O)=dg s i m n
 |0,i,n,d,b=>by simp only[di,dg];rw[if_neg (by omega)]
 |m+1,i,n,d,b=>by simp only[di,dg];cases hd:eA 48 57 (bY s i) with|false=>{simp}|true=>have e:=(ej _ _ _).1 hd;simp only[if_true];rw[if_pos b,show n * 10+(bY s i - 48)=10 * n+(bY s i - 48) by omega];by_cases a:1000000000<10 * n+(bY s i - 48);{rw[if_pos a];cases c:di s (i+1) m (10 * n+(bY s i - 48)) with|none=>{rfl}|some r=>rw[Zy s m (i+1) _ r a c];simp only[if_pos a]};rw[if_neg a];exact af4 s m (i+1) _ (by omega) (by omega)
def Zx(s:z)(b:Bool):u Int->Nat×M D
 |some r=>(1,[.str s,.bool b,.int .i64 r,.int .i64 s.size,.bool J])
 |none=>(0,[.int .i64 0,.bool J])
theorem zP{s:z}(e:s.size<=mg)(b:Bool):∀(m i:Nat) (n:Int),i+m=s.size->0<=n->n<=10000000009->
  bG (lB G yD) (0,[.str s,.bool b,E n,E (i:Int)])=Z (Zx s b (di s i m n))
 |0,i,n,h,k,j=>by (obtain rfl:i=s.size:=by omega);refine aK ?_;simp only[go_sem,bc,yD,aE,di,Zx]
 |m+1,i,n,h,k,j=>by (have c:i<s.size:=by omega);have g:=wj c e;have t:=mH s i;by_cases d:bY s i<48;{(have hd:eA 48 57 (bY s i)=J:=by simp[eA];omega);refine (aK (r:=(0,[E 0,.bool J])) ?_).trans (by simp[di,hd,Zx]);simp only[go_sem,bc,yD,c,cZ,d]};by_cases f:57<bY s i;{(have hd:eA 48 57 (bY s i)=J:=by simp[eA];omega);refine (aK (r:=(0,[E 0,.bool J])) ?_).trans (by simp[di,hd,Zx]);simp only[go_sem,bc,yD,c,cZ,d,f]};(have hd:eA 48 57 (bY s i)=I:=by simp[eA];omega);have q:n<=1000000000->IntKind.i64.wrap (n * 10)=n * 10:=λh=>wrap_i64 (by omega);have p:IntKind.u8.wrap (bY s i - 48)=bY s i - 48:=wrap_u8 (by omega);have o:IntKind.i64.wrap (bY s i - 48)=bY s i - 48:=wrap_i64 (by omega);have l:n<=1000000000->IntKind.i64.wrap (n * 10+(bY s i - 48))=n * 10+(bY s i - 48):=λh=>wrap_i64 (by omega);by_cases a:n<=1000000000;{rw[show di s i (m+1) n=di s (i+1) m (n * 10+(bY s i - 48)) by simp[di,hd,a],<- zP e b m (i+1) _ (by omega) (by omega) (by omega)];refine bD ?_;simp only[go_sem,bc,yD,c,cZ,d,f,q a,p,o,l a,a,g]};rw[show di s i (m+1) n=di s (i+1) m n by simp[di,hd,a],<- zP e b m (i+1) _ (by omega) (by omega) (by omega)];refine bD ?_;simp only[go_sem,bc,yD,c,cZ,d,f,a,g]
theorem dz(s:z):Z' (s=⟨#[]⟩)=Z' (s.size=0):=by rw[dS];simp only[decide_eq_true_eq];refine⟨λh=>by rw[h];rfl,λh=>?_⟩;cases s with|mk a=>simp[nH]at h;rw[h]
theorem ba0:(⟨[].toArray⟩:z)=⟨#[]⟩:=(rfl)
attribute [go_sem] ba0 dz
theorem aoL{s:z}(m:s.size<=mg):G 287 [.str s]=Z (0,eN (Mj s)):=by refine bW t287 rfl ?_;simp only[go_sem,t287];have fin:∀(t:z) (b:Bool),t.size<=mg->(match di t 0 t.size 0 with|some r=>if 1000000000<r then O else Z r|none=>O)=dg t 0 t.size 0:=λt b e=>af4 t t.size 0 0 (by omega) (by omega);by_cases h:s.size=0;{(have j:Mj s=O:=by simp[Mj,Hi,h,AM]);rw[j];simp only[go_sem,h,eN]};(have f:0<s.size:=by omega);simp only[go_sem,h,jh f];by_cases l:bY s 0=45;{(have a:Hi s=I:=by simp[Hi,h,l]);(have i:(tl s).size<=mg:=by rw[El];omega);have g:=fin (tl s) I i;have c:=zP i I (tl s).size 0 0 (by omega) (by omega) (by omega);rw[n0]at c;simp only[go_sem,l,uB s f,jh f,Mj,a];by_cases e:(tl s).size=0;{simp only[go_sem,e,AM,eN]};simp only[go_sem,e,AM,c];rw[<- g];cases j:di (tl s) 0 (tl s).size 0 with|none=>{simp only[go_sem,Zx,eN]}|some n=>by_cases d:1000000000<n;{simp only[go_sem,Zx,eN,d]};(have p:dg (tl s) 0 (tl s).size 0=Z n:=by rw[<- g,j];simp[d]);have:=EI _ _ _ _ (by omega) (by omega) p;have o:IntKind.i64.wrap (-n)=-n:=wrap_i64 (by omega);simp only[go_sem,Zx,eN,d,o]};by_cases k:bY s 0=43;{(have a:Hi s=I:=by simp[Hi,h,k]);(have i:(tl s).size<=mg:=by rw[El];omega);have g:=fin (tl s) J i;have c:=zP i J (tl s).size 0 0 (by omega) (by omega) (by omega);rw[n0]at c;simp only[go_sem,k,uB s f,jh f,Mj,a];by_cases e:(tl s).size=0;{simp only[go_sem,e,AM,eN]};simp only[go_sem,e,AM,c];rw[<- g];cases j:di (tl s) 0 (tl s).size 0 with|none=>{simp only[go_sem,Zx,eN]}|some n=>by_cases d:1000000000<n<;>simp only[go_sem,Zx,eN,d]};(have a:Hi s=J:=by simp[Hi,l,k]);have g:=fin s J m;have c:=zP m J s.size 0 0 (by omega) (by omega) (by omega);rw[n0]at c;simp only[go_sem,l,k,Mj,a,h,AM,c,jh f];rw[<- g];cases j:di s 0 s.size 0 with|none=>{simp only[go_sem,Zx,eN]}|some n=>by_cases d:1000000000<n<;>simp only[go_sem,Zx,eN,d]
def bA(l:M UInt8):z:=⟨l.toArray⟩
def YU(l m:M UInt8)(s:z):bA l++(bA m++s)=bA (l++m)++s:=by apply sE;simp only[bA,n8];rw[<- Array.append_assoc];simp
def oB(n:Int):z:=bA (Lib.itoa n)
def Kw(a:Nat):M UInt8:=if a=0 then [] else Lib.decDigits a
def I1{a:Nat}(h:a≠0):Kw a=Kw (a / 10)++[dT (48+a % 10)]:=by unfold Kw;rw[if_neg h];rw[Lib.decDigits];by_cases b:a<10;{(have:a / 10=0:=by omega);rw[dif_pos b,if_pos this,show a % 10=a by omega];rfl};(have:a / 10≠0:=by omega);rw[dif_neg b,if_neg this]
def xf(c:Int):aP .Qt [.list 1 I [[.int .u8 c]]]=Z (.str (bA [dT c.toNat])):=by simp[aP,bytesOf,bA]
def uA(k:IntKind)(c:Int):aP (.lu 1 I) [.int k c]=Z (.list 1 I [[.int k c]]):=by simp[aP,chunk,dc,D.plain]
theorem DW:∀(k a:Nat),a<10 ^ (k+1)->(Lib.decDigits a).length<=k+1
 |0,a,h=>by rw[Lib.decDigits,dif_pos (by omega)];simp
 |k+1,a,h=>by rw[Lib.decDigits];split;{simp};have:=DW k (a / 10) (by rw[Nat.pow_succ]at h;omega);simp only[ay,aN,aJ];omega
def pf(l:M UInt8):(bA l).size=l.length:=by simp[bA,nH]
def Tm{n:Int}{h:Nat}{u:Nat}{s:z}{x:Int}{zs:M D}(l:(h=0/\zs=[])\/(h=1/\∃a,zs=[a]))(r:0<u)(w:u<=1000000000)(t:s.size<=20)(q:x=(u:Int)\/x=-(u:Int)) :
  ∃a k,(k=((u / 10:Nat):Int)\/k=-((u / 10:Nat):Int))/\lB G oT (h,[E n,.str s,E x]++zs)=Z (.go (1,[E n,.str (bA [dT (48+u % 10)]++s),E k,a])):=by have v:u % 10<10:=Nat.mod_lt _ (by omega);(have i:IntKind.i64.wrap (48+((u % 10:Nat):Int))=((48+u % 10:Nat):Int):=by rw[wrap_i64 (by omega)];omega);have g:IntKind.u8.wrap ((48+u % 10:Nat):Int)=((48+u % 10:Nat):Int):=wrap_u8 (by omega);have f:(((48+u % 10:Nat):Int)).toNat=48+u % 10:=cn _;have p:IntKind.i64.wrap ((u % 10:Nat):Int)=((u % 10:Nat):Int):=wrap_i64 (by omega);(have j:(bA [dT (48+u % 10)]).size+s.size<=maxLen:=by rw[pf];simp only[aN,aJ];exact aS (show 0+1+s.size<=21 by omega) (by decide));have e:(u:Int) % 10=((u % 10:Nat):Int):=rfl;have d:(u:Int) / 10=((u / 10:Nat):Int):=rfl;(have o:0<=(u:Int):=by omega);(have n1:¬0<=-(u:Int):=by omega);(have n2:-(u:Int)<0:=by omega);rcases q with rfl|rfl;{(have c:¬(u:Int)=0:=by omega);(have b:¬((u % 10:Nat):Int)<0:=by omega);refine⟨.list 1 I [[.int .u8 ((48+u % 10:Nat):Int)]],_,.inl rfl,?_⟩;rcases l with ⟨rfl,rfl⟩|⟨rfl,a,rfl⟩;{simp only[go_sem,bc,oT,c,o,e,d,b,i,g,f,j,uA,xf]};simp only[go_sem,bc,oT,c,o,e,d,b,i,g,f,j,uA,xf]};(have c:¬-(u:Int)=0:=by omega);refine⟨.list 1 I [[.int .u8 ((48+u % 10:Nat):Int)]],_,.inr rfl,?_⟩;by_cases b:-((u % 10:Nat):Int)<0;{rcases l with ⟨rfl,rfl⟩|⟨rfl,a,rfl⟩;{simp only[go_sem,bc,oT,c,n1,n2,e,d,uG,b,i,g,f,p,j,uA,xf]};simp only[go_sem,bc,oT,c,n1,n2,e,d,uG,b,i,g,f,p,j,uA,xf]};(have m:-((u % 10:Nat):Int)=((u % 10:Nat):Int):=by omega);rw[m]at b;rcases l with ⟨rfl,rfl⟩|⟨rfl,a,rfl⟩;{simp only[go_sem,bc,oT,c,n1,n2,e,d,uG,m,b,i,g,f,j,uA,xf]};simp only[go_sem,bc,oT,c,n1,n2,e,d,uG,m,b,i,g,f,j,uA,xf]
theorem Tl{n:Int}:∀(k u:Nat) (s:z) (x:Int) (a:D),u<10 ^ k->k<=10->s.size+k<=20->u<=1000000000->(x=(u:Int)\/x=-(u:Int))->
  ∃e,bG (lB G oT) (1,[E n,.str s,E x,a])=Z (1,[E n,.str (bA (Kw u)++s),E 0,.bool J,e])
 |k,u,s,x,a,i,p,o,j,g=>by by_cases c:u=0;{(obtain rfl:x=0:=by omega);refine⟨a,aK ?_⟩;(have:bA (Kw u)++s=s:=by rw[c];apply sE;simp[Kw,bA,n8]);rw[this];simp only[go_sem,bc,oT]};cases k with|zero=>{omega}|succ k=>obtain⟨d,f,b,m⟩:=Tm (n:=n) (h:=1) (u:=u) (s:=s) (x:=x) (zs:=[a]) (.inr ⟨rfl,a,rfl⟩) (by omega) j (by omega) g;rw[Nat.pow_succ]at i;obtain⟨z2,l⟩:=Tl k (u / 10) (bA [dT (48+u % 10)]++s) f d (by omega) (by omega) (by rw[ByteArray.size_append,pf];simp only[aN,aJ];omega) (by omega) b;refine⟨z2,?_⟩;rw[I1 c,<- YU,<- l];exact bD m
def abZ{n:Int}(q:-1000000000<=n/\n<=1000000000):G 231 [E n]=Z (0,[.str (oB n)]):=by refine bW t231 rfl ?_;simp only[go_sem,t231];by_cases e:n=0;{subst e;have a:oB 0=⟨#[48]⟩:=by{unfold oB Lib.itoa;rw[if_neg (by omega)];show bA (Lib.decDigits 0)=_;rw[Lib.decDigits_one (by decide)];rfl};rw[a];simp only[go_sem]};simp only[go_sem,e];(have i:n.natAbs<=1000000000:=by omega);obtain⟨f,g,c,l⟩:=Tm (n:=n) (h:=0) (u:=n.natAbs) (s:=⟨#[]⟩) (x:=n) (zs:=[]) (.inl ⟨rfl,rfl⟩) (by omega) i (by simp[nH]) (by omega);(have m:n.natAbs / 10<10 ^ 9:=by omega);obtain⟨z2,k⟩:=Tl (n:=n) 9 (n.natAbs / 10) (bA [dT (48+n.natAbs % 10)]++⟨#[]⟩) g f m (by omega) (by rw[ByteArray.size_append,pf];simp[nH]) (by omega) c;have j:bG (lB G oT) (0,[E n,.str ⟨#[]⟩,E n])=Z (1,[E n,.str (bA (Kw n.natAbs)),E 0,.bool J,z2]):=by{have d:lB G oT (0,[E n,.str ⟨#[]⟩,E n])=_:=l;rw[bD d,k,YU,<- I1 (by omega)];congr 5;apply sE;simp[bA,n8]};rw[j];(have hd:Kw n.natAbs=Lib.decDigits n.natAbs:=by rw[Kw,if_neg (by omega)]);rw[hd];by_cases b:n<0;{have a:oB n=bA [45]++bA (Lib.decDigits n.natAbs):=by{unfold oB Lib.itoa;rw[if_pos b];apply sE;simp[bA,n8]};have r:(Lib.decDigits n.natAbs).length<=10:=DW 9 _ (by omega);(have p:(bA [45]).size+(bA (Lib.decDigits n.natAbs)).size<=maxLen:=by rw[pf,pf];simp only[aN,aJ];exact aS (show 0+1+(Lib.decDigits n.natAbs).length<=11 by omega) (by decide));rw[a];have o:(⟨[(45:UInt8)].toArray⟩:z)=bA [45]:=rfl;simp only[go_sem,b,o,p]};have a:oB n=bA (Lib.decDigits n.natAbs):=by{unfold oB Lib.itoa;rw[if_neg b];congr 2;omega};rw[a];simp only[go_sem,b]
def apd(n:Int):G 9001 [E n]=Z (0,[.str (oB n)]):=
 yf (i:=9001) (sg:=⟨9001,[.val J [.d]],[([.val J [.d]],[])]⟩) (v:=([.val J [.d]],[])) (j:=0) (r:=([.val J [.d (.str (oB n))]],[])) (ws:=[E n]) rfl rfl ((abr T rfl [.val J [.d (E n)]]).trans rfl) rfl rfl
def afe(n:Int):G 303 [E n]=Z (0,[.str (oB n)]):=by refine bW t303 rfl ?_;simp only[go_sem,t303,apd]
theorem Ev{a:Type}(p q:Nat->a->Bool):∀(i:Nat) (l:M a),allI (λi e=>p i e && q i e) i l=(allI p i l && allI q i l)
 |_,[]=>rfl
 |i,e::l=>by simp only[allI,Ev p q (i+1) l];cases p i e<;>cases q i e<;>cases allI p (i+1) l<;>simp
theorem M8{a β:Type}(p:Nat->β->Bool)(f:a->β):∀(i:Nat) (l:M a),allI p i (l.map f)=allI (λi e=>p i (f e)) i l
 |_,[]=>rfl
 |i,e::l=>by simp only[bz,allI,M8 p f (i+1) l]
def atB{a:Type}(q:a->Bool)(t:M a)(j:Nat):Bool:=match nth t j with
 |some x=>q x
 |none=>I
theorem zF{a:Type}(q:a->Bool)(t:M a):∀(m i:Nat),i+m<=t.length->oP (atB q t) i m=((t.drop i).take m).all q
 |0,i,h=>by simp[oP]
 |m+1,i,h=>by have a1:=dG (l:=t) (i:=i) (by omega);rw[fJ t i _ a1,cy,dt,<- zF q t m (i+1) (by omega)];simp only[oP,atB,a1]
def rU(t:fP):Bool:=isName t.aq && iC t.bo
def w8(l:M fP):Bool:=tL (l.map fP.aq) && l.all rU
theorem aaI(l:M fP)(v:z):iB (l.map fP.aq) v=!(l.all λx=>!Z' (x.aq=v)):=by induction l with|nil=>{rfl}|cons x l c=>simp only[bz,iB,g_,dt]at c ⊢;rw[c,decide_eq_decide.2 (eq_comm (a:=v) (b:=x.aq))];cases Z' (x.aq=v)<;>simp
def RB(l:M fP):w8 l=allI (λk e=>((l.take k).all λx=>!Z' (x.aq=e.aq)) && rU e) 0 l:=by have h:=Ev (λk (e:fP)=>(l.take k).all λx=>!Z' (x.aq=e.aq)) (λ_ e=>rU e) 0 l;rw[w8,h,zD,tL,M8];congr 2;funext i e;rw[<- uJ,aaI,iO]
def isStep(s:eh):Bool:=w8 s.cT && (isName s.aq && Z' (s.cT.length<=3))
def Ur(p:fE):Bool:=eA 0 8 p.kj && (Z' (p.steps.length<=10) && ((!p.root ||decide (p.kj=0)) && (p.root ||(Z' (0<p.kj) ||!p.steps.isEmpty))))
def gA(p:fE):Bool:=p.steps.all isStep && Ur p
def Xc(n k:Nat):Z' ((n:Int)<=(k:Int))=Z' (n<=k):=by rw[dS];simp
def anc(n:Nat):Z' ((n:Int)<=3)=Z' (n<=3):=Xc n 3
def aqC(n:Nat):Z' (3<(n:Int))=!Z' (n<=3):=by rw[dS];simp;omega
def agu(n:Nat):Z' ((n:Int)<=10)=Z' (n<=10):=Xc n 10
def MR{a:Type}(l:M a):Z' (0<(l.length:Int))=!l.isEmpty:=by cases l<;>simp
def gX{a:Type}{f:a->M D}{l:M a}{x:a}{n:Nat}(h:bO f l<=n)(b:x∈l):dV (f x)<=n/\l.length<=n:=by have:=cq f b;simp only[bO]at *;omega
section
variable {s:eh} {rt:Bool} {up:Int} {ss:M eh}
theorem V5{t:M fP}{e:fP}{k i:Nat}(a:nth t k=Z e)(h:bO gT t<=mg) :
  bG (lB G yB) (0,[E (i:Int),cN t,E (k:Int),E 0,.bool rt,E up,bM ss]) =
   Z (if (t.take k).all (λx=>!Z' (x.aq=e.aq))=I then (1,[E (i:Int),cN t,E (k:Int),E (k:Int),.bool J,.bool rt,E up,bM ss]) else (0,[.bool J])):=by
 have m:=aY a;have c:t.length<=mg:=by simp only[bO]at h;omega
 have d:=pq (b:=lB G yB) (λj=>(0,[E (i:Int),cN t,E (k:Int),E (j:Int),.bool rt,E up,bM ss])) (atB (λx=>!Z' (x.aq=e.aq)) t) k
  (1,[E (i:Int),cN t,E (k:Int),E (k:Int),.bool J,.bool rt,E up,bM ss]) (0,[.bool J]) (by
  intro j f;have a1:=dG (l:=t) (i:=j) (by omega);have g:=wj (i:=j) (n:=k) f (by omega);generalize t[j]'(by omega)=x at a1;simp only[go_sem,bc,yB,f,aV,a,a1,gT,atB];cases o:Z' (x.aq=e.aq)<;>simp only[go_sem,g]) (by simp only[go_sem,bc,yB,aE]) k 0 (by omega)
 rw[n0]at d;rw[d,zF _ t k 0 (by omega),bQ]
theorem V6{t:M fP}{i:Nat}(d:bO gT t<=mg) :
  bG (lB G BT) (0,[E (i:Int),cN t,E 0,.bool rt,E up,bM ss]) =
   Z (if w8 t=I then (1,[E (i:Int),cN t,E t.length,.bool J,.bool rt,E up,bM ss]) else (0,[.bool J])):=by
 have c:t.length<=mg:=by simp only[bO]at d;omega
 have f:=qZ (b:=lB G BT) t (λk=>(0,[E (i:Int),cN t,E (k:Int),.bool rt,E up,bM ss])) (λk e=>((t.take k).all λx=>!Z' (x.aq=e.aq)) && rU e)
  (1,[E (i:Int),cN t,E t.length,.bool J,.bool rt,E up,bM ss]) (0,[.bool J]) (by
  intro k e a;have g:=aY a;have l:=wj g c;have j:=cq gT (bj a);rw[HA]at j;have n:=ae7 (s:=e.aq) (by omega);have m:=abW (s:=e.bo) (by omega);simp only[go_sem,bc,BT,g,aj,V5 a d];cases o:(t.take k).all (λx=>!Z' (x.aq=e.aq)) with
  |false=>simp only[go_sem]
  |true=>
   simp only[go_sem,aV,a,gT,n];cases h:isName e.aq with
   |false=>simp only[go_sem,h,rU]
   |true=>
    simp only[go_sem,h,rU,aV,a,gT,m];cases p:iC e.bo<;>simp only[go_sem,l]) (by simp only[go_sem,bc,BT,aE,aj]) t.length 0 (by omega)
 rw[n0,bQ]at f;rw[f,RB]
end
def O5(p:fE):Ur p=(eA 0 8 p.kj && Z' (p.steps.length<=10) && (!p.root ||decide (p.kj=0)) && (p.root ||(Z' (0<p.kj) ||!p.steps.isEmpty))):=by simp[Ur,iW]
theorem ae8{p:fE}(d:dV (bT p)<=mg):G 205 (bT p)=Z (0,[.bool (gA p)]):=by rw[jX]at d;(have a:p.steps.length<=mg:=by simp only[bO]at d;omega);refine bW t205 rfl ?_;simp only[go_sem,t205,bT];have f:=gJ (b:=lB G Lm) p.steps (λi=>(0,[E (i:Int),.bool p.root,E p.kj,bM p.steps])) isStep (1,[E p.steps.length,.bool J,.bool p.root,E p.kj,bM p.steps]) (0,[.bool J]) (by intro i e c;have g:=aY c;have k:=wj g a;have j:=cq dq (bj c);rw[nF]at j;have l:=ae7 (s:=e.aq) (by omega);simp only[go_sem,bc,Lm,g,aj,aV,c,dq,V6 (t:=e.cT) (by omega)];cases h:w8 e.cT with|false=>{simp only[go_sem,h,isStep]}|true=>simp only[go_sem,h,isStep,aV,c,dq,l];cases n:isName e.aq with|false=>{simp only[go_sem]}|true=>simp only[go_sem,aj,aqC];cases m:Z' (e.cT.length<=3)<;>simp only[go_sem,k]) (by simp only[go_sem,bc,Lm,aE,aj]);rw[n0]at f;rw[f,gA];cases p.steps.all isStep with|false=>{simp only[go_sem]}|true=>rw[O5];simp only[go_sem,zy];(repeat' (first|with_reducible rfl|((first|rw[gN]|rw[gQ]|rw[gM]|rw[gP]);split<;>simp only[go_sem,aj,agu,MR, *])));all_goals simp_all
theorem ar3{s:eh}(j:dV (dq s)<=mg):G 265 (dq s)=Z (0,[.bool (isStep s)]):=by
 rw[nF]at j;have a:s.cT.length<=mg:=by simp only[bO]at j;omega
 refine bW t265 rfl ?_;simp only[go_sem,t265,dq];have k:=gJ (b:=lB G FX) s.cT (λi=>(0,[cN s.cT,E s.cT.length,E (i:Int),.str s.aq,cN s.cT,aI ((s.cT.take i).map fP.aq)])) rU
  (1,[cN s.cT,E s.cT.length,E s.cT.length,.bool J,.str s.aq,cN s.cT,aI (s.cT.map fP.aq)]) (0,[.bool J]) (by
  intro i e c;have m:=aY c;have o:=wj m a;have n:=cq gT (bj c);rw[HA]at n;have h:=afb (s:=e.aq) (by omega);have g:=ab1 (s:=e.bo) (by omega);have t:aP (.app 1 16) [aI ((s.cT.take i).map fP.aq),.list 1 I [[.str e.aq]]]=Z (aI ((s.cT.take (i+1)).map fP.aq)):=by
   rw[Au c,RE]
   .simp[gm]
   .simp only[aj,bk,aN,aJ];simp only[mg]at a;exact⟨aS (gD (show min i s.cT.length+(0+1)<=300000000 by omega) (aH 16)) (by decide),aS (show min i s.cT.length+(0+1)<=300000000 by omega) (by decide)⟩
  have d:aP (.lu 1 I) [.str e.aq]=Z (.list 1 I [[.str e.aq]]):=by simp[aP,chunk,dc,D.plain]
  simp only[go_sem,bc,FX,m,aV,c,gT,aN,aJ,aH,h];cases f:isName e.aq with
  |false=>simp only[go_sem,f,rU]
  |true=>
   simp only[go_sem,f,rU,g];cases q:iC e.bo<;>simp only[go_sem,o,t,d]) (by simp only[go_sem,bc,FX,aE,bl])
 rw[n0]at k;rw[aj];have r:bG (lB G FX) (0,[cN s.cT,E s.cT.length,E 0,.str s.aq,cN s.cT,.list 1 I []])=_:=k;rw[r,isStep,w8];cases s.cT.all rU with|false=>{simp only[go_sem]}|true=>have h:=afb (s:=s.aq) (by omega);have g:=XF (l:=s.cT.map fP.aq) (by rw[aj];exact a);simp only[go_sem,h];cases f:isName s.aq with|false=>{simp only[go_sem]}|true=>simp only[go_sem,anc,aj];cases q:Z' (s.cT.length<=3) with|false=>{simp only[go_sem]}|true=>have p:aP .pl [.bool (tL (s.cT.map fP.aq))]=Z (.bool J):=rfl;simp only[go_sem,g,p]
theorem afc{p:fE}(d:dV (bT p)<=mg):G 266 (bT p)=Z (0,[.bool (gA p)]):=by rw[jX]at d;(have a:p.steps.length<=mg:=by simp only[bO]at d;omega);refine bW t266 rfl ?_;simp only[go_sem,t266,bT];have f:=gJ (b:=lB G LF) p.steps (λi=>(0,[bM p.steps,E p.steps.length,E (i:Int),.bool p.root,E p.kj,bM p.steps])) isStep (1,[bM p.steps,E p.steps.length,E p.steps.length,.bool J,.bool p.root,E p.kj,bM p.steps]) (0,[.bool J]) (by intro i e c;have g:=aY c;have j:=wj g a;have k:=cq dq (bj c);have h:=ar3 (s:=e) (by omega);rw[dq]at h;simp only[go_sem,bc,LF,g,aV,c,dq,aN,aJ,aH,h];cases l:isStep e<;>simp only[go_sem,j]) (by simp only[go_sem,bc,LF,aE]);rw[n0]at f;rw[aj,f,gA];cases p.steps.all isStep with|false=>{simp only[go_sem]}|true=>rw[O5];unfold eA;simp only[go_sem];(repeat' (first|with_reducible rfl|((first|rw[gN]|rw[gQ]|rw[gM]|rw[gP]);split<;>simp only[go_sem,aj,agu,MR, *])));all_goals simp_all
attribute [go_sem] aN aJ aH aj
def sN(e:cr):(bU e).length=7:=by rw[aR];rfl
def jV(e:cr)(k:Nat)(a:Bool):aP (.has 7) [.list k a [bU e]]=Z (.bool J):=by rw[zb,sN,if_pos (aH 7)]
def q39(a b:Int):G 39 [E a,E b]=Z (0,[E (if a<b then b else a)]):=by refine bW t39 rfl ?_;simp only[go_sem,t39];by_cases h:a<b<;>simp only[go_sem,h]
def cr.gx(e:cr)(es:M cr):aF e.ai<aF (e::es):=by cases e;simp only[bJ,cr.mk.sizeOf_spec];omega
def rN:M cr->Nat
 |[]=>0
 |e::es=>max (rN e.ai+1) (rN es)
termination_by es=>aF es
decreasing_by
 .exact cr.gx e es
 .simp only[bJ];omega
abbrev dep(e:cr):Nat:=rN e.ai+1
def d0:((rN []:Nat):Int)=0:=by simp[rN]
theorem EH(e:cr):∀(l:M cr),rN (l++[e])=max (rN l) (dep e)
 |[]=>by simp[rN]
 |x::l=>by rw[av,rN,EH e l,rN,Nat.max_assoc]
theorem Kz:∀(n:Nat) (l:M cr),aF l<n->rN l<=bO bU l
 |0,l,h=>by omega
 |n+1,[],h=>by simp[rN]
 |n+1,e::l,h=>by have b:=Kz n e.ai (by have:=cr.gx e l;omega);have a:=Kz n l (by simp only[bJ]at h;omega);rw[rN,fW,jF];omega
def Zv{e:cr}:dep e<=dV (bU e)+1:=by have:=Kz _ e.ai (aT _);rw[jF];simp only[dep];omega
def mx(a b:Nat):(if (a:Int)<(b:Int) then (b:Int) else (a:Int))=((max a b:Nat):Int):=by by_cases h:a<b;{rw[if_pos (by omega),Nat.max_eq_right (by omega)]};rw[if_neg (by omega),Nat.max_eq_left (by omega)]
def cr.t_{e x:cr}(h:x∈e.ai):aF x<aF e:=cr.uQ h
def pZ{e x:cr}(h:x∈e.ai):dV (bU x)<=dV (bU e):=by have:=cq bU h;rw[jF e];omega
def qa{e:cr}:e.ai.length<=dV (bU e):=by rw[jF e];simp only[bO];omega
theorem aiS(n:Nat):∀e:cr,aF e<n->dV (bU e)<=mg->G 203 (bU e)=Z (0,[E (dep e)]):=by induction n with|zero=>{intro e h;omega}|succ n l=>intro e o g;refine bW t203 (by rw[aR];rfl) ?_;simp only[go_sem,t203,aR];have c:e.ai.length<=mg:=aS qa g;have j:=cI (b:=lB G Lk) e.ai (λi (m:Nat)=>(0,E (m:Int)::E (i:Int)::bU e)) (λi=>rN (e.ai.take i)) (0,E (rN e.ai)::E e.ai.length::.bool J::bU e) (by intro i x a;have k:=aY a;have d:=wj k c;have f:=l x (by have:=cr.t_ (bj a);omega) (aS (pZ (bj a)) g);rw[aR]at f;simp only[go_sem,bc,Lk,aR e,k,aV,a,jV];simp only[go_sem,aR,f,q39,mx,d,cd _ _ _ a,EH,dep]) (by simp only[go_sem,bc,Lk,aR,aE,bl]) e.ai.length 0 (by omega);rw[br,d0,n0,aR]at j;have hd:=Zv (e:=e);(have d:IntKind.i64.wrap ((rN e.ai:Int)+1)=((rN e.ai+1:Nat):Int):=by rw[wrap_i64 (by simp only[mg,dep]at *;omega)];omega);simp only[go_sem,j,d]
def arF{e:cr}(a:dV (bU e)<=mg):G 203 (bU e)=Z (0,[E (dep e)]):=aiS _ e (aT _) a
theorem ai6(n:Nat):∀e:cr,aF e<n->dV (bU e)<=mg->G 262 (bU e)=Z (0,[E (dep e)]):=by induction n with|zero=>{intro e h;omega}|succ n l=>intro e o g;refine bW t262 (by rw[aR];rfl) ?_;simp only[go_sem,t262,aR];have c:e.ai.length<=mg:=aS qa g;have j:=cI (b:=lB G LC) e.ai (λi (m:Nat)=>(0,[E (m:Int),cB e.ai,E e.ai.length,E (i:Int)])) (λi=>rN (e.ai.take i)) (0,[E (rN e.ai),cB e.ai,E e.ai.length,E e.ai.length,.bool J]) (by intro i x a;have k:=aY a;have d:=wj k c;have f:=l x (by have:=cr.t_ (bj a);omega) (aS (pZ (bj a)) g);rw[aR]at f;simp only[go_sem,bc,LC,k,aV,a,jV];simp only[go_sem,aR,f,mx,d,cd _ _ _ a,EH,dep]) (by simp only[go_sem,bc,LC,aE,bl]) e.ai.length 0 (by omega);rw[br,d0,n0]at j;have hd:=Zv (e:=e);(have d:IntKind.i64.wrap ((rN e.ai:Int)+1)=((rN e.ai+1:Nat):Int):=by rw[wrap_i64 (by simp only[mg,dep]at *;omega)];omega);simp only[go_sem,j,d]
def ar1{e:cr}(a:dV (bU e)<=mg):G 262 (bU e)=Z (0,[E (dep e)]):=ai6 _ e (aT _) a
def zp(p:fE):Bool:=!p.root && (Z' (p.kj=0) && p.steps.isEmpty)
def sZ{a:Type}(l:M a):Z' ((l.length:Int)=0)=l.isEmpty:=by cases l<;>simp;omega
def arG(p:fE):G 206 (bT p)=Z (0,[.bool (zp p)]):=by refine bW t206 rfl ?_;simp only[go_sem,t206,bT];(repeat' (first|with_reducible rfl|((first|rw[gN]|rw[gQ]|rw[gM]|rw[gP]);split<;>simp only[go_sem,sZ, *])));all_goals simp_all[zp]
def ar2(p:fE):G 263 (bT p)=Z (0,[.bool (zp p)]):=by refine bW t263 rfl ?_;simp only[go_sem,t263,bT];(repeat' (first|with_reducible rfl|((first|rw[gN]|rw[gQ]|rw[gM]|rw[gP]);split<;>simp only[go_sem,sZ, *])));all_goals simp_all[zp]
def orA:z:=⟨#[111,114]⟩
def YJ:z:=⟨#[97,110,100]⟩
theorem adb:(⟨[111,114].toArray⟩:z)=orA:=(rfl)
theorem Sn:(⟨[97,110,100].toArray⟩:z)=YJ:=(rfl)
def Kh(p:fE):Bool:=match p.steps with
 |s::_=>Z' (s.aq=orA) ||decide (s.aq=YJ)
 |[]=>J
def wrt(p:fE):Bool:=(p.root ||decide (0<p.kj) ||!Kh p) && !(p.root && p.steps.isEmpty)
def tg{p:fE}(h:gA p=I):0<=p.kj/\(p.root=I->p.kj=0)/\(p.root=I\/0<p.kj\/p.steps≠[]):=by simp only[gA,Ur,eA,aw,eY,decide_eq_true_eq,dm,List.isEmpty_eq_false_iff]at h;obtain⟨_,⟨d,_⟩,_,b,a⟩:=h;refine⟨d,λc=>?_,?_⟩;{rcases b with b|b;{rw[c]at b;cases b};exact b};rcases a with a|a|a;{exact .inl a};{exact .inr (.inl a)};exact .inr (.inr a)
theorem arH{p:fE}(e:gA p=I):G 207 (bT p)=Z (0,[.bool (wrt p)]):=by obtain⟨m,i,g⟩:=tg e;refine bW t207 rfl ?_;simp only[go_sem,t207,bT,adb,Sn];cases b:p.root with|true=>{have a:p.kj=0:=i b;simp only[go_sem,b,a,MR,wrt]}|false=>by_cases a:0<p.kj;{simp only[go_sem,b,a,wrt]};have d:p.steps≠[]:=by{rcases g with h|h|h;{rw[b]at h;cases h};{exact absurd h a};exact h};obtain⟨s,l,f⟩:=List.exists_cons_of_ne_nil d;simp only[go_sem,b,a,wrt,f,Kh,bz,dq];(have j:¬YJ=orA:=by decide);by_cases c:s.aq=orA;{simp only[go_sem,c]};by_cases k:s.aq=YJ<;>simp only[go_sem,c,k,j]
def nQ(op:Int):Nat:=if op<=4 then 0 else if op=5 then 1 else 2
def pT(e:cr):Bool:=if e.op=1 then eA 0 1000000000 e.num else if e.op=2 then iC e.text else if e.op=3 then gA e.path && wrt e.path else if e.op=4 then gA e.path else I
def gI(e:cr):Bool:=eA 1 15 e.op && (Z' (e.ai.length=nQ e.op) && ((Z' (e.op=1) ||decide (e.num=0)) && ((Z' (e.op=2) ||decide (e.text.size=0)) && ((Z' (e.op=3) ||(Z' (e.op=4) ||zp e.path)) && pT e))))
def va:M cr->Bool
 |[]=>I
 |e::es=>gI e && va e.ai && va es
termination_by es=>aF es
decreasing_by
 .exact cr.gx e es
 .simp only[bJ];omega
def oq(e:cr):Bool:=gI e && va e.ai
theorem A8:∀(l:M cr),va l=l.all oq
 |[]=>by simp[va]
 |e::l=>by rw[va,dt,A8 l];rfl
def ad4{n:Nat}(h:∀e:cr,aF e<n->dV (bU e)<=mg->G 208 (bU e)=Z (0,[.bool (oq e)])){e:cr}(k:aF e<n+1)(f:dV (bU e)<=mg) :
  bG (lB G BU) (0,E e.ai.length::E 0::bU e)=Z (if va e.ai=I then (1,E e.ai.length::E e.ai.length::.bool J::bU e) else (0,[.bool J])):=by have a:e.ai.length<=mg:=aS qa f;rw[A8];exact gJ (b:=lB G BU) e.ai (λi=>(0,E e.ai.length::E (i:Int)::bU e)) oq _ _ (by intro i x c;have g:=aY c;have j:=wj g a;have d:=h x (by have:=cr.t_ (bj c);omega) (aS (pZ (bj c)) f);rw[aR]at d;simp only[go_sem,bc,BU,aR e,g,aV,c,jV];simp only[go_sem,aR x,d];cases oq x<;>simp only[go_sem,j]) (by simp only[go_sem,bc,BU,aR,aE])
def Ap{e:cr}(h:e.ai.length=0):va e.ai=I:=by have:e.ai=[]:=eZ.1 h;rw[this];simp[va]
theorem aiT(n:Nat):∀e:cr,aF e<n->dV (bU e)<=mg->G 208 (bU e)=Z (0,[.bool (oq e)]):=by induction n with|zero=>{intro e h;omega}|succ n B=>intro e C F;have c:=ad4 B C F;rw[aR]at c;have K:=jF e;have w:=abW (s:=e.text) (by omega);have o:=ae8 (p:=e.path) (by omega);have y:=arG e.path;rw[bT]at o y;have v:gA e.path=I->G 207 [.bool e.path.root,E e.path.kj,bM e.path.steps]=Z (0,[.bool (wrt e.path)]):=λh=>arH h;refine bW t208 (by rw[aR];rfl) ?_;simp only[go_sem,t208,aR];have small:∀{k:Nat} (a:e.ai.length=0),bG (lB G BU) (0,[E 0,E 0,E e.op,E e.num,.str e.text,.bool e.path.root,E e.path.kj,bM e.path.steps,cB e.ai])=Z (1,[E 0,E 0,.bool J,E e.op,E e.num,.str e.text,.bool e.path.root,E e.path.kj,bM e.path.steps,cB e.ai]):=by{intro _ a;rw[Ap a,a]at c;exact c};by_cases j:e.op=1;{(have m:gI e=(Z' (e.ai.length=0) && ((Z' (e.text.size=0)) && (zp e.path && eA 0 1000000000 e.num))):=by simp[gI,pT,nQ,eA,j]);rw[j]at small;by_cases a:e.ai.length=0;{(have b:(e.ai.length:Int)=0:=by omega);have t:=small (k:=0) a;have x:=Ap a;simp only[go_sem,zy,j];(repeat' (first|with_reducible rfl|((first|rw[gN]|rw[gQ]|rw[gM]|rw[gP]);split<;>simp only[go_sem,dz, *])));all_goals simp_all[oq]};(have b:¬(e.ai.length:Int)=0:=by omega);simp only[go_sem,zy,j];(repeat' (first|with_reducible rfl|((first|rw[gN]|rw[gQ]|rw[gM]|rw[gP]);split<;>simp only[go_sem,dz, *])));all_goals simp_all[oq]};by_cases i:e.op=2;{(have m:gI e=(Z' (e.ai.length=0) && ((Z' (e.num=0)) && (zp e.path && iC e.text))):=by simp[gI,pT,nQ,eA,i]);rw[i]at small;by_cases a:e.ai.length=0;{(have b:(e.ai.length:Int)=0:=by omega);have t:=small (k:=0) a;have x:=Ap a;simp only[go_sem,w,i];(repeat' (first|with_reducible rfl|((first|rw[gN]|rw[gQ]|rw[gM]|rw[gP]);split<;>simp only[go_sem, *])));all_goals simp_all[oq]};(have b:¬(e.ai.length:Int)=0:=by omega);simp only[go_sem,w,i];(repeat' (first|with_reducible rfl|((first|rw[gN]|rw[gQ]|rw[gM]|rw[gP]);split<;>simp only[go_sem, *])));all_goals simp_all[oq]};by_cases d:e.op=3;{(have m:gI e=(Z' (e.ai.length=0) && ((Z' (e.num=0)) && (Z' (e.text.size=0) && (gA e.path && wrt e.path)))):=by simp[gI,pT,nQ,eA,d]);rw[d]at small;cases q:gA e.path with|false=>{simp only[go_sem,o,d,q];(repeat' (first|with_reducible rfl|((first|rw[gN]|rw[gQ]|rw[gM]|rw[gP]);split<;>simp only[go_sem,zy,w,o,y,ba0,dz,d,q, *])));all_goals simp_all[oq]}|true=>have N:=v q;by_cases a:e.ai.length=0;{(have b:(e.ai.length:Int)=0:=by omega);have t:=small (k:=0) a;have x:=Ap a;simp only[go_sem,o,d,q];(repeat' (first|with_reducible rfl|((first|rw[gN]|rw[gQ]|rw[gM]|rw[gP]);split<;>simp only[go_sem,dz, *])));all_goals simp_all[oq]};(have b:¬(e.ai.length:Int)=0:=by omega);simp only[go_sem,o,d,q];(repeat' (first|with_reducible rfl|((first|rw[gN]|rw[gQ]|rw[gM]|rw[gP]);split<;>simp only[go_sem,dz, *])));all_goals simp_all[oq]};by_cases g:e.op=4;{(have m:gI e=(Z' (e.ai.length=0) && ((Z' (e.num=0)) && (Z' (e.text.size=0) && gA e.path))):=by simp[gI,pT,nQ,eA,g]);rw[g]at small;by_cases a:e.ai.length=0;{(have b:(e.ai.length:Int)=0:=by omega);have t:=small (k:=0) a;have x:=Ap a;simp only[go_sem,o,g];(repeat' (first|with_reducible rfl|((first|rw[gN]|rw[gQ]|rw[gM]|rw[gP]);split<;>simp only[go_sem,dz, *])));all_goals simp_all[oq]};(have b:¬(e.ai.length:Int)=0:=by omega);simp only[go_sem,o,g];(repeat' (first|with_reducible rfl|((first|rw[gN]|rw[gQ]|rw[gM]|rw[gP]);split<;>simp only[go_sem,dz, *])));all_goals simp_all[oq]};cases l:eA 5 15 e.op with|false=>{have m:gI e=J:=by{have:eA 1 15 e.op=J:=by{rw[dQ]at l ⊢;intro h;apply l;have:=(ej _ _ _).1 h;exact (ej _ _ _).2 (by omega)};simp[gI,this]};(have D:oq e=J:=by simp[oq,m]);simp only[go_sem,zy,j,i,d,g,l,D]}|true=>have L:=(ej _ _ _).1 l;have A:eA 1 15 e.op=I:=(ej _ _ _).2 (by omega);by_cases f:e.op=5;{(have m:gI e=(Z' (e.ai.length=1) && ((Z' (e.num=0)) && (Z' (e.text.size=0) && zp e.path))):=by simp[gI,pT,nQ,eA,f]);by_cases a:e.ai.length=1;{(have b:(e.ai.length:Int)=1:=by omega);rw[b,f]at c;cases r:va e.ai with|false=>{rw[r]at c;simp only[go_sem]at c;simp only[go_sem,zy,f];(repeat' (first|with_reducible rfl|((first|rw[gN]|rw[gQ]|rw[gM]|rw[gP]);split<;>simp only[go_sem,dz, *])));all_goals simp_all[oq]}|true=>rw[r]at c;simp only[go_sem]at c;simp only[go_sem,zy,f];(repeat' (first|with_reducible rfl|((first|rw[gN]|rw[gQ]|rw[gM]|rw[gP]);split<;>simp only[go_sem,dz, *])));all_goals simp_all[oq]};(have b:¬(e.ai.length:Int)=1:=by omega);simp only[go_sem,zy,f];(repeat' (first|with_reducible rfl|((first|rw[gN]|rw[gQ]|rw[gM]|rw[gP]);split<;>simp only[go_sem,dz, *])));all_goals simp_all[oq]};(have H:nQ e.op=2:=by unfold nQ;rw[if_neg (by omega),if_neg f]);(have m:gI e=(Z' (e.ai.length=2) && ((Z' (e.num=0)) && (Z' (e.text.size=0) && zp e.path))):=by simp[gI,pT,H,A,j,i,d,g]);by_cases a:e.ai.length=2;{(have b:(e.ai.length:Int)=2:=by omega);rw[b]at c;cases r:va e.ai with|false=>{rw[r]at c;simp only[go_sem]at c;simp only[go_sem,zy,j,i,d,g,f,l];(repeat' (first|with_reducible rfl|((first|rw[gN]|rw[gQ]|rw[gM]|rw[gP]);split<;>simp only[go_sem,dz, *])));all_goals simp_all[oq]}|true=>rw[r]at c;simp only[go_sem]at c;simp only[go_sem,zy,j,i,d,g,f,l];(repeat' (first|with_reducible rfl|((first|rw[gN]|rw[gQ]|rw[gM]|rw[gP]);split<;>simp only[go_sem,dz, *])));all_goals simp_all[oq]};(have b:¬(e.ai.length:Int)=2:=by omega);simp only[go_sem,zy,j,i,d,g,f,l];(repeat' (first|with_reducible rfl|((first|rw[gN]|rw[gQ]|rw[gM]|rw[gP]);split<;>simp only[go_sem,dz, *])));all_goals simp_all[oq]
def arI{e:cr}(a:dV (bU e)<=mg):G 208 (bU e)=Z (0,[.bool (oq e)]):=aiT _ e (aT _) a
def ad9{n:Nat}(h:∀e:cr,aF e<n->dV (bU e)<=mg->G 267 (bU e)=Z (0,[.bool (oq e)])){e:cr}(k:aF e<n+1)(f:dV (bU e)<=mg) :
  bG (lB G FY) (0,[cB e.ai,E e.ai.length,E 0])=Z (if va e.ai=I then (1,[cB e.ai,E e.ai.length,E e.ai.length,.bool J]) else (0,[.bool J])):=by have a:e.ai.length<=mg:=aS qa f;rw[A8];exact gJ (b:=lB G FY) e.ai (λi=>(0,[cB e.ai,E e.ai.length,E (i:Int)])) oq _ _ (by intro i x c;have g:=aY c;have j:=wj g a;have d:=h x (by have:=cr.t_ (bj c);omega) (aS (pZ (bj c)) f);rw[aR]at d;simp only[go_sem,bc,FY,g,aV,c,jV];simp only[go_sem,aR x,d];cases oq x<;>simp only[go_sem,j]) (by simp only[go_sem,bc,FY,aE])
theorem n2:((2:Nat):Int)=2:=(rfl)
attribute [go_sem] n1 n2
def akr{p:fE}(h:gA p=I):wrt p=(!(!p.root && (Z' (p.kj=0) && Kh p)) && !(p.root && p.steps.isEmpty)):=by obtain⟨c,b,a⟩:=tg h;unfold wrt;congr 1;(have:Z' (0<p.kj)=!Z' (p.kj=0):=by rw[dS];simp;omega);rw[this];cases p.root<;>cases Z' (p.kj=0)<;>cases Kh p<;>rfl
theorem ai7(n:Nat):∀e:cr,aF e<n->dV (bU e)<=mg->G 267 (bU e)=Z (0,[.bool (oq e)]):=by induction n with|zero=>{intro e h;omega}|succ n v=>intro e w x;have a:=ad9 v w x;have P:=jF e;have H:=ab1 (s:=e.text) (by omega);have m:=afc (p:=e.path) (by omega);have o:=ar2 e.path;rw[bT]at m o;refine bW t267 (by rw[aR];rfl) ?_;simp only[go_sem,t267,aR];by_cases k:e.op=1;{clear v a w x;(have r:gI e=(Z' (e.ai.length=0) && ((Z' (e.text.size=0)) && (zp e.path && eA 0 1000000000 e.num))):=by simp[gI,pT,nQ,eA,k]);have D:e.ai.length=0->va e.ai=I:=Ap;(have f:e.ai.isEmpty=Z' (e.ai.length=0):=by cases e.ai<;>simp);unfold eA at r;simp only[go_sem,sZ,k,f];(repeat' (first|with_reducible rfl|((first|rw[gN]|rw[gQ]|rw[gM]|rw[gP]);split<;>simp only[go_sem,dz, *])));all_goals simp_all[oq]};by_cases j:e.op=2;{clear v a w x;(have r:gI e=(Z' (e.ai.length=0) && ((Z' (e.num=0)) && (zp e.path && iC e.text))):=by simp[gI,pT,nQ,eA,j]);have D:e.ai.length=0->va e.ai=I:=Ap;(have f:e.ai.isEmpty=Z' (e.ai.length=0):=by cases e.ai<;>simp);simp only[go_sem,sZ,j,f];(repeat' (first|with_reducible rfl|((first|rw[gN]|rw[gQ]|rw[gM]|rw[gP]);split<;>simp only[go_sem, *])));all_goals simp_all[oq]};by_cases i:e.op=4;{clear v a w x;(have r:gI e=(Z' (e.ai.length=0) && ((Z' (e.num=0)) && (Z' (e.text.size=0) && gA e.path))):=by simp[gI,pT,nQ,eA,i]);have D:e.ai.length=0->va e.ai=I:=Ap;(have f:e.ai.isEmpty=Z' (e.ai.length=0):=by cases e.ai<;>simp);simp only[go_sem,sZ,i,f];(repeat' (first|with_reducible rfl|((first|rw[gN]|rw[gQ]|rw[gM]|rw[gP]);split<;>simp only[go_sem,dz, *])));all_goals simp_all[oq]};by_cases d:e.op=3;{clear v a w x;(have r:gI e=(Z' (e.ai.length=0) && ((Z' (e.num=0)) && (Z' (e.text.size=0) && (gA e.path && wrt e.path)))):=by simp[gI,pT,nQ,eA,d]);have D:e.ai.length=0->va e.ai=I:=Ap;(have f:e.ai.isEmpty=Z' (e.ai.length=0):=by cases e.ai<;>simp);have N:gA e.path=I->wrt e.path=(!(!e.path.root && (Z' (e.path.kj=0) && Kh e.path)) && !(e.path.root && e.path.steps.isEmpty)):=akr;cases B:e.path.steps with|nil=>{(have K:Kh e.path=J:=by simp[Kh,B]);rw[B]at m;cases g:e.path.root with|true=>{rw[g]at m o;simp only[go_sem,sZ,d,f];(repeat' (first|with_reducible rfl|((first|rw[gN]|rw[gQ]|rw[gM]|rw[gP]);split<;>simp only[go_sem,dz, *])));all_goals simp_all[oq]}|false=>rw[g]at m o;simp only[go_sem,sZ,d,f];(repeat' (first|with_reducible rfl|((first|rw[gN]|rw[gQ]|rw[gM]|rw[gP]);split<;>simp only[go_sem,dz, *])));all_goals simp_all[oq]}|cons s l=>(have K:Kh e.path=(Z' (s.aq=orA) ||decide (s.aq=YJ)):=by simp[Kh,B]);rw[B]at m;cases g:e.path.root with|true=>{rw[g]at m o;simp only[go_sem,sZ,d,f,adb,Sn];(repeat' (first|with_reducible rfl|((first|rw[gN]|rw[gQ]|rw[gM]|rw[gP]);split<;>simp only[go_sem,dz,bz,dq, *])));(all_goals simp_all[oq]);all_goals omega}|false=>rw[g]at m o;simp only[go_sem,sZ,d,f,adb,Sn];(repeat' (first|with_reducible rfl|((first|rw[gN]|rw[gQ]|rw[gM]|rw[gP]);split<;>simp only[go_sem,dz,bz,dq, *])));all_goals simp_all[oq]};cases y:eA 5 15 e.op with|false=>{have C:eA 1 15 e.op=J:=by{rw[dQ]at y ⊢;intro h;apply y;have:=(ej _ _ _).1 h;exact (ej _ _ _).2 (by omega)};(have F:oq e=J:=by simp[oq,gI,C]);(have R:¬(5<=e.op/\e.op<=15):=λh=>by rw[(ej _ _ _).2 h]at y;cases y);(have c:¬e.op=5:=by omega);by_cases q:e.op<1;{simp only[go_sem,k,j,d,i,c,F,q]};(have t:15<e.op:=by omega);simp only[go_sem,k,j,d,i,c,F,q,t]}|true=>have Q:=(ej _ _ _).1 y;have C:eA 1 15 e.op=I:=(ej _ _ _).2 (by omega);(have q:¬e.op<1:=by omega);(have t:¬15<e.op:=by omega);by_cases c:e.op=5;{(have r:gI e=(Z' (e.ai.length=1) && ((Z' (e.num=0)) && (Z' (e.text.size=0) && zp e.path))):=by simp[gI,pT,nQ,eA,c]);by_cases f:e.ai.length=1;{(have b:(e.ai.length:Int)=1:=by omega);rw[b]at a;cases A:va e.ai with|false=>{rw[A]at a;simp only[go_sem]at a;simp only[go_sem,c,b];(repeat' (first|with_reducible rfl|((first|rw[gN]|rw[gQ]|rw[gM]|rw[gP]);split<;>simp only[go_sem,dz, *])));all_goals simp_all[oq]}|true=>rw[A]at a;simp only[go_sem]at a;simp only[go_sem,c,b];(repeat' (first|with_reducible rfl|((first|rw[gN]|rw[gQ]|rw[gM]|rw[gP]);split<;>simp only[go_sem,dz, *])));all_goals simp_all[oq]};(have b:¬(e.ai.length:Int)=1:=by omega);simp only[go_sem,c,b];(repeat' (first|with_reducible rfl|((first|rw[gN]|rw[gQ]|rw[gM]|rw[gP]);split<;>simp only[go_sem,H,m,o,ba0,dz,MR,sZ,c,b, *])));all_goals simp_all[oq]};(have L:nQ e.op=2:=by unfold nQ;rw[if_neg (by omega),if_neg c]);(have r:gI e=(Z' (e.ai.length=2) && ((Z' (e.num=0)) && (Z' (e.text.size=0) && zp e.path))):=by simp[gI,pT,L,C,k,j,d,i]);by_cases f:e.ai.length=2;{(have b:(e.ai.length:Int)=2:=by omega);rw[b]at a;cases A:va e.ai with|false=>{rw[A]at a;simp only[go_sem]at a;simp only[go_sem,k,j,d,i,c,q,t,b];(repeat' (first|with_reducible rfl|((first|rw[gN]|rw[gQ]|rw[gM]|rw[gP]);split<;>simp only[go_sem,dz, *])));all_goals simp_all[oq]}|true=>rw[A]at a;simp only[go_sem]at a;simp only[go_sem,k,j,d,i,c,q,t,b];(repeat' (first|with_reducible rfl|((first|rw[gN]|rw[gQ]|rw[gM]|rw[gP]);split<;>simp only[go_sem,dz, *])));all_goals simp_all[oq]};(have b:¬(e.ai.length:Int)=2:=by omega);simp only[go_sem,k,j,d,i,c,q,t,b];(repeat' (first|with_reducible rfl|((first|rw[gN]|rw[gQ]|rw[gM]|rw[gP]);split<;>simp only[go_sem,H,m,o,ba0,dz,MR,sZ,k,j,d,i,c,q,t,b, *])));all_goals simp_all[oq]
def ar4{e:cr}(a:dV (bU e)<=mg):G 267 (bU e)=Z (0,[.bool (oq e)]):=ai7 _ e (aT _) a
def l6(e:cr):Bool:=Z' (dep e<=8) && oq e
def aoq{e:cr}(a:dV (bU e)<=mg):G 209 (bU e)=Z (0,[.bool (l6 e)]):=by have c:=arF a;have b:=arI a;have d:Z' (((dep e:Nat):Int)<=8)=Z' (dep e<=8):=Xc (dep e) 8;rw[aR]at c b;refine bW t209 (by rw[aR];rfl) ?_;simp only[go_sem,t209,aR,c,d];unfold l6;cases hd:Z' (dep e<=8)<;>simp only[go_sem,b]
def aoE{e:cr}(a:dV (bU e)<=mg):G 268 (bU e)=Z (0,[.bool (l6 e)]):=by have c:=ar1 a;have b:=ar4 a;have d:Z' (((dep e:Nat):Int)<=8)=Z' (dep e<=8):=Xc (dep e) 8;rw[aR]at c b;refine bW t268 (by rw[aR];rfl) ?_;simp only[go_sem,t268,aR,c,d];unfold l6;cases hd:Z' (dep e<=8)<;>simp only[go_sem,b]
def H_(l:M cr)(Rq:Nat):Bool:=l.all l6 && Z' (l.length<=Rq)
def aor{l:M cr}{m:Nat}(f:bO bU l<=mg):G 210 [cB l,E (m:Int)]=Z (0,[.bool (H_ l m)]):=by (have a:l.length<=mg:=by simp only[bO]at f;omega);refine bW t210 rfl ?_;simp only[go_sem,t210];have g:=gJ (b:=lB G Ln) l (λi=>(0,[cB l,E (m:Int),E (i:Int)])) l6 (1,[cB l,E (m:Int),E l.length,.bool J]) (0,[.bool J]) (by intro i x c;have h:=aY c;have j:=wj h a;have d:=aoq (e:=x) (gX f (bj c)).1;rw[aR]at d;simp only[go_sem,bc,Ln,h,aV,c,jV];simp only[go_sem,aR x,d];cases l6 x<;>simp only[go_sem,j]) (by simp only[go_sem,bc,Ln,aE]);rw[n0]at g;rw[g,H_];cases l.all l6<;>simp only[go_sem,Xc]
def aoF{l:M cr}{m:Nat}(f:bO bU l<=mg):G 269 [cB l,E (m:Int)]=Z (0,[.bool (H_ l m)]):=by (have a:l.length<=mg:=by simp only[bO]at f;omega);refine bW t269 rfl ?_;simp only[go_sem,t269];have g:=gJ (b:=lB G LG) l (λi=>(0,[cB l,E (m:Int),cB l,E l.length,E (i:Int)])) l6 (1,[cB l,E (m:Int),cB l,E l.length,E l.length,.bool J]) (0,[.bool J]) (by intro i x c;have h:=aY c;have j:=wj h a;have d:=aoE (e:=x) (gX f (bj c)).1;rw[aR]at d;simp only[go_sem,bc,LG,h,aV,c,jV];simp only[go_sem,aR x,d];cases l6 x<;>simp only[go_sem,j]) (by simp only[go_sem,bc,LG,aE]);rw[n0]at g;rw[g,H_];cases l.all l6<;>simp only[go_sem,Xc]
def lo0(l:M kv):Bool:=match l with
 |r::_=>Z' (0<=r.lo)
 |[]=>I
def AB(a:z->Bool)(t:lW):Bool:=
 if t.ax=1 then Ey t.ranges && (t.names.isEmpty && (Z' (t.pattern.size=0) && Z' (t.path.size=0)))
 else if t.ax=2 then Ey t.ranges && (lo0 t.ranges && ((Z' (t.pattern.size=0) ||a t.pattern) && (t.names.isEmpty && Z' (t.path.size=0))))
 else if t.ax=4 then eA 1 6 t.names.length && (t.ranges.isEmpty && (Z' (t.pattern.size=0) && Z' (t.path.size=0)))
 else if t.ax=5 then iC t.path && (!Z' (t.path.size=0) && (t.ranges.isEmpty && (t.names.isEmpty && Z' (t.pattern.size=0))))
 else if t.ax=3\/t.ax=6 then t.ranges.isEmpty && (t.names.isEmpty && (Z' (t.pattern.size=0) && Z' (t.path.size=0)))
 else J
def uw(l:M z):Bool:=tL l && l.all isName
def isType(a:z->Bool)(t:lW):Bool:=uw t.names && AB a t
theorem Oi(l:M z)(v:z):iB l v=!(l.all λx=>!Z' (x=v)):=by induction l with|nil=>{rfl}|cons x l c=>simp only[iB,g_,dt]at c ⊢;rw[c,decide_eq_decide.2 (eq_comm (a:=v) (b:=x))];cases Z' (x=v)<;>simp
def RA(l:M z):uw l=allI (λk e=>((l.take k).all λx=>!Z' (x=e)) && isName e) 0 l:=by have h:=Ev (λk (e:z)=>(l.take k).all λx=>!Z' (x=e)) (λ_ e=>isName e) 0 l;rw[uw,h,zD,tL];congr 2;funext i e;rw[Oi,iO]
section
variable {kd:Int} {rs:D} {pt ph:z}
theorem Wa{l:M z}{e:z}{k:Nat}(a:nth l k=Z e)(h:bO gm l<=mg) :
  bG (lB G B0) (0,[E (k:Int),E 0,E kd,rs,aI l,.str pt,.str ph]) =
   Z (if (l.take k).all (λx=>!Z' (x=e))=I then (1,[E (k:Int),E (k:Int),.bool J,E kd,rs,aI l,.str pt,.str ph]) else (0,[.bool J])):=by
 have m:=aY a;have c:l.length<=mg:=by simp only[bO]at h;omega
 have d:=pq (b:=lB G B0) (λj=>(0,[E (k:Int),E (j:Int),E kd,rs,aI l,.str pt,.str ph])) (atB (λx=>!Z' (x=e)) l) k
  (1,[E (k:Int),E (k:Int),.bool J,E kd,rs,aI l,.str pt,.str ph]) (0,[.bool J]) (by
  intro j f;have a1:=dG (l:=l) (i:=j) (by omega);have g:=wj (i:=j) (n:=k) f (by omega);generalize l[j]'(by omega)=x at a1;simp only[go_sem,bc,B0,f,aV,a,a1,gm,atB];cases o:Z' (x=e)<;>simp only[go_sem,g]) (by simp only[go_sem,bc,B0,aE]) k 0 (by omega)
 rw[n0]at d;rw[d,zF _ l k 0 (by omega),bQ]
theorem Wb{l:M z}(d:bO gm l<=mg) :
  bG (lB G FQ) (0,[E 0,E kd,rs,aI l,.str pt,.str ph]) =
   Z (if uw l=I then (1,[E l.length,.bool J,E kd,rs,aI l,.str pt,.str ph]) else (0,[.bool J])):=by
 have a:l.length<=mg:=by simp only[bO]at d;omega
 have f:=qZ (b:=lB G FQ) l (λk=>(0,[E (k:Int),E kd,rs,aI l,.str pt,.str ph])) (λk e=>((l.take k).all λx=>!Z' (x=e)) && isName e)
  (1,[E l.length,.bool J,E kd,rs,aI l,.str pt,.str ph]) (0,[.bool J]) (by
  intro k e c;have g:=aY c;have h:=wj g a;have i:=ae7 (s:=e) (by have:=UN l (bj c);omega);simp only[go_sem,bc,FQ,g,Wa c d];cases j:(l.take k).all (λx=>!Z' (x=e)) with
  |false=>simp only[go_sem]
  |true=>
   simp only[go_sem,aV,c,gm,i];cases m:isName e<;>simp only[go_sem,h]) (by simp only[go_sem,bc,FQ,aE]) l.length 0 (by omega)
 rw[n0,bQ]at f;rw[f,RA]
end
theorem aoy{a:z->Bool}(n:∀s:z,s.size<=mg->G 227 [.str s]=Z (0,[.bool (a s)])){t:lW}(k:dV (dE t)<=mg):G 228 (dE t)=Z (0,[.bool (isType a t)]):=by rw[oL]at k;have d:=arK (l:=t.ranges) (by simp only[bO]at k;omega);have q:=n t.pattern (by omega);have o:=abW (s:=t.path) (by omega);refine bW t228 rfl ?_;simp only[go_sem,t228,dE,Wb (l:=t.names) (by omega)];cases m:uw t.names with|false=>{simp only[go_sem,m,isType]}|true=>simp only[go_sem,m,isType,MR];by_cases i:t.ax=1;{(have b:AB a t=(Ey t.ranges && (t.names.isEmpty && (Z' (t.pattern.size=0) && Z' (t.path.size=0)))):=by simp[AB,i]);simp only[go_sem,d,i];(repeat' (first|with_reducible rfl|((first|rw[gN]|rw[gQ]|rw[gM]|rw[gP]);split<;>simp only[go_sem,dz, *])));all_goals simp_all};by_cases c:t.ax=2;{(have b:AB a t=(Ey t.ranges && (lo0 t.ranges && ((Z' (t.pattern.size=0) ||a t.pattern) && (t.names.isEmpty && Z' (t.path.size=0))))):=by simp[AB,c]);cases j:t.ranges with|nil=>{(have p:lo0 t.ranges=I:=by rw[j];rfl);rw[j]at d;simp only[go_sem,d,c,ei];(repeat' (first|with_reducible rfl|((first|rw[gN]|rw[gQ]|rw[gM]|rw[gP]);split<;>simp only[go_sem,dz, *])));all_goals simp_all}|cons r l=>(have p:lo0 t.ranges=Z' (0<=r.lo):=by rw[j];rfl);rw[j]at d;simp only[go_sem,d,c,i_];(repeat' (first|with_reducible rfl|((first|rw[gN]|rw[gQ]|rw[gM]|rw[gP]);split<;>simp only[go_sem,dz,bz,lD, *])));all_goals simp_all};by_cases g:t.ax=4;{(have b:AB a t=(eA 1 6 t.names.length && (t.ranges.isEmpty && (Z' (t.pattern.size=0) && Z' (t.path.size=0)))):=by simp[AB,g]);simp only[go_sem,zy,g];(repeat' (first|with_reducible rfl|((first|rw[gN]|rw[gQ]|rw[gM]|rw[gP]);split<;>simp only[go_sem,dz, *])));all_goals simp_all};by_cases f:t.ax=5;{(have b:AB a t=(iC t.path && (!Z' (t.path.size=0) && (t.ranges.isEmpty && (t.names.isEmpty && Z' (t.pattern.size=0))))):=by simp[AB,f]);simp only[go_sem,o,f];(repeat' (first|with_reducible rfl|((first|rw[gN]|rw[gQ]|rw[gM]|rw[gP]);split<;>simp only[go_sem,dz, *])));all_goals simp_all};by_cases h:t.ax=3;{(have b:AB a t=(t.ranges.isEmpty && (t.names.isEmpty && (Z' (t.pattern.size=0) && Z' (t.path.size=0)))):=by simp[AB,h]);simp only[go_sem,h];(repeat' (first|with_reducible rfl|((first|rw[gN]|rw[gQ]|rw[gM]|rw[gP]);split<;>simp only[go_sem,dz, *])));all_goals simp_all};by_cases e:t.ax=6;{(have b:AB a t=(t.ranges.isEmpty && (t.names.isEmpty && (Z' (t.pattern.size=0) && Z' (t.path.size=0)))):=by simp[AB,e]);simp only[go_sem,e];(repeat' (first|with_reducible rfl|((first|rw[gN]|rw[gQ]|rw[gM]|rw[gP]);split<;>simp only[go_sem,dz, *])));all_goals simp_all};(have b:AB a t=J:=by simp[AB,i,c,h,g,f,e]);simp only[go_sem,i,c,h,g,f,e,b]
def zT(t:lW):Bool:=Z' (t.ax=0) && (t.ranges.isEmpty && (t.names.isEmpty && (Z' (t.pattern.size=0) && Z' (t.path.size=0))))
def ar5(t:lW):G 270 (dE t)=Z (0,[.bool (zT t)]):=by refine bW t270 rfl ?_;simp only[go_sem,t270,dE];(repeat' (first|with_reducible rfl|((first|rw[gN]|rw[gQ]|rw[gM]|rw[gP]);split<;>simp only[go_sem,sZ,dz, *])));all_goals simp_all[zT]
def aos(t:lW):G 211 (dE t)=Z (0,[.bool (zT t)]):=by refine bW t211 rfl ?_;simp only[go_sem,t211,dE];(repeat' (first|with_reducible rfl|((first|rw[gN]|rw[gQ]|rw[gM]|rw[gP]);split<;>simp only[go_sem,sZ,dz, *])));all_goals simp_all[zT]
def GW{l:M z}(h:l.isEmpty=I):uw l=I:=by rw[dR.1 h];rfl
def YR{l:M kv}(h:l.isEmpty=I):Ey l=I:=by rw[dR.1 h];rfl
theorem aoK{a:z->Bool}(e:∀s:z,s.size<=mg->G 285 [.str s]=Z (0,[.bool (a s)])){t:lW}(b:dV (dE t)<=mg):G 286 (dE t)=Z (0,[.bool (isType a t)]):=by rw[oL]at b;have c:=ar7 (l:=t.ranges) (by simp only[bO]at b;omega);have i:=e t.pattern (by omega);have h:=ab1 (s:=t.path) (by omega);have g:=ai8 (l:=t.names) (by omega);have f:=XF (l:=t.names) (by simp only[bO]at b;omega);refine bW t286 rfl ?_;simp only[go_sem,isType,t286,dE];by_cases k:t.ax=1;{(have d:AB a t=(Ey t.ranges && (t.names.isEmpty && (Z' (t.pattern.size=0) && Z' (t.path.size=0)))):=by simp[AB,k]);simp only[go_sem,MR,k];(repeat' (first|with_reducible rfl|((first|rw[gN]|rw[gQ]|rw[gM]|rw[gP]);split<;>simp only[go_sem,dz, *])));(all_goals clear c i h g f e b);all_goals simp_all[GW]};by_cases j:t.ax=2;{(have d:AB a t=(Ey t.ranges && (lo0 t.ranges && ((Z' (t.pattern.size=0) ||a t.pattern) && (t.names.isEmpty && Z' (t.path.size=0))))):=by simp[AB,j]);cases m:t.ranges with|nil=>{(have v:lo0 t.ranges=I:=by rw[m];rfl);rw[m]at c;simp only[go_sem,MR,j];(repeat' (first|with_reducible rfl|((first|rw[gN]|rw[gQ]|rw[gM]|rw[gP]);split<;>simp only[go_sem,dz,cO, *])));(all_goals clear c i h g f e b);all_goals simp_all[GW,YR]}|cons r l=>(have v:lo0 t.ranges=Z' (0<=r.lo):=by rw[m];rfl);rw[m]at c;simp only[go_sem,MR,j];(repeat' (first|with_reducible rfl|((first|rw[gN]|rw[gQ]|rw[gM]|rw[gP]);split<;>simp only[go_sem,dz,bz,lD, *])));(all_goals clear c i h g f e b);(all_goals simp_all[GW]);all_goals omega};by_cases p:t.ax=4;{(have d:AB a t=(eA 1 6 t.names.length && (t.ranges.isEmpty && (Z' (t.pattern.size=0) && Z' (t.path.size=0)))):=by simp[AB,p]);unfold eA at d;unfold uw;simp only[go_sem,MR,p];(repeat' (first|with_reducible rfl|((first|rw[gN]|rw[gQ]|rw[gM]|rw[gP]);split<;>simp only[go_sem,dz, *])));(all_goals clear c i h g f e b);all_goals simp_all[GW,YR]};by_cases o:t.ax=5;{(have d:AB a t=(iC t.path && (!Z' (t.path.size=0) && (t.ranges.isEmpty && (t.names.isEmpty && Z' (t.pattern.size=0))))):=by simp[AB,o]);simp only[go_sem,MR,o];(repeat' (first|with_reducible rfl|((first|rw[gN]|rw[gQ]|rw[gM]|rw[gP]);split<;>simp only[go_sem,dz,MR, *])));(all_goals clear c i h g f e b);all_goals simp_all[GW]};by_cases q:t.ax=3;{(have d:AB a t=(t.ranges.isEmpty && (t.names.isEmpty && (Z' (t.pattern.size=0) && Z' (t.path.size=0)))):=by simp[AB,q]);simp only[go_sem,MR,q];(repeat' (first|with_reducible rfl|((first|rw[gN]|rw[gQ]|rw[gM]|rw[gP]);split<;>simp only[go_sem,dz,MR, *])));(all_goals clear c i h g f e b);all_goals simp_all[GW]};by_cases n:t.ax=6;{(have d:AB a t=(t.ranges.isEmpty && (t.names.isEmpty && (Z' (t.pattern.size=0) && Z' (t.path.size=0)))):=by simp[AB,n]);simp only[go_sem,MR,n];(repeat' (first|with_reducible rfl|((first|rw[gN]|rw[gQ]|rw[gM]|rw[gP]);split<;>simp only[go_sem,dz,MR, *])));(all_goals clear c i h g f e b);all_goals simp_all[GW]};(have d:AB a t=J:=by simp[AB,k,j,q,p,o,n]);simp only[go_sem,MR,k,j,d];repeat' (first|with_reducible rfl|((first|rw[gN]|rw[gQ]|rw[gM]|rw[gP]);split<;>simp only[go_sem,dz,MR, *]))
def kD:z:=⟨#[116,114,117,101]⟩
def iA:z:=⟨#[102,97,108,115,101]⟩
def DA:z:=⟨#[49]⟩
def uV:z:=⟨#[48]⟩
theorem MA:(⟨[116,114,117,101].toArray⟩:z)=kD:=(rfl)
theorem HD:(⟨[102,97,108,115,101].toArray⟩:z)=iA:=(rfl)
theorem So:(⟨[49].toArray⟩:z)=DA:=(rfl)
theorem MB:(⟨[48].toArray⟩:z)=uV:=(rfl)
def mo(s:z):z:=if s=DA then kD else if s=uV then iA else s
def nc(mt:z->z->Bool)(t:lW)(s:z):u z:=
 if t.ax=1 then (match Mj s with
  |some n=>if TL t.ranges n=I then Z (oB n) else O
  |none=>O)
 else if t.ax=2 then (if (iC s && (TL t.ranges s.size && (Z' (t.pattern.size=0) ||mt t.pattern s)))=I then Z s else O)
 else if t.ax=3 then (if (Z' (mo s=kD) ||decide (mo s=iA))=I then Z (mo s) else O)
 else if t.ax=4 then (if iB t.names s=I then Z s else O)
 else if t.ax=5 then (if (iC s && !Z' (s.size=0))=I then Z s else O)
 else if t.ax=6 then (if s.size=0 then Z s else O)
 else O
def EC(a:z->Bool)(mt:z->z->Bool)(t:lW)(s:z):u z:=if isType a t=I then nc mt t s else O
def mc:u z->M D
 |some v=>[.str v,.bool I]
 |none=>[.str ⟨#[]⟩,.bool J]
def H0{l:M z}{i:Nat}{e s:z}(h:nth l i=Z e):((l.take (i+1)).any λx=>Z' (x=s))=(((l.take i).any λx=>Z' (x=s)) ||decide (e=s)):=by rw[cd l i e h,List.any_append];simp
def aaG(l:M z)(s:z):(l.any λx=>Z' (x=s))=iB l s:=by unfold iB;congr 1;funext x;exact decide_eq_decide.2 eq_comm
def ad8{l:M z}{s o pt ph:z}{kd:Int}{rs:D}(hlen:l.length<=mg) :
  bG (lB G FT) (0,[.str s,.str o,.bool J,E 0,E kd,rs,aI l,.str pt,.str ph])=Z (0,[.str s,.str o,.bool (iB l s),E l.length,.bool J,E kd,rs,aI l,.str pt,.str ph]):=by
 have c:=cI (b:=lB G FT) l (λi (b:Bool)=>(0,[.str s,.str o,.bool b,E (i:Int),E kd,rs,aI l,.str pt,.str ph])) (λi=>(l.take i).any λx=>Z' (x=s))
  (0,[.str s,.str o,.bool (l.any λx=>Z' (x=s)),E l.length,.bool J,E kd,rs,aI l,.str pt,.str ph]) (by
  intro i e a;have d:=aY a;have f:=wj d hlen;rw[H0 a];cases g:(l.take i).any λx=>Z' (x=s)<;>simp only[go_sem,bc,FT,d,aV,a,gm,f]) (by simp only[go_sem,bc,FT,aE,bl]) l.length 0 (by omega)
 rw[n0,br,List.any_nil,aaG]at c;exact c
theorem arS{d:z->Bool}{mt:z->z->Bool}(P:∀s:z,s.size<=mg->G 227 [.str s]=Z (0,[.bool (d s)]))(Q:∀p s:z,p.size<=mg->s.size<=mg->G 236 [.str p,.str s]=Z (0,[.bool (mt p s)]))
  {t:lW} {s:z} (L:dV (dE t)<=mg) (H:s.size<=mg):G 237 (dE t++[.str s])=Z (0,mc (EC d mt t s)):=by have b:=aoy P L;have F:=L;rw[oL]at F;have B:=arP H;have R:=abW H;have U:=abZ (n:=0) (by omega);have T:=Q t.pattern s (by omega) H;have K:∀n:Int,G 232 [gR t.ranges,E n]=Z (0,[.bool (TL t.ranges n)]):=λn=>arQ (by simp only[bO]at F;omega);have e:=ad8 (l:=t.names) (s:=s) (o:=s) (pt:=t.pattern) (ph:=t.path) (kd:=t.ax) (rs:=gR t.ranges) (by simp only[bO]at F;omega);rw[dE]at b;refine bW t237 rfl ?_;simp only[go_sem,MA,HD,So,MB,t237,dE];(have fin:∀{r:u z},nc mt t s=r->EC d mt t s=if isType d t=I then r else O:=λh=>by rw[EC,h]);clear P Q;by_cases j:t.ax=1;{rw[j]at b e;cases q:Mj s with|none=>{have a:=fin (r:=O) (by simp[nc,j,q]);rw[q]at B;clear fin e;cases c:isType d t<;>rw[c]at b a<;>simp only[go_sem,j,B,U,eN,a,mc]}|some n=>have N:=abZ (n:=n) (XI q);rw[q]at B;cases C:TL t.ranges n with|false=>{have a:=fin (r:=O) (by simp[nc,j,q,C]);clear fin e;cases c:isType d t<;>rw[c]at b a<;>simp only[go_sem,K,j,B,N,C,eN,a,mc]}|true=>have a:=fin (r:=Z (oB n)) (by simp[nc,j,q,C]);clear fin e;cases c:isType d t<;>rw[c]at b a<;>simp only[go_sem,K,j,B,N,C,eN,b,a,mc]};by_cases y:t.ax=2;{rw[y]at b e;have a:=fin (r:=if (iC s && (TL t.ranges s.size && (Z' (t.pattern.size=0) ||mt t.pattern s)))=I then Z s else O) (by simp[nc,y]);clear fin e;cases c:isType d t<;>rw[c]at b a<;>cases g:iC s<;>cases f:TL t.ranges s.size<;>by_cases m:t.pattern.size=0<;>cases k:mt t.pattern s<;>rw[g,f,k]at a<;>simp only[go_sem,m]at a<;>simp only[go_sem,R,T,K,dz,y,g,f,m,k,b,a,mc]};by_cases i:t.ax=3;{rw[i]at b e;have a:=fin (r:=if (Z' (mo s=kD) ||decide (mo s=iA))=I then Z (mo s) else O) (by simp[nc,i]);clear fin e;(have d1:¬DA=uV:=by decide);(have S:¬kD=iA:=by decide);(have D:¬iA=kD:=by decide);(have d4:¬uV=DA:=by decide);(have Y:¬kD=DA:=by decide);(have X:¬kD=uV:=by decide);(have W:¬iA=DA:=by decide);(have V:¬iA=uV:=by decide);by_cases g:s=DA;{(have A:mo s=kD:=by rw[mo,if_pos g]);rw[A]at a;simp only[go_sem,S]at a;cases c:isType d t<;>rw[c]at b a<;>simp only[go_sem,i,g,b,mc]<;>(rw[g]at a;simp only[go_sem,a])};by_cases f:s=uV;{(have A:mo s=iA:=by rw[mo,if_neg g,if_pos f]);rw[A]at a;simp only[go_sem,D]at a;cases c:isType d t<;>rw[c]at b a<;>simp only[go_sem,i,f,D,d4,b,mc]<;>(rw[f]at a;simp only[go_sem,a])};(have A:mo s=s:=by rw[mo,if_neg g,if_neg f]);rw[A]at a;by_cases m:s=kD;{simp only[go_sem,m,S]at a;cases c:isType d t<;>rw[c]at b a<;>simp only[go_sem,i,m,Y,X,b,mc]<;>simp only[go_sem,a]};by_cases k:s=iA;{simp only[go_sem,k,D]at a;cases c:isType d t<;>rw[c]at b a<;>simp only[go_sem,i,k,D,W,V,b,mc]<;>simp only[go_sem,a]};simp only[go_sem,m,k,ite_self]at a;cases c:isType d t<;>rw[c]at b<;>simp only[go_sem,i,g,f,m,k,a,mc]};by_cases x:t.ax=4;{rw[x]at b e;have a:=fin (r:=if iB t.names s=I then Z s else O) (by simp[nc,x]);clear fin;cases c:isType d t<;>rw[c]at b a<;>cases g:iB t.names s<;>rw[g]at e a<;>simp only[go_sem,x,e,b,a,mc]};by_cases w:t.ax=5;{rw[w]at b e;have a:=fin (r:=if (iC s && !Z' (s.size=0))=I then Z s else O) (by simp[nc,w]);clear fin e;cases c:isType d t<;>rw[c]at b a<;>cases g:iC s<;>by_cases f:s.size=0<;>rw[g]at a<;>simp only[go_sem,f]at a<;>simp only[go_sem,R,dz,w,g,f,b,a,mc]};by_cases v:t.ax=6;{rw[v]at b e;have a:=fin (r:=if s.size=0 then Z s else O) (by simp[nc,v]);clear fin e;cases c:isType d t<;>rw[c]at b a<;>by_cases f:s.size=0<;>simp only[go_sem,f]at a<;>simp only[go_sem,dz,v,f,b,a,mc]};have a:=fin (r:=O) (by simp[nc,j,y,i,x,w,v]);clear fin e;cases c:isType d t<;>rw[c]at b a<;>simp only[go_sem,j,y,i,x,w,v,a,mc]
def lU{a:Type}(l:M a)(i:Int):u a:=if 0<=i then nth l i.toNat else O
def v7{a:Type}(l:M a)(i:Nat):lU l (i:Int)=nth l i:=by unfold lU;rw[if_pos (by omega),cn]
theorem tc{a:Type}{l:M a}{i:Int}(h:¬(0<=i/\i<=(l.length:Int) - 1)):lU l i=O:=by unfold lU;split;{cases b:nth l i.toNat with|none=>{rfl}|some x=>have:=aY b;exact absurd ⟨by assumption,by omega⟩ h};rfl
def wX{b:Type}{l:M b}{i:Int}(h:0<=i/\i<=(l.length:Int) - 1):∃(k:Nat) (x:b),i=(k:Int)/\k<l.length/\nth l k=Z x/\lU l i=Z x:=by (have a:i.toNat<l.length:=by omega);refine⟨i.toNat,l[i.toNat],by omega,a,dG a,?_⟩;unfold lU;rw[if_pos h.1,dG a]
def iK:M aD->M Int->M aD
 |l,[]=>l
 |l,i::is=>match lU l i with
  |none=>[]
  |some x=>iK x.ai is
def iY:M aD->M Int->u aD
 |_,[]=>O
 |l,i::is=>match lU l i with
  |none=>O
  |some x=>if is.isEmpty=I then Z x else iY x.ai is
theorem V4:∀a:M Int,iK [] a=[]
 |[]=>rfl
 |i::a=>by have:lU ([]:M aD) i=O:=tc (by simp only[aJ];omega);rw[iK,this]
theorem FI:∀(l:M aD) (b:M Int) (i:Int),iK l (b++[i])=iK (iK l b) [i]
 |l,[],i=>rfl
 |l,a::b,i=>by show (match lU l a with|none=>[]|some x=>iK x.ai (b++[i]))=iK (match lU l a with|none=>[]|some x=>iK x.ai b) [i];cases lU l a with|none=>{exact (V4 [i]).symm}|some x=>exact FI x.ai b i
theorem GO:∀(l:M aD) (b:M Int) (i:Int),iY l (b++[i])=lU (iK l b) i
 |l,[],i=>by rw[au,iY,iK];cases lU l i<;>rfl
 |l,a::b,i=>by rw[av,iY,iK];cases lU l a with|none=>{exact (tc (by simp only[aJ];omega)).symm}|some x=>dsimp only;rw[if_neg (by simp)];exact GO x.ai b i
theorem FH:∀(l:M aD) (a:M Int),a≠[]->iK l a=match iY l a with
  |none=>[]
  |some x=>x.ai
 |l,[],h=>absurd rfl h
 |l,[i],_=>by rw[iK,iY];cases lU l i<;>rfl
 |l,i::j::a,_=>by rw[iK,iY];cases lU l i with|none=>{rfl}|some x=>exact FH x.ai (j::a) (by simp)
def AY{l:M aD}{i:Int}{x:aD}(h:lU l i=Z x):bO bh x.ai+1<=bO bh l:=by unfold lU at h;split at h;{have b:=cq bh (bj h);have a:=eF x;omega};cases h
theorem p9:∀(l:M aD) (a:M Int),bO bh (iK l a)<=bO bh l
 |l,[]=>aH _
 |l,i::a=>by rw[iK];cases h:lU l i with|none=>{exact bI _}|some x=>have c:=p9 x.ai a;have b:=AY h;dsimp only;omega
def AH(x:aD)(t:M fP):Bool:=t.all λt=>x.ai.any λk=>Z' (k.aq=t.aq) && Z' (k.bo=t.bo)
def adU(st:eh)(x:aD):Bool:=Z' (x.aq=st.aq) && AH x st.cT
def jC(st:eh)(pl:M Int):M aD->Nat->M (M Int)
 |[],_=>[]
 |x::xs,j=>if adU st x=I then (pl++[(j:Int)])::jC st pl xs (j+1) else jC st pl xs (j+1)
def pC(l:M aD)(st:eh)(a:M (M Int)):M (M Int):=a.flatMap λpl=>jC st pl (iK l pl) 0
def DD(l:M aD):M eh->M (M Int)->M (M Int)
 |[],now=>now
 |st::a,now=>DD l a (pC l st now)
def uC(l:M aD)(at_:M Int)(p:fE):M (M Int):=
 if gA p=I/\p.kj.toNat<=at_.length then DD l p.steps [if p.root=I then [] else at_.take (at_.length - p.kj.toNat)] else []
theorem yt(st:eh)(pl:M Int)(x:aD):∀(l:M aD) (j:Nat),jC st pl (l++[x]) j=jC st pl l j++if adU st x=I then [pl++[((j+l.length:Nat):Int)]] else []
 |[],j=>by rw[au,jC,jC,au];split<;>rw[jC]<;>rfl
 |y::l,j=>by rw[av,jC,jC,yt st pl x l (j+1),aN,show j+1+l.length=j+(l.length+1) by omega];split<;>rfl
def mN(l:M aD):M (M Int)->Nat
 |[]=>0
 |pl::a=>1+bO bh (iK l pl)+mN l a
theorem GK(l:M aD)(b:M (M Int)):∀a,mN l (a++b)=mN l a+mN l b
 |[]=>by simp[mN]
 |p::a=>by rw[av,mN,mN,GK l b a];omega
theorem ny(l:M aD):∀a:M (M Int),a.length<=mN l a
 |[]=>bI _
 |p::a=>by rw[mN,aN];have:=ny l a;omega
theorem Fq(l:M aD)(st:eh)(pl:M Int):∀(b a:M aD),iK l pl=a++b->mN l (jC st pl b a.length)<=bO bh b
 |[],a,h=>bI _
 |x::b,a,h=>by have c:=Fq l st pl b (a++[x]) (by rw[h];simp);rw[ay,aL]at c;rw[jC,fW,eF];split;{have d:iK l (pl++[(a.length:Int)])=x.ai:=by{rw[FI,h,iK,v7];(have:nth (a++x::b) a.length=Z x:=by rw[ek];simp);rw[this];rfl};rw[mN,d];omega};omega
theorem pJ(l:M aD)(st:eh):∀a:M (M Int),mN l (pC l st a)+a.length<=mN l a
 |[]=>aH _
 |pl::a=>by have c:=Fq l st pl (iK l pl) [] rfl;have b:=pJ l st a;rw[aJ]at c;rw[pC,fe,GK,mN,aN];rw[pC]at b;omega
theorem JX(l:M aD):∀(b:M eh) (a:M (M Int)),mN l (DD l b a)<=mN l a
 |[],a=>aH _
 |st::b,a=>by have d:=JX l b (pC l st a);have c:=pJ l st a;rw[DD];omega
def xh(l:M aD)(at_:M Int)(p:fE):mN l (uC l at_ p)<=1+bO bh l:=by unfold uC;split;{refine aS (JX l _ _) ?_;rw[mN,mN];have:=p9 l (if p.root=I then [] else at_.take (at_.length - p.kj.toNat));omega};exact bI _
def Io(n:Nat)(a:M (M Int)):Prop:=∀p∈a,p.length<=n
theorem Fo{n:Nat}(st:eh){pl:M Int}(h:pl.length<=n):∀(b:M aD) (j:Nat),Io (n+1) (jC st pl b j)
 |[],j=>λp a=>by simp[jC]at a
 |x::b,j=>by have c:=Fo st h b (j+1);rw[jC];split;{intro p a;rcases aU.1 a with rfl|a;{rw[ay,aL];omega};exact c p a};exact c
def CH{n:Nat}(l:M aD)(st:eh){a:M (M Int)}(h:Io n a):Io (n+1) (pC l st a):=by intro p b;obtain⟨pl,d,c⟩:=List.mem_flatMap.1 b;exact Fo st (h pl d) _ _ p c
def qR(l:M aD)(at_:M Int)(p:fE):M z:=(uC l at_ p).filterMap λpl=>(iY l pl).map aD.bo
def A5(l:M aD)(at_:M Int)(p:fE):(qR l at_ p).length<=1+bO bh l:=by have c:=xh l at_ p;have b:=ny l (uC l at_ p);have a:=uI (λpl=>(iY l pl).map aD.bo) (uC l at_ p);unfold qR;omega
structure iU where
 ax:Int
 num:Int
 text:ByteArray
 yes:Bool
 list:List ByteArray
def abB:iU:=⟨0,0,⟨#[]⟩,J,[]⟩
def Yn:iU:=⟨2,0,⟨#[]⟩,J,[]⟩
def GV(n:Int):iU:=⟨1,n,⟨#[]⟩,J,[]⟩
def PU(b:Bool):iU:=⟨3,0,⟨#[]⟩,b,[]⟩
def cm(w:iU):M D:=[.int .i64 w.ax,.int .i64 w.num,.str w.text,.bool w.yes,aI w.list]
def fZ(w:iU):M z:=if w.ax=1 then [oB w.num] else if w.ax=2 then [w.text] else if w.ax=3 then [if w.yes=I then kD else iA] else if w.ax=4 then w.list else []
def fH(w:iU):Bool:=if w.ax=1 then !Z' (w.num=0) else if w.ax=2 then !Z' (w.text.size=0) else if w.ax=3 then w.yes else Z' (w.ax=4) && !w.list.isEmpty
def Zj(op:Int)(x y:Int):Bool:=if op=10 then Z' (x<y) else if op=11 then Z' (x<=y) else if op=12 then Z' (y<x) else if op=13 then Z' (y<=x) else J
def xF(s:z):Bool:=Z' (0<s.size) && Z' (bY s 0=45)
def sh(s:z):u Int:=match AM (if xF s=I then tl s else s) with
 |none=>O
 |some n=>if oB (if xF s=I then -n else n)=s then Z (if xF s=I then -n else n) else O
def nj(op:Int)(a b:z):Bool:=
 if op=8 then Z' (a=b) else if op=9 then !Z' (a=b) else match sh a,sh b with
  |some x,Z y=>Zj op x y
  |_,_=>J
def rQ(w:iU):u Int:=match fZ w with
 |[]=>O
 |a::_=>sh a
def RQ(op:Int)(a b:iU):iU:=match rQ a,rQ b with
 |some x,Z y=>if eA (-1000000000) 1000000000 (if op=15 then x - y else x+y)=I then GV (if op=15 then x - y else x+y) else Yn
 |_,_=>Yn
def vlO(t:M aD)(at_:M Int)(e:cr)(c:M iU):iU:=
 if e.op=1 then GV e.num else if e.op=2 then ⟨2,0,e.text,J,[]⟩ else if e.op=3 then ⟨4,0,⟨#[]⟩,J,qR t at_ e.path⟩ else if e.op=4 then GV (uC t at_ e.path).length else match c with
  |[]=>abB
  |a::c=>if e.op=5 then PU (!fH a) else match c with
   |[]=>abB
   |b::_=>if e.op=7 then PU (fH a && fH b) else if e.op=6 then PU (fH a ||fH b) else if e.op=14\/e.op=15 then RQ e.op a b else
    PU ((fZ a).any λx=>(fZ b).any λy=>nj e.op x y)
def vlL(t:M aD)(at_:M Int):M cr->M iU
 |[]=>[]
 |e::es=>vlO t at_ e (vlL t at_ e.ai)::vlL t at_ es
termination_by es=>aF es
decreasing_by
 all_goals first
  |exact cr.gx e es
  |(simp only[bJ];omega)
def Em(t:M aD)(at_:M Int)(e:cr):iU:=vlO t at_ e (vlL t at_ e.ai)
def vlX(t:M aD)(at_:M Int)(e:cr):iU:=if l6 e=I then Em t at_ e else abB
def pX(t:M aD)(at_:M Int)(e:cr):Bool:=fH (vlX t at_ e)
theorem asc{g:z->Bool}{mt:z->z->Bool}(K:∀s:z,s.size<=mg->G 285 [.str s]=Z (0,[.bool (g s)]))(L:∀p s:z,p.size<=mg->s.size<=mg->G 310 [.str p,.str s]=Z (0,[.bool (mt p s)]))
  {t:lW} {s:z} (D:dV (dE t)<=mg) (B:s.size<=mg):G 311 (dE t++[.str s])=Z (0,mc (EC g mt t s)):=by
 have f:=aoK K D;have A:=D;rw[oL]at A;have j:=aoL B;have N:=ab1 B;have U:=afe 0;have T:=L t.pattern s (by omega) B;have C:∀n:Int,G 288 [gR t.ranges,E n]=Z (0,[.bool (TL t.ranges n)]):=λn=>asa (by simp only[bO]at A;omega);have S:=q99 (l:=t.names) (v:=s) (by simp only[bO]at A;omega);rw[dE]at f;refine bW t311 rfl ?_;clear K L;cases y:isType g t with
 |false=>
  have a:EC g mt t s=O:=by rw[EC,y];rfl
  rw[y]at f;simp only[go_sem,MA,HD,So,MB,t311,dE,f,a,mc]
 |true=>
 have H:EC g mt t s=nc mt t s:=by rw[EC,y];rfl
 rw[y]at f;rw[H];clear H;simp only[go_sem,MA,HD,So,MB,t311,dE,f];clear f;by_cases e:t.ax=1
 .cases h:Mj s with
  |none=>
   have a:nc mt t s=O:=by simp[nc,e,h]
   rw[h]at j;simp only[go_sem,e,j,U,eN,a,mc]
  |some n=>
   have F:=afe n;rw[h]at j;cases x:TL t.ranges n with
   |false=>
    have a:nc mt t s=O:=by simp[nc,e,h,x]
    simp only[go_sem,C,e,j,F,x,eN,a,mc]
   |true=>
    have a:nc mt t s=Z (oB n):=by simp[nc,e,h,x]
    simp only[go_sem,C,e,j,F,x,eN,a,mc]
 by_cases w:t.ax=2
 .have a:nc mt t s=if (iC s && (TL t.ranges s.size && (Z' (t.pattern.size=0) ||mt t.pattern s)))=I then Z s else O:=by simp[nc,w]
  cases b:iC s<;>cases c:TL t.ranges s.size<;>by_cases m:t.pattern.size=0<;>cases k:mt t.pattern s<;>rw[b,c,k]at a<;>simp only[go_sem,m]at a<;>simp only[go_sem,N,T,C,dz,w,b,c,m,k,a,mc]
 by_cases d:t.ax=3
 .have a:nc mt t s=if (Z' (mo s=kD) ||decide (mo s=iA))=I then Z (mo s) else O:=by simp[nc,d]
  have d1:¬DA=uV:=by decide
  have R:¬kD=iA:=by decide
  have Q:¬iA=kD:=by decide
  have Y:¬uV=DA:=by decide
  have X:¬kD=DA:=by decide
  have P:¬kD=uV:=by decide
  have W:¬iA=DA:=by decide
  have V:¬iA=uV:=by decide
  by_cases b:s=DA
  .have i:mo s=kD:=by rw[mo,if_pos b]
   rw[i]at a;rw[a];simp only[go_sem,d,b,R,P,mc]
  by_cases c:s=uV
  .have i:mo s=iA:=by rw[mo,if_neg b,if_pos c]
   rw[i]at a;rw[a];simp only[go_sem,d,c,Q,Y,mc]
  have i:mo s=s:=by rw[mo,if_neg b,if_neg c]
  rw[i]at a;rw[a];by_cases m:s=kD
  .simp only[go_sem,d,m,R,X,P,mc]
  by_cases k:s=iA
  .simp only[go_sem,d,k,Q,W,V,mc]
  simp only[go_sem,d,b,c,m,k,mc]
 by_cases r:t.ax=4
 .have a:nc mt t s=if iB t.names s=I then Z s else O:=by simp[nc,r]
  rw[a];cases b:iB t.names s<;>simp only[go_sem,S,r,b,mc]
 by_cases q:t.ax=5
 .have a:nc mt t s=if (iC s && !Z' (s.size=0))=I then Z s else O:=by simp[nc,q]
  rw[a];cases b:iC s<;>by_cases c:s.size=0<;>simp only[go_sem,N,dz,q,b,c,mc]
 by_cases o:t.ax=6
 .have a:nc mt t s=if s.size=0 then Z s else O:=by simp[nc,o]
  rw[a];by_cases c:s.size=0<;>simp only[go_sem,dz,o,c,mc]
 have a:nc mt t s=O:=by simp[nc,e,w,d,r,q,o]
 rw[a];simp only[go_sem,e,w,d,r,q,o,mc]
def isVal(a:z->Bool)(mt:z->z->Bool)(t:lW)(s:z):Bool:=match EC a mt t s with
 |some v=>Z' (v=s)
 |none=>J
theorem aoz{a:z->Bool}{mt:z->z->Bool}(e:∀s:z,s.size<=mg->G 227 [.str s]=Z (0,[.bool (a s)]))(f:∀p s:z,p.size<=mg->s.size<=mg->G 236 [.str p,.str s]=Z (0,[.bool (mt p s)]))
  {t:lW} {s:z} (c:dV (dE t)<=mg) (d:s.size<=mg):G 238 (dE t++[.str s])=Z (0,[.bool (isVal a mt t s)]):=by have h:=arS e f c d;rw[dE]at h;refine bW t238 rfl ?_;unfold isVal;cases b:EC a mt t s with|none=>{rw[b]at h;simp only[go_sem]at h;simp only[go_sem,t238,dE,h,mc]}|some v=>rw[b]at h;simp only[go_sem]at h;simp only[go_sem,t238,dE,h,mc]
theorem aoN{a:z->Bool}{mt:z->z->Bool}(e:∀s:z,s.size<=mg->G 285 [.str s]=Z (0,[.bool (a s)]))(f:∀p s:z,p.size<=mg->s.size<=mg->G 310 [.str p,.str s]=Z (0,[.bool (mt p s)]))
  {t:lW} {s:z} (c:dV (dE t)<=mg) (d:s.size<=mg):G 312 (dE t++[.str s])=Z (0,[.bool (isVal a mt t s)]):=by have h:=asc e f c d;rw[dE]at h;refine bW t312 rfl ?_;unfold isVal;cases b:EC a mt t s with|none=>{rw[b]at h;simp only[go_sem]at h;simp only[go_sem,t312,dE,h,mc]}|some v=>rw[b]at h;simp only[go_sem]at h;simp only[go_sem,t312,dE,h,mc]
theorem tR{k β d f:Type}{b:d->u (Sg d f)}(es:M k)(g:k->β)(h:Nat->d)(a:Nat->M β->d)(p:f)(j:M β->f)
  (v:∀e,nth es 0=Z e->b (h 0)=Z (.go (a 1 [g e])))
  (t:∀i e,nth es i=Z e->0<i->b (a i ((es.take i).map g))=Z (.go (a (i+1) ((es.take i).map g++[g e]))))
  (y:es=[]->b (h 0)=Z (.out p)) (w:es≠[]->b (a es.length (es.map g))=Z (.out (j (es.map g)))) :
  bG b (h 0)=Z (if es.isEmpty=I then p else j (es.map g)):=by cases c:es with|nil=>{rw[aK (y c)];rfl}|cons x l=>(have r:es≠[]:=by rw[c];simp);have go:∀m i,i+m=es.length->0<i->bG b (a i ((es.take i).map g))=Z (j (es.map g)):=by{intro m;induction m with|zero=>{intro i s o;(obtain rfl:i=es.length:=by omega);rw[bl];exact aK (w r)}|succ m q=>intro i s o;have a1:=dG (l:=es) (i:=i) (by omega);rw[bD (t i _ a1 o),<- Au a1];exact q (i+1) (by omega) (by omega)};(have n:nth es 0=Z x:=by rw[c];rfl);rw[bD (v x n)];have:=go (es.length - 1) 1 (by rw[c];simp;omega) (by omega);rw[Au n]at this;simp only[br,cO,au]at this;rw[this,c];rfl
def dM(k a:Nat)(c:Bool)(es b:M (M D))(d:a<=65536)(h:es.length+b.length<=2147483648):aP (.app k a) [.list k c es,.list k c b]=Z (.list k c (es++b)):=
 RE k a c es b (of_eq_true (ajM d h))
def q76{t:lW}(a:dV (dE t)<=mg):G 76 (dE t)=Z (0,dE t):=by rw[oL]at a;have c:=dM 2 16 I [] (t.ranges.map lD) (by decide) (by simp only[bO,mg,aj,aJ]at *;omega);have b:=dM 1 16 I [] (t.names.map gm) (by decide) (by simp only[bO,mg,aj,aJ]at *;omega);refine bW t76 rfl ?_;simp only[go_sem,t76,dE,c,b]
theorem q77{p:fE}(g:dV (bT p)<=mg):G 77 (bT p)=Z (0,bT p):=by
 rw[jX]at g;have c:p.steps.length<=mg:=by simp only[bO]at g;omega
 refine bW t77 rfl ?_;simp only[go_sem,t77,bT];have r:=tR (b:=lB G Jy) p.steps (λe=>e) (λi=>(0,[E (i:Int),.bool p.root,E p.kj,bM p.steps,.bool J,E 0,.bool p.root,E p.kj]))
  (λi a=>(1,[E (i:Int),.bool p.root,E p.kj,bM p.steps,.bool J,E 0,.bool p.root,E p.kj,bM a]))
  (0,[E 0,.bool J,.bool p.root,E p.kj,bM p.steps,.bool J,E 0,.bool p.root,E p.kj])
  (λa=>(1,[E p.steps.length,.bool J,.bool p.root,E p.kj,bM p.steps,.bool J,E 0,.bool p.root,E p.kj,bM a])) (by
   intro e d;have f:=aY d;have k:=wj f c;have j:=(gX g (bj d)).1;rw[nF]at j;have q:=dM 2 32 I [] (e.cT.map gT) (by decide) (by simp only[bO,mg,aj,aJ]at *;omega);have o:aP (.lu 2 J) [.str e.aq,cN e.cT]=Z (.list 2 J [[.str e.aq,cN e.cT]]):=by simp[aP,chunk]
   have n:=dM 2 40 J [] [[.str e.aq,cN e.cT]] (by decide) (by simp);have m:aP .pl [.str e.aq]=Z (.bool J):=rfl;simp only[go_sem,bc,Jy,f,aV,d,dq,q,o,n,m,k];simp[bM,dq]) (by
   intro i e d v;have f:=aY d;have k:=wj f c;have j:=(gX g (bj d)).1;rw[nF]at j;have q:=dM 2 32 I [] (e.cT.map gT) (by decide) (by simp only[bO,mg,aj,aJ]at *;omega);have o:aP (.lu 2 J) [.str e.aq,cN e.cT]=Z (.list 2 J [[.str e.aq,cN e.cT]]):=by simp[aP,chunk]
   have n:=dM 2 40 J ((p.steps.take i).map dq) [[.str e.aq,cN e.cT]] (by decide) (by simp only[mg,aj,bk,aN,aJ]at *;omega);have m:aP .pl [.str e.aq]=Z (.bool J):=rfl;simp only[go_sem,bc,Jy,f,aV,d,dq,eX,q,o,n,m,k];simp[bM,dq]) (by
   intro h;simp only[go_sem,bc,Jy,h,cO,n0,ee]) (by
   intro h;simp only[go_sem,bc,Jy,aE,eX])
 rw[n0]at r;rw[r];cases t:p.steps with|nil=>{simp only[go_sem,ei,cO];rfl}|cons s l=>simp only[go_sem,i_,eX]
def gW(k:Nat)(a:M D)(h:a.length=k)(b:0<k):aP (.lu k J) a=Z (.list k J [a]):=by (have e:a.length / k=1:=by rw[h];exact Nat.div_self b);(have d:a.length % k=0:=by rw[h];exact Nat.mod_self k);have c:chunk k 1 a=Z [a]:=by{simp only[chunk];rw[if_pos (by omega),cS (by omega),wE (by omega)];rfl};simp only[aP,e,d,c,if_true];rw[if_pos (λh=>by cases h)]
theorem apa(n:Nat):∀e:cr,aF e<n->dV (bU e)<=mg->G 78 (bU e)=Z (0,bU e):=by
 induction n with
 |zero=>intro e h;omega
 |succ n v=>
  intro e y r;have d:e.ai.length<=mg:=aS qa r;have A:=jF e;have t:=q77 (p:=e.path) (by omega);rw[bT]at t;refine bW t78 (by rw[aR];rfl) ?_;simp only[go_sem,t78,aR,t];have st:∀(i:Nat) (x:cr) (l:M (M D)),nth e.ai i=Z x->l.length<=mg->G 78 (bU x)=Z (0,bU x)/\aP .pl [E x.op,E x.num,.str x.text,.bool x.path.root,E x.path.kj]=Z (.bool J)/\ aP (.lu 7 J) (bU x)=Z (.list 7 J [bU x])/\aP (.app 7 96) [.list 7 J l,.list 7 J [bU x]]=Z (.list 7 J (l++[bU x])):=by{intro i x l c o;refine⟨v x (by have:=cr.t_ (bj c);omega) (aS (pZ (bj c)) r),rfl,gW 7 _ (sN x) (by decide),dM 7 96 J l [bU x] (by decide) (by simp only[mg,aN,aJ]at *;omega)⟩}
  have o:=tR (b:=lB G Jz) e.ai (λe=>e) (λi=>(0,E (i:Int)::(bU e++[E 0,E 0,.str ⟨#[]⟩,.bool J,E 0,E e.op,E e.num,.str e.text,.bool e.path.root,E e.path.kj,bM e.path.steps])))
   (λi a=>(1,E (i:Int)::(bU e++[E 0,E 0,.str ⟨#[]⟩,.bool J,E 0,E e.op,E e.num,.str e.text,.bool e.path.root,E e.path.kj,cB a,bM e.path.steps])))
   (0,E 0::.bool J::(bU e++[E 0,E 0,.str ⟨#[]⟩,.bool J,E 0,E e.op,E e.num,.str e.text,.bool e.path.root,E e.path.kj,bM e.path.steps]))
   (λa=>(1,E e.ai.length::.bool J::(bU e++[E 0,E 0,.str ⟨#[]⟩,.bool J,E 0,E e.op,E e.num,.str e.text,.bool e.path.root,E e.path.kj,cB a,bM e.path.steps]))) (by
    intro x c;have f:=aY c;have m:=wj f d;obtain⟨k,q,j,g⟩:=st 0 x [] c (by simp);rw[aR x]at k j g;simp only[go_sem,bc,Jz,aR e,f,aV,c,jV];simp only[go_sem,aR x,k,q,j,g,m];simp[cB,aR x]) (by
    intro i x c B;have f:=aY c;have m:=wj f d;obtain⟨k,q,j,g⟩:=st i x ((e.ai.take i).map bU) c (by simp only[aj,bk];omega);rw[aR x]at k j g;simp only[go_sem,bc,Jz,aR e,f,aV,c,jV,eX];simp only[go_sem,aR x,k,q,j,g,m];simp[cB,aR x]) (by
    intro h;simp only[go_sem,bc,Jz,aR,h,cO,n0,ee]) (by
    intro h;simp only[go_sem,bc,Jz,aR,aE,eX])
  simp only[go_sem,aR,n0]at o;rw[o];cases w:e.ai with|nil=>{simp only[go_sem,ei,cO];rfl}|cons s l=>simp only[go_sem,i_,eX]
def q78{e:cr}(a:dV (bU e)<=mg):G 78 (bU e)=Z (0,bU e):=apa _ e (aT _) a
def bS(e:ao):M D:=aA e++[.int .i64 0,.str ⟨#[]⟩,.int .i64 0,.str ⟨#[]⟩,.str ⟨#[]⟩,.str ⟨#[]⟩,.bool J,.bool J,.bool J,.bool J,.int .i64 0,.int .i64 0,.int .i64 e.ax,.str e.aq,.int .i64 e.type.ax,.str e.type.pattern,.str e.type.path,.str e.default,.bool e.given,.bool e.dy,.bool e.df,.bool e.fixed,.int .i64 e.min,.int .i64 e.max,aB e.ai,aI e.ch,aI e.unique]
def rS(e:ao):M D:=[gR e.type.ranges,aI e.type.names]
def abj{e:ao}{w:D}(r:dV (aA e)<=mg) :
  bG (lB G Gw) (0,E 0::(bS e++[]++rS e))=Z (if e.when.isEmpty=I then (0,E 0::.bool J::(bS e++[]++rS e)) else (1,E e.when.length::.bool J::(bS e++[cB e.when]++rS e))):=by
 have q:=r;rw[ck]at q;(have p:bO bU e.when<=mg:=by omega);(have d:e.when.length<=mg:=by simp only[bO]at p;omega);have st:∀(i:Nat) (x:cr) (l:M (M D)),nth e.when i=Z x->l.length<=mg->G 78 (bU x)=Z (0,bU x)/\aP .pl [E x.op,E x.num,.str x.text,.bool x.path.root,E x.path.kj]=Z (.bool J)/\ aP (.lu 7 J) (bU x)=Z (.list 7 J [bU x])/\aP (.app 7 96) [.list 7 J l,.list 7 J [bU x]]=Z (.list 7 J (l++[bU x])):=by{intro i x l c n;refine⟨q78 (gX p (bj c)).1,rfl,gW 7 _ (sN x) (by decide),dM 7 96 J l [bU x] (by decide) (by simp only[mg,aN,aJ]at *;omega)⟩}
 have n:=tR (b:=lB G Gw) e.when (λe=>e) (λi=>(0,E (i:Int)::(bS e++[]++rS e))) (λi a=>(1,E (i:Int)::(bS e++[cB a]++rS e)))
  (0,E 0::.bool J::(bS e++[]++rS e)) (λa=>(1,E e.when.length::.bool J::(bS e++[cB a]++rS e))) (by
   intro x c;have f:=aY c;have m:=wj f d;obtain⟨k,o,j,g⟩:=st 0 x [] c (by simp);rw[aR x]at k j g;simp only[go_sem,bc,Gw,bS,rS,ak,f,aV,c,jV];simp only[go_sem,aR x,k,o,j,g,m];simp[cB,aR x]) (by
   intro i x c s;have f:=aY c;have m:=wj f d;obtain⟨k,o,j,g⟩:=st i x ((e.when.take i).map bU) c (by simp only[aj,bk];omega);rw[aR x]at k j g;simp only[go_sem,bc,Gw,bS,rS,ak,f,aV,c,jV,eX];simp only[go_sem,aR x,k,o,j,g,m];simp[cB,aR x]) (by
   intro h;simp only[go_sem,bc,Gw,bS,rS,ak,h,cO,n0,ee]) (by
   intro h;simp only[go_sem,bc,Gw,bS,rS,ak,aE,eX])
 rw[n0]at n;rw[n,eX]
def abk{e:ao}{w:D}(r:dV (aA e)<=mg) :
  bG (lB G Gx) (0,E 0::(bS e++[]++rS e))=Z (if e.gZ.isEmpty=I then (0,E 0::.bool J::(bS e++[]++rS e)) else (1,E e.gZ.length::.bool J::(bS e++[cB e.gZ]++rS e))):=by
 have q:=r;rw[ck]at q;(have p:bO bU e.gZ<=mg:=by omega);(have d:e.gZ.length<=mg:=by simp only[bO]at p;omega);have st:∀(i:Nat) (x:cr) (l:M (M D)),nth e.gZ i=Z x->l.length<=mg->G 78 (bU x)=Z (0,bU x)/\aP .pl [E x.op,E x.num,.str x.text,.bool x.path.root,E x.path.kj]=Z (.bool J)/\ aP (.lu 7 J) (bU x)=Z (.list 7 J [bU x])/\aP (.app 7 96) [.list 7 J l,.list 7 J [bU x]]=Z (.list 7 J (l++[bU x])):=by{intro i x l c n;refine⟨q78 (gX p (bj c)).1,rfl,gW 7 _ (sN x) (by decide),dM 7 96 J l [bU x] (by decide) (by simp only[mg,aN,aJ]at *;omega)⟩}
 have n:=tR (b:=lB G Gx) e.gZ (λe=>e) (λi=>(0,E (i:Int)::(bS e++[]++rS e))) (λi a=>(1,E (i:Int)::(bS e++[cB a]++rS e)))
  (0,E 0::.bool J::(bS e++[]++rS e)) (λa=>(1,E e.gZ.length::.bool J::(bS e++[cB a]++rS e))) (by
   intro x c;have f:=aY c;have m:=wj f d;obtain⟨k,o,j,g⟩:=st 0 x [] c (by simp);rw[aR x]at k j g;simp only[go_sem,bc,Gx,bS,rS,ak,f,aV,c,jV];simp only[go_sem,aR x,k,o,j,g,m];simp[cB,aR x]) (by
   intro i x c s;have f:=aY c;have m:=wj f d;obtain⟨k,o,j,g⟩:=st i x ((e.gZ.take i).map bU) c (by simp only[aj,bk];omega);rw[aR x]at k j g;simp only[go_sem,bc,Gx,bS,rS,ak,f,aV,c,jV,eX];simp only[go_sem,aR x,k,o,j,g,m];simp[cB,aR x]) (by
   intro h;simp only[go_sem,bc,Gx,bS,rS,ak,h,cO,n0,ee]) (by
   intro h;simp only[go_sem,bc,Gx,bS,rS,ak,aE,eX])
 rw[n0]at n;rw[n,eX]
def abl{e:ao}{w:D}(r:dV (aA e)<=mg) :
  bG (lB G Gy) (0,E 0::(bS e++[w]++rS e))=Z (if e.gZ.isEmpty=I then (0,E 0::.bool J::(bS e++[w]++rS e)) else (1,E e.gZ.length::.bool J::(bS e++[w,cB e.gZ]++rS e))):=by
 have q:=r;rw[ck]at q;(have p:bO bU e.gZ<=mg:=by omega);(have d:e.gZ.length<=mg:=by simp only[bO]at p;omega);have st:∀(i:Nat) (x:cr) (l:M (M D)),nth e.gZ i=Z x->l.length<=mg->G 78 (bU x)=Z (0,bU x)/\aP .pl [E x.op,E x.num,.str x.text,.bool x.path.root,E x.path.kj]=Z (.bool J)/\ aP (.lu 7 J) (bU x)=Z (.list 7 J [bU x])/\aP (.app 7 96) [.list 7 J l,.list 7 J [bU x]]=Z (.list 7 J (l++[bU x])):=by{intro i x l c n;refine⟨q78 (gX p (bj c)).1,rfl,gW 7 _ (sN x) (by decide),dM 7 96 J l [bU x] (by decide) (by simp only[mg,aN,aJ]at *;omega)⟩}
 have n:=tR (b:=lB G Gy) e.gZ (λe=>e) (λi=>(0,E (i:Int)::(bS e++[w]++rS e))) (λi a=>(1,E (i:Int)::(bS e++[w,cB a]++rS e)))
  (0,E 0::.bool J::(bS e++[w]++rS e)) (λa=>(1,E e.gZ.length::.bool J::(bS e++[w,cB a]++rS e))) (by
   intro x c;have f:=aY c;have m:=wj f d;obtain⟨k,o,j,g⟩:=st 0 x [] c (by simp);rw[aR x]at k j g;simp only[go_sem,bc,Gy,bS,rS,ak,f,aV,c,jV];simp only[go_sem,aR x,k,o,j,g,m];simp[cB,aR x]) (by
   intro i x c s;have f:=aY c;have m:=wj f d;obtain⟨k,o,j,g⟩:=st i x ((e.gZ.take i).map bU) c (by simp only[aj,bk];omega);rw[aR x]at k j g;simp only[go_sem,bc,Gy,bS,rS,ak,f,aV,c,jV,eX];simp only[go_sem,aR x,k,o,j,g,m];simp[cB,aR x]) (by
   intro h;simp only[go_sem,bc,Gy,bS,rS,ak,h,cO,n0,ee]) (by
   intro h;simp only[go_sem,bc,Gy,bS,rS,ak,aE,eX])
 rw[n0]at n;rw[n,eX]
def ao.gx(e:ao)(es:M ao):aF e.ai<aF (e::es):=by cases e;simp only[bJ,ao.mk.sizeOf_spec];omega
def ao.fv(e:ao):aF e.ai<aF e:=by cases e;simp only[ao.mk.sizeOf_spec];omega
def qX(e:ao):(aA e).length=19:=by rw[ak];rfl
def fo(e:ao)(k:Nat)(a:Bool):aP (.has 19) [.list k a [aA e]]=Z (.bool J):=by rw[zb,qX,if_pos (aH 19)]
def iZ(e:ao):bO aA e.ai<=dV (aA e):=by rw[ck];omega
theorem ab6{e:ao}(b:dV (aA e)<=mg)(c:G 79 [aB e.ai]=Z (0,[aB e.ai])):G 80 (aA e)=Z (0,aA e):=by have i:=b;rw[ck]at i;have a:=q76 (t:=e.type) (by omega);rw[dE]at a;have o:=oL e.type;have n:=dM 1 16 I [] (e.ch.map gm) (by decide) (by simp only[bO,mg,aj,aJ]at *;omega);have k:=dM 1 16 I [] (e.unique.map gm) (by decide) (by simp only[bO,mg,aj,aJ]at *;omega);have g:=abj (e:=e) (w:=.bool J) b;have f:=abk (e:=e) (w:=.bool J) b;have d:=abl (e:=e) (w:=cB e.when) b;simp only[go_sem,bS,rS,ak]at g f d;refine bW t80 (by rw[ak];rfl) ?_;simp only[go_sem,t80,ak,a,n,k];rw[g];cases h:e.when with|nil=>{rw[h]at f g;simp only[go_sem,ei];rw[f];cases j:e.gZ with|nil=>{simp only[go_sem,ei,c];rfl}|cons x l=>simp only[go_sem,i_,c];rfl}|cons y m=>rw[h]at d;simp only[go_sem,i_];rw[d];cases j:e.gZ with|nil=>{simp only[go_sem,ei,c];rfl}|cons x l=>simp only[go_sem,i_,c]
theorem plS(x:ao):aP .pl [E x.ax,.str x.aq,E x.type.ax,.str x.type.pattern,.str x.type.path,.str x.default,.bool x.given,.bool x.dy,.bool x.df,.bool x.fixed,E x.min,E x.max]=Z (.bool J):=(rfl)
def mkS(x:ao):aP (.lu 19 J) (aA x)=Z (.list 19 J [aA x]):=gW 19 _ (qX x) (by decide)
def akP(l:M (M D))(x:M D)(h:l.length<=mg):aP (.app 19 272) [.list 19 J l,.list 19 J [x]]=Z (.list 19 J (l++[x])):=
 dM 19 272 J l [x] (by decide) (by simp only[mg,aN,aJ]at *;omega)
theorem apb(n:Nat):∀l:M ao,aF l<n->bO aA l<=mg->G 79 [aB l]=Z (0,[aB l]):=by induction n with|zero=>{intro l h;omega}|succ n p=>intro l t g;(have d:l.length<=mg:=by simp only[bO]at g;omega);refine bW t79 rfl ?_;simp only[go_sem,t79];have j:=cI (b:=lB G OI) l (λi (a:M ao)=>(0,[aB l,E (i:Int),aB a])) (λi=>l.take i) (0,[aB l,E l.length,.bool J,aB l]) (by intro i x c;have k:=aY c;have q:=wj k d;have f:dV (aA x)<=mg:=(gX g (bj c)).1;have r:=p x.ai (by have:=bB (bj c);have:=ao.fv x;omega) (aS (iZ x) f);have e:=ab6 f r;have o:=mkS x;have m:=akP ((l.take i).map aA) (aA x) (by simp only[aj,bk];omega);rw[ak x]at e o m;simp only[go_sem,bc,OI,k,aV,c,fo];simp only[go_sem,ak x,e,plS,o,m,q,cd _ _ _ c];simp[aB,ak x]) (by simp only[go_sem,bc,OI,aE,bl]) l.length 0 (by omega);rw[n0,br]at j;have s:bG (lB G OI) (0,[aB l,E 0,.list 19 J []])=_:=j;rw[s];simp only[go_sem]
def q79{l:M ao}(a:bO aA l<=mg):G 79 [aB l]=Z (0,[aB l]):=apb _ l (aT _) a
def q80{e:ao}(a:dV (aA e)<=mg):G 80 (aA e)=Z (0,aA e):=ab6 a (q79 (aS (iZ e) a))
def j7(k:Int):Bool:=eA 1 4 k
def pw(k:Int):Bool:=Z' (k=5) ||decide (k=6)
def q75(k:Int):G 75 [E k]=Z (0,[.bool (j7 k)]):=by refine bW t75 rfl ?_;simp only[go_sem,t75,zy,j7]
def AL(k:Int):G 92 [E k]=Z (0,[.bool (j7 k)]):=by have h:j7 k=(Z' (k=1) ||decide (k=2) ||decide (k=3) ||decide (k=4)):=by{rw[dS];simp[j7,eA];omega};refine bW t92 rfl ?_;simp only[go_sem,t92];(repeat' (first|with_reducible rfl|((first|rw[gN]|rw[gQ]|rw[gM]|rw[gP]);split<;>simp only[go_sem, *])));all_goals simp_all
def dk:M ao->M ao
 |[]=>[]
 |e::es=>(if j7 e.ax=I then [e] else if pw e.ax=I then dk e.ai else [])++dk es
termination_by es=>aF es
decreasing_by
 .exact ao.gx e es
 .simp only[bJ];omega
def sL(e:ao):M ao:=if j7 e.ax=I then [e] else if pw e.ax=I then dk e.ai else []
def jT(e:ao)(es:M ao):dk (e::es)=sL e++dk es:=by rw[dk];rfl
def mJ:dk []=[]:=by rw[dk]
theorem QF:∀(a b:M ao),dk (a++b)=dk a++dk b
 |[],b=>by rw[mJ];rfl
 |e::a,b=>by rw[av,jT,jT,QF a b,aZ]
def DY(a:M ao)(e:ao):dk (a++[e])=dk a++sL e:=by rw[QF,jT,mJ,aG]
theorem ali(n:Nat):∀(es:M ao),aF es<n->bO aA (dk es)<=bO aA es:=by induction n with|zero=>{intro es h;omega}|succ n a=>intro es h;cases es with|nil=>{rw[mJ];exact aH _}|cons e es=>have d:=a es (by simp only[bJ]at h;omega);have c:=a e.ai (by have:=ao.gx e es;omega);rw[jT,kM,fW];have b:bO aA (sL e)<=dV (aA e)+1:=by{unfold sL;split;{rw[fW];simp[bO,qp]};split;{have:=iZ e;omega};simp[bO,qp]};omega
def mq{es:M ao}:bO aA (dk es)<=bO aA es:=ali _ es (aT _)
def DZ{es:M ao}(i:Nat)(a:bO aA es<=mg):(dk (es.take i)).length<=mg:=by have c:=mq (es:=es.take i);have b:=acS aA es i;simp only[bO]at *;omega
def agx{k:Int}(h:j7 k=I):pw k=J/\¬k=5/\¬k=6:=by have:=(ej _ _ _).1 h;(have b:¬k=5:=by omega);(have a:¬k=6:=by omega);exact⟨by simp[pw,b,a],b,a⟩
theorem apc(n:Nat):∀l:M ao,aF l<n->bO aA l<=mg->G 81 [aB l]=Z (0,[aB (dk l)]):=by induction n with|zero=>{intro l h;omega}|succ n y=>intro l C p;(have j:l.length<=mg:=by simp only[bO]at p;omega);refine bW t81 rfl ?_;simp only[go_sem,t81];have s:=cI (b:=lB G C7) l (λi (a:M ao)=>(0,[aB l,E (i:Int),aB a])) (λi=>dk (l.take i)) (0,[aB l,E l.length,.bool J,aB (dk l)]) (by intro i x c;have k:=aY c;have o:=wj k j;have r:dV (aA x)<=mg:=(gX p (bj c)).1;have A:=aS (iZ x) r;have w:=DZ i p;have q:=DZ (i+1) p;rw[cd _ _ _ c,DY]at q;rw[cd _ _ _ c,DY];cases hd:j7 x.ax with|true=>{obtain⟨D,e,d⟩:=agx hd;have m:=q80 r;have t:=mkS x;have g:=akP ((dk (l.take i)).map aA) (aA x) (by rw[aj];exact w);(have f:sL x=[x]:=by rw[sL,if_pos hd]);rw[ak x]at m t g;rw[f];simp only[go_sem,bc,C7,k,aV,c];simp only[go_sem,ak x,q75,hd];simp only[go_sem,ak x,c,aV,m,plS,t,g,e,d,o];simp[aB,ak x]}|false=>have v:=y x.ai (by have:=bB (bj c);have:=ao.fv x;omega) A;by_cases e:x.ax=5;{(have f:sL x=dk x.ai:=by rw[sL,if_neg (by rw[hd];simp),if_pos (by simp[pw,e])]);rw[f]at q ⊢;have g:=dM 19 272 J ((dk (l.take i)).map aA) ((dk x.ai).map aA) (by decide) (by simp only[mg,aj,ay]at *;omega);rw[e]at hd;simp only[go_sem,bc,C7,k,aV,c];simp only[go_sem,ak x,q75,hd,e];simp only[go_sem,ak x,c,aV,e,v,g,o];simp[aB]};by_cases d:x.ax=6;{(have f:sL x=dk x.ai:=by rw[sL,if_neg (by rw[hd];simp),if_pos (by simp[pw,d])]);rw[f]at q ⊢;have g:=dM 19 272 J ((dk (l.take i)).map aA) ((dk x.ai).map aA) (by decide) (by simp only[mg,aj,ay]at *;omega);rw[d]at hd;simp only[go_sem,bc,C7,k,aV,c];simp only[go_sem,ak x,q75,hd,d];simp only[go_sem,ak x,c,aV,d,v,g,o];simp[aB]};(have f:sL x=[]:=by rw[sL,if_neg (by rw[hd];simp),if_neg (by simp[pw,e,d])]);rw[f,aG];simp only[go_sem,bc,C7,k,aV,c];simp only[go_sem,ak x,q75,hd];simp only[go_sem,ak x,c,aV,e,d,o]) (by simp only[go_sem,bc,C7,aE,bl]) l.length 0 (by omega);rw[n0,br,mJ]at s;have B:bG (lB G C7) (0,[aB l,E 0,.list 19 J []])=_:=s;rw[B];simp only[go_sem]
def q81{l:M ao}(a:bO aA l<=mg):G 81 [aB l]=Z (0,[aB (dk l)]):=apc _ l (aT _) a
def sM(c:Bool)(l:M ao):M Bool:=match l with
 |[]=>[]
 |e::es=>(if j7 e.ax=I then [c] else if pw e.ax=I then sM (c ||decide (e.ax=6)) e.ai else [])++sM c es
termination_by aF l
decreasing_by
 .exact ao.gx e es
 .simp only[bJ];omega
def qG(c:Bool)(e:ao):M Bool:=if j7 e.ax=I then [c] else if pw e.ax=I then sM (c ||decide (e.ax=6)) e.ai else []
def nk(c:Bool)(e:ao)(es:M ao):sM c (e::es)=qG c e++sM c es:=by rw[sM];rfl
def tM(c:Bool):sM c []=[]:=by rw[sM]
theorem Ny(c:Bool)(e:ao):∀(a:M ao),sM c (a++[e])=sM c a++qG c e
 |[]=>by rw[au,nk,tM];simp
 |x::a=>by rw[av,nk,nk,Ny c e a,aZ]
theorem adD(n:Nat):∀(c:Bool) (l:M ao),aF l<n->(sM c l).length=(dk l).length:=by induction n with|zero=>{intro c l h;omega}|succ n a=>intro c l h;cases l with|nil=>{rw[tM,mJ];rfl}|cons e es=>rw[nk,jT,ay,ay,a c es (by simp only[bJ]at h;omega)];congr 1;unfold qG sL;split;{rfl};split;{exact a _ e.ai (by have:=ao.gx e es;omega)};rfl
def pR(c:Bool)(l:M ao):(sM c l).length=(dk l).length:=adD _ c l (aT _)
def kE{a:Type}(l:M a):Nat:=if l.isEmpty=I then 0 else 1
def ark(x:ao):aP .xG (aA x)=Z (.bool J):=by rw[ak];rfl
theorem iD{a:Type}:kE ([]:M a)=0:=(rfl)
def rV{a:Type}(l m:M a)(h:m≠[]):kE (l++m)=1:=by unfold kE;rw[if_neg];cases l<;>cases m<;>simp_all
def kI{a:Type}{l:M a}(h:l≠[]):kE l=1:=by simpa using rV [] l h
def akS(a b:M ao)(h:a.length+b.length<=mg):aP (.app 19 272) [aB a,aB b]=Z (aB (a++b)):=by have:=dM 19 272 J (a.map aA) (b.map aA) (by decide) (by simp only[mg,aj]at *;omega);rw[<- cE]at this;exact this
def akM(a b:M Bool)(h:a.length+b.length<=mg):aP (.app 1 1) [bP a,bP b]=Z (bP (a++b)):=by have:=dM 1 1 I (a.map CZ) (b.map CZ) (by decide) (by simp only[mg,aj]at *;omega);rw[<- cE]at this;exact this
def mkB(c:Bool):aP (.lu 1 I) [.bool c]=Z (bP [c]):=by simp[aP,chunk,dc,D.plain,CZ,bP]
theorem ape(n:Nat):∀(l:M ao) (c:Bool),aF l<n->bO aA l<=mg->G 93 [aB l,.bool c]=Z (kE (dk l),[aB (dk l),bP (sM c l)]):=by
 induction n with
 |zero=>intro l c h;omega
 |succ n H=>
  intro l c Y K;have D:l.length<=mg:=by simp only[bO]at K;omega
  refine bW t93 rfl ?_;simp only[go_sem,t93];have S:=cI (b:=lB G kU) l (λi (a:M ao×M Bool)=>(kE a.1,[.bool c,aB l,E l.length,E (i:Int),aB a.1,bP a.2])) (λi=>(dk (l.take i),sM c (l.take i)))
   (kE (dk l),[.bool c,aB l,E l.length,E l.length,.bool J,aB (dk l),bP (sM c l)]) (by
   intro i x g;have k:=aY g;have m:=wj k D;have T:dV (aA x)<=mg:=(gX K (bj g)).1;have N:=aS (iZ x) T;have X:=DZ i K;have F:=DZ (i+1) K;have Q:=pR c (l.take i);rw[cd _ _ _ g,DY]at F;rw[cd _ _ _ g,DY,Ny];have v:dk (l.take i)=[]->sM c (l.take i)=[]:=λh=>eZ.1 (by rw[Q,h];rfl);have P:(qG c x).length=(sL x).length:=by
    have t:=pR c [x];rw[nk,tM,jT,mJ]at t
    simpa using t
   have j:=akS (dk (l.take i)) (sL x) (by rw[ay]at F;exact F);have hB:=akM (sM c (l.take i)) (qG c x) (by rw[Q,P];rw[ay]at F;exact F);have R:=mkB c;have B:=mkS x;have A:=ark x;rw[ak x]at B A;generalize V:dk (l.take i)=a at *;generalize U:sM c (l.take i)=f at *;cases hd:j7 x.ax with
   |true=>
    have t:sL x=[x]:=by rw[sL,if_pos hd]
    have s:qG c x=[c]:=by rw[qG,if_pos hd]
    rw[t]at j ⊢;rw[s]at hB ⊢;have C:aP (.app 19 272) [aB a,.list 19 J [aA x]]=Z (aB (a++[x])):=j;rw[ak x]at C;rw[rV a [x] (by simp)];cases a with
    |nil=>
     have q:=v rfl;subst q;simp only[go_sem,bc,kU,iD,k,aV,g,fo];simp only[go_sem,ak x,AL,hd,A,B,C,R,hB,m]
    |cons y a=>
     simp only[go_sem,bc,kU,kI (cR y a),k,aV,g,fo];simp only[go_sem,ak x,AL,hd,A,B,C,R,hB,m]
   |false=>
    have L:=hd;by_cases p:x.ax=6
    .have t:sL x=dk x.ai:=by rw[sL,if_neg (by rw[hd];simp),if_pos (by simp[pw,p])]
     have o:¬x.ax=5:=by omega
     rw[t]at j ⊢;rw[p]at hd;cases c with
     |true=>
      have e:=H x.ai I (by have:=bB (bj g);have:=ao.fv x;omega) N;have s:qG I x=sM I x.ai:=by rw[qG,if_neg (by rw[L];simp),if_pos (by simp[pw,p])];simp[p]
      rw[s]at hB ⊢;cases r:dk x.ai with
      |nil=>
       rw[r]at e j;have w:sM I x.ai=[]:=eZ.1 (by rw[pR,r];rfl);rw[w]at e hB ⊢;cases a with
       |nil=>
        have q:=v rfl;subst q;rw[aG,aG];simp only[go_sem,bc,kU,iD,iD,k,aV,g,fo];simp only[go_sem,ak x,AL,hd,p,e,iD,j,hB,m,aG]
       |cons y a=>
        rw[aG,aG];simp only[go_sem,bc,kU,kI (cR y a),k,aV,g,fo];simp only[go_sem,ak x,AL,hd,p,e,iD,j,hB,m,aG]
      |cons d b=>
       rw[r]at e j;cases a with
       |nil=>
        have q:=v rfl;subst q;rw[rV _ (d::b) (by simp)];simp only[go_sem,bc,kU,iD,k,aV,g,fo];simp only[go_sem,ak x,AL,hd,p,e,kI (cR d b),j,hB,m]
       |cons y a=>
        rw[rV _ (d::b) (by simp)];simp only[go_sem,bc,kU,kI (cR y a),k,aV,g,fo];simp only[go_sem,ak x,AL,hd,p,e,kI (cR d b),j,hB,m]
     |false=>
      have e:=H x.ai I (by have:=bB (bj g);have:=ao.fv x;omega) N;have s:qG J x=sM I x.ai:=by rw[qG,if_neg (by rw[L];simp),if_pos (by simp[pw,p])];simp[p]
      rw[s]at hB ⊢;cases r:dk x.ai with
      |nil=>
       rw[r]at e j;have w:sM I x.ai=[]:=eZ.1 (by rw[pR,r];rfl);rw[w]at e hB ⊢;cases a with
       |nil=>
        have q:=v rfl;subst q;rw[aG,aG];simp only[go_sem,bc,kU,iD,iD,k,aV,g,fo];simp only[go_sem,ak x,AL,hd,p,e,iD,j,hB,m,aG]
       |cons y a=>
        rw[aG,aG];simp only[go_sem,bc,kU,kI (cR y a),k,aV,g,fo];simp only[go_sem,ak x,AL,hd,p,e,iD,j,hB,m,aG]
      |cons d b=>
       rw[r]at e j;cases a with
       |nil=>
        have q:=v rfl;subst q;rw[rV _ (d::b) (by simp)];simp only[go_sem,bc,kU,iD,k,aV,g,fo];simp only[go_sem,ak x,AL,hd,p,e,kI (cR d b),j,hB,m]
       |cons y a=>
        rw[rV _ (d::b) (by simp)];simp only[go_sem,bc,kU,kI (cR y a),k,aV,g,fo];simp only[go_sem,ak x,AL,hd,p,e,kI (cR d b),j,hB,m]
    .by_cases o:x.ax=5
     .have t:sL x=dk x.ai:=by rw[sL,if_neg (by rw[hd];simp),if_pos (by simp[pw,o])]
      rw[t]at j ⊢;rw[o]at hd;cases c with
      |true=>
       have e:=H x.ai I (by have:=bB (bj g);have:=ao.fv x;omega) N;have s:qG I x=sM I x.ai:=by rw[qG,if_neg (by rw[L];simp),if_pos (by simp[pw,o])];simp[o]
       rw[s]at hB ⊢;cases r:dk x.ai with
       |nil=>
        rw[r]at e j;have w:sM I x.ai=[]:=eZ.1 (by rw[pR,r];rfl);rw[w]at e hB ⊢;cases a with
        |nil=>
         have q:=v rfl;subst q;rw[aG,aG];simp only[go_sem,bc,kU,iD,iD,k,aV,g,fo];simp only[go_sem,ak x,AL,hd,o,e,iD,j,hB,m,aG]
        |cons y a=>
         rw[aG,aG];simp only[go_sem,bc,kU,kI (cR y a),k,aV,g,fo];simp only[go_sem,ak x,AL,hd,o,e,iD,j,hB,m,aG]
       |cons d b=>
        rw[r]at e j;cases a with
        |nil=>
         have q:=v rfl;subst q;rw[rV _ (d::b) (by simp)];simp only[go_sem,bc,kU,iD,k,aV,g,fo];simp only[go_sem,ak x,AL,hd,o,e,kI (cR d b),j,hB,m]
        |cons y a=>
         rw[rV _ (d::b) (by simp)];simp only[go_sem,bc,kU,kI (cR y a),k,aV,g,fo];simp only[go_sem,ak x,AL,hd,o,e,kI (cR d b),j,hB,m]
      |false=>
       have e:=H x.ai J (by have:=bB (bj g);have:=ao.fv x;omega) N;have s:qG J x=sM J x.ai:=by rw[qG,if_neg (by rw[L];simp),if_pos (by simp[pw,o])];simp[o]
       rw[s]at hB ⊢;cases r:dk x.ai with
       |nil=>
        rw[r]at e j;have w:sM J x.ai=[]:=eZ.1 (by rw[pR,r];rfl);rw[w]at e hB ⊢;cases a with
        |nil=>
         have q:=v rfl;subst q;rw[aG,aG];simp only[go_sem,bc,kU,iD,iD,k,aV,g,fo];simp only[go_sem,ak x,AL,hd,o,e,iD,j,hB,m,aG]
        |cons y a=>
         rw[aG,aG];simp only[go_sem,bc,kU,kI (cR y a),k,aV,g,fo];simp only[go_sem,ak x,AL,hd,o,e,iD,j,hB,m,aG]
       |cons d b=>
        rw[r]at e j;cases a with
        |nil=>
         have q:=v rfl;subst q;rw[rV _ (d::b) (by simp)];simp only[go_sem,bc,kU,iD,k,aV,g,fo];simp only[go_sem,ak x,AL,hd,o,e,kI (cR d b),j,hB,m]
        |cons y a=>
         rw[rV _ (d::b) (by simp)];simp only[go_sem,bc,kU,kI (cR y a),k,aV,g,fo];simp only[go_sem,ak x,AL,hd,o,e,kI (cR d b),j,hB,m]
     .have t:sL x=[]:=by rw[sL,if_neg (by rw[hd];simp),if_neg (by simp[pw,o,p])]
      have s:qG c x=[]:=by rw[qG,if_neg (by rw[hd];simp),if_neg (by simp[pw,o,p])]
      rw[t,s,aG,aG];cases a with
      |nil=>
       simp only[go_sem,bc,kU,iD,k,aV,g,fo];simp only[go_sem,ak x,AL,hd,o,p,m]
      |cons y a=>
       simp only[go_sem,bc,kU,kI (cR y a),k,aV,g,fo];simp only[go_sem,ak x,AL,hd,o,p,m]) (by
   rw[bl];cases hd:dk l with
   |nil=>simp only[go_sem,bc,kU,iD,aE]
   |cons y a=>simp only[go_sem,bc,kU,kI (cR y a),aE]) l.length 0 (by omega)
  rw[n0,br,mJ,tM]at S;have W:bG (lB G kU) (0,[.bool c,aB l,E l.length,E 0,.list 19 J [],.list 1 I []])=_:=S;rw[W];cases hd:dk l with|nil=>{simp only[go_sem,iD]}|cons y a=>simp only[go_sem,kI (cR y a)]
def q93{l:M ao}{c:Bool}(a:bO aA l<=mg):G 93 [aB l,.bool c]=Z (kE (dk l),[aB (dk l),bP (sM c l)]):=ape _ l c (aT _) a
theorem q94{l:M ao}(b:bO aA l<=mg):G 94 [aB l]=Z (kE (dk l),[aB (dk l)]):=by have h:=q93 (c:=J) b;refine bW t94 rfl ?_;cases hd:dk l with|nil=>{rw[hd]at h;simp only[go_sem,t94,h,iD]}|cons y a=>rw[hd]at h;simp only[go_sem,t94,h,kI (cR y a)]
def ew(l:M ao)(a:z):u Nat:=uZ (λe=>Z' (e.aq=a)) l 0
theorem q82{l:M ao}{nm:z}(hlen:l.length<=mg):G 82 [aB l,.str nm]=Z (0,[E (lx (ew l nm))]):=by refine bW t82 rfl ?_;simp only[go_sem,t82];have c:=vB (b:=lB G TZ) l (λi=>(0,[aB l,.str nm,E (i:Int)])) (λe=>Z' (e.aq=nm)) (1,[aB l,.str nm,E l.length,.bool J]) (λi e=>(0,[E (i:Int)])) (by intro i e a;have d:=aY a;have f:=wj d hlen;simp only[go_sem,bc,TZ,d,aV,a,ak];cases k:Z' (e.aq=nm)<;>simp only[go_sem,f]) (by simp only[go_sem,bc,TZ,aE]);rw[n0]at c;rw[c];unfold ew;cases g:uZ (λe=>Z' (e.aq=nm)) l 0 with|none=>{simp only[go_sem,lx]}|some j=>obtain⟨e,h,m⟩:=dw g;simp only[go_sem,h,lx]
def q95{l:M ao}(hlen:l.length<=mg):G 95 [aB l]=Z (0,[aI (l.map ao.aq)]):=by refine bW t95 rfl ?_;simp only[go_sem,t95];have f:=cI (b:=lB G OJ) l (λi (a:M z)=>(0,[aB l,E l.length,E (i:Int),aI a])) (λi=>(l.take i).map ao.aq) (0,[aB l,E l.length,E l.length,.bool J,aI (l.map ao.aq)]) (by intro i e c;have g:=aY c;have j:=wj g hlen;have m:aP (.app 1 16) [aI ((l.take i).map ao.aq),.list 1 I [[.str e.aq]]]=Z (aI ((l.take (i+1)).map ao.aq)):=by{have h:=dM 1 16 I (((l.take i).map ao.aq).map gm) [[.str e.aq]] (by decide) (by simp only[mg,aj,bk,aN,aJ]at *;omega);rw[h,Au c];simp[gm]};(have d:aP (.lu 1 I) [.str e.aq]=Z (.list 1 I [[.str e.aq]]):=by simp[aP,chunk,dc,D.plain]);simp only[go_sem,bc,OJ,g,aV,c,fo];simp only[go_sem,ak e,d,m,j]) (by simp only[go_sem,bc,OJ,aE,bl]) l.length 0 (by omega);rw[n0,br]at f;have k:bG (lB G OJ) (0,[aB l,E l.length,E 0,.list 1 I []])=_:=f;rw[k];simp only[go_sem]
def ad5{l:M z}{e:z}{k:Nat}(a:nth l k=Z e)(hlen:l.length<=mg) :
  bG (lB G BV) (0,[aI l,E (k:Int),E 0])=Z (if (l.take k).all (λx=>!Z' (x=e))=I then (1,[aI l,E (k:Int),E (k:Int),.bool J]) else (0,[.bool J])):=by have g:=aY a;have c:=pq (b:=lB G BV) (λj=>(0,[aI l,E (k:Int),E (j:Int)])) (atB (λx=>!Z' (x=e)) l) k (1,[aI l,E (k:Int),E (k:Int),.bool J]) (0,[.bool J]) (by intro j d;have a1:=dG (l:=l) (i:=j) (by omega);have f:=wj (i:=j) (n:=k) d (by omega);generalize l[j]'(by omega)=x at a1;simp only[go_sem,bc,BV,d,aV,a,a1,gm,atB];cases h:Z' (x=e)<;>simp only[go_sem,f]) (by simp only[go_sem,bc,BV,aE]) k 0 (by omega);rw[n0]at c;rw[c,zF _ l k 0 (by omega),bQ]
def v8(l:M z):Bool:=tL l && Z' (l.length<=3)
def adC(l:M z):tL l=allI (λk e=>(l.take k).all λx=>!Z' (x=e)) 0 l:=by rw[tL];congr 1;funext i e;rw[Oi,iO]
def aot{l:M z}(hlen:l.length<=mg):G 212 [aI l]=Z (0,[.bool (v8 l)]):=by refine bW t212 rfl ?_;simp only[go_sem,t212];have c:=qZ (b:=lB G Lo) l (λk=>(0,[aI l,E (k:Int)])) (λk e=>(l.take k).all λx=>!Z' (x=e)) (1,[aI l,E l.length,.bool J]) (0,[.bool J]) (by intro k e a;have d:=aY a;have f:=wj d hlen;simp only[go_sem,bc,Lo,d,ad5 a hlen];cases g:(l.take k).all (λx=>!Z' (x=e))<;>simp only[go_sem,f]) (by simp only[go_sem,bc,Lo,aE]) l.length 0 (by omega);rw[n0,bQ]at c;rw[c,v8,adC];cases allI (λk e=>(l.take k).all λx=>!Z' (x=e)) 0 l<;>simp only[go_sem,anc]
def lM(e:ao):Bool:=eA 0 1000000000 e.min && (Z' (e.max=0) ||eA e.min 1000000000 e.max)
def aou(e:ao):G 213 (aA e)=Z (0,[.bool (lM e)]):=by refine bW t213 (by rw[ak];rfl) ?_;simp only[go_sem,t213,ak,zy];(repeat' (first|with_reducible rfl|((first|rw[gN]|rw[gQ]|rw[gM]|rw[gP]);split<;>simp only[go_sem,zy, *])));all_goals simp_all[lM]
def Xv(e:ao):lM e=(Z' (0<=e.min) && (Z' (e.min<=1000000000) && (Z' (0<=e.max) && (Z' (e.max<=1000000000) && (Z' (e.max=0) ||decide (e.min<=e.max)))))):=by rw[dS];simp only[lM,eA,aw,eY,decide_eq_true_eq];omega
def ar6(e:ao):G 272 (aA e)=Z (0,[.bool (lM e)]):=by rw[Xv];refine bW t272 (by rw[ak];rfl) ?_;simp only[go_sem,t272,ak];(repeat' (first|with_reducible rfl|((first|rw[gN]|rw[gQ]|rw[gM]|rw[gP]);split<;>simp only[go_sem, *])));all_goals simp_all
def bK:M ao->Nat
 |[]=>0
 |e::es=>1+bK e.ai+bK es
termination_by es=>aF es
decreasing_by
 .exact ao.gx e es
 .simp only[bJ];omega
def fc:M ao->Nat
 |[]=>0
 |e::es=>bK e.ai+fc es
theorem qW:∀(l:M ao),bK l=l.length+fc l
 |[]=>by rw[bK];rfl
 |e::l=>by rw[bK,qW l,fc,aN];omega
theorem rK(e:ao):∀(l:M ao),fc (l++[e])=fc l+bK e.ai
 |[]=>by simp[fc]
 |x::l=>by rw[av,fc,fc,rK e l];omega
theorem Ia(l:M ao)(i:Nat):fc l=fc (l.take i)+fc (l.drop i):=by have app:∀(a b:M ao),fc (a++b)=fc a+fc b:=by{intro a;induction a with|nil=>{intro b;simp[fc]}|cons x a c=>intro b;rw[av,fc,fc,c b];omega};rw[<- app,cp]
theorem Nr(n:Nat):∀(l:M ao),aF l<n->bK l<=bO aA l:=by induction n with|zero=>{intro l h;omega}|succ n a=>intro l h;cases l with|nil=>{rw[bK];omega}|cons e l=>have c:=a l (by simp only[bJ]at h;omega);have b:=a e.ai (by have:=ao.gx e l;omega);rw[bK,fW];have:=iZ e;omega
def Ns{l:M ao}:bK l<=bO aA l:=Nr _ l (aT _)
theorem ai4(n:Nat):∀l:M ao,aF l<n->bO aA l<=mg->G 255 [aB l]=Z (0,[E (bK l)]):=by induction n with|zero=>{intro l h;omega}|succ n g=>intro l t d;(have c:l.length<=mg:=by simp only[bO]at d;omega);refine bW t255 rfl ?_;simp only[go_sem,t255];have e:=cI (b:=lB G Lx) l (λi (m:Nat)=>(0,[E (m:Int),aB l,E l.length,E (i:Int)])) (λi=>l.length+fc (l.take i)) (0,[E (bK l),aB l,E l.length,E l.length,.bool J]) (by intro i x a;have f:=aY a;have k:=wj f c;have j:=(gX d (bj a)).1;have o:=aS (iZ x) j;have s:=g x.ai (by have:=bB (bj a);have:=ao.fv x;omega) o;have r:=Ia l (i+1);have q:=Ns (l:=l);rw[qW]at q;rw[cd _ _ _ a,rK]at r;(have p:IntKind.i64.wrap (((l.length+fc (l.take i):Nat):Int)+(bK x.ai:Int))=((l.length+(fc (l.take i)+bK x.ai):Nat):Int):=by rw[wrap_i64 (by simp only[mg]at d;omega)];omega);rw[cd _ _ _ a,rK];simp only[go_sem,bc,Lx,f,aV,a,fo];simp only[go_sem,ak x,s,p,k]) (by rw[bl,qW];simp only[go_sem,bc,Lx,aE]) l.length 0 (by omega);rw[n0,br,fc,dY]at e;rw[e];simp only[go_sem]
def arZ{l:M ao}(a:bO aA l<=mg):G 255 [aB l]=Z (0,[E (bK l)]):=ai4 _ l (aT _) a
def wF(l:M ao)(x r:Int):Prop:=((bK l:Int)<=x->r=x - bK l)/\(x<(bK l:Int)->r<0)/\-268435456<=r
theorem aiR(n:Nat):∀(l:M ao) (x:Int),aF l<n->bO aA l<=mg->0<=x->x<=1048576->∃r,G 201 [aB l,E x]=Z (0,[E r])/\wF l x r:=by induction n with|zero=>{intro l x h;omega}|succ n F=>intro l x Q w S R;(have b:l.length<=mg:=by simp only[bO]at w;omega);have P:IntKind.i64.wrap (x - (l.length:Int))=x - l.length:=wrap_i64 (by simp only[mg]at b;omega);have loop:∀m i (y:Int),i+m=l.length->-268435456<=y->y<=1048576->∃(r a:Int),bG (lB G FM) (0,[aB l,E y,E (i:Int)])=Z (0,[aB l,E r,E a,.bool J])/\(0<=y->(fc (l.drop i):Int)<=y->r=y - fc (l.drop i))/\(y<0\/y<(fc (l.drop i):Int)->r<0)/\-268435456<=r:=by{intro m;induction m with|zero=>{intro i y K B A;(obtain rfl:i=l.length:=by omega);refine⟨y,l.length,aK (by simp only[go_sem,bc,FM,aE]),?_⟩;rw[eI];simp only[fc];omega}|succ m o=>intro i y K B A;(have c:i<l.length:=by omega);have a1:=dG (l:=l) (i:=i) c;have hd:=fJ l i _ a1;generalize l[i]'c=e at a1 hd;by_cases f:0<=y;{have D:=bj a1;have q:=aS (iZ e) (gX w D).1;obtain⟨v,N,t,C,L⟩:=F e.ai y (by have:=bB D;have:=ao.fv e;omega) q f A;have p:v<=1048576:=by{by_cases s:(bK e.ai:Int)<=y;{have:=t s;omega};have:=C (by omega);omega};obtain⟨r,a,k,j,d,g⟩:=o (i+1) v (by omega) L p;have H:=wj c b;refine⟨r,a,?_,?_⟩;{rw[<- k];refine bD ?_;simp only[go_sem,bc,FM,c,aV,a1,f];simp only[go_sem,ak e,N,H]};rw[hd,fc];refine⟨λ_ h=>?_,λh=>?_,g⟩;{have:=t (by omega);have:=j (by omega) (by omega);omega};by_cases s:(bK e.ai:Int)<=y;{have:=t s;exact d (by omega)};have:=C (by omega);exact d (.inl this)};refine⟨y,i,aK (by simp only[go_sem,bc,FM,c,f]),λh=>absurd h f,λ_=>by omega,B⟩};obtain⟨r,a,k,j,d,g⟩:=loop l.length 0 (x - l.length) (by omega) (by simp only[mg]at b;omega) (by omega);rw[n0,bQ]at *;refine⟨r,bW t201 rfl ?_,?_⟩;{simp only[go_sem,t201,P,k]};unfold wF;rw[qW];refine⟨λh=>?_,λh=>?_,g⟩;{have:=j (by omega) (by omega);omega};exact d (by omega)
def arE{l:M ao}{x:Int}(b:bO aA l<=mg)(c:0<=x)(a:x<=1048576):∃r,G 201 [aB l,E x]=Z (0,[E r])/\wF l x r:=aiR _ l x (aT _) b c a
def aD.gx(e:aD)(es:M aD):aF e.ai<aF (e::es):=by cases e;simp only[bJ,aD.mk.sizeOf_spec];omega
def aD.fv(e:aD):aF e.ai<aF e:=by cases e;simp only[aD.mk.sizeOf_spec];omega
def Vj(e:aD):(bh e).length=3:=by rw[aO];rfl
def aeW(e:aD)(k:Nat)(a:Bool):aP (.has 3) [.list k a [bh e]]=Z (.bool J):=by rw[zb,Vj,if_pos (aH 3)]
def GM(e:aD):bO bh e.ai<=dV (bh e):=by rw[eF];omega
def bu:M aD->Nat
 |[]=>0
 |e::es=>1+bu e.ai+bu es
termination_by es=>aF es
decreasing_by
 .exact aD.gx e es
 .simp only[bJ];omega
def iI:M aD->Nat
 |[]=>0
 |e::es=>bu e.ai+iI es
theorem wI:∀(l:M aD),bu l=l.length+iI l
 |[]=>by rw[bu];rfl
 |e::l=>by rw[bu,wI l,iI,aN];omega
theorem vo(e:aD):∀(l:M aD),iI (l++[e])=iI l+bu e.ai
 |[]=>by simp[iI]
 |x::l=>by rw[av,iI,iI,vo e l];omega
theorem Nf(l:M aD)(i:Nat):iI l=iI (l.take i)+iI (l.drop i):=by have app:∀(a b:M aD),iI (a++b)=iI a+iI b:=by{intro a;induction a with|nil=>{intro b;simp[iI]}|cons x a c=>intro b;rw[av,iI,iI,c b];omega};rw[<- app,cp]
theorem Vf(n:Nat):∀(l:M aD),aF l<n->bu l<=bO bh l:=by induction n with|zero=>{intro l h;omega}|succ n a=>intro l h;cases l with|nil=>{rw[bu];omega}|cons e l=>have c:=a l (by simp only[bJ]at h;omega);have b:=a e.ai (by have:=aD.gx e l;omega);rw[bu,fW];have:=GM e;omega
def Vg{l:M aD}:bu l<=bO bh l:=Vf _ l (aT _)
theorem ajg(n:Nat):∀l:M aD,aF l<n->bO bh l<=mg->G 317 [az l]=Z (0,[E (bu l)]):=by induction n with|zero=>{intro l h;omega}|succ n g=>intro l t d;(have c:l.length<=mg:=by simp only[bO]at d;omega);refine bW t317 rfl ?_;simp only[go_sem,t317];have e:=cI (b:=lB G LN) l (λi (m:Nat)=>(0,[E (m:Int),az l,E l.length,E (i:Int)])) (λi=>l.length+iI (l.take i)) (0,[E (bu l),az l,E l.length,E l.length,.bool J]) (by intro i x a;have f:=aY a;have k:=wj f c;have j:=(gX d (bj a)).1;have o:=aS (GM x) j;have s:=g x.ai (by have:=bB (bj a);have:=aD.fv x;omega) o;have r:=Nf l (i+1);have q:=Vg (l:=l);rw[wI]at q;rw[cd _ _ _ a,vo]at r;(have p:IntKind.i64.wrap (((l.length+iI (l.take i):Nat):Int)+(bu x.ai:Int))=((l.length+(iI (l.take i)+bu x.ai):Nat):Int):=by rw[wrap_i64 (by simp only[mg]at d;omega)];omega);rw[cd _ _ _ a,vo];simp only[go_sem,bc,LN,f,aV,a,aeW];simp only[go_sem,aO x,s,p,k]) (by rw[bl,wI];simp only[go_sem,bc,LN,aE]) l.length 0 (by omega);rw[n0,br,iI,dY]at e;rw[e];simp only[go_sem]
def ase{l:M aD}(a:bO bh l<=mg):G 317 [az l]=Z (0,[E (bu l)]):=ajg _ l (aT _) a
def DM(l:M aD)(x r:Int):Prop:=((bu l:Int)<=x->r=x - bu l)/\(x<(bu l:Int)->r<0)/\-268435456<=r
theorem ai1(n:Nat):∀(l:M aD) (x:Int),aF l<n->bO bh l<=mg->0<=x->x<=1048576->∃r,G 242 [az l,E x]=Z (0,[E r])/\DM l x r:=by induction n with|zero=>{intro l x h;omega}|succ n F=>intro l x Q w S R;(have b:l.length<=mg:=by simp only[bO]at w;omega);have P:IntKind.i64.wrap (x - (l.length:Int))=x - l.length:=wrap_i64 (by simp only[mg]at b;omega);have loop:∀m i (y:Int),i+m=l.length->-268435456<=y->y<=1048576->∃(r a:Int),bG (lB G FU) (0,[az l,E y,E (i:Int)])=Z (0,[az l,E r,E a,.bool J])/\(0<=y->(iI (l.drop i):Int)<=y->r=y - iI (l.drop i))/\(y<0\/y<(iI (l.drop i):Int)->r<0)/\-268435456<=r:=by{intro m;induction m with|zero=>{intro i y K B A;(obtain rfl:i=l.length:=by omega);refine⟨y,l.length,aK (by simp only[go_sem,bc,FU,aE]),?_⟩;rw[eI];simp only[iI];omega}|succ m o=>intro i y K B A;(have c:i<l.length:=by omega);have a1:=dG (l:=l) (i:=i) c;have hd:=fJ l i _ a1;generalize l[i]'c=e at a1 hd;by_cases f:0<=y;{have D:=bj a1;have q:=aS (GM e) (gX w D).1;obtain⟨v,N,t,C,L⟩:=F e.ai y (by have:=bB D;have:=aD.fv e;omega) q f A;have p:v<=1048576:=by{by_cases s:(bu e.ai:Int)<=y;{have:=t s;omega};have:=C (by omega);omega};obtain⟨r,a,k,j,d,g⟩:=o (i+1) v (by omega) L p;have H:=wj c b;refine⟨r,a,?_,?_⟩;{rw[<- k];refine bD ?_;simp only[go_sem,bc,FU,c,aV,a1,f];simp only[go_sem,aO e,N,H]};rw[hd,iI];refine⟨λ_ h=>?_,λh=>?_,g⟩;{have:=t (by omega);have:=j (by omega) (by omega);omega};by_cases s:(bu e.ai:Int)<=y;{have:=t s;exact d (by omega)};have:=C (by omega);exact d (.inl this)};refine⟨y,i,aK (by simp only[go_sem,bc,FU,c,f]),λh=>absurd h f,λ_=>by omega,B⟩};obtain⟨r,a,k,j,d,g⟩:=loop l.length 0 (x - l.length) (by omega) (by simp only[mg]at b;omega) (by omega);rw[n0,bQ]at *;refine⟨r,bW t242 rfl ?_,?_⟩;{simp only[go_sem,t242,P,k]};unfold DM;rw[wI];refine⟨λh=>?_,λh=>?_,g⟩;{have:=j (by omega) (by omega);omega};exact d (by omega)
def arU{l:M aD}{x:Int}(b:bO bh l<=mg)(c:0<=x)(a:x<=1048576):∃r,G 242 [az l,E x]=Z (0,[E r])/\DM l x r:=ai1 _ l x (aT _) b c a
def ZJ(i:Int):M D:=[.int .i64 i]
abbrev bE(l:M Int):D:=.list 1 I (l.map ZJ)
abbrev fh(l:M (M Int)):D:=.list 1 J (l.map λp=>[bE p])
def il{l:M aD}{i:Nat}{y:aD}(h:nth l i=Z y):aP (.el 3) [az l,E (i:Int)]=Z (.list 0 J [bh y]):=by rw[j_,aV,h];rfl
def vu{l:M Int}{i:Nat}{y:Int}(h:nth l i=Z y):aP (.el 1) [bE l,E (i:Int)]=Z (.list 0 J [[E y]]):=by rw[j_,aV,h];rfl
def aa7{at_:M Int}{l:M aD}{i:Nat}(a:¬i<at_.length):lB G vR (0,[az l,bE at_,E (i:Int)])=Z (.out (1,[az l,bE at_,E (i:Int),.bool J])):=by simp only[go_sem,bc,vR,aj,a]
def aa8{at_:M Int}{l:M aD}{i:Nat}{a:Int}(e:i<at_.length)(d:nth at_ i=Z a)(h:l.length<=mg)(c:eA 0 ((l.length:Int) - 1) a=J):lB G vR (0,[az l,bE at_,E (i:Int)])=Z (.out (0,[az []])):=by have f:=vu d;have g:IntKind.i64.wrap ((l.length:Int) - 1)=(l.length:Int) - 1:=wrap_i64 (by simp only[mg]at *;omega);have b:=zy a 0 ((l.length:Int) - 1);rw[c]at b;simp only[go_sem,bc,vR,aj,e,f,g,b];rfl
def aa9{at_:M Int}{l:M aD}{i k:Nat}{x:aD}(g:at_.length<=mg)(b:i<at_.length)(f:nth at_ i=Z (k:Int))(d:nth l k=Z x)(n:l.length<=mg)(c:eA 0 ((l.length:Int) - 1) (k:Int)=I):lB G vR (0,[az l,bE at_,E (i:Int)])=Z (.go (0,[az x.ai,bE at_,E ((i+1:Nat):Int)])):=by have j:=vu f;have h:=il d;have m:IntKind.i64.wrap ((l.length:Int) - 1)=(l.length:Int) - 1:=wrap_i64 (by simp only[mg]at *;omega);have a:=zy (k:Int) 0 ((l.length:Int) - 1);have e:=wj b g;rw[c]at a;simp only[go_sem,bc,vR,aj,b,j,m,a,h,aO,e]
theorem aed{at_:M Int}(r:at_.length<=mg):∀(m i:Nat) (l:M aD),i+m=at_.length->bO bh l<=mg->
  ∃R,bG (lB G vR) (0,[az l,bE at_,E (i:Int)])=Z R/\((∃q,R=(1,[az (iK l (at_.drop i)),bE at_,q,.bool J]))\/R=(0,[az (iK l (at_.drop i))])):=by intro m;induction m with|zero=>{intro i l h g;(have b:¬i<at_.length:=by omega);rw[cS (by omega),iK];exact⟨_,aK (aa7 b),.inl ⟨_,rfl⟩⟩}|succ m p=>intro i l h g;(have b:i<at_.length:=by omega);have d:=dG (l:=at_) (i:=i) b;have e:=fJ at_ i _ d;generalize at_[i]'b=a at d e;(have f:l.length<=mg:=by simp only[bO]at g;omega);rw[e,iK];cases c:eA 0 ((l.length:Int) - 1) a;{rw[tc (λh=>by rw[(ej _ _ _).2 h]at c;cases c)];exact⟨_,aK (aa8 b d f c),.inr rfl⟩};obtain⟨k,x,rfl,v,s,j⟩:=wX ((ej _ _ _).1 c);rw[j];have t:=AY j;obtain⟨R,o,n⟩:=p (i+1) x.ai (by omega) (by omega);exact⟨R,(bD (aa9 r b d s f c)).trans o,n⟩
def aoX{l:M aD}{at_:M Int}(c:bO bh l<=mg)(d:at_.length<=mg):G 451 [az l,bE at_]=Z (0,[az (iK l at_)]):=by obtain⟨R,a,b⟩:=aed d at_.length 0 l (by omega) c;rw[n0,bQ]at *;refine bW aj0 rfl ?_;rcases b with ⟨e,rfl⟩|rfl;{simp only[go_sem,aj0,a]};simp only[go_sem,aj0,a]
def ZL{l:M fP}{i:Nat}{y:fP}(h:nth l i=Z y):aP (.el 2) [cN l,E (i:Int)]=Z (.list 0 J [gT y]):=by rw[j_,aV,h];rfl
def qQ(y:fP)(k:aD):Bool:=Z' (k.aq=y.aq) && Z' (k.bo=y.bo)
def WB{n v:D}{a:M aD}{t:M fP}{i:Nat}{y:fP}(p:nth t i=Z y)(q:a.length<=mg) :
  bG (lB G vS) (0,[cN t,E (i:Int),.bool J,E 0,n,v,az a])=Z (0,[cN t,E (i:Int),.bool (a.any (qQ y)),E a.length,.bool J,n,v,az a]):=by have h:=cI (b:=lB G vS) a (λk (m:Bool)=>(0,[cN t,E (i:Int),.bool m,E (k:Int),n,v,az a])) (λk=>(a.take k).any (qQ y)) (0,[cN t,E (i:Int),.bool (a.any (qQ y)),E a.length,.bool J,n,v,az a]) (by intro k x d;have c:=aY d;have e:=wj c q;have l:=il d;have j:=ZL p;(have o:(a.take (k+1)).any (qQ y)=((a.take k).any (qQ y) ||qQ y x):=by rw[cd _ _ _ d];simp);rw[o];obtain⟨r,f⟩:∃b,(a.take k).any (qQ y)=b:=⟨_,rfl⟩;rw[f];cases r;{by_cases g:x.aq=y.aq;{simp only[go_sem,bc,vS,aj,c,l,j,aO,gT,g,e,qQ]};simp only[go_sem,bc,vS,aj,c,l,j,aO,gT,g,e,qQ]};simp only[go_sem,bc,vS,aj,c,e]) (by simp only[go_sem,bc,vS,aj,aE,bl]) a.length 0 (by omega);rw[br,n0]at h;exact h
def asz{x:aD}{t:M fP}(k:x.ai.length<=mg)(g:t.length<=mg):G 452 (bh x++[cN t])=Z (0,[.bool (AH x t)]):=by have h:=gJ (b:=lB G F_) t (λi=>(0,[cN t,E (i:Int),.str x.aq,.str x.bo,az x.ai])) (λy=>x.ai.any (qQ y)) (1,[cN t,E t.length,.bool J,.str x.aq,.str x.bo,az x.ai]) (0,[.bool J]) (by intro i y d;have c:=aY d;have e:=wj c g;have f:=WB (n:=.str x.aq) (v:=.str x.bo) d k;cases a:x.ai.any (qQ y);{rw[a]at f;simp only[go_sem,bc,F_,aj,c,f]};rw[a]at f;simp only[go_sem,bc,F_,aj,c,f,e]) (by simp only[go_sem,bc,F_,aj,aE]);rw[n0]at h;have j:AH x t=t.all λy=>x.ai.any (qQ y):=rfl;rw[j];refine bW aj1 (by rw[aO];rfl) ?_;cases a:t.all λy=>x.ai.any (qQ y);{rw[a,if_neg (by simp)]at h;simp only[go_sem,aj1,aO,h]};rw[a,if_pos rfl]at h;simp only[go_sem,aj1,aO,h]
theorem aoM(a:Nat):∀l:M aD,aF l<a->bO bh l<=mg->G 2 [az l]=Z (0,[az l]):=by induction a with|zero=>{intro l h;omega}|succ a k=>intro l C o;(have e:l.length<=mg:=by simp only[bO]at o;omega);have B:aP (.lu 3 J) []=Z (az []):=rfl;have step:∀h,h=0\/h=1->∀i x,nth l i=Z x->lB G Rf (h,[az l,.int .i64 (i:Int),az (l.take i)])=Z (.go (1,[az l,E ((i+1:Nat):Int),az (l.take (i+1))])):=by{intro h f i x d;have j:=aY d;have n:=wj j e;have A:=il d;have D:=cq bh (bj d);have m:=eF x;have w:=k x.ai (by have:=bB (bj d);have:=aD.fv x;omega) (by omega);have v:aP (.lu 3 J) [.str x.aq,.str x.bo,az x.ai]=Z (.list 3 J [[.str x.aq,.str x.bo,az x.ai]]):=gW 3 _ rfl (by decide);have s:aP (.app 3 56) [az (l.take i),.list 3 J [[.str x.aq,.str x.bo,az x.ai]]]=Z (az (l.take i++[x])):=by{rw[dM 3 56 J _ _ (by decide) (by simp only[aj,bk,aL,mg]at *;omega)];simp[az,aO x]};have r:aP .xG [.str x.aq,.str x.bo,az x.ai]=Z (.bool J):=rfl;rw[cd l i x d];generalize l.take i=t at *;rcases f with rfl|rfl<;>simp only[go_sem,bc,Rf,j,n,A,aO x,w,v,s,r]};have fin:∀h,h=0\/h=1->lB G Rf (h,[az l,E l.length,az l])=Z (.out (h,[az l,E l.length,.bool J,az l])):=by{intro h f;rcases f with rfl|rfl<;>simp only[go_sem,bc,Rf,aE]};have g:∃h,(h=0\/h=1)/\bG (lB G Rf) (0,[az l,E 0,az []])=Z (h,[az l,E l.length,.bool J,az l]):=by{cases l with|nil=>{exact⟨0,.inl rfl,aK (fin 0 (.inl rfl))⟩}|cons x c=>have q:=step 0 (.inl rfl) 0 x rfl;have p:=cI (b:=lB G Rf) (x::c) (λi t=>(1,[az (x::c),.int .i64 (i:Int),az t])) (λi=>(x::c).take i) (1,[az (x::c),E (x::c).length,.bool J,az (x::c)]) (λi y d=>step 1 (.inr rfl) i y d) (by rw[bl];exact fin 1 (.inr rfl)) c.length 1 (by simp only[aN];omega);exact⟨1,.inr rfl,(bD q).trans p⟩};obtain⟨h,f,g⟩:=g;refine bW t2 rfl ?_;rcases f with rfl|rfl<;>simp only[go_sem,t2,B,g]
def q2v{l:M aD}(a:bO bh l<=mg):G 2 [az l]=Z (0,[az l]):=aoM _ l (aT _) a
def ndR:u aD->Nat×M D
 |none=>(0,[.str ⟨#[]⟩,.str ⟨#[]⟩,az [],.bool J])
 |some x=>(1,bh x++[.bool I])
def Ee{l:M Int}{b:Nat}(h:b<=l.length):aP (.cut I) [bE l,E 0,E (b:Int)]=Z (bE (l.take b)):=by have c:dI (E 0)=Z 0:=rfl;(have a:dI (E (b:Int))=Z b:=by simp[dI]);simp only[aP,c,a,aj];rw[if_pos ⟨bI _,h⟩,bQ,<- uJ]
def ae0{l:M aD}{k:Nat}{x:aD}(h:nth l k=Z x):aP (.AS 3 I) [az l,E (k:Int),E ((k+1:Nat):Int)]=Z (az [x]):=by (have d:dI (E (k:Int))=Z k:=by simp[dI]);(have c:dI (E ((k+1:Nat):Int))=Z (k+1):=by simp[dI];omega);have b:=aY h;have a:(l.take (k+1)).drop k=[x]:=by{rw[cd l k x h];(have:(l.take k).length=k:=by rw[bk];omega);exact List.drop_left' this};simp only[aP,d,c,aj];rw[if_pos ⟨trivial,Nat.le_succ k,b⟩,<- uJ,<- List.map_drop,a]
def asA{l:M aD}{at_:M Int}(n:bO bh l<=mg)(o:at_.length<=mg):G 454 [az l,bE at_]=Z (ndR (iY l at_)):=by rcases List.eq_nil_or_concat at_ with rfl|⟨A,a,rfl⟩;{refine bW acT rfl ?_;simp only[go_sem,acT,aJ,n0];rfl};rw[List.concat_eq_append]at *;rw[GO];(have L:A.length+1<=mg:=by rw[ay,aL]at o;exact o);(have w:nth (A++[a]) A.length=Z a:=by rw[ek];simp);have s:=vu w;(have j:¬((A.length+1:Nat):Int)=0:=by omega);(have m:IntKind.i64.wrap (((A.length+1:Nat):Int) - 1)=(A.length:Int):=by rw[wrap_i64 (by simp only[mg]at *;omega)];omega);have g:=Ee (l:=A++[a]) (b:=A.length) (by simp);rw[n9]at g;have q:=aoX (at_:=A) n (by omega);have v:=p9 l A;(have d:(A++[a]).length=A.length+1:=by simp);generalize iK l A=U at *;(have f:U.length<=mg:=by simp only[bO]at v n;omega);have t:IntKind.i64.wrap ((U.length:Int) - 1)=(U.length:Int) - 1:=wrap_i64 (by simp only[mg]at *;omega);have c:=zy a 0 ((U.length:Int) - 1);refine bW acT rfl ?_;cases e:eA 0 ((U.length:Int) - 1) a;{rw[e]at c;rw[tc (λh=>by rw[(ej _ _ _).2 h]at e;cases e)];simp only[go_sem,acT,aj,d,j,m,g,q,s,t,c];rfl};obtain⟨k,x,rfl,C,p,B⟩:=wX ((ej _ _ _).1 e);rw[e]at c;rw[B];have H:=wj C f;have F:=ae0 p;have K:=cq bh (bj p);have D:=q2v (l:=[x]) (by rw[fW];have:bO bh []=0:=rfl;omega);have r:=il (l:=[x]) (i:=0) (y:=x) rfl;rw[n0]at r;simp only[go_sem,acT,aj,d,j,m,g,q,s,t,c,H,F,D,r,aO]
def NC{l:M eh}{i:Nat}{y:eh}(h:nth l i=Z y):aP (.el 2) [bM l,E (i:Int)]=Z (.list 0 J [[.str y.aq,cN y.cT]]):=by rw[j_,aV,h];rfl
def zV{l:M (M Int)}{i:Nat}{y:M Int}(h:nth l i=Z y):aP (.el 1) [fh l,E (i:Int)]=Z (.list 0 J [[bE y]]):=by rw[j_,aV,h];rfl
def YM{a b:M Int}(h:a.length+b.length<=2147483648):aP (.app 1 8) [bE a,bE b]=Z (bE (a++b)):=by rw[dM 1 8 I _ _ (by decide) (by simpa using h),bE,cE]
theorem u9:aP (.lu 1 I) []=Z (bE []):=(rfl)
def aeF(j:Int):aP (.lu 1 I) [E j]=Z (bE [j]):=by simp[aP,chunk,dc,D.plain,ZJ,bE]
theorem Xm:aP (.lu 1 J) []=Z (fh []):=(rfl)
def Xn(p:M Int):aP (.lu 1 J) [bE p]=Z (fh [p]):=by rw[gW 1 _ rfl (by decide)];rfl
def akK{a b:M (M Int)}(h:a.length+b.length<=2147483648):aP (.app 1 24) [fh a,fh b]=Z (fh (a++b)):=by rw[dM 1 24 J _ _ (by decide) (by simpa using h),fh,cE]
def gq(a b:z)(l:M aD)(k:Nat)(c:Bool):aP (.has 3) [.list k c [[.str a,.str b,az l]]]=Z (.bool J):=by simp[aP,elC]
theorem BP(st:eh)(pl:M Int):∀(a:M aD) (j:Nat),(jC st pl a j).length<=a.length
 |[],j=>bI _
 |x::a,j=>by have:=BP st pl a (j+1);rw[jC];split<;>simp only[aN]<;>omega
def WC{l:M aD}{now N:M (M Int)}{i k:Nat}{ks:M aD}{r u z:D}{ss:M eh}{st:eh}{pl:M Int}(v:nth ss i=Z st)(K:nth now k=Z pl)(P:bO bh ks<=mg)(R:N.length<=mg+1)(Q:pl.length<=mg)(y:st.cT.length<=mg) :
  bG (lB G ug) (0,[az l,fh now,E (i:Int),E (k:Int),az ks,E 0,r,u,bM ss,fh N,z])=Z (0,[az l,fh now,E (i:Int),E (k:Int),az ks,E ks.length,.bool J,r,u,bM ss,fh (N++jC st pl ks 0),z]):=by (have s:ks.length<=mg:=by simp only[bO]at P;omega);have h:=cI (b:=lB G ug) ks (λj (t:M (M Int))=>(0,[az l,fh now,E (i:Int),E (k:Int),az ks,E (j:Int),r,u,bM ss,fh t,z])) (λj=>N++jC st pl (ks.take j) 0) (0,[az l,fh now,E (i:Int),E (k:Int),az ks,E ks.length,.bool J,r,u,bM ss,fh (N++jC st pl ks 0),z]) (by intro j x e;have g:=aY e;have m:=wj g s;have o:=il e;have n:=NC v;have H:=zV K;have S:=cq bh (bj e);have w:=eF x;have f:=asz (x:=x) (t:=st.cT) (by simp only[bO]at *;omega) y;have p:=yt st pl x (ks.take j) 0;(have c:(ks.take j).length=j:=by rw[bk];omega);rw[c,bN]at p;have L:=BP st pl (ks.take j) 0;rw[c]at L;have F:aP (.app 1 8) [bE [],bE pl]=Z (bE pl):=YM (a:=[]) (by simp only[mg,aJ]at *;omega);have C:=YM (a:=pl) (b:=[(j:Int)]) (by simp only[mg,aL]at *;omega);have B:=akK (a:=N++jC st pl (ks.take j) 0) (b:=[pl++[(j:Int)]]) (by simp only[mg,aL,ay]at *;omega);rw[cd _ _ _ e,p];rw[aO]at f;have A:adU st x=(Z' (x.aq=st.aq) && AH x st.cT):=rfl;rw[A,<- aZ];generalize N++jC st pl (ks.take j) 0=t at *;simp only[av,au]at f;by_cases d:x.aq=st.aq;{rw[d]at f;cases q:AH x st.cT;{rw[q]at f;simp only[go_sem,bc,ug,aj,g,o,n,aO x,gq,d,f,m,aG]};rw[q]at f;simp only[go_sem,bc,ug,aj,g,o,n,H,aO x,gq,d,f,m,u9,aeF,Xn,F,C,B]};simp only[go_sem,bc,ug,aj,g,o,n,aO x,d,m,aG]) (by simp only[go_sem,bc,ug,aj,aE,bl]) ks.length 0 (by omega);rw[br,jC,aG,n0]at h;exact h
def lR{a β:Type}(f:a->M β){l:M a}{i:Nat}{x:a}(h:nth l i=Z x):(l.take (i+1)).flatMap f=(l.take i).flatMap f++f x:=by rw[cd l i x h,qB];simp
def JG{l:M aD}:∀(a:M (M Int)) (k:Nat),mN l (a.take k)<=mN l a:=by intro a k;have h:=GK l (a.drop k) (a.take k);rw[cp]at h;omega
def WD{l:M aD}{now:M (M Int)}{i n:Nat}{r u z:D}{ss:M eh}{st:eh}(e:nth ss i=Z st)(c:bO bh l<=mg)(B:mN l now<=mg+1)(p:Io n now)(o:n<=mg)(g:st.cT.length<=mg) :
  bG (lB G Ca) (0,[az l,fh now,E (i:Int),E 0,r,u,bM ss,fh [],z])=Z (0,[az l,fh now,E (i:Int),E now.length,.bool J,r,u,bM ss,fh (pC l st now),z]):=by have C:=ny l now;have h:=cI (b:=lB G Ca) now (λk (t:M (M Int))=>(0,[az l,fh now,E (i:Int),E (k:Int),r,u,bM ss,fh t,z])) (λk=>pC l st (now.take k)) (0,[az l,fh now,E (i:Int),E now.length,.bool J,r,u,bM ss,fh (pC l st now),z]) (by intro k pl a;have d:=aY a;have f:IntKind.i64.wrap ((k:Int)+1)=((k+1:Nat):Int):=wi1 d (by simp only[mg]at *;omega);have w:=zV a;have A:=p pl (bj a);have v:=aoX (l:=l) (at_:=pl) c (by omega);have x:=aS (p9 l pl) c;have j:=pJ l st (now.take k);have q:=JG (l:=l) now k;have y:=ny l (pC l st (now.take k));have s:=WC (l:=l) (now:=now) (N:=pC l st (now.take k)) (i:=i) (k:=k) (ks:=iK l pl) (r:=r) (u:=u) (z:=z) (ss:=ss) (st:=st) (pl:=pl) e a x (by omega) (by omega) g;have m:pC l st (now.take (k+1))=pC l st (now.take k)++jC st pl (iK l pl) 0:=lR _ a;rw[m];simp only[go_sem,bc,Ca,aj,d,w,v,s,f]) (by simp only[go_sem,bc,Ca,aj,aE,bl]) now.length 0 (by omega);rw[br,n0]at h;exact h
theorem WE{l:M aD}{r u:D}{ss:M eh}(y:bO bh l<=mg)(x:bO dq ss<=mg):∀(m i n:Nat) (now:M (M Int)) (z:D),i+m=ss.length->mN l now<=mg+1->Io n now->n+m<=mg->
  ∃c d,bG (lB G LP) (0,[az l,fh now,E (i:Int),r,u,bM ss,z])=Z (0,[az l,fh c,E ss.length,.bool J,r,u,bM ss,d])/\c=DD l (ss.drop i) now:=by intro m;induction m with|zero=>{intro i n now z h j e A;(obtain rfl:i=ss.length:=by omega);refine⟨now,z,aK ?_,by rw[eI];rfl⟩;simp only[go_sem,bc,LP,aj,aE]}|succ m q=>intro i n now z h j e A;(have b:i<ss.length:=by omega);have a:=dG (l:=ss) (i:=i) b;have g:=fJ ss i _ a;generalize ss[i]'b=st at a g;(have p:ss.length<=mg:=by simp only[bO]at x;omega);have t:=wj b p;have s:=cq dq (bj a);have v:st.cT.length<=mg:=by{simp only[dq,dV,D.sz,aj]at s;omega};have f:=WD (l:=l) (now:=now) (i:=i) (r:=r) (u:=u) (z:=z) (ss:=ss) (st:=st) a y j e (by omega) v;have w:=pJ l st now;obtain⟨c,d,o,k⟩:=q (i+1) (n+1) (pC l st now) (fh (pC l st now)) (by omega) (by omega) (CH l st e) (by omega);refine⟨c,d,(bD ?_).trans o,by rw[k,g,DD]⟩;simp only[go_sem,bc,LP,aj,b,Xm,f,t]
theorem JW(l:M aD):∀(b:M eh) (n:Nat) (a:M (M Int)),Io n a->Io (n+b.length) (DD l b a)
 |[],n,a,h=>h
 |st::b,n,a,h=>by have c:=JW l b (n+1) (pC l st a) (CH l st h);rw[DD,aN,show n+(b.length+1)=n+1+b.length by omega];exact c
def JY(l:M aD)(at_:M Int)(p:fE):Io (at_.length+p.steps.length) (uC l at_ p):=by unfold uC;split;{refine JW l p.steps at_.length _ λq a=>?_;rw[ct]at a;rw[a];split;{exact bI _};rw[bk];omega};intro q a;cases a
def aoY{l:M aD}{at_:M Int}{p:fE}(A:bO bh l<=mg)(B:at_.length+dV (bT p)<=mg):G 453 ([az l,bE at_]++bT p)=Z (0,[fh (uC l at_ p)]):=by have f:=ae8 (p:=p) (by omega);rw[bT]at f;rw[jX]at B;(have D:p.steps.length<=bO dq p.steps:=by simp only[bO];omega);unfold uC;cases j:gA p;{rw[j]at f;rw[if_neg (by simp)];refine bW Px rfl ?_;simp only[go_sem,Px,bT,f,Xm]};rw[j]at f;have F:=tg j;obtain⟨u,v⟩:∃u:Nat,p.kj=(u:Int):=⟨p.kj.toNat,by omega⟩;(have i:p.kj.toNat=u:=by omega);rw[i];by_cases k:(at_.length:Int)<p.kj;{rw[if_neg (λh=>by omega)];refine bW Px rfl ?_;simp only[go_sem,Px,bT,f,k,Xm,aj]};rw[if_pos ⟨rfl,by omega⟩];(have n:IntKind.i64.wrap ((at_.length:Int) - p.kj)=((at_.length - u:Nat):Int):=by rw[v,wrap_i64 (by simp only[mg]at *;omega)];omega);have o:=Ee (l:=at_) (b:=at_.length - u) (by omega);have s:aP (.app 1 8) [bE [],bE (at_.take (at_.length - u))]=Z (bE (at_.take (at_.length - u))):=YM (a:=[]) (by simp only[bk,aJ,mg]at *;omega);have x:∀q,mN l [q]<=mg+1:=λq=>by{have:=p9 l q;rw[mN,mN];omega};have go:=λq (w:q.length<=at_.length) c=>WE (l:=l) (r:=.bool p.root) (u:=E p.kj) (ss:=p.steps) A (by omega) p.steps.length 0 at_.length [q] c (by omega) (x q) (λy m=>by rw[ct]at m;rw[m];exact w) (by omega);cases d:p.root;{obtain⟨C,t,g,e⟩:=go (at_.take (at_.length - u)) (by rw[bk];omega) (fh [at_.take (at_.length - u)]);rw[bQ]at e;rw[n0,d]at g;rw[d]at f;rw[if_neg (by simp),<- e];refine bW Px rfl ?_;simp only[go_sem,Px,bT,f,k,aj,n,o,s,u9,Xn,d,g]};obtain⟨C,t,g,e⟩:=go [] (bI _) (fh [[]]);rw[bQ]at e;rw[n0,d]at g;rw[d]at f;rw[if_pos rfl,<- e];refine bW Px rfl ?_;simp only[go_sem,Px,bT,f,k,aj,n,o,s,u9,Xn,d,g]
def H9{a b:M z}(h:a.length+b.length<=2147483648):aP (.app 1 16) [aI a,aI b]=Z (aI (a++b)):=by rw[dM 1 16 I _ _ (by decide) (by simpa using h),aI,cE]
def se(x:z):aP (.lu 1 I) [.str x]=Z (aI [x]):=by simp[aP,chunk,dc,D.plain,gm,aI]
theorem nz:aP (.lu 1 I) []=Z (aI []):=(rfl)
theorem aoZ{l:M aD}{at_:M Int}{p:fE}(m:bO bh l<=mg)(v:at_.length+dV (bT p)<=mg):G 455 ([az l,bE at_]++bT p)=Z (0,[aI (qR l at_ p)]):=by have n:=aoY m v;have A:=JY l at_ p;have r:=xh l at_ p;have s:=ny l (uC l at_ p);(have B:p.steps.length<=dV (bT p):=by rw[jX];simp only[bO];omega);have q:qR l at_ p=(uC l at_ p).filterMap λpl=>(iY l pl).map aD.bo:=rfl;rw[q];simp only[bT,av,au]at n;generalize uC l at_ p=c at *;have h:=cI (b:=lB G Gd) c (λk (t:M z)=>(0,[az l,fh c,E (k:Int),aI t])) (λk=>(c.take k).filterMap λpl=>(iY l pl).map aD.bo) (0,[az l,fh c,E c.length,.bool J,aI (c.filterMap λpl=>(iY l pl).map aD.bo)]) (by intro k pl f;have i:=aY f;have j:IntKind.i64.wrap ((k:Int)+1)=((k+1:Nat):Int):=wi1 i (by simp only[mg]at *;omega);have o:=zV f;have C:=A pl (bj f);have d:=asA (l:=l) (at_:=pl) m (by omega);have w:=uI (λpl=>(iY l pl).map aD.bo) (c.take k);(have g:(c.take k).length=k:=by rw[bk];omega);rw[g]at w;rw[cd _ _ _ f,List.filterMap_append];generalize (c.take k).filterMap (λpl=>(iY l pl).map aD.bo)=t at *;cases e:iY l pl with|none=>{rw[e]at d;simp only[ndR]at d;(have:zo (λpl=>(iY l pl).map aD.bo) [pl]=[]:=by simp[e]);rw[this,aG];simp only[go_sem,bc,Gd,aj,i,o,d,j]}|some x=>rw[e]at d;simp only[ndR,aO,av,au]at d;(have:zo (λpl=>(iY l pl).map aD.bo) [pl]=[x.bo]:=by simp[e]);rw[this];have y:=H9 (a:=t) (b:=[x.bo]) (by simp only[mg,aL]at *;omega);simp only[go_sem,bc,Gd,aj,i,o,d,j,se,y]) (by simp only[go_sem,bc,Gd,aj,aE,bl]) c.length 0 (by omega);rw[br,List.filterMap_nil,n0]at h;refine bW apz rfl ?_;simp only[go_sem,apz,bT,nz,n,h]
def zd{s:z}{r:Int}(h:sh s=Z r):-1000000000<=r/\r<=1000000000:=by unfold sh at h;split at h;{cases h};rename_i n b;have:=ti b;by_cases a:oB (if xF s=I then -n else n)=s;{rw[if_pos a]at h;have c:=hO h;split at c<;>omega};rw[if_neg a]at h;cases h
theorem ajp{s:z}(k:s.size<=mg):G 399 [.str s]=Z (0,eN (sh s)):=by have h:=abY (s:=tl s) (by rw[El];omega);have g:=abY k;unfold sh;refine bW Pv rfl ?_;by_cases c:s.size=0;{(have i:xF s=J:=by simp[xF,c]);(have hd:AM s=O:=by simp[AM,c]);rw[i,if_neg (by simp),hd];rw[hd]at g;simp only[go_sem,Pv,gt0,c,g,eN]};(have a:0<s.size:=by omega);by_cases d:bY s 0=45;{(have i:xF s=I:=by simp[xF,d,a]);rw[i,if_pos rfl];simp only[if_true];cases e:AM (tl s) with|none=>{rw[e]at h;have j:IntKind.i64.wrap (-0)=0:=rfl;simp only[go_sem,Pv,gt0,c,jh a,d,uB s a,h,eN,Int.neg_zero]}|some n=>rw[e]at h;have l:=ti e;have j:IntKind.i64.wrap (-n)=-n:=wrap_i64 (by omega);have f:=abZ (n:=-n) (by omega);by_cases b:oB (-n)=s;{dsimp only;rw[if_pos b];rw[b]at f;simp only[go_sem,Pv,gt0,c,jh a,d,uB s a,h,eN,j,f]};dsimp only;rw[if_neg b];simp only[go_sem,Pv,gt0,c,jh a,d,uB s a,h,eN,j,f,b]};(have i:xF s=J:=by simp[xF,d]);rw[i,if_neg (by simp)];simp only[aQ,if_false];cases e:AM s with|none=>{rw[e]at g;simp only[go_sem,Pv,gt0,c,jh a,d,g,eN]}|some n=>rw[e]at g;have l:=ti e;have f:=abZ (n:=n) (by omega);by_cases b:oB n=s;{dsimp only;rw[if_pos b];rw[b]at f;simp only[go_sem,Pv,gt0,c,jh a,d,g,eN,f]};dsimp only;rw[if_neg b];simp only[go_sem,Pv,gt0,c,jh a,d,g,eN,f,b]
def tx0(s:z):Z' (s=⟨#[]⟩)=Z' (s.size=0):=dz s
def g0n(n:Nat):Z' (0<(n:Int))=!Z' (n=0):=gt0 n
def aff(w:iU):G 456 (cm w)=Z (0,[.bool (fH w)]):=by unfold fH;refine bW XU rfl ?_;by_cases d:w.ax=1;{simp only[go_sem,XU,cm,d]};by_cases c:w.ax=2;{simp only[go_sem,XU,cm,c,tx0]};by_cases b:w.ax=3;{simp only[go_sem,XU,cm,b]};by_cases a:w.ax=4;{simp only[go_sem,XU,cm,a,aj,g0n];cases w.list<;>rfl};simp only[go_sem,XU,cm,d,c,b,a]
def asB(b:Bool):G 457 [.bool b]=Z (0,cm (PU b)):=by refine bW apC rfl ?_;simp only[go_sem,apC,cm,PU];rfl
def ajt{w:iU}(j:-1000000000<=w.num/\w.num<=1000000000)(l:w.list.length<=mg):G 458 (cm w)=Z (0,[aI (fZ w)]):=by have f:=abZ j;have k:aP (.app 1 16) [aI [],aI w.list]=Z (aI w.list):=H9 (a:=[]) (by simp only[mg,aJ]at *;omega);unfold fZ;refine bW R8 rfl ?_;by_cases i:w.ax=1;{simp only[go_sem,R8,cm,i,f,se]};by_cases h:w.ax=2;{simp only[go_sem,R8,cm,h,se]};by_cases b:w.ax=3;{have d:=se kD;have e:=se iA;unfold kD at d;unfold iA at e;cases c:w.yes;{simp only[go_sem,R8,cm,b,c,e,kD,iA]};simp only[go_sem,R8,cm,b,c,d,kD,iA]};by_cases g:w.ax=4;{simp only[go_sem,R8,cm,g,nz,k]};simp only[go_sem,R8,cm,i,h,b,g,nz]
theorem ao0{w:iU}(j:-1000000000<=w.num/\w.num<=1000000000)(k:w.list.length<=mg)(g:∀a∈fZ w,a.size<=mg):G 459 (cm w)=Z (0,eN (rQ w)):=by have f:=ajt j k;unfold rQ;simp only[cm]at f;refine bW afJ rfl ?_;cases h:fZ w with|nil=>{rw[h]at f;simp only[go_sem,afJ,cm,f,eN,cO,aJ,n0]}|cons a b=>rw[h]at f g;have d:=ajp (g a (by simp));(have e:¬((b.length+1:Nat):Int)=0:=by omega);have i:aP (.el 1) [aI (a::b),E 0]=Z (.list 0 J [[.str a]]):=rfl;cases c:sh a with|none=>{rw[c]at d;simp only[go_sem,afJ,cm,f,e,i,d,eN,aj,c]}|some n=>rw[c]at d;simp only[go_sem,afJ,cm,f,e,i,d,eN,aj,c]
theorem asC{op:Int}{a b:z}(n:a.size<=mg)(m:b.size<=mg):G 460 [E op,.str a,.str b]=Z (0,[.bool (nj op a b)]):=by have d:=ajp n;have c:=ajp m;unfold nj;refine bW HB rfl ?_;by_cases g:op=8;{simp only[go_sem,HB,g]};by_cases f:op=9;{simp only[go_sem,HB,f]};cases i:sh a with|none=>{rw[i]at d;cases e:sh b with|none=>{rw[e]at c;simp only[go_sem,HB,g,f,d,c,eN]}|some y=>rw[e]at c;simp only[go_sem,HB,g,f,d,c,eN]}|some x=>rw[i]at d;cases e:sh b with|none=>{rw[e]at c;simp only[go_sem,HB,g,f,d,c,eN]}|some y=>rw[e]at c;unfold Zj;by_cases h:op=10;{simp only[go_sem,HB,d,c,eN,h]};by_cases k:op=11;{simp only[go_sem,HB,d,c,eN,k]};by_cases l:op=12;{simp only[go_sem,HB,d,c,eN,l]};by_cases j:op=13;{simp only[go_sem,HB,d,c,eN,j]};simp only[go_sem,HB,g,f,d,c,eN,h,k,l,j]
def afg{at_:M Int}(e:at_.length<=mg)(k:Int):G 468 [bE at_,E k]=Z (0,[bE (at_++[k])]):=by have d:aP (.app 1 8) [bE [],bE at_]=Z (bE at_):=YM (a:=[]) (by simp only[mg,aJ]at *;omega);have c:=YM (a:=at_) (b:=[k]) (by simp only[mg,aL]at *;omega);refine bW apG rfl ?_;simp only[go_sem,apG,u9,aeF,d,c]
def WK(w:iU):Prop:=(-1000000000<=w.num/\w.num<=1000000000)/\w.list.length<=mg/\∀a∈fZ w,a.size<=mg
def r00:-1000000000<=(0:Int)/\(0:Int)<=1000000000:=by decide
def Vz{n:Int}(h:-1000000000<=n/\n<=1000000000):(oB n).size<=20:=by have hd:=DW 10 n.natAbs (by simp only[eg,Nat.reducePow];omega);have hd2:=DW 10 n.toNat (by simp only[eg,Nat.reducePow];omega);unfold oB;rw[pf];unfold Lib.itoa;split;{simp only[aN];omega};omega
def Qm{n:Int}(h:-1000000000<=n/\n<=1000000000):WK (GV n):=by refine⟨h,bI _,λa b=>?_⟩;have e:fZ (GV n)=[oB n]:=rfl;rw[e,ct]at b;rw[b];have:=Vz h;simp only[mg];omega
def Kc(b:Bool):WK (PU b):=by refine⟨r00,bI _,λa c=>?_⟩;have e:fZ (PU b)=[if b=I then kD else iA]:=rfl;rw[e,ct]at c;rw[c];cases b<;>decide
def afY:WK Yn:=by refine⟨r00,bI _,λa b=>?_⟩;have e:fZ Yn=[⟨#[]⟩]:=rfl;rw[e,ct]at b;rw[b];decide
def agU(op:Int)(a b:iU):WK (RQ op a b):=by unfold RQ;split;{rename_i x y _ _;generalize (if op=15 then x - y else x+y)=c;split;{rename_i h;exact Qm ((ej _ _ _).1 h)};exact afY};exact afY
theorem OR:∀(at_:M Int) (l:M aD) (x:aD),iY l at_=Z x->dV (bh x)<bO bh l
 |[],l,x,h=>by cases h
 |i::is,l,x,h=>by rw[iY]at h;cases a:lU l i with|none=>{rw[a]at h;cases h}|some y=>rw[a]at h;dsimp only at h;have b:dV (bh y)<bO bh l:=by{unfold lU at a;split at a;{exact cq bh (bj a)};cases a};by_cases c:is.isEmpty=I;{rw[if_pos c]at h;cases h;exact b};rw[if_neg c]at h;have d:=OR is y.ai x h;rw[eF]at b;omega
def agW{t:M aD}{at_:M Int}{p:fE}(g:bO bh t+1<=mg):WK ⟨4,0,⟨#[]⟩,J,qR t at_ p⟩:=by have h:=A5 t at_ p;refine⟨r00,by dsimp only;omega,λa b=>?_⟩;have e:fZ ⟨4,0,⟨#[]⟩,J,qR t at_ p⟩=qR t at_ p:=rfl;rw[e]at b;obtain⟨pl,_,f⟩:=List.mem_filterMap.1 b;obtain⟨x,d,rfl⟩:=aC.1 f;have c:=OR pl t x d;rw[eF]at c;omega
def agV{s:z}(h:s.size<=mg):WK ⟨2,0,s,J,[]⟩:=by refine⟨r00,bI _,λa b=>?_⟩;have e:fZ ⟨2,0,s,J,[]⟩=[s]:=rfl;rw[e,ct]at b;rw[b];exact h
def Kb{w:iU}(h:WK w):(fZ w).length<=mg:=by unfold fZ;split;{exact (by decide:1<=mg)};split;{exact (by decide:1<=mg)};split;{exact (by decide:1<=mg)};split;{exact h.2.1};exact bI _
abbrev wT(b:Bool):M D:=[.int .i64 3,.int .i64 0,.str ⟨#[]⟩,.bool b,.list 1 I []]
def Hc(b:Bool):G 457 [.bool b]=Z (0,wT b):=asB b
def wJ{l:M z}{i:Nat}{y:z}(h:nth l i=Z y):aP (.el 1) [aI l,E (i:Int)]=Z (.list 0 J [[.str y]]):=by rw[j_,aV,h];rfl
section
variable {X Y:M z} {op:Int} {a1 a2 a3 a4 a5 a6 a7 a8 a9 aa:D}
theorem WG{i:Nat}{x:z}(m:nth X i=Z x)(o:Y.length<=mg)(p:x.size<=mg)(a:∀y∈Y,y.size<=mg) :
  bG (lB G yH) (0,[aI X,aI Y,E (i:Int),E 0,E op,a1,a2,a3,a4,a5,a6,a7,a8,a9,aa])=Z (if (Y.any (nj op x))=I then (0,wT I) else (1,[aI X,aI Y,E (i:Int),E Y.length,.bool J,E op,a1,a2,a3,a4,a5,a6,a7,a8,a9,aa])):=by have h:=q9 (b:=lB G yH) Y (λk=>(0,[aI X,aI Y,E (i:Int),E (k:Int),E op,a1,a2,a3,a4,a5,a6,a7,a8,a9,aa])) (nj op x) (1,[aI X,aI Y,E (i:Int),E Y.length,.bool J,E op,a1,a2,a3,a4,a5,a6,a7,a8,a9,aa]) (0,wT I) (by intro k y c;have d:=aY c;have n:=wj d o;have l:=wJ m;have j:=wJ c;have f:=asC (op:=op) p (a y (bj c));have g:=Hc I;cases e:nj op x y;{rw[e]at f;simp only[go_sem,bc,yH,aj,d,l,j,f,n]};rw[e]at f;simp only[go_sem,bc,yH,aj,d,l,j,f,g]) (by simp only[go_sem,bc,yH,aj,aE]);rw[n0]at h;exact h
theorem WH(j:X.length<=mg)(i:Y.length<=mg)(l:∀x∈X,x.size<=mg)(a:∀y∈Y,y.size<=mg) :
  bG (lB G Cb) (0,[aI X,aI Y,E 0,E op,a1,a2,a3,a4,a5,a6,a7,a8,a9,aa])=Z (if (X.any λx=>Y.any (nj op x))=I then (0,wT I) else (1,[aI X,aI Y,E X.length,.bool J,E op,a1,a2,a3,a4,a5,a6,a7,a8,a9,aa])):=by have h:=q9 (b:=lB G Cb) X (λk=>(0,[aI X,aI Y,E (k:Int),E op,a1,a2,a3,a4,a5,a6,a7,a8,a9,aa])) (λx=>Y.any (nj op x)) (1,[aI X,aI Y,E X.length,.bool J,E op,a1,a2,a3,a4,a5,a6,a7,a8,a9,aa]) (0,wT I) (by intro k x c;have d:=aY c;have g:=wj d j;have f:=WG (op:=op) (a1:=a1) (a2:=a2) (a3:=a3) (a4:=a4) (a5:=a5) (a6:=a6) (a7:=a7) (a8:=a8) (a9:=a9) (aa:=aa) c i (l x (bj c)) a;cases e:Y.any (nj op x);{rw[e,if_neg (by simp)]at f;simp only[go_sem,bc,Cb,aj,d,f,g]};rw[e,if_pos rfl]at f;simp only[go_sem,bc,Cb,aj,d,f]) (by simp only[go_sem,bc,Cb,aj,aE]);rw[n0]at h;exact h
end
theorem xI(b:Bool):aP .pl [.bool b]=Z (.bool J):=(rfl)
theorem agy(l:M z):aP .xG [aI l]=Z (.bool J):=(rfl)
theorem xZ(n:Int)(b:Bool):aP .pl [E n,.bool b]=Z (.bool J):=(rfl)
def MG(t:M aD)(at_:M Int)(a:cr):vlL t at_ [a]=[Em t at_ a]:=by rw[vlL,vlL];rfl
def UR(t:M aD)(at_:M Int)(a b:cr):vlL t at_ [a,b]=[Em t at_ a,Em t at_ b]:=by rw[vlL,MG];rfl
def MI{e:cr}(h:oq e=I):(1<=e.op/\e.op<=15)/\e.ai.length=nQ e.op/\pT e=I/\∀x∈e.ai,oq x=I:=by unfold oq at h;rw[A8]at h;unfold gI at h;simp only[aw,decide_eq_true_eq]at h;exact⟨(ej _ _ _).1 h.1.1,h.1.2.1,h.1.2.2.2.2.2,λx a=>bF.1 h.2 x a⟩
def afZ{t:M aD}{at_:M Int}(l:bO bh t+1<=1000000000)(d:bO bh t+1<=mg){e:cr}(h:oq e=I):WK (Em t at_ e):=by obtain⟨o,n,b,m⟩:=MI h;unfold Em vlO;unfold pT at b;by_cases j:e.op=1;{rw[if_pos j]at b ⊢;have:=(ej _ _ _).1 b;exact Qm (by omega)};rw[if_neg j]at b ⊢;by_cases i:e.op=2;{rw[if_pos i]at b ⊢;refine agV ?_;unfold iC at b;simp only[aw,decide_eq_true_eq]at b;simp only[mg];omega};rw[if_neg i]at ⊢;by_cases g:e.op=3;{rw[if_pos g];exact agW d};rw[if_neg g];by_cases f:e.op=4;{rw[if_pos f];have a1:=xh t at_ e.path;have a2:=ny t (uC t at_ e.path);exact Qm (by omega)};rw[if_neg f];have c:WK abB:=⟨r00,bI _,λa k=>by have e:fZ abB=[]:=rfl;rw[e]at k;cases k⟩;split;{exact c};split;{exact Kc _};split;{exact c};split;{exact Kc _};split;{exact Kc _};split;{exact agU _ _ _};exact Kc _
theorem aju(g:Nat){t:M aD}{at_:M Int}(ht:bO bh t+1<=mg):∀e:cr,aF e<g->oq e=I->at_.length+dV (bU e)<=mg->G 461 ([az t,bE at_]++bU e)=Z (0,cm (Em t at_ e)):=by induction g with|zero=>{intro e h;omega}|succ g ih=>intro e hz du hs;obtain⟨h1,h2,h3,h4⟩:=MI du;have lS:=jF e;(have hb:bO bh t+1<=1000000000:=by simp only[mg]at ht;omega);unfold Em vlO;refine bW qO (by rw[aR];rfl) ?_;by_cases V:e.op=1;{simp only[go_sem,qO,aR,V,cm,GV];rfl};by_cases U:e.op=2;{simp only[go_sem,qO,aR,U,cm];rfl};by_cases T:e.op=3;{have f:=aoZ (l:=t) (at_:=at_) (p:=e.path) (by omega) (by omega);simp only[bT,av,au]at f;simp only[go_sem,qO,aR,T,cm,f]};by_cases S:e.op=4;{have f:=aoY (l:=t) (at_:=at_) (p:=e.path) (by omega) (by omega);simp only[bT,av,au]at f;simp only[go_sem,qO,aR,S,cm,f,GV,aj];rfl};have uQ:∀a∈e.ai,G 461 ([az t,bE at_]++bU a)=Z (0,cm (Em t at_ a))/\WK (Em t at_ a):=λa i=> ⟨ih a (by have:=cr.t_ i;omega) (h4 a i) (by have:=pZ i;omega),afZ hb ht (h4 a i)⟩;by_cases P:e.op=5;{(have Y:e.ai.length=1:=by rw[h2,P];rfl);obtain⟨a,i⟩:=dd.1 Y;rw[i]at uQ;obtain⟨n,H⟩:=uQ a (by simp);rw[i,MG];generalize Em t at_ a=w at *;have m:=aff w;have B:=Hc (!fH w);simp only[aR a,cm,av,au]at n m;have r:aP (.el 7) [cB [a],E 0]=Z (.list 0 J [bU a]):=rfl;have s:=jV a;have D:=xI (fH w);simp only[go_sem,qO,aR,i,P,r,n,m,B,D];rfl};(have Y:e.ai.length=2:=by rw[h2];unfold nQ;rw[if_neg (by omega),if_neg P]);obtain⟨a,b,i⟩:∃a b,e.ai=[a,b]:=by{generalize e.ai=l at Y;rcases l with _|⟨a,_|⟨b,_|⟨c,l⟩⟩⟩<;>simp at Y;exact⟨a,b,rfl⟩};rw[i]at uQ;obtain⟨n,H⟩:=uQ a (by simp);obtain⟨m,N⟩:=uQ b (by simp);rw[i,UR];generalize Em t at_ a=v at *;generalize Em t at_ b=w at *;have B:=aff v;have f4:=aff w;simp only[aR a,cm,av,au]at n;simp only[aR b,cm,av,au]at m;simp only[cm]at B f4;have r:aP (.el 7) [cB [a,b],E 0]=Z (.list 0 J [bU a]):=rfl;have s:aP (.el 7) [cB [a,b],E 1]=Z (.list 0 J [bU b]):=rfl;have D:=xI (fH v);have e4:=xI (fH w);by_cases Q:e.op=7;{have k:=Hc (fH w);have j:=Hc J;cases A:fH v;{rw[A]at B D;simp only[go_sem,qO,aR,i,Q,r,s,n,m,B,j,D];rw[A];rfl};rw[A]at B D;simp only[go_sem,qO,aR,i,Q,r,s,n,m,B,f4,k,D,e4];rw[A];rfl};by_cases R:e.op=6;{have k:=Hc (fH w);have j:=Hc I;cases A:fH v;{rw[A]at B D;simp only[go_sem,qO,aR,i,R,r,s,n,m,B,f4,k,D,e4];rw[A];rfl};rw[A]at B D;simp only[go_sem,qO,aR,i,R,r,s,n,m,B,j,D];rw[A];rfl};by_cases L:e.op=14\/e.op=15;{have k:=ao0 H.1 H.2.1 H.2.2;have j:=ao0 N.1 N.2.1 N.2.2;simp only[cm]at k j;have hA:∀x y:Int,-1000000000<=x/\x<=1000000000->-1000000000<=y/\y<=1000000000->IntKind.i64.wrap (x+y)=x+y/\IntKind.i64.wrap (x - y)=x - y:=λx y C K=>⟨wrap_i64 (by omega),wrap_i64 (by omega)⟩;have hF:∀d x,rQ d=Z x->-1000000000<=x/\x<=1000000000:=by{intro d x C;unfold rQ at C;split at C;{cases C};exact zd C};rw[if_neg V,if_neg U,if_neg T,if_neg S];dsimp only;rw[if_neg P,if_neg Q,if_neg R,if_pos L];unfold RQ;cases C:rQ v with|none=>{rw[C]at k;cases K:rQ w with|none=>{rw[K]at j;obtain⟨a1,a2⟩:=hA 0 0 r00 r00;rcases L with o|o;{simp only[go_sem,qO,aR,i,o,r,s,n,m,k,j,eN,xZ];rfl};simp only[go_sem,qO,aR,i,o,r,s,n,m,k,j,eN,xZ];rfl}|some y=>rw[K]at j;obtain⟨a1,a2⟩:=hA 0 y r00 (hF w y K);rcases L with o|o;{simp only[go_sem,qO,aR,i,o,r,s,n,m,k,j,eN,xZ,a1];rfl};simp only[go_sem,qO,aR,i,o,r,s,n,m,k,j,eN,xZ,a1,a2];rfl}|some x=>rw[C]at k;cases K:rQ w with|none=>{rw[K]at j;obtain⟨a1,a2⟩:=hA x 0 (hF v x C) r00;rcases L with o|o;{simp only[go_sem,qO,aR,i,o,r,s,n,m,k,j,eN,xZ,a1];rfl};simp only[go_sem,qO,aR,i,o,r,s,n,m,k,j,eN,xZ,a1,a2];rfl}|some y=>rw[K]at j;obtain⟨a1,a2⟩:=hA x y (hF v x C) (hF w y K);rcases L with o|o;{(have F:¬(14:Int)=15:=by decide);have q:=zy (x+y) (-1000000000) 1000000000;rw[o];dsimp only;rw[if_neg F];cases X:eA (-1000000000) 1000000000 (x+y);{rw[X]at q;rw[if_neg (by simp)];simp only[go_sem,qO,aR,i,o,r,s,n,m,k,j,eN,xZ,a1,q];rfl};rw[X]at q;rw[if_pos rfl];simp only[go_sem,qO,aR,i,o,r,s,n,m,k,j,eN,xZ,a1,q];rfl};have q:=zy (x - y) (-1000000000) 1000000000;rw[o];dsimp only;rw[if_pos rfl];cases X:eA (-1000000000) 1000000000 (x - y);{rw[X]at q;rw[if_neg (by simp)];simp only[go_sem,qO,aR,i,o,r,s,n,m,k,j,eN,xZ,a1,a2,q];rfl};rw[X]at q;rw[if_pos rfl];simp only[go_sem,qO,aR,i,o,r,s,n,m,k,j,eN,xZ,a1,a2,q];rfl};have W:¬e.op=14:=λh=>L (.inl h);have F:¬e.op=15:=λh=>L (.inr h);have k:=ajt H.1 H.2.1;have j:=ajt N.1 N.2.1;have f7:=Hc J;simp only[cm]at k j;have g1:=agy (fZ v);have g2:=agy (fZ w);have hX:(fZ v).length<=mg:=Kb H;have hY:(fZ w).length<=mg:=Kb N;have lp:=WH (op:=e.op) (a1:=E e.num) (a2:=.str e.text) (a3:=.bool e.path.root) (a4:=E e.path.kj) (a5:=bM e.path.steps) (a6:=cB [a,b]) (a7:=E 0) (a8:=E 0) (a9:=.str ⟨#[]⟩) (aa:=.bool J) hX hY H.2.2 N.2.2;rw[if_neg V,if_neg U,if_neg T,if_neg S];dsimp only;rw[if_neg P,if_neg Q,if_neg R,if_neg L];cases A:(fZ v).any λx=>(fZ w).any (nj e.op x);{rw[A,if_neg (by simp)]at lp;simp only[go_sem,qO,aR,i,V,U,T,S,P,Q,R,W,F,r,s,n,m,k,j,f7,g1,g2,lp];rfl};rw[A,if_pos rfl]at lp;simp only[go_sem,qO,aR,i,V,U,T,S,P,Q,R,W,F,r,s,n,m,k,j,g1,g2,lp];rfl
def asE{t:M aD}{at_:M Int}(a:bO bh t+1<=mg){e:cr}(c:oq e=I)(b:at_.length+dV (bU e)<=mg):G 461 ([az t,bE at_]++bU e)=Z (0,cm (Em t at_ e)):=aju _ a e (aT _) c b
def asF{t:M aD}{at_:M Int}(d:bO bh t+1<=mg){e:cr}(f:at_.length+dV (bU e)<=mg):G 462 ([az t,bE at_]++bU e)=Z (0,cm (vlX t at_ e)):=by have b:=aoq (e:=e) (by omega);unfold vlX;refine bW aj2 (by rw[aR];rfl) ?_;rw[aR]at b;cases a:l6 e;{rw[a]at b;simp only[go_sem,aj2,aR,b];rfl};have g:oq e=I:=by{unfold l6 at a;simp only[aw]at a;exact a.2};have c:=asE d g f;rw[a]at b;rw[if_pos rfl];generalize Em t at_ e=w at *;simp only[aR,cm,av,au]at c;simp only[go_sem,aj2,aR,b,c,cm]
def asG{t:M aD}{at_:M Int}(c:bO bh t+1<=mg){e:cr}(d:at_.length+dV (bU e)<=mg):G 463 ([az t,bE at_]++bU e)=Z (0,[.bool (pX t at_ e)]):=by have b:=asF c d;have a:=aff (vlX t at_ e);have f:=xI (fH (vlX t at_ e));unfold pX;generalize vlX t at_ e=w at *;simp only[aR,cm,av,au]at b a;refine bW apD (by rw[aR];rfl) ?_;simp only[go_sem,apD,aR,b,a,f]
def named(l:M aD)(a:z):M aD:=l.filter λx=>Z' (x.aq=a)
def uN(s:M ao)(a:z):Bool:=match ew s a with
 |none=>J
 |some k=>match nth s k with
  |none=>J
  |some n=>j7 n.ax && n.when.isEmpty
def rO(r:M ao->M aD->M aD)(d:ao)(x:aD):aD:=⟨x.aq,x.bo,if d.ai.isEmpty=I then [] else r d.ai x.ai⟩
def Dr(r:M ao->M aD->M aD)(fr:Bool)(d:ao):M aD:=
 if d.ax=3/\d.given=I then [⟨d.aq,d.default,[]⟩] else if d.ax=1/\d.df=J/\fr=I then (if (r d.ai []).isEmpty=I then [] else [⟨d.aq,⟨#[]⟩,r d.ai []⟩]) else []
def pV(r:M ao->M aD->M aD)(s:M ao)(l:M aD)(d:ao):M aD:=
 if (named l d.aq).isEmpty=I then Dr r (uN s d.aq) d else (named l d.aq).map (rO r d)
def kl:Nat->M ao->M aD->M aD
 |0,_,_=>[]
 |n+1,s,l=>(dk s).flatMap (pV (kl n) s l)
noncomputable def oR(s:M ao)(l:M aD):M aD:=kl (aF s+1) s l
structure cJ where
 code:Int
 names:List ByteArray
 place:List Int
def QG(x:cJ):M D:=[.int .i64 x.code,aI x.names,bE x.place]
def fj(t:M aD)(es:M cr)(at_:M Int):Bool:=es.all (pX t at_)
def Rr(x:aD)(l:M aD)(a:z):named (x::l) a=if x.aq=a then x::named l a else named l a:=by unfold named;rw[oZ];by_cases h:x.aq=a<;>simp[h]
theorem Cq{f:M aD->Nat}(n:f []=0)(m:∀x l,f (x::l)=f [x]+f l):∀(l:M aD) (a:M ao),(a.map ao.aq).Nodup->(a.map λd=>f (named l d.aq)).sum<=f l
 |[],a,h=>by rw[n];have:∀a:M ao,(a.map λd=>f (named [] d.aq)).sum=0:=by{intro a;induction a with|nil=>{rfl}|cons d a c=>rw[bz,gC,c];show f []+0=0;rw[n]};rw[this];exact aH 0
 |x::l,a,h=>by have c:=Cq n m l a h;rw[m];have e:∀a:M ao,(a.map ao.aq).Nodup->(a.map λd=>f (named (x::l) d.aq)).sum<=(a.map λd=>f (named l d.aq)).sum+if (a.any λd=>Z' (x.aq=d.aq))=I then f [x] else 0:=by{intro a;induction a with|nil=>{intro _;simp}|cons d a c=>intro k;rw[bz,cW]at k;have r:=c k.2;rw[bz,gC,bz,gC,Rr,g_];by_cases b:x.aq=d.aq;{rw[if_pos b,m];have j:¬(a.any λd=>Z' (x.aq=d.aq))=I:=by{intro p;obtain⟨y,o,i⟩:=fC.1 p;(have g:x.aq=y.aq:=by simpa using i);exact k.1 (by rw[<- b,g];exact dH o)};rw[if_neg j]at r;rw[if_pos (by simp[b])];omega};rw[if_neg b];(have:Z' (x.aq=d.aq)=J:=by simp[b]);rw[this,fU];omega};have q:=e a h;split at q<;>omega
def IJ:Nat->M ao->Prop
 |0,_=>True
 |n+1,s=>((dk s).map ao.aq).Nodup/\∀d∈dk s,IJ n d.ai
theorem Ps{a:Type}{g:a->M aD}:∀l:M a,bO bh (l.flatMap g)=(l.map λd=>bO bh (g d)).sum
 |[]=>rfl
 |x::l=>by rw[fe,kM,Ps l,bz,gC]
def la(x:aD)(l:M aD):bu (x::l)=1+bu x.ai+bu l:=by rw[bu]
theorem Zm:∀{l m:M aD},l.Sublist m->bu l<=bu m:=by intro l m h;induction h with|slnil=>{exact aH _}|cons a _ b=>{rw[la];omega}|cons_cons a _ b=>rw[la,la];omega
def acP(r:M ao->M aD->M aD)(d:ao)(x:aD){a:Nat}(h:bO bh (r d.ai x.ai)<=bO bh x.ai+(bu x.ai+1) * a):dV (bh (rO r d x))<=dV (bh x)+(bu x.ai+1) * a:=by rw[eF,eF];unfold rO;dsimp only;split;{have:bO bh []=0:=rfl;omega};omega
theorem N0(r:M ao->M aD->M aD)(d:ao){a:Nat}:∀l:M aD,(∀x∈l,bO bh (r d.ai x.ai)<=bO bh x.ai+(bu x.ai+1) * a)->bO bh (l.map (rO r d))<=bO bh l+bu l * a
 |[],h=>bI _
 |x::l,h=>by have f:=N0 r d l λy b=>h y (by simp[b]);have c:=acP r d x (h x (by simp));rw[bz,fW,fW,la];(have e:(1+bu x.ai+bu l) * a=(bu x.ai+1) * a+bu l * a:=by rw[<- mj];congr 1;omega);omega
theorem RR{a:Type}{f g:a->Nat}:∀l:M a,(∀x∈l,f x<=g x)->(l.map f).sum<=(l.map g).sum
 |[],h=>aH _
 |x::l,h=>by have d:=RR l λy b=>h y (by simp[b]);have c:=h x (by simp);simp only[bz,gC];omega
theorem sum_add{a:Type}{f g:a->Nat}:∀l:M a,(l.map λx=>f x+g x).sum=(l.map f).sum+(l.map g).sum
 |[]=>rfl
 |x::l=>by simp only[bz,gC,sum_add l];omega
theorem rz{a:Type}{g:a->Nat}(k:Nat):∀l:M a,(l.map λx=>k * g x).sum=k * (l.map g).sum
 |[]=>by simp
 |x::l=>by simp only[bz,gC,rz k l,Nat.mul_add]
theorem UO{a:Type}(f:a->M D):∀l:M a,bO f l=(l.map λx=>dV (f x)+1).sum
 |[]=>rfl
 |x::l=>by rw[fW,bz,gC,UO f l];omega
theorem D5:∀(n:Nat) (s:M ao) (l:M aD),IJ n s->bO bh (kl n s l)<=bO bh l+(bu l+1) * bO aA s
 |0,s,l,h=>bI _
 |n+1,s,l,h=>by have hd:∀d∈dk s,bO bh (pV (kl n) s l d)<=bO bh (named l d.aq)+(bu l+1) * (dV (aA d)+1):=by{intro d hd;have o:=ck d;have a:=λc=>D5 n d.ai c (h.2 d hd);unfold pV;split;{have m:dV (aA d)+1<=(bu l+1) * (dV (aA d)+1):=xp _ (by omega);unfold Dr;have j:=a [];have z0:bO bh []=0:=rfl;(have k:bu []=0:=by rw[bu]);rw[z0,k]at j;split;{rw[fW,eF];dsimp only;omega};split;{split;{omega};rw[fW,eF];dsimp only;have p:nH ⟨#[]⟩=0:=rfl;omega};omega};have b:=N0 (kl n) d (named l d.aq) λx _=>a x.ai;have i:bu (named l d.aq)<=bu l:=Zm A_;have e:bu (named l d.aq) * bO aA d.ai<=(bu l+1) * (dV (aA d)+1):=gD (by omega) (by omega);omega};rw[kl,Ps];have b:=RR (f:=λd=>bO bh (pV (kl n) s l d)) (g:=λd=>bO bh (named l d.aq)+(bu l+1) * (dV (aA d)+1)) _ hd;rw[sum_add (f:=λd:ao=>bO bh (named l d.aq)) (g:=λd=>(bu l+1) * (dV (aA d)+1)),rz (g:=λd:ao=>dV (aA d)+1),<- UO]at b;have i:=Cq (f:=bO bh) rfl (λx l=>by rw[fW,fW];have:bO bh []=0:=rfl;omega) l (dk s) h.1;have e:=Nat.mul_le_mul_left (bu l+1) (mq (es:=s));omega
def po{l:M ao}{i:Nat}{y:ao}(h:nth l i=Z y):aP (.el 19) [aB l,E (i:Int)]=Z (.list 0 J [aA y]):=by rw[j_,aV,h];rfl
theorem asw{s:M ao}{nm:z}(g:bO aA s<=mg):G 447 [aB s,.str nm]=Z (0,[.bool (uN s nm)]):=by have f:=q82 (l:=s) (nm:=nm) (by simp only[bO]at g;omega);unfold uN;refine bW afI rfl ?_;cases b:ew s nm with|none=>{rw[b]at f;simp only[go_sem,afI,f,lx]}|some k=>obtain⟨n,d,h⟩:=dw b;rw[b]at f;(have c:(0:Int)<=(k:Int):=by omega);have e:=po d;have a:=q75 n.ax;dsimp only;rw[d];dsimp only;cases hd:j7 n.ax;{rw[hd]at a;simp only[go_sem,afI,f,lx,c,e,ak,a]};rw[hd]at a;simp only[go_sem,afI,f,lx,c,e,ak,a,aj];cases n.when<;>rfl
abbrev bH(l:M cJ):D:=.list 3 J (l.map QG)
def XG{t:M aD}{out:M cJ}{es:M cr}{at_:M Int}(l:bO bh t+1<=mg)(m:at_.length+bO bU es<=mg):G 464 [az t,bH out,cB es,bE at_]=Z (0,[.bool (fj t es at_),az t,bH out]):=by (have c:es.length<=mg:=by simp only[bO]at m;omega);have h:=gJ (b:=lB G Gg) es (λi=>(0,[cB es,bE at_,E (i:Int),az t,bH out])) (pX t at_) (1,[cB es,bE at_,E es.length,.bool J,az t,bH out]) (0,[.bool J,az t,bH out]) (by intro i e d;have g:=aY d;have k:=wj g c;have n:=cq bU (bj d);have f:=asG (at_:=at_) l (e:=e) (by omega);(have j:aP (.el 7) [cB es,E (i:Int)]=Z (.list 0 J [bU e]):=by rw[j_,aV,d];rfl);simp only[aR,av,au]at f;cases a:pX t at_ e;{rw[a]at f;simp only[go_sem,bc,Gg,aj,g,j,aR e,f]};rw[a]at f;simp only[go_sem,bc,Gg,aj,g,j,aR e,f,k]) (by simp only[go_sem,bc,Gg,aj,aE]);rw[n0]at h;unfold fj;refine bW aj3 rfl ?_;cases a:es.all (pX t at_);{rw[a,if_neg (by simp)]at h;simp only[go_sem,aj3,h]};rw[a,if_pos rfl]at h;simp only[go_sem,aj3,h]
def XH{T_:D}{out:M cJ}{c:Int}{ns:M z}{at_:M Int}(h:out.length<=1073741824)(i:ns.length<=mg)(j:at_.length<=mg):G 465 [T_,bH out,E c,aI ns,bE at_]=Z (0,[T_,bH (out++[⟨c,ns,at_⟩])]):=by have g:aP (.app 1 16) [aI [],aI ns]=Z (aI ns):=H9 (a:=[]) (by simp only[mg,aJ]at *;omega);have f:aP (.app 1 8) [aI [],bE at_]=Z (bE at_):=YM (a:=[]) (by simp only[mg,aJ]at *;omega);have e:aP .pl [E c]=Z (.bool J):=rfl;have d:aP (.lu 3 J) [E c,aI ns,bE at_]=Z (.list 3 J [[E c,aI ns,bE at_]]):=gW 3 _ rfl (by decide);have b:aP (.app 3 56) [bH out,.list 3 J [[E c,aI ns,bE at_]]]=Z (bH (out++[⟨c,ns,at_⟩])):=by{rw[dM 3 56 J _ _ (by decide) (by simp only[aj,aL];omega)];simp[bH,QG]};refine bW apE rfl ?_;simp only[go_sem,apE,nz,g,f,e,d,b]
theorem Kt:∀{l:M aD} {x:aD},x∈l->1+bu x.ai<=bu l
 |y::l,x,h=>by rw[bu];rcases aU.1 h with rfl|h;{omega};have:=Kt h;omega
theorem af5{s:M ao}{d:ao}(h:d∈dk s):aF d.ai<aF s:=by have a:∀(m:Nat) (s:M ao),aF s<m->d∈dk s->aF d.ai<aF s:=by{intro m;induction m with|zero=>{intro s h;omega}|succ m b=>intro s c hd;cases s with|nil=>{rw[mJ]at hd;cases hd}|cons e es=>have f:=ao.gx e es;rw[jT]at hd;rcases aX.1 hd with hd|hd;{unfold sL at hd;split at hd;{rw[ct.1 hd];exact f};split at hd;{have:=b e.ai (by omega) hd;omega};cases hd};have:=b es (by simp only[bJ]at c;omega) hd;simp only[bJ];omega};exact a _ s (aT _) h
def mk3(a b:z)(k:D):aP (.lu 3 J) [.str a,.str b,k]=Z (.list 3 J [[.str a,.str b,k]]):=gW 3 _ rfl (by decide)
def U6{t:M aD}(h:t.length<=1073741824)(a b:z)(c:M aD):aP (.app 3 56) [az t,.list 3 J [[.str a,.str b,az c]]]=Z (az (t++[⟨a,b,c⟩])):=by rw[dM 3 56 J _ _ (by decide) (by simp only[aj,aL];omega)];simp[az,aO]
def YO{t:M aD}(h:t.length<=1073741824)(a b:z):aP (.app 3 56) [az t,.list 3 J [[.str a,.str b,.list 3 J []]]]=Z (az (t++[⟨a,b,[]⟩])):=U6 h a b []
theorem Ut(a b:z):aP .pl [.str a,.str b]=Z (.bool J):=(rfl)
theorem agA(a:z):aP .pl [.str a]=Z (.bool J):=(rfl)
theorem alx:Z' ((0:Int)<((0:Nat):Int))=J:=(rfl)
def GL{l:M aD}{k:Nat}{x:aD}(h:nth l k=Z x)(a:z):named (l.take (k+1)) a=named (l.take k) a++if x.aq=a then [x] else []:=by unfold named;rw[cd _ _ _ h,k9];by_cases b:x.aq=a<;>simp[b]
def WA{s ks:M ao}{l N:M aD}{i:Nat}{d:ao}{z:D}{r:M ao->M aD->M aD}(hd:nth ks i=Z d)(F:l.length<=mg)(L:N.length<=mg)
  (C:d.ai≠[]->∀x∈l,x.aq=d.aq->G 448 [aB d.ai,az x.ai]=Z (0,[az (r d.ai x.ai)])) :
  bG (lB G vQ) (0,[aB s,az l,aB ks,E (i:Int),.bool J,E 0,az N,z])=Z (0,[aB s,az l,aB ks,E (i:Int),.bool (!(named l d.aq).isEmpty),E l.length,.bool J,az (N++(named l d.aq).map (rO r d)),z]):=by have h:=cI (b:=lB G vQ) l (λk (t:Bool×M aD)=>(0,[aB s,az l,aB ks,E (i:Int),.bool t.1,E (k:Int),az t.2,z])) (λk=>(!(named (l.take k) d.aq).isEmpty,N++(named (l.take k) d.aq).map (rO r d))) (0,[aB s,az l,aB ks,E (i:Int),.bool (!(named l d.aq).isEmpty),E l.length,.bool J,az (N++(named l d.aq).map (rO r d)),z]) (by intro k x n;have p:=aY n;have q:=wj p F;have A:=il n;have y:=po hd;have P:(named (l.take k) d.aq).length<=k:=by{have:=eR (λx:aD=>Z' (x.aq=d.aq)) (l.take k);rw[bk]at this;unfold named;omega};have c:=GL n d.aq;dsimp only;by_cases a:x.aq=d.aq;{rw[if_pos a]at c;(have B:(named (l.take (k+1)) d.aq).isEmpty=J:=by rw[c];simp);rw[B,c,cE,<- aZ,List.map_singleton];(have e:(N++(named (l.take k) d.aq).map (rO r d)).length<=1073741824:=by simp only[ay,aj,mg]at *;omega);generalize N++(named (l.take k) d.aq).map (rO r d)=t at *;unfold rO;by_cases o:d.ai=[];{have m:=YO e x.aq x.bo;have j:=mk3 x.aq x.bo (.list 3 J []);have g:=Ut x.aq x.bo;rw[a]at m j g;rw[a,o,ei,if_pos rfl];simp only[go_sem,bc,vQ,aj,p,A,y,aO x,ak d,a,o,q,alx,m,j,g]};have f:=C o x (bj n) a;(have w:d.ai.isEmpty=J:=by cases K:d.ai<;>simp_all);(have v:(0:Int)<(d.ai.length:Int):=by have:=kJ.2 o;omega);have m:=U6 e x.aq x.bo (r d.ai x.ai);have j:=mk3 x.aq x.bo (az (r d.ai x.ai));have g:=Ut x.aq x.bo;rw[a]at m j g;rw[a,w];simp only[go_sem,bc,vQ,aj,p,A,y,aO x,ak d,a,v,f,q,m,j,g]};rw[if_neg a,aG]at c;rw[c];simp only[go_sem,bc,vQ,aj,p,A,y,aO x,ak d,a,q]) (by simp only[go_sem,bc,vQ,aj,aE,bl]) l.length 0 (by omega);rw[br,n0]at h;have H:named [] d.aq=[]:=rfl;rw[H,cO,aG]at h;exact h
def acX{l:M ao}(g:ao->M aD)(i:Nat):bO bh ((l.take i).flatMap g)<=bO bh (l.flatMap g):=by (have h:l.flatMap g=(l.take i).flatMap g++(l.drop i).flatMap g:=by rw[<- qB,cp]);rw[h,kM];omega
theorem ajs(a:Nat):∀(s:M ao) (l:M aD),aF s<a->IJ a s->bO aA s<=mg->bO bh l+(bu l+1) * bO aA s<=mg->G 448 [aB s,az l]=Z (0,[az (kl a s l)]):=by induction a with|zero=>{intro s l h;omega}|succ a X=>intro s l hz S B hl;have H:=q81 B;have K:=D5 (a+1) s l S;rw[kl]at K ⊢;have Q7:=mq (es:=s);(have U:(dk s).length<=mg:=by simp only[bO]at Q7 B;omega);(have V:l.length<=mg:=by simp only[bO]at hl;omega);have T:∀d∈dk s,∀j,bO bh j<=bO bh l->bu j<=bu l->G 448 [aB d.ai,az j]=Z (0,[az (kl a d.ai j)]):=by{intro d hd j g h2;have A:=cq aA hd;have Jo:=ck d;have m:(bu j+1) * bO aA d.ai<=(bu l+1) * bO aA s:=gD (by omega) (by omega);exact X d.ai j (by have:=af5 hd;omega) (S.2 d hd) (by omega) (by omega)};have OP:aP (.lu 3 J) []=Z (az []):=rfl;have h:=cI (b:=lB G qd) (dk s) (λi (t:M aD)=>(0,[aB s,az l,aB (dk s),E (i:Int),az t,aB (dk s)])) (λi=>((dk s).take i).flatMap (pV (kl a) s l)) (0,[aB s,az l,aB (dk s),E (dk s).length,.bool J,az ((dk s).flatMap (pV (kl a) s l)),aB (dk s)]) (by intro i d n;have e:=aY n;have f:=wj e U;have hd:=bj n;have k:=po n;have Y:=acX (l:=dk s) (pV (kl a) s l) i;rw[lR _ n];have R:(((dk s).take i).flatMap (pV (kl a) s l)).length<=mg:=by{(have:(((dk s).take i).flatMap (pV (kl a) s l)).length<=bO bh (((dk s).take i).flatMap (pV (kl a) s l)):=by simp only[bO];omega);omega};generalize ((dk s).take i).flatMap (pV (kl a) s l)=N at *;have c:=WA (s:=s) (ks:=dk s) (l:=l) (N:=N) (i:=i) (d:=d) (z:=aB (dk s)) (r:=kl a) n V R (λ_ x A _=>T d hd x.ai (by have:=cq bh A;have:=eF x;omega) (by have:=Kt A;omega));have v:G 448 [aB d.ai,.list 3 J []]=Z (0,[az (kl a d.ai [])]):=T d hd [] (bI _) (by rw[bu];exact bI _);have p:=asw (s:=s) (nm:=d.aq) B;(have o:N.length<=1073741824:=by simp only[mg]at R;omega);unfold pV;cases w:(named l d.aq).isEmpty;{rw[w]at c;rw[if_neg (by simp)];simp only[go_sem,bc,qd,aj,e,c,f]};have Ou:named l d.aq=[]:=dR.1 w;rw[w,Ou,cO,aG]at c;rw[if_pos rfl];unfold Dr;by_cases m:d.ax=3;{(have Yj:¬d.ax=1:=by omega);(have W:¬(3:Int)=1:=by decide);cases P:d.given;{rw[if_neg (by simp),if_neg (λh=>Yj h.1),aG];simp only[go_sem,bc,qd,aj,e,c,k,ak d,m,P,f]};rw[if_pos ⟨m,rfl⟩];have F:=YO o d.aq d.default;have D:=mk3 d.aq d.default (.list 3 J []);have C:=Ut d.aq d.default;simp only[go_sem,bc,qd,aj,e,c,k,ak d,m,P,f,F,D,C]};rw[if_neg (λh=>m h.1)];by_cases g:d.ax=1;{cases q:d.df;{cases Q:uN s d.aq;{rw[Q]at p;rw[if_neg (by simp),aG];simp only[go_sem,bc,qd,aj,e,c,k,ak d,g,q,p,f]};rw[Q]at p;rw[if_pos ⟨g,rfl,rfl⟩];cases L:kl a d.ai []with|nil=>{rw[L]at v;rw[ei,if_pos rfl,aG];simp only[go_sem,bc,qd,aj,e,c,k,ak d,g,q,p,v,f,aJ,alx]}|cons y ys=>rw[L]at v;(have K_:(0:Int)<((ys.length+1:Nat):Int):=by omega);have F:=U6 o d.aq ⟨#[]⟩ (y::ys);have D:=mk3 d.aq ⟨#[]⟩ (az (y::ys));have C:=agA d.aq;rw[if_neg (by simp)];simp only[go_sem,bc,qd,aj,e,c,k,ak d,g,q,p,v,f,aN,K_,F,D,C]};rw[if_neg (by simp),aG];simp only[go_sem,bc,qd,aj,e,c,k,ak d,g,q,f]};rw[if_neg (λh=>g h.1),aG];simp only[go_sem,bc,qd,aj,e,c,k,ak d,m,g,f]) (by simp only[go_sem,bc,qd,aj,aE,bl]) (dk s).length 0 (by omega);rw[br,jL,n0]at h;refine bW apy rfl ?_;simp only[go_sem,apy,H,OP,h]
def asx{s:M ao}{l:M aD}(c:IJ (aF s+1) s)(a:bO aA s<=mg)(b:bO bh l+(bu l+1) * bO aA s<=mg):G 448 [aB s,az l]=Z (0,[az (oR s l)]):=ajs _ s l (aT _) c a b
def tN:M ao->Nat
 |[]=>0
 |e::es=>max (1+tN e.ai) (tN es)
termination_by es=>aF es
decreasing_by
 .exact ao.gx e es
 .simp only[bJ];omega
theorem Nz(e:ao):∀(l:M ao),tN (l++[e])=max (tN l) (1+tN e.ai)
 |[]=>by simp[tN]
 |x::l=>by rw[av,tN,Nz e l,tN,Nat.max_assoc]
theorem alw(n:Nat):∀(l:M ao),aF l<n->tN l<=bO aA l:=by induction n with|zero=>{intro l h;omega}|succ n a=>intro l h;cases l with|nil=>{rw[tN];omega}|cons e l=>have c:=a l (by simp only[bJ]at h;omega);have b:=a e.ai (by have:=ao.gx e l;omega);rw[tN,fW];have:=iZ e;omega
def ZG{l:M ao}:tN l<=bO aA l:=alw _ l (aT _)
theorem ai5(n:Nat):∀l:M ao,aF l<n->bO aA l<=mg->G 256 [aB l]=Z (0,[E (tN l)]):=by induction n with|zero=>{intro l h;omega}|succ n k=>intro l s e;(have c:l.length<=mg:=by simp only[bO]at e;omega);refine bW t256 rfl ?_;simp only[go_sem,t256];have f:=cI (b:=lB G Ly) l (λi (m:Nat)=>(0,[E (m:Int),aB l,E l.length,E (i:Int)])) (λi=>tN (l.take i)) (0,[E (tN l),aB l,E l.length,E l.length,.bool J]) (by intro i x a;have j:=aY a;have p:=wj j c;have o:=(gX e (bj a)).1;have g:=aS (iZ x) o;have r:=k x.ai (by have:=bB (bj a);have:=ao.fv x;omega) g;have t:=ZG (l:=x.ai);(have q:IntKind.i64.wrap (1+(tN x.ai:Int))=((1+tN x.ai:Nat):Int):=by rw[wrap_i64 (by simp only[mg]at g;omega)];omega);rw[cd _ _ _ a,Nz];simp only[go_sem,bc,Ly,j,aV,a,fo];simp only[go_sem,ak x,r,q,mx,p]) (by rw[bl];simp only[go_sem,bc,Ly,aE]) l.length 0 (by omega);(have d:((tN []:Nat):Int)=0:=by simp[tN]);rw[n0,br,d]at f;rw[f];simp only[go_sem]
def ar0{l:M ao}(a:bO aA l<=mg):G 256 [aB l]=Z (0,[E (tN l)]):=ai5 _ l (aT _) a
def qM:ao:=⟨0,⟨#[]⟩,⟨0,[],[],⟨#[]⟩,⟨#[]⟩⟩,[],[],⟨#[]⟩,J,J,J,J,0,0,[],[],[]⟩
def kV(l:M ao)(a:z):u Nat:=uZ (λe=>Z' (e.aq=a) && Z' (e.ax=3)) l 0
theorem aje{l:M ao}{nm:z}(hlen:l.length<=mg):G 314 [aB l,.str nm]=Z (match kV l nm with
  |some j=>match nth l j with
   |some e=>(0,aA e++[.bool I])
   |none=>(1,aA qM++[.bool J])
  |none=>(1,aA qM++[.bool J])):=by
 refine bW t314 rfl ?_;simp only[go_sem,t314];have g:=vB (b:=lB G LM) l (λi=>(0,[.str nm,aB l,E l.length,E (i:Int),E 0,.str ⟨#[]⟩,E 0,.str ⟨#[]⟩,.str ⟨#[]⟩,.str ⟨#[]⟩,.bool J,.bool J,.bool J,.bool J,E 0,E 0])) (λe=>Z' (e.aq=nm) && Z' (e.ax=3))
  (1,[.str nm,aB l,E l.length,E l.length,.bool J,E 0,.str ⟨#[]⟩,E 0,.str ⟨#[]⟩,.str ⟨#[]⟩,.str ⟨#[]⟩,.bool J,.bool J,.bool J,.bool J,E 0,E 0]) (λi e=>(0,.bool I::aA e)) (by
  intro i e f;have h:=aY f;have d:=wj h hlen;simp only[go_sem,bc,LM,h,aV,f,fo];by_cases a:e.aq=nm
  .by_cases c:e.ax=3
   .simp only[go_sem,ak e,a,c]
   .simp only[go_sem,ak e,a,c,d]
  .simp only[go_sem,ak e,a,d]) (by simp only[go_sem,bc,LM,aE])
 rw[n0]at g;rw[g];unfold kV;cases k:uZ (λe=>Z' (e.aq=nm) && Z' (e.ax=3)) l 0 with
 |none=>simp only[go_sem,ak,qM];rfl
 |some j=>
  obtain⟨e,a,c⟩:=dw k;simp only[go_sem,a,ak]
noncomputable def unr{a c:Type}(b:a->u (Sg a c)):u (Sg a c)->u c
 |some (.go s)=>bG b s
 |some (.out r)=>Z r
 |none=>O
theorem mV{a c:Type}(b:a->u (Sg a c))(s:a):bG b s=unr b (b s):=by cases h:b s with|none=>{unfold bG;rw[dif_neg];{rfl};rintro⟨r,d⟩;cases d with|out g=>{rw[h]at g;cases g}|go g _=>rw[h]at g;cases g}|some x=>cases x with|go e=>{rw[bD h];rfl}|out r=>rw[aK h];rfl
theorem rB{a c:Type}(b:a->u (Sg a c))(r:c):unr b (Z (.out r))=Z r:=(rfl)
theorem Tp{a β:Type}(f:a->β)(p:β->Bool):∀(l:M a) (k:Nat),uZ p (l.map f) k=uZ (λe=>p (f e)) l k
 |[],_=>rfl
 |e::l,k=>by simp only[bz,uZ,Tp f p l (k+1)]
def Am(l:M ao)(a:z):ix (l.map ao.aq) a=ew l a:=by rw[ix,Tp,ew];congr 1;funext e;exact decide_eq_decide.2 eq_comm
def Ta{d:M ao}{j:Nat}{e:ao}(h:nth d j=Z e):aP (.MQ 19 0 19 J) [aB d,E (j:Int)]=Z (.list 0 J [aA e]):=by (have a:nth (d.map aA) j=Z (aA e):=by rw[aV,h];rfl);simp only[aP,cn,a];rw[qX];simp
def af9{d:M ao}{j:Nat}{e:ao}(h:nth d j=Z e):aP (.MQ 19 18 1 J) [aB d,E (j:Int)]=Z (.list 0 J [aA e]):=by (have a:nth (d.map aA) j=Z (aA e):=by rw[aV,h];rfl);simp only[aP,cn,a];rw[qX];simp
def iL(l:M aD)(a:z):u Nat:=uZ (λe=>Z' (e.aq=a)) l 0
theorem ab0{l:M aD}{nm:z}(hlen:l.length<=mg):G 243 [az l,.str nm]=Z (0,[E (lx (iL l nm))]):=by refine bW t243 rfl ?_;simp only[go_sem,t243];have c:=vB (b:=lB G Lw) l (λi=>(0,[az l,.str nm,E (i:Int)])) (λe=>Z' (e.aq=nm)) (1,[az l,.str nm,E l.length,.bool J]) (λi e=>(0,[E (i:Int)])) (by intro i e a;have d:=aY a;have f:=wj d hlen;simp only[go_sem,bc,Lw,d,aV,a,aO];cases k:Z' (e.aq=nm)<;>simp only[go_sem,f]) (by simp only[go_sem,bc,Lw,aE]);rw[n0]at c;rw[c];unfold iL;cases g:uZ (λe=>Z' (e.aq=nm)) l 0 with|none=>{simp only[go_sem,lx]}|some j=>obtain⟨e,h,m⟩:=dw g;simp only[go_sem,h,lx]
theorem Uf(a:z):∀(l:M aD) (k:Nat),Xq a (l.map bh) (k:Int)=Z (lx (uZ (λe=>Z' (e.aq=a)) l k))
 |[],k=>rfl
 |e::l,k=>by have h:=Uf a l (k+1);simp only[bz,aO e,Xq,uZ];by_cases b:e.aq=a;{simp[b,lx]};have c:Xq a (l.map bh) ((k:Int)+1)=Z (lx (uZ (λe=>Z' (e.aq=a)) l (k+1))):=h;simp[b,c]
def ab7(l:M aD)(a:z):G 9003 [az l,.str a]=Z (0,[E (lx (iL l a))]):=
 yf (i:=9003) (sg:=⟨9003,[.val J [.d],.val J [.d]],[([.val J [.d]],[])]⟩) (v:=([.val J [.d]],[])) (j:=0) (r:=([.val J [.d (E (lx (iL l a)))]],[])) (ws:=[az l,.str a]) rfl rfl ((abr T rfl [.val J [.d (az l)],.val J [.d (.str a)]]).trans (by
  have h:=Uf a l 0;have b:Xq a (l.map bh) 0=Z (lx (iL l a)):=h;simp only[XT,az,b];rfl)) rfl rfl
def mZ(k:Int):Bool:=Z' (k=2) ||decide (k=4)
def aoC(k:Int):G 247 [E k]=Z (0,[.bool (mZ k)]):=by refine bW t247 rfl ?_;simp only[go_sem,t247,mZ];cases h:Z' (k=2)<;>simp only[go_sem]
def yW(l:M aD)(a:z):u z:=match iL l a with
 |some j=>(nth l j).map aD.bo
 |none=>O
def Ao(l:M aD):M z->M z->M z×Bool
 |t,[]=>(t,I)
 |t,k::a=>match yW l k with
  |none=>(t,J)
  |some v=>Ao l (t++[v]) a
def kst{a:Type}(l:M aD)(g:Nat->M z->a)(i:Nat)(t:M z)(k:z):Sg (M z) a:=match yW l k with
 |none=>.out (g i t)
 |some v=>.go (t++[v])
def keyOf(n:ao)(x:aD):M z×Bool:=
 if n.ax=2 then (if (Ao x.ai [] n.ch).2=I then ((Ao x.ai [] n.ch).1,I) else ([],J)) else ([x.bo],I)
def JL{l:M aD}{k:z}:iL l k=O->yW l k=O:=λh=>by rw[yW,h]
def JM{l:M aD}{k:z}{j:Nat}{e:aD}(h:iL l k=Z j)(a:nth l j=Z e):yW l k=Z e.bo:=by rw[yW,h];simp only[a,cV]
theorem E9{b:Type}(l:M aD)(g:M z->b):∀(a:M z) (i:Nat) (t:M z),
  jB (kst l (λ_ t=>g t)) i t a=if (Ao l t a).2=I then .go (Ao l t a).1 else .out (g (Ao l t a).1)
 |[],_,_=>rfl
 |k::a,i,t=>by cases h:yW l k with|none=>{simp only[jB,kst,Ao,h];rfl}|some v=>simp only[jB,kst,Ao,h];exact E9 l g a (i+1) (t++[v])
def akL{t:M z}{v:z}(h:t.length<mg):aP (.app 1 16) [aI t,.list 1 I [[.str v]]]=Z (aI (t++[v])):=by have h:=dM 1 16 I (t.map gm) [[.str v]] (by decide) (by simp only[mg,aj,aN,aJ]at *;omega);rw[h];simp[gm]
theorem I0:aI []=.list 1 I []:=(rfl)
def aby(v:z):aP (.lu 1 I) [.str v]=Z (.list 1 I [[.str v]]):=by simp[aP,chunk,dc,D.plain]
theorem ai2{n:ao}{x:aD}(s:n.ch.length<=mg)(p:x.ai.length<=mg):G 244 (aA n++bh x)=Z (0,[aI (keyOf n x).1,.bool (keyOf n x).2]):=by
 refine bW t244 (by rw[ak,aO];rfl) ?_;simp only[go_sem,t244,ak,aO];have d:=Ac (b:=lB G FV) n.ch (λi (t:M z)=>(0,E (i:Int)::(aA n++bh x++[aI t]))) (kst x.ai (λ_ t=>(0,[.bool J,aI t])))
  (λt=>(1,E n.ch.length::.bool J::(aA n++bh x++[aI t]))) (λi t=>t.length=i) [] rfl (by
  intro i k t g m;have h:=aY g;have q:=wj h s;have f:=ab0 (l:=x.ai) (nm:=k) p;have y:∀v,aP (.app 1 16) [aI t,.list 1 I [[.str v]]]=Z (aI (t++[v])):=λv=>akL (by omega);cases a:iL x.ai k with
  |none=>
   rw[a]at f;simp only[go_sem,bc,FV,h,aV,g,ak,aO,gm,f,lx,kst,JL a,Qa];intro A r;cases r
  |some j=>
   obtain⟨e,o,C⟩:=dw a;rw[a]at f;have w:¬(j:Int)<0:=by omega
   simp only[go_sem,bc,FV,h,aV,g,ak n,aO x,gm,f,lx,w,kst,JM a o,Qa];simp only[go_sem,o,aO e,aby,y,q];simp[m]) (by
  intro t m;simp only[go_sem,bc,FV,aE,ak,aO])
 rw[n0,E9]at d;simp only[ak,aO,av,au,I0]at d;rw[keyOf];by_cases c:n.ax=2;{(have hd:Z' (n.ax=2)=I:=by simp[c]);simp only[go_sem,hd];rw[d];clear d;cases B:(Ao x.ai [] n.ch).2;{simp only[go_sem,sgF,c];rfl};simp only[go_sem,sgF,c]};(have hd:Z' (n.ax=2)=J:=by simp[c]);simp only[go_sem,aby,c];rfl
theorem ajh{n:ao}{x:aD}(s:n.ch.length<=mg)(B:x.ai.length<=mg):G 320 (aA n++bh x)=Z (0,[aI (keyOf n x).1,.bool (keyOf n x).2]):=by
 refine bW t320 (by rw[ak,aO];rfl) ?_;simp only[go_sem,t320,ak,aO];have d:=Ac (b:=lB G F4) n.ch (λi (t:M z)=>(0,[aI n.ch,E n.ch.length,E (i:Int),.str x.aq,.str x.bo,az x.ai,aI t])) (kst x.ai (λ_ t=>(0,[.bool J,aI t,aI []])))
  (λt=>(1,[aI n.ch,E n.ch.length,E n.ch.length,.bool J,.str x.aq,.str x.bo,az x.ai,aI t])) (λi t=>t.length=i) [] rfl (by
  intro i k t h o;have m:=aY h;have q:=wj m s;have f:=ab7 x.ai k;have l:aP (.lu 1 I) []=Z (aI []):=by simp[aP,chunk]
  have y:∀v,aP (.app 1 16) [aI t,.list 1 I [[.str v]]]=Z (aI (t++[v])):=λv=>akL (by omega);cases a:iL x.ai k with
  |none=>
   rw[a]at f;simp only[go_sem,bc,F4,m,aV,h,gm,f,lx,kst,JL a,Qa,l];intro A r;cases r
  |some j=>
   obtain⟨e,p,F⟩:=dw a;rw[a]at f;have w:¬(j:Int)<0:=by omega
   simp only[go_sem,bc,F4,m,aV,h,gm,f,lx,w,kst,JM a p,Qa];simp only[go_sem,p,aO e,aby,y,q];simp[o]) (by
  intro t o;simp only[go_sem,bc,F4,aE])
 rw[n0,E9 (g:=λt=>(0,[D.bool J,aI t,aI []]))]at d;simp only[I0]at d;rw[keyOf];by_cases c:n.ax=2;{(have hd:Z' (n.ax=2)=I:=by simp[c]);simp only[go_sem,hd];rw[d];clear d;cases C:(Ao x.ai [] n.ch).2;{simp only[go_sem,sgF,c];rfl};simp only[go_sem,sgF,c]};(have hd:Z' (n.ax=2)=J:=by simp[c]);simp only[go_sem,aby,c];rfl
def DH(a b:aD)(c:z):Bool:=match yW a.ai c,yW b.ai c with
 |some x,Z y=>Z' (x=y)
 |_,_=>J
def uniq(n:ao)(a b:aD):Bool:=n.unique.all (DH a b) && !n.unique.isEmpty
def pr(l:M aD)(c:ao):Bool:=(dk c.ai).any λd=>(iL l d.aq).isSome
def ahf{l:M ao}{i:Nat}{y:ao}(h:nth l i=Z y):aP (.MQ 19 1 1 I) [aB l,E (i:Int)]=Z (.list 0 J [aA y]):=by (have a:nth (l.map aA) i=Z (aA y):=by rw[aV,h];rfl);simp only[aP,cn,a];rw[ak];rfl
def aoW{n:ao}{l:M aD}(k:bO aA n.ai<=mg)(r:l.length<=mg):G 450 (aA n++[az l])=Z (0,[.bool (pr l n)]):=by have e:=q81 k;have s:=mq (es:=n.ai);(have p:(dk n.ai).length<=mg:=by simp only[bO]at s k;omega);unfold pr;generalize dk n.ai=a at *;have h:=q9 (b:=lB G F9) a (λi=>(0,[az l,E (i:Int),aB a])) (λd=>(iL l d.aq).isSome) (1,[az l,E a.length,.bool J,aB a]) (0,[.bool I]) (by intro i d hd;have j:=aY hd;have q:=wj j p;have o:=ahf hd;have m:=jD 19 J (a.map aA) i (by rw[aj];exact j);have f:=ab0 (l:=l) (nm:=d.aq) r;have g:=Rx (iL l d.aq);cases c:(iL l d.aq).isSome;{rw[c]at g;simp only[go_sem,bc,F9,aj,j,o,m,ak d,f,g,q]};rw[c]at g;simp only[go_sem,bc,F9,aj,j,o,m,ak d,f,g]) (by simp only[go_sem,bc,F9,aj,aE]);rw[n0]at h;refine bW ajZ (by rw[ak];rfl) ?_;cases c:a.any λd=>(iL l d.aq).isSome;{rw[c,if_neg (by simp)]at h;simp only[go_sem,ajZ,ak n,e,h]};rw[c,if_pos rfl]at h;simp only[go_sem,ajZ,ak n,e,h]
theorem L3(o:u Nat):Z' (lx o<0)=!o.isSome:=by cases o with|none=>{rfl}|some k=>exact decide_eq_false (show ¬(k:Int)<0 by omega)
def UP{a b:aD}{c:z}(h:iL a.ai c=O):DH a b c=J:=by simp[DH,yW,h]
def UQ{a b:aD}{c:z}(h:iL b.ai c=O):DH a b c=J:=by unfold DH;(have:yW b.ai c=O:=by simp[yW,h]);rw[this];cases yW a.ai c<;>rfl
def ade{a b x y:aD}{c:z}{j k:Nat}(e:iL a.ai c=Z j)(a1:nth a.ai j=Z x)(d:iL b.ai c=Z k)(f:nth b.ai k=Z y):DH a b c=Z' (x.bo=y.bo):=by simp[DH,yW,e,a1,d,f]
theorem asI{n:ao}{a b:aD}(F:n.unique.length<=mg)(K:a.ai.length<=mg)(H:b.ai.length<=mg):G 470 (aA n++(bh a++bh b))=Z (0,[.bool (uniq n a b)]):=by have h:=gJ (b:=lB G yJ) n.unique (λi=>(0,E (i:Int)::(aA n++(bh a++bh b)))) (DH a b) (1,E n.unique.length::.bool J::(aA n++(bh a++bh b))) (0,[.bool J]) (by intro i c t;have o:=aY t;have D:=wj o F;have r:=wJ t;have g:=ab0 (l:=a.ai) (nm:=c) K;have f:=ab0 (l:=b.ai) (nm:=c) H;have d:=L3 (iL a.ai c);have e:=L3 (iL b.ai c);cases q:iL a.ai c with|none=>{rw[q]at d g;simp only[bp,db]at d;rw[UP q];simp only[go_sem,bc,yJ,ak n,aO,aj,o,r,g,f,d]}|some j=>rw[q]at d g;simp only[bR,dr]at d;obtain⟨x,a1,a2⟩:=dw q;cases p:iL b.ai c with|none=>{rw[p]at e f;simp only[bp,db]at e;rw[UQ p];simp only[go_sem,bc,yJ,ak n,aO,aj,o,r,g,f,d,e]}|some k=>rw[p]at e f;simp only[bR,dr]at e;obtain⟨y,A,L⟩:=dw p;rw[ade q a1 p A];have w:=il a1;have v:=il A;have C:lx (Z j)=(j:Int):=rfl;have B:lx (Z k)=(k:Int):=rfl;rw[C]at d g;rw[B]at e f;by_cases m:x.bo=y.bo;{simp only[go_sem,bc,yJ,ak n,aO,aj,o,r,w,v,g,f,d,e,D,m]};simp only[go_sem,bc,yJ,ak n,aO,aj,o,r,w,v,g,f,d,e,m]) (by simp only[go_sem,bc,yJ,ak n,aO,aj,aE]);rw[n0]at h;unfold uniq;refine bW aj4 (by rw[ak,aO,aO];rfl) ?_;cases s:n.unique.all (DH a b);{rw[s,if_neg (by simp)]at h;simp only[ak n,aO,av,au]at h;simp only[go_sem,aj4,ak n,aO,h]};rw[s,if_pos rfl]at h;simp only[ak n,aO,av,au]at h;simp only[go_sem,aj4,ak n,aO,h,aj,g0n];cases n.unique<;>rfl
theorem EZ{β:Type}(f:Nat->u β):∀m i,lH f (i+1) m=lH (λj=>f (j+1)) i m
 |0,_=>rfl
 |m+1,i=>by simp only[lH,EZ f m (i+1)]
theorem QT{a β:Type}(f:Nat->u a)(g:a->β):∀m i,lH (λj=>(f j).map g) i m=(lH f i m).map g
 |0,_=>rfl
 |m+1,i=>by simp only[lH];cases h:f i with|none=>{simp only[Option.map_none,QT f g m (i+1)]}|some r=>rfl
def pk{d β:Type}(c:d->d->u β)(a b:M d)(i:Nat):u β:=match nth a i,nth b i with
 |some x,Z y=>c x y
 |_,_=>O
def Ar{d β:Type}(c:d->d->u β):M d->M d->u β
 |x::a,y::b=>match c x y with
  |some r=>Z r
  |none=>Ar c a b
 |_,_=>O
theorem aaf{d β:Type}(c:d->d->u β):∀(a b:M d),lH (pk c a b) 0 (min a.length b.length)=Ar c a b
 |[],b=>by simp only[aJ,Nat.zero_min,lH,Ar]
 |x::a,[]=>by simp only[aJ,Nat.min_zero,lH,Ar]
 |x::a,y::b=>by (have h:(min (x::a).length (y::b).length)=min a.length b.length+1:=by simp only[aN];omega);rw[h];have f:(λj=>pk c (x::a) (y::b) (j+1))=pk c a b:=rfl;have e:pk c (x::a) (y::b) 0=c x y:=rfl;simp only[lH,EZ,f,e,Ar,aaf c a b];cases c x y<;>rfl
def lsC(x y:z):u Bool:=if Z' (x=y)=I then O else Z (nD x y)
def lL(a b:M z):Bool:=(Ar lsC a b).getD (Z' (a.length<b.length))
def arW{a b:M z}(j:a.length<=mg)(p:b.length<=mg):G 248 [aI a,aI b]=Z (0,[.bool (lL a b)]):=by refine bW t248 rfl ?_;simp only[go_sem,t248];have f:=Fc (b:=lB G FW) (λi=>(0,[aI a,aI b,E (i:Int)])) (λi=>(pk lsC a b i).map (λr=>(0,[.bool r]))) (min a.length b.length) (1,[aI a,aI b,E (min a.length b.length:Nat),.bool J]) (by intro i n;(have c:i<a.length:=by omega);(have d:i<b.length:=by omega);have a1:=dG (l:=a) c;have a2:=dG (l:=b) d;generalize a[i]'c=x at a1;generalize b[i]'d=y at a2;have g:=wj c j;simp only[go_sem,bc,FW,c,d,aV,a1,a2,gm,pk,lsC];cases o:Z' (x=y)<;>simp only[go_sem,g,Qy,aV,a1,a2,gm]) (by by_cases h:a.length<b.length;{(have e:min a.length b.length=a.length:=by omega);rw[e];simp only[go_sem,bc,FW,aE]};(have e:min a.length b.length=b.length:=by omega);rw[e];simp only[go_sem,bc,FW];by_cases k:b.length<a.length<;>simp only[go_sem,k,aE]) (min a.length b.length) 0 (by omega);rw[n0,QT,aaf]at f;rw[f,lL];cases m:Ar lsC a b<;>simp only[go_sem,Option.getD,Option.map]
def asg(a:z):G 323 [.str a]=Z (0,[.bool J]):=by refine bW t323 rfl ?_;simp only[go_sem,t323]
def uX(x y:z):Int:=if nD x y=I then -1 else if Z' (x=y)=I then 0 else 1
def ash(x y:z):G 324 [.str x,.str y]=Z (0,[E (uX x y)]):=by refine bW t324 rfl ?_;simp only[go_sem,t324,asg,uX];cases b:nD x y<;>cases a:Z' (x=y)<;>simp only[go_sem,b,a]
def Np(a b:M z)(i:Nat):u Int:=match nth a i with
 |none=>O
 |some x=>match nth b i with
  |none=>Z 1
  |some y=>if uX x y=0 then O else Z (uX x y)
def cmpL(a b:M z):Int:=match lH (Np a b) 0 a.length with
 |some r=>r
 |none=>if a.length<b.length then -1 else 0
theorem OV{a:Type}:∀{l:M a} {i:Nat},l.length<=i->nth l i=O
 |[],_,_=>rfl
 |_::l,0,h=>by simp at h
 |_::l,i+1,h=>by have:=OV (l:=l) (i:=i) (by simpa using h);simpa [nth] using this
def asi{a b:M z}(k:a.length<=mg)(o:b.length<=mg):G 325 [aI a,aI b]=Z (0,[E (cmpL a b)]):=by refine bW t325 rfl ?_;simp only[go_sem,t325];have f:=Fc (b:=lB G F6) (λi=>(0,[aI a,aI b,aI a,E a.length,E (i:Int)])) (λi=>(Np a b i).map (λr=>(0,[E r]))) a.length (1,[aI a,aI b,aI a,E a.length,E a.length,.bool J]) (by intro i c;have a1:=dG (l:=a) c;generalize a[i]'c=x at a1;have j:=wj c k;by_cases g:i<b.length;{have a2:=dG (l:=b) g;generalize b[i]'g=y at a2;(have e:Z' ((b.length:Int)<=(i:Int))=J:=by simp only[decide_eq_false_iff_not];omega);have m:=ash x y;simp only[go_sem,bc,F6,c,e,aV,a1,a2,gm,Np,m];by_cases d:uX x y=0;{(have hd:Z' (uX x y=0)=I:=by simp[d]);simp only[go_sem,d,j,Qy]};(have hd:Z' (uX x y=0)=J:=by simp[d]);simp only[go_sem,d,Qy]};have a2:=OV (l:=b) (i:=i) (by omega);(have e:Z' ((b.length:Int)<=(i:Int))=I:=by simp only[decide_eq_true_eq];omega);simp only[go_sem,bc,F6,c,e,aV,a1,a2,gm,Np,Qy]) (by simp only[go_sem,bc,F6,aE]) a.length 0 (by omega);rw[n0,QT]at f;rw[f,cmpL];cases n:lH (Np a b) 0 a.length;{simp only[go_sem,Option.getD,Option.map];by_cases h:a.length<b.length<;>simp only[go_sem,h]};simp only[go_sem,Option.getD,Option.map]
theorem Y5:∀l:M UInt8,Op.bytesLess l l=J
 |[]=>rfl
 |x::l=>by (have h:¬x<x:=by simp);simp[Op.bytesLess,Y5 l,h]
def acC(x:z):nD x x=J:=Y5 _
theorem Zi(b:M z):cmpL [] b=if 0<b.length then -1 else 0:=(rfl)
theorem Ve(x:z)(a:M z):cmpL (x::a) []=1:=(rfl)
def Vd(x y:z)(a b:M z):cmpL (x::a) (y::b)=if uX x y=0 then cmpL a b else uX x y:=by have d:(λj=>Np (x::a) (y::b) (j+1))=Np a b:=rfl;have c:Np (x::a) (y::b) 0=if uX x y=0 then O else Z (uX x y):=rfl;rw[cmpL];simp only[aN,lH,EZ,d,c];by_cases h:uX x y=0;{simp only[h,if_true,cmpL,Nat.add_lt_add_iff_right]};simp only[h,if_false]
theorem OL:∀a b:M z,lL a b=Z' (cmpL a b<0)
 |[],[]=>rfl
 |[],y::b=>by rw[Zi];simp[lL,Ar]
 |x::a,[]=>by rw[Ve];simp[lL,Ar]
 |x::a,y::b=>by rw[Vd];by_cases h:x=y;{subst h;(have c:uX x x=0:=by simp[uX,acC]);(have d:lsC x x=O:=by simp[lsC]);rw[if_pos c,<- OL a b];simp only[lL,Ar,d,aN,Nat.add_lt_add_iff_right]};(have d:lsC x y=Z (nD x y):=by simp[lsC,h]);(have f:lL (x::a) (y::b)=nD x y:=by simp only[lL,Ar,d,Option.getD]);rw[f];cases e:nD x y;{(have c:uX x y=1:=by simp[uX,e,h]);simp[c]};(have c:uX x y=-1:=by simp[uX,e]);simp[c]
theorem OC(l:M aD):∀(a t:M z),(Ao l t a).1.length<=t.length+a.length
 |[],t=>by simp[Ao]
 |k::a,t=>by cases h:yW l k with|none=>{simp only[Ao,h,aN];omega}|some v=>have:=OC l a (t++[v]);simp only[Ao,h,aN,ay,aJ]at *;omega
def wR{n:ao}{x:aD}(b:n.ch.length<=mg):(keyOf n x).1.length<=mg:=by have h:=OC x.ai n.ch [];simp only[aJ,bN]at h;unfold keyOf;(have a:1<=mg:=by decide);split;{split;{exact aS h b};simp};simpa using a
def JQ(n:ao)(a b:aD):Int:=if mZ n.ax=I then cmpL (keyOf n a).1 (keyOf n b).1 else 0
def asj{n:ao}{a b:aD}(d:n.ch.length<=mg)(i:a.ai.length<=mg)(h:b.ai.length<=mg):G 326 (aA n++bh a++bh b)=Z (0,[E (JQ n a b)]):=by have f:=ajh (n:=n) (x:=a) d i;have e:=ajh (n:=n) (x:=b) d h;have j:=asi (a:=(keyOf n a).1) (b:=(keyOf n b).1) (wR d) (wR d);have g:∀c:Int,aP .pl [E c]=Z (.bool J):=λc=>rfl;simp only[ak,aO,av,au]at f e;refine bW t326 (by rw[ak,aO,aO];rfl) ?_;simp only[go_sem,t326,ak,aO,JQ,mZ];obtain⟨v1,c1⟩:∃v,Z' (n.ax=2)=v:=⟨_,rfl⟩;obtain⟨v2,k⟩:∃v,Z' (n.ax=4)=v:=⟨_,rfl⟩;cases v1<;>cases v2<;>simp only[go_sem,c1,k,f,e,j,g]
def arX{d:M ao}{a b:aD}{i k:Nat}{e:ao}(hd:d.length<=mg)(f:e.ch.length<=mg)(v:a.ai.length<=mg)(t:b.ai.length<=mg)
  (r:ew d a.aq=Z i) (q:ew d b.aq=Z k) (s:nth d i=Z e) :
  G 249 ([aB d]++bh a++bh b)=Z (0,[.bool (if Z' (i=k) && mZ e.ax then lL (keyOf e a).1 (keyOf e b).1 else Z' (i<k))]):=by have o:=q82 (l:=d) (nm:=a.aq) hd;have m:=q82 (l:=d) (nm:=b.aq) hd;rw[r]at o;rw[q]at m;have j:=ai2 (n:=e) (x:=a) f v;have h:=ai2 (n:=e) (x:=b) f t;have y:=arW (a:=(keyOf e a).1) (b:=(keyOf e b).1) (wR f) (wR f);have w:=aoC e.ax;have p:aP .pl [.bool (lL (keyOf e a).1 (keyOf e b).1)]=Z (.bool J):=rfl;simp only[ak,aO,av,au]at j h;refine bW t249 (by rw[aO,aO];rfl) ?_;have A:(Z (aA e):u (M D))=Z (aA e):=rfl;simp only[go_sem,t249,aO,o,m,lx];by_cases c:i=k;{subst c;cases c1:mZ e.ax<;>simp only[go_sem,aV,s,ak e,j,h,y,w,c1,p,aE]};(have B:Z' (i=k)=J:=by simp[c]);(have g:Z' ((i:Int)=(k:Int))=J:=by simp only[decide_eq_false_iff_not];omega);simp only[go_sem,c,g]
def Az(a:z->Bool)(mt:z->z->Bool)(r:M ao->M aD->Bool)(n:ao)(x:aD):Bool:=
 if Z' (n.ax=3) ||decide (n.ax=4) then Z' (x.ai.length=0) && isVal a mt n.type x.bo
 else if Z' (n.ax=2) then (keyOf n x).2 && (Z' (x.bo.size=0) && r (dk n.ai) x.ai)
 else Z' (x.bo.size=0) && ((n.df ||decide (0<x.ai.length)) && r (dk n.ai) x.ai)
def arV{j:z->Bool}{mt:z->z->Bool}(m:∀s:z,s.size<=mg->G 227 [.str s]=Z (0,[.bool (j s)]))(o:∀p s:z,p.size<=mg->s.size<=mg->G 236 [.str p,.str s]=Z (0,[.bool (mt p s)]))
  {r:M ao->M aD->Bool} {n:ao} {x:aD} (d:dV (aA n)<=mg) (c:dV (bh x)<=mg)
  (l:G 246 [aB (dk n.ai),az x.ai]=Z (0,[.bool (r (dk n.ai) x.ai)])) :
  G 245 (aA n++bh x)=Z (0,[.bool (Az j mt r n x)]):=by rw[ck]at d;rw[eF]at c;(have F:dV (dE n.type)<=mg:=by omega);(have D:n.ch.length<=mg:=by simp only[bO]at d;omega);(have C:bO aA n.ai<=mg:=by omega);(have B:x.bo.size<=mg:=by omega);(have A:x.ai.length<=mg:=by simp only[bO]at c;omega);have y:=aoz m o F B;have t:=ai2 (n:=n) (x:=x) D A;have q:=q81 C;have k:∀b:Bool,aP .pl [.bool b]=Z (.bool J):=λb=>rfl;clear m o d c F D C B A;simp only[ak,aO,dE,av,au]at y t;refine bW t245 (by rw[ak,aO];rfl) ?_;simp only[go_sem,t245,ak,aO,Az];obtain⟨v3,K⟩:∃v,Z' (n.ax=3)=v:=⟨_,rfl⟩;obtain⟨v4,H⟩:∃v,Z' (n.ax=4)=v:=⟨_,rfl⟩;obtain⟨v2,L⟩:∃v,Z' (n.ax=2)=v:=⟨_,rfl⟩;obtain⟨w,a⟩:∃v,Z' (x.ai.length=0)=v:=⟨_,rfl⟩;(have f:Z' ((x.ai.length:Int)=0)=w:=by rw[<- a];apply decide_eq_decide.2;omega);(have cg:Z' ((0:Int)<(x.ai.length:Int))=!w:=by rw[<- a,<- decide_not];apply decide_eq_decide.2;omega);(have g:Z' (0<x.ai.length)=!w:=by rw[<- a,<- decide_not];apply decide_eq_decide.2;omega);obtain⟨e,i⟩:∃v,Z' (x.bo=⟨#[]⟩)=v:=⟨_,rfl⟩;(have h:Z' (x.bo.size=0)=e:=by rw[<- i,dz]);cases v3<;>cases v4<;>cases v2<;>cases w<;>cases e<;>simp only[go_sem,K,H,L,a,f,g,i,h,y,t];(all_goals try (cases N:(keyOf n x).2<;>simp only[go_sem,i,q,l,k]));all_goals try (cases P:n.df<;>simp only[go_sem,cg,q,l,k])
def asf{l:z->Bool}{mt:z->z->Bool}(q:∀s:z,s.size<=mg->G 285 [.str s]=Z (0,[.bool (l s)]))(t:∀p s:z,p.size<=mg->s.size<=mg->G 310 [.str p,.str s]=Z (0,[.bool (mt p s)]))
  {r:M ao->M aD->Bool} {n:ao} {x:aD} (f:dV (aA n)<=mg) (d:dV (bh x)<=mg)
  (hd:n.ax=1\/n.ax=2\/n.ax=3\/n.ax=4) (o:G 322 [aB n.ai,az x.ai]=Z (0,[.bool (r (dk n.ai) x.ai)])) :
  G 321 (aA n++bh x)=Z (0,[.bool (Az l mt r n x)]):=by rw[ck]at f;rw[eF]at d;(have F:dV (dE n.type)<=mg:=by omega);(have D:n.ch.length<=mg:=by simp only[bO]at f;omega);(have P:bO aA n.ai<=mg:=by omega);(have C:x.bo.size<=mg:=by omega);(have B:x.ai.length<=mg:=by simp only[bO]at d;omega);have A:=aoN q t F C;have y:=ajh (n:=n) (x:=x) D B;have Q:∀b:Bool,aP .pl [.bool b]=Z (.bool J):=λb=>rfl;clear q t f d F D P C B;simp only[ak,aO,dE,av,au]at A y;refine bW t321 (by rw[ak,aO];rfl) ?_;simp only[go_sem,t321,ak,aO,Az];have H:∃v1 v2 v3 v4:Bool,Z' (n.ax=1)=v1/\Z' (n.ax=2)=v2/\Z' (n.ax=3)=v3/\Z' (n.ax=4)=v4/\((v1,v2,v3,v4)=(I,J,J,J)\/(v1,v2,v3,v4)=(J,I,J,J)\/(v1,v2,v3,v4)=(J,J,I,J)\/(v1,v2,v3,v4)=(J,J,J,I)):=by{refine⟨_,_,_,_,rfl,rfl,rfl,rfl,?_⟩;rcases hd with h|h|h|h<;>rw[h]<;>decide};obtain⟨v1,v2,v3,v4,c1,N,L,K,a⟩:=H;clear hd;obtain⟨w,c⟩:∃v,Z' (x.ai.length=0)=v:=⟨_,rfl⟩;(have g:Z' ((x.ai.length:Int)=0)=w:=by rw[<- c];apply decide_eq_decide.2;omega);(have cg:Z' ((0:Int)<(x.ai.length:Int))=!w:=by rw[<- c,<- decide_not];apply decide_eq_decide.2;omega);(have i:Z' (0<x.ai.length)=!w:=by rw[<- c,<- decide_not];apply decide_eq_decide.2;omega);obtain⟨e,k⟩:∃v,Z' (x.bo=⟨#[]⟩)=v:=⟨_,rfl⟩;(have j:Z' (x.bo.size=0)=e:=by rw[<- k,dz]);(cases m:r (dk n.ai) x.ai<;>rcases a with a|a|a|a<;>cases a<;>cases w<;>cases e<;>simp only[go_sem,L,K,N,c,g,i,k,j,A,y,c1,o,m]);(all_goals try (cases R:(keyOf n x).2<;>simp only[go_sem,k,o]));(all_goals try (cases S:n.df<;>simp only[go_sem,cg]));all_goals try rw[m]
def tI(t:u (aD×Nat))(s:ao)(k:Nat)(e:aD):Bool:=match t with
 |none=>I
 |some (p,a)=>if Z' (a=k) && mZ s.ax then lL (keyOf s p).1 (keyOf s e).1 else Z' (a<k)
def mb{b:Type}(a:b)(nr:ao->aD->Bool)(d:M ao)(i:Nat)(t:u (aD×Nat))(e:aD):Sg (u (aD×Nat)) b:=match ew d e.aq with
 |none=>.out a
 |some k=>match nth d k with
  |none=>.out a
  |some s=>if (nr s e && tI t s k e)=I then .go (Z (e,k)) else .out a
def Il{a b:Type}:Sg a b->Bool
 | .go _=>I
 | .out _=>J
def l_(nr:ao->aD->Bool)(d:M ao)(l:M aD):Bool:=Il (jB (mb () nr d) 0 O l)
theorem Pm{b:Type}(c:b)(nr:ao->aD->Bool)(d:M ao)(fin:u (aD×Nat)->b)(yes:b)(hf:∀t,fin t=yes):∀(l:M aD) (i:Nat) (t:u (aD×Nat)),
  sgF fin (jB (mb c nr d) i t l)=if Il (jB (mb () nr d) i t l)=I then yes else c
 |[],_,t=>hf t
 |e::l,i,t=>by cases a:ew d e.aq with|none=>{simp only[jB,mb,a];rfl}|some k=>cases f:nth d k with|none=>{simp only[jB,mb,a,f];rfl}|some s=>cases h:(nr s e && tI t s k e);{simp only[jB,mb,a,f,h,aQ,if_false];rfl};simp only[jB,mb,a,f,h,if_true];exact Pm c nr d fin yes hf l (i+1) (Z (e,k))
def aaV(d:M ao)(l:M aD)(i:Nat)(t:u (aD×Nat)):Prop:=match t with
 |none=>i=0
 |some (p,k)=>∃j,i=j+1/\nth l j=Z p/\ew d p.aq=Z k
theorem aoB{nr:ao->aD->Bool}{d:M ao}{l:M aD}(hd:bO aA d<=mg)(F:bO bh l<=mg)
  (Q:∀s e,s∈d->e∈l->G 245 (aA s++bh e)=Z (0,[.bool (nr s e)])):G 246 [aB d,az l]=Z (0,[.bool (l_ nr d l)]):=by (have K:d.length<=mg:=by simp only[bO]at hd;omega);(have L:l.length<=mg:=by simp only[bO]at F;omega);refine bW t246 rfl ?_;simp only[go_sem,t246];have N:=Ac (b:=lB G B3) l (λi (t:u (aD×Nat))=>(0,[aB d,az l,E (i:Int)])) (mb (0,[.bool J]) nr d) (λt=>(1,[aB d,az l,E l.length,.bool J])) (aaV d l) O rfl (by intro i e t a B;have w:=aY a;have W:=wj w L;have r:=q82 (l:=d) (nm:=e.aq) K;cases hf:ew d e.aq with|none=>{rw[hf]at r;simp only[go_sem,bc,B3,w,aV,a,aO e,r,lx,mb,hf,Qa];intro g f;cases f}|some k=>rw[hf]at r;obtain⟨s,q,h2⟩:=dw hf;have A:=Q s e (bj q) (bj a);(have H:Z' ((k:Int)<0)=J:=by simp only[decide_eq_false_iff_not];omega);simp only[ak,aO,av,au]at A;have c:∀g,Sg.go (Z (e,k))=(Sg.go g:Sg (u (aD×Nat)) (Nat×M D))->aaV d l (i+1) g:=by{intro g f;cases f;exact⟨i,rfl,a,hf⟩};(have U:mb (0,[D.bool J]) nr d i t e=if (nr s e && tI t s k e)=I then .go (Z (e,k)) else .out (0,[D.bool J]):=by simp only[mb,hf,q]);rw[U];cases t with|none=>{obtain rfl:i=0:=B;simp only[go_sem,bc,B3,w,aV,a,q,aO e,ak s,r,lx,A,H,tI];cases hq:nr s e;{simp only[go_sem,Qa];intro g f;cases f};simp only[go_sem,Qa];exact⟨rfl,c⟩}|some pk=>obtain⟨p,m⟩:=pk;obtain⟨j,rfl,i2,i3⟩:=B;obtain⟨h,i4,_⟩:=dw i3;have S:h.ch.length<=mg:=by{have a1:=cq aA (bj i4);rw[ck]at a1;simp only[bO]at a1 hd;omega};have C:∀y:aD,y∈l->y.ai.length<=mg:=by{intro y V;have a1:=cq bh V;rw[eF]at a1;simp only[bO]at a1 F;omega};have x:=arX K S (C p (bj i2)) (C e (bj a)) i3 hf i4;have R:(if Z' (m=k) && mZ h.ax then lL (keyOf h p).1 (keyOf h e).1 else Z' (m<k))=tI (Z (p,m)) s k e:=by{by_cases P:m=k;{subst P;have:h=s:=hO (i4.symm.trans q);subst this;simp only[tI]};simp[tI,P]};rw[R]at x;simp only[aO,av,au]at x;(have Y:IntKind.i64.wrap (((j+1:Nat):Int) - 1)=(j:Int):=by rw[wrap_i64 (by simp only[mg]at L;omega)];omega);(have X:(0:Int)<((j+1:Nat):Int):=by omega);(have hj:j<l.length:=by omega);clear hd F Q S C R;obtain⟨bf,o⟩:∃v,tI (Z (p,m)) s k e=v:=⟨_,rfl⟩;obtain⟨T,n⟩:∃v,nr s e=v:=⟨_,rfl⟩;rw[o]at x;rw[n]at A;rw[o,n];simp only[go_sem,bc,B3,w,aV,a,q,aO e,ak s,r,lx,A,H];cases T<;>cases bf<;>simp only[go_sem,Qa,Y,X,aV,a,i2,aO e,aO p,x,W];(all_goals try (intro g f;cases f));all_goals exact c _ rfl) (by intro t B;simp only[go_sem,bc,B3,aE]);rw[n0,Pm (yes:=(1,[aB d,az l,E l.length,.bool J])) (hf:=λ_=>rfl)]at N;rw[N,l_];cases Il (jB (mb () nr d) 0 O l)<;>simp only[go_sem]
def uT(t:u (aD×Nat)):Int:=match t with
 |none=>-1
 |some (_,k)=>(k:Int)
theorem Hr{g:Type}(c:g)(nr:ao->aD->Bool)(d:M ao)(fin:u (aD×Nat)->g):∀(l:M aD) (i:Nat) (t:u (aD×Nat)),
  ∃b,sgF fin (jB (mb c nr d) i t l)=if Il (jB (mb () nr d) i t l)=I then fin b else c
 |[],_,t=>⟨t,rfl⟩
 |e::l,i,t=>by cases a:ew d e.aq with|none=>{exact⟨t,by simp only[jB,mb,a];rfl⟩}|some k=>cases f:nth d k with|none=>{exact⟨t,by simp only[jB,mb,a,f];rfl⟩}|some s=>cases h:(nr s e && tI t s k e);{exact⟨t,by simp only[jB,mb,a,f,h,aQ,if_false];rfl⟩};obtain⟨b,j⟩:=Hr c nr d fin l (i+1) (Z (e,k));exact⟨b,by simp only[jB,mb,a,f,h,if_true];exact j⟩
theorem ajj{nr:ao->aD->Bool}{d:M ao}{l:M aD}(hd:bO aA d<=mg)(y:bO bh l<=mg)
  (w:d=[]) (B:∀s e,s∈d->e∈l->G 321 (aA s++bh e)=Z (0,[.bool (nr s e)])) :
  ∃t,bG (lB G F5) (0,[az l,E (-1),az l,E l.length,E 0,aB d,aI (d.map ao.aq)])=Z (if l_ nr d l=I then (1,[az l,E (uT t),az l,E l.length,E l.length,.bool J,aB d,aI (d.map ao.aq)]) else (0,[.bool J])):=by (have n:d.length<=mg:=by simp only[bO]at hd;omega);(have o:l.length<=mg:=by simp only[bO]at y;omega);have h:=Ac (b:=lB G F5) l (λi (t:u (aD×Nat))=>(0,[az l,E (uT t),az l,E l.length,E (i:Int),aB d,aI (d.map ao.aq)])) (mb (0,[.bool J]) nr d) (λt=>(1,[az l,E (uT t),az l,E l.length,E l.length,.bool J,aB d,aI (d.map ao.aq)])) (aaV d l) O rfl (by intro i e t g r;have j:=aY g;have A:=wj j o;have c:=q96 (l:=d.map ao.aq) (v:=e.aq) (by rw[aj];exact n);rw[Am]at c;cases a:ew d e.aq with|none=>{rw[a]at c;have q:aP .pl [E (-1)]=Z (.bool J):=rfl;simp only[go_sem,bc,F5,j,aV,g,aO e,c,lx,mb,a,Qa,q];intro f p;cases p}|some k=>obtain⟨s,m,_⟩:=dw a;rw[w]at m;cases m) (by intro t r;simp only[go_sem,bc,F5,aE]);obtain⟨f,x⟩:=Hr (0,[D.bool J]) nr d (λt=>(1,[az l,E (uT t),az l,E l.length,E l.length,.bool J,aB d,aI (d.map ao.aq)])) l 0 O;rw[n0,x]at h;exact⟨f,h⟩
theorem ajk{nr:ao->aD->Bool}{d:M ao}{l:M aD}(hd:bO aA d<=mg)(K7:bO bh l<=mg)
  (hN:∀s e,s∈d->e∈l->G 321 (aA s++bh e)=Z (0,[.bool (nr s e)])) :
  ∃t,bG (lB G ud) (0,[az l,E (-1),az l,E l.length,E 0,aB d,aI (d.map ao.aq)])=Z (if l_ nr d l=I then (1,[az l,E (uT t),az l,E l.length,E l.length,.bool J,aB d,aI (d.map ao.aq)]) else (0,[.bool J])):=by (have vd:d.length<=mg:=by simp only[bO]at hd;omega);(have qK:l.length<=mg:=by simp only[bO]at K7;omega);have hl:=Ac (b:=lB G ud) l (λi (t:u (aD×Nat))=>(0,[az l,E (uT t),az l,E l.length,E (i:Int),aB d,aI (d.map ao.aq)])) (mb (0,[.bool J]) nr d) (λt=>(1,[az l,E (uT t),az l,E l.length,E l.length,.bool J,aB d,aI (d.map ao.aq)])) (aaV d l) O rfl (by intro i e t q X;have C:=aY q;have V:=wj C qK;have w:=q96 (l:=d.map ao.aq) (v:=e.aq) (by rw[aj];exact vd);rw[Am]at w;cases F:ew d e.aq with|none=>{rw[F]at w;have B:aP .pl [E (-1)]=Z (.bool J):=rfl;simp only[go_sem,bc,ud,C,aV,q,aO e,w,lx,mb,F,Qa,B];intro m g;cases g}|some k=>rw[F]at w;obtain⟨s,L,h2⟩:=dw F;have H:=hN s e (bj L) (bj q);(have N:Z' ((k:Int)<0)=J:=by simp only[decide_eq_false_iff_not];omega);simp only[ak,aO,av,au]at H;have B:aP .pl [E (k:Int)]=Z (.bool J):=rfl;have S:=Ta L;have R:=jD 19 J (d.map aA) k (by rw[aj];exact aY L);have f:∀m,Sg.go (Z (e,k))=(Sg.go m:Sg (u (aD×Nat)) (Nat×M D))->aaV d l (i+1) m:=by{intro m g;cases g;exact⟨i,rfl,q,F⟩};(have nU:mb (0,[D.bool J]) nr d i t e=if (nr s e && tI t s k e)=I then .go (Z (e,k)) else .out (0,[D.bool J]):=by simp only[mb,F,L]);rw[nU];have b1:∀y:ao,y∈d->y.ch.length<=mg:=by{intro y U;have a1:=cq aA U;rw[ck]at a1;simp only[bO]at a1 hd;omega};have b2:∀y:aD,y∈l->y.ai.length<=mg:=by{intro y U;have a1:=cq bh U;rw[eF]at a1;simp only[bO]at a1 K7;omega};clear hN hd K7;cases t with|none=>{obtain rfl:i=0:=X;(have x:Z' ((k:Int) < -1)=J:=by simp only[decide_eq_false_iff_not];omega);(have P:Z' ((k:Int)=-1)=J:=by simp only[decide_eq_false_iff_not];omega);obtain⟨K,h⟩:∃v,nr s e=v:=⟨_,rfl⟩;rw[h]at H;rw[h];simp only[go_sem,bc,ud,C,aV,q,aO e,ak s,w,lx,H,N,tI,uT,B,S,R,x];cases K<;>simp only[go_sem,Qa,V,P];{intro m g;cases g};exact f}|some pk=>obtain⟨p,r⟩:=pk;obtain⟨j,rfl,i2,i3⟩:=X;have g2:=asj (n:=s) (a:=p) (b:=e) (b1 s (bj L)) (b2 p (bj i2)) (b2 e (bj q));simp only[ak,aO,av,au]at g2;(have e1:IntKind.i64.wrap (((j+1:Nat):Int) - 1)=(j:Int):=by rw[wrap_i64 (by simp only[mg]at qK;omega)];omega);(have hj:j<l.length:=by omega);obtain⟨Y,A⟩:∃v,tI (Z (p,r)) s k e=v:=⟨_,rfl⟩;obtain⟨K,h⟩:∃v,nr s e=v:=⟨_,rfl⟩;have Q:Y=if r=k then Z' (JQ s p e<0) else Z' (r<k):=by{rw[<- A];by_cases hk:r=k;{subst hk;cases hr:mZ s.ax<;>simp[tI,hr,JQ,OL]};simp[tI,hk]};rw[h]at H;rw[A,h];clear b1 b2 nU A;obtain⟨o,ho⟩:∃v,Z' (0<=JQ s p e)=v:=⟨_,rfl⟩;(have W:Z' (JQ s p e<0)=!o:=by rw[<- ho,<- decide_not];apply decide_eq_decide.2;omega);rcases Nat.lt_trichotomy k r with c|c|c;{(have x:Z' ((k:Int)<(r:Int))=I:=by simp only[decide_eq_true_eq];omega);(have T:Y=J:=by rw[Q,if_neg (by omega)];simp only[decide_eq_false_iff_not];omega);subst T;simp only[go_sem,bc,ud,C,aV,q,aO e,w,lx,N,uT,B,x];cases K<;>simp only[go_sem,Qa];all_goals (intro m g;cases g)};{subst c;(have x:Z' ((k:Int)<(k:Int))=J:=by simp);(have P:Z' ((k:Int)=(k:Int))=I:=by simp);rw[if_pos rfl,W]at Q;subst Q;simp only[go_sem,bc,ud,C,aV,q,aO e,ak s,w,lx,H,N,uT,B,S,R,x];cases K<;>cases o<;>simp only[go_sem,Qa,V,e1,aV,i2,aO p,g2,ho];all_goals first|exact⟨rfl,f⟩|exact f|(intro m g;cases g)};(have x:Z' ((k:Int)<(r:Int))=J:=by simp only[decide_eq_false_iff_not];omega);(have P:Z' ((k:Int)=(r:Int))=J:=by simp only[decide_eq_false_iff_not];omega);(have T:Y=I:=by rw[Q,if_neg (by omega)];simp only[decide_eq_true_eq];omega);subst T;simp only[go_sem,bc,ud,C,aV,q,aO e,ak s,w,lx,H,N,uT,B,S,R,x];cases K<;>simp only[go_sem,Qa,V,P];all_goals first|exact⟨rfl,f⟩|exact f|(intro m g;cases g)) (by intro t X;simp only[go_sem,bc,ud,aE]);obtain⟨m,h'⟩:=Hr (0,[D.bool J]) nr d (λt=>(1,[az l,E (uT t),az l,E l.length,E l.length,.bool J,aB d,aI (d.map ao.aq)])) l 0 O;rw[n0,h']at hl;exact⟨m,hl⟩
def aoP{nr:ao->aD->Bool}{ks:M ao}{l:M aD}(d:bO aA ks<=mg)(h:bO bh l<=mg)
  (f:∀s e,s∈dk ks->e∈l->G 321 (aA s++bh e)=Z (0,[.bool (nr s e)])):G 322 [aB ks,az l]=Z (0,[.bool (l_ nr (dk ks) l)]):=by have hd:=aS (mq (es:=ks)) d;(have j:(dk ks).length<=mg:=by simp only[bO]at hd;omega);have g:=q94 d;have i:=q95 (l:=dk ks) j;refine bW t322 rfl ?_;simp only[go_sem,t322];by_cases b:dk ks=[];{(have c:kE (dk ks)=0:=by rw[b];rfl);obtain⟨t,a⟩:=ajj hd h b f;simp only[go_sem,g,c,i,a];cases l_ nr (dk ks) l<;>simp only[go_sem]};have c:kE (dk ks)=1:=kI b;obtain⟨t,a⟩:=ajk hd h f;simp only[go_sem,g,c,i,a];cases l_ nr (dk ks) l<;>simp only[go_sem]
def qn(a:z->Bool)(mt:z->z->Bool):Nat->ao->aD->Bool
 |0,_,_=>J
 |N+1,n,x=>Az a mt (l_ (qn a mt N)) n x
theorem ai3{a:z->Bool}{mt:z->z->Bool}(i:∀s:z,s.size<=mg->G 227 [.str s]=Z (0,[.bool (a s)]))(j:∀p s:z,p.size<=mg->s.size<=mg->G 236 [.str p,.str s]=Z (0,[.bool (mt p s)]))
  (N:Nat):∀(n:ao) (x:aD),aF x<N->dV (aA n)<=mg->dV (bh x)<=mg->G 245 (aA n++bh x)=Z (0,[.bool (qn a mt N n x)]):=by induction N with|zero=>{intro n x h;omega}|succ N f=>intro n x h c b;refine arV (r:=l_ (qn a mt N)) i j c b ?_;have a1:=c;have a2:=b;rw[ck]at a1;rw[eF]at a2;have l:bO aA (dk n.ai)<=mg:=aS mq (by omega);(have k:bO bh x.ai<=mg:=by omega);refine aoB l k ?_;intro s e g d;have c1:=cq aA g;have o:=cq bh d;have m:=aD.uQ d;exact f s e (by omega) (by omega) (by omega)
theorem S_(n:Nat):∀(es:M ao),aF es<n->∀s,s∈dk es->j7 s.ax=I:=by induction n with|zero=>{intro es h;omega}|succ n b=>intro es h s a;cases es with|nil=>{rw[mJ]at a;cases a}|cons e es=>rw[jT]at a;rcases aX.1 a with a|a;{unfold sL at a;split at a;{rename_i c;rw[ct.1 a];exact c};split at a;{have d:=ao.gx e es;exact b e.ai (by omega) s a};cases a};exact b es (by simp only[bJ]at h;omega) s a
def ZI{k:Int}(h:j7 k=I):k=1\/k=2\/k=3\/k=4:=by simp only[j7,eA,aw,decide_eq_true_eq]at h;omega
theorem aji{a:z->Bool}{mt:z->z->Bool}(k:∀s:z,s.size<=mg->G 285 [.str s]=Z (0,[.bool (a s)]))(l:∀p s:z,p.size<=mg->s.size<=mg->G 310 [.str p,.str s]=Z (0,[.bool (mt p s)]))
  (N:Nat):∀(n:ao) (x:aD),aF x<N->j7 n.ax=I->dV (aA n)<=mg->dV (bh x)<=mg->G 321 (aA n++bh x)=Z (0,[.bool (qn a mt N n x)]):=by induction N with|zero=>{intro n x h;omega}|succ N i=>intro n x h j d b;refine asf (r:=l_ (qn a mt N)) k l d b (ZI j) ?_;have a1:=d;have a2:=b;rw[ck]at a1;rw[eF]at a2;(have g:bO aA n.ai<=mg:=by omega);have t:bO aA (dk n.ai)<=mg:=aS mq g;(have m:bO bh x.ai<=mg:=by omega);refine aoP g m ?_;intro s e c f;have c1:=cq aA c;have q:=cq bh f;have o:=aD.uQ f;exact i s e (by omega) (S_ _ _ (aT _) s c) (by omega) (by omega)
noncomputable def tY(a:z->Bool)(mt:z->z->Bool)(ok:Bool)(s:M ao)(l:M aD):Bool:=
 ok && (Z' (bu l<=120) && l_ (qn a mt (aF l)) (dk s) l)
def agw{l:M aD}{e:aD}(h:e∈l):aF e<aF l:=bB h
def arY{a:z->Bool}{mt:z->z->Bool}(j:∀s:z,s.size<=mg->G 227 [.str s]=Z (0,[.bool (a s)]))(k:∀p s:z,p.size<=mg->s.size<=mg->G 236 [.str p,.str s]=Z (0,[.bool (mt p s)]))
  {ok:Bool} {s:M ao} {l:M aD} (f:bO aA s<=mg) (h:bO bh l<=mg) (t:G 241 [aB s]=Z (0,[.bool ok])):G 250 [aB s,az l]=Z (0,[.bool (tY a mt ok s l)]):=by obtain⟨r,A,m⟩:=arU (l:=l) (x:=120) h (by omega) (by omega);have y:=q81 f;have w:=aoB (nr:=qn a mt (aF l)) (d:=dk s) (l:=l) (aS mq f) h (by intro o e n i;have c1:=cq aA n;have C:=cq bh i;have B:=mq (es:=s);exact ai3 j k _ o e (agw i) (by omega) (by omega));have g:Z' (0<=r)=Z' (bu l<=120):=by{apply decide_eq_decide.2;unfold DM at m;omega};have q:∀b:Bool,aP .pl [.bool b]=Z (.bool J):=λb=>rfl;clear j k m;refine bW t250 rfl ?_;simp only[go_sem,t250,t,tY];obtain⟨v,c⟩:∃v,Z' (bu l<=120)=v:=⟨_,rfl⟩;rw[c]at g;cases ok<;>cases v<;>simp only[go_sem,A,y,w,g,c,q]
def asl{a:z->Bool}{mt:z->z->Bool}(i:∀s:z,s.size<=mg->G 285 [.str s]=Z (0,[.bool (a s)]))(j:∀p s:z,p.size<=mg->s.size<=mg->G 310 [.str p,.str s]=Z (0,[.bool (mt p s)]))
  {ok:Bool} {s:M ao} {l:M aD} (k:bO aA s<=mg) (g:bO bh l<=mg) (m:G 316 [aB s]=Z (0,[.bool ok])):G 327 [aB s,az l]=Z (0,[.bool (tY a mt ok s l)]):=by have o:=ase g;have n:=aoP (nr:=qn a mt (aF l)) (ks:=s) (l:=l) k g (by intro c e b h;have c1:=cq aA b;have r:=cq bh h;have q:=mq (es:=s);exact aji i j _ c e (agw h) (S_ _ _ (aT _) c b) (by omega) (by omega));(have f:Z' ((bu l:Int)<=120)=Z' (bu l<=120):=by apply decide_eq_decide.2;omega);clear i j;refine bW t327 rfl ?_;simp only[go_sem,t327,m,tY];obtain⟨v,d⟩:∃v,Z' (bu l<=120)=v:=⟨_,rfl⟩;rw[d]at f;cases ok<;>cases v<;>simp only[go_sem,o,n,f,d]
section
variable {ip:z->Bool} {mt:z->z->Bool}
def Rt(ip:z->Bool)(mt:z->z->Bool)(d:M ao)(l:M aD):Prop:=∃N,l_ (qn ip mt N) d l=I
theorem CE{nr:ao->aD->Bool}{d:M ao}:∀{l:M aD} {i:Nat} {t:u (aD×Nat)},Il (jB (mb () nr d) i t l)=I->∀x∈l,∃k n,ew d x.aq=Z k/\nth d k=Z n/\nr n x=I
 |e::l,i,t,h,x,c=>by cases a:ew d e.aq with|none=>{simp only[jB,mb,a]at h;cases h}|some k=>cases b:nth d k with|none=>{simp only[jB,mb,a,b]at h;cases h}|some s=>cases f:(nr s e && tI t s k e) with|false=>{simp only[jB,mb,a,b,f,aQ,if_false]at h;cases h}|true=>simp only[jB,mb,a,b,f,if_true]at h;rcases aU.1 c with rfl|c;{exact⟨k,s,a,b,(aw _ _▸f).1⟩};exact CE h x c
theorem agT{d:M ao}:Rt ip mt d []:=⟨0,rfl⟩
theorem agS{d:M ao}{l:M aD}(h:Rt ip mt d l){x:aD}(c:x∈l):∃k n,ew d x.aq=Z k/\nth d k=Z n/\(n.ax=2->(keyOf n x).2=I)/\Rt ip mt (dk n.ai) x.ai:=by obtain⟨N,e⟩:=h;obtain⟨k,n,g,f,a⟩:=CE e x c;refine⟨k,n,g,f,?_⟩;cases N with|zero=>{cases a}|succ N=>simp only[qn,Az]at a;split at a;{rename_i b;simp only[eY,decide_eq_true_eq]at b;simp only[aw,decide_eq_true_eq]at a;refine⟨λh=>by omega,?_⟩;rw[eZ.1 a.1];exact agT};split at a;{simp only[aw]at a;exact⟨λ_=>a.1,N,a.2.2⟩};rename_i b;simp only[aw]at a;refine⟨λh=>by simp[h]at b,N,a.2.2⟩
theorem V0{ok:Bool}{s:M ao}{l:M aD}(h:tY ip mt ok s l=I):Rt ip mt (dk s) l:=by simp only[tY,aw]at h;exact⟨_,h.2.2⟩
end
theorem Ng:∀{a b c:M UInt8},Op.bytesLess a b=I->Op.bytesLess b c=I->Op.bytesLess a c=I
 |_,[],_,h,_=>by rename_i a c;cases a<;>simp[Op.bytesLess]at h
 |_,_::_,[],_,h=>by simp[Op.bytesLess]at h
 |[],_::_,_::_,_,_=>by simp[Op.bytesLess]
 |x::a,y::b,d::c,f,e=>by simp only[Op.bytesLess,eY,decide_eq_true_eq,aw,beq_iff_eq]at f e ⊢;rcases f with f|⟨rfl,f⟩;{rcases e with e|⟨rfl,e⟩;{have a1:x.toNat<y.toNat:=f;have a2:y.toNat<d.toNat:=e;exact .inl (show x.toNat<d.toNat by omega)};exact .inl f};rcases e with e|⟨rfl,e⟩;{exact .inl e};exact .inr ⟨rfl,Ng f e⟩
def acD{a b c:z}(e:nD a b=I)(d:nD b c=I):nD a c=I:=Ng e d
def OM(a:M z):lL a []=J:=by cases a<;>simp[lL,Ar]
def abC(y:z)(b:M z):lL [] (y::b)=I:=by simp[lL,Ar]
def Xf(x y:z)(a b:M z):lL (x::a) (y::b)=if x=y then lL a b else nD x y:=by unfold lL;rw[Ar];by_cases h:x=y;{subst h;simp[lsC]};simp[lsC,h]
theorem GC:∀{a b c:M z},lL a b=I->lL b c=I->lL a c=I
 |a,[],c,h,_=>by rw[OM]at h;cases h
 |a,y::b,[],_,h=>by rw[OM]at h;cases h
 |[],y::b,d::c,_,_=>abC d c
 |x::a,y::b,d::c,g,f=>by rw[Xf]at g f ⊢;by_cases k:x=y;{subst k;rw[if_pos rfl]at g;by_cases i:x=d;{rw[if_pos i]at f ⊢;exact GC g f};rw[if_neg i]at f ⊢;exact f};rw[if_neg k]at g;by_cases i:y=d;{subst i;rw[if_neg k];exact g};rw[if_neg i]at f;have j:=acD g f;(have l:¬x=d:=λe=>by rw[e,acC]at j;cases j);rw[if_neg l];exact j
def afo(d:M ao)(i:Nat):Bool:=match nth d i with
 |some n=>mZ n.ax
 |none=>J
def ah3(d:M ao)(i:Nat)(x:aD):M z:=match nth d i with
 |some n=>(keyOf n x).1
 |none=>[]
def Yc(d:M ao)(x y:aD):Bool:=match ew d x.aq,ew d y.aq with
 |some i,Z k=>if (Z' (i=k) && afo d i)=I then lL (ah3 d i x) (ah3 d i y) else Z' (i<k)
 |_,_=>J
theorem U9{d:M ao}{x y a:aD}(c:Yc d x y=I)(b:Yc d y a=I):Yc d x a=I:=by unfold Yc at *;cases l:ew d x.aq with|none=>{simp[l]at c}|some i=>cases f:ew d y.aq with|none=>{simp[f]at b}|some j=>cases h:ew d a.aq with|none=>{simp[f,h]at b}|some k=>simp only[l,f]at c;simp only[f,h]at b;simp only;by_cases g:i=j;{subst g;by_cases e:i=k;{subst e;cases m:afo d i<;>simp[m]at c b ⊢;exact GC c b};simp only[e,decide_false,dK,aQ,if_false]at b ⊢;exact b};simp only[g,decide_false,dK,aQ,if_false,decide_eq_true_eq]at c;by_cases e:j=k;{subst e;simp only[g,decide_false,dK,aQ,if_false,decide_eq_true_eq];exact c};simp only[e,decide_false,dK,aQ,if_false,decide_eq_true_eq]at b;(have n:¬i=k:=by omega);simp only[n,decide_false,dK,aQ,if_false,decide_eq_true_eq];omega
def Srt(d:M ao)(l:M aD):Prop:=l.Pairwise λx y=>Yc d x y=I
def Okn(nr:ao->aD->Bool)(d:M ao)(x:aD):Prop:=∃k n,ew d x.aq=Z k/\nth d k=Z n/\nr n x=I
def ady{d:M ao}{p e:aD}{a k:Nat}{s:ao}(c:ew d p.aq=Z a)(f:ew d e.aq=Z k)(b:nth d k=Z s):tI (Z (p,a)) s k e=Yc d p e:=by unfold tI Yc;simp only[c,f];by_cases h:a=k;{subst h;simp only[afo,ah3,b]};simp only[h,decide_false,dK,aQ,if_false]
theorem N_{nr:ao->aD->Bool}{d:M ao}:∀{l:M aD} {i:Nat} {t:u (aD×Nat)},(∀p k,t=Z (p,k)->ew d p.aq=Z k)->
  (Il (jB (mb () nr d) i t l)=I↔(∀x∈l,Okn nr d x)/\Srt d l/\∀p k,t=Z (p,k)->∀x∈l,Yc d p x=I)
 |[],i,t,m=>by simp[jB,Il,Srt]
 |e::l,i,t,m=>by cases c:ew d e.aq with|none=>{simp only[jB,mb,c,Il,aQ,false_iff];rintro⟨h,_⟩;obtain⟨k,n,b,_⟩:=h e eo;rw[c]at b;cases b}|some k=>cases b:nth d k with|none=>{simp only[jB,mb,c,b,Il,aQ,false_iff];rintro⟨h,_⟩;obtain⟨a,n,v,r,_⟩:=h e eo;rw[c]at v;cases v;rw[b]at r;cases r}|some s=>(have o:∀p a,t=Z (p,a)->tI t s k e=Yc d p e:=λp a h=>by rw[h];exact ady (m p a h) c b);have y:=N_ (nr:=nr) (l:=l) (i:=i+1) (t:=Z (e,k)) (d:=d) (λp a h=>by cases h;exact c);simp only[jB,mb,c,b];by_cases f:(nr s e && tI t s k e)=I;{rw[if_pos f];simp only;rw[y];simp only[aw]at f;constructor;{rintro⟨a1,a2,a3⟩;refine⟨bw.2 ⟨⟨k,s,c,b,f.1⟩,a1⟩,List.pairwise_cons.2 ⟨a3 e k rfl,a2⟩,λp a h=>?_⟩;(have g:Yc d p e=I:=by rw[<- o p a h];exact f.2);exact bw.2 ⟨g,λx j=>U9 g (a3 e k rfl x j)⟩};rintro⟨a1,a2,a3⟩;have a4:=List.pairwise_cons.1 a2;exact⟨λx j=>a1 x (eb _ j),a4.2,λp a h=>by cases h;exact a4.1⟩};rw[if_neg f];simp only[Il,aQ,false_iff];rintro⟨a1,a2,a3⟩;apply f;obtain⟨a,n,g,w,A⟩:=a1 e eo;rw[c]at g;cases g;rw[b]at w;cases w;rw[A,dC];cases t with|none=>{rfl}|some q=>obtain⟨p,a⟩:=q;rw[o p a rfl];exact a3 p a rfl e eo
def XJ{nr:ao->aD->Bool}{d:M ao}{l:M aD}:l_ nr d l=I↔(∀x∈l,Okn nr d x)/\Srt d l:=by unfold l_;rw[N_ (λp k h=>by cases h)];simp
def l8:z:=⟨#[]⟩
def wW(s:M ao)(a:z):u ao:=match ew (dk s) a with
 |some k=>nth (dk s) k
 |none=>O
def L0{s:M ao}{a:z}{n:ao}(h:wW s a=Z n):∃k,ew (dk s) a=Z k/\nth (dk s) k=Z n/\n.aq=a/\n∈dk s:=by unfold wW at h;split at h;{rename_i k b;obtain⟨e,c,d⟩:=dw b;rw[h]at c;cases c;exact⟨k,b,h,by simpa using d,bj h⟩};cases h
def aan{a:Type}{p:a->Bool}{l:M a}{k:Nat}(h:uZ p l k=O){x:a}(d:x∈l):p x=J:=by have c:=pW (p:=p) (l:=l) (k:=k);rw[h]at c;have b:l.any p=J:=c.symm;rw[List.any_eq_false]at b;simpa using b x d
end Go.Proofs.YtbnmicpicjmgiaaGreatDoor
