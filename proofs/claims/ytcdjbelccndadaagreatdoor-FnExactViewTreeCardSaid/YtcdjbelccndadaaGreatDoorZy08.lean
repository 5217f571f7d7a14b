/- Part of the proof: a machine over plain data, its proof, the functions of the program run on symbols, what they answer. Condition: none. -/
import Derived.Test.YtcdjbelccndadaaGreatDoorZy06
set_option linter.unusedVariables false
set_option linter.unusedSimpArgs false
open Bool renaming and_eq_true->ab,false_eq_true->av,false_ne_true->ck,not_eq_true'->cq,true_and->cB,eq_false_iff->cT,eq_iff_iff->dC,or_eq_true->dD,false_and->er,and_true->fo,and_assoc->fq,not_not->fS,or_assoc->fT,and_self->iL,false_or->iM,or_false->iN,and_false->iW,or_true->jr,not_false->kb,true_or->sI
open ByteArray renaming size_append->gJ,data_append->lY,size->n5,ext->pn
open Int renaming toNat_natCast->cE,lt_irrefl->eA,neg_neg->qE
open List renaming cons_append->ai,nil_append->ao,length_map->au,mem_cons->ay,length_cons->az,replicate->aE,append_nil->aG,length_nil->aK,length_append->aL,mem_append->aM,map_cons->aQ,all_eq_true->aS,take_length->aU,drop_zero->aV,sizeOf_lt_of_mem->aW,length_take->a_,take_zero->ba,take_append_drop->bc,append_assoc->bh,range->bE,cons_ne_nil->bP,mem_map->bQ,all_cons->bT,nodup_cons->cd,length_eq_zero_iff->cm,mem_singleton->ct,drop_length->cu,take_succ_cons->cx,mem_cons_of_mem->cz,length_eq_one_iff->cJ,map_append->dd,map_id'->dz,map_nil->dB,ext_getElem?->ed,mem_cons_self->eu,drop_of_length_le->eB,replicate_succ->fu,isEmpty_nil->gK,not_mem_nil->gM,getElem?_set->iz,isEmpty_cons->iA,any_eq_true->kv,any_cons->kS,map_take->nc,map_const'->nY,length_filter_le->tC,foldl_nil->uE,getElem?_append->uF
open List.cons renaming injEq->bw,sizeOf_spec->bB
open Nat renaming le_refl->aj,lt_irrefl->aq,le_trans->aA,lt_succ_self->aO,zero_add->bm,lt_or_ge->cY,add_assoc->du,add_zero->eD,zero_le->qH
open Option renaming map_eq_some_iff->ad,map_some->aD,isSome_iff_exists->bF,isSome_some->gP,getD_some->mH
open Option.some renaming injEq->aa,inj->eM
open SizeOf renaming sizeOf->ah
open UInt8 renaming ofNat->cL
namespace Go.Proofs.YtcdjbelccndadaaGreatDoor
set_option maxRecDepth 100000
set_option maxHeartbeats 4000000
section
def ix(l:List ByteArray)(v:ByteArray):Option Nat:=sS (λe=>decide (v=e)) l 0
theorem vd{α:Type}{p:α->Bool}:∀{l:List α} {k:Nat},(sS p l k).isSome=l.any p
 |[],_=>rfl
 |e::l,k=>by
  simp only[sS,kS];by_cases h:p e=true
  ·simp[h]
  ·simp[h,vd (l:=l)]
def lH(l:List ByteArray)(v:ByteArray):Bool:=l.any λe=>decide (v=e)
theorem QR{l:List ByteArray}{v:ByteArray}:lH l v=true↔v∈l:=by simp[lH]
theorem Ur{l:List ByteArray}{v:ByteArray}:lH l v=false↔v∉l:=by rw[<- QR];simp
theorem Yv(l:List ByteArray)(v:ByteArray):(ix l v).isSome=lH l v:=by rw[ix,vd,lH]
theorem q96{l:List ByteArray}{v:ByteArray}(hs:l.length<=mg):G 96 [aN l,.str v]=some (0,[.int .i64 (n9 (ix l v))]):=by
 refine bY s96 rfl ?_;simp only[go_sem,t96];have hl:=nN (b:=lB G Mh) l (λi=>(0,[aN l,.str v,.int .i64 l.length,.int .i64 (i:Int)])) (λe=>decide (v=e)) (1,[aN l,.str v,.int .i64 l.length,.int .i64 l.length,.bool false]) (λi e=>(0,[.int .i64 (i:Int)])) (by
  intro i e hn;have hi:=aP hn;have hw:=wj hi hs;simp only[go_sem,bl,Mh,hi,aH,hn,fm]
  repeat' (first|with_reducible rfl|((first|rw[eZ]|rw[fe]|rw[eY]|rw[fc]);split<;>simp only[go_sem, *]))
  all_goals simp_all) (by simp only[go_sem,bl,Mh,aq])
 rw[n0]at hl;rw[au,hl];unfold ix;cases hf:sS (λe=>decide (v=e)) l 0 with
 |none=>simp only[go_sem,n9]
 |some j=>
  obtain⟨e,h1,h2⟩:=ef hf;simp only[go_sem,h1,n9]
theorem YO(o:Option Nat):decide (0<=n9 o)=o.isSome:=by
 cases o with
 |none=>rfl
 |some j=>simp[n9]
theorem q99{l:List ByteArray}{v:ByteArray}(hs:l.length<=mg):G 99 [aN l,.str v]=some (0,[.bool (lH l v)]):=by
 refine bY s99 rfl ?_;simp only[go_sem,t99,q96 hs,YO,Yv]
theorem MF(k:Nat)(fl:Bool)(es:List (List D))(n:Nat)(h:n<=es.length):aJ (.cut true) [.list k fl es,.int .i64 0,.int .i64 (n:Int)]=some (.list k fl (es.take n)):=by
 simp[aJ,dI,h]
def qd(l:List ByteArray):Bool:=allI (λi e=>!lH (l.take i) e) 0 l
theorem Be:∀(m:List ByteArray) (l:List ByteArray) ,allI (λi e=>!lH ((m++l).take i) e) m.length l=true↔l.Nodup/\∀e∈l,e∉m
 |m,[]=>by simp[allI]
 |m,e::l=>by
  have ih:=Be (m++[e]) l;rw[bh,aL]at ih;simp only[allI,ab,cd];simp only[az,aK,List.singleton_append,bm]at ih;rw[ih];simp only[List.take_left',cq,Ur,aM,ay,gM,or_false,not_or];refine⟨λ⟨h1,h2,h3⟩=>⟨⟨λh=>(h3 e h).2 rfl,h2⟩,λx hx=>?_⟩,λ⟨⟨h1,h2⟩,h3⟩=>⟨h3 e (.inl rfl),h2,λx hx=>⟨h3 x (.inr hx),λh=>h1 (h▸hx)⟩⟩⟩;rcases hx with rfl|hx
  ·exact h1
  ·exact (h3 x hx).1
theorem pv(l:List ByteArray):qd l=true↔l.Nodup:=by
 have:=Be [] l
 simpa [qd] using this
theorem OA{l:List ByteArray}(hs:l.length<=mg):G 257 [aN l]=some (0,[.bool (qd l)]):=by
 refine bY aeF rfl ?_;simp only[go_sem,t257];have hl:=l7 (b:=lB G EX) l (λi=>(0,[aN l,.int .i64 l.length,.int .i64 (i:Int)])) (λi e=>!lH (l.take i) e) (1,[aN l,.int .i64 l.length,.int .i64 l.length,.bool false]) (0,[.bool false]) (by
  intro i e hn;have hi:=aP hn;have hw:=wj hi hs;have hc:aJ (.cut true) [aN l,.int .i64 0,.int .i64 (i:Int)]=some (aN (l.take i)):=by
   rw[MF _ _ _ _ (by rw[au];omega),<- nc]
  have h99:=q99 (l:=l.take i) (v:=e) (by rw[a_];omega);simp only[go_sem,bl,EX,hi,aH,hn,fm,hc,h99]
  repeat' (first|with_reducible rfl|((first|rw[eZ]|rw[fe]|rw[eY]|rw[fc]);split<;>simp only[go_sem, *]))
  all_goals simp_all) (by simp only[go_sem,bl,EX,aq]) l.length 0 (by omega)
 rw[n0]at hl;rw[au,hl];rw[show qd l=allI (λi e=>!lH (l.take i) e) 0 (l.drop 0) from rfl];cases allI (λi e=>!lH (l.take i) e) 0 (l.drop 0)<;>simp only[go_sem]
theorem Zv{l:List ByteArray}(hs:cD fm l<=mg):G 271 [aN l]=some (0,[.bool (l.all isName)]):=by
 refine bY aeT rfl ?_;simp only[go_sem,afH];have hlen:l.length<=mg:=by simp only[cD]at hs;omega
 have hl:=gT (b:=lB G E6) l (λi=>(0,[aN l,.int .i64 l.length,.int .i64 (i:Int)])) isName (1,[aN l,.int .i64 l.length,.int .i64 l.length,.bool false]) (0,[.bool false]) (by
  intro i e hn;have hi:=aP hn;have hw:=wj hi hlen;have agx:=Vx (s:=e) (by have:=MR l (aT hn);omega);simp only[go_sem,bl,E6,hi,aH,hn,fm,agx]
  repeat' (first|with_reducible rfl|((first|rw[eZ]|rw[fe]|rw[eY]|rw[fc]);split<;>simp only[go_sem, *]))
  all_goals simp_all) (by simp only[go_sem,bl,E6,aq])
 rw[n0]at hl;rw[au,hl];cases l.all isName<;>simp only[go_sem]
end
section
theorem LB{α σ ρ:Type}{b:σ->Option (Sg σ ρ)}(es:List α)(mk:Nat->σ)(p:Nat->α->Bool)(yes no:ρ)
  (nB:∀i e,nth es i=some e->(∀j x,j < i->nth es j=some x->p j x=true)->b (mk i)=some (if p i e=true then .go (mk (i+1)) else .out no))
  (fE:b (mk es.length)=some (.out yes)):∀m i,i+m=es.length->(∀j x,j < i->nth es j=some x->p j x=true)->bR b (mk i)=some (if allI p i (es.drop i)=true then yes else no)
 |0,i,h,hp=>by
  obtain rfl:i=es.length:=by omega
  rw[bk fE,cu];rfl
 |m+1,i,h,hj=>by
  have a1:=dr (l:=es) (i:=i) (by omega);have h1:=nB i _ a1 hj;have e1:allI p i (es.drop i)=(p i (es[i]'(by omega)) && allI p (i+1) (es.drop (i+1))):=by rw[gX es i _ a1];rfl
  rw[e1];by_cases hp:p i (es[i]'(by omega))=true
  ·rw[if_pos hp]at h1;rw[cF h1,hp,cB];refine LB es mk p yes no nB fE m (i+1) (by omega) λj x Ux hx=>?_;rcases cY j i with h2|h2
   ·exact hj j x h2 hx
   ·obtain rfl:j=i:=by omega
    rw[a1]at hx;cases hx;exact hp
  ·rw[if_neg hp]at h1;rw[bk h1,cT.2 hp,er,if_neg ck]
theorem Hp{α σ ρ:Type}{b:σ->Option (Sg σ ρ)}(es:List α)(mk:Nat->σ)(p:Nat->α->Bool)(yes no:ρ)
  (nB:∀i e,nth es i=some e->(∀j x,j < i->nth es j=some x->p j x=true)->b (mk i)=some (if p i e=true then .go (mk (i+1)) else .out no))
  (fE:b (mk es.length)=some (.out yes)):bR b (mk 0)=some (if allI p 0 es=true then yes else no):=
 LB es mk p yes no nB fE es.length 0 (by omega) λj x h _=>by omega
def apart(l:List iH)(i:Nat)(e:iH):Bool:=match i with
 |0=>true
 |i+1=>match nth l i with
  |some p=>decide (p.hi+1 < e.lo)
  |none=>true
def I7(l:List iH)(i:Nat)(e:iH):Bool:=decide (e.lo<=e.hi) && (decide (-1000000000<=e.lo) && (decide (e.hi<=1000000000) && apart l i e))
def zx(l:List iH):Bool:=allI (I7 l) 0 l && decide (l.length<=6)
theorem qy{l:List iH}{i:Nat}{e:iH}:I7 l i e=true↔e.lo<=e.hi/\-1000000000<=e.lo/\e.hi<=1000000000/\apart l i e=true:=by
 simp[I7]
theorem tf{l:List iH}{i:Nat}{e:iH}(h:¬(e.lo<=e.hi/\-1000000000<=e.lo/\e.hi<=1000000000)):I7 l i e=false:=by
 rw[cT];intro hk;have:=qy.1 hk;exact h ⟨this.1,this.2.1,this.2.2.1⟩
theorem le6(n:Nat):decide ((n:Int)<=6)=decide (n<=6):=by
 rw[dC];simp
 omega
theorem ahD{l:List iH}(hs:l.length<=mg):G 215 [eS l]=some (0,[.bool (zx l)]):=by
 refine bY ad_ rfl ?_;simp only[go_sem,t215];have hl:=Hp (b:=lB G EM) l (λi=>(0,[eS l,.int .i64 (i:Int)])) (I7 l) (1,[eS l,.int .i64 l.length,.bool false]) (0,[.bool false]) (by
  intro i e hn hj;have hi:=aP hn;have hw:=wj hi hs;simp only[go_sem,bl,EM,hi,aH,hn,jG,au];by_cases h1:e.hi < e.lo
  ·simp only[go_sem,h1,tf (l:=l) (i:=i) (e:=e) (by omega)]
  by_cases h2:e.lo < -1000000000
  ·simp only[go_sem,h1,h2,tf (l:=l) (i:=i) (e:=e) (by omega),aH,hn,jG]
  by_cases h3:1000000000 < e.hi
  ·simp only[go_sem,h1,h2,h3,tf (l:=l) (i:=i) (e:=e) (by omega),aH,hn,jG]
  cases i with
  |zero=>
   have hk:I7 l 0 e=true:=qy.2 ⟨by omega,by omega,by omega,rfl⟩;simp only[go_sem,h1,h2,h3,hk,aH,hn,jG,n0,eA];simp only[go_sem,n0]at hw;rw[hw]
  |succ i=>
   have a1:=dr (l:=l) (i:=i) (by omega);have hp:=qy.1 (hj i _ (by omega) a1);generalize l[i]'(by omega)=p at a1 hp;have e1:IntKind.i64.wrap (((i+1:Nat):Int) - 1)=(i:Int):=by rw[wrap_i64 (by simp only[mg]at hs;omega)];omega
   have e2:IntKind.i64.wrap (p.hi+1)=p.hi+1:=wrap_i64 (by omega);have e3:(0:Int) < ((i+1:Nat):Int):=by omega
   by_cases h4:e.lo<=p.hi+1
   ·have hk:I7 l (i+1) e=false:=by
     simp only[I7,apart,a1];have:decide (p.hi+1 < e.lo)=false:=by simp;omega
     simp[this]
    simp only[go_sem,h1,h2,h3,h4,hk,aH,hn,jG,e1,e2,e3,a1]
   ·have hk:I7 l (i+1) e=true:=qy.2 ⟨by omega,by omega,by omega,by simp only[apart,a1];simp;omega⟩;simp only[go_sem,h1,h2,h3,h4,hk,aH,hn,jG,e1,e2,e3,a1,hw]) (by simp only[go_sem,bl,EM,aq,au])
 rw[n0]at hl;rw[hl];unfold zx;cases allI (I7 l) 0 l with
 |false=>simp only[go_sem]
 |true=>simp only[go_sem,au,le6]
theorem ade(n:Int):G 273 [.int .i64 n]=some (0,[.bool (fg (-1000000000) 1000000000 n)]):=by
 refine bY aeV rfl ?_;simp only[go_sem,afJ];unfold fg;by_cases h:-1000000000<=n
 ·simp only[go_sem,h]
 ·simp only[go_sem,h]
theorem ah6{l:List iH}(hs:l.length<=mg):G 274 [eS l]=some (0,[.bool (zx l)]):=by
 refine bY aeW rfl ?_;simp only[go_sem,afK];have hl:=Hp (b:=lB G E7) l (λi=>(0,[eS l,eS l,.int .i64 l.length,.int .i64 (i:Int)])) (I7 l) (1,[eS l,eS l,.int .i64 l.length,.int .i64 l.length,.bool false]) (0,[.bool false]) (by
  intro i e hn hj;have hi:=aP hn;have hw:=wj hi hs;simp only[go_sem,bl,E7,hi,aH,hn,jG,az,aK,aj];by_cases h1:e.hi < e.lo
  ·simp only[go_sem,h1,tf (l:=l) (i:=i) (e:=e) (by omega)]
  simp only[go_sem,h1,ade];cases b1:fg (-1000000000) 1000000000 e.lo with
  |false=>
   have:¬(-1000000000<=e.lo/\e.lo<=1000000000):=λh=>by rw[(fJ _ _ _).2 h]at b1;cases b1
   simp only[go_sem,tf (l:=l) (i:=i) (e:=e) (by omega)]
  |true=>
   have g1:=(fJ _ _ _).1 b1;simp only[go_sem,ade];cases b2:fg (-1000000000) 1000000000 e.hi with
   |false=>
    have:¬(-1000000000<=e.hi/\e.hi<=1000000000):=λh=>by rw[(fJ _ _ _).2 h]at b2;cases b2
    simp only[go_sem,tf (l:=l) (i:=i) (e:=e) (by omega)]
   |true=>
    have g2:=(fJ _ _ _).1 b2;simp only[go_sem];cases i with
    |zero=>
     have hk:I7 l 0 e=true:=qy.2 ⟨by omega,by omega,by omega,rfl⟩;simp only[go_sem,hk,n0,eA];simp only[go_sem,n0]at hw;rw[hw]
    |succ i=>
     have a1:=dr (l:=l) (i:=i) (by omega);have hp:=qy.1 (hj i _ (by omega) a1);generalize l[i]'(by omega)=p at a1 hp;have e1:IntKind.i64.wrap (((i+1:Nat):Int) - 1)=(i:Int):=by rw[wrap_i64 (by simp only[mg]at hs;omega)];omega
     have e2:IntKind.i64.wrap (p.hi+2)=p.hi+2:=wrap_i64 (by omega);have e3:(0:Int) < ((i+1:Nat):Int):=by omega
     by_cases h4:e.lo < p.hi+2
     ·have hk:I7 l (i+1) e=false:=by
       simp only[I7,apart,a1];have:decide (p.hi+1 < e.lo)=false:=by simp;omega
       simp[this]
      simp only[go_sem,h4,hk,aH,jG,e1,e2,e3,a1]
     ·have hk:I7 l (i+1) e=true:=qy.2 ⟨by omega,by omega,by omega,by simp only[apart,a1];simp;omega⟩;simp only[go_sem,h4,hk,aH,jG,e1,e2,e3,a1,hw]) (by simp only[go_sem,bl,E7,aq])
 rw[n0]at hl;rw[au,hl];unfold zx;cases allI (I7 l) 0 l with
 |false=>simp only[go_sem]
 |true=>simp only[go_sem,au,le6]
def LQ(l:List iH)(n:Int):Bool:=l.any (λe=>fg e.lo e.hi n) ||l.isEmpty
theorem qm{α:Type}(l:List α):decide ((l.length:Int)=0)=l.isEmpty:=by cases l<;>simp;omega
theorem Em{α σ ρ:Type}{b:σ->Option (Sg σ ρ)}(es:List α)(mk:Nat->σ)(p:α->Bool)(none_ NA:ρ)
  (nB:∀i e,nth es i=some e->b (mk i)=some (if p e=true then .out NA else .go (mk (i+1))))
  (fE:b (mk es.length)=some (.out none_)):bR b (mk 0)=some (if es.any p=true then NA else none_):=by
 rw[nN es mk p none_ (λ_ _=>NA) nB fE,<- vd (k:=0)];cases hf:sS p es 0 with
 |none=>rfl
 |some j=>
  obtain⟨e,h1,h2⟩:=ef hf;simp[h1]
theorem ahJ{l:List iH}{n:Int}(hs:l.length<=mg):G 232 [eS l,.int .i64 n]=some (0,[.bool (LQ l n)]):=by
 refine bY aek rfl ?_;simp only[go_sem,t232];have hl:=Em (b:=lB G EN) l (λi=>(0,[eS l,.int .i64 n,.int .i64 (i:Int)])) (λe=>fg e.lo e.hi n) (1,[eS l,.int .i64 n,.int .i64 l.length,.bool false]) (0,[.bool true]) (by
  intro i e hn;have hi:=aP hn;have hw:=wj hi hs;simp only[go_sem,bl,EN,hi,aH,hn,jG,au,yA];cases hb:fg e.lo e.hi n<;>simp only[go_sem,hw]) (by simp only[go_sem,bl,EN,aq,au])
 rw[n0]at hl;rw[hl];unfold LQ;cases l.any (λe=>fg e.lo e.hi n) with
 |true=>simp only[go_sem]
 |false=>simp only[go_sem,au,qm]
theorem aia{l:List iH}{n:Int}(hs:l.length<=mg):G 288 [eS l,.int .i64 n]=some (0,[.bool (LQ l n)]):=by
 refine bY ae2 rfl ?_;simp only[go_sem,afP];have hl:=Em (b:=lB G E9) l (λi=>(0,[eS l,.int .i64 n,eS l,.int .i64 l.length,.int .i64 (i:Int)])) (λe=>fg e.lo e.hi n) (1,[eS l,.int .i64 n,eS l,.int .i64 l.length,.int .i64 l.length,.bool false]) (0,[.bool true]) (by
  intro i e hn;have hi:=aP hn;have hw:=wj hi hs;simp only[go_sem,bl,E9,hi,aH,hn,jG,az,aK,aj];unfold fg;by_cases h1:e.lo<=n
  ·by_cases h2:n<=e.hi<;>simp only[go_sem,h1,h2,hw]
  ·simp only[go_sem,h1,hw]) (by simp only[go_sem,bl,E9,aq])
 rw[n0]at hl;rw[au,hl];unfold LQ;cases l.any (λe=>fg e.lo e.hi n) with
 |true=>simp only[go_sem]
 |false=>simp only[go_sem,au,qm]
end
section
def dg(s:ByteArray):Nat->Nat->Int->Option Int
 |_,0,n=>some n
 |i,m+1,n=>if fg 48 57 (da s i)=true then (if 1000000000 < 10 * n+(da s i - 48) then none else dg s (i+1) m (10 * n+(da s i - 48))) else none
def Xv(s:ByteArray):Option Int->Nat×List D
 |some r=>(1,[.str s,.int .i64 r,.int .i64 s.size,.bool false])
 |none=>(0,[.int .i64 0,.bool false])
theorem Lh{s:ByteArray}(hs:s.size<=mg):∀(m i:Nat) (n:Int),i+m=s.size->0<=n->n<=1000000000->
  bR (lB G wR) (0,[.str s,.int .i64 n,.int .i64 (i:Int)])=some (Xv s (dg s i m n))
 |0,i,n,h,h0,h1=>by
  obtain rfl:i=s.size:=by omega
  refine bk ?_;simp only[go_sem,bl,wR,aq,dg,Xv]
 |m+1,i,n,h,h0,h1=>by
  have hi:i < s.size:=by omega
  have hw:=wj hi hs;have hb:=pX s i;cases hd:fg 48 57 (da s i) with
  |false=>
   refine (bk (r:=(0,[.int .i64 0,.bool false])) ?_).trans (by simp[dg,hd,Xv]);simp only[go_sem,bl,wR,hi,ek,yA,hd]
  |true=>
   have h2:=(fJ _ _ _).1 hd;have e1:IntKind.i64.wrap (10 * n)=10 * n:=wrap_i64 (by omega);have e2:IntKind.u8.wrap (da s i - 48)=da s i - 48:=wrap_u8 (by omega);have e3:IntKind.i64.wrap (da s i - 48)=da s i - 48:=wrap_i64 (by omega);have e4:IntKind.i64.wrap (10 * n+(da s i - 48))=10 * n+(da s i - 48):=wrap_i64 (by omega);by_cases h3:1000000000 < 10 * n+(da s i - 48)
   ·refine (bk (r:=(0,[.int .i64 0,.bool false])) ?_).trans (by simp[dg,hd,Xv,h3]);simp only[go_sem,bl,wR,hi,ek,yA,hd,e1,e2,e3,e4,h3]
   ·rw[show dg s i (m+1) n=dg s (i+1) m (10 * n+(da s i - 48)) by simp[dg,hd,h3],<- Lh hs m (i+1) _ (by omega) (by omega) (by omega)];refine cF ?_;simp only[go_sem,bl,wR,hi,ek,yA,hd,e1,e2,e3,e4,h3,hw]
def FK(s:ByteArray):Option Int:=if s.size=0 then none else dg s 0 s.size 0
def lq:Option Int->List D
 |some n=>[.int .i64 n,.bool true]
 |none=>[.int .i64 0,.bool false]
theorem gt0(n:Nat):decide (0 < (n:Int))=!decide (n=0):=by
 rw[dC];simp;omega
theorem Zj{s:ByteArray}(hs:s.size<=mg):G 229 [.str s]=some (0,lq (FK s)):=by
 refine bY aeh rfl ?_;simp only[go_sem,t229];have hl:=Lh hs s.size 0 0 (by omega) (by omega) (by omega);rw[n0]at hl;rw[hl];unfold FK;by_cases h0:s.size=0
 ·rw[if_pos h0,h0];simp only[go_sem,dg,Xv,lq,h0,n0,eA]
 ·rw[if_neg h0];cases dg s 0 s.size 0 with
  |none=>simp only[go_sem,Xv,lq]
  |some n=>
   have:(0:Int) < (s.size:Int):=by omega
   simp only[go_sem,Xv,lq,this]
theorem zK{s:ByteArray}:∀(m i:Nat) (n r:Int),0<=n->n<=1000000000->dg s i m n=some r->0<=r/\r<=1000000000
 |0,i,n,r,h0,h1,h=>by cases h;exact⟨h0,h1⟩
 |m+1,i,n,r,h0,h1,h=>by
  simp only[dg]at h
  split at h
  ·rename_i hd;have h2:=(fJ _ _ _).1 hd
   split at h
   ·cases h
   ·exact zK m (i+1) _ r (by omega) (by omega) h
  ·cases h
theorem DF{s:ByteArray}{r:Int}(h:FK s=some r):0<=r/\r<=1000000000:=by
 unfold FK at h
 split at h
 ·cases h
 ·exact zK _ _ _ _ (by omega) (by omega) h
def Kl(s:ByteArray):Bool:=!decide (s.size=0) && (decide (da s 0=45) ||decide (da s 0=43))
def tl(s:ByteArray):ByteArray:=s.extract 1 s.size
theorem FZ(s:ByteArray):(tl s).size=s.size - 1:=by simp[tl]
def I8(s:ByteArray):Option Int:=(FK (if Kl s=true then tl s else s)).map λn=>if da s 0=45 then -n else n
theorem zf(t:ByteArray)(h:1<=t.size):aJ (.I_ false) [.str t,.int .i64 1]=some (.str (tl t)):=by
 simp[aJ,dI,tl,h]
theorem l9{t:ByteArray}(h:0 < t.size):aJ .kV [.str t,.int .i64 0]=some (.int .u8 (da t 0)):=ek t 0 h
theorem OB{s:ByteArray}{r:Int}(h:I8 s=some r):-1000000000<=r/\r<=1000000000:=by
 obtain⟨n,h1,rfl⟩:=ad.1 h;have:=DF h1
 split<;>omega
theorem agj{s:ByteArray}{r:Int}(h:FK s=some r):0 < s.size:=by
 unfold FK at h
 split at h
 ·cases h
 ·omega
theorem ahI{s:ByteArray}(hs:s.size<=mg):G 230 [.str s]=some (0,lq (I8 s)):=by
 refine bY aei rfl ?_;simp only[go_sem,t230];have ht:=Zj (s:=tl s) (by rw[FZ];omega);by_cases h0:s.size=0
 ·have hr:I8 s=none:=by simp[I8,Kl,h0,FK]
  have hd:FK s=none:=by simp[FK,h0]
  rw[hr];simp only[go_sem,gt0,h0,Zj hs,hd,lq]
 ·have hp:0 < s.size:=by omega
  simp only[go_sem,gt0,h0,l9 hp];by_cases h1:da s 0=45
  ·have Q9:Kl s=true:=by simp[Kl,h0,h1]
   simp only[go_sem,h1,zf s hp,ht,I8,Q9];cases hr:FK (tl s) with
   |none=>simp only[go_sem,lq]
   |some n=>
    have:=DF hr;have hw:IntKind.i64.wrap (-n)=-n:=wrap_i64 (by omega);simp only[go_sem,lq,l9 hp,h1,hw]
  ·by_cases h2:da s 0=43
   ·have Q9:Kl s=true:=by simp[Kl,h0,h2]
    simp only[go_sem,h2,zf s hp,ht,I8,Q9,l9 hp];cases hr:FK (tl s) with
    |none=>simp only[go_sem,lq]
    |some n=>simp only[go_sem,lq,l9 hp,h2]
   ·have Q9:Kl s=false:=by simp[Kl,h1,h2]
    simp only[go_sem,h1,h2,Zj hs,I8,Q9,l9 hp];cases hr:FK s with
    |none=>simp only[go_sem,lq]
    |some n=>simp only[go_sem,lq,l9 hp,h1]
def di(s:ByteArray):Nat->Nat->Int->Option Int
 |_,0,n=>some n
 |i,m+1,n=>if fg 48 57 (da s i)=true then di s (i+1) m (if n<=1000000000 then n * 10+(da s i - 48) else n) else none
theorem PV(s:ByteArray):∀(m i:Nat) (n r:Int),1000000000 < n->di s i m n=some r->r=n
 |0,i,n,r,h,hd=>by cases hd;rfl
 |m+1,i,n,r,h,hd=>by
  simp only[di]at hd
  split at hd
  ·rw[if_neg (by omega)]at hd;exact PV s m (i+1) n r h hd
  ·cases hd
theorem Wj(s:ByteArray):∀(m i:Nat) (n:Int),0<=n->n<=1000000000->(match di s i m n with|some r=>if 1000000000 < r then none else some r|none=>none)=dg s i m n
 |0,i,n,h0,h1=>by
  simp only[di,dg];rw[if_neg (by omega)]
 |m+1,i,n,h0,h1=>by
  simp only[di,dg];cases hd:fg 48 57 (da s i) with
  |false=>simp
  |true=>
   have h2:=(fJ _ _ _).1 hd;simp only[if_true];rw[if_pos h1,show n * 10+(da s i - 48)=10 * n+(da s i - 48) by omega];by_cases h3:1000000000 < 10 * n+(da s i - 48)
   ·rw[if_pos h3];cases hr:di s (i+1) m (10 * n+(da s i - 48)) with
    |none=>rfl
    |some r=>
     rw[PV s m (i+1) _ r h3 hr];simp only[if_pos h3]
   ·rw[if_neg h3];exact Wj s m (i+1) _ (by omega) (by omega)
def PU(s:ByteArray)(b:Bool):Option Int->Nat×List D
 |some r=>(1,[.str s,.bool b,.int .i64 r,.int .i64 s.size,.bool false])
 |none=>(0,[.int .i64 0,.bool false])
theorem U2:Rz=rW:=(rfl)
theorem uX{s:ByteArray}(hs:s.size<=mg)(b:Bool):∀(m i:Nat) (n:Int),i+m=s.size->0<=n->n<=10000000009->
  bR (lB G rW) (0,[.str s,.bool b,.int .i64 n,.int .i64 (i:Int)])=some (PU s b (di s i m n))
 |0,i,n,h,h0,h1=>by
  obtain rfl:i=s.size:=by omega
  refine bk ?_;simp only[go_sem,bl,rW,aq,di,PU]
 |m+1,i,n,h,h0,h1=>by
  have hi:i < s.size:=by omega
  have hw:=wj hi hs;have hb:=pX s i;by_cases d1:da s i < 48
  ·have hd:fg 48 57 (da s i)=false:=by simp[fg];omega
   refine (bk (r:=(0,[.int .i64 0,.bool false])) ?_).trans (by simp[di,hd,PU]);simp only[go_sem,bl,rW,hi,ek,d1]
  ·by_cases d2:57 < da s i
   ·have hd:fg 48 57 (da s i)=false:=by simp[fg];omega
    refine (bk (r:=(0,[.int .i64 0,.bool false])) ?_).trans (by simp[di,hd,PU]);simp only[go_sem,bl,rW,hi,ek,d1,d2]
   ·have hd:fg 48 57 (da s i)=true:=by simp[fg];omega
    have e1:n<=1000000000->IntKind.i64.wrap (n * 10)=n * 10:=λh=>wrap_i64 (by omega);have e2:IntKind.u8.wrap (da s i - 48)=da s i - 48:=wrap_u8 (by omega);have e3:IntKind.i64.wrap (da s i - 48)=da s i - 48:=wrap_i64 (by omega);have e4:n<=1000000000->IntKind.i64.wrap (n * 10+(da s i - 48))=n * 10+(da s i - 48):=λh=>wrap_i64 (by omega);by_cases h3:n<=1000000000
    ·rw[show di s i (m+1) n=di s (i+1) m (n * 10+(da s i - 48)) by simp[di,hd,h3],<- uX hs b m (i+1) _ (by omega) (by omega) (by omega)];refine cF ?_;simp only[go_sem,bl,rW,hi,ek,d1,d2,e1 h3,e2,e3,e4 h3,h3,hw]
    ·rw[show di s i (m+1) n=di s (i+1) m n by simp[di,hd,h3],<- uX hs b m (i+1) _ (by omega) (by omega) (by omega)];refine cF ?_;simp only[go_sem,bl,rW,hi,ek,d1,d2,h3,hw]
theorem cA(s:ByteArray):decide (s=⟨#[]⟩)=decide (s.size=0):=by
 rw[dC];simp only[decide_eq_true_eq];refine⟨λh=>by rw[h];rfl,λh=>?_⟩;cases s with
 |mk a=>simp[n5]at h;rw[h]
theorem ba0:(⟨[].toArray⟩:ByteArray)=⟨#[]⟩:=(rfl)
attribute [go_sem] ba0 cA U2
theorem ah_{s:ByteArray}(hs:s.size<=mg):G 287 [.str s]=some (0,lq (I8 s)):=by
 refine bY ae1 rfl ?_;simp only[go_sem,afO];have fin:∀(t:ByteArray) (b:Bool),t.size<=mg->(match di t 0 t.size 0 with|some r=>if 1000000000 < r then none else some r|none=>none)=dg t 0 t.size 0:=λt b ht=>Wj t t.size 0 0 (by omega) (by omega);by_cases h0:s.size=0
 ·have hr:I8 s=none:=by simp[I8,Kl,h0,FK]
  rw[hr];simp only[go_sem,h0,lq]
 ·have hp:0 < s.size:=by omega
  simp only[go_sem,h0,l9 hp];by_cases h1:da s 0=45
  ·have Q9:Kl s=true:=by simp[Kl,h0,h1]
   have mE:(tl s).size<=mg:=by rw[FZ];omega
   have hf:=fin (tl s) true mE;have hl:=uX mE true (tl s).size 0 0 (by omega) (by omega) (by omega);rw[n0]at hl;simp only[go_sem,h1,zf s hp,l9 hp,I8,Q9];by_cases ht:(tl s).size=0
   ·simp only[go_sem,ht,FK,lq]
   ·simp only[go_sem,ht,FK,hl];rw[<- hf];cases hr:di (tl s) 0 (tl s).size 0 with
    |none=>simp only[go_sem,PU,lq]
    |some n=>
     by_cases hm:1000000000 < n
     ·simp only[go_sem,PU,lq,hm]
     ·have h9:dg (tl s) 0 (tl s).size 0=some n:=by rw[<- hf,hr];simp[hm]
      have:=zK _ _ _ _ (by omega) (by omega) h9;have hw:IntKind.i64.wrap (-n)=-n:=wrap_i64 (by omega);simp only[go_sem,PU,lq,hm,hw]
  ·by_cases h2:da s 0=43
   ·have Q9:Kl s=true:=by simp[Kl,h0,h2]
    have mE:(tl s).size<=mg:=by rw[FZ];omega
    have hf:=fin (tl s) false mE;have hl:=uX mE false (tl s).size 0 0 (by omega) (by omega) (by omega);rw[n0]at hl;simp only[go_sem,h2,zf s hp,l9 hp,I8,Q9];by_cases ht:(tl s).size=0
    ·simp only[go_sem,ht,FK,lq]
    ·simp only[go_sem,ht,FK,hl];rw[<- hf];cases hr:di (tl s) 0 (tl s).size 0 with
     |none=>simp only[go_sem,PU,lq]
     |some n=>by_cases hm:1000000000 < n<;>simp only[go_sem,PU,lq,hm]
   ·have Q9:Kl s=false:=by simp[Kl,h1,h2]
    have hf:=fin s false hs;have hl:=uX hs false s.size 0 0 (by omega) (by omega) (by omega);rw[n0]at hl;simp only[go_sem,h1,h2,I8,Q9,h0,FK,hl,l9 hp];rw[<- hf];cases hr:di s 0 s.size 0 with
    |none=>simp only[go_sem,PU,lq]
    |some n=>by_cases hm:1000000000 < n<;>simp only[go_sem,PU,lq,hm]
end
section
def bA(l:List UInt8):ByteArray:=⟨l.toArray⟩
theorem Pn(l m:List UInt8)(s:ByteArray):bA l++(bA m++s)=bA (l++m)++s:=by
 apply pn
 simp only[bA,lY];rw[<- Array.append_assoc];simp
def wA(n:Int):ByteArray:=bA (Lib.itoa n)
def Ea(u:Nat):List UInt8:=if u=0 then [] else Lib.decDigits u
theorem CM{u:Nat}(h:u≠0):Ea u=Ea (u / 10)++[cL (48+u % 10)]:=by
 unfold Ea;rw[if_neg h];rw[Lib.decDigits];by_cases h1:u < 10
 ·have:u / 10=0:=by omega
  rw[dif_pos h1,if_pos this,show u % 10=u by omega];rfl
 ·have:u / 10≠0:=by omega
  rw[dif_neg h1,if_neg this]
theorem ti(c:Int):aJ .yk [.list 1 true [[.int .u8 c]]]=some (.str (bA [cL c.toNat])):=by
 simp[aJ,bytesOf,bA]
theorem qz(k:IntKind)(c:Int):aJ (.dV 1 true) [.int k c]=some (.list 1 true [[.int k c]]):=by
 simp[aJ,chunk,cQ,D.plain]
theorem Li:∀(k u:Nat),u < 10 ^ (k+1)->(Lib.decDigits u).length<=k+1
 |0,u,h=>by rw[Lib.decDigits,dif_pos (by omega)];simp
 |k+1,u,h=>by
  rw[Lib.decDigits];split
  ·simp
  ·have:=Li k (u / 10) (by rw[Nat.pow_succ]at h;omega);simp only[aL,az,aK];omega
theorem oh(l:List UInt8):(bA l).size=l.length:=by simp[bA,n5]
theorem Lu{n:Int}{h:Nat}{u:Nat}{s:ByteArray}{x:Int}{zs:List D}(hz:(h=0/\zs=[])\/(h=1/\∃z,zs=[z]))(hu:0 < u)(hb:u<=1000000000)(hs:s.size<=20)(hx:x=(u:Int)\/x=-(u:Int)) :
  ∃z x',(x'=((u / 10:Nat):Int)\/x'=-((u / 10:Nat):Int))/\lB G mN (h,[.int .i64 n,.str s,.int .i64 x]++zs)=some (.go (1,[.int .i64 n,.str (bA [cL (48+u % 10)]++s),.int .i64 x',z])):=by
 have hm:u % 10 < 10:=Nat.mod_lt _ (by omega);have e1:IntKind.i64.wrap (48+((u % 10:Nat):Int))=((48+u % 10:Nat):Int):=by rw[wrap_i64 (by omega)];omega
 have e2:IntKind.u8.wrap ((48+u % 10:Nat):Int)=((48+u % 10:Nat):Int):=wrap_u8 (by omega);have e3:(((48+u % 10:Nat):Int)).toNat=48+u % 10:=cE _;have e4:IntKind.i64.wrap ((u % 10:Nat):Int)=((u % 10:Nat):Int):=wrap_i64 (by omega);have Hr:(bA [cL (48+u % 10)]).size+s.size<=maxLen:=by rw[oh];simp only[az,aK];exact aA (show 0+1+s.size<=21 by omega) (by decide)
 have m1:(u:Int) % 10=((u % 10:Nat):Int):=rfl;have m2:(u:Int) / 10=((u / 10:Nat):Int):=rfl;have p0:0<=(u:Int):=by omega
 have n1:¬0<=-(u:Int):=by omega
 have n2:-(u:Int) < 0:=by omega
 rcases hx with rfl|rfl
 ·have d1:¬(u:Int)=0:=by omega
  have d2:¬((u % 10:Nat):Int) < 0:=by omega
  refine⟨.list 1 true [[.int .u8 ((48+u % 10:Nat):Int)]],_,.inl rfl,?_⟩;rcases hz with ⟨rfl,rfl⟩|⟨rfl,z,rfl⟩
  ·simp only[go_sem,bl,mN,d1,p0,m1,m2,d2,e1,e2,e3,Hr,qz,ti]
  ·simp only[go_sem,bl,mN,d1,p0,m1,m2,d2,e1,e2,e3,Hr,qz,ti]
 ·have d1:¬-(u:Int)=0:=by omega
  refine⟨.list 1 true [[.int .u8 ((48+u % 10:Nat):Int)]],_,.inr rfl,?_⟩;by_cases d2:-((u % 10:Nat):Int) < 0
  ·rcases hz with ⟨rfl,rfl⟩|⟨rfl,z,rfl⟩
   ·simp only[go_sem,bl,mN,d1,n1,n2,m1,m2,qE,d2,e1,e2,e3,e4,Hr,qz,ti]
   ·simp only[go_sem,bl,mN,d1,n1,n2,m1,m2,qE,d2,e1,e2,e3,e4,Hr,qz,ti]
  ·have e5:-((u % 10:Nat):Int)=((u % 10:Nat):Int):=by omega
   rw[e5]at d2;rcases hz with ⟨rfl,rfl⟩|⟨rfl,z,rfl⟩
   ·simp only[go_sem,bl,mN,d1,n1,n2,m1,m2,qE,e5,d2,e1,e2,e3,Hr,qz,ti]
   ·simp only[go_sem,bl,mN,d1,n1,n2,m1,m2,qE,e5,d2,e1,e2,e3,Hr,qz,ti]
theorem Lt{n:Int}:∀(k u:Nat) (s:ByteArray) (x:Int) (z:D),u < 10 ^ k->k<=10->s.size+k<=20->u<=1000000000->(x=(u:Int)\/x=-(u:Int))->
  ∃z',bR (lB G mN) (1,[.int .i64 n,.str s,.int .i64 x,z])=some (1,[.int .i64 n,.str (bA (Ea u)++s),.int .i64 0,.bool false,z'])
 |k,u,s,x,z,hu,hk,hs,hb,hx=>by
  by_cases h0:u=0
  ·obtain rfl:x=0:=by omega
   refine⟨z,bk ?_⟩;have:bA (Ea u)++s=s:=by rw[h0];apply pn;simp[Ea,bA,lY]
   rw[this];simp only[go_sem,bl,mN]
  ·cases k with
   |zero=>omega
   |succ k=>
    obtain⟨z1,x',hx',h1⟩:=Lu (n:=n) (h:=1) (u:=u) (s:=s) (x:=x) (zs:=[z]) (.inr ⟨rfl,z,rfl⟩) (by omega) hb (by omega) hx;rw[Nat.pow_succ]at hu;obtain⟨z2,h2⟩:=Lt k (u / 10) (bA [cL (48+u % 10)]++s) x' z1 (by omega) (by omega) (by rw[gJ,oh];simp only[az,aK];omega) (by omega) hx';refine⟨z2,?_⟩;rw[CM h0,<- Pn,<- h2];exact cF h1
theorem ac6{n:Int}(hn:-1000000000<=n/\n<=1000000000):G 231 [.int .i64 n]=some (0,[.str (wA n)]):=by
 refine bY aej rfl ?_;simp only[go_sem,t231];by_cases h0:n=0
 ·subst h0;have hf:wA 0=⟨#[48]⟩:=by
   unfold wA Lib.itoa;rw[if_neg (by omega)];show bA (Lib.decDigits 0)=_;rw[Lib.decDigits_one (by decide)];rfl
  rw[hf];simp only[go_sem]
 ·simp only[go_sem,h0];have hu:n.natAbs<=1000000000:=by omega
  obtain⟨z1,x',hx',h1⟩:=Lu (n:=n) (h:=0) (u:=n.natAbs) (s:=⟨#[]⟩) (x:=n) (zs:=[]) (.inl ⟨rfl,rfl⟩) (by omega) hu (by simp[n5]) (by omega);have ig:n.natAbs / 10 < 10 ^ 9:=by omega
  obtain⟨z2,h2⟩:=Lt (n:=n) 9 (n.natAbs / 10) (bA [cL (48+n.natAbs % 10)]++⟨#[]⟩) x' z1 ig (by omega) (by rw[gJ,oh];simp[n5]) (by omega) hx';have h3:bR (lB G mN) (0,[.int .i64 n,.str ⟨#[]⟩,.int .i64 n])=some (1,[.int .i64 n,.str (bA (Ea n.natAbs)),.int .i64 0,.bool false,z2]):=by
   have XM:lB G mN (0,[.int .i64 n,.str ⟨#[]⟩,.int .i64 n])=_:=h1;rw[cF XM,h2,Pn,<- CM (by omega)]
   congr 5
   apply pn
   simp[bA,lY]
  rw[h3];have hd:Ea n.natAbs=Lib.decDigits n.natAbs:=by rw[Ea,if_neg (by omega)]
  rw[hd];by_cases h4:n < 0
  ·have hf:wA n=bA [45]++bA (Lib.decDigits n.natAbs):=by
    unfold wA Lib.itoa;rw[if_pos h4]
    apply pn
    simp[bA,lY]
   have hl:(Lib.decDigits n.natAbs).length<=10:=Li 9 _ (by omega);have Hr:(bA [45]).size+(bA (Lib.decDigits n.natAbs)).size<=maxLen:=by rw[oh,oh];simp only[az,aK];exact aA (show 0+1+(Lib.decDigits n.natAbs).length<=11 by omega) (by decide)
   rw[hf];have e0:(⟨[(45:UInt8)].toArray⟩:ByteArray)=bA [45]:=rfl;simp only[go_sem,h4,e0,Hr]
  ·have hf:wA n=bA (Lib.decDigits n.natAbs):=by
    unfold wA Lib.itoa;rw[if_neg h4]
    congr 2
    omega
   rw[hf];simp only[go_sem,h4]
theorem adw(n:Int):G 9001 [.int .i64 n]=some (0,[.str (wA n)]):=
 tM (i:=9001) (sg:=⟨9001,[.val false [.d]],[([.val false [.d]],[])]⟩) (v:=([.val false [.d]],[])) (j:=0) (r:=([.val false [.d (.str (wA n))]],[])) (ws:=[.int .i64 n]) rfl rfl ((RJ T rfl [.val false [.d (.int .i64 n)]]).trans rfl) rfl rfl
theorem adl(n:Int):G 303 [.int .i64 n]=some (0,[.str (wA n)]):=by
 refine bY ae3 rfl ?_;simp only[go_sem,afQ,adw]
end
section
theorem zu{α:Type}(p q:Nat->α->Bool):∀(i:Nat) (l:List α),allI (λi e=>p i e && q i e) i l=(allI p i l && allI q i l)
 |_,[]=>rfl
 |i,e::l=>by
  simp only[allI,zu p q (i+1) l];cases p i e<;>cases q i e<;>cases allI p (i+1) l<;>simp
theorem GG{α β:Type}(p:Nat->β->Bool)(f:α->β):∀(i:Nat) (l:List α),allI p i (l.map f)=allI (λi e=>p i (f e)) i l
 |_,[]=>rfl
 |i,e::l=>by simp only[aQ,allI,GG p f (i+1) l]
def We{α:Type}(q:α->Bool)(t:List α)(j:Nat):Bool:=match nth t j with
 |some x=>q x
 |none=>true
theorem uO{α:Type}(q:α->Bool)(t:List α):∀(m i:Nat),i+m<=t.length->oP (We q t) i m=((t.drop i).take m).all q
 |0,i,h=>by simp[oP]
 |m+1,i,h=>by
  have a1:=dr (l:=t) (i:=i) (by omega);rw[gX t i _ a1,cx,bT,<- uO q t m (i+1) (by omega)];simp only[oP,We,a1]
def oV(t:kg):Bool:=isName t.name && gE t.value
def tg(l:List kg):Bool:=qd (l.map kg.name) && l.all oV
theorem QS(l:List kg)(v:ByteArray):lH (l.map kg.name) v=!(l.all λx=>!decide (x.name=v)):=by
 induction l with
 |nil=>rfl
 |cons x l ih=>
  simp only[aQ,lH,kS,bT]at ih ⊢;rw[ih,decide_eq_decide.2 (eq_comm (a:=v) (b:=x.name))];cases decide (x.name=v)<;>simp
theorem Kc(l:List kg):tg l=allI (λk e=>((l.take k).all λx=>!decide (x.name=e.name)) && oV e) 0 l:=by
 have h:=zu (λk (e:kg)=>(l.take k).all λx=>!decide (x.name=e.name)) (λ_ e=>oV e) 0 l;rw[tg,h,rz,qd,GG]
 congr 2
 funext i e
 rw[<- nc,QS,fS]
def isStep(s:uN):Bool:=tg s.fx && (isName s.name && decide (s.fx.length<=3))
def ME(p:mh):Bool:=fg 0 8 p.oI && (decide (p.steps.length<=10) && ((!p.root ||decide (p.oI=0)) && (p.root ||(decide (0 < p.oI) ||!p.steps.isEmpty))))
def jJ(p:mh):Bool:=p.steps.all isStep && ME p
theorem Og(n k:Nat):decide ((n:Int)<=(k:Int))=decide (n<=k):=by rw[dC];simp
theorem abZ(n:Nat):decide ((n:Int)<=3)=decide (n<=3):=Og n 3
theorem agv(n:Nat):decide (3 < (n:Int))=!decide (n<=3):=by rw[dC];simp;omega
theorem WN(n:Nat):decide ((n:Int)<=10)=decide (n<=10):=Og n 10
theorem Gk{α:Type}(l:List α):decide (0 < (l.length:Int))=!l.isEmpty:=by cases l<;>simp
theorem fH{α:Type}{f:α->List D}{l:List α}{x:α}{n:Nat}(h:cD f l<=n)(hx:x∈l):eV (f x)<=n/\l.length<=n:=by
 have:=eo f hx;simp only[cD]at *;omega
section
variable {s:uN} {rt:Bool} {up:Int} {ss:List uN}
theorem NU{t:List kg}{e:kg}{k i:Nat}(hn:nth t k=some e)(ht:cD nL t<=mg) :
  bR (lB G AA) (0,[.int .i64 (i:Int),ib t,.int .i64 (k:Int),.int .i64 0,.bool rt,.int .i64 up,eI ss]) =
   some (if (t.take k).all (λx=>!decide (x.name=e.name))=true then (1,[.int .i64 (i:Int),ib t,.int .i64 (k:Int),.int .i64 (k:Int),.bool false,.bool rt,.int .i64 up,eI ss]) else (0,[.bool false])):=by
 have hk:=aP hn;have hlen:t.length<=mg:=by simp only[cD]at ht;omega
 have hl:=oy (b:=lB G AA) (λj=>(0,[.int .i64 (i:Int),ib t,.int .i64 (k:Int),.int .i64 (j:Int),.bool rt,.int .i64 up,eI ss])) (We (λx=>!decide (x.name=e.name)) t) k
  (1,[.int .i64 (i:Int),ib t,.int .i64 (k:Int),.int .i64 (k:Int),.bool false,.bool rt,.int .i64 up,eI ss]) (0,[.bool false]) (by
  intro j hj;have a1:=dr (l:=t) (i:=j) (by omega);have hw:=wj (i:=j) (n:=k) hj (by omega);generalize t[j]'(by omega)=x at a1;simp only[go_sem,bl,AA,hj,aH,hn,a1,nL,We];cases hc:decide (x.name=e.name)<;>simp only[go_sem,hw]) (by simp only[go_sem,bl,AA,aq]) k 0 (by omega)
 rw[n0]at hl;rw[hl,uO _ t k 0 (by omega),aV]
theorem NV{t:List kg}{i:Nat}(ht:cD nL t<=mg) :
  bR (lB G AB) (0,[.int .i64 (i:Int),ib t,.int .i64 0,.bool rt,.int .i64 up,eI ss]) =
   some (if tg t=true then (1,[.int .i64 (i:Int),ib t,.int .i64 t.length,.bool false,.bool rt,.int .i64 up,eI ss]) else (0,[.bool false])):=by
 have hlen:t.length<=mg:=by simp only[cD]at ht;omega
 have hl:=l7 (b:=lB G AB) t (λk=>(0,[.int .i64 (i:Int),ib t,.int .i64 (k:Int),.bool rt,.int .i64 up,eI ss])) (λk e=>((t.take k).all λx=>!decide (x.name=e.name)) && oV e)
  (1,[.int .i64 (i:Int),ib t,.int .i64 t.length,.bool false,.bool rt,.int .i64 up,eI ss]) (0,[.bool false]) (by
  intro k e hn;have hk:=aP hn;have hw:=wj hk hlen;have mE:=eo nL (aT hn);rw[IG]at mE;have h1:=Vv (s:=e.name) (by omega);have h2:=Vw (s:=e.value) (by omega);simp only[go_sem,bl,AB,hk,au,NU hn ht];cases hc:(t.take k).all (λx=>!decide (x.name=e.name)) with
  |false=>simp only[go_sem]
  |true=>
   simp only[go_sem,aH,hn,nL,h1];cases h3:isName e.name with
   |false=>simp only[go_sem,h3,oV]
   |true=>
    simp only[go_sem,h3,oV,aH,hn,nL,h2];cases h4:gE e.value<;>simp only[go_sem,hw]) (by simp only[go_sem,bl,AB,aq,au]) t.length 0 (by omega)
 rw[n0,aV]at hl;rw[hl,Kc]
end
theorem Is(p:mh):ME p=(fg 0 8 p.oI && decide (p.steps.length<=10) && (!p.root ||decide (p.oI=0)) && (p.root ||(decide (0 < p.oI) ||!p.steps.isEmpty))):=by
 simp[ME,fq]
theorem ahx{p:mh}(hs:eV (jF p)<=mg):G 205 (jF p)=some (0,[.bool (jJ p)]):=by
 rw[BN]at hs;have hlen:p.steps.length<=mg:=by simp only[cD]at hs;omega
 refine bY ad0 rfl ?_;simp only[go_sem,t205,jF];have hl:=gT (b:=lB G EJ) p.steps (λi=>(0,[.int .i64 (i:Int),.bool p.root,.int .i64 p.oI,eI p.steps])) isStep (1,[.int .i64 p.steps.length,.bool false,.bool p.root,.int .i64 p.oI,eI p.steps]) (0,[.bool false]) (by
  intro i e hn;have hi:=aP hn;have hw:=wj hi hlen;have mE:=eo jY (aT hn);rw[vI]at mE;have h1:=Vv (s:=e.name) (by omega);simp only[go_sem,bl,EJ,hi,au,aH,hn,jY,NV (t:=e.fx) (by omega)];cases h2:tg e.fx with
  |false=>simp only[go_sem,h2,isStep]
  |true=>
   simp only[go_sem,h2,isStep,aH,hn,jY,h1];cases h3:isName e.name with
   |false=>simp only[go_sem]
   |true=>
    simp only[go_sem,au,agv];cases h4:decide (e.fx.length<=3)<;>simp only[go_sem,hw]) (by simp only[go_sem,bl,EJ,aq,au])
 rw[n0]at hl;rw[hl,jJ];cases p.steps.all isStep with
 |false=>simp only[go_sem]
 |true=>
  rw[Is];simp only[go_sem,yA]
  repeat' (first|with_reducible rfl|((first|rw[eZ]|rw[fe]|rw[eY]|rw[fc]);split<;>simp only[go_sem,au,WN,Gk, *]))
  all_goals simp_all
theorem ah0{s:uN}(hs:eV (jY s)<=mg):G 265 (jY s)=some (0,[.bool (isStep s)]):=by
 rw[vI]at hs;have hlen:s.fx.length<=mg:=by simp only[cD]at hs;omega
 refine bY aeN rfl ?_;simp only[go_sem,afB,jY];have hl:=gT (b:=lB G AN) s.fx (λi=>(0,[ib s.fx,.int .i64 s.fx.length,.int .i64 (i:Int),.str s.name,ib s.fx,aN ((s.fx.take i).map kg.name)])) oV
  (1,[ib s.fx,.int .i64 s.fx.length,.int .i64 s.fx.length,.bool false,.str s.name,ib s.fx,aN (s.fx.map kg.name)]) (0,[.bool false]) (by
  intro i e hn;have hi:=aP hn;have hw:=wj hi hlen;have mE:=eo nL (aT hn);rw[IG]at mE;have h1:=Vx (s:=e.name) (by omega);have h2:=Vy (s:=e.value) (by omega);have XR:aJ (.app 1 16) [aN ((s.fx.take i).map kg.name),.list 1 true [[.str e.name]]]=some (aN ((s.fx.take (i+1)).map kg.name)):=by
   rw[vr hn,Kh]
   ·simp[fm]
   ·simp only[au,a_,az,aK];simp only[mg]at hlen;exact⟨aA (Nat.mul_le_mul (show min i s.fx.length+(0+1)<=2000000 by omega) (aj 16)) (by decide),aA (show min i s.fx.length+(0+1)<=2000000 by omega) (by decide)⟩
  have hmk:aJ (.dV 1 true) [.str e.name]=some (.list 1 true [[.str e.name]]):=by simp[aJ,chunk,cQ,D.plain]
  simp only[go_sem,bl,AN,hi,aH,hn,nL,az,aK,aj,h1];cases h3:isName e.name with
  |false=>simp only[go_sem,h3,oV]
  |true=>
   simp only[go_sem,h3,oV,h2];cases h4:gE e.value<;>simp only[go_sem,hw,XR,hmk]) (by simp only[go_sem,bl,AN,aq,aU])
 rw[n0]at hl;rw[au];have pE:bR (lB G AN) (0,[ib s.fx,.int .i64 s.fx.length,.int .i64 0,.str s.name,ib s.fx,.list 1 true []])=_:=hl;rw[pE,isStep,tg];cases s.fx.all oV with
 |false=>simp only[go_sem]
 |true=>
  have h1:=Vx (s:=s.name) (by omega);have h2:=OA (l:=s.fx.map kg.name) (by rw[au];exact hlen);simp only[go_sem,h1];cases h3:isName s.name with
  |false=>simp only[go_sem]
  |true=>
   simp only[go_sem,abZ,au];cases h4:decide (s.fx.length<=3) with
   |false=>simp only[go_sem]
   |true=>
    have hp:aJ .pl [.bool (qd (s.fx.map kg.name))]=some (.bool false):=rfl;simp only[go_sem,h2,hp]
theorem ah1{p:mh}(hs:eV (jF p)<=mg):G 266 (jF p)=some (0,[.bool (jJ p)]):=by
 rw[BN]at hs;have hlen:p.steps.length<=mg:=by simp only[cD]at hs;omega
 refine bY aeO rfl ?_;simp only[go_sem,afC,jF];have hl:=gT (b:=lB G E4) p.steps (λi=>(0,[eI p.steps,.int .i64 p.steps.length,.int .i64 (i:Int),.bool p.root,.int .i64 p.oI,eI p.steps])) isStep (1,[eI p.steps,.int .i64 p.steps.length,.int .i64 p.steps.length,.bool false,.bool p.root,.int .i64 p.oI,eI p.steps]) (0,[.bool false]) (by
  intro i e hn;have hi:=aP hn;have hw:=wj hi hlen;have mE:=eo jY (aT hn);have h1:=ah0 (s:=e) (by omega);rw[jY]at h1;simp only[go_sem,bl,E4,hi,aH,hn,jY,az,aK,aj,h1];cases h2:isStep e<;>simp only[go_sem,hw]) (by simp only[go_sem,bl,E4,aq])
 rw[n0]at hl;rw[au,hl,jJ];cases p.steps.all isStep with
 |false=>simp only[go_sem]
 |true=>
  rw[Is];unfold fg;simp only[go_sem]
  repeat' (first|with_reducible rfl|((first|rw[eZ]|rw[fe]|rw[eY]|rw[fc]);split<;>simp only[go_sem,au,WN,Gk, *]))
  all_goals simp_all
end
section
attribute [go_sem] az aK aj au
theorem pw(e:cN):(bM e).length=7:=by rw[bg];rfl
theorem jy(e:cN)(k:Nat)(fl:Bool):aJ (.has 7) [.list k fl [bM e]]=some (.bool false):=by
 rw[Bv,pw,if_pos (aj 7)]
theorem q39(a b:Int):G 39 [.int .i64 a,.int .i64 b]=some (0,[.int .i64 (if a < b then b else a)]):=by
 refine bY s39 rfl ?_;simp only[go_sem,t39];by_cases h:a < b<;>simp only[go_sem,h]
theorem cN.iE(e:cN)(es:List cN):ah e.kids < ah (e::es):=by
 cases e;simp only[bB,cN.mk.sizeOf_spec];omega
def oS:List cN->Nat
 |[]=>0
 |e::es=>max (oS e.kids+1) (oS es)
termination_by es=>ah es
decreasing_by
 ·exact cN.iE e es
 ·simp only[bB];omega
abbrev dep(e:cN):Nat:=oS e.kids+1
theorem d0:((oS []:Nat):Int)=0:=by simp[oS]
theorem zJ(e:cN):∀(l:List cN),oS (l++[e])=max (oS l) (dep e)
 |[]=>by simp[oS]
 |x::l=>by rw[ai,oS,zJ e l,oS,Nat.max_assoc]
theorem Ec:∀(n:Nat) (l:List cN),ah l < n->oS l<=cD bM l
 |0,l,h=>by omega
 |n+1,[],h=>by simp[oS]
 |n+1,e::l,h=>by
  have h1:=Ec n e.kids (by have:=cN.iE e l;omega);have h2:=Ec n l (by simp only[bB]at h;omega);rw[oS,lC,nV];omega
theorem PT{e:cN}:dep e<=eV (bM e)+1:=by
 have:=Ec _ e.kids (aO _);rw[nV];simp only[dep];omega
theorem mx(a b:Nat):(if (a:Int) < (b:Int) then (b:Int) else (a:Int))=((max a b:Nat):Int):=by
 by_cases h:a < b
 ·rw[if_pos (by omega),Nat.max_eq_right (by omega)]
 ·rw[if_neg (by omega),Nat.max_eq_left (by omega)]
theorem cN.At{e x:cN}(h:x∈e.kids):ah x < ah e:=cN.JY h
theorem Au{e x:cN}(h:x∈e.kids):eV (bM x)<=eV (bM e):=by
 have:=eo bM h;rw[nV e];omega
theorem rU{e:cN}:e.kids.length<=eV (bM e):=by
 rw[nV e];simp only[cD];omega
theorem Zf(n:Nat):∀e:cN,ah e < n->eV (bM e)<=mg->G 203 (bM e)=some (0,[.int .i64 (dep e)]):=by
 induction n with
 |zero=>intro e h;omega
 |succ n ih=>
  intro e hz hs;refine bY adY (by rw[bg];rfl) ?_;simp only[go_sem,t203,bg];have hlen:e.kids.length<=mg:=aA rU hs;have hl:=ej (b:=lB G EH) e.kids (λi (m:Nat)=>(0,.int .i64 (m:Int)::.int .i64 (i:Int)::bM e)) (λi=>oS (e.kids.take i)) (0,.int .i64 (oS e.kids)::.int .i64 e.kids.length::.bool false::bM e) (by
   intro i x hn;have hi:=aP hn;have hw:=wj hi hlen;have hx:=ih x (by have:=cN.At (aT hn);omega) (aA (Au (aT hn)) hs);rw[bg]at hx;simp only[go_sem,bl,EH,bg e,hi,aH,hn,jy];simp only[go_sem,bg,hx,q39,mx,hw,cn _ _ _ hn,zJ,dep]) (by simp only[go_sem,bl,EH,bg,aq,aU]) e.kids.length 0 (by omega)
  rw[ba,d0,n0,bg]at hl;have hd:=PT (e:=e);have hw:IntKind.i64.wrap ((oS e.kids:Int)+1)=((oS e.kids+1:Nat):Int):=by rw[wrap_i64 (by simp only[mg,dep]at *;omega)];omega
  simp only[go_sem,hl,hw]
theorem ahw{e:cN}(hs:eV (bM e)<=mg):G 203 (bM e)=some (0,[.int .i64 (dep e)]):=Zf _ e (aO _) hs
theorem Zt(n:Nat):∀e:cN,ah e < n->eV (bM e)<=mg->G 262 (bM e)=some (0,[.int .i64 (dep e)]):=by
 induction n with
 |zero=>intro e h;omega
 |succ n ih=>
  intro e hz hs;refine bY aeK (by rw[bg];rfl) ?_;simp only[go_sem,afy,bg];have hlen:e.kids.length<=mg:=aA rU hs;have hl:=ej (b:=lB G EZ) e.kids (λi (m:Nat)=>(0,[.int .i64 (m:Int),cV e.kids,.int .i64 e.kids.length,.int .i64 (i:Int)])) (λi=>oS (e.kids.take i)) (0,[.int .i64 (oS e.kids),cV e.kids,.int .i64 e.kids.length,.int .i64 e.kids.length,.bool false]) (by
   intro i x hn;have hi:=aP hn;have hw:=wj hi hlen;have hx:=ih x (by have:=cN.At (aT hn);omega) (aA (Au (aT hn)) hs);rw[bg]at hx;simp only[go_sem,bl,EZ,hi,aH,hn,jy];simp only[go_sem,bg,hx,mx,hw,cn _ _ _ hn,zJ,dep]) (by simp only[go_sem,bl,EZ,aq,aU]) e.kids.length 0 (by omega)
  rw[ba,d0,n0]at hl;have hd:=PT (e:=e);have hw:IntKind.i64.wrap ((oS e.kids:Int)+1)=((oS e.kids+1:Nat):Int):=by rw[wrap_i64 (by simp only[mg,dep]at *;omega)];omega
  simp only[go_sem,hl,hw]
theorem ahY{e:cN}(hs:eV (bM e)<=mg):G 262 (bM e)=some (0,[.int .i64 (dep e)]):=Zt _ e (aO _) hs
def zp(p:mh):Bool:=!p.root && (decide (p.oI=0) && p.steps.isEmpty)
theorem pH{α:Type}(l:List α):decide ((l.length:Int)=0)=l.isEmpty:=by cases l<;>simp;omega
theorem ahy(p:mh):G 206 (jF p)=some (0,[.bool (zp p)]):=by
 refine bY ad1 rfl ?_;simp only[go_sem,t206,jF]
 repeat' (first|with_reducible rfl|((first|rw[eZ]|rw[fe]|rw[eY]|rw[fc]);split<;>simp only[go_sem,pH, *]))
 all_goals simp_all[zp]
theorem ahZ(p:mh):G 263 (jF p)=some (0,[.bool (zp p)]):=by
 refine bY aeL rfl ?_;simp only[go_sem,afz,jF]
 repeat' (first|with_reducible rfl|((first|rw[eZ]|rw[fe]|rw[eY]|rw[fc]);split<;>simp only[go_sem,pH, *]))
 all_goals simp_all[zp]
def orA:ByteArray:=⟨#[111,114]⟩
def Ph:ByteArray:=⟨#[97,110,100]⟩
theorem W_:(⟨[111,114].toArray⟩:ByteArray)=orA:=(rfl)
theorem Tf:(⟨[97,110,100].toArray⟩:ByteArray)=Ph:=(rfl)
def D1(p:mh):Bool:=match p.steps with
 |s::_=>decide (s.name=orA) ||decide (s.name=Ph)
 |[]=>false
def Tm(p:mh):Bool:=(p.root ||decide (0 < p.oI) ||!D1 p) && !(p.root && p.steps.isEmpty)
theorem It{p:mh}(h:jJ p=true):0<=p.oI/\(p.root=true->p.oI=0)/\(p.root=true\/0 < p.oI\/p.steps≠[]):=by
 simp only[jJ,ME,fg,ab,dD,decide_eq_true_eq,cq,List.isEmpty_eq_false_iff]at h;obtain⟨_,⟨h1,_⟩,_,h2,h3⟩:=h;refine⟨h1,λhr=>?_,?_⟩
 ·rcases h2 with h2|h2
  ·rw[hr]at h2;cases h2
  ·exact h2
 ·rcases h3 with h3|h3|h3
  ·exact .inl h3
  ·exact .inr (.inl h3)
  ·exact .inr (.inr h3)
theorem ahz{p:mh}(hp:jJ p=true):G 207 (jF p)=some (0,[.bool (Tm p)]):=by
 obtain⟨h1,h2,h3⟩:=It hp;refine bY ad2 rfl ?_;simp only[go_sem,t207,jF];cases hr:p.root with
 |true=>
  have hu:p.oI=0:=h2 hr;simp only[go_sem,hr,hu,Gk,Tm]
 |false=>
  by_cases hu:0 < p.oI
  ·simp only[go_sem,hr,hu,Tm]
  ·have hs:p.steps≠[]:=by
    rcases h3 with h|h|h
    ·rw[hr]at h;cases h
    ·exact absurd h hu
    ·exact h
   obtain⟨s,l,hl⟩:=List.exists_cons_of_ne_nil hs;simp only[go_sem,hr,hu,Tm,hl,D1,aQ,jY,W_];have e3:¬Ph=orA:=by decide
   by_cases e1:s.name=orA
   ·simp only[go_sem,e1]
   ·by_cases e2:s.name=Ph<;>simp only[go_sem,e1,e2,e3,Tf]
def nQ(op:Int):Nat:=if op<=4 then 0 else if op=5 then 1 else 2
def pz(e:cN):Bool:=if e.op=1 then fg 0 1000000000 e.num else if e.op=2 then gE e.text else if e.op=3 then jJ e.path && Tm e.path else if e.op=4 then jJ e.path else true
def ff(e:cN):Bool:=fg 1 15 e.op && (decide (e.kids.length=nQ e.op) && ((decide (e.op=1) ||decide (e.num=0)) && ((decide (e.op=2) ||decide (e.text.size=0)) && ((decide (e.op=3) ||(decide (e.op=4) ||zp e.path)) && pz e))))
def q9:List cN->Bool
 |[]=>true
 |e::es=>ff e && q9 e.kids && q9 es
termination_by es=>ah es
decreasing_by
 ·exact cN.iE e es
 ·simp only[bB];omega
def oJ(e:cN):Bool:=ff e && q9 e.kids
theorem BT:∀(l:List cN),q9 l=l.all oJ
 |[]=>by simp[q9]
 |e::l=>by rw[q9,bT,BT l];rfl
theorem UQ{n:Nat}(ih:∀e:cN,ah e < n->eV (bM e)<=mg->G 208 (bM e)=some (0,[.bool (oJ e)])){e:cN}(hz:ah e < n+1)(hs:eV (bM e)<=mg) :
  bR (lB G wL) (0,.int .i64 e.kids.length::.int .i64 0::bM e)=some (if q9 e.kids=true then (1,.int .i64 e.kids.length::.int .i64 e.kids.length::.bool false::bM e) else (0,[.bool false])):=by
 have hlen:e.kids.length<=mg:=aA rU hs;rw[BT];exact gT (b:=lB G wL) e.kids (λi=>(0,.int .i64 e.kids.length::.int .i64 (i:Int)::bM e)) oJ _ _ (by
  intro i x hn;have hi:=aP hn;have hw:=wj hi hlen;have hx:=ih x (by have:=cN.At (aT hn);omega) (aA (Au (aT hn)) hs);rw[bg]at hx;simp only[go_sem,bl,wL,bg e,hi,aH,hn,jy];simp only[go_sem,bg x,hx];cases oJ x<;>simp only[go_sem,hw]) (by simp only[go_sem,bl,wL,bg,aq])
theorem vp{e:cN}(h:e.kids.length=0):q9 e.kids=true:=by
 have:e.kids=[]:=cm.1 h;rw[this];simp[q9]
theorem Zg(n:Nat):∀e:cN,ah e < n->eV (bM e)<=mg->G 208 (bM e)=some (0,[.bool (oJ e)]):=by
 induction n with
 |zero=>intro e h;omega
 |succ n ih=>
  intro e hz hs;have hl:=UQ ih hz hs;rw[bg]at hl;have ht:=nV e;have hq:=Vw (s:=e.text) (by omega);have h5:=ahx (p:=e.path) (by omega);have h6:=ahy e.path;rw[jF]at h5 h6;have hw7:jJ e.path=true->G 207 [.bool e.path.root,.int .i64 e.path.oI,eI e.path.steps]=some (0,[.bool (Tm e.path)]):=λh=>ahz h;refine bY ad3 (by rw[bg];rfl) ?_;simp only[go_sem,t208,bg];have small:∀{k:Nat} (hk:e.kids.length=0),bR (lB G wL) (0,[.int .i64 0,.int .i64 0,.int .i64 e.op,.int .i64 e.num,.str e.text,.bool e.path.root,.int .i64 e.path.oI,eI e.path.steps,cV e.kids])=some (1,[.int .i64 0,.int .i64 0,.bool false,.int .i64 e.op,.int .i64 e.num,.str e.text,.bool e.path.root,.int .i64 e.path.oI,eI e.path.steps,cV e.kids]):=by
   intro _ hk;rw[vp hk,hk]at hl;exact hl
  by_cases o1:e.op=1
  ·have hh:ff e=(decide (e.kids.length=0) && ((decide (e.text.size=0)) && (zp e.path && fg 0 1000000000 e.num))):=by simp[ff,pz,nQ,fg,o1]
   rw[o1]at small;by_cases hk:e.kids.length=0
   ·have gf:(e.kids.length:Int)=0:=by omega
    have pj:=small (k:=0) hk;have h0:=vp hk;simp only[go_sem,yA,o1]
    repeat' (first|with_reducible rfl|((first|rw[eZ]|rw[fe]|rw[eY]|rw[fc]);split<;>simp only[go_sem,cA, *]))
    all_goals simp_all[oJ]
   ·have gf:¬(e.kids.length:Int)=0:=by omega
    simp only[go_sem,yA,o1]
    repeat' (first|with_reducible rfl|((first|rw[eZ]|rw[fe]|rw[eY]|rw[fc]);split<;>simp only[go_sem,cA, *]))
    all_goals simp_all[oJ]
  by_cases o2:e.op=2
  ·have hh:ff e=(decide (e.kids.length=0) && ((decide (e.num=0)) && (zp e.path && gE e.text))):=by simp[ff,pz,nQ,fg,o2]
   rw[o2]at small;by_cases hk:e.kids.length=0
   ·have gf:(e.kids.length:Int)=0:=by omega
    have pj:=small (k:=0) hk;have h0:=vp hk;simp only[go_sem,hq,o2]
    repeat' (first|with_reducible rfl|((first|rw[eZ]|rw[fe]|rw[eY]|rw[fc]);split<;>simp only[go_sem, *]))
    all_goals simp_all[oJ]
   ·have gf:¬(e.kids.length:Int)=0:=by omega
    simp only[go_sem,hq,o2]
    repeat' (first|with_reducible rfl|((first|rw[eZ]|rw[fe]|rw[eY]|rw[fc]);split<;>simp only[go_sem, *]))
    all_goals simp_all[oJ]
  by_cases o3:e.op=3
  ·have hh:ff e=(decide (e.kids.length=0) && ((decide (e.num=0)) && (decide (e.text.size=0) && (jJ e.path && Tm e.path)))):=by simp[ff,pz,nQ,fg,o3]
   rw[o3]at small;cases hp:jJ e.path with
   |false=>
    simp only[go_sem,h5,o3,hp]
    repeat' (first|with_reducible rfl|((first|rw[eZ]|rw[fe]|rw[eY]|rw[fc]);split<;>simp only[go_sem,yA,hq,h5,h6,ba0,cA,o3,hp, *]))
    all_goals simp_all[oJ]
   |true=>
    have h7:=hw7 hp;by_cases hk:e.kids.length=0
    ·have gf:(e.kids.length:Int)=0:=by omega
     have pj:=small (k:=0) hk;have h0:=vp hk;simp only[go_sem,h5,o3,hp]
     repeat' (first|with_reducible rfl|((first|rw[eZ]|rw[fe]|rw[eY]|rw[fc]);split<;>simp only[go_sem,cA, *]))
     all_goals simp_all[oJ]
    ·have gf:¬(e.kids.length:Int)=0:=by omega
     simp only[go_sem,h5,o3,hp]
     repeat' (first|with_reducible rfl|((first|rw[eZ]|rw[fe]|rw[eY]|rw[fc]);split<;>simp only[go_sem,cA, *]))
     all_goals simp_all[oJ]
  by_cases o4:e.op=4
  ·have hh:ff e=(decide (e.kids.length=0) && ((decide (e.num=0)) && (decide (e.text.size=0) && jJ e.path))):=by simp[ff,pz,nQ,fg,o4]
   rw[o4]at small;by_cases hk:e.kids.length=0
   ·have gf:(e.kids.length:Int)=0:=by omega
    have pj:=small (k:=0) hk;have h0:=vp hk;simp only[go_sem,h5,o4]
    repeat' (first|with_reducible rfl|((first|rw[eZ]|rw[fe]|rw[eY]|rw[fc]);split<;>simp only[go_sem,cA, *]))
    all_goals simp_all[oJ]
   ·have gf:¬(e.kids.length:Int)=0:=by omega
    simp only[go_sem,h5,o4]
    repeat' (first|with_reducible rfl|((first|rw[eZ]|rw[fe]|rw[eY]|rw[fc]);split<;>simp only[go_sem,cA, *]))
    all_goals simp_all[oJ]
  cases hi:fg 5 15 e.op with
  |false=>
   have hh:ff e=false:=by
    have:fg 1 15 e.op=false:=by
     rw[cT]at hi ⊢;intro h
     apply hi
     have:=(fJ _ _ _).1 h;exact (fJ _ _ _).2 (by omega)
    simp[ff,this]
   have hx:oJ e=false:=by simp[oJ,hh]
   simp only[go_sem,yA,o1,o2,o3,o4,hi,hx]
  |true=>
   have hr:=(fJ _ _ _).1 hi;have JO:fg 1 15 e.op=true:=(fJ _ _ _).2 (by omega);by_cases o5:e.op=5
   ·have hh:ff e=(decide (e.kids.length=1) && ((decide (e.num=0)) && (decide (e.text.size=0) && zp e.path))):=by simp[ff,pz,nQ,fg,o5]
    by_cases hk:e.kids.length=1
    ·have gf:(e.kids.length:Int)=1:=by omega
     rw[gf,o5]at hl;cases h9:q9 e.kids with
     |false=>
      rw[h9]at hl;simp only[go_sem]at hl;simp only[go_sem,yA,o5]
      repeat' (first|with_reducible rfl|((first|rw[eZ]|rw[fe]|rw[eY]|rw[fc]);split<;>simp only[go_sem,cA, *]))
      all_goals simp_all[oJ]
     |true=>
      rw[h9]at hl;simp only[go_sem]at hl;simp only[go_sem,yA,o5]
      repeat' (first|with_reducible rfl|((first|rw[eZ]|rw[fe]|rw[eY]|rw[fc]);split<;>simp only[go_sem,cA, *]))
      all_goals simp_all[oJ]
    ·have gf:¬(e.kids.length:Int)=1:=by omega
     simp only[go_sem,yA,o5]
     repeat' (first|with_reducible rfl|((first|rw[eZ]|rw[fe]|rw[eY]|rw[fc]);split<;>simp only[go_sem,cA, *]))
     all_goals simp_all[oJ]
   ·have hN:nQ e.op=2:=by unfold nQ;rw[if_neg (by omega),if_neg o5]
    have hh:ff e=(decide (e.kids.length=2) && ((decide (e.num=0)) && (decide (e.text.size=0) && zp e.path))):=by simp[ff,pz,hN,JO,o1,o2,o3,o4]
    by_cases hk:e.kids.length=2
    ·have gf:(e.kids.length:Int)=2:=by omega
     rw[gf]at hl;cases h9:q9 e.kids with
     |false=>
      rw[h9]at hl;simp only[go_sem]at hl;simp only[go_sem,yA,o1,o2,o3,o4,o5,hi]
      repeat' (first|with_reducible rfl|((first|rw[eZ]|rw[fe]|rw[eY]|rw[fc]);split<;>simp only[go_sem,cA, *]))
      all_goals simp_all[oJ]
     |true=>
      rw[h9]at hl;simp only[go_sem]at hl;simp only[go_sem,yA,o1,o2,o3,o4,o5,hi]
      repeat' (first|with_reducible rfl|((first|rw[eZ]|rw[fe]|rw[eY]|rw[fc]);split<;>simp only[go_sem,cA, *]))
      all_goals simp_all[oJ]
    ·have gf:¬(e.kids.length:Int)=2:=by omega
     simp only[go_sem,yA,o1,o2,o3,o4,o5,hi]
     repeat' (first|with_reducible rfl|((first|rw[eZ]|rw[fe]|rw[eY]|rw[fc]);split<;>simp only[go_sem,cA, *]))
     all_goals simp_all[oJ]
theorem ahA{e:cN}(hs:eV (bM e)<=mg):G 208 (bM e)=some (0,[.bool (oJ e)]):=Zg _ e (aO _) hs
end
section
theorem UY{n:Nat}(ih:∀e:cN,ah e < n->eV (bM e)<=mg->G 267 (bM e)=some (0,[.bool (oJ e)])){e:cN}(hz:ah e < n+1)(hs:eV (bM e)<=mg) :
  bR (lB G wU) (0,[cV e.kids,.int .i64 e.kids.length,.int .i64 0])=some (if q9 e.kids=true then (1,[cV e.kids,.int .i64 e.kids.length,.int .i64 e.kids.length,.bool false]) else (0,[.bool false])):=by
 have hlen:e.kids.length<=mg:=aA rU hs;rw[BT];exact gT (b:=lB G wU) e.kids (λi=>(0,[cV e.kids,.int .i64 e.kids.length,.int .i64 (i:Int)])) oJ _ _ (by
  intro i x hn;have hi:=aP hn;have hw:=wj hi hlen;have hx:=ih x (by have:=cN.At (aT hn);omega) (aA (Au (aT hn)) hs);rw[bg]at hx;simp only[go_sem,bl,wU,hi,aH,hn,jy];simp only[go_sem,bg x,hx];cases oJ x<;>simp only[go_sem,hw]) (by simp only[go_sem,bl,wU,aq])
theorem n2:((2:Nat):Int)=2:=(rfl)
attribute [go_sem] n1 n2
theorem UX:Ry=wU:=(rfl)
attribute [go_sem] UX
theorem aab{p:mh}(h:jJ p=true):Tm p=(!(!p.root && (decide (p.oI=0) && D1 p)) && !(p.root && p.steps.isEmpty)):=by
 obtain⟨h1,h2,h3⟩:=It h;unfold Tm
 congr 1
 have:decide (0 < p.oI)=!decide (p.oI=0):=by rw[dC];simp;omega
 rw[this];cases p.root<;>cases decide (p.oI=0)<;>cases D1 p<;>rfl
theorem Zu(n:Nat):∀e:cN,ah e < n->eV (bM e)<=mg->G 267 (bM e)=some (0,[.bool (oJ e)]):=by
 induction n with
 |zero=>intro e h;omega
 |succ n ih=>
  intro e hz hs;have hl:=UY ih hz hs;have ht:=nV e;have hq:=Vy (s:=e.text) (by omega);have h5:=ah1 (p:=e.path) (by omega);have h6:=ahZ e.path;rw[jF]at h5 h6;refine bY aeP (by rw[bg];rfl) ?_;simp only[go_sem,afD,bg];by_cases o1:e.op=1
  ·clear ih hl hz hs;have hh:ff e=(decide (e.kids.length=0) && ((decide (e.text.size=0)) && (zp e.path && fg 0 1000000000 e.num))):=by simp[ff,pz,nQ,fg,o1]
   have h0:e.kids.length=0->q9 e.kids=true:=vp;have hk:e.kids.isEmpty=decide (e.kids.length=0):=by cases e.kids<;>simp
   unfold fg at hh;simp only[go_sem,pH,o1,hk]
   repeat' (first|with_reducible rfl|((first|rw[eZ]|rw[fe]|rw[eY]|rw[fc]);split<;>simp only[go_sem,cA, *]))
   all_goals simp_all[oJ]
  by_cases o2:e.op=2
  ·clear ih hl hz hs;have hh:ff e=(decide (e.kids.length=0) && ((decide (e.num=0)) && (zp e.path && gE e.text))):=by simp[ff,pz,nQ,fg,o2]
   have h0:e.kids.length=0->q9 e.kids=true:=vp;have hk:e.kids.isEmpty=decide (e.kids.length=0):=by cases e.kids<;>simp
   simp only[go_sem,pH,o2,hk]
   repeat' (first|with_reducible rfl|((first|rw[eZ]|rw[fe]|rw[eY]|rw[fc]);split<;>simp only[go_sem, *]))
   all_goals simp_all[oJ]
  by_cases o4:e.op=4
  ·clear ih hl hz hs;have hh:ff e=(decide (e.kids.length=0) && ((decide (e.num=0)) && (decide (e.text.size=0) && jJ e.path))):=by simp[ff,pz,nQ,fg,o4]
   have h0:e.kids.length=0->q9 e.kids=true:=vp;have hk:e.kids.isEmpty=decide (e.kids.length=0):=by cases e.kids<;>simp
   simp only[go_sem,pH,o4,hk]
   repeat' (first|with_reducible rfl|((first|rw[eZ]|rw[fe]|rw[eY]|rw[fc]);split<;>simp only[go_sem,cA, *]))
   all_goals simp_all[oJ]
  by_cases o3:e.op=3
  ·clear ih hl hz hs;have hh:ff e=(decide (e.kids.length=0) && ((decide (e.num=0)) && (decide (e.text.size=0) && (jJ e.path && Tm e.path)))):=by simp[ff,pz,nQ,fg,o3]
   have h0:e.kids.length=0->q9 e.kids=true:=vp;have hk:e.kids.isEmpty=decide (e.kids.length=0):=by cases e.kids<;>simp
   have hw:jJ e.path=true->Tm e.path=(!(!e.path.root && (decide (e.path.oI=0) && D1 e.path)) && !(e.path.root && e.path.steps.isEmpty)):=aab;cases Cm:e.path.steps with
   |nil=>
    have hb:D1 e.path=false:=by simp[D1,Cm]
    rw[Cm]at h5;cases hrt:e.path.root with
    |true=>
     rw[hrt]at h5 h6;simp only[go_sem,pH,o3,hk]
     repeat' (first|with_reducible rfl|((first|rw[eZ]|rw[fe]|rw[eY]|rw[fc]);split<;>simp only[go_sem,cA, *]))
     all_goals simp_all[oJ]
    |false=>
     rw[hrt]at h5 h6;simp only[go_sem,pH,o3,hk]
     repeat' (first|with_reducible rfl|((first|rw[eZ]|rw[fe]|rw[eY]|rw[fc]);split<;>simp only[go_sem,cA, *]))
     all_goals simp_all[oJ]
   |cons s l=>
    have hb:D1 e.path=(decide (s.name=orA) ||decide (s.name=Ph)):=by simp[D1,Cm]
    rw[Cm]at h5;cases hrt:e.path.root with
    |true=>
     rw[hrt]at h5 h6;simp only[go_sem,pH,o3,hk]
     repeat' (first|with_reducible rfl|((first|rw[eZ]|rw[fe]|rw[eY]|rw[fc]);split<;>simp only[go_sem,cA,aQ,jY, *]))
     all_goals simp_all[oJ]
     all_goals omega
    |false=>
     rw[hrt]at h5 h6;simp only[go_sem,pH,o3,hk]
     repeat' (first|with_reducible rfl|((first|rw[eZ]|rw[fe]|rw[eY]|rw[fc]);split<;>simp only[go_sem,cA,aQ,jY,W_,Tf, *]))
     all_goals simp_all[oJ]
  cases hi:fg 5 15 e.op with
  |false=>
   have JO:fg 1 15 e.op=false:=by
    rw[cT]at hi ⊢;intro h
    apply hi
    have:=(fJ _ _ _).1 h;exact (fJ _ _ _).2 (by omega)
   have hx:oJ e=false:=by simp[oJ,ff,JO]
   have ho:¬(5<=e.op/\e.op<=15):=λh=>by rw[(fJ _ _ _).2 h]at hi;cases hi
   have o5:¬e.op=5:=by omega
   by_cases b1:e.op < 1
   ·simp only[go_sem,o1,o2,o3,o4,o5,hx,b1]
   ·have b2:15 < e.op:=by omega
    simp only[go_sem,o1,o2,o3,o4,o5,hx,b1,b2]
  |true=>
   have hr:=(fJ _ _ _).1 hi;have JO:fg 1 15 e.op=true:=(fJ _ _ _).2 (by omega);have b1:¬e.op < 1:=by omega
   have b2:¬15 < e.op:=by omega
   by_cases o5:e.op=5
   ·have hh:ff e=(decide (e.kids.length=1) && ((decide (e.num=0)) && (decide (e.text.size=0) && zp e.path))):=by simp[ff,pz,nQ,fg,o5]
    by_cases hk:e.kids.length=1
    ·have gf:(e.kids.length:Int)=1:=by omega
     rw[gf]at hl;cases h9:q9 e.kids with
     |false=>
      rw[h9]at hl;simp only[go_sem]at hl;simp only[go_sem,o5,gf]
      repeat' (first|with_reducible rfl|((first|rw[eZ]|rw[fe]|rw[eY]|rw[fc]);split<;>simp only[go_sem,cA, *]))
      all_goals simp_all[oJ]
     |true=>
      rw[h9]at hl;simp only[go_sem]at hl;simp only[go_sem,o5,gf]
      repeat' (first|with_reducible rfl|((first|rw[eZ]|rw[fe]|rw[eY]|rw[fc]);split<;>simp only[go_sem,cA, *]))
      all_goals simp_all[oJ]
    ·have gf:¬(e.kids.length:Int)=1:=by omega
     simp only[go_sem,o5,gf]
     repeat' (first|with_reducible rfl|((first|rw[eZ]|rw[fe]|rw[eY]|rw[fc]);split<;>simp only[go_sem,hq,h5,h6,ba0,cA,Gk,pH,o5,gf, *]))
     all_goals simp_all[oJ]
   ·have hN:nQ e.op=2:=by unfold nQ;rw[if_neg (by omega),if_neg o5]
    have hh:ff e=(decide (e.kids.length=2) && ((decide (e.num=0)) && (decide (e.text.size=0) && zp e.path))):=by simp[ff,pz,hN,JO,o1,o2,o3,o4]
    by_cases hk:e.kids.length=2
    ·have gf:(e.kids.length:Int)=2:=by omega
     rw[gf]at hl;cases h9:q9 e.kids with
     |false=>
      rw[h9]at hl;simp only[go_sem]at hl;simp only[go_sem,o1,o2,o3,o4,o5,b1,b2,gf]
      repeat' (first|with_reducible rfl|((first|rw[eZ]|rw[fe]|rw[eY]|rw[fc]);split<;>simp only[go_sem,cA, *]))
      all_goals simp_all[oJ]
     |true=>
      rw[h9]at hl;simp only[go_sem]at hl;simp only[go_sem,o1,o2,o3,o4,o5,b1,b2,gf]
      repeat' (first|with_reducible rfl|((first|rw[eZ]|rw[fe]|rw[eY]|rw[fc]);split<;>simp only[go_sem,cA, *]))
      all_goals simp_all[oJ]
    ·have gf:¬(e.kids.length:Int)=2:=by omega
     simp only[go_sem,o1,o2,o3,o4,o5,b1,b2,gf]
     repeat' (first|with_reducible rfl|((first|rw[eZ]|rw[fe]|rw[eY]|rw[fc]);split<;>simp only[go_sem,hq,h5,h6,ba0,cA,Gk,pH,o1,o2,o3,o4,o5,b1,b2,gf, *]))
     all_goals simp_all[oJ]
theorem ah2{e:cN}(hs:eV (bM e)<=mg):G 267 (bM e)=some (0,[.bool (oJ e)]):=Zu _ e (aO _) hs
def nP(e:cN):Bool:=decide (dep e<=8) && oJ e
theorem ahB{e:cN}(hs:eV (bM e)<=mg):G 209 (bM e)=some (0,[.bool (nP e)]):=by
 have h1:=ahw hs;have h2:=ahA hs;have h3:decide (((dep e:Nat):Int)<=8)=decide (dep e<=8):=Og (dep e) 8;rw[bg]at h1 h2;refine bY ad4 (by rw[bg];rfl) ?_;simp only[go_sem,t209,bg,h1,h3];unfold nP;cases hd:decide (dep e<=8)<;>simp only[go_sem,h2]
theorem ah3{e:cN}(hs:eV (bM e)<=mg):G 268 (bM e)=some (0,[.bool (nP e)]):=by
 have h1:=ahY hs;have h2:=ah2 hs;have h3:decide (((dep e:Nat):Int)<=8)=decide (dep e<=8):=Og (dep e) 8;rw[bg]at h1 h2;refine bY aeQ (by rw[bg];rfl) ?_;simp only[go_sem,afE,bg,h1,h3];unfold nP;cases hd:decide (dep e<=8)<;>simp only[go_sem,h2]
def Cd(l:List cN)(J6:Nat):Bool:=l.all nP && decide (l.length<=J6)
theorem acV{l:List cN}{m:Nat}(hs:cD bM l<=mg):G 210 [cV l,.int .i64 (m:Int)]=some (0,[.bool (Cd l m)]):=by
 have hlen:l.length<=mg:=by simp only[cD]at hs;omega
 refine bY ad5 rfl ?_;simp only[go_sem,t210];have hl:=gT (b:=lB G EK) l (λi=>(0,[cV l,.int .i64 (m:Int),.int .i64 (i:Int)])) nP (1,[cV l,.int .i64 (m:Int),.int .i64 l.length,.bool false]) (0,[.bool false]) (by
  intro i x hn;have hi:=aP hn;have hw:=wj hi hlen;have hx:=ahB (e:=x) (fH hs (aT hn)).1;rw[bg]at hx;simp only[go_sem,bl,EK,hi,aH,hn,jy];simp only[go_sem,bg x,hx];cases nP x<;>simp only[go_sem,hw]) (by simp only[go_sem,bl,EK,aq])
 rw[n0]at hl;rw[hl,Cd];cases l.all nP<;>simp only[go_sem,Og]
theorem adb{l:List cN}{m:Nat}(hs:cD bM l<=mg):G 269 [cV l,.int .i64 (m:Int)]=some (0,[.bool (Cd l m)]):=by
 have hlen:l.length<=mg:=by simp only[cD]at hs;omega
 refine bY aeR rfl ?_;simp only[go_sem,afF];have hl:=gT (b:=lB G E5) l (λi=>(0,[cV l,.int .i64 (m:Int),cV l,.int .i64 l.length,.int .i64 (i:Int)])) nP (1,[cV l,.int .i64 (m:Int),cV l,.int .i64 l.length,.int .i64 l.length,.bool false]) (0,[.bool false]) (by
  intro i x hn;have hi:=aP hn;have hw:=wj hi hlen;have hx:=ah3 (e:=x) (fH hs (aT hn)).1;rw[bg]at hx;simp only[go_sem,bl,E5,hi,aH,hn,jy];simp only[go_sem,bg x,hx];cases nP x<;>simp only[go_sem,hw]) (by simp only[go_sem,bl,E5,aq])
 rw[n0]at hl;rw[hl,Cd];cases l.all nP<;>simp only[go_sem,Og]
end
section
def YE(l:List iH):Bool:=match l with
 |r::_=>decide (0<=r.lo)
 |[]=>true
def vx(ip:ByteArray->Bool)(t:lK):Bool:=
 if t.kind=1 then zx t.ranges && (t.names.isEmpty && (decide (t.pattern.size=0) && decide (t.path.size=0)))
 else if t.kind=2 then zx t.ranges && (YE t.ranges && ((decide (t.pattern.size=0) ||ip t.pattern) && (t.names.isEmpty && decide (t.path.size=0))))
 else if t.kind=4 then fg 1 6 t.names.length && (t.ranges.isEmpty && (decide (t.pattern.size=0) && decide (t.path.size=0)))
 else if t.kind=5 then gE t.path && (!decide (t.path.size=0) && (t.ranges.isEmpty && (t.names.isEmpty && decide (t.pattern.size=0))))
 else if t.kind=3\/t.kind=6 then t.ranges.isEmpty && (t.names.isEmpty && (decide (t.pattern.size=0) && decide (t.path.size=0)))
 else false
def qw(l:List ByteArray):Bool:=qd l && l.all isName
def isType(ip:ByteArray->Bool)(t:lK):Bool:=qw t.names && vx ip t
theorem Hs(l:List ByteArray)(v:ByteArray):lH l v=!(l.all λx=>!decide (x=v)):=by
 induction l with
 |nil=>rfl
 |cons x l ih=>
  simp only[lH,kS,bT]at ih ⊢;rw[ih,decide_eq_decide.2 (eq_comm (a:=v) (b:=x))];cases decide (x=v)<;>simp
theorem Kb(l:List ByteArray):qw l=allI (λk e=>((l.take k).all λx=>!decide (x=e)) && isName e) 0 l:=by
 have h:=zu (λk (e:ByteArray)=>(l.take k).all λx=>!decide (x=e)) (λ_ e=>isName e) 0 l;rw[qw,h,rz,qd]
 congr 2
 funext i e
 rw[Hs,fS]
section
variable {kd:Int} {rs:D} {pt ph:ByteArray}
theorem N0{l:List ByteArray}{e:ByteArray}{k:Nat}(hn:nth l k=some e)(ht:cD fm l<=mg) :
  bR (lB G AF) (0,[.int .i64 (k:Int),.int .i64 0,.int .i64 kd,rs,aN l,.str pt,.str ph]) =
   some (if (l.take k).all (λx=>!decide (x=e))=true then (1,[.int .i64 (k:Int),.int .i64 (k:Int),.bool false,.int .i64 kd,rs,aN l,.str pt,.str ph]) else (0,[.bool false])):=by
 have hk:=aP hn;have hlen:l.length<=mg:=by simp only[cD]at ht;omega
 have hl:=oy (b:=lB G AF) (λj=>(0,[.int .i64 (k:Int),.int .i64 (j:Int),.int .i64 kd,rs,aN l,.str pt,.str ph])) (We (λx=>!decide (x=e)) l) k
  (1,[.int .i64 (k:Int),.int .i64 (k:Int),.bool false,.int .i64 kd,rs,aN l,.str pt,.str ph]) (0,[.bool false]) (by
  intro j hj;have a1:=dr (l:=l) (i:=j) (by omega);have hw:=wj (i:=j) (n:=k) hj (by omega);generalize l[j]'(by omega)=x at a1;simp only[go_sem,bl,AF,hj,aH,hn,a1,fm,We];cases hc:decide (x=e)<;>simp only[go_sem,hw]) (by simp only[go_sem,bl,AF,aq]) k 0 (by omega)
 rw[n0]at hl;rw[hl,uO _ l k 0 (by omega),aV]
theorem N1{l:List ByteArray}(ht:cD fm l<=mg) :
  bR (lB G AG) (0,[.int .i64 0,.int .i64 kd,rs,aN l,.str pt,.str ph]) =
   some (if qw l=true then (1,[.int .i64 l.length,.bool false,.int .i64 kd,rs,aN l,.str pt,.str ph]) else (0,[.bool false])):=by
 have hlen:l.length<=mg:=by simp only[cD]at ht;omega
 have hl:=l7 (b:=lB G AG) l (λk=>(0,[.int .i64 (k:Int),.int .i64 kd,rs,aN l,.str pt,.str ph])) (λk e=>((l.take k).all λx=>!decide (x=e)) && isName e)
  (1,[.int .i64 l.length,.bool false,.int .i64 kd,rs,aN l,.str pt,.str ph]) (0,[.bool false]) (by
  intro k e hn;have hk:=aP hn;have hw:=wj hk hlen;have h1:=Vv (s:=e) (by have:=MR l (aT hn);omega);simp only[go_sem,bl,AG,hk,N0 hn ht];cases hc:(l.take k).all (λx=>!decide (x=e)) with
  |false=>simp only[go_sem]
  |true=>
   simp only[go_sem,aH,hn,fm,h1];cases h3:isName e<;>simp only[go_sem,hw]) (by simp only[go_sem,bl,AG,aq]) l.length 0 (by omega)
 rw[n0,aV]at hl;rw[hl,Kb]
end
theorem ac5{ip:ByteArray->Bool}(hP:∀s:ByteArray,s.size<=mg->G 227 [.str s]=some (0,[.bool (ip s)])){t:lK}(hs:eV (ez t)<=mg):G 228 (ez t)=some (0,[.bool (isType ip t)]):=by
 rw[pO]at hs;have h1:=ahD (l:=t.ranges) (by simp only[cD]at hs;omega);have h2:=hP t.pattern (by omega);have h3:=Vw (s:=t.path) (by omega);refine bY aeg rfl ?_;simp only[go_sem,t228,ez,N1 (l:=t.names) (by omega)];cases hN:qw t.names with
 |false=>simp only[go_sem,hN,isType]
 |true=>
  simp only[go_sem,hN,isType,Gk];by_cases k1:t.kind=1
  ·have hk:vx ip t=(zx t.ranges && (t.names.isEmpty && (decide (t.pattern.size=0) && decide (t.path.size=0)))):=by simp[vx,k1]
   simp only[go_sem,h1,k1]
   repeat' (first|with_reducible rfl|((first|rw[eZ]|rw[fe]|rw[eY]|rw[fc]);split<;>simp only[go_sem,cA, *]))
   all_goals simp_all
  by_cases k2:t.kind=2
  ·have hk:vx ip t=(zx t.ranges && (YE t.ranges && ((decide (t.pattern.size=0) ||ip t.pattern) && (t.names.isEmpty && decide (t.path.size=0))))):=by simp[vx,k2]
   cases hr:t.ranges with
   |nil=>
    have I3:YE t.ranges=true:=by rw[hr];rfl
    rw[hr]at h1;simp only[go_sem,h1,k2,gK]
    repeat' (first|with_reducible rfl|((first|rw[eZ]|rw[fe]|rw[eY]|rw[fc]);split<;>simp only[go_sem,cA, *]))
    all_goals simp_all
   |cons r l=>
    have I3:YE t.ranges=decide (0<=r.lo):=by rw[hr];rfl
    rw[hr]at h1;simp only[go_sem,h1,k2,iA]
    repeat' (first|with_reducible rfl|((first|rw[eZ]|rw[fe]|rw[eY]|rw[fc]);split<;>simp only[go_sem,cA,aQ,jG, *]))
    all_goals simp_all
  by_cases k4:t.kind=4
  ·have hk:vx ip t=(fg 1 6 t.names.length && (t.ranges.isEmpty && (decide (t.pattern.size=0) && decide (t.path.size=0)))):=by simp[vx,k4]
   simp only[go_sem,yA,k4]
   repeat' (first|with_reducible rfl|((first|rw[eZ]|rw[fe]|rw[eY]|rw[fc]);split<;>simp only[go_sem,cA, *]))
   all_goals simp_all
  by_cases k5:t.kind=5
  ·have hk:vx ip t=(gE t.path && (!decide (t.path.size=0) && (t.ranges.isEmpty && (t.names.isEmpty && decide (t.pattern.size=0))))):=by simp[vx,k5]
   simp only[go_sem,h3,k5]
   repeat' (first|with_reducible rfl|((first|rw[eZ]|rw[fe]|rw[eY]|rw[fc]);split<;>simp only[go_sem,cA, *]))
   all_goals simp_all
  by_cases k3:t.kind=3
  ·have hk:vx ip t=(t.ranges.isEmpty && (t.names.isEmpty && (decide (t.pattern.size=0) && decide (t.path.size=0)))):=by simp[vx,k3]
   simp only[go_sem,k3]
   repeat' (first|with_reducible rfl|((first|rw[eZ]|rw[fe]|rw[eY]|rw[fc]);split<;>simp only[go_sem,cA, *]))
   all_goals simp_all
  by_cases k6:t.kind=6
  ·have hk:vx ip t=(t.ranges.isEmpty && (t.names.isEmpty && (decide (t.pattern.size=0) && decide (t.path.size=0)))):=by simp[vx,k6]
   simp only[go_sem,k6]
   repeat' (first|with_reducible rfl|((first|rw[eZ]|rw[fe]|rw[eY]|rw[fc]);split<;>simp only[go_sem,cA, *]))
   all_goals simp_all
  have hk:vx ip t=false:=by simp[vx,k1,k2,k3,k4,k5,k6]
  simp only[go_sem,k1,k2,k3,k4,k5,k6,hk]
end
section
def zT(t:lK):Bool:=decide (t.kind=0) && (t.ranges.isEmpty && (t.names.isEmpty && (decide (t.pattern.size=0) && decide (t.path.size=0))))
theorem ah4(t:lK):G 270 (ez t)=some (0,[.bool (zT t)]):=by
 refine bY aeS rfl ?_;simp only[go_sem,afG,ez]
 repeat' (first|with_reducible rfl|((first|rw[eZ]|rw[fe]|rw[eY]|rw[fc]);split<;>simp only[go_sem,pH,cA, *]))
 all_goals simp_all[zT]
theorem acW(t:lK):G 211 (ez t)=some (0,[.bool (zT t)]):=by
 refine bY ad6 rfl ?_;simp only[go_sem,t211,ez]
 repeat' (first|with_reducible rfl|((first|rw[eZ]|rw[fe]|rw[eY]|rw[fc]);split<;>simp only[go_sem,pH,cA, *]))
 all_goals simp_all[zT]
theorem Bh{l:List ByteArray}(h:l.isEmpty=true):qw l=true:=by rw[List.isEmpty_iff.1 h];rfl
theorem Pl{l:List iH}(h:l.isEmpty=true):zx l=true:=by rw[List.isEmpty_iff.1 h];rfl
theorem adk{ip:ByteArray->Bool}(hP:∀s:ByteArray,s.size<=mg->G 285 [.str s]=some (0,[.bool (ip s)])){t:lK}(hs:eV (ez t)<=mg):G 286 (ez t)=some (0,[.bool (isType ip t)]):=by
 rw[pO]at hs;have h1:=ah6 (l:=t.ranges) (by simp only[cD]at hs;omega);have h2:=hP t.pattern (by omega);have h3:=Vy (s:=t.path) (by omega);have h4:=Zv (l:=t.names) (by omega);have h5:=OA (l:=t.names) (by simp only[cD]at hs;omega);refine bY ae0 rfl ?_;simp only[go_sem,isType,afN,ez];by_cases k1:t.kind=1
 ·have hk:vx ip t=(zx t.ranges && (t.names.isEmpty && (decide (t.pattern.size=0) && decide (t.path.size=0)))):=by simp[vx,k1]
  simp only[go_sem,Gk,k1]
  repeat' (first|with_reducible rfl|((first|rw[eZ]|rw[fe]|rw[eY]|rw[fc]);split<;>simp only[go_sem,cA, *]))
  all_goals clear h1 h2 h3 h4 h5 hP hs
  all_goals simp_all[Bh]
 by_cases k2:t.kind=2
 ·have hk:vx ip t=(zx t.ranges && (YE t.ranges && ((decide (t.pattern.size=0) ||ip t.pattern) && (t.names.isEmpty && decide (t.path.size=0))))):=by simp[vx,k2]
  cases hr:t.ranges with
  |nil=>
   have I3:YE t.ranges=true:=by rw[hr];rfl
   rw[hr]at h1;simp only[go_sem,Gk,k2]
   repeat' (first|with_reducible rfl|((first|rw[eZ]|rw[fe]|rw[eY]|rw[fc]);split<;>simp only[go_sem,cA,dB, *]))
   all_goals clear h1 h2 h3 h4 h5 hP hs
   all_goals simp_all[Bh,Pl]
  |cons r l=>
   have I3:YE t.ranges=decide (0<=r.lo):=by rw[hr];rfl
   rw[hr]at h1;simp only[go_sem,Gk,k2]
   repeat' (first|with_reducible rfl|((first|rw[eZ]|rw[fe]|rw[eY]|rw[fc]);split<;>simp only[go_sem,cA,aQ,jG, *]))
   all_goals clear h1 h2 h3 h4 h5 hP hs
   all_goals simp_all[Bh]
   all_goals omega
 by_cases k4:t.kind=4
 ·have hk:vx ip t=(fg 1 6 t.names.length && (t.ranges.isEmpty && (decide (t.pattern.size=0) && decide (t.path.size=0)))):=by simp[vx,k4]
  unfold fg at hk;unfold qw;simp only[go_sem,Gk,k4]
  repeat' (first|with_reducible rfl|((first|rw[eZ]|rw[fe]|rw[eY]|rw[fc]);split<;>simp only[go_sem,cA, *]))
  all_goals clear h1 h2 h3 h4 h5 hP hs
  all_goals simp_all[Bh,Pl]
 by_cases k5:t.kind=5
 ·have hk:vx ip t=(gE t.path && (!decide (t.path.size=0) && (t.ranges.isEmpty && (t.names.isEmpty && decide (t.pattern.size=0))))):=by simp[vx,k5]
  simp only[go_sem,Gk,k5]
  repeat' (first|with_reducible rfl|((first|rw[eZ]|rw[fe]|rw[eY]|rw[fc]);split<;>simp only[go_sem,cA,Gk, *]))
  all_goals clear h1 h2 h3 h4 h5 hP hs
  all_goals simp_all[Bh]
 by_cases k3:t.kind=3
 ·have hk:vx ip t=(t.ranges.isEmpty && (t.names.isEmpty && (decide (t.pattern.size=0) && decide (t.path.size=0)))):=by simp[vx,k3]
  simp only[go_sem,Gk,k3]
  repeat' (first|with_reducible rfl|((first|rw[eZ]|rw[fe]|rw[eY]|rw[fc]);split<;>simp only[go_sem,cA,Gk, *]))
  all_goals clear h1 h2 h3 h4 h5 hP hs
  all_goals simp_all[Bh]
 by_cases k6:t.kind=6
 ·have hk:vx ip t=(t.ranges.isEmpty && (t.names.isEmpty && (decide (t.pattern.size=0) && decide (t.path.size=0)))):=by simp[vx,k6]
  simp only[go_sem,Gk,k6]
  repeat' (first|with_reducible rfl|((first|rw[eZ]|rw[fe]|rw[eY]|rw[fc]);split<;>simp only[go_sem,cA,Gk, *]))
  all_goals clear h1 h2 h3 h4 h5 hP hs
  all_goals simp_all[Bh]
 have hk:vx ip t=false:=by simp[vx,k1,k2,k3,k4,k5,k6]
 simp only[go_sem,Gk,k1,k2,hk]
 repeat' (first|with_reducible rfl|((first|rw[eZ]|rw[fe]|rw[eY]|rw[fc]);split<;>simp only[go_sem,cA,Gk, *]))
end
section
def mD:ByteArray:=⟨#[116,114,117,101]⟩
def jH:ByteArray:=⟨#[102,97,108,115,101]⟩
def yy:ByteArray:=⟨#[49]⟩
def qR:ByteArray:=⟨#[48]⟩
theorem mc:(⟨[116,114,117,101].toArray⟩:ByteArray)=mD:=(rfl)
theorem pP:(⟨[102,97,108,115,101].toArray⟩:ByteArray)=jH:=(rfl)
theorem o9:(⟨[49].toArray⟩:ByteArray)=yy:=(rfl)
theorem ny:(⟨[48].toArray⟩:ByteArray)=qR:=(rfl)
def ki(s:ByteArray):ByteArray:=if s=yy then mD else if s=qR then jH else s
def kR(mt:ByteArray->ByteArray->Bool)(t:lK)(s:ByteArray):Option ByteArray:=
 if t.kind=1 then (match I8 s with
  |some n=>if LQ t.ranges n=true then some (wA n) else none
  |none=>none)
 else if t.kind=2 then (if (gE s && (LQ t.ranges s.size && (decide (t.pattern.size=0) ||mt t.pattern s)))=true then some s else none)
 else if t.kind=3 then (if (decide (ki s=mD) ||decide (ki s=jH))=true then some (ki s) else none)
 else if t.kind=4 then (if lH t.names s=true then some s else none)
 else if t.kind=5 then (if (gE s && !decide (s.size=0))=true then some s else none)
 else if t.kind=6 then (if s.size=0 then some s else none)
 else none
def zD(ip:ByteArray->Bool)(mt:ByteArray->ByteArray->Bool)(t:lK)(s:ByteArray):Option ByteArray:=if isType ip t=true then kR mt t s else none
def j9:Option ByteArray->List D
 |some v=>[.str v,.bool true]
 |none=>[.str ⟨#[]⟩,.bool false]
theorem Cc{l:List ByteArray}{i:Nat}{e s:ByteArray}(h:nth l i=some e):((l.take (i+1)).any λx=>decide (x=s))=(((l.take i).any λx=>decide (x=s)) ||decide (e=s)):=by
 rw[cn l i e h,List.any_append];simp
theorem QQ(l:List ByteArray)(s:ByteArray):(l.any λx=>decide (x=s))=lH l s:=by
 unfold lH
 congr 1
 funext x
 exact decide_eq_decide.2 eq_comm
theorem UW{l:List ByteArray}{s o pt ph:ByteArray}{kd:Int}{rs:D}(hlen:l.length<=mg) :
  bR (lB G AJ) (0,[.str s,.str o,.bool false,.int .i64 0,.int .i64 kd,rs,aN l,.str pt,.str ph])=some (0,[.str s,.str o,.bool (lH l s),.int .i64 l.length,.bool false,.int .i64 kd,rs,aN l,.str pt,.str ph]):=by
 have hl:=ej (b:=lB G AJ) l (λi (b:Bool)=>(0,[.str s,.str o,.bool b,.int .i64 (i:Int),.int .i64 kd,rs,aN l,.str pt,.str ph])) (λi=>(l.take i).any λx=>decide (x=s))
  (0,[.str s,.str o,.bool (l.any λx=>decide (x=s)),.int .i64 l.length,.bool false,.int .i64 kd,rs,aN l,.str pt,.str ph]) (by
  intro i e hn;have hi:=aP hn;have hw:=wj hi hlen;rw[Cc hn];cases hb:(l.take i).any λx=>decide (x=s)<;>simp only[go_sem,bl,AJ,hi,aH,hn,fm,hw]) (by simp only[go_sem,bl,AJ,aq,aU]) l.length 0 (by omega)
 rw[n0,ba,List.any_nil,QQ]at hl;exact hl
theorem ahL{ip:ByteArray->Bool}{mt:ByteArray->ByteArray->Bool}(hP:∀s:ByteArray,s.size<=mg->G 227 [.str s]=some (0,[.bool (ip s)]))(hM:∀p s:ByteArray,p.size<=mg->s.size<=mg->G 236 [.str p,.str s]=some (0,[.bool (mt p s)]))
  {t:lK} {s:ByteArray} (ht:eV (ez t)<=mg) (hs:s.size<=mg):G 237 (ez t++[.str s])=some (0,j9 (zD ip mt t s)):=by
 have h8:=ac5 hP ht;have hz:=ht;rw[pO]at hz;have h1:=ahI hs;have h4:=Vw hs;have h5:=ac6 (n:=0) (by omega);have h6:=hM t.pattern s (by omega) hs;have h7:∀n:Int,G 232 [eS t.ranges,.int .i64 n]=some (0,[.bool (LQ t.ranges n)]):=λn=>ahJ (by simp only[cD]at hz;omega);have h9:=UW (l:=t.names) (s:=s) (o:=s) (pt:=t.pattern) (ph:=t.path) (kd:=t.kind) (rs:=eS t.ranges) (by simp only[cD]at hz;omega);rw[ez]at h8;refine bY aep rfl ?_;simp only[go_sem,t237,ez];have fin:∀{r:Option ByteArray},kR mt t s=r->zD ip mt t s=if isType ip t=true then r else none:=λh=>by rw[zD,h]
 clear hP hM;by_cases k1:t.kind=1
 ·rw[k1]at h8 h9;cases hr:I8 s with
  |none=>
   have hv:=fin (r:=none) (by simp[kR,k1,hr]);rw[hr]at h1;clear fin h9;cases hT:isType ip t<;>rw[hT]at h8 hv<;>simp only[go_sem,k1,h1,h5,lq,hv,j9]
  |some n=>
   have hq:=ac6 (n:=n) (OB hr);rw[hr]at h1;cases hi:LQ t.ranges n with
   |false=>
    have hv:=fin (r:=none) (by simp[kR,k1,hr,hi]);clear fin h9;cases hT:isType ip t<;>rw[hT]at h8 hv<;>simp only[go_sem,h7,k1,h1,hq,hi,lq,hv,j9]
   |true=>
    have hv:=fin (r:=some (wA n)) (by simp[kR,k1,hr,hi]);clear fin h9;cases hT:isType ip t<;>rw[hT]at h8 hv<;>simp only[go_sem,h7,k1,h1,hq,hi,lq,h8,hv,j9]
 by_cases k2:t.kind=2
 ·rw[k2]at h8 h9;have hv:=fin (r:=if (gE s && (LQ t.ranges s.size && (decide (t.pattern.size=0) ||mt t.pattern s)))=true then some s else none) (by simp[kR,k2]);clear fin h9;cases hT:isType ip t<;>rw[hT]at h8 hv<;>cases e1:gE s<;>cases e2:LQ t.ranges s.size<;>by_cases e3:t.pattern.size=0<;>cases e4:mt t.pattern s<;>rw[e1,e2,e4]at hv<;>simp only[go_sem,e3]at hv<;>simp only[go_sem,h4,h6,h7,cA,k2,e1,e2,e3,e4,h8,hv,j9]
 by_cases k3:t.kind=3
 ·rw[k3]at h8 h9;have hv:=fin (r:=if (decide (ki s=mD) ||decide (ki s=jH))=true then some (ki s) else none) (by simp[kR,k3]);clear fin h9;have d1:¬yy=qR:=by decide
  have d2:¬mD=jH:=by decide
  have d3:¬jH=mD:=by decide
  have d4:¬qR=yy:=by decide
  have d5:¬mD=yy:=by decide
  have d6:¬mD=qR:=by decide
  have d7:¬jH=yy:=by decide
  have d8:¬jH=qR:=by decide
  by_cases e1:s=yy
  ·have hb:ki s=mD:=by rw[ki,if_pos e1]
   rw[hb]at hv;simp only[go_sem,d2]at hv;cases hT:isType ip t<;>rw[hT]at h8 hv<;>simp only[go_sem,mc,o9,k3,e1,h8,j9]<;>(rw[e1]at hv;simp only[go_sem,hv])
  by_cases e2:s=qR
  ·have hb:ki s=jH:=by rw[ki,if_neg e1,if_pos e2]
   rw[hb]at hv;simp only[go_sem,d3]at hv;cases hT:isType ip t<;>rw[hT]at h8 hv<;>simp only[go_sem,mc,pP,o9,ny,k3,e2,d3,d4,h8,j9]<;>(rw[e2]at hv;simp only[go_sem,hv])
  have hb:ki s=s:=by rw[ki,if_neg e1,if_neg e2]
  rw[hb]at hv;by_cases e3:s=mD
  ·simp only[go_sem,e3,d2]at hv;cases hT:isType ip t<;>rw[hT]at h8 hv<;>simp only[go_sem,mc,o9,ny,k3,e3,d5,d6,h8,j9]<;>simp only[go_sem,hv]
  by_cases e4:s=jH
  ·simp only[go_sem,e4,d3]at hv;cases hT:isType ip t<;>rw[hT]at h8 hv<;>simp only[go_sem,mc,pP,o9,ny,k3,e4,d3,d7,d8,h8,j9]<;>simp only[go_sem,hv]
  simp only[go_sem,e3,e4,ite_self]at hv;cases hT:isType ip t<;>rw[hT]at h8<;>simp only[go_sem,mc,pP,o9,ny,k3,e1,e2,e3,e4,hv,j9]
 by_cases k4:t.kind=4
 ·rw[k4]at h8 h9;have hv:=fin (r:=if lH t.names s=true then some s else none) (by simp[kR,k4]);clear fin;cases hT:isType ip t<;>rw[hT]at h8 hv<;>cases e1:lH t.names s<;>rw[e1]at h9 hv<;>simp only[go_sem,k4,h9,h8,hv,j9]
 by_cases k5:t.kind=5
 ·rw[k5]at h8 h9;have hv:=fin (r:=if (gE s && !decide (s.size=0))=true then some s else none) (by simp[kR,k5]);clear fin h9;cases hT:isType ip t<;>rw[hT]at h8 hv<;>cases e1:gE s<;>by_cases e2:s.size=0<;>rw[e1]at hv<;>simp only[go_sem,e2]at hv<;>simp only[go_sem,h4,cA,k5,e1,e2,h8,hv,j9]
 by_cases k6:t.kind=6
 ·rw[k6]at h8 h9;have hv:=fin (r:=if s.size=0 then some s else none) (by simp[kR,k6]);clear fin h9;cases hT:isType ip t<;>rw[hT]at h8 hv<;>by_cases e2:s.size=0<;>simp only[go_sem,e2]at hv<;>simp only[go_sem,cA,k6,e2,h8,hv,j9]
 have hv:=fin (r:=none) (by simp[kR,k1,k2,k3,k4,k5,k6]);clear fin h9;cases hT:isType ip t<;>rw[hT]at h8 hv<;>simp only[go_sem,k1,k2,k3,k4,k5,k6,hv,j9]
end
section
theorem aic{ip:ByteArray->Bool}{mt:ByteArray->ByteArray->Bool}(hP:∀s:ByteArray,s.size<=mg->G 285 [.str s]=some (0,[.bool (ip s)]))(hM:∀p s:ByteArray,p.size<=mg->s.size<=mg->G 310 [.str p,.str s]=some (0,[.bool (mt p s)]))
  {t:lK} {s:ByteArray} (ht:eV (ez t)<=mg) (hs:s.size<=mg):G 311 (ez t++[.str s])=some (0,j9 (zD ip mt t s)):=by
 have h8:=adk hP ht;have hz:=ht;rw[pO]at hz;have h1:=ah_ hs;have h4:=Vy hs;have h5:=adl 0;have h6:=hM t.pattern s (by omega) hs;have h7:∀n:Int,G 288 [eS t.ranges,.int .i64 n]=some (0,[.bool (LQ t.ranges n)]):=λn=>aia (by simp only[cD]at hz;omega);have h9:=q99 (l:=t.names) (v:=s) (by simp only[cD]at hz;omega);rw[ez]at h8;refine bY ae7 rfl ?_;clear hP hM;cases hT:isType ip t with
 |false=>
  have hv:zD ip mt t s=none:=by rw[zD,hT];rfl
  rw[hT]at h8;simp only[go_sem,ZZ,ez,h8,hv,j9]
 |true=>
 have hc:zD ip mt t s=kR mt t s:=by rw[zD,hT];rfl
 rw[hT]at h8;rw[hc];clear hc;simp only[go_sem,ZZ,ez,h8];clear h8;by_cases k1:t.kind=1
 ·cases hr:I8 s with
  |none=>
   have hv:kR mt t s=none:=by simp[kR,k1,hr]
   rw[hr]at h1;simp only[go_sem,k1,h1,h5,lq,hv,j9]
  |some n=>
   have hq:=adl n;rw[hr]at h1;cases hi:LQ t.ranges n with
   |false=>
    have hv:kR mt t s=none:=by simp[kR,k1,hr,hi]
    simp only[go_sem,h7,k1,h1,hq,hi,lq,hv,j9]
   |true=>
    have hv:kR mt t s=some (wA n):=by simp[kR,k1,hr,hi]
    simp only[go_sem,h7,k1,h1,hq,hi,lq,hv,j9]
 by_cases k2:t.kind=2
 ·have hv:kR mt t s=if (gE s && (LQ t.ranges s.size && (decide (t.pattern.size=0) ||mt t.pattern s)))=true then some s else none:=by simp[kR,k2]
  cases e1:gE s<;>cases e2:LQ t.ranges s.size<;>by_cases e3:t.pattern.size=0<;>cases e4:mt t.pattern s<;>rw[e1,e2,e4]at hv<;>simp only[go_sem,e3]at hv<;>simp only[go_sem,h4,h6,h7,cA,k2,e1,e2,e3,e4,hv,j9]
 by_cases k3:t.kind=3
 ·have hv:kR mt t s=if (decide (ki s=mD) ||decide (ki s=jH))=true then some (ki s) else none:=by simp[kR,k3]
  have d1:¬yy=qR:=by decide
  have d2:¬mD=jH:=by decide
  have d3:¬jH=mD:=by decide
  have d4:¬qR=yy:=by decide
  have d5:¬mD=yy:=by decide
  have d6:¬mD=qR:=by decide
  have d7:¬jH=yy:=by decide
  have d8:¬jH=qR:=by decide
  by_cases e1:s=yy
  ·have hb:ki s=mD:=by rw[ki,if_pos e1]
   rw[hb]at hv;rw[hv];simp only[go_sem,mc,o9,ny,k3,e1,d2,d6,j9]
  by_cases e2:s=qR
  ·have hb:ki s=jH:=by rw[ki,if_neg e1,if_pos e2]
   rw[hb]at hv;rw[hv];simp only[go_sem,mc,pP,o9,ny,k3,e2,d3,d4,j9]
  have hb:ki s=s:=by rw[ki,if_neg e1,if_neg e2]
  rw[hb]at hv;rw[hv];by_cases e3:s=mD
  ·simp only[go_sem,mc,o9,ny,k3,e3,d2,d5,d6,j9]
  by_cases e4:s=jH
  ·simp only[go_sem,mc,pP,o9,ny,k3,e4,d3,d7,d8,j9]
  simp only[go_sem,mc,pP,o9,ny,k3,e1,e2,e3,e4,j9]
 by_cases k4:t.kind=4
 ·have hv:kR mt t s=if lH t.names s=true then some s else none:=by simp[kR,k4]
  rw[hv];cases e1:lH t.names s<;>simp only[go_sem,h9,k4,e1,j9]
 by_cases k5:t.kind=5
 ·have hv:kR mt t s=if (gE s && !decide (s.size=0))=true then some s else none:=by simp[kR,k5]
  rw[hv];cases e1:gE s<;>by_cases e2:s.size=0<;>simp only[go_sem,h4,cA,k5,e1,e2,j9]
 by_cases k6:t.kind=6
 ·have hv:kR mt t s=if s.size=0 then some s else none:=by simp[kR,k6]
  rw[hv];by_cases e2:s.size=0<;>simp only[go_sem,cA,k6,e2,j9]
 have hv:kR mt t s=none:=by simp[kR,k1,k2,k3,k4,k5,k6]
 rw[hv];simp only[go_sem,k1,k2,k3,k4,k5,k6,j9]
def isVal(ip:ByteArray->Bool)(mt:ByteArray->ByteArray->Bool)(t:lK)(s:ByteArray):Bool:=match zD ip mt t s with
 |some v=>decide (v=s)
 |none=>false
theorem ac8{ip:ByteArray->Bool}{mt:ByteArray->ByteArray->Bool}(hP:∀s:ByteArray,s.size<=mg->G 227 [.str s]=some (0,[.bool (ip s)]))(hM:∀p s:ByteArray,p.size<=mg->s.size<=mg->G 236 [.str p,.str s]=some (0,[.bool (mt p s)]))
  {t:lK} {s:ByteArray} (ht:eV (ez t)<=mg) (hs:s.size<=mg):G 238 (ez t++[.str s])=some (0,[.bool (isVal ip mt t s)]):=by
 have h:=ahL hP hM ht hs;rw[ez]at h;refine bY aeq rfl ?_;unfold isVal;cases hc:zD ip mt t s with
 |none=>rw[hc]at h;simp only[go_sem]at h;simp only[go_sem,t238,ez,h,j9]
 |some v=>rw[hc]at h;simp only[go_sem]at h;simp only[go_sem,t238,ez,h,j9]
theorem adn{ip:ByteArray->Bool}{mt:ByteArray->ByteArray->Bool}(hP:∀s:ByteArray,s.size<=mg->G 285 [.str s]=some (0,[.bool (ip s)]))(hM:∀p s:ByteArray,p.size<=mg->s.size<=mg->G 310 [.str p,.str s]=some (0,[.bool (mt p s)]))
  {t:lK} {s:ByteArray} (ht:eV (ez t)<=mg) (hs:s.size<=mg):G 312 (ez t++[.str s])=some (0,[.bool (isVal ip mt t s)]):=by
 have h:=aic hP hM ht hs;rw[ez]at h;refine bY ae8 rfl ?_;unfold isVal;cases hc:zD ip mt t s with
 |none=>rw[hc]at h;simp only[go_sem]at h;simp only[go_sem,Z0,ez,h,j9]
 |some v=>rw[hc]at h;simp only[go_sem]at h;simp only[go_sem,Z0,ez,h,j9]
end
section
theorem sT{α β σ ρ:Type}{b:σ->Option (Sg σ ρ)}(es:List α)(g:α->β)(m0:Nat->σ)(m1:Nat->List β->σ)(f0:ρ)(f1:List β->ρ)
  (h0:∀e,nth es 0=some e->b (m0 0)=some (.go (m1 1 [g e])))
  (h1:∀i e,nth es i=some e->0 < i->b (m1 i ((es.take i).map g))=some (.go (m1 (i+1) ((es.take i).map g++[g e]))))
  (e0:es=[]->b (m0 0)=some (.out f0)) (e1:es≠[]->b (m1 es.length (es.map g))=some (.out (f1 (es.map g)))) :
  bR b (m0 0)=some (if es.isEmpty=true then f0 else f1 (es.map g)):=by
 cases vT:es with
 |nil=>rw[bk (e0 vT)];rfl
 |cons x l=>
  have iQ:es≠[]:=by rw[vT];simp
  have go:∀m i,i+m=es.length->0 < i->bR b (m1 i ((es.take i).map g))=some (f1 (es.map g)):=by
   intro m
   induction m with
   |zero=>
    intro i hi hp;obtain rfl:i=es.length:=by omega
    rw[aU];exact bk (e1 iQ)
   |succ m ih=>
    intro i hi hp;have a1:=dr (l:=es) (i:=i) (by omega);rw[cF (h1 i _ a1 hp),<- vr a1];exact ih (i+1) (by omega) (by omega)
  have hx:nth es 0=some x:=by rw[vT];rfl
  rw[cF (h0 x hx)];have:=go (es.length - 1) 1 (by rw[vT];simp;omega) (by omega);rw[vr hx]at this;simp only[ba,dB,ao]at this;rw[this,vT];rfl
theorem fj(k by_:Nat)(fl:Bool)(es ja:List (List D))(hb:by_<=65536)(h:es.length+ja.length<=2147483648):aJ (.app k by_) [.list k fl es,.list k fl ja]=some (.list k fl (es++ja)):=
 Kh k by_ fl es ja (of_eq_true (ZK hb h))
theorem q76{t:lK}(ht:eV (ez t)<=mg):G 76 (ez t)=some (0,ez t):=by
 rw[pO]at ht;have h1:=fj 2 16 true [] (t.ranges.map jG) (by decide) (by simp only[cD,mg,au,aK]at *;omega);have h2:=fj 1 16 true [] (t.names.map fm) (by decide) (by simp only[cD,mg,au,aK]at *;omega);refine bY s76 rfl ?_;simp only[go_sem,t76,ez,h1,h2]
theorem q77{p:mh}(hs:eV (jF p)<=mg):G 77 (jF p)=some (0,jF p):=by
 rw[BN]at hs;have hlen:p.steps.length<=mg:=by simp only[cD]at hs;omega
 refine bY s77 rfl ?_;simp only[go_sem,t77,jF];have hl:=sT (b:=lB G Dg) p.steps (λe=>e) (λi=>(0,[.int .i64 (i:Int),.bool p.root,.int .i64 p.oI,eI p.steps,.bool false,.int .i64 0,.bool p.root,.int .i64 p.oI]))
  (λi a=>(1,[.int .i64 (i:Int),.bool p.root,.int .i64 p.oI,eI p.steps,.bool false,.int .i64 0,.bool p.root,.int .i64 p.oI,eI a]))
  (0,[.int .i64 0,.bool false,.bool p.root,.int .i64 p.oI,eI p.steps,.bool false,.int .i64 0,.bool p.root,.int .i64 p.oI])
  (λa=>(1,[.int .i64 p.steps.length,.bool false,.bool p.root,.int .i64 p.oI,eI p.steps,.bool false,.int .i64 0,.bool p.root,.int .i64 p.oI,eI a])) (by
   intro e hn;have hi:=aP hn;have hw:=wj hi hlen;have mE:=(fH hs (aT hn)).1;rw[vI]at mE;have h1:=fj 2 32 true [] (e.fx.map nL) (by decide) (by simp only[cD,mg,au,aK]at *;omega);have h2:aJ (.dV 2 false) [.str e.name,ib e.fx]=some (.list 2 false [[.str e.name,ib e.fx]]):=by simp[aJ,chunk]
   have h3:=fj 2 40 false [] [[.str e.name,ib e.fx]] (by decide) (by simp);have h4:aJ .pl [.str e.name]=some (.bool false):=rfl;simp only[go_sem,bl,Dg,hi,aH,hn,jY,h1,h2,h3,h4,hw];simp[eI,jY]) (by
   intro i e hn hp;have hi:=aP hn;have hw:=wj hi hlen;have mE:=(fH hs (aT hn)).1;rw[vI]at mE;have h1:=fj 2 32 true [] (e.fx.map nL) (by decide) (by simp only[cD,mg,au,aK]at *;omega);have h2:aJ (.dV 2 false) [.str e.name,ib e.fx]=some (.list 2 false [[.str e.name,ib e.fx]]):=by simp[aJ,chunk]
   have h3:=fj 2 40 false ((p.steps.take i).map jY) [[.str e.name,ib e.fx]] (by decide) (by simp only[mg,au,a_,az,aK]at *;omega);have h4:aJ .pl [.str e.name]=some (.bool false):=rfl;simp only[go_sem,bl,Dg,hi,aH,hn,jY,dz,h1,h2,h3,h4,hw];simp[eI,jY]) (by
   intro h;simp only[go_sem,bl,Dg,h,dB,n0,eA]) (by
   intro h;simp only[go_sem,bl,Dg,aq,dz])
 rw[n0]at hl;rw[hl];cases Cm:p.steps with
 |nil=>simp only[go_sem,gK,dB];rfl
 |cons s l=>simp only[go_sem,iA,dz]
theorem kH(k:Nat)(xs:List D)(h:xs.length=k)(hk:0 < k):aJ (.dV k false) xs=some (.list k false [xs]):=by
 have h1:xs.length / k=1:=by rw[h];exact Nat.div_self hk
 have h2:xs.length % k=0:=by rw[h];exact Nat.mod_self k
 have h3:chunk k 1 xs=some [xs]:=by
  simp only[chunk];rw[if_pos (by omega),eB (by omega),List.take_of_length_le (by omega)];rfl
 simp only[aJ,h1,h2,h3,if_true];rw[if_pos (λh=>by cases h)]
theorem ads(n:Nat):∀e:cN,ah e < n->eV (bM e)<=mg->G 78 (bM e)=some (0,bM e):=by
 induction n with
 |zero=>intro e h;omega
 |succ n ih=>
  intro e hz hs;have hlen:e.kids.length<=mg:=aA rU hs;have ht:=nV e;have h7:=q77 (p:=e.path) (by omega);rw[jF]at h7;refine bY s78 (by rw[bg];rfl) ?_;simp only[go_sem,t78,bg,h7];have st:∀(i:Nat) (x:cN) (l:List (List D)),nth e.kids i=some x->l.length<=mg->G 78 (bM x)=some (0,bM x)/\aJ .pl [.int .i64 x.op,.int .i64 x.num,.str x.text,.bool x.path.root,.int .i64 x.path.oI]=some (.bool false)/\
    aJ (.dV 7 false) (bM x)=some (.list 7 false [bM x])/\aJ (.app 7 96) [.list 7 false l,.list 7 false [bM x]]=some (.list 7 false (l++[bM x])):=by
   intro i x l hn hl;refine⟨ih x (by have:=cN.At (aT hn);omega) (aA (Au (aT hn)) hs),rfl,kH 7 _ (pw x) (by decide),fj 7 96 false l [bM x] (by decide) (by simp only[mg,az,aK]at *;omega)⟩
  have hl:=sT (b:=lB G Dh) e.kids (λe=>e) (λi=>(0,.int .i64 (i:Int)::(bM e++[.int .i64 0,.int .i64 0,.str ⟨#[]⟩,.bool false,.int .i64 0,.int .i64 e.op,.int .i64 e.num,.str e.text,.bool e.path.root,.int .i64 e.path.oI,eI e.path.steps])))
   (λi a=>(1,.int .i64 (i:Int)::(bM e++[.int .i64 0,.int .i64 0,.str ⟨#[]⟩,.bool false,.int .i64 0,.int .i64 e.op,.int .i64 e.num,.str e.text,.bool e.path.root,.int .i64 e.path.oI,cV a,eI e.path.steps])))
   (0,.int .i64 0::.bool false::(bM e++[.int .i64 0,.int .i64 0,.str ⟨#[]⟩,.bool false,.int .i64 0,.int .i64 e.op,.int .i64 e.num,.str e.text,.bool e.path.root,.int .i64 e.path.oI,eI e.path.steps]))
   (λa=>(1,.int .i64 e.kids.length::.bool false::(bM e++[.int .i64 0,.int .i64 0,.str ⟨#[]⟩,.bool false,.int .i64 0,.int .i64 e.op,.int .i64 e.num,.str e.text,.bool e.path.root,.int .i64 e.path.oI,cV a,eI e.path.steps]))) (by
    intro x hn;have hi:=aP hn;have hw:=wj hi hlen;obtain⟨h1,h2,h3,h4⟩:=st 0 x [] hn (by simp);rw[bg x]at h1 h3 h4;simp only[go_sem,bl,Dh,bg e,hi,aH,hn,jy];simp only[go_sem,bg x,h1,h2,h3,h4,hw];simp[cV,bg x]) (by
    intro i x hn hp;have hi:=aP hn;have hw:=wj hi hlen;obtain⟨h1,h2,h3,h4⟩:=st i x ((e.kids.take i).map bM) hn (by simp only[au,a_];omega);rw[bg x]at h1 h3 h4;simp only[go_sem,bl,Dh,bg e,hi,aH,hn,jy,dz];simp only[go_sem,bg x,h1,h2,h3,h4,hw];simp[cV,bg x]) (by
    intro h;simp only[go_sem,bl,Dh,bg,h,dB,n0,eA]) (by
    intro h;simp only[go_sem,bl,Dh,bg,aq,dz])
  simp only[go_sem,bg,n0]at hl;rw[hl];cases Cm:e.kids with
  |nil=>simp only[go_sem,gK,dB];rfl
  |cons s l=>simp only[go_sem,iA,dz]
theorem q78{e:cN}(hs:eV (bM e)<=mg):G 78 (bM e)=some (0,bM e):=ads _ e (aO _) hs
end
section
def bS(e:af):List D:=ax e++[.int .i64 0,.str ⟨#[]⟩,.int .i64 0,.str ⟨#[]⟩,.str ⟨#[]⟩,.str ⟨#[]⟩,.bool false,.bool false,.bool false,.bool false,.int .i64 0,.int .i64 0,.int .i64 e.kind,.str e.name,.int .i64 e.type.kind,.str e.type.pattern,.str e.type.path,.str e.default,.bool e.given,.bool e.dY,.bool e.cP,.bool e.fixed,.int .i64 e.min,.int .i64 e.max,aB e.kids,aN e.keys,aN e.unique]
def rS(e:af):List D:=[eS e.type.ranges,aN e.type.names]
theorem RC{e:af}{w:D}(hs:eV (ax e)<=mg) :
  bR (lB G AU) (0,.int .i64 0::(bS e++[]++rS e))=some (if e.when.isEmpty=true then (0,.int .i64 0::.bool false::(bS e++[]++rS e)) else (1,.int .i64 e.when.length::.bool false::(bS e++[cV e.when]++rS e))):=by
 have hz:=hs;rw[dK]at hz;have hf:cD bM e.when<=mg:=by omega
 have hlen:e.when.length<=mg:=by simp only[cD]at hf;omega
 have st:∀(i:Nat) (x:cN) (l:List (List D)),nth e.when i=some x->l.length<=mg->G 78 (bM x)=some (0,bM x)/\aJ .pl [.int .i64 x.op,.int .i64 x.num,.str x.text,.bool x.path.root,.int .i64 x.path.oI]=some (.bool false)/\
   aJ (.dV 7 false) (bM x)=some (.list 7 false [bM x])/\aJ (.app 7 96) [.list 7 false l,.list 7 false [bM x]]=some (.list 7 false (l++[bM x])):=by
  intro i x l hn hl;refine⟨q78 (fH hf (aT hn)).1,rfl,kH 7 _ (pw x) (by decide),fj 7 96 false l [bM x] (by decide) (by simp only[mg,az,aK]at *;omega)⟩
 have hl:=sT (b:=lB G AU) e.when (λe=>e) (λi=>(0,.int .i64 (i:Int)::(bS e++[]++rS e))) (λi a=>(1,.int .i64 (i:Int)::(bS e++[cV a]++rS e)))
  (0,.int .i64 0::.bool false::(bS e++[]++rS e)) (λa=>(1,.int .i64 e.when.length::.bool false::(bS e++[cV a]++rS e))) (by
   intro x hn;have hi:=aP hn;have hw:=wj hi hlen;obtain⟨h1,h2,h3,h4⟩:=st 0 x [] hn (by simp);rw[bg x]at h1 h3 h4;simp only[go_sem,bl,AU,bS,rS,ae,hi,aH,hn,jy];simp only[go_sem,bg x,h1,h2,h3,h4,hw];simp[cV,bg x]) (by
   intro i x hn hp;have hi:=aP hn;have hw:=wj hi hlen;obtain⟨h1,h2,h3,h4⟩:=st i x ((e.when.take i).map bM) hn (by simp only[au,a_];omega);rw[bg x]at h1 h3 h4;simp only[go_sem,bl,AU,bS,rS,ae,hi,aH,hn,jy,dz];simp only[go_sem,bg x,h1,h2,h3,h4,hw];simp[cV,bg x]) (by
   intro h;simp only[go_sem,bl,AU,bS,rS,ae,h,dB,n0,eA]) (by
   intro h;simp only[go_sem,bl,AU,bS,rS,ae,aq,dz])
 rw[n0]at hl;rw[hl,dz]
theorem RD{e:af}{w:D}(hs:eV (ax e)<=mg) :
  bR (lB G AV) (0,.int .i64 0::(bS e++[]++rS e))=some (if e.hX.isEmpty=true then (0,.int .i64 0::.bool false::(bS e++[]++rS e)) else (1,.int .i64 e.hX.length::.bool false::(bS e++[cV e.hX]++rS e))):=by
 have hz:=hs;rw[dK]at hz;have hf:cD bM e.hX<=mg:=by omega
 have hlen:e.hX.length<=mg:=by simp only[cD]at hf;omega
 have st:∀(i:Nat) (x:cN) (l:List (List D)),nth e.hX i=some x->l.length<=mg->G 78 (bM x)=some (0,bM x)/\aJ .pl [.int .i64 x.op,.int .i64 x.num,.str x.text,.bool x.path.root,.int .i64 x.path.oI]=some (.bool false)/\
   aJ (.dV 7 false) (bM x)=some (.list 7 false [bM x])/\aJ (.app 7 96) [.list 7 false l,.list 7 false [bM x]]=some (.list 7 false (l++[bM x])):=by
  intro i x l hn hl;refine⟨q78 (fH hf (aT hn)).1,rfl,kH 7 _ (pw x) (by decide),fj 7 96 false l [bM x] (by decide) (by simp only[mg,az,aK]at *;omega)⟩
 have hl:=sT (b:=lB G AV) e.hX (λe=>e) (λi=>(0,.int .i64 (i:Int)::(bS e++[]++rS e))) (λi a=>(1,.int .i64 (i:Int)::(bS e++[cV a]++rS e)))
  (0,.int .i64 0::.bool false::(bS e++[]++rS e)) (λa=>(1,.int .i64 e.hX.length::.bool false::(bS e++[cV a]++rS e))) (by
   intro x hn;have hi:=aP hn;have hw:=wj hi hlen;obtain⟨h1,h2,h3,h4⟩:=st 0 x [] hn (by simp);rw[bg x]at h1 h3 h4;simp only[go_sem,bl,AV,bS,rS,ae,hi,aH,hn,jy];simp only[go_sem,bg x,h1,h2,h3,h4,hw];simp[cV,bg x]) (by
   intro i x hn hp;have hi:=aP hn;have hw:=wj hi hlen;obtain⟨h1,h2,h3,h4⟩:=st i x ((e.hX.take i).map bM) hn (by simp only[au,a_];omega);rw[bg x]at h1 h3 h4;simp only[go_sem,bl,AV,bS,rS,ae,hi,aH,hn,jy,dz];simp only[go_sem,bg x,h1,h2,h3,h4,hw];simp[cV,bg x]) (by
   intro h;simp only[go_sem,bl,AV,bS,rS,ae,h,dB,n0,eA]) (by
   intro h;simp only[go_sem,bl,AV,bS,rS,ae,aq,dz])
 rw[n0]at hl;rw[hl,dz]
theorem RE{e:af}{w:D}(hs:eV (ax e)<=mg) :
  bR (lB G AW) (0,.int .i64 0::(bS e++[w]++rS e))=some (if e.hX.isEmpty=true then (0,.int .i64 0::.bool false::(bS e++[w]++rS e)) else (1,.int .i64 e.hX.length::.bool false::(bS e++[w,cV e.hX]++rS e))):=by
 have hz:=hs;rw[dK]at hz;have hf:cD bM e.hX<=mg:=by omega
 have hlen:e.hX.length<=mg:=by simp only[cD]at hf;omega
 have st:∀(i:Nat) (x:cN) (l:List (List D)),nth e.hX i=some x->l.length<=mg->G 78 (bM x)=some (0,bM x)/\aJ .pl [.int .i64 x.op,.int .i64 x.num,.str x.text,.bool x.path.root,.int .i64 x.path.oI]=some (.bool false)/\
   aJ (.dV 7 false) (bM x)=some (.list 7 false [bM x])/\aJ (.app 7 96) [.list 7 false l,.list 7 false [bM x]]=some (.list 7 false (l++[bM x])):=by
  intro i x l hn hl;refine⟨q78 (fH hf (aT hn)).1,rfl,kH 7 _ (pw x) (by decide),fj 7 96 false l [bM x] (by decide) (by simp only[mg,az,aK]at *;omega)⟩
 have hl:=sT (b:=lB G AW) e.hX (λe=>e) (λi=>(0,.int .i64 (i:Int)::(bS e++[w]++rS e))) (λi a=>(1,.int .i64 (i:Int)::(bS e++[w,cV a]++rS e)))
  (0,.int .i64 0::.bool false::(bS e++[w]++rS e)) (λa=>(1,.int .i64 e.hX.length::.bool false::(bS e++[w,cV a]++rS e))) (by
   intro x hn;have hi:=aP hn;have hw:=wj hi hlen;obtain⟨h1,h2,h3,h4⟩:=st 0 x [] hn (by simp);rw[bg x]at h1 h3 h4;simp only[go_sem,bl,AW,bS,rS,ae,hi,aH,hn,jy];simp only[go_sem,bg x,h1,h2,h3,h4,hw];simp[cV,bg x]) (by
   intro i x hn hp;have hi:=aP hn;have hw:=wj hi hlen;obtain⟨h1,h2,h3,h4⟩:=st i x ((e.hX.take i).map bM) hn (by simp only[au,a_];omega);rw[bg x]at h1 h3 h4;simp only[go_sem,bl,AW,bS,rS,ae,hi,aH,hn,jy,dz];simp only[go_sem,bg x,h1,h2,h3,h4,hw];simp[cV,bg x]) (by
   intro h;simp only[go_sem,bl,AW,bS,rS,ae,h,dB,n0,eA]) (by
   intro h;simp only[go_sem,bl,AW,bS,rS,ae,aq,dz])
 rw[n0]at hl;rw[hl,dz]
theorem af.iE(e:af)(es:List af):ah e.kids < ah (e::es):=by
 cases e;simp only[bB,af.mk.sizeOf_spec];omega
theorem af.fv(e:af):ah e.kids < ah e:=by
 cases e;simp only[af.mk.sizeOf_spec];omega
theorem ow(e:af):(ax e).length=19:=by rw[ae];rfl
theorem dP(e:af)(k:Nat)(fl:Bool):aJ (.has 19) [.list k fl [ax e]]=some (.bool false):=by
 rw[Bv,ow,if_pos (aj 19)]
theorem hY(e:af):cD ax e.kids<=eV (ax e):=by rw[dK];omega
theorem R8{e:af}(hs:eV (ax e)<=mg)(hk:G 79 [aB e.kids]=some (0,[aB e.kids])):G 80 (ax e)=some (0,ax e):=by
 have hz:=hs;rw[dK]at hz;have h76:=q76 (t:=e.type) (by omega);rw[ez]at h76;have hz2:=pO e.type;have h1:=fj 1 16 true [] (e.keys.map fm) (by decide) (by simp only[cD,mg,au,aK]at *;omega);have h2:=fj 1 16 true [] (e.unique.map fm) (by decide) (by simp only[cD,mg,au,aK]at *;omega);have l0:=RC (e:=e) (w:=.bool false) hs;have l1:=RD (e:=e) (w:=.bool false) hs;have l2:=RE (e:=e) (w:=cV e.when) hs;simp only[go_sem,bS,rS,ae]at l0 l1 l2;refine bY s80 (by rw[ae];rfl) ?_;simp only[go_sem,t80,ae,h76,h1,h2];rw[l0];cases hw:e.when with
 |nil=>
  rw[hw]at l1 l0;simp only[go_sem,gK];rw[l1];cases hm:e.hX with
  |nil=>simp only[go_sem,gK,hk];rfl
  |cons x l=>simp only[go_sem,iA,hk];rfl
 |cons y m=>
  rw[hw]at l2;simp only[go_sem,iA];rw[l2];cases hm:e.hX with
  |nil=>simp only[go_sem,gK,hk];rfl
  |cons x l=>simp only[go_sem,iA,hk]
end
section
theorem plS(x:af):aJ .pl [.int .i64 x.kind,.str x.name,.int .i64 x.type.kind,.str x.type.pattern,.str x.type.path,.str x.default,.bool x.given,.bool x.dY,.bool x.cP,.bool x.fixed,.int .i64 x.min,.int .i64 x.max]=some (.bool false):=(rfl)
theorem mkS(x:af):aJ (.dV 19 false) (ax x)=some (.list 19 false [ax x]):=kH 19 _ (ow x) (by decide)
theorem aaC(l:List (List D))(x:List D)(h:l.length<=mg):aJ (.app 19 272) [.list 19 false l,.list 19 false [x]]=some (.list 19 false (l++[x])):=
 fj 19 272 false l [x] (by decide) (by simp only[mg,az,aK]at *;omega)
theorem adt(n:Nat):∀l:List af,ah l < n->cD ax l<=mg->G 79 [aB l]=some (0,[aB l]):=by
 induction n with
 |zero=>intro l h;omega
 |succ n ih=>
  intro l hz hs;have hlen:l.length<=mg:=by simp only[cD]at hs;omega
  refine bY s79 rfl ?_;simp only[go_sem,t79];have hl:=ej (b:=lB G HS) l (λi (a:List af)=>(0,[aB l,.int .i64 (i:Int),aB a])) (λi=>l.take i) (0,[aB l,.int .i64 l.length,.bool false,aB l]) (by
   intro i x hn;have hi:=aP hn;have hw:=wj hi hlen;have hx:eV (ax x)<=mg:=(fH hs (aT hn)).1;have hk:=ih x.kids (by have:=aW (aT hn);have:=af.fv x;omega) (aA (hY x) hx);have h80:=R8 hx hk;have h2:=mkS x;have h3:=aaC ((l.take i).map ax) (ax x) (by simp only[au,a_];omega);rw[ae x]at h80 h2 h3;simp only[go_sem,bl,HS,hi,aH,hn,dP];simp only[go_sem,ae x,h80,plS,h2,h3,hw,cn _ _ _ hn];simp[aB,ae x]) (by simp only[go_sem,bl,HS,aq,aU]) l.length 0 (by omega)
  rw[n0,ba]at hl;have pE:bR (lB G HS) (0,[aB l,.int .i64 0,.list 19 false []])=_:=hl;rw[pE];simp only[go_sem]
theorem q79{l:List af}(hs:cD ax l<=mg):G 79 [aB l]=some (0,[aB l]):=adt _ l (aO _) hs
theorem q80{e:af}(hs:eV (ax e)<=mg):G 80 (ax e)=some (0,ax e):=R8 hs (q79 (aA (hY e) hs))
def lS(k:Int):Bool:=fg 1 4 k
def n7(k:Int):Bool:=decide (k=5) ||decide (k=6)
theorem q75(k:Int):G 75 [.int .i64 k]=some (0,[.bool (lS k)]):=by
 refine bY s75 rfl ?_;simp only[go_sem,t75,yA,lS]
theorem vW(k:Int):G 92 [.int .i64 k]=some (0,[.bool (lS k)]):=by
 have h:lS k=(decide (k=1) ||decide (k=2) ||decide (k=3) ||decide (k=4)):=by
  rw[dC];simp[lS,fg];omega
 refine bY s92 rfl ?_;simp only[go_sem,t92]
 repeat' (first|with_reducible rfl|((first|rw[eZ]|rw[fe]|rw[eY]|rw[fc]);split<;>simp only[go_sem, *]))
 all_goals simp_all
def dk:List af->List af
 |[]=>[]
 |e::es=>(if lS e.kind=true then [e] else if n7 e.kind=true then dk e.kids else [])++dk es
termination_by es=>ah es
decreasing_by
 ·exact af.iE e es
 ·simp only[bB];omega
def xM(e:af):List af:=if lS e.kind=true then [e] else if n7 e.kind=true then dk e.kids else []
theorem ou(e:af)(es:List af):dk (e::es)=xM e++dk es:=by rw[dk];rfl
theorem rL:dk []=[]:=by rw[dk]
theorem PW:∀(a b:List af),dk (a++b)=dk a++dk b
 |[],b=>by rw[rL];rfl
 |e::a,b=>by rw[ai,ou,ou,PW a b,bh]
theorem yK(a:List af)(e:af):dk (a++[e])=dk a++xM e:=by rw[PW,ou,rL,aG]
theorem aaP(n:Nat):∀(es:List af),ah es < n->cD ax (dk es)<=cD ax es:=by
 induction n with
 |zero=>intro es h;omega
 |succ n ih=>
  intro es h;cases es with
  |nil=>rw[rL];exact aj _
  |cons e es=>
   have h1:=ih es (by simp only[bB]at h;omega);have h2:=ih e.kids (by have:=af.iE e es;omega);rw[ou,FY,lC];have h3:cD ax (xM e)<=eV (ax e)+1:=by
    unfold xM;split
    ·rw[lC];simp[cD,nw]
    ·split
     ·have:=hY e;omega
     ·simp[cD,nw]
   omega
theorem qI{es:List af}:cD ax (dk es)<=cD ax es:=aaP _ es (aO _)
theorem yL{es:List af}(i:Nat)(hs:cD ax es<=mg):(dk (es.take i)).length<=mg:=by
 have h1:=qI (es:=es.take i);have h2:=SQ ax es i;simp only[cD]at *;omega
theorem W0{k:Int}(h:lS k=true):n7 k=false/\¬k=5/\¬k=6:=by
 have:=(fJ _ _ _).1 h;have h5:¬k=5:=by omega
 have h6:¬k=6:=by omega
 exact⟨by simp[n7,h5,h6],h5,h6⟩
theorem adu(n:Nat):∀l:List af,ah l < n->cD ax l<=mg->G 81 [aB l]=some (0,[aB (dk l)]):=by
 induction n with
 |zero=>intro l h;omega
 |succ n ih=>
  intro l hz hs;have hlen:l.length<=mg:=by simp only[cD]at hs;omega
  refine bY s81 rfl ?_;simp only[go_sem,t81];have hl:=ej (b:=lB G xW) l (λi (a:List af)=>(0,[aB l,.int .i64 (i:Int),aB a])) (λi=>dk (l.take i)) (0,[aB l,.int .i64 l.length,.bool false,aB (dk l)]) (by
   intro i x hn;have hi:=aP hn;have hw:=wj hi hlen;have hx:eV (ax x)<=mg:=(fH hs (aT hn)).1;have Wx:=aA (hY x) hx;have xU:=yL i hs;have Ht:=yL (i+1) hs;rw[cn _ _ _ hn,yK]at Ht;rw[cn _ _ _ hn,yK];cases hd:lS x.kind with
   |true=>
    obtain⟨hc,k5,k6⟩:=W0 hd;have h80:=q80 hx;have h2:=mkS x;have h3:=aaC ((dk (l.take i)).map ax) (ax x) (by rw[au];exact xU);have h1:xM x=[x]:=by rw[xM,if_pos hd]
    rw[ae x]at h80 h2 h3;rw[h1];simp only[go_sem,bl,xW,hi,aH,hn];simp only[go_sem,ae x,q75,hd];simp only[go_sem,ae x,hn,aH,h80,plS,h2,h3,k5,k6,hw];simp[aB,ae x]
   |false=>
    have h81:=ih x.kids (by have:=aW (aT hn);have:=af.fv x;omega) Wx;by_cases k5:x.kind=5
    ·have h1:xM x=dk x.kids:=by rw[xM,if_neg (by rw[hd];simp),if_pos (by simp[n7,k5])]
     rw[h1]at Ht ⊢;have h3:=fj 19 272 false ((dk (l.take i)).map ax) ((dk x.kids).map ax) (by decide) (by simp only[mg,au,aL]at *;omega);rw[k5]at hd;simp only[go_sem,bl,xW,hi,aH,hn];simp only[go_sem,ae x,q75,hd,k5];simp only[go_sem,ae x,hn,aH,k5,h81,h3,hw];simp[aB]
    ·by_cases k6:x.kind=6
     ·have h1:xM x=dk x.kids:=by rw[xM,if_neg (by rw[hd];simp),if_pos (by simp[n7,k6])]
      rw[h1]at Ht ⊢;have h3:=fj 19 272 false ((dk (l.take i)).map ax) ((dk x.kids).map ax) (by decide) (by simp only[mg,au,aL]at *;omega);rw[k6]at hd;simp only[go_sem,bl,xW,hi,aH,hn];simp only[go_sem,ae x,q75,hd,k6];simp only[go_sem,ae x,hn,aH,k6,h81,h3,hw];simp[aB]
     ·have h1:xM x=[]:=by rw[xM,if_neg (by rw[hd];simp),if_neg (by simp[n7,k5,k6])]
      rw[h1,aG];simp only[go_sem,bl,xW,hi,aH,hn];simp only[go_sem,ae x,q75,hd];simp only[go_sem,ae x,hn,aH,k5,k6,hw]) (by simp only[go_sem,bl,xW,aq,aU]) l.length 0 (by omega)
  rw[n0,ba,rL]at hl;have pE:bR (lB G xW) (0,[aB l,.int .i64 0,.list 19 false []])=_:=hl;rw[pE];simp only[go_sem]
theorem q81{l:List af}(hs:cD ax l<=mg):G 81 [aB l]=some (0,[aB (dk l)]):=adu _ l (aO _) hs
end
section
def wc(c:Bool)(l:List af):List Bool:=match l with
 |[]=>[]
 |e::es=>(if lS e.kind=true then [c] else if n7 e.kind=true then wc (c ||decide (e.kind=6)) e.kids else [])++wc c es
termination_by ah l
decreasing_by
 ·exact af.iE e es
 ·simp only[bB];omega
def rJ(c:Bool)(e:af):List Bool:=if lS e.kind=true then [c] else if n7 e.kind=true then wc (c ||decide (e.kind=6)) e.kids else []
theorem rK(c:Bool)(e:af)(es:List af):wc c (e::es)=rJ c e++wc c es:=by rw[wc];rfl
theorem yJ(c:Bool):wc c []=[]:=by rw[wc]
theorem GX(c:Bool)(e:af):∀(a:List af),wc c (a++[e])=wc c a++rJ c e
 |[]=>by rw[ao,rK,yJ];simp
 |x::a=>by rw[ai,rK,rK,GX c e a,bh]
theorem T_(n:Nat):∀(c:Bool) (l:List af),ah l < n->(wc c l).length=(dk l).length:=by
 induction n with
 |zero=>intro c l h;omega
 |succ n ih=>
  intro c l h;cases l with
  |nil=>rw[yJ,rL];rfl
  |cons e es=>
   rw[rK,ou,aL,aL,ih c es (by simp only[bB]at h;omega)]
   congr 1
   unfold rJ xM;split
   ·rfl
   ·split
    ·exact ih _ e.kids (by have:=af.iE e es;omega)
    ·rfl
theorem wg(c:Bool)(l:List af):(wc c l).length=(dk l).length:=T_ _ c l (aO _)
def kE{α:Type}(l:List α):Nat:=if l.isEmpty=true then 0 else 1
theorem aha(x:af):aJ .vV (ax x)=some (.bool false):=by rw[ae];rfl
theorem fX{α:Type}:kE ([]:List α)=0:=(rfl)
theorem oW{α:Type}(l m:List α)(h:m≠[]):kE (l++m)=1:=by
 unfold kE;rw[if_neg];cases l<;>cases m<;>simp_all
theorem jw{α:Type}{l:List α}(h:l≠[]):kE l=1:=by simpa using oW [] l h
theorem aaD(a b:List af)(h:a.length+b.length<=mg):aJ (.app 19 272) [aB a,aB b]=some (aB (a++b)):=by
 have:=fj 19 272 false (a.map ax) (b.map ax) (by decide) (by simp only[mg,au]at *;omega);rw[<- dd]at this;exact this
theorem aaA(a b:List Bool)(h:a.length+b.length<=mg):aJ (.app 1 1) [aX a,aX b]=some (aX (a++b)):=by
 have:=fj 1 1 true (a.map xN) (b.map xN) (by decide) (by simp only[mg,au]at *;omega);rw[<- dd]at this;exact this
theorem mkB(c:Bool):aJ (.dV 1 true) [.bool c]=some (aX [c]):=by simp[aJ,chunk,cQ,D.plain,xN,aX]
theorem adz(n:Nat):∀(l:List af) (c:Bool),ah l < n->cD ax l<=mg->G 93 [aB l,.bool c]=some (kE (dk l),[aB (dk l),aX (wc c l)]):=by
 induction n with
 |zero=>intro l c h;omega
 |succ n ih=>
  intro l c hz hs;have hlen:l.length<=mg:=by simp only[cD]at hs;omega
  refine bY s93 rfl ?_;simp only[go_sem,t93];have hl:=ej (b:=lB G jg) l (λi (a:List af×List Bool)=>(kE a.1,[.bool c,aB l,.int .i64 l.length,.int .i64 (i:Int),aB a.1,aX a.2])) (λi=>(dk (l.take i),wc c (l.take i)))
   (kE (dk l),[.bool c,aB l,.int .i64 l.length,.int .i64 l.length,.bool false,aB (dk l),aX (wc c l)]) (by
   intro i x hn;have hi:=aP hn;have hw:=wj hi hlen;have hx:eV (ax x)<=mg:=(fH hs (aT hn)).1;have Wx:=aA (hY x) hx;have xU:=yL i hs;have Ht:=yL (i+1) hs;have sV:=wg c (l.take i);rw[cn _ _ _ hn,yK]at Ht;rw[cn _ _ _ hn,yK,GX];have Es:dk (l.take i)=[]->wc c (l.take i)=[]:=λh=>cm.1 (by rw[sV,h];rfl);have agG:(rJ c x).length=(xM x).length:=by
    have h1:=wg c [x];rw[rK,yJ,ou,rL]at h1
    simpa using h1
   have hA:=aaD (dk (l.take i)) (xM x) (by rw[aL]at Ht;exact Ht);have hB:=aaA (wc c (l.take i)) (rJ c x) (by rw[sV,agG];rw[aL]at Ht;exact Ht);have hm:=mkB c;have hMk:=mkS x;have hNp:=aha x;rw[ae x]at hMk hNp;generalize hda:dk (l.take i)=a at *;generalize hfa:wc c (l.take i)=f at *;cases hd:lS x.kind with
   |true=>
    have h1:xM x=[x]:=by rw[xM,if_pos hd]
    have h2:rJ c x=[c]:=by rw[rJ,if_pos hd]
    rw[h1]at hA ⊢;rw[h2]at hB ⊢;have XO:aJ (.app 19 272) [aB a,.list 19 false [ax x]]=some (aB (a++[x])):=hA;rw[ae x]at XO;rw[oW a [x] (by simp)];cases a with
    |nil=>
     have hf:=Es rfl;subst hf;simp only[go_sem,bl,jg,fX,hi,aH,hn,dP];simp only[go_sem,ae x,vW,hd,hNp,hMk,XO,hm,hB,hw]
    |cons y a=>
     simp only[go_sem,bl,jg,jw (bP y a),hi,aH,hn,dP];simp only[go_sem,ae x,vW,hd,hNp,hMk,XO,hm,hB,hw]
   |false=>
    have OZ:=hd;by_cases k6:x.kind=6
    ·have h1:xM x=dk x.kids:=by rw[xM,if_neg (by rw[hd];simp),if_pos (by simp[n7,k6])]
     have k5:¬x.kind=5:=by omega
     rw[h1]at hA ⊢;rw[k6]at hd;cases c with
     |true=>
      have kl:=ih x.kids true (by have:=aW (aT hn);have:=af.fv x;omega) Wx;have h2:rJ true x=wc true x.kids:=by rw[rJ,if_neg (by rw[OZ];simp),if_pos (by simp[n7,k6])];simp[k6]
      rw[h2]at hB ⊢;cases hq:dk x.kids with
      |nil=>
       rw[hq]at kl hA;have hg:wc true x.kids=[]:=cm.1 (by rw[wg,hq];rfl);rw[hg]at kl hB ⊢;cases a with
       |nil=>
        have hf:=Es rfl;subst hf;rw[aG,aG];simp only[go_sem,bl,jg,fX,fX,hi,aH,hn,dP];simp only[go_sem,ae x,vW,hd,k6,kl,fX,hA,hB,hw,aG]
       |cons y a=>
        rw[aG,aG];simp only[go_sem,bl,jg,jw (bP y a),hi,aH,hn,dP];simp only[go_sem,ae x,vW,hd,k6,kl,fX,hA,hB,hw,aG]
      |cons u b=>
       rw[hq]at kl hA;cases a with
       |nil=>
        have hf:=Es rfl;subst hf;rw[oW _ (u::b) (by simp)];simp only[go_sem,bl,jg,fX,hi,aH,hn,dP];simp only[go_sem,ae x,vW,hd,k6,kl,jw (bP u b),hA,hB,hw]
       |cons y a=>
        rw[oW _ (u::b) (by simp)];simp only[go_sem,bl,jg,jw (bP y a),hi,aH,hn,dP];simp only[go_sem,ae x,vW,hd,k6,kl,jw (bP u b),hA,hB,hw]
     |false=>
      have kl:=ih x.kids true (by have:=aW (aT hn);have:=af.fv x;omega) Wx;have h2:rJ false x=wc true x.kids:=by rw[rJ,if_neg (by rw[OZ];simp),if_pos (by simp[n7,k6])];simp[k6]
      rw[h2]at hB ⊢;cases hq:dk x.kids with
      |nil=>
       rw[hq]at kl hA;have hg:wc true x.kids=[]:=cm.1 (by rw[wg,hq];rfl);rw[hg]at kl hB ⊢;cases a with
       |nil=>
        have hf:=Es rfl;subst hf;rw[aG,aG];simp only[go_sem,bl,jg,fX,fX,hi,aH,hn,dP];simp only[go_sem,ae x,vW,hd,k6,kl,fX,hA,hB,hw,aG]
       |cons y a=>
        rw[aG,aG];simp only[go_sem,bl,jg,jw (bP y a),hi,aH,hn,dP];simp only[go_sem,ae x,vW,hd,k6,kl,fX,hA,hB,hw,aG]
      |cons u b=>
       rw[hq]at kl hA;cases a with
       |nil=>
        have hf:=Es rfl;subst hf;rw[oW _ (u::b) (by simp)];simp only[go_sem,bl,jg,fX,hi,aH,hn,dP];simp only[go_sem,ae x,vW,hd,k6,kl,jw (bP u b),hA,hB,hw]
       |cons y a=>
        rw[oW _ (u::b) (by simp)];simp only[go_sem,bl,jg,jw (bP y a),hi,aH,hn,dP];simp only[go_sem,ae x,vW,hd,k6,kl,jw (bP u b),hA,hB,hw]
    ·by_cases k5:x.kind=5
     ·have h1:xM x=dk x.kids:=by rw[xM,if_neg (by rw[hd];simp),if_pos (by simp[n7,k5])]
      rw[h1]at hA ⊢;rw[k5]at hd;cases c with
      |true=>
       have kl:=ih x.kids true (by have:=aW (aT hn);have:=af.fv x;omega) Wx;have h2:rJ true x=wc true x.kids:=by rw[rJ,if_neg (by rw[OZ];simp),if_pos (by simp[n7,k5])];simp[k5]
       rw[h2]at hB ⊢;cases hq:dk x.kids with
       |nil=>
        rw[hq]at kl hA;have hg:wc true x.kids=[]:=cm.1 (by rw[wg,hq];rfl);rw[hg]at kl hB ⊢;cases a with
        |nil=>
         have hf:=Es rfl;subst hf;rw[aG,aG];simp only[go_sem,bl,jg,fX,fX,hi,aH,hn,dP];simp only[go_sem,ae x,vW,hd,k5,kl,fX,hA,hB,hw,aG]
        |cons y a=>
         rw[aG,aG];simp only[go_sem,bl,jg,jw (bP y a),hi,aH,hn,dP];simp only[go_sem,ae x,vW,hd,k5,kl,fX,hA,hB,hw,aG]
       |cons u b=>
        rw[hq]at kl hA;cases a with
        |nil=>
         have hf:=Es rfl;subst hf;rw[oW _ (u::b) (by simp)];simp only[go_sem,bl,jg,fX,hi,aH,hn,dP];simp only[go_sem,ae x,vW,hd,k5,kl,jw (bP u b),hA,hB,hw]
        |cons y a=>
         rw[oW _ (u::b) (by simp)];simp only[go_sem,bl,jg,jw (bP y a),hi,aH,hn,dP];simp only[go_sem,ae x,vW,hd,k5,kl,jw (bP u b),hA,hB,hw]
      |false=>
       have kl:=ih x.kids false (by have:=aW (aT hn);have:=af.fv x;omega) Wx;have h2:rJ false x=wc false x.kids:=by rw[rJ,if_neg (by rw[OZ];simp),if_pos (by simp[n7,k5])];simp[k5]
       rw[h2]at hB ⊢;cases hq:dk x.kids with
       |nil=>
        rw[hq]at kl hA;have hg:wc false x.kids=[]:=cm.1 (by rw[wg,hq];rfl);rw[hg]at kl hB ⊢;cases a with
        |nil=>
         have hf:=Es rfl;subst hf;rw[aG,aG];simp only[go_sem,bl,jg,fX,fX,hi,aH,hn,dP];simp only[go_sem,ae x,vW,hd,k5,kl,fX,hA,hB,hw,aG]
        |cons y a=>
         rw[aG,aG];simp only[go_sem,bl,jg,jw (bP y a),hi,aH,hn,dP];simp only[go_sem,ae x,vW,hd,k5,kl,fX,hA,hB,hw,aG]
       |cons u b=>
        rw[hq]at kl hA;cases a with
        |nil=>
         have hf:=Es rfl;subst hf;rw[oW _ (u::b) (by simp)];simp only[go_sem,bl,jg,fX,hi,aH,hn,dP];simp only[go_sem,ae x,vW,hd,k5,kl,jw (bP u b),hA,hB,hw]
        |cons y a=>
         rw[oW _ (u::b) (by simp)];simp only[go_sem,bl,jg,jw (bP y a),hi,aH,hn,dP];simp only[go_sem,ae x,vW,hd,k5,kl,jw (bP u b),hA,hB,hw]
     ·have h1:xM x=[]:=by rw[xM,if_neg (by rw[hd];simp),if_neg (by simp[n7,k5,k6])]
      have h2:rJ c x=[]:=by rw[rJ,if_neg (by rw[hd];simp),if_neg (by simp[n7,k5,k6])]
      rw[h1,h2,aG,aG];cases a with
      |nil=>
       simp only[go_sem,bl,jg,fX,hi,aH,hn,dP];simp only[go_sem,ae x,vW,hd,k5,k6,hw]
      |cons y a=>
       simp only[go_sem,bl,jg,jw (bP y a),hi,aH,hn,dP];simp only[go_sem,ae x,vW,hd,k5,k6,hw]) (by
   rw[aU];cases hd:dk l with
   |nil=>simp only[go_sem,bl,jg,fX,aq]
   |cons y a=>simp only[go_sem,bl,jg,jw (bP y a),aq]) l.length 0 (by omega)
  rw[n0,ba,rL,yJ]at hl;have pE:bR (lB G jg) (0,[.bool c,aB l,.int .i64 l.length,.int .i64 0,.list 19 false [],.list 1 true []])=_:=hl;rw[pE];cases hd:dk l with
  |nil=>simp only[go_sem,fX]
  |cons y a=>simp only[go_sem,jw (bP y a)]
theorem q93{l:List af}{c:Bool}(hs:cD ax l<=mg):G 93 [aB l,.bool c]=some (kE (dk l),[aB (dk l),aX (wc c l)]):=adz _ l c (aO _) hs
theorem q94{l:List af}(hs:cD ax l<=mg):G 94 [aB l]=some (kE (dk l),[aB (dk l)]):=by
 have h:=q93 (c:=false) hs;refine bY s94 rfl ?_;cases hd:dk l with
 |nil=>rw[hd]at h;simp only[go_sem,t94,h,fX]
 |cons y a=>rw[hd]at h;simp only[go_sem,t94,h,jw (bP y a)]
end
section
def fO(l:List af)(nm:ByteArray):Option Nat:=sS (λe=>decide (e.name=nm)) l 0
theorem W4{l:List af}{nm:ByteArray}(hlen:l.length<=mg):G 82 [aB l,.str nm]=some (0,[.int .i64 (n9 (fO l nm))]):=by
 refine bY s82 rfl ?_;simp only[go_sem,t82];have hl:=nN (b:=lB G Md) l (λi=>(0,[aB l,.str nm,.int .i64 (i:Int)])) (λe=>decide (e.name=nm)) (1,[aB l,.str nm,.int .i64 l.length,.bool false]) (λi e=>(0,[.int .i64 (i:Int)])) (by
  intro i e hn;have hi:=aP hn;have hw:=wj hi hlen;simp only[go_sem,bl,Md,hi,aH,hn,ae];cases hc:decide (e.name=nm)<;>simp only[go_sem,hw]) (by simp only[go_sem,bl,Md,aq])
 rw[n0]at hl;rw[hl];unfold fO;cases hf:sS (λe=>decide (e.name=nm)) l 0 with
 |none=>simp only[go_sem,n9]
 |some j=>
  obtain⟨e,h1,h2⟩:=ef hf;simp only[go_sem,h1,n9]
theorem q95{l:List af}(hlen:l.length<=mg):G 95 [aB l]=some (0,[aN (l.map af.name)]):=by
 refine bY s95 rfl ?_;simp only[go_sem,t95];have hl:=ej (b:=lB G HT) l (λi (a:List ByteArray)=>(0,[aB l,.int .i64 l.length,.int .i64 (i:Int),aN a])) (λi=>(l.take i).map af.name) (0,[aB l,.int .i64 l.length,.int .i64 l.length,.bool false,aN (l.map af.name)]) (by
  intro i e hn;have hi:=aP hn;have hw:=wj hi hlen;have XR:aJ (.app 1 16) [aN ((l.take i).map af.name),.list 1 true [[.str e.name]]]=some (aN ((l.take (i+1)).map af.name)):=by
   have h:=fj 1 16 true (((l.take i).map af.name).map fm) [[.str e.name]] (by decide) (by simp only[mg,au,a_,az,aK]at *;omega);rw[h,vr hn];simp[fm]
  have hmk:aJ (.dV 1 true) [.str e.name]=some (.list 1 true [[.str e.name]]):=by simp[aJ,chunk,cQ,D.plain]
  simp only[go_sem,bl,HT,hi,aH,hn,dP];simp only[go_sem,ae e,hmk,XR,hw]) (by simp only[go_sem,bl,HT,aq,aU]) l.length 0 (by omega)
 rw[n0,ba]at hl;have pE:bR (lB G HT) (0,[aB l,.int .i64 l.length,.int .i64 0,.list 1 true []])=_:=hl;rw[pE];simp only[go_sem]
theorem UR{l:List ByteArray}{e:ByteArray}{k:Nat}(hn:nth l k=some e)(hlen:l.length<=mg) :
  bR (lB G AD) (0,[aN l,.int .i64 (k:Int),.int .i64 0])=some (if (l.take k).all (λx=>!decide (x=e))=true then (1,[aN l,.int .i64 (k:Int),.int .i64 (k:Int),.bool false]) else (0,[.bool false])):=by
 have hk:=aP hn;have hl:=oy (b:=lB G AD) (λj=>(0,[aN l,.int .i64 (k:Int),.int .i64 (j:Int)])) (We (λx=>!decide (x=e)) l) k (1,[aN l,.int .i64 (k:Int),.int .i64 (k:Int),.bool false]) (0,[.bool false]) (by
  intro j hj;have a1:=dr (l:=l) (i:=j) (by omega);have hw:=wj (i:=j) (n:=k) hj (by omega);generalize l[j]'(by omega)=x at a1;simp only[go_sem,bl,AD,hj,aH,hn,a1,fm,We];cases hc:decide (x=e)<;>simp only[go_sem,hw]) (by simp only[go_sem,bl,AD,aq]) k 0 (by omega)
 rw[n0]at hl;rw[hl,uO _ l k 0 (by omega),aV]
def sq(l:List ByteArray):Bool:=qd l && decide (l.length<=3)
theorem T9(l:List ByteArray):qd l=allI (λk e=>(l.take k).all λx=>!decide (x=e)) 0 l:=by
 rw[qd]
 congr 1
 funext i e
 rw[Hs,fS]
theorem acX{l:List ByteArray}(hlen:l.length<=mg):G 212 [aN l]=some (0,[.bool (sq l)]):=by
 refine bY ad7 rfl ?_;simp only[go_sem,t212];have hl:=l7 (b:=lB G EL) l (λk=>(0,[aN l,.int .i64 (k:Int)])) (λk e=>(l.take k).all λx=>!decide (x=e)) (1,[aN l,.int .i64 l.length,.bool false]) (0,[.bool false]) (by
  intro k e hn;have hk:=aP hn;have hw:=wj hk hlen;simp only[go_sem,bl,EL,hk,UR hn hlen];cases hc:(l.take k).all (λx=>!decide (x=e))<;>simp only[go_sem,hw]) (by simp only[go_sem,bl,EL,aq]) l.length 0 (by omega)
 rw[n0,aV]at hl;rw[hl,sq,T9];cases allI (λk e=>(l.take k).all λx=>!decide (x=e)) 0 l<;>simp only[go_sem,abZ]
def kG(e:af):Bool:=fg 0 1000000000 e.min && (decide (e.max=0) ||fg e.min 1000000000 e.max)
theorem acY(e:af):G 213 (ax e)=some (0,[.bool (kG e)]):=by
 refine bY ad8 (by rw[ae];rfl) ?_;simp only[go_sem,t213,ae,yA]
 repeat' (first|with_reducible rfl|((first|rw[eZ]|rw[fe]|rw[eY]|rw[fc]);split<;>simp only[go_sem,yA, *]))
 all_goals simp_all[kG]
theorem Ou(e:af):kG e=(decide (0<=e.min) && (decide (e.min<=1000000000) && (decide (0<=e.max) && (decide (e.max<=1000000000) && (decide (e.max=0) ||decide (e.min<=e.max)))))):=by
 rw[dC];simp only[kG,fg,ab,dD,decide_eq_true_eq];omega
theorem ah5(e:af):G 272 (ax e)=some (0,[.bool (kG e)]):=by
 rw[Ou];refine bY aeU (by rw[ae];rfl) ?_;simp only[go_sem,afI,ae]
 repeat' (first|with_reducible rfl|((first|rw[eZ]|rw[fe]|rw[eY]|rw[fc]);split<;>simp only[go_sem, *]))
 all_goals simp_all
end
section
def dq:List af->Nat
 |[]=>0
 |e::es=>1+dq e.kids+dq es
termination_by es=>ah es
decreasing_by
 ·exact af.iE e es
 ·simp only[bB];omega
def dF:List af->Nat
 |[]=>0
 |e::es=>dq e.kids+dF es
theorem oq:∀(l:List af),dq l=l.length+dF l
 |[]=>by rw[dq];rfl
 |e::l=>by rw[dq,oq l,dF,az];omega
theorem oQ(e:af):∀(l:List af),dF (l++[e])=dF l+dq e.kids
 |[]=>by simp[dF]
 |x::l=>by rw[ai,dF,dF,oQ e l];omega
theorem Ce(l:List af)(i:Nat):dF l=dF (l.take i)+dF (l.drop i):=by
 have app:∀(a b:List af),dF (a++b)=dF a+dF b:=by
  intro a
  induction a with
  |nil=>intro b;simp[dF]
  |cons x a ih=>intro b;rw[ai,dF,dF,ih b];omega
 rw[<- app,bc]
theorem GP(n:Nat):∀(l:List af),ah l < n->dq l<=cD ax l:=by
 induction n with
 |zero=>intro l h;omega
 |succ n ih=>
  intro l h;cases l with
  |nil=>rw[dq];omega
  |cons e l=>
   have h1:=ih l (by simp only[bB]at h;omega);have h2:=ih e.kids (by have:=af.iE e l;omega);rw[dq,lC];have:=hY e;omega
theorem GQ{l:List af}:dq l<=cD ax l:=GP _ l (aO _)
theorem Zq(n:Nat):∀l:List af,ah l < n->cD ax l<=mg->G 255 [aB l]=some (0,[.int .i64 (dq l)]):=by
 induction n with
 |zero=>intro l h;omega
 |succ n ih=>
  intro l hz hs;have hlen:l.length<=mg:=by simp only[cD]at hs;omega
  refine bY aeD rfl ?_;simp only[go_sem,t255];have hl:=ej (b:=lB G EV) l (λi (m:Nat)=>(0,[.int .i64 (m:Int),aB l,.int .i64 l.length,.int .i64 (i:Int)])) (λi=>l.length+dF (l.take i)) (0,[.int .i64 (dq l),aB l,.int .i64 l.length,.int .i64 l.length,.bool false]) (by
   intro i x hn;have hi:=aP hn;have hw:=wj hi hlen;have hx:=(fH hs (aT hn)).1;have hk:=aA (hY x) hx;have h1:=ih x.kids (by have:=aW (aT hn);have:=af.fv x;omega) hk;have h2:=Ce l (i+1);have h3:=GQ (l:=l);rw[oq]at h3;rw[cn _ _ _ hn,oQ]at h2;have h4:IntKind.i64.wrap (((l.length+dF (l.take i):Nat):Int)+(dq x.kids:Int))=((l.length+(dF (l.take i)+dq x.kids):Nat):Int):=by rw[wrap_i64 (by simp only[mg]at hs;omega)];omega
   rw[cn _ _ _ hn,oQ];simp only[go_sem,bl,EV,hi,aH,hn,dP];simp only[go_sem,ae x,h1,h4,hw]) (by
   rw[aU,oq];simp only[go_sem,bl,EV,aq]) l.length 0 (by omega)
  rw[n0,ba,dF,eD]at hl;rw[hl];simp only[go_sem]
theorem ahV{l:List af}(hs:cD ax l<=mg):G 255 [aB l]=some (0,[.int .i64 (dq l)]):=Zq _ l (aO _) hs
def sK(l:List af)(x r:Int):Prop:=((dq l:Int)<=x->r=x - dq l)/\(x < (dq l:Int)->r < 0)/\-1048576<=r
theorem Ze(n:Nat):∀(l:List af) (x:Int),ah l < n->cD ax l<=mg->0<=x->x<=1048576->∃r,G 201 [aB l,.int .i64 x]=some (0,[.int .i64 r])/\sK l x r:=by
 induction n with
 |zero=>intro l x h;omega
 |succ n ih=>
  intro l x hz hs h0 hx;have hlen:l.length<=mg:=by simp only[cD]at hs;omega
  have hw0:IntKind.i64.wrap (x - (l.length:Int))=x - l.length:=wrap_i64 (by simp only[mg]at hlen;omega);have loop:∀m i (y:Int),i+m=l.length->-1048576<=y->y<=1048576->∃(r z:Int),bR (lB G Az) (0,[aB l,.int .i64 y,.int .i64 (i:Int)])=some (0,[aB l,.int .i64 r,.int .i64 z,.bool false])/\(0<=y->(dF (l.drop i):Int)<=y->r=y - dF (l.drop i))/\(y < 0\/y < (dF (l.drop i):Int)->r < 0)/\-1048576<=r:=by
   intro m
   induction m with
   |zero=>
    intro i y hi h1 h2;obtain rfl:i=l.length:=by omega
    refine⟨y,l.length,bk (by simp only[go_sem,bl,Az,aq]),?_⟩;rw[cu];simp only[dF];omega
   |succ m ihm=>
    intro i y hi h1 h2;have ig:i < l.length:=by omega
    have a1:=dr (l:=l) (i:=i) ig;have hd:=gX l i _ a1;generalize l[i]'ig=e at a1 hd;by_cases hy:0<=y
    ·have tu:=aT a1;have hke:=aA (hY e) (fH hs tu).1;obtain⟨r1,g1,g2,g3,g4⟩:=ih e.kids y (by have:=aW tu;have:=af.fv e;omega) hke hy h2;have Yd:r1<=1048576:=by
      by_cases hc:(dq e.kids:Int)<=y
      ·have:=g2 hc;omega
      ·have:=g3 (by omega);omega
     obtain⟨r,z,k1,k2,k3,k4⟩:=ihm (i+1) r1 (by omega) g4 Yd;have hw:=wj ig hlen;refine⟨r,z,?_,?_⟩
     ·rw[<- k1];refine cF ?_;simp only[go_sem,bl,Az,ig,aH,a1,hy];simp only[go_sem,ae e,g1,hw]
     ·rw[hd,dF];refine⟨λ_ h=>?_,λh=>?_,k4⟩
      ·have:=g2 (by omega);have:=k2 (by omega) (by omega);omega
      ·by_cases hc:(dq e.kids:Int)<=y
       ·have:=g2 hc;exact k3 (by omega)
       ·have:=g3 (by omega);exact k3 (.inl this)
    ·refine⟨y,i,bk (by simp only[go_sem,bl,Az,ig,hy]),λh=>absurd h hy,λ_=>by omega,h1⟩
  obtain⟨r,z,k1,k2,k3,k4⟩:=loop l.length 0 (x - l.length) (by omega) (by simp only[mg]at hlen;omega) (by omega);rw[n0,aV]at *;refine⟨r,bY adW rfl ?_,?_⟩
  ·simp only[go_sem,t201,hw0,k1]
  ·unfold sK;rw[oq];refine⟨λh=>?_,λh=>?_,k4⟩
   ·have:=k2 (by omega) (by omega);omega
   ·exact k3 (by omega)
theorem ahv{l:List af}{x:Int}(hs:cD ax l<=mg)(h0:0<=x)(hx:x<=1048576):∃r,G 201 [aB l,.int .i64 x]=some (0,[.int .i64 r])/\sK l x r:=Ze _ l x (aO _) hs h0 hx
theorem aR.iE(e:aR)(es:List aR):ah e.kids < ah (e::es):=by
 cases e;simp only[bB,aR.mk.sizeOf_spec];omega
theorem aR.fv(e:aR):ah e.kids < ah e:=by
 cases e;simp only[aR.mk.sizeOf_spec];omega
theorem Nn(e:aR):(bI e).length=3:=by rw[bu];rfl
theorem Vp(e:aR)(k:Nat)(fl:Bool):aJ (.has 3) [.list k fl [bI e]]=some (.bool false):=by
 rw[Bv,Nn,if_pos (aj 3)]
theorem sk(e:aR):cD bI e.kids<=eV (bI e):=by rw[jL];omega
def fC:List aR->Nat
 |[]=>0
 |e::es=>1+fC e.kids+fC es
termination_by es=>ah es
decreasing_by
 ·exact aR.iE e es
 ·simp only[bB];omega
def fL:List aR->Nat
 |[]=>0
 |e::es=>fC e.kids+fL es
theorem sN:∀(l:List aR),fC l=l.length+fL l
 |[]=>by rw[fC];rfl
 |e::l=>by rw[fC,sN l,fL,az];omega
theorem rE(e:aR):∀(l:List aR),fL (l++[e])=fL l+fC e.kids
 |[]=>by simp[fL]
 |x::l=>by rw[ai,fL,fL,rE e l];omega
theorem GJ(l:List aR)(i:Nat):fL l=fL (l.take i)+fL (l.drop i):=by
 have app:∀(a b:List aR),fL (a++b)=fL a+fL b:=by
  intro a
  induction a with
  |nil=>intro b;simp[fL]
  |cons x a ih=>intro b;rw[ai,fL,fL,ih b];omega
 rw[<- app,bc]
theorem Ng(n:Nat):∀(l:List aR),ah l < n->fC l<=cD bI l:=by
 induction n with
 |zero=>intro l h;omega
 |succ n ih=>
  intro l h;cases l with
  |nil=>rw[fC];omega
  |cons e l=>
   have h1:=ih l (by simp only[bB]at h;omega);have h2:=ih e.kids (by have:=aR.iE e l;omega);rw[fC,lC];have:=sk e;omega
theorem Nh{l:List aR}:fC l<=cD bI l:=Ng _ l (aO _)
theorem ZB(n:Nat):∀l:List aR,ah l < n->cD bI l<=mg->G 317 [bz l]=some (0,[.int .i64 (fC l)]):=by
 induction n with
 |zero=>intro l h;omega
 |succ n ih=>
  intro l hz hs;have hlen:l.length<=mg:=by simp only[cD]at hs;omega
  refine bY afc rfl ?_;simp only[go_sem,afT];have hl:=ej (b:=lB G Fc) l (λi (m:Nat)=>(0,[.int .i64 (m:Int),bz l,.int .i64 l.length,.int .i64 (i:Int)])) (λi=>l.length+fL (l.take i)) (0,[.int .i64 (fC l),bz l,.int .i64 l.length,.int .i64 l.length,.bool false]) (by
   intro i x hn;have hi:=aP hn;have hw:=wj hi hlen;have hx:=(fH hs (aT hn)).1;have hk:=aA (sk x) hx;have h1:=ih x.kids (by have:=aW (aT hn);have:=aR.fv x;omega) hk;have h2:=GJ l (i+1);have h3:=Nh (l:=l);rw[sN]at h3;rw[cn _ _ _ hn,rE]at h2;have h4:IntKind.i64.wrap (((l.length+fL (l.take i):Nat):Int)+(fC x.kids:Int))=((l.length+(fL (l.take i)+fC x.kids):Nat):Int):=by rw[wrap_i64 (by simp only[mg]at hs;omega)];omega
   rw[cn _ _ _ hn,rE];simp only[go_sem,bl,Fc,hi,aH,hn,Vp];simp only[go_sem,bu x,h1,h4,hw]) (by
   rw[aU,sN];simp only[go_sem,bl,Fc,aq]) l.length 0 (by omega)
  rw[n0,ba,fL,eD]at hl;rw[hl];simp only[go_sem]
theorem aif{l:List aR}(hs:cD bI l<=mg):G 317 [bz l]=some (0,[.int .i64 (fC l)]):=ZB _ l (aO _) hs
def yE(l:List aR)(x r:Int):Prop:=((fC l:Int)<=x->r=x - fC l)/\(x < (fC l:Int)->r < 0)/\-1048576<=r
theorem Zn(n:Nat):∀(l:List aR) (x:Int),ah l < n->cD bI l<=mg->0<=x->x<=1048576->∃r,G 242 [bz l,.int .i64 x]=some (0,[.int .i64 r])/\yE l x r:=by
 induction n with
 |zero=>intro l x h;omega
 |succ n ih=>
  intro l x hz hs h0 hx;have hlen:l.length<=mg:=by simp only[cD]at hs;omega
  have hw0:IntKind.i64.wrap (x - (l.length:Int))=x - l.length:=wrap_i64 (by simp only[mg]at hlen;omega);have loop:∀m i (y:Int),i+m=l.length->-1048576<=y->y<=1048576->∃(r z:Int),bR (lB G AK) (0,[bz l,.int .i64 y,.int .i64 (i:Int)])=some (0,[bz l,.int .i64 r,.int .i64 z,.bool false])/\(0<=y->(fL (l.drop i):Int)<=y->r=y - fL (l.drop i))/\(y < 0\/y < (fL (l.drop i):Int)->r < 0)/\-1048576<=r:=by
   intro m
   induction m with
   |zero=>
    intro i y hi h1 h2;obtain rfl:i=l.length:=by omega
    refine⟨y,l.length,bk (by simp only[go_sem,bl,AK,aq]),?_⟩;rw[cu];simp only[fL];omega
   |succ m ihm=>
    intro i y hi h1 h2;have ig:i < l.length:=by omega
    have a1:=dr (l:=l) (i:=i) ig;have hd:=gX l i _ a1;generalize l[i]'ig=e at a1 hd;by_cases hy:0<=y
    ·have tu:=aT a1;have hke:=aA (sk e) (fH hs tu).1;obtain⟨r1,g1,g2,g3,g4⟩:=ih e.kids y (by have:=aW tu;have:=aR.fv e;omega) hke hy h2;have Yd:r1<=1048576:=by
      by_cases hc:(fC e.kids:Int)<=y
      ·have:=g2 hc;omega
      ·have:=g3 (by omega);omega
     obtain⟨r,z,k1,k2,k3,k4⟩:=ihm (i+1) r1 (by omega) g4 Yd;have hw:=wj ig hlen;refine⟨r,z,?_,?_⟩
     ·rw[<- k1];refine cF ?_;simp only[go_sem,bl,AK,ig,aH,a1,hy];simp only[go_sem,bu e,g1,hw]
     ·rw[hd,fL];refine⟨λ_ h=>?_,λh=>?_,k4⟩
      ·have:=g2 (by omega);have:=k2 (by omega) (by omega);omega
      ·by_cases hc:(fC e.kids:Int)<=y
       ·have:=g2 hc;exact k3 (by omega)
       ·have:=g3 (by omega);exact k3 (.inl this)
    ·refine⟨y,i,bk (by simp only[go_sem,bl,AK,ig,hy]),λh=>absurd h hy,λ_=>by omega,h1⟩
  obtain⟨r,z,k1,k2,k3,k4⟩:=loop l.length 0 (x - l.length) (by omega) (by simp only[mg]at hlen;omega) (by omega);rw[n0,aV]at *;refine⟨r,bY aeu rfl ?_,?_⟩
  ·simp only[go_sem,t242,hw0,k1]
  ·unfold yE;rw[sN];refine⟨λh=>?_,λh=>?_,k4⟩
   ·have:=k2 (by omega) (by omega);omega
   ·exact k3 (by omega)
theorem ahO{l:List aR}{x:Int}(hs:cD bI l<=mg)(h0:0<=x)(hx:x<=1048576):∃r,G 242 [bz l,.int .i64 x]=some (0,[.int .i64 r])/\yE l x r:=Zn _ l x (aO _) hs h0 hx
end
section
def qe:List af->Nat
 |[]=>0
 |e::es=>max (1+qe e.kids) (qe es)
termination_by es=>ah es
decreasing_by
 ·exact af.iE e es
 ·simp only[bB];omega
theorem GY(e:af):∀(l:List af),qe (l++[e])=max (qe l) (1+qe e.kids)
 |[]=>by simp[qe]
 |x::l=>by rw[ai,qe,GY e l,qe,Nat.max_assoc]
theorem aa1(n:Nat):∀(l:List af),ah l < n->qe l<=cD ax l:=by
 induction n with
 |zero=>intro l h;omega
 |succ n ih=>
  intro l h;cases l with
  |nil=>rw[qe];omega
  |cons e l=>
   have h1:=ih l (by simp only[bB]at h;omega);have h2:=ih e.kids (by have:=af.iE e l;omega);rw[qe,lC];have:=hY e;omega
theorem PZ{l:List af}:qe l<=cD ax l:=aa1 _ l (aO _)
theorem Zr(n:Nat):∀l:List af,ah l < n->cD ax l<=mg->G 256 [aB l]=some (0,[.int .i64 (qe l)]):=by
 induction n with
 |zero=>intro l h;omega
 |succ n ih=>
  intro l hz hs;have hlen:l.length<=mg:=by simp only[cD]at hs;omega
  refine bY aeE rfl ?_;simp only[go_sem,t256];have hl:=ej (b:=lB G EW) l (λi (m:Nat)=>(0,[.int .i64 (m:Int),aB l,.int .i64 l.length,.int .i64 (i:Int)])) (λi=>qe (l.take i)) (0,[.int .i64 (qe l),aB l,.int .i64 l.length,.int .i64 l.length,.bool false]) (by
   intro i x hn;have hi:=aP hn;have hw:=wj hi hlen;have hx:=(fH hs (aT hn)).1;have hk:=aA (hY x) hx;have h1:=ih x.kids (by have:=aW (aT hn);have:=af.fv x;omega) hk;have h2:=PZ (l:=x.kids);have h4:IntKind.i64.wrap (1+(qe x.kids:Int))=((1+qe x.kids:Nat):Int):=by rw[wrap_i64 (by simp only[mg]at hk;omega)];omega
   rw[cn _ _ _ hn,GY];simp only[go_sem,bl,EW,hi,aH,hn,dP];simp only[go_sem,ae x,h1,h4,mx,hw]) (by
   rw[aU];simp only[go_sem,bl,EW,aq]) l.length 0 (by omega)
  have d0':((qe []:Nat):Int)=0:=by simp[qe]
  rw[n0,ba,d0']at hl;rw[hl];simp only[go_sem]
theorem ahW{l:List af}(hs:cD ax l<=mg):G 256 [aB l]=some (0,[.int .i64 (qe l)]):=Zr _ l (aO _) hs
def Fx:af:=⟨0,⟨#[]⟩,⟨0,[],[],⟨#[]⟩,⟨#[]⟩⟩,[],[],⟨#[]⟩,false,false,false,false,0,0,[],[],[]⟩
def jZ(l:List af)(nm:ByteArray):Option Nat:=sS (λe=>decide (e.name=nm) && decide (e.kind=3)) l 0
theorem ado{l:List af}{nm:ByteArray}(hlen:l.length<=mg):G 314 [aB l,.str nm]=some (match jZ l nm with
  |some j=>match nth l j with
   |some e=>(0,ax e++[.bool true])
   |none=>(1,ax Fx++[.bool false])
  |none=>(1,ax Fx++[.bool false])):=by
 refine bY ae_ rfl ?_;simp only[go_sem,afS];have hl:=nN (b:=lB G Fa) l (λi=>(0,[.str nm,aB l,.int .i64 l.length,.int .i64 (i:Int),.int .i64 0,.str ⟨#[]⟩,.int .i64 0,.str ⟨#[]⟩,.str ⟨#[]⟩,.str ⟨#[]⟩,.bool false,.bool false,.bool false,.bool false,.int .i64 0,.int .i64 0])) (λe=>decide (e.name=nm) && decide (e.kind=3))
  (1,[.str nm,aB l,.int .i64 l.length,.int .i64 l.length,.bool false,.int .i64 0,.str ⟨#[]⟩,.int .i64 0,.str ⟨#[]⟩,.str ⟨#[]⟩,.str ⟨#[]⟩,.bool false,.bool false,.bool false,.bool false,.int .i64 0,.int .i64 0]) (λi e=>(0,.bool true::ax e)) (by
  intro i e hn;have hi:=aP hn;have hw:=wj hi hlen;simp only[go_sem,bl,Fa,hi,aH,hn,dP];by_cases h1:e.name=nm
  ·by_cases h2:e.kind=3
   ·simp only[go_sem,ae e,h1,h2]
   ·simp only[go_sem,ae e,h1,h2,hw]
  ·simp only[go_sem,ae e,h1,hw]) (by simp only[go_sem,bl,Fa,aq])
 rw[n0]at hl;rw[hl];unfold jZ;cases hf:sS (λe=>decide (e.name=nm) && decide (e.kind=3)) l 0 with
 |none=>simp only[go_sem,ae,Fx];rfl
 |some j=>
  obtain⟨e,h1,h2⟩:=ef hf;simp only[go_sem,h1,ae]
end
section
noncomputable def unr{σ ρ:Type}(b:σ->Option (Sg σ ρ)):Option (Sg σ ρ)->Option ρ
 |some (.go s)=>bR b s
 |some (.out r)=>some r
 |none=>none
theorem C2{σ ρ:Type}(b:σ->Option (Sg σ ρ))(s:σ):bR b s=unr b (b s):=by
 cases h:b s with
 |none=>
  unfold bR;rw[dif_neg]
  ·rfl
  ·rintro⟨r,hr⟩
   cases hr with
   |out g=>rw[h]at g;cases g
   |go g _=>rw[h]at g;cases g
 |some x=>
  cases x with
  |go s'=>rw[cF h];rfl
  |out r=>rw[bk h];rfl
theorem Z5{σ ρ:Type}(b:σ->Option (Sg σ ρ))(s:σ):unr b (some (.go s))=bR b s:=(rfl)
theorem F6{σ ρ:Type}(b:σ->Option (Sg σ ρ))(r:ρ):unr b (some (.out r))=some r:=(rfl)
theorem Lx{α β:Type}(f:α->β)(p:β->Bool):∀(l:List α) (k:Nat),sS p (l.map f) k=sS (λe=>p (f e)) l k
 |[],_=>rfl
 |e::l,k=>by simp only[aQ,sS,Lx f p l (k+1)]
theorem Am(l:List af)(nm:ByteArray):ix (l.map af.name) nm=fO l nm:=by
 rw[ix,Lx,fO]
 congr 1
 funext e
 exact decide_eq_decide.2 eq_comm
theorem P5{d:List af}{j:Nat}{e:af}(h:nth d j=some e):aJ (.nk 19 0 19 false) [aB d,.int .i64 (j:Int)]=some (.list 0 false [ax e]):=by
 have h1:nth (d.map ax) j=some (ax e):=by rw[aH,h];rfl
 simp only[aJ,cE,h1];rw[ow];simp
theorem aa4{d:List af}{j:Nat}{e:af}(h:nth d j=some e):aJ (.nk 19 18 1 false) [aB d,.int .i64 (j:Int)]=some (.list 0 false [ax e]):=by
 have h1:nth (d.map ax) j=some (ax e):=by rw[aH,h];rfl
 simp only[aJ,cE,h1];rw[ow];simp
theorem adA{l:List af}{nm:ByteArray}(hs:cD ax l<=mg):G 97 [aB l,aN [nm]]=some (match fO (dk l) nm with
  |some j=>match nth (dk l) j with
   |some e=>(1,ax e++[.bool true])
   |none=>(0,ax Fx++[.bool false])
  |none=>(0,ax Fx++[.bool false])):=by
 have hd:=qI (es:=l);have xU:(dk l).length<=mg:=by simp only[cD]at *;omega
 have h94:=q94 hs;have JK:=q95 (l:=dk l) xU;have h96:=q96 (l:=(dk l).map af.name) (v:=nm) (by rw[au];exact xU);rw[Am]at h96;refine bY s97 rfl ?_;simp only[go_sem,C2,bl,WM,fm,t97];cases hf:fO (dk l) nm with
 |none=>
  rw[hf]at h96;have hp:aJ .pl [.int .i64 (-1)]=some (.bool false):=rfl;by_cases hq:dk l=[]
  ·have hk:kE (dk l)=0:=by rw[hq];rfl
   simp only[go_sem,F6,h94,hk,JK,h96,hp,n9,ae,Fx];rfl
  ·have hk:kE (dk l)=1:=jw hq;simp only[go_sem,F6,h94,hk,JK,h96,hp,n9,ae,Fx];rfl
 |some j=>
  obtain⟨e,h1,h2⟩:=ef hf;rw[hf]at h96;have hp:aJ .pl [.int .i64 (j:Int)]=some (.bool false):=rfl;have iQ:dk l≠[]:=by intro h;rw[h]at h1;cases h1
  have hj:=aP h1;have e1:=P5 h1;have e2:=aa4 h1;have e3:=lu 19 false ((dk l).map ax) j (by rw[au];exact hj);have hj0:¬(j:Int) < 0:=by omega
  have hk:kE (dk l)=1:=jw iQ;have hw:IntKind.i64.wrap 1=1:=by decide
  have hc:decide ((1:Int) < 1)=false:=by decide
  simp only[go_sem,C2,Z5,F6,bl,fm,h94,hk,JK,h96,hp,n9,e1,e2,e3,hj0,h1,hw,ae]
end
section
def tI(l:List aR)(nm:ByteArray):Option Nat:=sS (λe=>decide (e.name=nm)) l 0
theorem ahP{l:List aR}{nm:ByteArray}(hlen:l.length<=mg):G 243 [bz l,.str nm]=some (0,[.int .i64 (n9 (tI l nm))]):=by
 refine bY aev rfl ?_;simp only[go_sem,t243];have hl:=nN (b:=lB G EU) l (λi=>(0,[bz l,.str nm,.int .i64 (i:Int)])) (λe=>decide (e.name=nm)) (1,[bz l,.str nm,.int .i64 l.length,.bool false]) (λi e=>(0,[.int .i64 (i:Int)])) (by
  intro i e hn;have hi:=aP hn;have hw:=wj hi hlen;simp only[go_sem,bl,EU,hi,aH,hn,bu];cases hc:decide (e.name=nm)<;>simp only[go_sem,hw]) (by simp only[go_sem,bl,EU,aq])
 rw[n0]at hl;rw[hl];unfold tI;cases hf:sS (λe=>decide (e.name=nm)) l 0 with
 |none=>simp only[go_sem,n9]
 |some j=>
  obtain⟨e,h1,h2⟩:=ef hf;simp only[go_sem,h1,n9]
theorem Ms(nm:ByteArray):∀(l:List aR) (k:Nat),Oo nm (l.map bI) (k:Int)=some (n9 (sS (λe=>decide (e.name=nm)) l k))
 |[],k=>rfl
 |e::l,k=>by
  have h:=Ms nm l (k+1);simp only[aQ,bu e,Oo,sS];by_cases hc:e.name=nm
  ·simp[hc,n9]
  ·have h':Oo nm (l.map bI) ((k:Int)+1)=some (n9 (sS (λe=>decide (e.name=nm)) l (k+1))):=h;simp[hc,h']
theorem ady(l:List aR)(nm:ByteArray):G 9003 [bz l,.str nm]=some (0,[.int .i64 (n9 (tI l nm))]):=
 tM (i:=9003) (sg:=⟨9003,[.val false [.d],.val false [.d]],[([.val false [.d]],[])]⟩) (v:=([.val false [.d]],[])) (j:=0) (r:=([.val false [.d (.int .i64 (n9 (tI l nm)))]],[])) (ws:=[bz l,.str nm]) rfl rfl ((RJ T rfl [.val false [.d (bz l)],.val false [.d (.str nm)]]).trans (by
  have h:=Ms nm l 0;have h':Oo nm (l.map bI) 0=some (n9 (tI l nm)):=h;simp only[XT,bz,h'];rfl)) rfl rfl
def vm(k:Int):Bool:=decide (k=2) ||decide (k=4)
theorem ahR(k:Int):G 247 [.int .i64 k]=some (0,[.bool (vm k)]):=by
 refine bY aez rfl ?_;simp only[go_sem,t247,vm];cases h:decide (k=2)<;>simp only[go_sem]
def Ik(l:List aR)(nm:ByteArray):Option ByteArray:=match tI l nm with
 |some j=>(nth l j).map aR.value
 |none=>none
def vo(l:List aR):List ByteArray->List ByteArray->List ByteArray×Bool
 |t,[]=>(t,true)
 |t,k::ks=>match Ik l k with
  |none=>(t,false)
  |some v=>vo l (t++[v]) ks
def UP{ρ:Type}(l:List aR)(g:Nat->List ByteArray->ρ)(i:Nat)(t:List ByteArray)(k:ByteArray):Sg (List ByteArray) ρ:=match Ik l k with
 |none=>.out (g i t)
 |some v=>.go (t++[v])
def keyOf(n:af)(x:aR):List ByteArray×Bool:=
 if n.kind=2 then (if (vo x.kids [] n.keys).2=true then ((vo x.kids [] n.keys).1,true) else ([],false)) else ([x.value],true)
theorem Dx{l:List aR}{k:ByteArray}:tI l k=none->Ik l k=none:=λh=>by rw[Ik,h]
theorem Dy{l:List aR}{k:ByteArray}{j:Nat}{e:aR}(h:tI l k=some j)(he:nth l j=some e):Ik l k=some e.value:=by rw[Ik,h];simp only[he,aD]
theorem Ac{ρ:Type}(l:List aR)(g:List ByteArray->ρ):∀(ks:List ByteArray) (i:Nat) (t:List ByteArray),
  il (UP l (λ_ t=>g t)) i t ks=if (vo l t ks).2=true then .go (vo l t ks).1 else .out (g (vo l t ks).1)
 |[],_,_=>rfl
 |k::ks,i,t=>by
  cases h:Ik l k with
  |none=>simp only[il,UP,vo,h];rfl
  |some v=>simp only[il,UP,vo,h];exact Ac l g ks (i+1) (t++[v])
theorem aaz{t:List ByteArray}{v:ByteArray}(h:t.length < mg):aJ (.app 1 16) [aN t,.list 1 true [[.str v]]]=some (aN (t++[v])):=by
 have h:=fj 1 16 true (t.map fm) [[.str v]] (by decide) (by simp only[mg,au,az,aK]at *;omega);rw[h];simp[fm]
theorem CL:aN []=.list 1 true []:=(rfl)
theorem J5(v:ByteArray):aJ (.dV 1 true) [.str v]=some (.list 1 true [[.str v]]):=by simp[aJ,chunk,cQ,D.plain]
theorem Zo{n:af}{x:aR}(hk:n.keys.length<=mg)(hx:x.kids.length<=mg):G 244 (ax n++bI x)=some (0,[aN (keyOf n x).1,.bool (keyOf n x).2]):=by
 refine bY aew (by rw[ae,bu];rfl) ?_;simp only[go_sem,t244,ae,bu];have hl:=ve (b:=lB G AL) n.keys (λi (t:List ByteArray)=>(0,.int .i64 (i:Int)::(ax n++bI x++[aN t]))) (UP x.kids (λ_ t=>(0,[.bool false,aN t])))
  (λt=>(1,.int .i64 n.keys.length::.bool false::(ax n++bI x++[aN t]))) (λi t=>t.length=i) [] rfl (by
  intro i k t hn hI;have hi:=aP hn;have hw:=wj hi hk;have h1:=ahP (l:=x.kids) (nm:=k) hx;have XR:∀v,aJ (.app 1 16) [aN t,.list 1 true [[.str v]]]=some (aN (t++[v])):=λv=>aaz (by omega);cases hf:tI x.kids k with
  |none=>
   rw[hf]at h1;simp only[go_sem,bl,AL,hi,aH,hn,ae,bu,fm,h1,n9,UP,Dx hf,I9];intro t' ht;cases ht
  |some j=>
   obtain⟨e,e1,e2⟩:=ef hf;rw[hf]at h1;have hj:¬(j:Int) < 0:=by omega
   simp only[go_sem,bl,AL,hi,aH,hn,ae n,bu x,fm,h1,n9,hj,UP,Dy hf e1,I9];simp only[go_sem,e1,bu e,J5,XR,hw];simp[hI]) (by
  intro t hI;simp only[go_sem,bl,AL,aq,ae,bu])
 rw[n0,Ac]at hl;simp only[ae,bu,ai,ao,CL]at hl;rw[keyOf];by_cases Q0:n.kind=2
 ·have hd:decide (n.kind=2)=true:=by simp[Q0]
  simp only[go_sem,hd];rw[hl];clear hl;cases hr:(vo x.kids [] n.keys).2
  ·simp only[go_sem,W7,Q0];rfl
  ·simp only[go_sem,W7,Q0]
 ·have hd:decide (n.kind=2)=false:=by simp[Q0]
  simp only[go_sem,J5,Q0];rfl
theorem ZC{n:af}{x:aR}(hk:n.keys.length<=mg)(hx:x.kids.length<=mg):G 320 (ax n++bI x)=some (0,[aN (keyOf n x).1,.bool (keyOf n x).2]):=by
 refine bY afd (by rw[ae,bu];rfl) ?_;simp only[go_sem,afU,ae,bu];have hl:=ve (b:=lB G AP) n.keys (λi (t:List ByteArray)=>(0,[aN n.keys,.int .i64 n.keys.length,.int .i64 (i:Int),.str x.name,.str x.value,bz x.kids,aN t])) (UP x.kids (λ_ t=>(0,[.bool false,aN t,aN []])))
  (λt=>(1,[aN n.keys,.int .i64 n.keys.length,.int .i64 n.keys.length,.bool false,.str x.name,.str x.value,bz x.kids,aN t])) (λi t=>t.length=i) [] rfl (by
  intro i k t hn hI;have hi:=aP hn;have hw:=wj hi hk;have h1:=ady x.kids k;have hmk:aJ (.dV 1 true) []=some (aN []):=by simp[aJ,chunk]
  have XR:∀v,aJ (.app 1 16) [aN t,.list 1 true [[.str v]]]=some (aN (t++[v])):=λv=>aaz (by omega);cases hf:tI x.kids k with
  |none=>
   rw[hf]at h1;simp only[go_sem,bl,AP,hi,aH,hn,fm,h1,n9,UP,Dx hf,I9,hmk];intro t' ht;cases ht
  |some j=>
   obtain⟨e,e1,e2⟩:=ef hf;rw[hf]at h1;have hj:¬(j:Int) < 0:=by omega
   simp only[go_sem,bl,AP,hi,aH,hn,fm,h1,n9,hj,UP,Dy hf e1,I9];simp only[go_sem,e1,bu e,J5,XR,hw];simp[hI]) (by
  intro t hI;simp only[go_sem,bl,AP,aq])
 rw[n0,Ac (g:=λt=>(0,[D.bool false,aN t,aN []]))]at hl;simp only[CL]at hl;rw[keyOf];by_cases Q0:n.kind=2
 ·have hd:decide (n.kind=2)=true:=by simp[Q0]
  simp only[go_sem,hd];rw[hl];clear hl;cases hr:(vo x.kids [] n.keys).2
  ·simp only[go_sem,W7,Q0];rfl
  ·simp only[go_sem,W7,Q0]
 ·have hd:decide (n.kind=2)=false:=by simp[Q0]
  simp only[go_sem,J5,Q0];rfl
end
section
theorem zY{β:Type}(f:Nat->Option β):∀m i,j7 f (i+1) m=j7 (λj=>f (j+1)) i m
 |0,_=>rfl
 |m+1,i=>by
  simp only[j7,zY f m (i+1)]
theorem JE{α β:Type}(f:Nat->Option α)(g:α->β):∀m i,j7 (λj=>(f j).map g) i m=(j7 f i m).map g
 |0,_=>rfl
 |m+1,i=>by
  simp only[j7];cases h:f i with
  |none=>simp only[Option.map_none,JE f g m (i+1)]
  |some r=>rfl
def pk{α β:Type}(c:α->α->Option β)(a b:List α)(i:Nat):Option β:=match nth a i,nth b i with
 |some x,some y=>c x y
 |_,_=>none
def A4{α β:Type}(c:α->α->Option β):List α->List α->Option β
 |x::a,y::b=>match c x y with
  |some r=>some r
  |none=>A4 c a b
 |_,_=>none
theorem QE{α β:Type}(c:α->α->Option β):∀(a b:List α),j7 (pk c a b) 0 (min a.length b.length)=A4 c a b
 |[],b=>by simp only[aK,Nat.zero_min,j7,A4]
 |x::a,[]=>by simp only[aK,Nat.min_zero,j7,A4]
 |x::a,y::b=>by
  have h:(min (x::a).length (y::b).length)=min a.length b.length+1:=by simp only[az];omega
  rw[h];have h2:(λj=>pk c (x::a) (y::b) (j+1))=pk c a b:=rfl;have h3:pk c (x::a) (y::b) 0=c x y:=rfl;simp only[j7,zY,h2,h3,A4,QE c a b];cases c x y<;>rfl
def WT(x y:ByteArray):Option Bool:=if decide (x=y)=true then none else some (nT x y)
def qP(a b:List ByteArray):Bool:=(A4 WT a b).getD (decide (a.length < b.length))
theorem ahS{a b:List ByteArray}(ha:a.length<=mg)(hb:b.length<=mg):G 248 [aN a,aN b]=some (0,[.bool (qP a b)]):=by
 refine bY aeA rfl ?_;simp only[go_sem,t248];have hl:=En (b:=lB G AM) (λi=>(0,[aN a,aN b,.int .i64 (i:Int)])) (λi=>(pk WT a b i).map (λr=>(0,[.bool r]))) (min a.length b.length) (1,[aN a,aN b,.int .i64 (min a.length b.length:Nat),.bool false]) (by
  intro i hi;have h1:i < a.length:=by omega
  have h2:i < b.length:=by omega
  have a1:=dr (l:=a) h1;have a2:=dr (l:=b) h2;generalize a[i]'h1=x at a1;generalize b[i]'h2=y at a2;have hw:=wj h1 ha;simp only[go_sem,bl,AM,h1,h2,aH,a1,a2,fm,pk,WT];cases hc:decide (x=y)<;>simp only[go_sem,hw,PH,aH,a1,a2,fm]) (by
  by_cases h:a.length < b.length
  ·have e:min a.length b.length=a.length:=by omega
   rw[e];simp only[go_sem,bl,AM,aq]
  ·have e:min a.length b.length=b.length:=by omega
   rw[e];simp only[go_sem,bl,AM];by_cases h':b.length < a.length<;>simp only[go_sem,h',aq]) (min a.length b.length) 0 (by omega)
 rw[n0,JE,QE]at hl;rw[hl,qP];cases hx:A4 WT a b<;>simp only[go_sem,Option.getD,Option.map]
theorem aii(a:ByteArray):G 323 [.str a]=some (0,[.bool false]):=by
 refine bY afg rfl ?_;simp only[go_sem,afX]
def qT(x y:ByteArray):Int:=if nT x y=true then -1 else if decide (x=y)=true then 0 else 1
theorem aij(x y:ByteArray):G 324 [.str x,.str y]=some (0,[.int .i64 (qT x y)]):=by
 refine bY afh rfl ?_;simp only[go_sem,afY,aii,qT];cases h1:nT x y<;>cases h2:decide (x=y)<;>simp only[go_sem,h1,h2]
def GO(a b:List ByteArray)(i:Nat):Option Int:=match nth a i with
 |none=>none
 |some x=>match nth b i with
  |none=>some 1
  |some y=>if qT x y=0 then none else some (qT x y)
def cmpL(a b:List ByteArray):Int:=match j7 (GO a b) 0 a.length with
 |some r=>r
 |none=>if a.length < b.length then -1 else 0
theorem Ij{α:Type}:∀{l:List α} {i:Nat},l.length<=i->nth l i=none
 |[],_,_=>rfl
 |_::l,0,h=>by simp at h
 |_::l,i+1,h=>by
  have:=Ij (l:=l) (i:=i) (by simpa using h)
  simpa [nth] using this
theorem aik{a b:List ByteArray}(ha:a.length<=mg)(hb:b.length<=mg):G 325 [aN a,aN b]=some (0,[.int .i64 (cmpL a b)]):=by
 refine bY afi rfl ?_;simp only[go_sem,afZ];have hl:=En (b:=lB G AS) (λi=>(0,[aN a,aN b,aN a,.int .i64 a.length,.int .i64 (i:Int)])) (λi=>(GO a b i).map (λr=>(0,[.int .i64 r]))) a.length (1,[aN a,aN b,aN a,.int .i64 a.length,.int .i64 a.length,.bool false]) (by
  intro i h1;have a1:=dr (l:=a) h1;generalize a[i]'h1=x at a1;have hw:=wj h1 ha;by_cases h2:i < b.length
  ·have a2:=dr (l:=b) h2;generalize b[i]'h2=y at a2;have h3:decide ((b.length:Int)<=(i:Int))=false:=by simp only[decide_eq_false_iff_not];omega
   have h4:=aij x y;simp only[go_sem,bl,AS,h1,h3,aH,a1,a2,fm,GO,h4];by_cases hc:qT x y=0
   ·have hd:decide (qT x y=0)=true:=by simp[hc]
    simp only[go_sem,hc,hw,PH]
   ·have hd:decide (qT x y=0)=false:=by simp[hc]
    simp only[go_sem,hc,PH]
  ·have a2:=Ij (l:=b) (i:=i) (by omega);have h3:decide ((b.length:Int)<=(i:Int))=true:=by simp only[decide_eq_true_eq];omega
   simp only[go_sem,bl,AS,h1,h3,aH,a1,a2,fm,GO,PH]) (by simp only[go_sem,bl,AS,aq]) a.length 0 (by omega)
 rw[n0,JE]at hl;rw[hl,cmpL];cases hx:j7 (GO a b) 0 a.length
 ·simp only[go_sem,Option.getD,Option.map];by_cases h:a.length < b.length<;>simp only[go_sem,h]
 ·simp only[go_sem,Option.getD,Option.map]
end
section
theorem Py:∀l:List UInt8,Op.bytesLess l l=false
 |[]=>rfl
 |x::l=>by
  have h:¬x < x:=by simp
  simp[Op.bytesLess,Py l,h]
theorem ZW(x:ByteArray):nT x x=false:=Py _
theorem PG(b:List ByteArray):cmpL [] b=if 0 < b.length then -1 else 0:=(rfl)
theorem Nf(x:ByteArray)(a:List ByteArray):cmpL (x::a) []=1:=(rfl)
theorem Nd(x y:ByteArray)(a b:List ByteArray):cmpL (x::a) (y::b)=if qT x y=0 then cmpL a b else qT x y:=by
 have h2:(λj=>GO (x::a) (y::b) (j+1))=GO a b:=rfl;have h3:GO (x::a) (y::b) 0=if qT x y=0 then none else some (qT x y):=rfl
 rw[cmpL];simp only[az,j7,zY,h2,h3];by_cases h:qT x y=0
 ·simp only[h,if_true,cmpL,Nat.add_lt_add_iff_right]
 ·simp only[h,if_false]
theorem HV:∀a b:List ByteArray,qP a b=decide (cmpL a b < 0)
 |[],[]=>rfl
 |[],y::b=>by
  rw[PG];simp[qP,A4]
 |x::a,[]=>by
  rw[Nf];simp[qP,A4]
 |x::a,y::b=>by
  rw[Nd];by_cases h:x=y
  ·subst h;have h1:qT x x=0:=by simp[qT,ZW]
   have h2:WT x x=none:=by simp[WT]
   rw[if_pos h1,<- HV a b];simp only[qP,A4,h2,az,Nat.add_lt_add_iff_right]
  ·have h2:WT x y=some (nT x y):=by simp[WT,h]
   have h3:qP (x::a) (y::b)=nT x y:=by simp only[qP,A4,h2,Option.getD]
   rw[h3];cases hs:nT x y
   ·have h1:qT x y=1:=by simp[qT,hs,h]
    simp[h1]
   ·have h1:qT x y=-1:=by simp[qT,hs]
    simp[h1]
theorem HJ(l:List aR):∀(ks t:List ByteArray),(vo l t ks).1.length<=t.length+ks.length
 |[],t=>by simp[vo]
 |k::ks,t=>by
  cases h:Ik l k with
  |none=>simp only[vo,h,az];omega
  |some v=>
   have:=HJ l ks (t++[v]);simp only[vo,h,az,aL,aK]at *;omega
theorem sZ{n:af}{x:aR}(hk:n.keys.length<=mg):(keyOf n x).1.length<=mg:=by
 have h:=HJ x.kids n.keys [];simp only[aK,bm]at h;unfold keyOf;have hm:1<=mg:=by decide
 split
 ·split
  ·exact aA h hk
  ·simp
 ·simpa using hm
def DC(n:af)(a b:aR):Int:=if vm n.kind=true then cmpL (keyOf n a).1 (keyOf n b).1 else 0
theorem ail{n:af}{a b:aR}(hk:n.keys.length<=mg)(ha:a.kids.length<=mg)(hb:b.kids.length<=mg):G 326 (ax n++bI a++bI b)=some (0,[.int .i64 (DC n a b)]):=by
 have h1:=ZC (n:=n) (x:=a) hk ha;have h2:=ZC (n:=n) (x:=b) hk hb;have h3:=aik (a:=(keyOf n a).1) (b:=(keyOf n b).1) (sZ hk) (sZ hk);have hp:∀z:Int,aJ .pl [.int .i64 z]=some (.bool false):=λz=>rfl;simp only[ae,bu,ai,ao]at h1 h2;refine bY afj (by rw[ae,bu,bu];rfl) ?_;simp only[go_sem,af0,ae,bu,DC,vm];obtain⟨v1,c1⟩:∃v,decide (n.kind=2)=v:=⟨_,rfl⟩
 obtain⟨v2,c2⟩:∃v,decide (n.kind=4)=v:=⟨_,rfl⟩
 cases v1<;>cases v2<;>simp only[go_sem,c1,c2,h1,h2,h3,hp]
theorem ahT{d:List af}{a b:aR}{i k:Nat}{e:af}(hd:d.length<=mg)(hk:e.keys.length<=mg)(ha:a.kids.length<=mg)(hb:b.kids.length<=mg)
  (hi:fO d a.name=some i) (hj:fO d b.name=some k) (he:nth d i=some e) :
  G 249 ([aB d]++bI a++bI b)=some (0,[.bool (if decide (i=k) && vm e.kind then qP (keyOf e a).1 (keyOf e b).1 else decide (i < k))]):=by
 have f1:=W4 (l:=d) (nm:=a.name) hd;have f2:=W4 (l:=d) (nm:=b.name) hd;rw[hi]at f1;rw[hj]at f2;have h1:=Zo (n:=e) (x:=a) hk ha;have h2:=Zo (n:=e) (x:=b) hk hb;have h3:=ahS (a:=(keyOf e a).1) (b:=(keyOf e b).1) (sZ hk) (sZ hk);have h4:=ahR e.kind;have hp:aJ .pl [.bool (qP (keyOf e a).1 (keyOf e b).1)]=some (.bool false):=rfl;simp only[ae,bu,ai,ao]at h1 h2;refine bY aeB (by rw[bu,bu];rfl) ?_;have ht:(some (ax e):Option (List D))=some (ax e):=rfl;simp only[go_sem,t249,bu,f1,f2,n9];by_cases c:i=k
 ·subst c;cases c1:vm e.kind<;>simp only[go_sem,aH,he,ae e,h1,h2,h3,h4,c1,hp,aq]
 ·have c':decide (i=k)=false:=by simp[c]
  have c'':decide ((i:Int)=(k:Int))=false:=by simp only[decide_eq_false_iff_not];omega
  simp only[go_sem,c,c'']
end
section
def Dt(ip:ByteArray->Bool)(mt:ByteArray->ByteArray->Bool)(r:List af->List aR->Bool)(n:af)(x:aR):Bool:=
 if decide (n.kind=3) ||decide (n.kind=4) then decide (x.kids.length=0) && isVal ip mt n.type x.value
 else if decide (n.kind=2) then (keyOf n x).2 && (decide (x.value.size=0) && r (dk n.kids) x.kids)
 else decide (x.value.size=0) && ((n.cP ||decide (0 < x.kids.length)) && r (dk n.kids) x.kids)
theorem ahQ{ip:ByteArray->Bool}{mt:ByteArray->ByteArray->Bool}(hP:∀s:ByteArray,s.size<=mg->G 227 [.str s]=some (0,[.bool (ip s)]))(hM:∀p s:ByteArray,p.size<=mg->s.size<=mg->G 236 [.str p,.str s]=some (0,[.bool (mt p s)]))
  {r:List af->List aR->Bool} {n:af} {x:aR} (hn:eV (ax n)<=mg) (hx:eV (bI x)<=mg)
  (hR:G 246 [aB (dk n.kids),bz x.kids]=some (0,[.bool (r (dk n.kids) x.kids)])) :
  G 245 (ax n++bI x)=some (0,[.bool (Dt ip mt r n x)]):=by
 rw[dK]at hn;rw[jL]at hx;have b1:eV (ez n.type)<=mg:=by omega
 have b2:n.keys.length<=mg:=by simp only[cD]at hn;omega
 have b3:cD ax n.kids<=mg:=by omega
 have b4:x.value.size<=mg:=by omega
 have b5:x.kids.length<=mg:=by simp only[cD]at hx;omega
 have h1:=ac8 hP hM b1 b4;have h2:=Zo (n:=n) (x:=x) b2 b5;have h3:=q81 b3;have hp:∀b:Bool,aJ .pl [.bool b]=some (.bool false):=λb=>rfl;clear hP hM hn hx b1 b2 b3 b4 b5;simp only[ae,bu,ez,ai,ao]at h1 h2;refine bY aex (by rw[ae,bu];rfl) ?_;simp only[go_sem,t245,ae,bu,Dt];obtain⟨v3,c3⟩:∃v,decide (n.kind=3)=v:=⟨_,rfl⟩
 obtain⟨v4,c4⟩:∃v,decide (n.kind=4)=v:=⟨_,rfl⟩
 obtain⟨v2,c2⟩:∃v,decide (n.kind=2)=v:=⟨_,rfl⟩
 obtain⟨w,cw⟩:∃v,decide (x.kids.length=0)=v:=⟨_,rfl⟩
 have cw':decide ((x.kids.length:Int)=0)=w:=by rw[<- cw];apply decide_eq_decide.2;omega
 have cg:decide ((0:Int) < (x.kids.length:Int))=!w:=by rw[<- cw,<- decide_not];apply decide_eq_decide.2;omega
 have cg':decide (0 < x.kids.length)=!w:=by rw[<- cw,<- decide_not];apply decide_eq_decide.2;omega
 obtain⟨e,ce⟩:∃v,decide (x.value=⟨#[]⟩)=v:=⟨_,rfl⟩
 have ce':decide (x.value.size=0)=e:=by rw[<- ce,cA]
 cases v3<;>cases v4<;>cases v2<;>cases w<;>cases e<;>simp only[go_sem,c3,c4,c2,cw,cw',cg',ce,ce',h1,h2]
 all_goals try (cases hk:(keyOf n x).2<;>simp only[go_sem,ce,h3,hR,hp])
 all_goals try (cases LL:n.cP<;>simp only[go_sem,cg,h3,hR,hp])
theorem aih{ip:ByteArray->Bool}{mt:ByteArray->ByteArray->Bool}(hP:∀s:ByteArray,s.size<=mg->G 285 [.str s]=some (0,[.bool (ip s)]))(hM:∀p s:ByteArray,p.size<=mg->s.size<=mg->G 310 [.str p,.str s]=some (0,[.bool (mt p s)]))
  {r:List af->List aR->Bool} {n:af} {x:aR} (hn:eV (ax n)<=mg) (hx:eV (bI x)<=mg)
  (hd:n.kind=1\/n.kind=2\/n.kind=3\/n.kind=4) (hR:G 322 [aB n.kids,bz x.kids]=some (0,[.bool (r (dk n.kids) x.kids)])) :
  G 321 (ax n++bI x)=some (0,[.bool (Dt ip mt r n x)]):=by
 rw[dK]at hn;rw[jL]at hx;have b1:eV (ez n.type)<=mg:=by omega
 have b2:n.keys.length<=mg:=by simp only[cD]at hn;omega
 have b3:cD ax n.kids<=mg:=by omega
 have b4:x.value.size<=mg:=by omega
 have b5:x.kids.length<=mg:=by simp only[cD]at hx;omega
 have h1:=adn hP hM b1 b4;have h2:=ZC (n:=n) (x:=x) b2 b5;have hp:∀b:Bool,aJ .pl [.bool b]=some (.bool false):=λb=>rfl;clear hP hM hn hx b1 b2 b3 b4 b5;simp only[ae,bu,ez,ai,ao]at h1 h2;refine bY afe (by rw[ae,bu];rfl) ?_;simp only[go_sem,afV,ae,bu,Dt];have hc:∃v1 v2 v3 v4:Bool,decide (n.kind=1)=v1/\decide (n.kind=2)=v2/\decide (n.kind=3)=v3/\decide (n.kind=4)=v4/\((v1,v2,v3,v4)=(true,false,false,false)\/(v1,v2,v3,v4)=(false,true,false,false)\/(v1,v2,v3,v4)=(false,false,true,false)\/(v1,v2,v3,v4)=(false,false,false,true)):=by
  refine⟨_,_,_,_,rfl,rfl,rfl,rfl,?_⟩;rcases hd with h|h|h|h<;>rw[h]<;>decide
 obtain⟨v1,v2,v3,v4,c1,c2,c3,c4,hv⟩:=hc;clear hd;obtain⟨w,cw⟩:∃v,decide (x.kids.length=0)=v:=⟨_,rfl⟩
 have cw':decide ((x.kids.length:Int)=0)=w:=by rw[<- cw];apply decide_eq_decide.2;omega
 have cg:decide ((0:Int) < (x.kids.length:Int))=!w:=by rw[<- cw,<- decide_not];apply decide_eq_decide.2;omega
 have cg':decide (0 < x.kids.length)=!w:=by rw[<- cw,<- decide_not];apply decide_eq_decide.2;omega
 obtain⟨e,ce⟩:∃v,decide (x.value=⟨#[]⟩)=v:=⟨_,rfl⟩
 have ce':decide (x.value.size=0)=e:=by rw[<- ce,cA]
 cases hr:r (dk n.kids) x.kids<;>rcases hv with hv|hv|hv|hv<;>cases hv<;>cases w<;>cases e<;>simp only[go_sem,c3,c4,c2,cw,cw',cg',ce,ce',h1,h2,c1,hR,hr]
 all_goals try (cases hk:(keyOf n x).2<;>simp only[go_sem,ce,hR])
 all_goals try (cases LL:n.cP<;>simp only[go_sem,cg])
 all_goals try rw[hr]
end
section
def tN(t:Option (aR×Nat))(s:af)(k:Nat)(e:aR):Bool:=match t with
 |none=>true
 |some (p,k')=>if decide (k'=k) && vm s.kind then qP (keyOf s p).1 (keyOf s e).1 else decide (k' < k)
def lz{ρ:Type}(no:ρ)(nr:af->aR->Bool)(d:List af)(i:Nat)(t:Option (aR×Nat))(e:aR):Sg (Option (aR×Nat)) ρ:=match fO d e.name with
 |none=>.out no
 |some k=>match nth d k with
  |none=>.out no
  |some s=>if (nr s e && tN t s k e)=true then .go (some (e,k)) else .out no
def Rf{σ ρ:Type}:Sg σ ρ->Bool
 | .go _=>true
 | .out _=>false
def mQ(nr:af->aR->Bool)(d:List af)(l:List aR):Bool:=Rf (il (lz () nr d) 0 none l)
theorem IC{ρ:Type}(no:ρ)(nr:af->aR->Bool)(d:List af)(fin:Option (aR×Nat)->ρ)(yes:ρ)(hf:∀t,fin t=yes):∀(l:List aR) (i:Nat) (t:Option (aR×Nat)),
  W7 fin (il (lz no nr d) i t l)=if Rf (il (lz () nr d) i t l)=true then yes else no
 |[],_,t=>hf t
 |e::l,i,t=>by
  cases h1:fO d e.name with
  |none=>simp only[il,lz,h1];rfl
  |some k=>
   cases h2:nth d k with
   |none=>simp only[il,lz,h1,h2];rfl
   |some s=>
    cases h:(nr s e && tN t s k e)
    ·simp only[il,lz,h1,h2,h,av,if_false];rfl
    ·simp only[il,lz,h1,h2,h,if_true];exact IC no nr d fin yes hf l (i+1) (some (e,k))
def Re(d:List af)(l:List aR)(i:Nat)(t:Option (aR×Nat)):Prop:=match t with
 |none=>i=0
 |some (p,k)=>∃j,i=j+1/\nth l j=some p/\fO d p.name=some k
theorem ac9{nr:af->aR->Bool}{d:List af}{l:List aR}(hd:cD ax d<=mg)(JP:cD bI l<=mg)
  (hN:∀s e,s∈d->e∈l->G 245 (ax s++bI e)=some (0,[.bool (nr s e)])):G 246 [aB d,bz l]=some (0,[.bool (mQ nr d l)]):=by
 have xU:d.length<=mg:=by simp only[cD]at hd;omega
 have C7:l.length<=mg:=by simp only[cD]at JP;omega
 refine bY aey rfl ?_;simp only[go_sem,t246];have hl:=ve (b:=lB G wT) l (λi (t:Option (aR×Nat))=>(0,[aB d,bz l,.int .i64 (i:Int)])) (lz (0,[.bool false]) nr d) (λt=>(1,[aB d,bz l,.int .i64 l.length,.bool false])) (Re d l) none rfl (by
  intro i e t hn hI;have hi:=aP hn;have hw:=wj hi C7;have f1:=W4 (l:=d) (nm:=e.name) xU;cases hf:fO d e.name with
  |none=>
   rw[hf]at f1;simp only[go_sem,bl,wT,hi,aH,hn,bu e,f1,n9,lz,hf,I9];intro t' ht;cases ht
  |some k=>
   rw[hf]at f1;obtain⟨s,h1,h2⟩:=ef hf;have g1:=hN s e (aT h1) (aT hn);have tH:decide ((k:Int) < 0)=false:=by simp only[decide_eq_false_iff_not];omega
   simp only[ae,bu,ai,ao]at g1;have hinv:∀t',Sg.go (some (e,k))=(Sg.go t':Sg (Option (aR×Nat)) (Nat×List D))->Re d l (i+1) t':=by
    intro t' ht;cases ht;exact⟨i,rfl,hn,hf⟩
   have Cm:lz (0,[D.bool false]) nr d i t e=if (nr s e && tN t s k e)=true then .go (some (e,k)) else .out (0,[D.bool false]):=by simp only[lz,hf,h1]
   rw[Cm];cases t with
   |none=>
    obtain rfl:i=0:=hI;simp only[go_sem,bl,wT,hi,aH,hn,h1,bu e,ae s,f1,n9,g1,tH,tN];cases hq:nr s e
    ·simp only[go_sem,I9];intro t' ht;cases ht
    ·simp only[go_sem,I9];exact⟨rfl,hinv⟩
   |some pk=>
    obtain⟨p,k'⟩:=pk;obtain⟨j,rfl,i2,i3⟩:=hI;obtain⟨s',i4,_⟩:=ef i3;have b1:s'.keys.length<=mg:=by
     have a1:=eo ax (aT i4);rw[dK]at a1;simp only[cD]at a1 hd;omega
    have b2:∀y:aR,y∈l->y.kids.length<=mg:=by
     intro y hy;have a1:=eo bI hy;rw[jL]at a1;simp only[cD]at a1 JP;omega
    have g2:=ahT xU b1 (b2 p (aT i2)) (b2 e (aT hn)) i3 hf i4;have g3:(if decide (k'=k) && vm s'.kind then qP (keyOf s' p).1 (keyOf s' e).1 else decide (k' < k))=tN (some (p,k')) s k e:=by
     by_cases hk:k'=k
     ·subst hk;have:s'=s:=eM (i4.symm.trans h1);subst this;simp only[tN]
     ·simp[tN,hk]
    rw[g3]at g2;simp only[bu,ai,ao]at g2;have e1:IntKind.i64.wrap (((j+1:Nat):Int) - 1)=(j:Int):=by rw[wrap_i64 (by simp only[mg]at C7;omega)];omega
    have e3:(0:Int) < ((j+1:Nat):Int):=by omega
    have hj:j < l.length:=by omega
    clear hd JP hN b1 b2 g3;obtain⟨bf,hbf⟩:∃v,tN (some (p,k')) s k e=v:=⟨_,rfl⟩
    obtain⟨nv,WB⟩:∃v,nr s e=v:=⟨_,rfl⟩
    rw[hbf]at g2;rw[WB]at g1;rw[hbf,WB];simp only[go_sem,bl,wT,hi,aH,hn,h1,bu e,ae s,f1,n9,g1,tH];cases nv<;>cases bf<;>simp only[go_sem,I9,e1,e3,aH,hn,i2,bu e,bu p,g2,hw]
    all_goals try (intro t' ht;cases ht)
    all_goals exact hinv _ rfl) (by
  intro t hI;simp only[go_sem,bl,wT,aq])
 rw[n0,IC (yes:=(1,[aB d,bz l,.int .i64 l.length,.bool false])) (hf:=λ_=>rfl)]at hl;rw[hl,mQ];cases Rf (il (lz () nr d) 0 none l)<;>simp only[go_sem]
end
section
def qO(t:Option (aR×Nat)):Int:=match t with
 |none=>-1
 |some (_,k)=>(k:Int)
theorem BI{ρ:Type}(no:ρ)(nr:af->aR->Bool)(d:List af)(fin:Option (aR×Nat)->ρ):∀(l:List aR) (i:Nat) (t:Option (aR×Nat)),
  ∃t',W7 fin (il (lz no nr d) i t l)=if Rf (il (lz () nr d) i t l)=true then fin t' else no
 |[],_,t=>⟨t,rfl⟩
 |e::l,i,t=>by
  cases h1:fO d e.name with
  |none=>exact⟨t,by simp only[il,lz,h1];rfl⟩
  |some k=>
   cases h2:nth d k with
   |none=>exact⟨t,by simp only[il,lz,h1,h2];rfl⟩
   |some s=>
    cases h:(nr s e && tN t s k e)
    ·exact⟨t,by simp only[il,lz,h1,h2,h,av,if_false];rfl⟩
    ·obtain⟨t',h'⟩:=BI no nr d fin l (i+1) (some (e,k));exact⟨t',by simp only[il,lz,h1,h2,h,if_true];exact h'⟩
theorem ZE{nr:af->aR->Bool}{d:List af}{l:List aR}(hd:cD ax d<=mg)(JP:cD bI l<=mg)
  (h0:d=[]) (hN:∀s e,s∈d->e∈l->G 321 (ax s++bI e)=some (0,[.bool (nr s e)])) :
  ∃t,bR (lB G AQ) (0,[bz l,.int .i64 (-1),bz l,.int .i64 l.length,.int .i64 0,aB d,aN (d.map af.name)])=some (if mQ nr d l=true then (1,[bz l,.int .i64 (qO t),bz l,.int .i64 l.length,.int .i64 l.length,.bool false,aB d,aN (d.map af.name)]) else (0,[.bool false])):=by
 have xU:d.length<=mg:=by simp only[cD]at hd;omega
 have C7:l.length<=mg:=by simp only[cD]at JP;omega
 have hl:=ve (b:=lB G AQ) l (λi (t:Option (aR×Nat))=>(0,[bz l,.int .i64 (qO t),bz l,.int .i64 l.length,.int .i64 (i:Int),aB d,aN (d.map af.name)])) (lz (0,[.bool false]) nr d) (λt=>(1,[bz l,.int .i64 (qO t),bz l,.int .i64 l.length,.int .i64 l.length,.bool false,aB d,aN (d.map af.name)])) (Re d l) none rfl (by
  intro i e t hn hI;have hi:=aP hn;have hw:=wj hi C7;have f1:=q96 (l:=d.map af.name) (v:=e.name) (by rw[au];exact xU);rw[Am]at f1;cases hf:fO d e.name with
  |none=>
   rw[hf]at f1;have hp:aJ .pl [.int .i64 (-1)]=some (.bool false):=rfl;simp only[go_sem,bl,AQ,hi,aH,hn,bu e,f1,n9,lz,hf,I9,hp];intro t' ht;cases ht
  |some k=>
   obtain⟨s,h1,_⟩:=ef hf;rw[h0]at h1;cases h1) (by
  intro t hI;simp only[go_sem,bl,AQ,aq])
 obtain⟨t',h'⟩:=BI (0,[D.bool false]) nr d (λt=>(1,[bz l,.int .i64 (qO t),bz l,.int .i64 l.length,.int .i64 l.length,.bool false,aB d,aN (d.map af.name)])) l 0 none;rw[n0,h']at hl;exact⟨t',hl⟩
theorem ZF{nr:af->aR->Bool}{d:List af}{l:List aR}(hd:cD ax d<=mg)(JP:cD bI l<=mg)
  (hN:∀s e,s∈d->e∈l->G 321 (ax s++bI e)=some (0,[.bool (nr s e)])) :
  ∃t,bR (lB G ql) (0,[bz l,.int .i64 (-1),bz l,.int .i64 l.length,.int .i64 0,aB d,aN (d.map af.name)])=some (if mQ nr d l=true then (1,[bz l,.int .i64 (qO t),bz l,.int .i64 l.length,.int .i64 l.length,.bool false,aB d,aN (d.map af.name)]) else (0,[.bool false])):=by
 have xU:d.length<=mg:=by simp only[cD]at hd;omega
 have C7:l.length<=mg:=by simp only[cD]at JP;omega
 have hl:=ve (b:=lB G ql) l (λi (t:Option (aR×Nat))=>(0,[bz l,.int .i64 (qO t),bz l,.int .i64 l.length,.int .i64 (i:Int),aB d,aN (d.map af.name)])) (lz (0,[.bool false]) nr d) (λt=>(1,[bz l,.int .i64 (qO t),bz l,.int .i64 l.length,.int .i64 l.length,.bool false,aB d,aN (d.map af.name)])) (Re d l) none rfl (by
  intro i e t hn hI;have hi:=aP hn;have hw:=wj hi C7;have f1:=q96 (l:=d.map af.name) (v:=e.name) (by rw[au];exact xU);rw[Am]at f1;cases hf:fO d e.name with
  |none=>
   rw[hf]at f1;have hp:aJ .pl [.int .i64 (-1)]=some (.bool false):=rfl;simp only[go_sem,bl,ql,hi,aH,hn,bu e,f1,n9,lz,hf,I9,hp];intro t' ht;cases ht
  |some k=>
   rw[hf]at f1;obtain⟨s,h1,h2⟩:=ef hf;have g1:=hN s e (aT h1) (aT hn);have tH:decide ((k:Int) < 0)=false:=by simp only[decide_eq_false_iff_not];omega
   simp only[ae,bu,ai,ao]at g1;have hp:aJ .pl [.int .i64 (k:Int)]=some (.bool false):=rfl;have r1:=P5 h1;have r2:=lu 19 false (d.map ax) k (by rw[au];exact aP h1);have hinv:∀t',Sg.go (some (e,k))=(Sg.go t':Sg (Option (aR×Nat)) (Nat×List D))->Re d l (i+1) t':=by
    intro t' ht;cases ht;exact⟨i,rfl,hn,hf⟩
   have Cm:lz (0,[D.bool false]) nr d i t e=if (nr s e && tN t s k e)=true then .go (some (e,k)) else .out (0,[D.bool false]):=by simp only[lz,hf,h1]
   rw[Cm];have b1:∀y:af,y∈d->y.keys.length<=mg:=by
    intro y hy;have a1:=eo ax hy;rw[dK]at a1;simp only[cD]at a1 hd;omega
   have b2:∀y:aR,y∈l->y.kids.length<=mg:=by
    intro y hy;have a1:=eo bI hy;rw[jL]at a1;simp only[cD]at a1 JP;omega
   clear hN hd JP;cases t with
   |none=>
    obtain rfl:i=0:=hI;have m1:decide ((k:Int) < -1)=false:=by simp only[decide_eq_false_iff_not];omega
    have m2:decide ((k:Int)=-1)=false:=by simp only[decide_eq_false_iff_not];omega
    obtain⟨nv,WB⟩:∃v,nr s e=v:=⟨_,rfl⟩
    rw[WB]at g1;rw[WB];simp only[go_sem,bl,ql,hi,aH,hn,bu e,ae s,f1,n9,g1,tH,tN,qO,hp,r1,r2,m1];cases nv<;>simp only[go_sem,I9,hw,m2]
    ·intro t' ht;cases ht
    ·exact hinv
   |some pk=>
    obtain⟨p,k'⟩:=pk;obtain⟨j,rfl,i2,i3⟩:=hI;have g2:=ail (n:=s) (a:=p) (b:=e) (b1 s (aT h1)) (b2 p (aT i2)) (b2 e (aT hn));simp only[ae,bu,ai,ao]at g2;have e1:IntKind.i64.wrap (((j+1:Nat):Int) - 1)=(j:Int):=by rw[wrap_i64 (by simp only[mg]at C7;omega)];omega
    have hj:j < l.length:=by omega
    obtain⟨bf,hbf⟩:∃v,tN (some (p,k')) s k e=v:=⟨_,rfl⟩
    obtain⟨nv,WB⟩:∃v,nr s e=v:=⟨_,rfl⟩
    have hb:bf=if k'=k then decide (DC s p e < 0) else decide (k' < k):=by
     rw[<- hbf];by_cases hk:k'=k
     ·subst hk;cases hr:vm s.kind<;>simp[tN,hr,DC,HV]
     ·simp[tN,hk]
    rw[WB]at g1;rw[hbf,WB];clear b1 b2 Cm hbf;obtain⟨o,ho⟩:∃v,decide (0<=DC s p e)=v:=⟨_,rfl⟩
    have ho':decide (DC s p e < 0)=!o:=by rw[<- ho,<- decide_not];apply decide_eq_decide.2;omega
    rcases Nat.lt_trichotomy k k' with c|c|c
    ·have m1:decide ((k:Int) < (k':Int))=true:=by simp only[decide_eq_true_eq];omega
     have kT:bf=false:=by rw[hb,if_neg (by omega)];simp only[decide_eq_false_iff_not];omega
     subst kT;simp only[go_sem,bl,ql,hi,aH,hn,bu e,f1,n9,tH,qO,hp,m1];cases nv<;>simp only[go_sem,I9]
     all_goals (intro t' ht;cases ht)
    ·subst c;have m1:decide ((k:Int) < (k:Int))=false:=by simp
     have m2:decide ((k:Int)=(k:Int))=true:=by simp
     rw[if_pos rfl,ho']at hb;subst hb;simp only[go_sem,bl,ql,hi,aH,hn,bu e,ae s,f1,n9,g1,tH,qO,hp,r1,r2,m1];cases nv<;>cases o<;>simp only[go_sem,I9,hw,e1,aH,i2,bu p,g2,ho]
     all_goals first|exact⟨rfl,hinv⟩|exact hinv|(intro t' ht;cases ht)
    ·have m1:decide ((k:Int) < (k':Int))=false:=by simp only[decide_eq_false_iff_not];omega
     have m2:decide ((k:Int)=(k':Int))=false:=by simp only[decide_eq_false_iff_not];omega
     have kT:bf=true:=by rw[hb,if_neg (by omega)];simp only[decide_eq_true_eq];omega
     subst kT;simp only[go_sem,bl,ql,hi,aH,hn,bu e,ae s,f1,n9,g1,tH,qO,hp,r1,r2,m1];cases nv<;>simp only[go_sem,I9,hw,m2]
     all_goals first|exact⟨rfl,hinv⟩|exact hinv|(intro t' ht;cases ht)) (by
  intro t hI;simp only[go_sem,bl,ql,aq])
 obtain⟨t',h'⟩:=BI (0,[D.bool false]) nr d (λt=>(1,[bz l,.int .i64 (qO t),bz l,.int .i64 l.length,.int .i64 l.length,.bool false,aB d,aN (d.map af.name)])) l 0 none;rw[n0,h']at hl;exact⟨t',hl⟩
end
section
theorem adp{nr:af->aR->Bool}{ks:List af}{l:List aR}(tH:cD ax ks<=mg)(JP:cD bI l<=mg)
  (hN:∀s e,s∈dk ks->e∈l->G 321 (ax s++bI e)=some (0,[.bool (nr s e)])):G 322 [aB ks,bz l]=some (0,[.bool (mQ nr (dk ks) l)]):=by
 have hd:=aA (qI (es:=ks)) tH;have xU:(dk ks).length<=mg:=by simp only[cD]at hd;omega
 have h94:=q94 tH;have JK:=q95 (l:=dk ks) xU;refine bY aff rfl ?_;simp only[go_sem,afW];by_cases hq:dk ks=[]
 ·have hk:kE (dk ks)=0:=by rw[hq];rfl
  obtain⟨t,ht⟩:=ZE hd JP hq hN;simp only[go_sem,h94,hk,JK,ht];cases mQ nr (dk ks) l<;>simp only[go_sem]
 ·have hk:kE (dk ks)=1:=jw hq;obtain⟨t,ht⟩:=ZF hd JP hN;simp only[go_sem,h94,hk,JK,ht];cases mQ nr (dk ks) l<;>simp only[go_sem]
end
section
def o8(ip:ByteArray->Bool)(mt:ByteArray->ByteArray->Bool):Nat->af->aR->Bool
 |0,_,_=>false
 |N+1,n,x=>Dt ip mt (mQ (o8 ip mt N)) n x
theorem Zp{ip:ByteArray->Bool}{mt:ByteArray->ByteArray->Bool}(hP:∀s:ByteArray,s.size<=mg->G 227 [.str s]=some (0,[.bool (ip s)]))(hM:∀p s:ByteArray,p.size<=mg->s.size<=mg->G 236 [.str p,.str s]=some (0,[.bool (mt p s)]))
  (N:Nat):∀(n:af) (x:aR),ah x < N->eV (ax n)<=mg->eV (bI x)<=mg->G 245 (ax n++bI x)=some (0,[.bool (o8 ip mt N n x)]):=by
 induction N with
 |zero=>intro n x h;omega
 |succ N ih=>
  intro n x h hn hx;refine ahQ (r:=mQ (o8 ip mt N)) hP hM hn hx ?_;have a1:=hn;have a2:=hx;rw[dK]at a1;rw[jL]at a2;have b1:cD ax (dk n.kids)<=mg:=aA qI (by omega);have b2:cD bI x.kids<=mg:=by omega
  refine ac9 b1 b2 ?_;intro s e hs he;have c1:=eo ax hs;have c2:=eo bI he;have c3:=aR.JY he;exact ih s e (by omega) (by omega) (by omega)
end
section
theorem Lj(n:Nat):∀(es:List af),ah es < n->∀s,s∈dk es->lS s.kind=true:=by
 induction n with
 |zero=>intro es h;omega
 |succ n ih=>
  intro es h s hs;cases es with
  |nil=>rw[rL]at hs;cases hs
  |cons e es=>
   rw[ou]at hs;rcases aM.1 hs with hs|hs
   ·unfold xM at hs
    split at hs
    ·rename_i hk;rw[ct.1 hs];exact hk
    ·split at hs
     ·have h1:=af.iE e es;exact ih e.kids (by omega) s hs
     ·cases hs
   ·exact ih es (by simp only[bB]at h;omega) s hs
theorem P0{k:Int}(h:lS k=true):k=1\/k=2\/k=3\/k=4:=by
 simp only[lS,fg,ab,decide_eq_true_eq]at h;omega
theorem ZD{ip:ByteArray->Bool}{mt:ByteArray->ByteArray->Bool}(hP:∀s:ByteArray,s.size<=mg->G 285 [.str s]=some (0,[.bool (ip s)]))(hM:∀p s:ByteArray,p.size<=mg->s.size<=mg->G 310 [.str p,.str s]=some (0,[.bool (mt p s)]))
  (N:Nat):∀(n:af) (x:aR),ah x < N->lS n.kind=true->eV (ax n)<=mg->eV (bI x)<=mg->G 321 (ax n++bI x)=some (0,[.bool (o8 ip mt N n x)]):=by
 induction N with
 |zero=>intro n x h;omega
 |succ N ih=>
  intro n x h hk hn hx;refine aih (r:=mQ (o8 ip mt N)) hP hM hn hx (P0 hk) ?_;have a1:=hn;have a2:=hx;rw[dK]at a1;rw[jL]at a2;have b0:cD ax n.kids<=mg:=by omega
  have b1:cD ax (dk n.kids)<=mg:=aA qI b0;have b2:cD bI x.kids<=mg:=by omega
  refine adp b0 b2 ?_;intro s e hs he;have c1:=eo ax hs;have c2:=eo bI he;have c3:=aR.JY he;exact ih s e (by omega) (Lj _ _ (aO _) s hs) (by omega) (by omega)
end
section
noncomputable def uc(ip:ByteArray->Bool)(mt:ByteArray->ByteArray->Bool)(ok:Bool)(s:List af)(l:List aR):Bool:=
 ok && (decide (fC l<=120) && mQ (o8 ip mt (ah l)) (dk s) l)
theorem WX{l:List aR}{e:aR}(h:e∈l):ah e < ah l:=aW h
theorem ahU{ip:ByteArray->Bool}{mt:ByteArray->ByteArray->Bool}(hP:∀s:ByteArray,s.size<=mg->G 227 [.str s]=some (0,[.bool (ip s)]))(hM:∀p s:ByteArray,p.size<=mg->s.size<=mg->G 236 [.str p,.str s]=some (0,[.bool (mt p s)]))
  {ok:Bool} {s:List af} {l:List aR} (hs:cD ax s<=mg) (hl:cD bI l<=mg) (hS:G 241 [aB s]=some (0,[.bool ok])):G 250 [aB s,bz l]=some (0,[.bool (uc ip mt ok s l)]):=by
 obtain⟨r,h1,h2⟩:=ahO (l:=l) (x:=120) hl (by omega) (by omega);have h3:=q81 hs;have h4:=ac9 (nr:=o8 ip mt (ah l)) (d:=dk s) (l:=l) (aA qI hs) hl (by
  intro s' e pj he;have c1:=eo ax pj;have c2:=eo bI he;have c4:=qI (es:=s);exact Zp hP hM _ s' e (WX he) (by omega) (by omega))
 have hr:decide (0<=r)=decide (fC l<=120):=by
  apply decide_eq_decide.2
  unfold yE at h2;omega
 have hp:∀b:Bool,aJ .pl [.bool b]=some (.bool false):=λb=>rfl;clear hP hM h2;refine bY aeC rfl ?_;simp only[go_sem,t250,hS,uc];obtain⟨v,hv⟩:∃v,decide (fC l<=120)=v:=⟨_,rfl⟩
 rw[hv]at hr;cases ok<;>cases v<;>simp only[go_sem,h1,h3,h4,hr,hv,hp]
theorem aim{ip:ByteArray->Bool}{mt:ByteArray->ByteArray->Bool}(hP:∀s:ByteArray,s.size<=mg->G 285 [.str s]=some (0,[.bool (ip s)]))(hM:∀p s:ByteArray,p.size<=mg->s.size<=mg->G 310 [.str p,.str s]=some (0,[.bool (mt p s)]))
  {ok:Bool} {s:List af} {l:List aR} (hs:cD ax s<=mg) (hl:cD bI l<=mg) (hS:G 316 [aB s]=some (0,[.bool ok])):G 327 [aB s,bz l]=some (0,[.bool (uc ip mt ok s l)]):=by
 have h1:=aif hl;have h4:=adp (nr:=o8 ip mt (ah l)) (ks:=s) (l:=l) hs hl (by
  intro s' e pj he;have c1:=eo ax pj;have c2:=eo bI he;have c4:=qI (es:=s);exact ZD hP hM _ s' e (WX he) (Lj _ _ (aO _) s' pj) (by omega) (by omega))
 have hr:decide ((fC l:Int)<=120)=decide (fC l<=120):=by apply decide_eq_decide.2;omega
 clear hP hM;refine bY afk rfl ?_;simp only[go_sem,af1,hS,uc];obtain⟨v,hv⟩:∃v,decide (fC l<=120)=v:=⟨_,rfl⟩
 rw[hv]at hr;cases ok<;>cases v<;>simp only[go_sem,h1,h4,hr,hv]
end
section
section
variable {ip:ByteArray->Bool} {mt:ByteArray->ByteArray->Bool}
def Rt(ip:ByteArray->Bool)(mt:ByteArray->ByteArray->Bool)(d:List af)(l:List aR):Prop:=∃N,mQ (o8 ip mt N) d l=true
theorem DJ{nr:af->aR->Bool}{d:List af}:∀{l:List aR} {i:Nat} {t:Option (aR×Nat)},Rf (il (lz () nr d) i t l)=true->∀x∈l,∃k n,fO d x.name=some k/\nth d k=some n/\nr n x=true
 |e::l,i,t,h,x,hx=>by
  cases h1:fO d e.name with
  |none=>simp only[il,lz,h1]at h;cases h
  |some k=>
   cases h2:nth d k with
   |none=>simp only[il,lz,h1,h2]at h;cases h
   |some s=>
    cases h3:(nr s e && tN t s k e) with
    |false=>simp only[il,lz,h1,h2,h3,av,if_false]at h;cases h
    |true=>
     simp only[il,lz,h1,h2,h3,if_true]at h;rcases ay.1 hx with rfl|hx
     ·exact⟨k,s,h1,h2,(ab _ _▸h3).1⟩
     ·exact DJ h x hx
theorem Xi{d:List af}:Rt ip mt d []:=⟨0,rfl⟩
theorem Pf{d:List af}{l:List aR}(h:Rt ip mt d l){x:aR}(hx:x∈l):∃k n,fO d x.name=some k/\nth d k=some n/\(n.kind=2->(keyOf n x).2=true)/\Rt ip mt (dk n.kids) x.kids:=by
 obtain⟨N,hN⟩:=h;obtain⟨k,n,h1,h2,h3⟩:=DJ hN x hx;refine⟨k,n,h1,h2,?_⟩;cases N with
 |zero=>cases h3
 |succ N=>
  simp only[o8,Dt]at h3
  split at h3
  ·rename_i hk;simp only[dD,decide_eq_true_eq]at hk;simp only[ab,decide_eq_true_eq]at h3;refine⟨λh=>by omega,?_⟩;rw[cm.1 h3.1];exact Xi
  ·split at h3
   ·simp only[ab]at h3;exact⟨λ_=>h3.1,N,h3.2.2⟩
   ·rename_i hk;simp only[ab]at h3;refine⟨λh=>by simp[h]at hk,N,h3.2.2⟩
theorem NP{ok:Bool}{s:List af}{l:List aR}(h:uc ip mt ok s l=true):Rt ip mt (dk s) l:=by
 simp only[uc,ab]at h;exact⟨_,h.2.2⟩
end
end
section
def oC(n:af):Bool:=n.keys.isEmpty && (n.unique.isEmpty && (decide (n.default.size=0) && (!n.given && (!n.fixed && (decide (n.min=0) && decide (n.max=0))))))
def ue(l:List af)(o:Option Nat)(p:af->Bool):Bool:=match o with
 |some j=>(match nth l j with
  |some x=>p x
  |none=>false)
 |none=>false
def NS(x:af):Bool:=x.when.isEmpty && (!x.given && !decide (x.type.kind=6))
def Cn(l:List af)(k:ByteArray):Bool:=ue l (fO l k) λx=>decide (x.kind=3) && NS x
def BP(l:List af)(k:ByteArray):Bool:=ue l (fO l k) λx=>decide (x.kind=3)
def Dl(n:af):Bool:=n.keys.all (Cn n.kids) && (n.unique.all (BP n.kids) && (zT n.type && (!n.keys.isEmpty && (sq n.keys && (sq n.unique && (kG n && (!n.given && (!n.dY && (!n.cP && (!n.fixed && decide (n.default.size=0)))))))))))
def AZ(ip:ByteArray->Bool)(n:af):Bool:=n.keys.isEmpty && (n.unique.isEmpty && (decide (n.min=0) && (decide (n.max=0) && (!n.cP && (n.kids.isEmpty && isType ip n.type)))))
def H0(ip:ByteArray->Bool)(n:af):Bool:=n.keys.isEmpty && (n.unique.isEmpty && (decide (n.default.size=0) && (!n.given && (!n.fixed && (!n.dY && (!n.cP && (n.kids.isEmpty && (kG n && isType ip n.type))))))))
def C6(n:af):Bool:=isName n.name && (Cd n.when 1 && Cd n.hX 3)
section
variable (ip:ByteArray->Bool) (mt:ByteArray->ByteArray->Bool)
def iZ(n:af)(free:Bool):Bool:=
 if n.kind=1 then oC n && (!n.dY && zT n.type)
 else if n.kind=2 then Dl n
 else if n.kind=3 then (if n.given=true then AZ ip n && (free && (!n.dY && (n.when.isEmpty && isVal ip mt n.type n.default))) else AZ ip n && decide (n.default.size=0))
 else if n.kind=4 then H0 ip n
 else if n.kind=5 then oC n && (!n.cP && (n.hX.isEmpty && zT n.type))
 else if n.kind=6 then oC n && (!n.cP && (!n.dY && (n.hX.isEmpty && zT n.type)))
 else false
def Bd(n:af)(free:Bool):Bool:=C6 n && iZ ip mt n free
def tO(n:af)(free:Bool):Bool:=free && (n.when.isEmpty && !decide (n.kind=6))
def Aq:Nat->List af->Int->Bool->Nat->Bool
 |0,_,_,_,_=>false
 |m+1,l,k,free,deep=>
  allI (λi n=>decide (fO l n.name=some i) && (decide (decide (k=5)=decide (n.kind=6)) && (Bd ip mt n free && Aq m n.kids n.kind (tO n free) (deep+1)))) 0 l &&
   (allI (λi n=>decide (fO (dk l) n.name=some i)) 0 (dk l) && (decide (deep<=8) ||l.isEmpty))
def tv(l:List af)(k:ByteArray):Bool:=ue l (jZ l k) NS
def nJ(n:af):Bool:=
 (!decide (n.kind=3) && (!decide (n.kind=4) && !zT n.type)) ||
 ((!decide (n.kind=2) && !(n.keys.isEmpty && n.unique.isEmpty)) ||
 ((!decide (n.kind=3) && (!decide (n.default.size=0) ||(n.given ||n.fixed))) ||
 ((!decide (n.kind=3) && (!decide (n.kind=5) && n.dY)) ||
 ((!decide (n.kind=1) && n.cP) ||
 ((!decide (n.kind=2) && (!decide (n.kind=4) && (!decide (n.min=0) ||!decide (n.max=0)))) ||
 ((!lS n.kind && !n.hX.isEmpty) ||
 ((decide (n.kind=3) ||decide (n.kind=4)) && !n.kids.isEmpty)))))))
def lr(l:List ByteArray):Bool:=decide (l.length<=3) && (qd l && l.all isName)
def jD(n:af):Bool:=
 if n.kind=1 then true
 else if n.kind=2 then !n.keys.isEmpty && (lr n.keys && (lr n.unique && kG n))
 else if n.kind=3 then isType ip n.type && (!(n.given && (n.dY ||!n.when.isEmpty)) && (if n.given=true then isVal ip mt n.type n.default else decide (n.default.size=0)))
 else if n.kind=4 then isType ip n.type && kG n
 else if n.kind=5 then true
 else if n.kind=6 then true
 else if n.kind=7 then n.when.isEmpty && n.kids.isEmpty
 else false
def vv(n:af):Bool:=C6 n && (!nJ n && jD ip mt n)
def tw:Nat->List af->Int->Bool->Bool
 |0,_,_,_=>false
 |m+1,l,k,bound=>
  (qd (l.map af.name) && (n7 k ||qd ((dk l).map af.name))) &&
   l.all λn=>vv ip mt n && (!decide (n.kind=7) && (decide (decide (n.kind=6)=decide (k=5)) && (!(n.given && bound) && (n.keys.all (tv n.kids) && (n.unique.all (λu=>(jZ n.kids u).isSome) && tw m n.kids n.kind (bound ||(!n.when.isEmpty ||decide (n.kind=6))))))))
end
theorem mi{α:Type}{p:Nat->α->Bool}:∀{l:List α} {i:Nat},allI p i l=true↔∀j x,nth l j=some x->p (i+j) x=true
 |[],i=>⟨λ_ j x h=>by simp[nth]at h,λ_=>rfl⟩
 |y::l,i=>by
  simp only[allI,ab,mi (l:=l)]
  constructor
  ·rintro⟨h1,h2⟩ j x hx
   cases j with
   |zero=>cases hx;exact h1
   |succ j=>have:=h2 j x hx;rwa [Nat.add_right_comm,du]at this
  ·intro h;refine⟨h 0 y rfl,λj x hx=>?_⟩;have:=h (j+1) x hx
   rwa [Nat.add_right_comm,du]
theorem uu{α:Type}:∀{l:List α} {x:α},x∈l->∃j,nth l j=some x
 |y::l,x,h=>by
  rcases ay.1 h with rfl|h
  ·exact⟨0,rfl⟩
  ·obtain⟨j,hj⟩:=uu h;exact⟨j+1,hj⟩
theorem wB{α:Type}{p:α->Bool}:∀{l:List α} {k j:Nat} {e:α},nth l j=some e->p e=true->(∀i x,i < j->nth l i=some x->p x=false)->sS p l k=some (k+j)
 |y::l,k,0,e,h,hp,_=>by cases h;simp only[sS,hp,if_true,eD]
 |y::l,k,j+1,e,h,hp,hb=>by
  have h0:=hb 0 y (by omega) rfl;simp only[sS,h0,av,if_false];rw[wB (l:=l) (k:=k+1) h hp λi x hi hx=>hb (i+1) x (by omega) hx]
  congr 1;omega
theorem Ab{α:Type}{p:α->Bool}:∀{l:List α} {k j:Nat},sS p l k=some j->∀i x,k+i < j->nth l i=some x->p x=false
 |[],k,j,h=>by simp[sS]at h
 |y::l,k,j,h=>by
  intro i x hi hx;simp only[sS]at h
  split at h
  ·cases h;omega
  ·rename_i hp;cases i with
   |zero=>cases hx;exact cT.2 hp
   |succ i=>exact Ab h i x (by omega) hx
theorem w8{α β:Type}(f:α->β):∀{l:List α},(l.map f).Nodup↔∀i j x y,i < j->nth l i=some x->nth l j=some y->f x≠f y
 |[]=>by simp[nth]
 |z::l=>by
  simp only[aQ,cd,w8 f (l:=l)]
  constructor
  ·rintro⟨h1,h2⟩ i j x y hij hx hy
   obtain⟨j,rfl⟩:∃m,j=m+1:=⟨j - 1,by omega⟩
   cases i with
   |zero=>cases hx;exact λe=>h1 (bQ.2 ⟨y,aT (l:=l) hy,e.symm⟩)
   |succ i=>exact h2 i j x y (by omega) hx hy
  ·intro h;refine⟨λhm=>?_,λi j x y hij hx hy=>h (i+1) (j+1) x y (by omega) hx hy⟩;obtain⟨y,hy,he⟩:=bQ.1 hm;obtain⟨j,hj⟩:=uu hy;exact h 0 (j+1) z y (by omega) rfl hj he.symm
theorem qf(l:List af):allI (λi n=>decide (fO l n.name=some i)) 0 l=true↔(l.map af.name).Nodup:=by
 rw[mi,w8];simp only[bm,decide_eq_true_eq]
 constructor
 ·intro h i j x y hij hx hy he;have h1:=h j y hy;have:=Ab h1 i x (by omega) hx;simp[he]at this
 ·intro h j x hx;have:=wB (p:=λe:af=>decide (e.name=x.name)) (k:=0) hx (by simp) λi y hi hy=>by simpa using h i j y x hi hy hx
  rw[bm]at this;exact this
theorem Mj{l:List af}(hn:(l.map af.name).Nodup)(k:ByteArray)(p:af->Bool):ue l (fO l k) (λx=>decide (x.kind=3) && p x)=ue l (jZ l k) p:=by
 cases h:jZ l k with
 |some j=>
  obtain⟨e,h1,h2⟩:=ef h;simp only[ab,decide_eq_true_eq]at h2;have:fO l k=some j:=by
   have:=wB (p:=λe:af=>decide (e.name=k)) (k:=0) h1 (by simp[h2.1]) λi y hi hy=>by
    have:=(w8 af.name).1 hn i j y e hi hy h1;rw[h2.1]at this
    simpa using this
   rw[bm]at this;exact this
  simp only[this,ue,h1,h2.2,decide_true,cB]
 |none=>
  cases h':fO l k with
  |none=>rfl
  |some j=>
   obtain⟨e,h1,h2⟩:=ef h';by_cases h3:e.kind=3
   ·have:(jZ l k).isSome=true:=by
     unfold jZ;rw[vd,kv];exact⟨e,aT h1,by simpa [h3] using h2⟩
    rw[h]at this;cases this
   ·simp only[ue,h1,h3,decide_false,er]
theorem U8{l:List af}(hn:(l.map af.name).Nodup)(k:ByteArray):BP l k=(jZ l k).isSome:=by
 have:=Mj hn k λ_=>true;simp only[fo]at this;rw[BP,this];cases h:jZ l k with
 |none=>rfl
 |some j=>
  obtain⟨e,h1,_⟩:=ef h;simp only[ue,h1,gP]
theorem U7{l:List af}(hn:(l.map af.name).Nodup)(k:ByteArray):Cn l k=tv l k:=Mj hn k NS
theorem A5{l:List af}(h:∀x∈l,isName x.name=true){k:ByteArray}(hk:(jZ l k).isSome=true):isName k=true:=by
 obtain⟨j,hj⟩:=bF.1 hk;obtain⟨e,h1,h2⟩:=ef hj;simp only[ab,decide_eq_true_eq]at h2;rw[<- h2.1];exact h e (aT h1)
theorem NR{l:List af}{k:ByteArray}(h:tv l k=true):(jZ l k).isSome=true:=by
 unfold tv ue at h
 split at h
 ·rename_i j hj;rw[hj];rfl
 ·cases h
theorem Io{l:List ByteArray}(h:∀k∈l,isName k=true):lr l=sq l:=by
 have:l.all isName=true:=aS.2 h;rw[lr,sq,this,fo,Bool.and_comm]
section
variable {ip:ByteArray->Bool} {mt:ByteArray->ByteArray->Bool}
theorem T4{n:af}(h:n.kind=2):(!nJ n && jD ip mt n)=(zT n.type && (!n.keys.isEmpty && (lr n.keys && (lr n.unique && (kG n && (!n.given && (!n.dY && (!n.cP && (!n.fixed && decide (n.default.size=0)))))))))):=by
 simp only[nJ,jD,h,lS];cases zT n.type<;>cases n.keys.isEmpty<;>cases lr n.keys<;>cases lr n.unique<;>cases kG n<;>cases n.given<;>cases n.dY<;>cases n.cP<;>cases n.fixed<;>cases decide (n.default.size=0)<;>rfl
theorem UO{n:af}{free:Bool}(h:¬(1<=n.kind/\n.kind<=6)):iZ ip mt n free=false:=by
 simp only[iZ];rw[if_neg (by omega),if_neg (by omega),if_neg (by omega),if_neg (by omega),if_neg (by omega),if_neg (by omega)]
theorem Rq{n:af}(h:¬(1<=n.kind/\n.kind<=6))(h7:n.kind≠7):jD ip mt n=false:=by
 simp only[jD];rw[if_neg (by omega),if_neg (by omega),if_neg (by omega),if_neg (by omega),if_neg (by omega),if_neg (by omega),if_neg h7]
theorem Mt{n:af}{bound:Bool}(hn:(n.kids.map af.name).Nodup)(hk:∀x∈n.kids,isName x.name=true) :
  (Bd ip mt n (!bound)=true)↔vv ip mt n=true/\n.kind≠7/\(n.given && bound)=false/\n.keys.all (tv n.kids)=true/\n.unique.all (λu=>(jZ n.kids u).isSome)=true:=by
 unfold Bd vv;cases C6 n with
 |false=>simp
 |true=>
  simp only[cB];by_cases h2:n.kind=2
  ·have e1:n.keys.all (Cn n.kids)=n.keys.all (tv n.kids):=by congr 1;funext k;exact U7 hn k
   have e2:n.unique.all (BP n.kids)=n.unique.all (λu=>(jZ n.kids u).isSome):=by congr 1;funext k;exact U8 hn k
   rw[T4 h2];have e3:iZ ip mt n (!bound)=Dl n:=by simp only[iZ,h2];rfl
   rw[e3,Dl,e1,e2];cases h3:n.keys.all (tv n.kids) with
   |false=>simp
   |true=>
    cases h4:n.unique.all (λu=>(jZ n.kids u).isSome) with
    |false=>simp
    |true=>
     have k1:=Io (l:=n.keys) λk gf=>A5 hk (NR (aS.1 h3 k gf));have k2:=Io (l:=n.unique) λk gf=>A5 hk (aS.1 h4 k gf);rw[k1,k2,h2];cases n.given<;>simp
  ·by_cases hr:1<=n.kind/\n.kind<=6
   ·have hd:lS n.kind=decide (n.kind<=4):=by
     by_cases h:n.kind<=4
     ·rw[decide_eq_true h];exact (fJ _ _ _).2 ⟨hr.1,h⟩
     ·rw[decide_eq_false h];exact cT.2 λh'=>h ((fJ _ _ _).1 h').2
    cases hK:n.keys with
    |cons a l=>
     have:nJ n=true:=by simp[nJ,h2,hK]
     have hb:iZ ip mt n (!bound)=false:=by simp[iZ,h2,oC,AZ,H0,hK]
     simp[this,hb]
    |nil=>
     cases hU:n.unique with
     |cons a l=>
      have:nJ n=true:=by simp[nJ,h2,hU]
      have hb:iZ ip mt n (!bound)=false:=by simp[iZ,h2,oC,AZ,H0,hU]
      simp[this,hb]
     |nil=>
      have h7:n.kind≠7:=by omega
      have hb:iZ ip mt n (!bound)=(!nJ n && (jD ip mt n && !(n.given && bound))):=by
       simp only[nJ,iZ,jD,oC,AZ,H0,hK,hU,hd,gK,cB,fo];obtain⟨h1,h6⟩:=hr;have hc:n.kind=1\/n.kind=3\/n.kind=4\/n.kind=5\/n.kind=6:=by omega
       rcases hc with h|h|h|h|h<;>simp only[h]<;>generalize zT n.type=z<;>generalize isType ip n.type=t<;>generalize isVal ip mt n.type n.default=v<;>generalize n.when.isEmpty=w<;>generalize n.hX.isEmpty=u<;>generalize n.kids.isEmpty=q<;>generalize kG n=o<;>generalize decide (n.default.size=0)=d<;>generalize decide (n.min=0)=m<;>generalize decide (n.max=0)=x<;>generalize n.given=g<;>generalize n.fixed=f<;>generalize n.dY=e<;>generalize n.cP=p
       ·cases z<;>cases d<;>cases m<;>cases x<;>cases g<;>cases f<;>cases e<;>cases bound<;>rfl
       ·cases t<;>cases v<;>cases w<;>cases q<;>cases d<;>cases m<;>cases x<;>cases g<;>cases e<;>cases p<;>cases bound<;>rfl
       ·cases t<;>cases o<;>cases q<;>cases d<;>cases g<;>cases f<;>cases e<;>cases p<;>cases bound<;>rfl
       ·cases z<;>cases d<;>cases m<;>cases x<;>cases g<;>cases f<;>cases u<;>cases p<;>cases bound<;>rfl
       ·cases z<;>cases d<;>cases m<;>cases x<;>cases g<;>cases f<;>cases e<;>cases u<;>cases p<;>cases bound<;>rfl
      rw[hb];cases n.given<;>simp[h7,and_assoc]
   ·rw[UO hr];by_cases h7:n.kind=7
    ·simp[h7]
    ·rw[Rq hr h7];simp
theorem Ap{m:Nat}{l:List af}{k:Int}{b:Bool}(h:tw ip mt m l k b=true):(l.map af.name).Nodup/\∀x∈l,isName x.name=true:=by
 cases m with
 |zero=>cases h
 |succ m=>
  simp only[tw,ab,aS]at h;refine⟨(pv _).1 h.1.1,λx hx=>?_⟩;have:=(h.2 x hx).1;simp only[vv,C6,ab]at this;exact this.1.1
theorem yM:∀(l:List af) (N:Nat),qe l<=N↔∀x∈l,1+qe x.kids<=N
 |[],N=>by simp[qe]
 |e::l,N=>by rw[qe,Nat.max_le,yM l N];simp
theorem PY{l:List af}:qe l=0↔l=[]:=by
 cases l with
 |nil=>simp[qe]
 |cons e l=>rw[qe];simp
theorem CA(n:af)(bound:Bool):tO n (!bound)=!(bound ||(!n.when.isEmpty ||decide (n.kind=6))):=by
 unfold tO;cases bound<;>cases n.when.isEmpty<;>cases decide (n.kind=6)<;>rfl
theorem Xw{l:List af}{n:af}(hn:n∈l)(hc:n7 n.kind=true):(dk n.kids).Sublist (dk l):=by
 induction l with
 |nil=>cases hn
 |cons e l ih=>
  rw[ou];rcases ay.1 hn with rfl|h
  ·have:xM n=dk n.kids:=by
    unfold xM;rw[if_neg,if_pos hc];intro h;have:=(W0 h).1;rw[hc]at this;cases this
   rw[this];exact List.sublist_append_left _ _
  ·exact (ih h).trans (List.sublist_append_right _ _)
theorem YA:∀(m:Nat) (l:List af) (k:Int) (bound:Bool) (deep:Nat),ah l < m->1<=deep->
  (Aq ip mt m l k (!bound) deep=true↔tw ip mt m l k bound=true/\((dk l).map af.name).Nodup/\(qe l=0\/deep+qe l<=9)):=by
 intro m
 induction m with
 |zero=>intro l k bound deep h;omega
 |succ m ih=>
  intro l k bound deep hz hd;have ihk:∀n∈l,∀b,(Aq ip mt m n.kids n.kind (!b) (deep+1)=true↔tw ip mt m n.kids n.kind b=true/\((dk n.kids).map af.name).Nodup/\(qe n.kids=0\/deep+1+qe n.kids<=9)):=λn hn b=>
   ih n.kids n.kind b (deep+1) (by have:=aW hn;have:=af.fv n;omega) (by omega)
  constructor
  ·intro h;simp only[Aq,ab]at h;obtain⟨h1,h2,h3⟩:=h;rw[mi]at h1;simp only[bm,ab,decide_eq_true_eq]at h1;have hN:(l.map af.name).Nodup:=(qf l).1 (by rw[mi];intro j x hx;rw[bm,decide_eq_true_eq];exact (h1 j x hx).1);have hD:=(qf (dk l)).1 h2;have hx:∀n∈l,(decide (k=5)=decide (n.kind=6))/\(vv ip mt n=true/\n.kind≠7/\(n.given && bound)=false/\n.keys.all (tv n.kids)=true/\n.unique.all (λu=>(jZ n.kids u).isSome)=true)/\tw ip mt m n.kids n.kind (bound ||(!n.when.isEmpty ||decide (n.kind=6)))=true/\(qe n.kids=0\/deep+1+qe n.kids<=9):=by
    intro n hn;obtain⟨j,hj⟩:=uu hn;obtain⟨_,a2,a3,a4⟩:=h1 j n hj;rw[CA]at a4;obtain⟨b1,_,b3⟩:=(ihk n hn _).1 a4;obtain⟨c1,c2⟩:=Ap b1;exact⟨a2,(Mt c1 c2).1 a3,b1,b3⟩
   refine⟨?_,hD,?_⟩
   ·simp only[tw,ab,aS];refine⟨⟨(pv _).2 hN,by rw[dD];exact .inr ((pv _).2 hD)⟩,λn hn=>?_⟩;obtain⟨a1,⟨a2,a3,a4,a5,a6⟩,a7,_⟩:=hx n hn;exact⟨a2,by simpa using a3,by rw[decide_eq_true_eq];exact a1.symm,by rw[a4];rfl,aS.1 a5,aS.1 a6,a7⟩
   ·by_cases hl:l=[]
    ·exact .inl (PY.2 hl)
    ·have h8:deep<=8:=by
      cases l with
      |nil=>exact absurd rfl hl
      |cons e l=>simpa using h3
     have:=(yM l (9 - deep)).2 λn hn=>by
      obtain⟨_,_,_,a⟩:=hx n hn;omega
     omega
  ·rintro⟨h1,hD,h3⟩
   simp only[tw,ab,aS]at h1;obtain⟨⟨hN,hC⟩,hx⟩:=h1;have hN':=(pv _).1 hN;have Ws:∀n∈l,deep+(1+qe n.kids)<=9:=by
    intro n hn;rcases h3 with h3|h3
    ·rw[PY.1 h3]at hn;cases hn
    ·have:=(yM l (9 - deep)).1 (by omega) n hn;omega
   simp only[Aq,ab];refine⟨?_,(qf (dk l)).2 hD,?_⟩
   ·rw[mi];intro j n hj;have hn:=aT hj;obtain⟨a1,a2,a3,a4,a5,a6,a7⟩:=hx n hn;obtain⟨c1,c2⟩:=Ap a7;have hf:=(qf l).2 hN';rw[mi]at hf;simp only[ab];refine⟨hf j n hj,by rw[decide_eq_true_eq]at a3 ⊢;exact a3.symm,(Mt c1 c2).2 ⟨a1,by simpa using a2,by cases hg:n.given<;>cases bound<;>simp_all,aS.2 a5,aS.2 a6⟩,?_⟩;rw[CA];refine (ihk n hn _).2 ⟨a7,?_,.inr (by have:=Ws n hn;omega)⟩;cases hc:n7 n.kind with
    |true=>exact List.Nodup.sublist ((Xw hn hc).map _) hD
    |false=>
     cases m with
     |zero=>cases a7
     |succ m=>
      simp only[tw,ab,hc,iM]at a7;exact (pv _).1 a7.1.2
   ·rcases h3 with h3|h3
    ·rw[PY.1 h3];simp
    ·cases l with
     |nil=>simp
     |cons e l=>
      have:=Ws e eu;have:deep<=8:=by omega
      simp[this]
noncomputable def C8(ip:ByteArray->Bool)(mt:ByteArray->ByteArray->Bool)(l:List af):Bool:=decide (dq l<=60) && Aq ip mt (ah l+1) l 0 true 1
theorem UM(l:List af):C8 ip mt l=(decide (dq l<=60) && (decide (qe l<=8) && tw ip mt (ah l+1) l 0 false)):=by
 have h:=YA (ip:=ip) (mt:=mt) (ah l+1) l 0 false 1 (aO _) (aj _);rw[kb]at h;unfold C8
 congr 1
 rw[dC,h,ab,decide_eq_true_eq]
 constructor
 ·rintro⟨a,_,c⟩
  exact⟨by omega,a⟩
 ·rintro⟨a,b⟩
  refine⟨b,?_,by omega⟩;simp only[tw,ab,n7,dD,decide_eq_true_eq]at b;rcases b.1.2 with h|h
  ·rcases h with h|h<;>omega
  ·exact (pv _).1 h
end
end
section
abbrev PR:=Option (cy×Nat)
abbrev eT:ByteArray:=⟨#[]⟩
def fW(s:ByteArray)(i:Nat)(b:Int):Bool:=decide (i < s.size) && decide (da s i=b)
def T5(f:Nat->Bool):ByteArray:=bA (((bE 256).filter f).map cL)
def M8:ByteArray:=T5 λx=>decide (32<=x) && decide (x<=126)
def nn(r:List (Int×Int))(x:Nat):Bool:=r.any λp=>decide (p.1<=(x:Int)) && decide ((x:Int)<=p.2)
def ZJ(r:List (Int×Int)):ByteArray:=T5 (nn r)
def oY(s:ByteArray)(i:Nat):Option ((Int×Int)×Nat):=
 if (decide (i < s.size) && Jp (da s i))=true then
  if fW s (i+1) 126=true then
   if (decide (i+2 < s.size) && (Jp (da s (i+2)) && decide (da s i<=da s (i+2))))=true then some ((da s i,da s (i+2)),i+3) else none
  else some ((da s i,da s i),i+1)
 else none
def gm(s:ByteArray):Nat->Nat->Option (List (Int×Int)×Nat)
 |0,_=>none
 |f+1,i=>if fW s i 93=true then some ([],i+1) else match oY s i with
  |some (r,j)=>(gm s f j).map λp=>(r::p.1,p.2)
  |none=>none
def Ir(s:ByteArray)(i:Nat):PR:=match gm s (s.size+1) i with
 |some (r::l,k)=>some (⟨1,ZJ (r::l),[]⟩,k)
 |_=>none
def YS(b:Int):Bool:=fg 97 122 b ||(fg 48 57 b ||decide (b=45))
def Bm(b:Int):ByteArray:=bA [cL b.toNat]
def tK(alt:Nat->PR)(s:ByteArray)(i:Nat):PR:=
 if fW s i 40=true then (match alt (i+1) with
  |some (p,j)=>if fW s j 41=true then some (p,j+1) else none
  |none=>none)
 else if fW s i 91=true then Ir s (i+1)
 else if fW s i 46=true then some (⟨1,M8,[]⟩,i+1)
 else if (decide (i < s.size) && YS (da s i))=true then some (⟨1,Bm (da s i),[]⟩,i+1)
 else none
def Bt(s:ByteArray)(p:cy)(j:Nat):cy×Nat:=
 if fW s j 42=true then (⟨4,eT,[p]⟩,j+1)
 else if fW s j 43=true then (⟨2,eT,[p,⟨4,eT,[p]⟩]⟩,j+1)
 else if fW s j 63=true then (⟨5,eT,[p]⟩,j+1)
 else (p,j)
def pN(alt:Nat->PR)(s:ByteArray)(i:Nat):PR:=(tK alt s i).map λp=>Bt s p.1 p.2
def sv(s:ByteArray)(i:Nat):Bool:=decide (i < s.size) && (!decide (da s i=124) && !decide (da s i=41))
def su(alt:Nat->PR)(s:ByteArray):Nat->Nat->Option (List cy×Nat)
 |0,_=>none
 |f+1,i=>if sv s i=true then match pN alt s i with
   |some (p,j)=>(su alt s f j).map λq=>(p::q.1,q.2)
   |none=>none
  else some ([],i)
def pR(op:Int):List cy->cy
 |[p]=>p
 |l=>⟨op,eT,l⟩
def yz(alt:Nat->PR)(s:ByteArray)(i:Nat):PR:=(su alt s (s.size+1) i).map λq=>(pR 2 q.1,q.2)
def xZ(alt:Nat->PR)(s:ByteArray):Nat->Nat->Option (List cy×Nat)
 |0,_=>none
 |f+1,i=>if fW s i 124=true then match yz alt s (i+1) with
   |some (p,j)=>(xZ alt s f j).map λq=>(p::q.1,q.2)
   |none=>none
  else some ([],i)
def Br(alt:Nat->PR)(s:ByteArray)(i:Nat):PR:=match yz alt s i with
 |some (p,j)=>(xZ alt s (s.size+1) j).map λq=>(pR 3 (p::q.1),q.2)
 |none=>none
def Ow(s:ByteArray):Nat->Nat->PR
 |0,_=>none
 |f+1,i=>Br (Ow s f) s i
def x_(s:ByteArray):Option cy:=if 30 < s.size then none else match Ow s (s.size+1) 0 with
 |some (p,k)=>if k=s.size then some p else none
 |none=>none
def uv(n:Nat)(p:cy):Bool:=(decide (p.kids.length<=n) && decide (p.text.size<=256)) && p.kids.attach.all λq=>uv n q.1
termination_by ah p
decreasing_by exact cy.JY q.2
theorem FG(n:Nat)(p:cy):uv n p=((decide (p.kids.length<=n) && decide (p.text.size<=256)) && p.kids.all (uv n)):=by
 rw[uv]
 congr 1
 rw[dC,aS,aS];exact⟨λh x hx=>h ⟨x,hx⟩ (List.mem_attach _ _),λh x _=>h x.1 x.2⟩
theorem zd{n:Nat}{p q:cy}(h:uv n p=true)(hq:q∈p.kids):uv n q=true:=by
 rw[FG,ab,aS]at h;exact h.2 q hq
theorem ze{n:Nat}{p:cy}(h:uv n p=true):p.kids.length<=n:=by
 rw[FG,ab,ab,decide_eq_true_eq]at h;exact h.1.1
theorem Vm{n:Nat}{p:cy}(h:uv n p=true):p.text.size<=256:=by
 rw[FG,ab,ab,decide_eq_true_eq,decide_eq_true_eq]at h;exact h.1.2
theorem uw{n:Nat}{op:Int}{t:ByteArray}{l:List cy}(ht:t.size<=256)(h:l.length<=n)(hl:∀q∈l,uv n q=true):uv n ⟨op,t,l⟩=true:=by
 rw[FG,ab,ab,decide_eq_true_eq,decide_eq_true_eq,aS];exact⟨⟨h,ht⟩,hl⟩
theorem xO:eT.size<=256:=qH _
theorem sG{n:Nat}{op:Int}:∀{l:List cy},l.length<=n->(∀q∈l,uv n q=true)->uv n (pR op l)=true
 |[p],_,h=>h p (ct.2 rfl)
 |[],h,hl=>uw xO h hl
 |_::_::_,h,hl=>uw xO h hl
theorem MD{n:Nat}(h2:2<=n){s:ByteArray}{p:cy}(j:Nat)(h:uv n p=true):uv n (Bt s p j).1=true:=by
 unfold Bt;have h4:uv n ⟨4,eT,[p]⟩=true:=uw xO (by simp;omega) (by simpa using h);have h5:uv n ⟨5,eT,[p]⟩=true:=uw xO (by simp;omega) (by simpa using h);have h2:uv n ⟨2,eT,[p,⟨4,eT,[p]⟩]⟩=true:=uw xO (by simpa using h2) (by simp[h,h4]);split
 ·exact h4
 split
 ·exact h2
 split
 ·exact h5
 ·exact h
theorem MB(s:ByteArray)(p:cy)(j:Nat):j<=(Bt s p j).2/\(j<=s.size->(Bt s p j).2<=s.size):=by
 unfold Bt;have hl:∀b,fW s j b=true->j < s.size:=λb h=>by simp only[fW,ab,decide_eq_true_eq]at h;exact h.1
 split
 ·rename_i h;have:=hl _ h;exact⟨by simp,λ_=>this⟩
 split
 ·rename_i h;have:=hl _ h;exact⟨by simp,λ_=>this⟩
 split
 ·rename_i h;have:=hl _ h;exact⟨by simp,λ_=>this⟩
 ·exact⟨aj _,λh=>h⟩
theorem v7(f:Nat->Bool):(T5 f).size<=256:=by
 have:=tC f (bE 256);simp only[T5,oh,au,List.length_range]at this ⊢;exact this
theorem lj{s:ByteArray}{i:Nat}{b:Int}(h:fW s i b=true):i < s.size:=by simp only[fW,ab,decide_eq_true_eq]at h;exact h.1
end
section
def hasB(t:ByteArray)(b:Int):Bool:=(bE t.size).any λk=>decide (da t k=b)
def IZ(t s:ByteArray)(a:List Bool):List Bool:=false::(bE s.size).map λi=>(nth a i).getD false && hasB t (da s i)
def yf(f:List Bool->List Bool):Nat->List Bool->List Bool
 |0,x=>x
 |n+1,x=>if cG x (f x)=x then x else yf f n (cG x (f x))
def Bl{α β:Type}(l:List α)(a:β)(g:α->β):β:=match l with
 |[k]=>g k
 |_=>a
theorem FE{α β:Type}{l:List α}{a:β}{g:α->β}(h:l.length≠1):Bl l a g=a:=by
 unfold Bl;split
 ·exact absurd rfl h
 ·rfl
theorem FD{α β:Type}(k:α)(a:β)(g:α->β):Bl [k] a g=g k:=(rfl)
def G_(f:cy->List Bool->List Bool)(s:ByteArray)(p:cy)(a:List Bool):List Bool:=
 if p.op=1 then IZ p.text s a
 else if p.op=2 then p.kids.foldl (λo k=>f k o) a
 else if p.op=3 then p.kids.foldl (λo k=>cG o (f k a)) (aE (s.size+1) false)
 else if p.op=4 then Bl p.kids a λk=>yf (f k) (s.size+2) a
 else if p.op=5 then Bl p.kids a λk=>cG a (f k a)
 else aE (s.size+1) false
def gC(s:ByteArray):Nat->cy->List Bool->List Bool
 |0,_,a=>a
 |n+1,p,a=>G_ (gC s n) s p a
noncomputable def J4(p:cy)(s:ByteArray):Bool:=(nth (gC s (ah p+1) p (true::aE s.size false)) s.size).getD false
noncomputable def Fw(t s:ByteArray):Bool:=match x_ t with
 |some p=>J4 p s
 |none=>false
def ll(t:ByteArray):Bool:=(x_ t).isSome
theorem DO{f:List Bool->List Bool}:∀(n:Nat) (x:List Bool),(yf f n x).length=x.length
 |0,x=>rfl
 |n+1,x=>by
  simp only[yf];split
  ·rfl
  ·rw[DO n,iI]
theorem D6(t s:ByteArray)(a:List Bool):(IZ t s a).length=s.size+1:=by simp[IZ]
theorem No{f:cy->List Bool->List Bool}{s:ByteArray}{p:cy}{a:List Bool}(hf:∀k∈p.kids,∀b:List Bool,b.length=s.size+1->(f k b).length=s.size+1)(ha:a.length=s.size+1):(G_ f s p a).length=s.size+1:=by
 unfold G_;have h2:∀(l:List cy) (b:List Bool),(∀k∈l,k∈p.kids)->b.length=s.size+1->(l.foldl (λo k=>f k o) b).length=s.size+1:=by
  intro l
  induction l with
  |nil=>intro b _ h;exact h
  |cons k l ih=>intro b hl h;exact ih _ (λx hx=>hl x (cz _ hx)) (hf k (hl k eu) b h)
 have h3:∀(l:List cy) (b:List Bool),b.length=s.size+1->(l.foldl (λo k=>cG o (f k a)) b).length=s.size+1:=by
  intro l
  induction l with
  |nil=>intro b h;exact h
  |cons k l ih=>intro b h;exact ih _ (by rw[iI];exact h)
 split
 ·exact D6 _ _ _
 split
 ·exact h2 _ _ (λ_ h=>h) ha
 split
 ·exact h3 _ _ (by simp)
 split
 ·unfold Bl;split
  ·rw[DO];exact ha
  ·exact ha
 split
 ·unfold Bl;split
  ·rw[iI];exact ha
  ·exact ha
 ·simp
theorem px{s:ByteArray}:∀(n:Nat) (p:cy) (a:List Bool),a.length=s.size+1->(gC s n p a).length=s.size+1
 |0,_,_,h=>h
 |n+1,p,a,h=>No (λk _ b hb=>px n k b hb) h
def outs:List Bool->Nat
 |[]=>0
 |b::l=>(if b then 0 else 1)+outs l
theorem FF:∀(l:List Bool),outs l<=l.length
 |[]=>aj _
 |b::l=>by have:=FF l;cases b<;>simp[outs]<;>omega
theorem ud:∀(x y:List Bool),outs (cG x y)<=outs x/\(cG x y≠x->outs (cG x y) < outs x)
 |[],y=>by cases y<;>simp[cG,outs]
 |b::x,[]=>by simp[cG,outs]
 |b::x,c::y=>by
  obtain⟨h1,h2⟩:=ud x y;refine⟨by cases b<;>cases c<;>simp[cG,outs]<;>omega,λh=>?_⟩;cases b<;>cases c<;>simp_all[cG,outs]<;>omega
theorem C3:∀(x y:List Bool),lb x y=!decide (cG x y=x)
 |[],y=>by cases y<;>simp[cG,lb]
 |b::x,[]=>by simp[cG,lb]
 |b::x,c::y=>by
  have:=C3 x y;cases b<;>cases c<;>simp_all[cG,lb]
end
section
theorem kq{s:ByteArray}{i:Nat}{b:Int}:fW s i b=true↔i < s.size/\da s i=b:=by simp[fW]
theorem LR{s:ByteArray}{i:Nat}{b:Int}(h:fW s i b=false)(hi:i < s.size):¬da s i=b:=by
 intro h';rw[kq.2 ⟨hi,h'⟩]at h;cases h
theorem o7{s:ByteArray}{i:Nat}{c:Int}(hs:s.size<=mg)(h:fW s i c=true):G 216 [.str s,.int .i64 (i:Int),.bool false,.int .u8 c]=some (0,[.bool true,.str s,.int .i64 ((i+1:Nat):Int),.bool false]):=by
 obtain⟨hi,hb⟩:=kq.1 h;have hw:=wj hi hs;refine bY VB rfl ?_;simp only[go_sem,t216,hi,hb,ek _ _ hi,hw]
theorem o6{s:ByteArray}{i:Nat}{c:Int}(h:fW s i c=false):G 216 [.str s,.int .i64 (i:Int),.bool false,.int .u8 c]=some (0,[.bool false,.str s,.int .i64 (i:Int),.bool false]):=by
 refine bY VB rfl ?_;by_cases hi:i < s.size
 ·have hb:=LR h hi;simp only[go_sem,t216,hi,hb,ek _ _ hi]
 ·simp only[go_sem,t216,hi]
theorem FI{s:ByteArray}{i c:Int}:G 216 [.str s,.int .i64 i,.bool true,.int .u8 c]=some (0,[.bool false,.str s,.int .i64 i,.bool true]):=by
 refine bY VB rfl ?_;simp only[go_sem,t216]
abbrev hB(f:Nat->Bool):D:=.list 1 true ((bE 256).map λx=>[D.bool (f x)])
abbrev bL(f:Nat->Bool)(n:Nat):D:=.list 1 true (((bE n).filter f).map λx:Nat=>[D.int .u8 (x:Int)])
theorem J9{α:Type}{f:Nat->α}{n x:Nat}(h:x < n):nth ((bE n).map f) x=some (f x):=by
 rw[cU];simp[h]
theorem QP{f:Nat->Bool}{x:Nat}(h:x < 256):aJ .kQ [hB f,.int .i64 (x:Int)]=some (.bool false):=lu _ _ _ _ (by simpa using h)
theorem XP{f:Nat->Bool}{x:Nat}(h:x < 256):aJ (.nk 1 0 1 true) [hB f,.int .i64 (x:Int)]=some (.list 0 false [[.bool (f x)]]):=by
 simp only[aJ,cE,J9 h];simp[cQ,D.plain]
theorem XQ{f:Nat->Bool}{x:Nat}(h:x < 256):aJ (.set 0) [hB f,.int .i64 (x:Int),.bool true]=some (hB λy=>f y ||decide (x=y)):=by
 simp only[aJ,cE,J9 h];rw[if_pos ⟨by simp,λ_=>by simp[cQ,D.plain]⟩]
 congr 2
 apply List.ext_getElem (by simp)
 intro i h1 h2;simp only[au,List.length_range]at h2;rw[List.getElem_set];simp only[List.getElem_map,List.getElem_range];by_cases hx:x=i
 ·subst hx;simp[fR]
 ·simp[hx]
theorem Uo:aJ (.make 1 1 true [zB false]) [.int .i64 256]=some (hB λ_=>false):=by
 have:(bE 256).map (λx:Nat=>[D.bool ((λ_=>false) x)])=aE 256 [D.bool false]:=by
  rw[nY];simp
 simp only[hB,this];rfl
theorem Ki:aJ (.dV 1 true) []=some (.list 1 true []):=tj 1 true
theorem rP(f:Nat->Bool)(n:Nat):(bE (n+1)).filter f=(bE n).filter f++(if f n=true then [n] else []):=by
 rw[List.range_succ,List.filter_append]
 congr 1
 by_cases h:f n=true<;>simp[h]
theorem Pp{f:Nat->Bool}{n:Nat}(hn:n < 256)(h:f n=true):aJ (.app 1 1) [bL f n,.list 1 true [[.int .u8 (n:Int)]]]=some (bL f (n+1)):=by
 have hl:((bE n).filter f).length<=n:=by have:=tC f (bE n);simpa using this
 rw[Kh _ _ _ _ _ (by simp only[au,az,aK,room,maxLen];omega)];simp only[bL,rP,h,if_true,dd,aQ,dB]
theorem aaG{f:Nat->Bool}{n:Nat}(h:f n=false):bL f (n+1)=bL f n:=by
 simp only[bL,rP,h,av,if_false,aG]
theorem xJ:∀(l:List Nat),bytesOf (l.map λx:Nat=>[D.int .u8 (x:Int)])=some (l.map λx:Nat=>(x:Int))
 |[]=>rfl
 |x::l=>by simp only[aQ,bytesOf,xJ l,aD]
theorem Pq{f:Nat->Bool}{n:Nat}:aJ .yk [bL f n]=some (.str (bA (((bE n).filter f).map cL))):=by
 simp only[bL,aJ,xJ,aD,List.map_map,bA];rfl
theorem Xm{f:Nat->Bool}{n:Nat}(hn:n<=256)(h:∀x,n<=x->f x=false):bA (((bE n).filter f).map cL)=T5 f:=by
 have:∀m,(bE (n+m)).filter f=(bE n).filter f:=by
  intro m
  induction m with
  |zero=>rfl
  |succ m ih=>rw[<- du,rP,h (n+m) (by omega),ih];simp
 have h2:=this (256 - n);rw[show n+(256 - n)=256 by omega]at h2;rw[T5,h2]
theorem Le{x:Nat}(h:x < 256):IntKind.u8.wrap (x:Int)=(x:Int):=wrap_u8 (by omega)
theorem BS{x:Nat}(h:x<=mg):IntKind.i64.wrap (x:Int)=(x:Int):=wrap_i64 (by simp only[mg]at h;omega)
theorem mkU(x:Int):aJ (.dV 1 true) [.int .u8 x]=some (.list 1 true [[.int .u8 x]]):=qz .u8 x
abbrev Cb(x:Nat):Bool:=decide (32<=x) && decide (x<=126)
theorem n32:((32:Nat):Int)=32:=(rfl)
theorem n127:((127:Nat):Int)=127:=(rfl)
theorem n256:((256:Nat):Int)=256:=(rfl)
theorem bL0(f:Nat->Bool):bL f 0=.list 1 true []:=(rfl)
theorem agn:bL Cb 32=.list 1 true []:=by
 have:(bE 32).filter Cb=[]:=by decide
 simp only[bL,this,dB]
theorem ahF:G 221 []=some (0,[.str M8]):=by
 refine bY aed rfl ?_;have hl:=En (b:=lB G AE) (λi=>(0,[.int .i64 ((i:Nat):Int),bL Cb i])) (λi=>if 32<=i then none else some (0,[])) 127 (0,[.int .i64 127,.bool false,bL Cb 127]);have Q1:∀m i,i+m=127->32<=i->bR (lB G AE) (0,[.int .i64 ((i:Nat):Int),bL Cb i])=some (0,[.int .i64 127,.bool false,bL Cb 127]):=by
  intro m
  induction m with
  |zero=>
   intro i h _;obtain rfl:i=127:=by omega
   refine bk ?_;simp only[go_sem,bl,AE,n127]
  |succ m ih=>
   intro i h hi;refine (cF ?_).trans (ih (i+1) (by omega) (by omega));have h1:(i:Int) < 127:=by omega
   have h2:=Le (x:=i) (by omega);have h3:=Pp (f:=Cb) (n:=i) (by omega) (by simp[Cb];omega);have h4:=wj (i:=i) (n:=127) (by omega) (by decide);simp only[go_sem,bl,AE,h1,h2,h3,h4,mkU]
 have Wy:=Q1 95 32 rfl (by omega);rw[agn,n32]at Wy;have h5:=Pq (f:=Cb) (n:=127);rw[Xm (by decide) (λx hx=>by simp[Cb];omega)]at h5;simp only[go_sem,t221,Wy,Ki,h5];rfl
theorem L0:Rr=ug:=(rfl)
theorem L1:Rs=ug:=(rfl)
theorem L3:Ru=ug:=(rfl)
theorem US:Rv=wP:=(rfl)
theorem wO{e op tx s i b:D}{z:Nat}(hz:z < 256):∀(m x:Nat) (f:Nat->Bool),x+m=z+1->
  bR (lB G ug) (0,[e,.int .u8 (z:Int),.int .i64 (x:Int),op,tx,s,i,b,hB f])=some (0,[e,.int .u8 (z:Int),.int .i64 ((z+1:Nat):Int),.bool false,op,tx,s,i,b,hB λy=>f y ||(decide (x<=y) && decide (y<=z))])
 |0,x,f,h=>by
  obtain rfl:x=z+1:=by omega
  have h1:decide (((z+1:Nat):Int)<=(z:Int))=false:=by simp only[decide_eq_false_iff_not];omega
  have h2:=BS (x:=z) (by simp only[mg];omega);have h3:(λy=>f y ||(decide (z+1<=y) && decide (y<=z)))=f:=by
   funext y
   by_cases h:z+1<=y
   ·have:¬y<=z:=by omega
    simp[h,this]
   ·simp[h]
  rw[h3];refine bk ?_;simp only[go_sem,bl,ug,h1,h2]
 |m+1,x,f,h=>by
  refine (cF ?_).trans ((wO (e:=e) (op:=op) (tx:=tx) (s:=s) (i:=i) (b:=b) hz m (x+1) (λy=>f y ||decide (x=y)) (by omega)).trans ?_)
  ·have h1:decide ((x:Int)<=(z:Int))=true:=by simp only[decide_eq_true_eq];omega
   have h2:=BS (x:=z) (by simp only[mg];omega);have h4:=wj (i:=x) (n:=256) (by omega) (by decide);simp only[go_sem,bl,ug,h1,h2,h4,QP (f:=f) (x:=x) (by omega),XQ (f:=f) (x:=x) (by omega)]
  ·have he:(λy=>(λy=>f y ||decide (x=y)) y ||(decide (x+1<=y) && decide (y<=z)))=λy=>f y ||(decide (x<=y) && decide (y<=z)):=by
    funext y
    by_cases h1:x=y
    ·subst h1;have:x<=z:=by omega
     simp[this]
    ·by_cases h2:x<=y
     ·have:x+1<=y:=by omega
      simp[h1,h2,this]
     ·have:¬x+1<=y:=by omega
      simp[h1,h2,this]
   rw[he]
theorem Db{op tx s i b:D}{f:Nat->Bool}:∀(m x:Nat),x+m=256->
  bR (lB G wP) (0,[.int .i64 (x:Int),op,tx,s,i,b,hB f,bL f x])=some (0,[.int .i64 256,.bool false,op,tx,s,i,b,hB f,bL f 256])
 |0,x,h=>by
  obtain rfl:x=256:=by omega
  refine bk ?_;simp only[go_sem,bl,wP,n256,eA]
 |m+1,x,h=>by
  refine (cF ?_).trans (Db m (x+1) (by omega));have h1:(x:Int) < 256:=by omega
  have h2:=QP (f:=f) (x:=x) (by omega);have h3:=XP (f:=f) (x:=x) (by omega);have h4:=wj (i:=x) (n:=256) (by omega) (by decide);have h5:=Le (x:=x) (by omega);cases hf:f x with
  |false=>
   rw[aaG hf];rw[hf]at h3;simp only[go_sem,bl,wP,h1,h2,h3,h4]
  |true=>
   rw[hf]at h3;simp only[go_sem,bl,wP,h1,h2,h3,h4,h5,mkU,Pp (f:=f) (n:=x) (by omega) hf]
theorem mw(a b:Nat):decide ((a:Int)<=(b:Int))=decide (a<=b):=by apply decide_eq_decide.2;omega
theorem uQ(s:ByteArray)(i:Nat):∃a:Nat,a < 256/\da s i=(a:Int):=by
 have:=pX s i;exact⟨(da s i).toNat,by omega,by omega⟩
def jk(e:D)(s:ByteArray)(i:Nat)(f:Nat->Bool):Option (D×D)->Nat×List D
 |none=>(0,[e,.int .i64 0,.str ⟨#[]⟩,.str s,.int .i64 (i:Int),.bool false,hB f])
 |some (u,v)=>(1,[e,u,v,.bool false,.int .i64 0,.str ⟨#[]⟩,.str s,.int .i64 (i:Int),.bool false,hB f])
theorem Ys(f:Nat->Bool)(a:Nat)(l:List (Int×Int)):(λy:Nat=>(f y ||(decide (a<=y) && decide (y<=a))) ||nn l y)=λy=>f y ||nn (((a:Int),(a:Int))::l) y:=by
 funext y
 simp only[nn,kS,fT]
 congr 3<;>simp
theorem Rd(f:Nat->Bool)(a z:Nat)(l:List (Int×Int)):(λy:Nat=>(f y ||(decide (a<=y) && decide (y<=z))) ||nn l y)=λy=>f y ||nn (((a:Int),(z:Int))::l) y:=by
 funext y
 simp only[nn,kS,fT]
 congr 3<;>simp
def Vz(e:D)(s:ByteArray)(i:Nat)(f:Nat->Bool)(r:Option (List (Int×Int)×Nat))(o:Nat×List D):Prop:=match r with
 |some (l,k)=>i+1+l.length<=k/\k<=s.size/\o=(1,[e,.bool false,.int .i64 0,.str ⟨#[]⟩,.str s,.int .i64 (k:Int),.bool false,hB λy=>f y ||nn l y])
 |none=>∃k:Nat,i<=k/\k<=s.size/\o=(0,[.int .i64 0,.str ⟨#[]⟩,.str s,.int .i64 (k:Int),.bool true])
theorem NY{e:D}{s:ByteArray}(hs:s.size<=mg):∀(g i:Nat) (f:Nat->Bool) (q:Option (D×D)),i<=s.size->s.size+1 - i<=g->
  ∃o,bR (lB G gg) (jk e s i f q)=some o/\Vz e s i f (gm s g i) o:=by
 intro g
 induction g with
 |zero=>intro i f q h1 h2;omega
 |succ g ih=>
  intro i f q hi hg;have nx:∀(j:Nat) (f':Nat->Bool) (u v:D) (rs:Int×Int),i < j->j<=s.size->(∀l,(λy=>f' y ||nn l y)=λy=>f y ||nn (rs::l) y)->lB G gg (jk e s i f q)=some (.go (jk e s j f' (some (u,v))))->oY s i=some (rs,j)->fW s i 93=false->
    ∃o,bR (lB G gg) (jk e s i f q)=some o/\Vz e s i f (gm s (g+1) i) o:=by
   intro j f' u v rs hij hj hf nB hm kl;obtain⟨o,h1,h2⟩:=ih j f' (some (u,v)) hj (by omega);refine⟨o,(cF nB).trans h1,?_⟩;have hp:gm s (g+1) i=(gm s g j).map λp=>(rs::p.1,p.2):=by simp only[gm,kl,av,if_false,hm]
   rw[hp];cases hr:gm s g j with
   |none=>
    rw[hr]at h2;obtain⟨k,k1,k2,k3⟩:=h2;exact⟨k,by omega,k2,k3⟩
   |some p=>
    obtain⟨l,k⟩:=p;rw[hr]at h2;obtain⟨k1,k2,k3⟩:=h2;rw[hf]at k3;exact⟨by show i+1+(rs::l).length<=k;rw[az];omega,k2,k3⟩
  have bd:∀(k:Nat),i<=k->k<=s.size->fW s i 93=false->oY s i=none->lB G gg (jk e s i f q)=some (.out (0,[.int .i64 0,.str ⟨#[]⟩,.str s,.int .i64 (k:Int),.bool true]))->
    ∃o,bR (lB G gg) (jk e s i f q)=some o/\Vz e s i f (gm s (g+1) i) o:=by
   intro k k1 k2 kl hm ho;refine⟨_,bk ho,?_⟩;have hp:gm s (g+1) i=none:=by simp only[gm,kl,av,if_false,hm]
   rw[hp];exact⟨k,k1,k2,rfl⟩
  cases kl:fW s i 93 with
  |true=>
   obtain⟨hl,_⟩:=kq.1 kl;have rR:=o7 hs kl;refine⟨(1,[e,.bool false,.int .i64 0,.str ⟨#[]⟩,.str s,.int .i64 ((i+1:Nat):Int),.bool false,hB f]),?_,?_⟩
   ·refine bk ?_;cases q with
    |none=>simp only[go_sem,bl,jk,gg,rR]
    |some p=>simp only[go_sem,bl,jk,gg,rR]
   ·have hp:gm s (g+1) i=some ([],i+1):=by simp only[gm,kl,if_true]
    rw[hp];have he:(λy=>f y ||nn [] y)=f:=by funext y;simp[nn]
    refine⟨by simp,by omega,?_⟩;rw[he]
  |false=>
   have rR:=o6 kl;by_cases hl:i < s.size
   ·obtain⟨a,ha,TK⟩:=uQ s i;have vg:=ac1 (b:=da s i) (pX s i);have hx:=ek s i hl;have hw:=wj hl hs;have yq:¬s.size<=i:=by omega
    cases hc:Jp (da s i) with
    |false=>
     refine bd i (aj _) hi kl (by simp only[oY,hc,iW,av,if_false]) ?_;rw[hc]at vg;cases q with
     |none=>simp only[go_sem,bl,jk,gg,rR,mw,yq,hx,vg]
     |some p=>simp only[go_sem,bl,jk,gg,rR,mw,yq,hx,vg]
    |true=>
     rw[hc]at vg;cases ht:fW s (i+1) 126 with
     |false=>
      have h2:=o6 ht;have l0:=wO (e:=e) (op:=.int .i64 0) (tx:=.str ⟨#[]⟩) (s:=.str s) (i:=.int .i64 ((i+1:Nat):Int)) (b:=.bool false) ha 1 a f rfl;rw[<- TK]at l0;refine nx (i+1) _ (.int .u8 (da s i)) (.int .i64 ((a+1:Nat):Int)) (da s i,da s i) (by omega) (by omega) (λl=>by rw[TK];exact Ys f a l) ?_ (by simp only[oY,hl,hc,ht,decide_true,iL,if_true,av,if_false]) kl;cases q with
      |none=>simp only[go_sem,bl,jk,gg,L0,rR,mw,yq,hx,vg,hw,h2,l0]
      |some p=>simp only[go_sem,bl,jk,gg,L1,L3,rR,mw,yq,hx,vg,hw,h2,l0]
     |true=>
      have h2:=o7 hs ht;obtain⟨Q1,_⟩:=kq.1 ht;have XU:∀(k:Nat),k=i+2->oY s i=none->lB G gg (jk e s i f q)=some (.out (0,[.int .i64 0,.str ⟨#[]⟩,.str s,.int .i64 (k:Int),.bool true]))->∃o,bR (lB G gg) (jk e s i f q)=some o/\Vz e s i f (gm s (g+1) i) o:=λk hk hm ho=>bd k (by omega) (by omega) kl hm ho;by_cases Wy:i+1+1 < s.size
      ·have hx3:=ek s (i+1+1) Wy;have xS:=ac1 (b:=da s (i+1+1)) (pX s (i+1+1));have hw3:=wj Wy hs;have Eu:¬s.size<=i+1+1:=by omega
       cases Ci:Jp (da s (i+1+1)) with
       |false=>
        rw[Ci]at xS;refine XU (i+1+1) rfl (by simp only[oY,hl,hc,ht,Ci,decide_true,iL,if_true,er,iW,av,if_false]) ?_;cases q with
        |none=>simp only[go_sem,bl,jk,gg,rR,mw,yq,hx,vg,hw,h2,Eu,hx3,xS]
        |some p=>simp only[go_sem,bl,jk,gg,rR,mw,yq,hx,vg,hw,h2,Eu,hx3,xS]
       |true=>
        rw[Ci]at xS;by_cases ig:da s (i+1+1) < da s i
        ·have hle:¬da s i<=da s (i+1+1):=by omega
         refine XU (i+1+1) rfl (by simp only[oY,hl,hc,ht,Ci,hle,decide_true,decide_false,iL,if_true,iW,av,if_false]) ?_;cases q with
         |none=>simp only[go_sem,bl,jk,gg,rR,mw,yq,hx,vg,hw,h2,Eu,hx3,xS,ig]
         |some p=>simp only[go_sem,bl,jk,gg,rR,mw,yq,hx,vg,hw,h2,Eu,hx3,xS,ig]
        ·have hle:da s i<=da s (i+1+1):=by omega
         obtain⟨z,hz,QU⟩:=uQ s (i+1+1);have l0:=wO (e:=e) (op:=.int .i64 0) (tx:=.str ⟨#[]⟩) (s:=.str s) (i:=.int .i64 ((i+1+1+1:Nat):Int)) (b:=.bool false) hz (z+1 - a) a f (by omega);have wa:=BS (x:=a) (by simp only[mg];omega);rw[<- QU,<- TK]at l0;refine nx (i+1+1+1) _ (.int .u8 (da s (i+1+1))) (.int .i64 ((z+1:Nat):Int)) (da s i,da s (i+1+1)) (by omega) (by omega) (λl=>by rw[TK,QU];exact Rd f a z l) ?_ (by simp only[oY,hl,hc,ht,Ci,Wy,hle,decide_true,iL,if_true]) kl;cases q with
         |none=>simp only[go_sem,bl,jk,gg,L0,rR,mw,yq,hx,vg,hw,h2,Eu,hx3,xS,hw3,ig,l0]
         |some p=>simp only[go_sem,bl,jk,gg,L1,L3,rR,mw,yq,hx,vg,hw,h2,Eu,hx3,xS,hw3,ig,l0]
      ·have Eu:s.size<=i+1+1:=by omega
       refine XU (i+1+1) rfl (by
        have:¬i+2 < s.size:=Wy;simp only[oY,hl,hc,ht,this,decide_true,decide_false,iL,if_true,er,av,if_false]) ?_
       cases q with
       |none=>simp only[go_sem,bl,jk,gg,rR,mw,yq,hx,vg,hw,h2,Eu]
       |some p=>simp only[go_sem,bl,jk,gg,rR,mw,yq,hx,vg,hw,h2,Eu]
   ·have yq:s.size<=i:=by omega
    refine bd i (aj _) hi kl (by simp only[oY,hl,decide_false,er,av,if_false]) ?_;cases q with
    |none=>simp only[go_sem,bl,jk,gg,rR,mw,yq]
    |some p=>simp only[go_sem,bl,jk,gg,rR,mw,yq]
def PA(s:ByteArray)(i c:Nat)(r:PR)(p:cy)(k:Nat)(b:Bool):Prop:=uv 64 p=true/\i<=k/\k<=s.size/\match r with
 |some q=>b=false/\q=(p,k)/\i+c<=k
 |none=>b=true
theorem jh(op:Int)(t:ByteArray)(h:t.size<=256):uv 64 ⟨op,t,[]⟩=true:=uw h (by simp) (by simp)
theorem Ox{s:ByteArray}{g i k:Nat}(h:gm s g i=some ([],k)):k=i+1:=by
 cases g with
 |zero=>cases h
 |succ g=>
  simp only[gm]at h
  split at h
  ·cases h;rfl
  ·split at h
   ·obtain⟨p,_,h⟩:=ad.1 h;simp at h
   ·cases h
theorem ahE{s:ByteArray}{i:Nat}(hs:s.size<=mg)(hi:i<=s.size):∃p k b,G 220 [.str s,.int .i64 (i:Int),.bool false]=some (0,gA p++[.str s,.int .i64 (k:Int),.bool b])/\PA s i 0 (Ir s i) p k b:=by
 obtain⟨o,h1,h2⟩:=NY (e:=.int .i64 (i:Int)) hs (s.size+1) i (λ_=>false) none (by omega) (by omega);have hm:=Uo;simp only[jk]at h1;cases hr:gm s (s.size+1) i with
 |none=>
  rw[hr]at h2;obtain⟨k,k1,k2,rfl⟩:=h2;refine⟨⟨0,eT,[]⟩,k,true,bY VC rfl ?_,jh _ _ xO,k1,k2,by rw[Ir,hr]⟩;simp only[go_sem,t220,hm,h1,aF];rfl
 |some q=>
  obtain⟨l,k⟩:=q;rw[hr]at h2;obtain⟨k1,k2,rfl⟩:=h2;have hf:(λy:Nat=>(λ_=>false) y ||nn l y)=nn l:=by funext y;simp
  rw[hf]at h1;have hw:IntKind.i64.wrap ((i:Int)+1)=((i+1:Nat):Int):=by rw[wrap_i64 (by simp only[mg]at hs;omega)];omega
  have l5:=λtx ii b=>Db (op:=.int .i64 0) (tx:=tx) (s:=.str s) (i:=ii) (b:=b) (f:=nn l) 256 0 rfl;simp only[bL0,n0]at l5;have h5:=Pq (f:=nn l) (n:=256);cases l with
  |nil=>
   have hk:=Ox hr;subst hk;refine⟨⟨1,T5 (nn []),[]⟩,i+1,true,bY VC rfl ?_,jh _ _ (v7 _),by omega,k2,by rw[Ir,hr]⟩;simp only[go_sem,t220,hm,h1,hw,Ki,l5,h5,aF];rfl
  |cons r l=>
   have hk:¬(k:Int)=((i+1:Nat):Int):=by rw[az]at k1;omega
   refine⟨⟨1,T5 (nn (r::l)),[]⟩,k,false,bY VC rfl ?_,jh _ _ (v7 _),by omega,k2,by rw[Ir,hr];exact⟨rfl,rfl,by omega⟩⟩;simp only[go_sem,t220,hm,h1,hw,hk,Ki,l5,US,h5,aF];rfl
end
section
theorem Hq {σ ρ : Type} {b : σ -> Option (Sg σ ρ)} (mk : Nat -> σ) (n : Nat) {fin : ρ} (nB : ∀ i, i < n -> b (mk i) = some (.go (mk (i + 1)))) (fE : b (mk n) = some (.out fin)) : bR b (mk 0) = some fin := by
  have h : ∀ m i, i + m = n -> bR b (mk i) = some fin := by
    intro m
    induction m with
    | zero => intro i h; obtain rfl : i = n := by omega
              exact bk fE
    | succ m ih => intro i h; rw [cF (nB i (by omega))]; exact ih (i + 1) (by omega)
  exact h n 0 (by omega)
theorem Lc{l:List Bool}{i:Nat}{b:Bool}(h:nth l i=some b):aJ (.el 1) [aX l,.int .i64 (i:Int)]=some (.list 0 false [[.bool b]]):=by
 rw[xk,aH,h];rfl
theorem pZ{l:List Bool}{i:Nat}(h:i < l.length):aJ .kQ [aX l,.int .i64 (i:Int)]=some (.bool false):=lu _ _ _ _ (by simpa using h)
theorem zy{l:List Bool}{i:Nat}{b:Bool}(h:nth l i=some b):aJ (.nk 1 0 1 true) [aX l,.int .i64 (i:Int)]=some (.list 0 false [[.bool b]]):=by
 simp only[aJ,cE,aH,h,aD];simp[xN,cQ,D.plain]
theorem zz{l:List Bool}{i:Nat}{c:Bool}(h:i < l.length):aJ (.set 0) [aX l,.int .i64 (i:Int),.bool c]=some (aX (l.set i c)):=by
 have h1:nth l i=some l[i]:=dr h;simp only[aJ,cE,aH,h1,aD];rw[if_pos ⟨by simp,λ_=>by simp[cQ,D.plain]⟩];simp only[aX,List.map_set];rfl
theorem uS{n:Nat}(h:n<=2097152):aJ (.make 1 1 true [zB false]) [.int .i64 (n:Int)]=some (aX (aE n false)):=by
 simp only[aJ,cE];rw[if_pos ⟨by omega,by simp only[room];omega,by omega⟩];simp[aX,xN,SK.d]
theorem PB{l m:List Bool}(h:m.length=l.length):aJ .xL [aX l,aX m]=some (aX m):=by
 simp only[aJ,au,h,and_self,if_true]
def jv(J:List Bool)(i:Nat):List Bool:=J.take i++aE (J.length - i) false
theorem XG(J:List Bool):jv J 0=aE J.length false:=by simp[jv]
theorem JG(J:List Bool):jv J J.length=J:=by simp[jv]
theorem vc(J:List Bool)(i:Nat)(h:i<=J.length):(jv J i).length=J.length:=by simp[jv];omega
theorem zZ(J:List Bool)(i j:Nat)(h:i<=J.length):(jv J i)[j]?=if j < i then J[j]? else if j < J.length then some false else none:=by
 unfold jv;rw[uF];have h1:(J.take i).length=i:=by rw[a_];omega
 rw[h1];split
 ·rw[List.getElem?_take_of_lt (by assumption)]
 ·rw[List.getElem?_replicate];by_cases hj:j < J.length
  ·rw[if_pos (by omega),if_pos hj]
  ·rw[if_neg (by omega),if_neg hj]
theorem wv{J:List Bool}{i:Nat}{b:Bool}(h:nth J i=some b):(jv J i).set i b=jv J (i+1):=by
 have hi:i < J.length:=aP h;rw[cU]at h
 apply ed
 intro j;rw[iz,zZ _ _ _ (by omega),zZ _ _ _ (by omega),vc _ _ (by omega)];by_cases hj:i=j
 ·subst hj;rw[if_pos rfl,if_pos hi,if_pos (by omega),h]
 ·rw[if_neg hj];by_cases h1:j < i
  ·rw[if_pos h1,if_pos (by omega)]
  ·rw[if_neg h1,if_neg (show ¬j < i+1 by omega)]
theorem Du:∀{a b:List Bool} {i:Nat} {x y:Bool},nth a i=some x->nth b i=some y->nth (cG a b) i=some (x ||y)
 |_::_,_::_,0,_,_,h1,h2=>by cases h1;cases h2;rfl
 |a::x,b::y,i+1,_,_,h1,h2=>Du (a:=x) (b:=y) h1 h2
theorem Co{n:Nat}(h:n<=mg):IntKind.i64.wrap ((n:Int)+1)=((n+1:Nat):Int):=by rw[wrap_i64 (by simp only[mg]at h;omega)];omega
theorem Zk{a b:List Bool}(ha:a.length<=mg+1)(hb:b.length=a.length):G 233 [aX a,aX b]=some (0,[aX (cG a b)]):=by
 have hJ:=iI a b;have hm:=uS (n:=a.length) (by simp only[mg]at ha;omega);have hl:=Hq (b:=lB G EO) (λi=>(0,[aX a,aX b,.int .i64 (i:Int),aX (jv (cG a b) i)])) a.length (fin:=(0,[aX a,aX b,.int .i64 a.length,.bool false,aX (jv (cG a b) a.length)])) (by
  intro i hi;have hw:IntKind.i64.wrap ((i:Int)+1)=((i+1:Nat):Int):=Co (by omega);have h1:nth a i=some a[i]:=dr hi;have h2:nth b i=some (b[i]'(by omega)):=dr (by omega);have h3:=Du h1 h2;have e1:=Lc h1;have e2:=Lc h2;have e3:=pZ (l:=jv (cG a b) i) (i:=i) (by rw[vc _ _ (by omega)];omega);have e4:=λc=>zz (l:=jv (cG a b) i) (i:=i) (c:=c) (by rw[vc _ _ (by omega)];omega);have e5:=wv h3;generalize a[i]=x at *;generalize (b[i]'(by omega))=y at *;cases x<;>cases y<;>simp only[jr,iN]at e5<;>simp only[go_sem,bl,EO,hi,hw,e1,e2,e3,e4,e5]) (by
  simp only[go_sem,bl,EO,aq])
 rw[n0,XG,hJ,<- hJ,JG,hJ]at hl;refine bY ael rfl ?_;simp only[go_sem,t233,hm,hl]
theorem rD(p:Nat->Bool)(k:Nat):(bE (k+1)).any p=((bE k).any p ||p k):=by
 rw[List.range_succ,List.any_append];simp
theorem Mu{t s:ByteArray}{a:List Bool}{i:Nat}{x:Bool}(hi:i < s.size)(h:nth a i=some x):nth (IZ t s a) (i+1)=some (x && hasB t (da s i)):=by
 have:=J9 (f:=λi=>(nth a i).getD false && hasB t (da s i)) hi;rw[h]at this;exact this
theorem J_{l:List Bool}{i:Nat}{c:Bool}(h:i < l.length):nth (l.set i c) i=some c:=by
 rw[cU,iz];simp[h]
theorem N3{s t:ByteArray}{a o:List Bool}{op ks:D}{i:Nat}{x:Bool}(hs:s.size<=mg)(ht:t.size<=mg)(hi:i < s.size)(ha:nth a i=some x)(ho:nth o (i+1)=some false) :
  ∃z:Int,bR (lB G uh) (0,[.str s,aX a,.int .i64 (i:Int),.int .i64 0,op,.str t,ks,aX o])=some (0,[.str s,aX a,.int .i64 (i:Int),.int .i64 z,.bool false,op,.str t,ks,aX (o.set (i+1) (x && hasB t (da s i)))]):=by
 have e1:=Lc ha;have hol:=aP ho;have hw:IntKind.i64.wrap ((i:Int)+1)=((i+1:Nat):Int):=Co (by omega);cases x with
 |false=>
  have h0:o.set (i+1) (false && hasB t (da s i))=o:=by
   apply ed
   intro j;rw[iz];rw[cU]at ho;by_cases hj:i+1=j
   ·subst hj;rw[if_pos rfl,if_pos hol,ho];rfl
   ·rw[if_neg hj]
  rw[h0];refine⟨0,bk ?_⟩;by_cases h1:(0:Int) < (t.size:Int)
  ·simp only[go_sem,bl,uh,h1,e1]
  ·simp only[go_sem,bl,uh,h1]
 |true=>
  refine⟨t.size,?_⟩;have hl:=Hq (b:=lB G uh) (λk=>(0,[.str s,aX a,.int .i64 (i:Int),.int .i64 (k:Int),op,.str t,ks,aX (o.set (i+1) ((bE k).any λk=>decide (da t k=da s i)))])) t.size (fin:=(0,[.str s,aX a,.int .i64 (i:Int),.int .i64 t.size,.bool false,op,.str t,ks,aX (o.set (i+1) (hasB t (da s i)))])) (by
   intro k hk;have hwk:IntKind.i64.wrap ((k:Int)+1)=((k+1:Nat):Int):=Co (by omega);rw[rD];generalize (bE k).any (λk=>decide (da t k=da s i))=q;have sW:i+1 < (o.set (i+1) q).length:=by rw[List.length_set];exact hol
   have e2:=pZ sW;have e3:=zy (J_ (l:=o) (i:=i+1) (c:=q) hol);have e4:=λc=>zz (l:=o.set (i+1) q) (i:=i+1) (c:=c) sW;have e5:=ek t k hk;have e6:=ek s i hi;have e7:∀c,(o.set (i+1) q).set (i+1) c=o.set (i+1) c:=λc=>List.set_set ..;simp only[e7]at e4;cases q<;>simp only[go_sem,bl,uh,hk,hw,hwk,e1,e2,e3,e4,e5,e6]) (by
   have:hasB t (da s i)=(bE t.size).any λk=>decide (da t k=da s i):=rfl;rw[this];simp only[go_sem,bl,uh,aq])
  have h0:o.set (i+1) ((bE 0).any λk=>decide (da t k=da s i))=o:=by
   apply ed
   intro j;rw[iz];rw[cU]at ho;by_cases hj:i+1=j
   ·subst hj;rw[if_pos rfl,if_pos hol,ho];rfl
   ·rw[if_neg hj]
  rw[h0,n0]at hl;rw[cB];exact hl
theorem RU{J:List Bool}{i j:Nat}(hi:i<=j)(hj:j < J.length):nth (jv J i) j=some false:=by
 rw[cU,zZ _ _ _ (by omega),if_neg (by omega),if_pos hj]
theorem N4{s t:ByteArray}{a:List Bool}{op ks:D}(hs:s.size<=mg)(ht:t.size<=mg)(ha:a.length=s.size+1) :
  bR (lB G AH) (0,[.str s,aX a,.int .i64 0,op,.str t,ks,aX (aE (s.size+1) false)])=some (0,[.str s,aX a,.int .i64 s.size,.bool false,op,.str t,ks,aX (IZ t s a)]):=by
 have hJ:=D6 t s a;have hl:=Hq (b:=lB G AH) (λi=>(0,[.str s,aX a,.int .i64 (i:Int),op,.str t,ks,aX (jv (IZ t s a) (i+1))])) s.size (fin:=(0,[.str s,aX a,.int .i64 s.size,.bool false,op,.str t,ks,aX (jv (IZ t s a) (s.size+1))])) (by
  intro i hi;have hw:IntKind.i64.wrap ((i:Int)+1)=((i+1:Nat):Int):=Co (by omega);have h1:nth a i=some (a[i]'(by omega)):=dr (by omega);have h3:=Mu (t:=t) hi h1;obtain⟨z,hz⟩:=N3 (op:=op) (ks:=ks) hs ht hi h1 (RU (J:=IZ t s a) (i:=i+1) (j:=i+1) (aj _) (by omega));rw[wv h3]at hz;simp only[go_sem,bl,AH,hi,hw,hz]) (by
  simp only[go_sem,bl,AH,aq])
 have h0:jv (IZ t s a) (0+1)=aE (s.size+1) false:=by
  rw[jv,hJ];simp[IZ,fu]
 rw[h0,n0]at hl;rw[hl]
 congr 9
 rw[<- hJ,JG]
theorem L4:Rw=ui:=(rfl)
theorem L5:Rx=ui:=(rfl)
def WY(x y:List Bool):Bool:=!decide (x=y)
theorem Pj:∀{x y:List Bool},x.length=y.length->(bE x.length).any (λj=>!decide (nth x j=nth y j))=WY x y
 |[],[],_=>rfl
 |a::x,b::y,h=>by
  have ih:=Pj (x:=x) (y:=y) (by simpa using h);rw[az,List.range_succ_eq_map,kS,List.any_map];have e1:((λj=>!decide (nth (a::x) j=nth (b::y) j)) ∘ Nat.succ)=λj=>!decide (nth x j=nth y j):=rfl;rw[e1,ih];simp only[WY,bw];have e2:nth (a::x) 0=some a:=rfl;have e3:nth (b::y) 0=some b:=rfl;rw[e2,e3];by_cases h1:a=b<;>by_cases h2:x=y<;>simp[h1,h2]
theorem Dc{s op tx ks:D}{o x:List Bool}(ho:o.length<=mg+1)(hx:x.length=o.length) :
  bR (lB G ui) (0,[s,.bool false,.int .i64 0,op,tx,ks,aX o,aX x])=some (0,[s,.bool (WY x o),.int .i64 o.length,.bool false,op,tx,ks,aX o,aX x]):=by
 rw[<- Pj hx];have hl:=Hq (b:=lB G ui) (λi=>(0,[s,.bool ((bE i).any λj=>!decide (nth x j=nth o j)),.int .i64 (i:Int),op,tx,ks,aX o,aX x])) o.length (fin:=(0,[s,.bool ((bE o.length).any λj=>!decide (nth x j=nth o j)),.int .i64 o.length,.bool false,op,tx,ks,aX o,aX x])) (by
  intro i hi;have hw:IntKind.i64.wrap ((i:Int)+1)=((i+1:Nat):Int):=Co (by omega);have h1:nth o i=some o[i]:=dr hi;have h2:nth x i=some (x[i]'(by omega)):=dr (by omega);rw[rD,h1,h2];generalize (bE i).any (λj=>!decide (nth x j=nth o j))=q;have e1:=zy h1;have e2:=zy h2;have e3:=pZ hi;have e4:=pZ (l:=x) (i:=i) (by omega);generalize o[i]=c at *;generalize (x[i]'(by omega))=d at *;cases q<;>cases c<;>cases d<;>simp only[go_sem,bl,ui,hi,hw,e1,e2,e3,e4,aa]) (by
  simp only[go_sem,bl,ui,aq])
 rw[n0]at hl;rw[hx];exact hl
theorem G6(p:cy):(gA p).length=3:=by rw[aF];rfl
theorem oD(p:cy)(k:Nat)(fl:Bool):aJ (.has 3) [.list k fl [gA p]]=some (.bool false):=by
 rw[Bv,G6,if_pos (aj 3)]
theorem G7{l:List cy}{i:Nat}{p:cy}(h:nth l i=some p):aJ (.el 3) [bK l,.int .i64 (i:Int)]=some (.list 0 false [gA p]):=by
 rw[xk,aH,h];rfl
theorem tG{k:cy}:aJ (.el 3) [bK [k],.int .i64 0]=some (.list 0 false [gA k]):=G7 (l:=[k]) (i:=0) rfl
def BF(h:Option D)(s:ByteArray)(op:Int)(t:ByteArray)(k:cy)(x:List Bool):Nat×List D:=match h with
 |none=>(0,[.str s,.int .i64 op,.str t,bK [k],aX x])
 |some z=>(1,[.str s,z,.int .i64 op,.str t,bK [k],aX x])
section
variable {s:ByteArray} {k:cy} {f:List Bool->List Bool} (hs:s.size<=mg) (hf:∀x:List Bool,x.length=s.size+1->(f x).length=s.size+1)
 (ih:∀x:List Bool,x.length=s.size+1->G 234 (gA k++[.str s,aX x])=some (0,[aX (f x)]))
include hs hf ih
theorem N6{t:ByteArray}:∀(m:Nat) (x:List Bool) (h:Option D),outs x < m->x.length=s.size+1->
  bR (lB G rV) (BF h s 4 t k x)=some (0,[.str s,.bool true,.int .i64 4,.str t,bK [k],aX (yf f m x)]):=by
 intro m
 induction m with
 |zero=>intro x h h1;omega
 |succ m im=>
  intro x h h1 hx;have e1:=ih x hx;rw[aF]at e1;simp only[ai,ao]at e1;have e2:=Zk (a:=x) (b:=f x) (by rw[hx];omega) (by rw[hf x hx,hx]);have hj:=iI x (f x);have e3:=Dc (s:=.str s) (op:=.int .i64 4) (tx:=.str t) (ks:=bK [k]) (o:=x) (x:=cG x (f x)) (by rw[hx];omega) hj;simp only[yf];by_cases hc:cG x (f x)=x
  ·rw[if_pos hc];have hn:WY (cG x (f x)) x=false:=by simp[WY,hc]
   rw[hn,hc]at e3;rw[hc]at e2;refine bk ?_;cases h with
   |none=>simp only[go_sem,bl,BF,rV,L4,tG,aF k,e1,e2,e3]
   |some z=>simp only[go_sem,bl,BF,rV,L5,tG,aF k,e1,e2,e3]
  ·rw[if_neg hc];have hn:WY (cG x (f x)) x=true:=by simp[WY,hc]
   rw[hn]at e3;refine (cF (s':=BF (some (.bool false)) s 4 t k (cG x (f x))) ?_).trans (im _ (some (.bool false)) (by have:=(ud x (f x)).2 hc;omega) (by rw[hj];exact hx));cases h with
   |none=>simp only[go_sem,bl,BF,rV,L4,tG,aF k,e1,e2,e3]
   |some z=>simp only[go_sem,bl,BF,rV,L5,tG,aF k,e1,e2,e3]
theorem N5{t:ByteArray}{x:List Bool}(hx:x.length=s.size+1) :
  bR (lB G AI) (0,[.str s,.int .i64 5,.str t,bK [k],aX x])=some (0,[.str s,.bool true,.int .i64 5,.str t,bK [k],aX (cG x (f x))]):=by
 have e1:=ih x hx;rw[aF]at e1;simp only[ai,ao]at e1;have e2:=Zk (a:=x) (b:=f x) (by rw[hx];omega) (by rw[hf x hx,hx]);have hj:=iI x (f x);have e3:=Dc (s:=.str s) (op:=.int .i64 5) (tx:=.str t) (ks:=bK [k]) (o:=x) (x:=cG x (f x)) (by rw[hx];omega) hj;refine bk ?_;cases hn:WY (cG x (f x)) x<;>rw[hn]at e3<;>simp only[go_sem,bl,AI,tG,aF k,e1,e2,e3]
end
theorem tV{α β:Type}(g:β->α->β)(b:β)(l:List α)(i:Nat)(x:α)(h:nth l i=some x):(l.take (i+1)).foldl g b=g ((l.take i).foldl g b) x:=by
 rw[cn l i x h,List.foldl_append];rfl
theorem Ho{s:ByteArray}{f:cy->List Bool->List Bool}(hf:∀(k:cy) (x:List Bool),x.length=s.size+1->(f k x).length=s.size+1):∀(l:List cy) (b:List Bool),b.length=s.size+1->(l.foldl (λo k=>f k o) b).length=s.size+1
 |[],_,h=>h
 |k::l,b,h=>Ho hf l _ (hf k b h)
theorem wC{s:ByteArray}{g:cy->List Bool}:∀(l:List cy) (b:List Bool),b.length=s.size+1->(l.foldl (λo k=>cG o (g k)) b).length=s.size+1
 |[],_,h=>h
 |k::l,b,h=>wC l _ (by rw[iI];exact h)
theorem Vf{α:Type}{l:List α}(h:l.length≠1):¬(l.length:Int)=1:=by omega
theorem Zl{s:ByteArray}(hs:s.size<=mg)(n:Nat):∀(p:cy) (a:List Bool),ah p < n->uv 64 p=true->a.length=s.size+1->G 234 (gA p++[.str s,aX a])=some (0,[aX (gC s n p a)]):=by
 induction n with
 |zero=>intro p a h;omega
 |succ n ih=>
  intro p a hz hp ha;have hlen:=px (s:=s) n;have hk:∀k∈p.kids,∀x:List Bool,x.length=s.size+1->G 234 (gA k++[.str s,aX x])=some (0,[aX (gC s n k x)]):=λk hk x hx=>ih k x (by have:=cy.JY hk;omega) (zd hp hk) hx;have hw:=Co hs;have hm:=uS (n:=s.size+1) (by simp only[mg]at hs;omega);have Hy:=ze hp;have hc:=PB (l:=aE (s.size+1) false) (m:=a) (by simpa using ha);have htx:=Vm hp;refine bY aem (by rw[aF];rfl) ?_;simp only[gC];unfold G_;by_cases o1:p.op=1
  ·have hl:=N4 (s:=s) (t:=p.text) (a:=a) (op:=.int .i64 1) (ks:=bK p.kids) hs (by simp only[mg];omega) ha;rw[if_pos o1];simp only[go_sem,hw,hm,t234,aF p,o1,hl]
  rw[if_neg o1];by_cases o2:p.op=2
  ·rw[if_pos o2];have hl:=ej (b:=lB G EP) p.kids (λi (x:List Bool)=>(0,[.str s,.int .i64 (i:Int),.int .i64 2,.str p.text,bK p.kids,aX x])) (λi=>(p.kids.take i).foldl (λo k=>gC s n k o) a) (0,[.str s,.int .i64 p.kids.length,.bool false,.int .i64 2,.str p.text,bK p.kids,aX (p.kids.foldl (λo k=>gC s n k o) a)]) (by
    intro i k hn;have hi:=aP hn;have hwi:=wj (i:=i) (n:=p.kids.length) hi (by simp only[mg];omega);have e1:=hk k (aT hn) _ (Ho (f:=gC s n) hlen (p.kids.take i) a ha);rw[aF]at e1;simp only[ai,ao]at e1;rw[tV _ _ _ _ _ hn];simp only[go_sem,bl,EP,hi,G7 hn,oD];simp only[go_sem,aF k,e1,hwi]) (by
    rw[aU];simp only[go_sem,bl,EP,aq]) p.kids.length 0 (by omega)
   rw[n0,ba,uE]at hl;simp only[go_sem,hw,hm,hc,t234,aF p,o2,hl]
  rw[if_neg o2];by_cases o3:p.op=3
  ·rw[if_pos o3];have hl:=ej (b:=lB G ER) p.kids (λi (x:List Bool)=>(0,[.str s,aX a,.int .i64 (i:Int),.int .i64 3,.str p.text,bK p.kids,aX x])) (λi=>(p.kids.take i).foldl (λo k=>cG o (gC s n k a)) (aE (s.size+1) false)) (0,[.str s,aX a,.int .i64 p.kids.length,.bool false,.int .i64 3,.str p.text,bK p.kids,aX (p.kids.foldl (λo k=>cG o (gC s n k a)) (aE (s.size+1) false))]) (by
    intro i k hn;have hi:=aP hn;have hwi:=wj (i:=i) (n:=p.kids.length) hi (by simp only[mg];omega);have e1:=hk k (aT hn) a ha;have sV:=wC (s:=s) (g:=λk=>gC s n k a) (p.kids.take i) (aE (s.size+1) false) (by simp);have e2:=Zk (a:=(p.kids.take i).foldl (λo k=>cG o (gC s n k a)) (aE (s.size+1) false)) (b:=gC s n k a) (by rw[sV];omega) (by rw[hlen k a ha,sV]);rw[aF]at e1;simp only[ai,ao]at e1;rw[tV _ _ _ _ _ hn];simp only[go_sem,bl,ER,hi,G7 hn,oD];simp only[go_sem,aF k,e1,e2,hwi]) (by
    rw[aU];simp only[go_sem,bl,ER,aq]) p.kids.length 0 (by omega)
   rw[n0,ba,uE]at hl;simp only[go_sem,hw,hm,t234,aF p,o3,hl]
  rw[if_neg o3];by_cases o4:p.op=4
  ·rw[if_pos o4];have o5:¬(4:Int)=5:=by decide
   by_cases h1:p.kids.length=1
   ·obtain⟨k,Ck⟩:=cJ.1 h1;have pj:=N6 (t:=p.text) hs (hlen k) (λx hx=>hk k (by rw[Ck];simp) x hx) (s.size+2) a none (by have:=FF a;omega) ha;simp only[BF]at pj;rw[Ck,FD];simp only[go_sem,hw,hm,hc,t234,aF p,o4,o5,Ck,pj]
   ·rw[FE h1];have h2:=Vf h1;have hl:bR (lB G rV) (0,[.str s,.int .i64 4,.str p.text,bK p.kids,aX a])=some (1,[.str s,.bool false,.int .i64 4,.str p.text,bK p.kids,aX a]):=by
     refine bk ?_;simp only[go_sem,bl,rV,h2]
    simp only[go_sem,hw,hm,hc,t234,aF p,o4,o5,hl]
  rw[if_neg o4];by_cases o5:p.op=5
  ·rw[if_pos o5];by_cases h1:p.kids.length=1
   ·obtain⟨k,Ck⟩:=cJ.1 h1;have pj:=N5 (t:=p.text) hs (hlen k) (λx hx=>hk k (by rw[Ck];simp) x hx) ha;rw[Ck,FD];simp only[go_sem,hw,hm,hc,t234,aF p,o5,Ck,pj]
   ·rw[FE h1];have h2:=Vf h1;have hl:bR (lB G AI) (0,[.str s,.int .i64 5,.str p.text,bK p.kids,aX a])=some (1,[.str s,.bool false,.int .i64 5,.str p.text,bK p.kids,aX a]):=by
     refine bk ?_;simp only[go_sem,bl,AI,h2]
    simp only[go_sem,hw,hm,hc,t234,aF p,o5,hl]
  rw[if_neg o5];simp only[go_sem,hw,hm,t234,aF p,o1,o2,o3,o4,o5]
theorem ahK{s:ByteArray}{p:cy}(hs:s.size<=mg)(hp:uv 64 p=true):G 235 (gA p++[.str s])=some (0,[.bool (J4 p s)]):=by
 have hw:=Co hs;have hm:=uS (n:=s.size+1) (by simp only[mg]at hs;omega);have h1:=Zl hs (ah p+1) p (true::aE s.size false) (aO _) hp (by simp);have hl:=px (s:=s) (ah p+1) p (true::aE s.size false) (by simp);rw[aF]at h1;simp only[ai,ao]at h1;have e1:=pZ (l:=aE (s.size+1) false) (i:=0) (by simp);have e2:=zz (l:=aE (s.size+1) false) (i:=0) (c:=true) (by simp);have e3:(aE (s.size+1) false).set 0 true=true::aE s.size false:=by rw[fu];rfl
 rw[e3]at e2;rw[n0]at e1 e2;have e4:=pZ (l:=gC s (ah p+1) p (true::aE s.size false)) (i:=s.size) (by rw[hl];omega);obtain⟨b,hb⟩:∃b,nth (gC s (ah p+1) p (true::aE s.size false)) s.size=some b:=⟨_,dr (by rw[hl];omega)⟩
 have e5:=zy hb;refine bY aen (by rw[aF];rfl) ?_;have e6:J4 p s=b:=by rw[J4,hb];rfl
 rw[e6];generalize gC s (ah p+1) p (true::aE s.size false)=z at *;simp only[go_sem,t235,aF p,hw,hm,e1,e2,h1,e4,e5]
end
section
theorem R1(b:Int):YS b=(fg 97 122 b ||(fg 48 57 b ||decide (b=45))):=(rfl)
theorem VL{s:ByteArray}{i:Nat}(h:i < s.size):aJ (.I_ true) [.str s,.int .i64 (i:Int),.int .i64 ((i+1:Nat):Int)]=some (.str (Bm (da s i))):=by
 have e1:dI (.int .i64 (i:Int))=some i:=by simp[dI]
 have e2:dI (.int .i64 ((i+1:Nat):Int))=some (i+1):=by simp only[dI];rw[if_pos (by omega)];congr 1
 simp only[aJ,e1,e2];rw[if_pos ⟨by omega,by omega⟩]
 congr 2
 have hb:(da s i).toNat=(s[i]?.getD 0).toNat:=by unfold da;simp
 have Af:cL (da s i).toNat=s[i]:=by
  rw[hb,getElem?_pos s i h,mH];simp
 apply pn
 have e3:(Bm (da s i)).data=#[s[i]]:=by simp only[Bm,bA,Af]
 rw[e3,ByteArray.data_extract]
 apply Array.ext
 ·simp;omega
 ·intro j h1 h2;have:j=0:=by simpa using h2
  subst this;simp
  rfl
theorem afs(k:Nat)(h:k<=mg):IntKind.i64.wrap (((k+1:Nat):Int) - 1)=(k:Int):=by rw[wrap_i64 (by simp only[mg]at h;omega)];omega
def zt(f:Nat)(s:ByteArray)(i c n:Nat)(b0:Bool)(r:PR):Prop:=∃j p k b,j < n/\G f [.str s,.int .i64 (i:Int),.bool b0]=some (j,gA p++[.str s,.int .i64 (k:Int),.bool b])/\PA s i c r p k b
section
variable {s:ByteArray} {alt:Nat->PR}
theorem Gu(a:Int)(t:ByteArray):aJ .pl [.int .i64 a,.str t]=some (.bool false):=(rfl)
theorem qY(a:Int)(t:ByteArray)(l:List cy):aJ .vV [.int .i64 a,.str t,bK l]=some (.bool false):=(rfl)
theorem agm{i i' c c' k:Nat}{r:PR}{p:cy}{b:Bool}(h:PA s i' c' r p k b)(hi:i<=i')(hc:i+c<=i'+c'):PA s i c r p k b:=by
 obtain⟨h1,h2,h3,h4⟩:=h;refine⟨h1,by omega,h3,?_⟩;cases r with
 |none=>exact h4
 |some q=>exact⟨h4.1,h4.2.1,by have:=h4.2.2;omega⟩
theorem ahG(hs:s.size<=mg){i:Nat}(hi:i < s.size)(hA:∀j,i < j->j<=s.size->zt 223 s j 0 2 false (alt j)):zt 222 s i 1 3 false (tK alt s i):=by
 have hw:=wj hi hs;unfold tK;cases h40:fW s i 40 with
 |true=>
  have f1:=o7 hs h40;obtain⟨j,p,k,b,hj,hg,hp⟩:=hA (i+1) (by omega) (by omega);obtain⟨p1,p2,p3,p4⟩:=hp;simp only[aF,ai,ao]at hg;rw[if_pos rfl];cases b with
  |true=>
   have f2:=λc=>FI (s:=s) (i:=(k:Int)) (c:=c);cases hr:alt (i+1) with
   |some q=>rw[hr]at p4;cases p4.1
   |none=>
    match j,hj with
    |0,_=>exact⟨1,p,k,true,by decide,bY BB rfl (by simp only[go_sem,t222,f1,f2,hg,aF]),p1,by omega,p3,rfl⟩
    |1,_=>exact⟨2,p,k,true,by decide,bY BB rfl (by simp only[go_sem,t222,f1,f2,hg,aF]),p1,by omega,p3,rfl⟩
  |false=>
   cases hr:alt (i+1) with
   |none=>rw[hr]at p4;cases p4
   |some q=>
    rw[hr]at p4;obtain⟨_,rfl,p5⟩:=p4;dsimp only;cases Un:fW s k 41 with
    |true=>
     have f2:=o7 hs Un;have hk:=lj Un
     match j,hj with
     |0,_=>exact⟨1,p,k+1,false,by decide,bY BB rfl (by simp only[go_sem,t222,f1,f2,hg,aF]),p1,by omega,by omega,rfl,rfl,by omega⟩
     |1,_=>exact⟨2,p,k+1,false,by decide,bY BB rfl (by simp only[go_sem,t222,f1,f2,hg,aF]),p1,by omega,by omega,rfl,rfl,by omega⟩
    |false=>
     have f2:=o6 Un
     match j,hj with
     |0,_=>exact⟨1,p,k,true,by decide,bY BB rfl (by simp only[go_sem,t222,f1,f2,hg,aF]),p1,by omega,p3,rfl⟩
     |1,_=>exact⟨2,p,k,true,by decide,bY BB rfl (by simp only[go_sem,t222,f1,f2,hg,aF]),p1,by omega,p3,rfl⟩
 |false=>
  have f1:=o6 h40;rw[if_neg ck];cases XN:fW s i 91 with
  |true=>
   have f2:=o7 hs XN;obtain⟨p,k,b,hg,hp⟩:=ahE (i:=i+1) hs (by omega);simp only[aF,ai,ao]at hg;rw[if_pos rfl];exact⟨0,p,k,b,by decide,bY BB rfl (by simp only[go_sem,t222,f1,f2,hg,aF]),agm hp (by omega) (by omega)⟩
  |false=>
   have f2:=o6 XN;rw[if_neg ck];cases Wn:fW s i 46 with
   |true=>
    have f3:=o7 hs Wn;have f4:=ahF;rw[if_pos rfl];exact⟨0,⟨1,M8,[]⟩,i+1,false,by decide,bY BB rfl (by simp only[go_sem,t222,f1,f2,f3,f4,aF];rfl),jh _ _ (v7 _),by omega,by omega,rfl,rfl,by omega⟩
   |false=>
    have f3:=o6 Wn;have f4:=ek s i hi;have f5:=acZ (pX s i);have f6:=ac0 (pX s i);have f7:=VL hi;have f8:=afs i (by omega);rw[if_neg ck];cases hc:YS (da s i) with
    |true=>
     simp only[hi,decide_true,iL,if_true];refine⟨0,⟨1,Bm (da s i),[]⟩,i+1,false,by decide,bY BB rfl ?_,jh _ _ (by rw[Bm,oh];simp),by omega,by omega,rfl,rfl,by omega⟩;rw[R1]at hc;generalize fg 97 122 (da s i)=x at *;generalize fg 48 57 (da s i)=y at *;cases x<;>cases y<;>(try simp only[iM]at hc)<;>simp only[go_sem,t222,hi,hc,f1,f2,f3,f4,f5,f6,f7,f8,hw,aF]
     all_goals rfl
    |false=>
     simp only[iW,av,if_false];refine⟨0,⟨0,eT,[]⟩,i,true,by decide,bY BB rfl ?_,jh _ _ xO,by omega,by omega,rfl⟩;rw[R1]at hc;generalize fg 97 122 (da s i)=x at *;generalize fg 48 57 (da s i)=y at *;cases x<;>cases y<;>simp only[sI,jr,iM,Bool.true_eq_false]at hc
     simp only[go_sem,t222,hi,hc,f1,f2,f3,f4,f5,f6,aF];rfl
end
end
end Go.Proofs.YtcdjbelccndadaaGreatDoor
