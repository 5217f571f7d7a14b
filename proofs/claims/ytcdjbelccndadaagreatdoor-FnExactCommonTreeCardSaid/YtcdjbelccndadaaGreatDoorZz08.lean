/- Part of the proof: a machine over plain data, its proof, the functions of the program run on symbols, what they answer. Condition: none. -/
import Derived.Test.YtcdjbelccndadaaGreatDoorZz06
set_option linter.unusedVariables false
set_option linter.unusedSimpArgs false
open Bool renaming and_eq_true->ab,false_eq_true->au,true_and->bU,false_ne_true->cj,not_eq_true'->ck,eq_false_iff->cT,eq_iff_iff->cU,false_and->df,or_eq_true->dE,and_true->fj,not_not->fm,false_or->fQ,or_assoc->fR,and_assoc->fW,not_false->fX,and_self->iL,or_false->iM,and_false->iU,or_true->jo,not_true->jB,true_or->l6
open ByteArray renaming size_append->gL,data_append->l7,size->n8,ext->pv
open Int renaming toNat_natCast->cB,lt_irrefl->ey,neg_neg->qH
open List renaming cons_append->ai,nil_append->ak,length_map->av,mem_cons->ay,replicate->aC,append_nil->aD,length_cons->aE,mem_append->aL,map_cons->aN,length_append->aO,length_nil->aQ,all_eq_true->aS,sizeOf_lt_of_mem->aU,take_length->aW,drop_zero->aX,length_take->aY,take_append_drop->a_,take_zero->bg,append_assoc->bh,range->bE,cons_ne_nil->bP,mem_map->bQ,all_cons->bW,nodup_cons->bZ,length_eq_zero_iff->cn,mem_cons_of_mem->cp,mem_singleton->ct,drop_length->cC,take_succ_cons->cD,length_eq_one_iff->cJ,map_append->dc,map_id'->dC,map_nil->dD,mem_cons_self->dQ,ext_getElem?->ed,drop_of_length_le->ez,replicate_succ->fp,isEmpty_nil->gM,not_mem_nil->gP,getElem?_set->iu,isEmpty_cons->iy,any_eq_true->ku,any_cons->kT,map_const'->n4,map_take->qJ,length_filter_le->tz,foldl_nil->uG,getElem?_append->uH
open List.cons renaming injEq->bq,sizeOf_spec->bB
open Nat renaming le_refl->aj,lt_irrefl->aq,le_trans->az,lt_succ_self->aM,zero_add->bo,lt_or_ge->cY,add_assoc->dv,add_zero->eA,zero_le->qL
open Option renaming map_eq_some_iff->ad,map_some->aB,isSome_iff_exists->bF,isSome_some->gR,getD_some->mK
open Option.some renaming injEq->aa,inj->eJ
open SizeOf renaming sizeOf->ah
open UInt8 renaming ofNat->cL
namespace Go.Proofs.YtcdjbelccndadaaGreatDoor
set_option maxRecDepth 100000
set_option maxHeartbeats 4000000
section
def ix(l:List ByteArray)(v:ByteArray):Option Nat:=pV (λe=>decide (v=e)) l 0
theorem vc{α:Type}{p:α->Bool}:∀{l:List α} {k:Nat},(pV p l k).isSome=l.any p
 |[],_=>rfl
 |e::l,k=>by
  simp only[pV,kT];by_cases h:p e=true
  ·simp[h]
  ·simp[h,vc (l:=l)]
def nQ(l:List ByteArray)(v:ByteArray):Bool:=l.any λe=>decide (v=e)
theorem QF{l:List ByteArray}{v:ByteArray}:nQ l v=true↔v∈l:=by simp[nQ]
theorem T9{l:List ByteArray}{v:ByteArray}:nQ l v=false↔v∉l:=by rw[<- QF];simp
theorem Yh(l:List ByteArray)(v:ByteArray):(ix l v).isSome=nQ l v:=by rw[ix,vc,nQ]
theorem q96{l:List ByteArray}{v:ByteArray}(hs:l.length<=mg):G 96 [bp l,.str v]=some (0,[.int .i64 (kR (ix l v))]):=by
 refine cq s96 rfl ?_;simp only[go_sem,t96];have hl:=nP (b:=lB G Mg) l (λi=>(0,[bp l,.str v,.int .i64 l.length,.int .i64 (i:Int)])) (λe=>decide (v=e)) (1,[bp l,.str v,.int .i64 l.length,.int .i64 l.length,.bool false]) (λi e=>(0,[.int .i64 (i:Int)])) (by
  intro i e hn;have hi:=aR hn;have hw:=wj hi hs;simp only[go_sem,bm,Mg,hi,aH,hn,gC]
  repeat' (first|with_reducible rfl|((first|rw[eX]|rw[eZ]|rw[eW]|rw[eY]);split<;>simp only[go_sem, *]))
  all_goals simp_all) (by simp only[go_sem,bm,Mg,aq])
 rw[n0]at hl;rw[av,hl];unfold ix;cases hf:pV (λe=>decide (v=e)) l 0 with
 |none=>simp only[go_sem,kR]
 |some j=>
  obtain⟨e,h1,h2⟩:=dr hf;simp only[go_sem,h1,kR]
theorem Yz(o:Option Nat):decide (0<=kR o)=o.isSome:=by
 cases o with
 |none=>rfl
 |some j=>simp[kR]
theorem q99{l:List ByteArray}{v:ByteArray}(hs:l.length<=mg):G 99 [bp l,.str v]=some (0,[.bool (nQ l v)]):=by
 refine cq s99 rfl ?_;simp only[go_sem,t99,q96 hs,Yz,Yh]
theorem Vb(k:Nat)(fl:Bool)(es:List (List D))(n:Nat)(h:n<=es.length):aK (.cut true) [.list k fl es,.int .i64 0,.int .i64 (n:Int)]=some (.list k fl (es.take n)):=by
 simp[aK,dI,h]
def qf(l:List ByteArray):Bool:=allI (λi e=>!nQ (l.take i) e) 0 l
theorem Bm:∀(m:List ByteArray) (l:List ByteArray) ,allI (λi e=>!nQ ((m++l).take i) e) m.length l=true↔l.Nodup/\∀e∈l,e∉m
 |m,[]=>by simp[allI]
 |m,e::l=>by
  have ih:=Bm (m++[e]) l;rw[bh,aO]at ih;simp only[allI,ab,bZ];simp only[aE,aQ,List.singleton_append,bo]at ih;rw[ih];simp only[List.take_left',ck,T9,aL,ay,gP,or_false,not_or];refine⟨λ⟨h1,h2,h3⟩=>⟨⟨λh=>(h3 e h).2 rfl,h2⟩,λx hx=>?_⟩,λ⟨⟨h1,h2⟩,h3⟩=>⟨h3 e (.inl rfl),h2,λx hx=>⟨h3 x (.inr hx),λh=>h1 (h▸hx)⟩⟩⟩;rcases hx with rfl|hx
  ·exact h1
  ·exact (h3 x hx).1
theorem pz(l:List ByteArray):qf l=true↔l.Nodup:=by
 have:=Bm [] l
 simpa [qf] using this
theorem Ov{l:List ByteArray}(hs:l.length<=mg):G 257 [bp l]=some (0,[.bool (qf l)]):=by
 refine cq aer rfl ?_;simp only[go_sem,t257];have hl:=nk (b:=lB G E8) l (λi=>(0,[bp l,.int .i64 l.length,.int .i64 (i:Int)])) (λi e=>!nQ (l.take i) e) (1,[bp l,.int .i64 l.length,.int .i64 l.length,.bool false]) (0,[.bool false]) (by
  intro i e hn;have hi:=aR hn;have hw:=wj hi hs;have hc:aK (.cut true) [bp l,.int .i64 0,.int .i64 (i:Int)]=some (bp (l.take i)):=by
   rw[Vb _ _ _ _ (by rw[av];omega),<- qJ]
  have h99:=q99 (l:=l.take i) (v:=e) (by rw[aY];omega);simp only[go_sem,bm,E8,hi,aH,hn,gC,hc,h99]
  repeat' (first|with_reducible rfl|((first|rw[eX]|rw[eZ]|rw[eW]|rw[eY]);split<;>simp only[go_sem, *]))
  all_goals simp_all) (by simp only[go_sem,bm,E8,aq]) l.length 0 (by omega)
 rw[n0]at hl;rw[av,hl];rw[show qf l=allI (λi e=>!nQ (l.take i) e) 0 (l.drop 0) from rfl];cases allI (λi e=>!nQ (l.take i) e) 0 (l.drop 0)<;>simp only[go_sem]
theorem Zf{l:List ByteArray}(hs:cA gC l<=mg):G 271 [bp l]=some (0,[.bool (l.all isName)]):=by
 refine cq aeF rfl ?_;simp only[go_sem,afu];have hlen:l.length<=mg:=by simp only[cA]at hs;omega
 have hl:=iG (b:=lB G Ff) l (λi=>(0,[bp l,.int .i64 l.length,.int .i64 (i:Int)])) isName (1,[bp l,.int .i64 l.length,.int .i64 l.length,.bool false]) (0,[.bool false]) (by
  intro i e hn;have hi:=aR hn;have hw:=wj hi hlen;have agl:=Vj (s:=e) (by have:=MQ l (aT hn);omega);simp only[go_sem,bm,Ff,hi,aH,hn,gC,agl]
  repeat' (first|with_reducible rfl|((first|rw[eX]|rw[eZ]|rw[eW]|rw[eY]);split<;>simp only[go_sem, *]))
  all_goals simp_all) (by simp only[go_sem,bm,Ff,aq])
 rw[n0]at hl;rw[av,hl];cases l.all isName<;>simp only[go_sem]
end
section
theorem LH{α σ ρ:Type}{b:σ->Option (Sg σ ρ)}(es:List α)(mk:Nat->σ)(p:Nat->α->Bool)(yes no:ρ)
  (nA:∀i e,nth es i=some e->(∀j x,j < i->nth es j=some x->p j x=true)->b (mk i)=some (if p i e=true then .go (mk (i+1)) else .out no))
  (fy:b (mk es.length)=some (.out yes)):∀m i,i+m=es.length->(∀j x,j < i->nth es j=some x->p j x=true)->bR b (mk i)=some (if allI p i (es.drop i)=true then yes else no)
 |0,i,h,hp=>by
  obtain rfl:i=es.length:=by omega
  rw[bk fy,cC];rfl
 |m+1,i,h,hj=>by
  have a1:=dF (l:=es) (i:=i) (by omega);have h1:=nA i _ a1 hj;have e1:allI p i (es.drop i)=(p i (es[i]'(by omega)) && allI p (i+1) (es.drop (i+1))):=by rw[gY es i _ a1];rfl
  rw[e1];by_cases hp:p i (es[i]'(by omega))=true
  ·rw[if_pos hp]at h1;rw[cE h1,hp,bU];refine LH es mk p yes no nA fy m (i+1) (by omega) λj x Uf hx=>?_;rcases cY j i with h2|h2
   ·exact hj j x h2 hx
   ·obtain rfl:j=i:=by omega
    rw[a1]at hx;cases hx;exact hp
  ·rw[if_neg hp]at h1;rw[bk h1,cT.2 hp,df,if_neg cj]
theorem Hy{α σ ρ:Type}{b:σ->Option (Sg σ ρ)}(es:List α)(mk:Nat->σ)(p:Nat->α->Bool)(yes no:ρ)
  (nA:∀i e,nth es i=some e->(∀j x,j < i->nth es j=some x->p j x=true)->b (mk i)=some (if p i e=true then .go (mk (i+1)) else .out no))
  (fy:b (mk es.length)=some (.out yes)):bR b (mk 0)=some (if allI p 0 es=true then yes else no):=
 LH es mk p yes no nA fy es.length 0 (by omega) λj x h _=>by omega
def apart(l:List iF)(i:Nat)(e:iF):Bool:=match i with
 |0=>true
 |i+1=>match nth l i with
  |some p=>decide (p.hi+1 < e.lo)
  |none=>true
def Jf(l:List iF)(i:Nat)(e:iF):Bool:=decide (e.lo<=e.hi) && (decide (-1000000000<=e.lo) && (decide (e.hi<=1000000000) && apart l i e))
def zE(l:List iF):Bool:=allI (Jf l) 0 l && decide (l.length<=6)
theorem qA{l:List iF}{i:Nat}{e:iF}:Jf l i e=true↔e.lo<=e.hi/\-1000000000<=e.lo/\e.hi<=1000000000/\apart l i e=true:=by
 simp[Jf]
theorem tc{l:List iF}{i:Nat}{e:iF}(h:¬(e.lo<=e.hi/\-1000000000<=e.lo/\e.hi<=1000000000)):Jf l i e=false:=by
 rw[cT];intro hk;have:=qA.1 hk;exact h ⟨this.1,this.2.1,this.2.2.1⟩
theorem le6(n:Nat):decide ((n:Int)<=6)=decide (n<=6):=by
 rw[cU];simp
 omega
theorem ahp{l:List iF}(hs:l.length<=mg):G 215 [eR l]=some (0,[.bool (zE l)]):=by
 refine cq adU rfl ?_;simp only[go_sem,t215];have hl:=Hy (b:=lB G EW) l (λi=>(0,[eR l,.int .i64 (i:Int)])) (Jf l) (1,[eR l,.int .i64 l.length,.bool false]) (0,[.bool false]) (by
  intro i e hn hj;have hi:=aR hn;have hw:=wj hi hs;simp only[go_sem,bm,EW,hi,aH,hn,jG,av];by_cases h1:e.hi < e.lo
  ·simp only[go_sem,h1,tc (l:=l) (i:=i) (e:=e) (by omega)]
  by_cases h2:e.lo < -1000000000
  ·simp only[go_sem,h1,h2,tc (l:=l) (i:=i) (e:=e) (by omega),aH,hn,jG]
  by_cases h3:1000000000 < e.hi
  ·simp only[go_sem,h1,h2,h3,tc (l:=l) (i:=i) (e:=e) (by omega),aH,hn,jG]
  cases i with
  |zero=>
   have hk:Jf l 0 e=true:=qA.2 ⟨by omega,by omega,by omega,rfl⟩;simp only[go_sem,h1,h2,h3,hk,aH,hn,jG,n0,ey];simp only[go_sem,n0]at hw;rw[hw]
  |succ i=>
   have a1:=dF (l:=l) (i:=i) (by omega);have hp:=qA.1 (hj i _ (by omega) a1);generalize l[i]'(by omega)=p at a1 hp;have e1:IntKind.i64.wrap (((i+1:Nat):Int) - 1)=(i:Int):=by rw[wrap_i64 (by simp only[mg]at hs;omega)];omega
   have e2:IntKind.i64.wrap (p.hi+1)=p.hi+1:=wrap_i64 (by omega);have e3:(0:Int) < ((i+1:Nat):Int):=by omega
   by_cases h4:e.lo<=p.hi+1
   ·have hk:Jf l (i+1) e=false:=by
     simp only[Jf,apart,a1];have:decide (p.hi+1 < e.lo)=false:=by simp;omega
     simp[this]
    simp only[go_sem,h1,h2,h3,h4,hk,aH,hn,jG,e1,e2,e3,a1]
   ·have hk:Jf l (i+1) e=true:=qA.2 ⟨by omega,by omega,by omega,by simp only[apart,a1];simp;omega⟩;simp only[go_sem,h1,h2,h3,h4,hk,aH,hn,jG,e1,e2,e3,a1,hw]) (by simp only[go_sem,bm,EW,aq,av])
 rw[n0]at hl;rw[hl];unfold zE;cases allI (Jf l) 0 l with
 |false=>simp only[go_sem]
 |true=>simp only[go_sem,av,le6]
theorem ac2(n:Int):G 273 [.int .i64 n]=some (0,[.bool (ff (-1000000000) 1000000000 n)]):=by
 refine cq aeH rfl ?_;simp only[go_sem,afw];unfold ff;by_cases h:-1000000000<=n
 ·simp only[go_sem,h]
 ·simp only[go_sem,h]
theorem ahT{l:List iF}(hs:l.length<=mg):G 274 [eR l]=some (0,[.bool (zE l)]):=by
 refine cq aeI rfl ?_;simp only[go_sem,afx];have hl:=Hy (b:=lB G Fg) l (λi=>(0,[eR l,eR l,.int .i64 l.length,.int .i64 (i:Int)])) (Jf l) (1,[eR l,eR l,.int .i64 l.length,.int .i64 l.length,.bool false]) (0,[.bool false]) (by
  intro i e hn hj;have hi:=aR hn;have hw:=wj hi hs;simp only[go_sem,bm,Fg,hi,aH,hn,jG,aE,aQ,aj];by_cases h1:e.hi < e.lo
  ·simp only[go_sem,h1,tc (l:=l) (i:=i) (e:=e) (by omega)]
  simp only[go_sem,h1,ac2];cases b1:ff (-1000000000) 1000000000 e.lo with
  |false=>
   have:¬(-1000000000<=e.lo/\e.lo<=1000000000):=λh=>by rw[(fH _ _ _).2 h]at b1;cases b1
   simp only[go_sem,tc (l:=l) (i:=i) (e:=e) (by omega)]
  |true=>
   have g1:=(fH _ _ _).1 b1;simp only[go_sem,ac2];cases b2:ff (-1000000000) 1000000000 e.hi with
   |false=>
    have:¬(-1000000000<=e.hi/\e.hi<=1000000000):=λh=>by rw[(fH _ _ _).2 h]at b2;cases b2
    simp only[go_sem,tc (l:=l) (i:=i) (e:=e) (by omega)]
   |true=>
    have g2:=(fH _ _ _).1 b2;simp only[go_sem];cases i with
    |zero=>
     have hk:Jf l 0 e=true:=qA.2 ⟨by omega,by omega,by omega,rfl⟩;simp only[go_sem,hk,n0,ey];simp only[go_sem,n0]at hw;rw[hw]
    |succ i=>
     have a1:=dF (l:=l) (i:=i) (by omega);have hp:=qA.1 (hj i _ (by omega) a1);generalize l[i]'(by omega)=p at a1 hp;have e1:IntKind.i64.wrap (((i+1:Nat):Int) - 1)=(i:Int):=by rw[wrap_i64 (by simp only[mg]at hs;omega)];omega
     have e2:IntKind.i64.wrap (p.hi+2)=p.hi+2:=wrap_i64 (by omega);have e3:(0:Int) < ((i+1:Nat):Int):=by omega
     by_cases h4:e.lo < p.hi+2
     ·have hk:Jf l (i+1) e=false:=by
       simp only[Jf,apart,a1];have:decide (p.hi+1 < e.lo)=false:=by simp;omega
       simp[this]
      simp only[go_sem,h4,hk,aH,jG,e1,e2,e3,a1]
     ·have hk:Jf l (i+1) e=true:=qA.2 ⟨by omega,by omega,by omega,by simp only[apart,a1];simp;omega⟩;simp only[go_sem,h4,hk,aH,jG,e1,e2,e3,a1,hw]) (by simp only[go_sem,bm,Fg,aq])
 rw[n0]at hl;rw[av,hl];unfold zE;cases allI (Jf l) 0 l with
 |false=>simp only[go_sem]
 |true=>simp only[go_sem,av,le6]
def LV(l:List iF)(n:Int):Bool:=l.any (λe=>ff e.lo e.hi n) ||l.isEmpty
theorem qq{α:Type}(l:List α):decide ((l.length:Int)=0)=l.isEmpty:=by cases l<;>simp;omega
theorem LI{α σ ρ:Type}{b:σ->Option (Sg σ ρ)}(es:List α)(mk:Nat->σ)(p:α->Bool)(none_ Nx:ρ)
  (nA:∀i e,nth es i=some e->b (mk i)=some (if p e=true then .out Nx else .go (mk (i+1))))
  (fy:b (mk es.length)=some (.out none_)):bR b (mk 0)=some (if es.any p=true then Nx else none_):=by
 rw[nP es mk p none_ (λ_ _=>Nx) nA fy,<- vc (k:=0)];cases hf:pV p es 0 with
 |none=>rfl
 |some j=>
  obtain⟨e,h1,h2⟩:=dr hf;simp[h1]
theorem ahv{l:List iF}{n:Int}(hs:l.length<=mg):G 232 [eR l,.int .i64 n]=some (0,[.bool (LV l n)]):=by
 refine cq ad5 rfl ?_;simp only[go_sem,t232];have hl:=LI (b:=lB G EX) l (λi=>(0,[eR l,.int .i64 n,.int .i64 (i:Int)])) (λe=>ff e.lo e.hi n) (1,[eR l,.int .i64 n,.int .i64 l.length,.bool false]) (0,[.bool true]) (by
  intro i e hn;have hi:=aR hn;have hw:=wj hi hs;simp only[go_sem,bm,EX,hi,aH,hn,jG,av,yG];cases hb:ff e.lo e.hi n<;>simp only[go_sem,hw]) (by simp only[go_sem,bm,EX,aq,av])
 rw[n0]at hl;rw[hl];unfold LV;cases l.any (λe=>ff e.lo e.hi n) with
 |true=>simp only[go_sem]
 |false=>simp only[go_sem,av,qq]
theorem ahY{l:List iF}{n:Int}(hs:l.length<=mg):G 288 [eR l,.int .i64 n]=some (0,[.bool (LV l n)]):=by
 refine cq aeO rfl ?_;simp only[go_sem,afC];have hl:=LI (b:=lB G Fj) l (λi=>(0,[eR l,.int .i64 n,eR l,.int .i64 l.length,.int .i64 (i:Int)])) (λe=>ff e.lo e.hi n) (1,[eR l,.int .i64 n,eR l,.int .i64 l.length,.int .i64 l.length,.bool false]) (0,[.bool true]) (by
  intro i e hn;have hi:=aR hn;have hw:=wj hi hs;simp only[go_sem,bm,Fj,hi,aH,hn,jG,aE,aQ,aj];unfold ff;by_cases h1:e.lo<=n
  ·by_cases h2:n<=e.hi<;>simp only[go_sem,h1,h2,hw]
  ·simp only[go_sem,h1,hw]) (by simp only[go_sem,bm,Fj,aq])
 rw[n0]at hl;rw[av,hl];unfold LV;cases l.any (λe=>ff e.lo e.hi n) with
 |true=>simp only[go_sem]
 |false=>simp only[go_sem,av,qq]
end
section
def dg(s:ByteArray):Nat->Nat->Int->Option Int
 |_,0,n=>some n
 |i,m+1,n=>if ff 48 57 (da s i)=true then (if 1000000000 < 10 * n+(da s i - 48) then none else dg s (i+1) m (10 * n+(da s i - 48))) else none
def Xi(s:ByteArray):Option Int->Nat×List D
 |some r=>(1,[.str s,.int .i64 r,.int .i64 s.size,.bool false])
 |none=>(0,[.int .i64 0,.bool false])
theorem Lm{s:ByteArray}(hs:s.size<=mg):∀(m i:Nat) (n:Int),i+m=s.size->0<=n->n<=1000000000->
  bR (lB G wU) (0,[.str s,.int .i64 n,.int .i64 (i:Int)])=some (Xi s (dg s i m n))
 |0,i,n,h,h0,h1=>by
  obtain rfl:i=s.size:=by omega
  refine bk ?_;simp only[go_sem,bm,wU,aq,dg,Xi]
 |m+1,i,n,h,h0,h1=>by
  have hi:i < s.size:=by omega
  have hw:=wj hi hs;have hb:=pY s i;cases hd:ff 48 57 (da s i) with
  |false=>
   refine (bk (r:=(0,[.int .i64 0,.bool false])) ?_).trans (by simp[dg,hd,Xi]);simp only[go_sem,bm,wU,hi,eo,yG,hd]
  |true=>
   have h2:=(fH _ _ _).1 hd;have e1:IntKind.i64.wrap (10 * n)=10 * n:=wrap_i64 (by omega);have e2:IntKind.u8.wrap (da s i - 48)=da s i - 48:=wrap_u8 (by omega);have e3:IntKind.i64.wrap (da s i - 48)=da s i - 48:=wrap_i64 (by omega);have e4:IntKind.i64.wrap (10 * n+(da s i - 48))=10 * n+(da s i - 48):=wrap_i64 (by omega);by_cases h3:1000000000 < 10 * n+(da s i - 48)
   ·refine (bk (r:=(0,[.int .i64 0,.bool false])) ?_).trans (by simp[dg,hd,Xi,h3]);simp only[go_sem,bm,wU,hi,eo,yG,hd,e1,e2,e3,e4,h3]
   ·rw[show dg s i (m+1) n=dg s (i+1) m (10 * n+(da s i - 48)) by simp[dg,hd,h3],<- Lm hs m (i+1) _ (by omega) (by omega) (by omega)];refine cE ?_;simp only[go_sem,bm,wU,hi,eo,yG,hd,e1,e2,e3,e4,h3,hw]
def FO(s:ByteArray):Option Int:=if s.size=0 then none else dg s 0 s.size 0
def lu:Option Int->List D
 |some n=>[.int .i64 n,.bool true]
 |none=>[.int .i64 0,.bool false]
theorem gt0(n:Nat):decide (0 < (n:Int))=!decide (n=0):=by
 rw[cU];simp;omega
theorem Y4{s:ByteArray}(hs:s.size<=mg):G 229 [.str s]=some (0,lu (FO s)):=by
 refine cq ad2 rfl ?_;simp only[go_sem,t229];have hl:=Lm hs s.size 0 0 (by omega) (by omega) (by omega);rw[n0]at hl;rw[hl];unfold FO;by_cases h0:s.size=0
 ·rw[if_pos h0,h0];simp only[go_sem,dg,Xi,lu,h0,n0,ey]
 ·rw[if_neg h0];cases dg s 0 s.size 0 with
  |none=>simp only[go_sem,Xi,lu]
  |some n=>
   have:(0:Int) < (s.size:Int):=by omega
   simp only[go_sem,Xi,lu,this]
theorem zV{s:ByteArray}:∀(m i:Nat) (n r:Int),0<=n->n<=1000000000->dg s i m n=some r->0<=r/\r<=1000000000
 |0,i,n,r,h0,h1,h=>by cases h;exact⟨h0,h1⟩
 |m+1,i,n,r,h0,h1,h=>by
  simp only[dg]at h
  split at h
  ·rename_i hd;have h2:=(fH _ _ _).1 hd
   split at h
   ·cases h
   ·exact zV m (i+1) _ r (by omega) (by omega) h
  ·cases h
theorem DN{s:ByteArray}{r:Int}(h:FO s=some r):0<=r/\r<=1000000000:=by
 unfold FO at h
 split at h
 ·cases h
 ·exact zV _ _ _ _ (by omega) (by omega) h
def Ku(s:ByteArray):Bool:=!decide (s.size=0) && (decide (da s 0=45) ||decide (da s 0=43))
def tl(s:ByteArray):ByteArray:=s.extract 1 s.size
theorem F8(s:ByteArray):(tl s).size=s.size - 1:=by simp[tl]
def Jg(s:ByteArray):Option Int:=(FO (if Ku s=true then tl s else s)).map λn=>if da s 0=45 then -n else n
theorem zn(t:ByteArray)(h:1<=t.size):aK (.Ji false) [.str t,.int .i64 1]=some (.str (tl t)):=by
 simp[aK,dI,tl,h]
theorem mb{t:ByteArray}(h:0 < t.size):aK .kW [.str t,.int .i64 0]=some (.int .u8 (da t 0)):=eo t 0 h
theorem Ow{s:ByteArray}{r:Int}(h:Jg s=some r):-1000000000<=r/\r<=1000000000:=by
 obtain⟨n,h1,rfl⟩:=ad.1 h;have:=DN h1
 split<;>omega
theorem af7{s:ByteArray}{r:Int}(h:FO s=some r):0 < s.size:=by
 unfold FO at h
 split at h
 ·cases h
 ·omega
theorem ahu{s:ByteArray}(hs:s.size<=mg):G 230 [.str s]=some (0,lu (Jg s)):=by
 refine cq ad3 rfl ?_;simp only[go_sem,t230];have ht:=Y4 (s:=tl s) (by rw[F8];omega);by_cases h0:s.size=0
 ·have hr:Jg s=none:=by simp[Jg,Ku,h0,FO]
  have hd:FO s=none:=by simp[FO,h0]
  rw[hr];simp only[go_sem,gt0,h0,Y4 hs,hd,lu]
 ·have hp:0 < s.size:=by omega
  simp only[go_sem,gt0,h0,mb hp];by_cases h1:da s 0=45
  ·have QW:Ku s=true:=by simp[Ku,h0,h1]
   simp only[go_sem,h1,zn s hp,ht,Jg,QW];cases hr:FO (tl s) with
   |none=>simp only[go_sem,lu]
   |some n=>
    have:=DN hr;have hw:IntKind.i64.wrap (-n)=-n:=wrap_i64 (by omega);simp only[go_sem,lu,mb hp,h1,hw]
  ·by_cases h2:da s 0=43
   ·have QW:Ku s=true:=by simp[Ku,h0,h2]
    simp only[go_sem,h2,zn s hp,ht,Jg,QW,mb hp];cases hr:FO (tl s) with
    |none=>simp only[go_sem,lu]
    |some n=>simp only[go_sem,lu,mb hp,h2]
   ·have QW:Ku s=false:=by simp[Ku,h1,h2]
    simp only[go_sem,h1,h2,Y4 hs,Jg,QW,mb hp];cases hr:FO s with
    |none=>simp only[go_sem,lu]
    |some n=>simp only[go_sem,lu,mb hp,h1]
def di(s:ByteArray):Nat->Nat->Int->Option Int
 |_,0,n=>some n
 |i,m+1,n=>if ff 48 57 (da s i)=true then di s (i+1) m (if n<=1000000000 then n * 10+(da s i - 48) else n) else none
theorem PK(s:ByteArray):∀(m i:Nat) (n r:Int),1000000000 < n->di s i m n=some r->r=n
 |0,i,n,r,h,hd=>by cases hd;rfl
 |m+1,i,n,r,h,hd=>by
  simp only[di]at hd
  split at hd
  ·rw[if_neg (by omega)]at hd;exact PK s m (i+1) n r h hd
  ·cases hd
theorem V4(s:ByteArray):∀(m i:Nat) (n:Int),0<=n->n<=1000000000->(match di s i m n with|some r=>if 1000000000 < r then none else some r|none=>none)=dg s i m n
 |0,i,n,h0,h1=>by
  simp only[di,dg];rw[if_neg (by omega)]
 |m+1,i,n,h0,h1=>by
  simp only[di,dg];cases hd:ff 48 57 (da s i) with
  |false=>simp
  |true=>
   have h2:=(fH _ _ _).1 hd;simp only[if_true];rw[if_pos h1,show n * 10+(da s i - 48)=10 * n+(da s i - 48) by omega];by_cases h3:1000000000 < 10 * n+(da s i - 48)
   ·rw[if_pos h3];cases hr:di s (i+1) m (10 * n+(da s i - 48)) with
    |none=>rfl
    |some r=>
     rw[PK s m (i+1) _ r h3 hr];simp only[if_pos h3]
   ·rw[if_neg h3];exact V4 s m (i+1) _ (by omega) (by omega)
def PJ(s:ByteArray)(b:Bool):Option Int->Nat×List D
 |some r=>(1,[.str s,.bool b,.int .i64 r,.int .i64 s.size,.bool false])
 |none=>(0,[.int .i64 0,.bool false])
theorem UL:Rj=sa:=(rfl)
theorem uX{s:ByteArray}(hs:s.size<=mg)(b:Bool):∀(m i:Nat) (n:Int),i+m=s.size->0<=n->n<=10000000009->
  bR (lB G sa) (0,[.str s,.bool b,.int .i64 n,.int .i64 (i:Int)])=some (PJ s b (di s i m n))
 |0,i,n,h,h0,h1=>by
  obtain rfl:i=s.size:=by omega
  refine bk ?_;simp only[go_sem,bm,sa,aq,di,PJ]
 |m+1,i,n,h,h0,h1=>by
  have hi:i < s.size:=by omega
  have hw:=wj hi hs;have hb:=pY s i;by_cases d1:da s i < 48
  ·have hd:ff 48 57 (da s i)=false:=by simp[ff];omega
   refine (bk (r:=(0,[.int .i64 0,.bool false])) ?_).trans (by simp[di,hd,PJ]);simp only[go_sem,bm,sa,hi,eo,d1]
  ·by_cases d2:57 < da s i
   ·have hd:ff 48 57 (da s i)=false:=by simp[ff];omega
    refine (bk (r:=(0,[.int .i64 0,.bool false])) ?_).trans (by simp[di,hd,PJ]);simp only[go_sem,bm,sa,hi,eo,d1,d2]
   ·have hd:ff 48 57 (da s i)=true:=by simp[ff];omega
    have e1:n<=1000000000->IntKind.i64.wrap (n * 10)=n * 10:=λh=>wrap_i64 (by omega);have e2:IntKind.u8.wrap (da s i - 48)=da s i - 48:=wrap_u8 (by omega);have e3:IntKind.i64.wrap (da s i - 48)=da s i - 48:=wrap_i64 (by omega);have e4:n<=1000000000->IntKind.i64.wrap (n * 10+(da s i - 48))=n * 10+(da s i - 48):=λh=>wrap_i64 (by omega);by_cases h3:n<=1000000000
    ·rw[show di s i (m+1) n=di s (i+1) m (n * 10+(da s i - 48)) by simp[di,hd,h3],<- uX hs b m (i+1) _ (by omega) (by omega) (by omega)];refine cE ?_;simp only[go_sem,bm,sa,hi,eo,d1,d2,e1 h3,e2,e3,e4 h3,h3,hw]
    ·rw[show di s i (m+1) n=di s (i+1) m n by simp[di,hd,h3],<- uX hs b m (i+1) _ (by omega) (by omega) (by omega)];refine cE ?_;simp only[go_sem,bm,sa,hi,eo,d1,d2,h3,hw]
theorem cy(s:ByteArray):decide (s=⟨#[]⟩)=decide (s.size=0):=by
 rw[cU];simp only[decide_eq_true_eq];refine⟨λh=>by rw[h];rfl,λh=>?_⟩;cases s with
 |mk a=>simp[n8]at h;rw[h]
theorem ba0:(⟨[].toArray⟩:ByteArray)=⟨#[]⟩:=(rfl)
attribute [go_sem] ba0 cy UL
theorem ahX{s:ByteArray}(hs:s.size<=mg):G 287 [.str s]=some (0,lu (Jg s)):=by
 refine cq aeN rfl ?_;simp only[go_sem,afB];have fin:∀(t:ByteArray) (b:Bool),t.size<=mg->(match di t 0 t.size 0 with|some r=>if 1000000000 < r then none else some r|none=>none)=dg t 0 t.size 0:=λt b ht=>V4 t t.size 0 0 (by omega) (by omega);by_cases h0:s.size=0
 ·have hr:Jg s=none:=by simp[Jg,Ku,h0,FO]
  rw[hr];simp only[go_sem,h0,lu]
 ·have hp:0 < s.size:=by omega
  simp only[go_sem,h0,mb hp];by_cases h1:da s 0=45
  ·have QW:Ku s=true:=by simp[Ku,h0,h1]
   have mH:(tl s).size<=mg:=by rw[F8];omega
   have hf:=fin (tl s) true mH;have hl:=uX mH true (tl s).size 0 0 (by omega) (by omega) (by omega);rw[n0]at hl;simp only[go_sem,h1,zn s hp,mb hp,Jg,QW];by_cases ht:(tl s).size=0
   ·simp only[go_sem,ht,FO,lu]
   ·simp only[go_sem,ht,FO,hl];rw[<- hf];cases hr:di (tl s) 0 (tl s).size 0 with
    |none=>simp only[go_sem,PJ,lu]
    |some n=>
     by_cases hm:1000000000 < n
     ·simp only[go_sem,PJ,lu,hm]
     ·have h9:dg (tl s) 0 (tl s).size 0=some n:=by rw[<- hf,hr];simp[hm]
      have:=zV _ _ _ _ (by omega) (by omega) h9;have hw:IntKind.i64.wrap (-n)=-n:=wrap_i64 (by omega);simp only[go_sem,PJ,lu,hm,hw]
  ·by_cases h2:da s 0=43
   ·have QW:Ku s=true:=by simp[Ku,h0,h2]
    have mH:(tl s).size<=mg:=by rw[F8];omega
    have hf:=fin (tl s) false mH;have hl:=uX mH false (tl s).size 0 0 (by omega) (by omega) (by omega);rw[n0]at hl;simp only[go_sem,h2,zn s hp,mb hp,Jg,QW];by_cases ht:(tl s).size=0
    ·simp only[go_sem,ht,FO,lu]
    ·simp only[go_sem,ht,FO,hl];rw[<- hf];cases hr:di (tl s) 0 (tl s).size 0 with
     |none=>simp only[go_sem,PJ,lu]
     |some n=>by_cases hm:1000000000 < n<;>simp only[go_sem,PJ,lu,hm]
   ·have QW:Ku s=false:=by simp[Ku,h1,h2]
    have hf:=fin s false hs;have hl:=uX hs false s.size 0 0 (by omega) (by omega) (by omega);rw[n0]at hl;simp only[go_sem,h1,h2,Jg,QW,h0,FO,hl,mb hp];rw[<- hf];cases hr:di s 0 s.size 0 with
    |none=>simp only[go_sem,PJ,lu]
    |some n=>by_cases hm:1000000000 < n<;>simp only[go_sem,PJ,lu,hm]
end
section
def bA(l:List UInt8):ByteArray:=⟨l.toArray⟩
theorem Pg(l m:List UInt8)(s:ByteArray):bA l++(bA m++s)=bA (l++m)++s:=by
 apply pv
 simp only[bA,l7];rw[<- Array.append_assoc];simp
def wB(n:Int):ByteArray:=bA (Lib.itoa n)
def Eh(u:Nat):List UInt8:=if u=0 then [] else Lib.decDigits u
theorem CV{u:Nat}(h:u≠0):Eh u=Eh (u / 10)++[cL (48+u % 10)]:=by
 unfold Eh;rw[if_neg h];rw[Lib.decDigits];by_cases h1:u < 10
 ·have:u / 10=0:=by omega
  rw[dif_pos h1,if_pos this,show u % 10=u by omega];rfl
 ·have:u / 10≠0:=by omega
  rw[dif_neg h1,if_neg this]
theorem tg(c:Int):aK .yq [.list 1 true [[.int .u8 c]]]=some (.str (bA [cL c.toNat])):=by
 simp[aK,bytesOf,bA]
theorem qC(k:IntKind)(c:Int):aK (.eg 1 true) [.int k c]=some (.list 1 true [[.int k c]]):=by
 simp[aK,chunk,cQ,D.plain]
theorem Ln:∀(k u:Nat),u < 10 ^ (k+1)->(Lib.decDigits u).length<=k+1
 |0,u,h=>by rw[Lib.decDigits,dif_pos (by omega)];simp
 |k+1,u,h=>by
  rw[Lib.decDigits];split
  ·simp
  ·have:=Ln k (u / 10) (by rw[Nat.pow_succ]at h;omega);simp only[aO,aE,aQ];omega
theorem ot(l:List UInt8):(bA l).size=l.length:=by simp[bA,n8]
theorem LA{n:Int}{h:Nat}{u:Nat}{s:ByteArray}{x:Int}{zs:List D}(hz:(h=0/\zs=[])\/(h=1/\∃z,zs=[z]))(hu:0 < u)(hb:u<=1000000000)(hs:s.size<=20)(hx:x=(u:Int)\/x=-(u:Int)) :
  ∃z x',(x'=((u / 10:Nat):Int)\/x'=-((u / 10:Nat):Int))/\lB G mQ (h,[.int .i64 n,.str s,.int .i64 x]++zs)=some (.go (1,[.int .i64 n,.str (bA [cL (48+u % 10)]++s),.int .i64 x',z])):=by
 have hm:u % 10 < 10:=Nat.mod_lt _ (by omega);have e1:IntKind.i64.wrap (48+((u % 10:Nat):Int))=((48+u % 10:Nat):Int):=by rw[wrap_i64 (by omega)];omega
 have e2:IntKind.u8.wrap ((48+u % 10:Nat):Int)=((48+u % 10:Nat):Int):=wrap_u8 (by omega);have e3:(((48+u % 10:Nat):Int)).toNat=48+u % 10:=cB _;have e4:IntKind.i64.wrap ((u % 10:Nat):Int)=((u % 10:Nat):Int):=wrap_i64 (by omega);have HA:(bA [cL (48+u % 10)]).size+s.size<=maxLen:=by rw[ot];simp only[aE,aQ];exact az (show 0+1+s.size<=21 by omega) (by decide)
 have m1:(u:Int) % 10=((u % 10:Nat):Int):=rfl;have m2:(u:Int) / 10=((u / 10:Nat):Int):=rfl;have p0:0<=(u:Int):=by omega
 have n1:¬0<=-(u:Int):=by omega
 have n2:-(u:Int) < 0:=by omega
 rcases hx with rfl|rfl
 ·have d1:¬(u:Int)=0:=by omega
  have d2:¬((u % 10:Nat):Int) < 0:=by omega
  refine⟨.list 1 true [[.int .u8 ((48+u % 10:Nat):Int)]],_,.inl rfl,?_⟩;rcases hz with ⟨rfl,rfl⟩|⟨rfl,z,rfl⟩
  ·simp only[go_sem,bm,mQ,d1,p0,m1,m2,d2,e1,e2,e3,HA,qC,tg]
  ·simp only[go_sem,bm,mQ,d1,p0,m1,m2,d2,e1,e2,e3,HA,qC,tg]
 ·have d1:¬-(u:Int)=0:=by omega
  refine⟨.list 1 true [[.int .u8 ((48+u % 10:Nat):Int)]],_,.inr rfl,?_⟩;by_cases d2:-((u % 10:Nat):Int) < 0
  ·rcases hz with ⟨rfl,rfl⟩|⟨rfl,z,rfl⟩
   ·simp only[go_sem,bm,mQ,d1,n1,n2,m1,m2,qH,d2,e1,e2,e3,e4,HA,qC,tg]
   ·simp only[go_sem,bm,mQ,d1,n1,n2,m1,m2,qH,d2,e1,e2,e3,e4,HA,qC,tg]
  ·have e5:-((u % 10:Nat):Int)=((u % 10:Nat):Int):=by omega
   rw[e5]at d2;rcases hz with ⟨rfl,rfl⟩|⟨rfl,z,rfl⟩
   ·simp only[go_sem,bm,mQ,d1,n1,n2,m1,m2,qH,e5,d2,e1,e2,e3,HA,qC,tg]
   ·simp only[go_sem,bm,mQ,d1,n1,n2,m1,m2,qH,e5,d2,e1,e2,e3,HA,qC,tg]
theorem Ly{n:Int}:∀(k u:Nat) (s:ByteArray) (x:Int) (z:D),u < 10 ^ k->k<=10->s.size+k<=20->u<=1000000000->(x=(u:Int)\/x=-(u:Int))->
  ∃z',bR (lB G mQ) (1,[.int .i64 n,.str s,.int .i64 x,z])=some (1,[.int .i64 n,.str (bA (Eh u)++s),.int .i64 0,.bool false,z'])
 |k,u,s,x,z,hu,hk,hs,hb,hx=>by
  by_cases h0:u=0
  ·obtain rfl:x=0:=by omega
   refine⟨z,bk ?_⟩;have:bA (Eh u)++s=s:=by rw[h0];apply pv;simp[Eh,bA,l7]
   rw[this];simp only[go_sem,bm,mQ]
  ·cases k with
   |zero=>omega
   |succ k=>
    obtain⟨z1,x',hx',h1⟩:=LA (n:=n) (h:=1) (u:=u) (s:=s) (x:=x) (zs:=[z]) (.inr ⟨rfl,z,rfl⟩) (by omega) hb (by omega) hx;rw[Nat.pow_succ]at hu;obtain⟨z2,h2⟩:=Ly k (u / 10) (bA [cL (48+u % 10)]++s) x' z1 (by omega) (by omega) (by rw[gL,ot];simp only[aE,aQ];omega) (by omega) hx';refine⟨z2,?_⟩;rw[CV h0,<- Pg,<- h2];exact cE h1
theorem acW{n:Int}(hn:-1000000000<=n/\n<=1000000000):G 231 [.int .i64 n]=some (0,[.str (wB n)]):=by
 refine cq ad4 rfl ?_;simp only[go_sem,t231];by_cases h0:n=0
 ·subst h0;have hf:wB 0=⟨#[48]⟩:=by
   unfold wB Lib.itoa;rw[if_neg (by omega)];show bA (Lib.decDigits 0)=_;rw[Lib.decDigits_one (by decide)];rfl
  rw[hf];simp only[go_sem]
 ·simp only[go_sem,h0];have hu:n.natAbs<=1000000000:=by omega
  obtain⟨z1,x',hx',h1⟩:=LA (n:=n) (h:=0) (u:=n.natAbs) (s:=⟨#[]⟩) (x:=n) (zs:=[]) (.inl ⟨rfl,rfl⟩) (by omega) hu (by simp[n8]) (by omega);have ic:n.natAbs / 10 < 10 ^ 9:=by omega
  obtain⟨z2,h2⟩:=Ly (n:=n) 9 (n.natAbs / 10) (bA [cL (48+n.natAbs % 10)]++⟨#[]⟩) x' z1 ic (by omega) (by rw[gL,ot];simp[n8]) (by omega) hx';have h3:bR (lB G mQ) (0,[.int .i64 n,.str ⟨#[]⟩,.int .i64 n])=some (1,[.int .i64 n,.str (bA (Eh n.natAbs)),.int .i64 0,.bool false,z2]):=by
   have Xz:lB G mQ (0,[.int .i64 n,.str ⟨#[]⟩,.int .i64 n])=_:=h1;rw[cE Xz,h2,Pg,<- CV (by omega)]
   congr 5
   apply pv
   simp[bA,l7]
  rw[h3];have hd:Eh n.natAbs=Lib.decDigits n.natAbs:=by rw[Eh,if_neg (by omega)]
  rw[hd];by_cases h4:n < 0
  ·have hf:wB n=bA [45]++bA (Lib.decDigits n.natAbs):=by
    unfold wB Lib.itoa;rw[if_pos h4]
    apply pv
    simp[bA,l7]
   have hl:(Lib.decDigits n.natAbs).length<=10:=Ln 9 _ (by omega);have HA:(bA [45]).size+(bA (Lib.decDigits n.natAbs)).size<=maxLen:=by rw[ot,ot];simp only[aE,aQ];exact az (show 0+1+(Lib.decDigits n.natAbs).length<=11 by omega) (by decide)
   rw[hf];have e0:(⟨[(45:UInt8)].toArray⟩:ByteArray)=bA [45]:=rfl;simp only[go_sem,h4,e0,HA]
  ·have hf:wB n=bA (Lib.decDigits n.natAbs):=by
    unfold wB Lib.itoa;rw[if_neg h4]
    congr 2
    omega
   rw[hf];simp only[go_sem,h4]
theorem adj(n:Int):G 9001 [.int .i64 n]=some (0,[.str (wB n)]):=
 tJ (i:=9001) (sg:=⟨9001,[.val false [.d]],[([.val false [.d]],[])]⟩) (v:=([.val false [.d]],[])) (j:=0) (r:=([.val false [.d (.str (wB n))]],[])) (ws:=[.int .i64 n]) rfl rfl ((Rv T rfl [.val false [.d (.int .i64 n)]]).trans rfl) rfl rfl
theorem ac9(n:Int):G 303 [.int .i64 n]=some (0,[.str (wB n)]):=by
 refine cq aeP rfl ?_;simp only[go_sem,afD,adj]
end
section
theorem zC{α:Type}(p q:Nat->α->Bool):∀(i:Nat) (l:List α),allI (λi e=>p i e && q i e) i l=(allI p i l && allI q i l)
 |_,[]=>rfl
 |i,e::l=>by
  simp only[allI,zC p q (i+1) l];cases p i e<;>cases q i e<;>cases allI p (i+1) l<;>simp
theorem GM{α β:Type}(p:Nat->β->Bool)(f:α->β):∀(i:Nat) (l:List α),allI p i (l.map f)=allI (λi e=>p i (f e)) i l
 |_,[]=>rfl
 |i,e::l=>by simp only[aN,allI,GM p f (i+1) l]
def VZ{α:Type}(q:α->Bool)(t:List α)(j:Nat):Bool:=match nth t j with
 |some x=>q x
 |none=>true
theorem uP{α:Type}(q:α->Bool)(t:List α):∀(m i:Nat),i+m<=t.length->oS (VZ q t) i m=((t.drop i).take m).all q
 |0,i,h=>by simp[oS]
 |m+1,i,h=>by
  have a1:=dF (l:=t) (i:=i) (by omega);rw[gY t i _ a1,cD,bW,<- uP q t m (i+1) (by omega)];simp only[oS,VZ,a1]
def oY(t:kg):Bool:=isName t.name && gG t.value
def td(l:List kg):Bool:=qf (l.map kg.name) && l.all oY
theorem QG(l:List kg)(v:ByteArray):nQ (l.map kg.name) v=!(l.all λx=>!decide (x.name=v)):=by
 induction l with
 |nil=>rfl
 |cons x l ih=>
  simp only[aN,nQ,kT,bW]at ih ⊢;rw[ih,decide_eq_decide.2 (eq_comm (a:=v) (b:=x.name))];cases decide (x.name=v)<;>simp
theorem Kk(l:List kg):td l=allI (λk e=>((l.take k).all λx=>!decide (x.name=e.name)) && oY e) 0 l:=by
 have h:=zC (λk (e:kg)=>(l.take k).all λx=>!decide (x.name=e.name)) (λ_ e=>oY e) 0 l;rw[td,h,rE,qf,GM]
 congr 2
 funext i e
 rw[<- qJ,QG,fm]
def isStep(s:uO):Bool:=td s.fu && (isName s.name && decide (s.fu.length<=3))
def ME(p:ml):Bool:=ff 0 8 p.oL && (decide (p.steps.length<=10) && ((!p.root ||decide (p.oL=0)) && (p.root ||(decide (0 < p.oL) ||!p.steps.isEmpty))))
def jJ(p:ml):Bool:=p.steps.all isStep && ME p
theorem Ob(n k:Nat):decide ((n:Int)<=(k:Int))=decide (n<=k):=by rw[cU];simp
theorem abS(n:Nat):decide ((n:Int)<=3)=decide (n<=3):=Ob n 3
theorem agj(n:Nat):decide (3 < (n:Int))=!decide (n<=3):=by rw[cU];simp;omega
theorem Wx(n:Nat):decide ((n:Int)<=10)=decide (n<=10):=Ob n 10
theorem Gu{α:Type}(l:List α):decide (0 < (l.length:Int))=!l.isEmpty:=by cases l<;>simp
theorem fE{α:Type}{f:α->List D}{l:List α}{x:α}{n:Nat}(h:cA f l<=n)(hx:x∈l):fc (f x)<=n/\l.length<=n:=by
 have:=eS f hx;simp only[cA]at *;omega
section
variable {s:uO} {rt:Bool} {up:Int} {ss:List uO}
theorem NP{t:List kg}{e:kg}{k i:Nat}(hn:nth t k=some e)(ht:cA nM t<=mg) :
  bR (lB G AK) (0,[.int .i64 (i:Int),hZ t,.int .i64 (k:Int),.int .i64 0,.bool rt,.int .i64 up,eE ss]) =
   some (if (t.take k).all (λx=>!decide (x.name=e.name))=true then (1,[.int .i64 (i:Int),hZ t,.int .i64 (k:Int),.int .i64 (k:Int),.bool false,.bool rt,.int .i64 up,eE ss]) else (0,[.bool false])):=by
 have hk:=aR hn;have hlen:t.length<=mg:=by simp only[cA]at ht;omega
 have hl:=oC (b:=lB G AK) (λj=>(0,[.int .i64 (i:Int),hZ t,.int .i64 (k:Int),.int .i64 (j:Int),.bool rt,.int .i64 up,eE ss])) (VZ (λx=>!decide (x.name=e.name)) t) k
  (1,[.int .i64 (i:Int),hZ t,.int .i64 (k:Int),.int .i64 (k:Int),.bool false,.bool rt,.int .i64 up,eE ss]) (0,[.bool false]) (by
  intro j hj;have a1:=dF (l:=t) (i:=j) (by omega);have hw:=wj (i:=j) (n:=k) hj (by omega);generalize t[j]'(by omega)=x at a1;simp only[go_sem,bm,AK,hj,aH,hn,a1,nM,VZ];cases hc:decide (x.name=e.name)<;>simp only[go_sem,hw]) (by simp only[go_sem,bm,AK,aq]) k 0 (by omega)
 rw[n0]at hl;rw[hl,uP _ t k 0 (by omega),aX]
theorem NQ{t:List kg}{i:Nat}(ht:cA nM t<=mg) :
  bR (lB G AL) (0,[.int .i64 (i:Int),hZ t,.int .i64 0,.bool rt,.int .i64 up,eE ss]) =
   some (if td t=true then (1,[.int .i64 (i:Int),hZ t,.int .i64 t.length,.bool false,.bool rt,.int .i64 up,eE ss]) else (0,[.bool false])):=by
 have hlen:t.length<=mg:=by simp only[cA]at ht;omega
 have hl:=nk (b:=lB G AL) t (λk=>(0,[.int .i64 (i:Int),hZ t,.int .i64 (k:Int),.bool rt,.int .i64 up,eE ss])) (λk e=>((t.take k).all λx=>!decide (x.name=e.name)) && oY e)
  (1,[.int .i64 (i:Int),hZ t,.int .i64 t.length,.bool false,.bool rt,.int .i64 up,eE ss]) (0,[.bool false]) (by
  intro k e hn;have hk:=aR hn;have hw:=wj hk hlen;have mH:=eS nM (aT hn);rw[IN]at mH;have h1:=Vh (s:=e.name) (by omega);have h2:=Vi (s:=e.value) (by omega);simp only[go_sem,bm,AL,hk,av,NP hn ht];cases hc:(t.take k).all (λx=>!decide (x.name=e.name)) with
  |false=>simp only[go_sem]
  |true=>
   simp only[go_sem,aH,hn,nM,h1];cases h3:isName e.name with
   |false=>simp only[go_sem,h3,oY]
   |true=>
    simp only[go_sem,h3,oY,aH,hn,nM,h2];cases h4:gG e.value<;>simp only[go_sem,hw]) (by simp only[go_sem,bm,AL,aq,av]) t.length 0 (by omega)
 rw[n0,aX]at hl;rw[hl,Kk]
end
theorem IA(p:ml):ME p=(ff 0 8 p.oL && decide (p.steps.length<=10) && (!p.root ||decide (p.oL=0)) && (p.root ||(decide (0 < p.oL) ||!p.steps.isEmpty))):=by
 simp[ME,fW]
theorem ahj{p:ml}(hs:fc (jF p)<=mg):G 205 (jF p)=some (0,[.bool (jJ p)]):=by
 rw[BV]at hs;have hlen:p.steps.length<=mg:=by simp only[cA]at hs;omega
 refine cq adK rfl ?_;simp only[go_sem,t205,jF];have hl:=iG (b:=lB G ES) p.steps (λi=>(0,[.int .i64 (i:Int),.bool p.root,.int .i64 p.oL,eE p.steps])) isStep (1,[.int .i64 p.steps.length,.bool false,.bool p.root,.int .i64 p.oL,eE p.steps]) (0,[.bool false]) (by
  intro i e hn;have hi:=aR hn;have hw:=wj hi hlen;have mH:=eS jY (aT hn);rw[vH]at mH;have h1:=Vh (s:=e.name) (by omega);simp only[go_sem,bm,ES,hi,av,aH,hn,jY,NQ (t:=e.fu) (by omega)];cases h2:td e.fu with
  |false=>simp only[go_sem,h2,isStep]
  |true=>
   simp only[go_sem,h2,isStep,aH,hn,jY,h1];cases h3:isName e.name with
   |false=>simp only[go_sem]
   |true=>
    simp only[go_sem,av,agj];cases h4:decide (e.fu.length<=3)<;>simp only[go_sem,hw]) (by simp only[go_sem,bm,ES,aq,av])
 rw[n0]at hl;rw[hl,jJ];cases p.steps.all isStep with
 |false=>simp only[go_sem]
 |true=>
  rw[IA];simp only[go_sem,yG]
  repeat' (first|with_reducible rfl|((first|rw[eX]|rw[eZ]|rw[eW]|rw[eY]);split<;>simp only[go_sem,av,Wx,Gu, *]))
  all_goals simp_all
theorem ahN{s:uO}(hs:fc (jY s)<=mg):G 265 (jY s)=some (0,[.bool (isStep s)]):=by
 rw[vH]at hs;have hlen:s.fu.length<=mg:=by simp only[cA]at hs;omega
 refine cq aez rfl ?_;simp only[go_sem,afn,jY];have hl:=iG (b:=lB G AX) s.fu (λi=>(0,[hZ s.fu,.int .i64 s.fu.length,.int .i64 (i:Int),.str s.name,hZ s.fu,bp ((s.fu.take i).map kg.name)])) oY
  (1,[hZ s.fu,.int .i64 s.fu.length,.int .i64 s.fu.length,.bool false,.str s.name,hZ s.fu,bp (s.fu.map kg.name)]) (0,[.bool false]) (by
  intro i e hn;have hi:=aR hn;have hw:=wj hi hlen;have mH:=eS nM (aT hn);rw[IN]at mH;have h1:=Vj (s:=e.name) (by omega);have h2:=Vk (s:=e.value) (by omega);have XE:aK (.app 1 16) [bp ((s.fu.take i).map kg.name),.list 1 true [[.str e.name]]]=some (bp ((s.fu.take (i+1)).map kg.name)):=by
   rw[vq hn,Ko]
   ·simp[gC]
   ·simp only[av,aY,aE,aQ];simp only[mg]at hlen;exact⟨az (Nat.mul_le_mul (show min i s.fu.length+(0+1)<=2000000 by omega) (aj 16)) (by decide),az (show min i s.fu.length+(0+1)<=2000000 by omega) (by decide)⟩
  have hmk:aK (.eg 1 true) [.str e.name]=some (.list 1 true [[.str e.name]]):=by simp[aK,chunk,cQ,D.plain]
  simp only[go_sem,bm,AX,hi,aH,hn,nM,aE,aQ,aj,h1];cases h3:isName e.name with
  |false=>simp only[go_sem,h3,oY]
  |true=>
   simp only[go_sem,h3,oY,h2];cases h4:gG e.value<;>simp only[go_sem,hw,XE,hmk]) (by simp only[go_sem,bm,AX,aq,aW])
 rw[n0]at hl;rw[av];have rq:bR (lB G AX) (0,[hZ s.fu,.int .i64 s.fu.length,.int .i64 0,.str s.name,hZ s.fu,.list 1 true []])=_:=hl;rw[rq,isStep,td];cases s.fu.all oY with
 |false=>simp only[go_sem]
 |true=>
  have h1:=Vj (s:=s.name) (by omega);have h2:=Ov (l:=s.fu.map kg.name) (by rw[av];exact hlen);simp only[go_sem,h1];cases h3:isName s.name with
  |false=>simp only[go_sem]
  |true=>
   simp only[go_sem,abS,av];cases h4:decide (s.fu.length<=3) with
   |false=>simp only[go_sem]
   |true=>
    have hp:aK .pl [.bool (qf (s.fu.map kg.name))]=some (.bool false):=rfl;simp only[go_sem,h2,hp]
theorem ahO{p:ml}(hs:fc (jF p)<=mg):G 266 (jF p)=some (0,[.bool (jJ p)]):=by
 rw[BV]at hs;have hlen:p.steps.length<=mg:=by simp only[cA]at hs;omega
 refine cq aeA rfl ?_;simp only[go_sem,afo,jF];have hl:=iG (b:=lB G Fc) p.steps (λi=>(0,[eE p.steps,.int .i64 p.steps.length,.int .i64 (i:Int),.bool p.root,.int .i64 p.oL,eE p.steps])) isStep (1,[eE p.steps,.int .i64 p.steps.length,.int .i64 p.steps.length,.bool false,.bool p.root,.int .i64 p.oL,eE p.steps]) (0,[.bool false]) (by
  intro i e hn;have hi:=aR hn;have hw:=wj hi hlen;have mH:=eS jY (aT hn);have h1:=ahN (s:=e) (by omega);rw[jY]at h1;simp only[go_sem,bm,Fc,hi,aH,hn,jY,aE,aQ,aj,h1];cases h2:isStep e<;>simp only[go_sem,hw]) (by simp only[go_sem,bm,Fc,aq])
 rw[n0]at hl;rw[av,hl,jJ];cases p.steps.all isStep with
 |false=>simp only[go_sem]
 |true=>
  rw[IA];unfold ff;simp only[go_sem]
  repeat' (first|with_reducible rfl|((first|rw[eX]|rw[eZ]|rw[eW]|rw[eY]);split<;>simp only[go_sem,av,Wx,Gu, *]))
  all_goals simp_all
end
section
attribute [go_sem] aE aQ aj av
theorem pB(e:cN):(bK e).length=7:=by rw[bc];rfl
theorem jv(e:cN)(k:Nat)(fl:Bool):aK (.has 7) [.list k fl [bK e]]=some (.bool false):=by
 rw[BD,pB,if_pos (aj 7)]
theorem q39(a b:Int):G 39 [.int .i64 a,.int .i64 b]=some (0,[.int .i64 (if a < b then b else a)]):=by
 refine cq s39 rfl ?_;simp only[go_sem,t39];by_cases h:a < b<;>simp only[go_sem,h]
theorem cN.iC(e:cN)(es:List cN):ah e.kids < ah (e::es):=by
 cases e;simp only[bB,cN.mk.sizeOf_spec];omega
def oV:List cN->Nat
 |[]=>0
 |e::es=>max (oV e.kids+1) (oV es)
termination_by es=>ah es
decreasing_by
 ·exact cN.iC e es
 ·simp only[bB];omega
abbrev dep(e:cN):Nat:=oV e.kids+1
theorem d0:((oV []:Nat):Int)=0:=by simp[oV]
theorem zU(e:cN):∀(l:List cN),oV (l++[e])=max (oV l) (dep e)
 |[]=>by simp[oV]
 |x::l=>by rw[ai,oV,zU e l,oV,Nat.max_assoc]
theorem Ek:∀(n:Nat) (l:List cN),ah l < n->oV l<=cA bK l
 |0,l,h=>by omega
 |n+1,[],h=>by simp[oV]
 |n+1,e::l,h=>by
  have h1:=Ek n e.kids (by have:=cN.iC e l;omega);have h2:=Ek n l (by simp only[bB]at h;omega);rw[oV,lD,nX];omega
theorem PI{e:cN}:dep e<=fc (bK e)+1:=by
 have:=Ek _ e.kids (aM _);rw[nX];simp only[dep];omega
theorem mx(a b:Nat):(if (a:Int) < (b:Int) then (b:Int) else (a:Int))=((max a b:Nat):Int):=by
 by_cases h:a < b
 ·rw[if_pos (by omega),Nat.max_eq_right (by omega)]
 ·rw[if_neg (by omega),Nat.max_eq_left (by omega)]
theorem cN.AE{e x:cN}(h:x∈e.kids):ah x < ah e:=cN.J7 h
theorem AF{e x:cN}(h:x∈e.kids):fc (bK x)<=fc (bK e):=by
 have:=eS bK h;rw[nX e];omega
theorem rY{e:cN}:e.kids.length<=fc (bK e):=by
 rw[nX e];simp only[cA];omega
theorem Y0(n:Nat):∀e:cN,ah e < n->fc (bK e)<=mg->G 203 (bK e)=some (0,[.int .i64 (dep e)]):=by
 induction n with
 |zero=>intro e h;omega
 |succ n ih=>
  intro e hz hs;refine cq adI (by rw[bc];rfl) ?_;simp only[go_sem,t203,bc];have hlen:e.kids.length<=mg:=az rY hs;have hl:=eB (b:=lB G EP) e.kids (λi (m:Nat)=>(0,.int .i64 (m:Int)::.int .i64 (i:Int)::bK e)) (λi=>oV (e.kids.take i)) (0,.int .i64 (oV e.kids)::.int .i64 e.kids.length::.bool false::bK e) (by
   intro i x hn;have hi:=aR hn;have hw:=wj hi hlen;have hx:=ih x (by have:=cN.AE (aT hn);omega) (az (AF (aT hn)) hs);rw[bc]at hx;simp only[go_sem,bm,EP,bc e,hi,aH,hn,jv];simp only[go_sem,bc,hx,q39,mx,hw,cu _ _ _ hn,zU,dep]) (by simp only[go_sem,bm,EP,bc,aq,aW]) e.kids.length 0 (by omega)
  rw[bg,d0,n0,bc]at hl;have hd:=PI (e:=e);have hw:IntKind.i64.wrap ((oV e.kids:Int)+1)=((oV e.kids+1:Nat):Int):=by rw[wrap_i64 (by simp only[mg,dep]at *;omega)];omega
  simp only[go_sem,hl,hw]
theorem ahi{e:cN}(hs:fc (bK e)<=mg):G 203 (bK e)=some (0,[.int .i64 (dep e)]):=Y0 _ e (aM _) hs
theorem Zd(n:Nat):∀e:cN,ah e < n->fc (bK e)<=mg->G 262 (bK e)=some (0,[.int .i64 (dep e)]):=by
 induction n with
 |zero=>intro e h;omega
 |succ n ih=>
  intro e hz hs;refine cq aew (by rw[bc];rfl) ?_;simp only[go_sem,afk,bc];have hlen:e.kids.length<=mg:=az rY hs;have hl:=eB (b:=lB G E_) e.kids (λi (m:Nat)=>(0,[.int .i64 (m:Int),cW e.kids,.int .i64 e.kids.length,.int .i64 (i:Int)])) (λi=>oV (e.kids.take i)) (0,[.int .i64 (oV e.kids),cW e.kids,.int .i64 e.kids.length,.int .i64 e.kids.length,.bool false]) (by
   intro i x hn;have hi:=aR hn;have hw:=wj hi hlen;have hx:=ih x (by have:=cN.AE (aT hn);omega) (az (AF (aT hn)) hs);rw[bc]at hx;simp only[go_sem,bm,E_,hi,aH,hn,jv];simp only[go_sem,bc,hx,mx,hw,cu _ _ _ hn,zU,dep]) (by simp only[go_sem,bm,E_,aq,aW]) e.kids.length 0 (by omega)
  rw[bg,d0,n0]at hl;have hd:=PI (e:=e);have hw:IntKind.i64.wrap ((oV e.kids:Int)+1)=((oV e.kids+1:Nat):Int):=by rw[wrap_i64 (by simp only[mg,dep]at *;omega)];omega
  simp only[go_sem,hl,hw]
theorem ahL{e:cN}(hs:fc (bK e)<=mg):G 262 (bK e)=some (0,[.int .i64 (dep e)]):=Zd _ e (aM _) hs
def zp(p:ml):Bool:=!p.root && (decide (p.oL=0) && p.steps.isEmpty)
theorem pK{α:Type}(l:List α):decide ((l.length:Int)=0)=l.isEmpty:=by cases l<;>simp;omega
theorem ahk(p:ml):G 206 (jF p)=some (0,[.bool (zp p)]):=by
 refine cq adL rfl ?_;simp only[go_sem,t206,jF]
 repeat' (first|with_reducible rfl|((first|rw[eX]|rw[eZ]|rw[eW]|rw[eY]);split<;>simp only[go_sem,pK, *]))
 all_goals simp_all[zp]
theorem ahM(p:ml):G 263 (jF p)=some (0,[.bool (zp p)]):=by
 refine cq aex rfl ?_;simp only[go_sem,afl,jF]
 repeat' (first|with_reducible rfl|((first|rw[eX]|rw[eZ]|rw[eW]|rw[eY]);split<;>simp only[go_sem,pK, *]))
 all_goals simp_all[zp]
def orA:ByteArray:=⟨#[111,114]⟩
def Pb:ByteArray:=⟨#[97,110,100]⟩
theorem WX:(⟨[111,114].toArray⟩:ByteArray)=orA:=(rfl)
theorem SU:(⟨[97,110,100].toArray⟩:ByteArray)=Pb:=(rfl)
def D7(p:ml):Bool:=match p.steps with
 |s::_=>decide (s.name=orA) ||decide (s.name=Pb)
 |[]=>false
def S5(p:ml):Bool:=(p.root ||decide (0 < p.oL) ||!D7 p) && !(p.root && p.steps.isEmpty)
theorem IB{p:ml}(h:jJ p=true):0<=p.oL/\(p.root=true->p.oL=0)/\(p.root=true\/0 < p.oL\/p.steps≠[]):=by
 simp only[jJ,ME,ff,ab,dE,decide_eq_true_eq,ck,List.isEmpty_eq_false_iff]at h;obtain⟨_,⟨h1,_⟩,_,h2,h3⟩:=h;refine⟨h1,λhr=>?_,?_⟩
 ·rcases h2 with h2|h2
  ·rw[hr]at h2;cases h2
  ·exact h2
 ·rcases h3 with h3|h3|h3
  ·exact .inl h3
  ·exact .inr (.inl h3)
  ·exact .inr (.inr h3)
theorem ahl{p:ml}(hp:jJ p=true):G 207 (jF p)=some (0,[.bool (S5 p)]):=by
 obtain⟨h1,h2,h3⟩:=IB hp;refine cq adM rfl ?_;simp only[go_sem,t207,jF];cases hr:p.root with
 |true=>
  have hu:p.oL=0:=h2 hr;simp only[go_sem,hr,hu,Gu,S5]
 |false=>
  by_cases hu:0 < p.oL
  ·simp only[go_sem,hr,hu,S5]
  ·have hs:p.steps≠[]:=by
    rcases h3 with h|h|h
    ·rw[hr]at h;cases h
    ·exact absurd h hu
    ·exact h
   obtain⟨s,l,hl⟩:=List.exists_cons_of_ne_nil hs;simp only[go_sem,hr,hu,S5,hl,D7,aN,jY,WX];have e3:¬Pb=orA:=by decide
   by_cases e1:s.name=orA
   ·simp only[go_sem,e1]
   ·by_cases e2:s.name=Pb<;>simp only[go_sem,e1,e2,e3,SU]
def nT(op:Int):Nat:=if op<=4 then 0 else if op=5 then 1 else 2
def pE(e:cN):Bool:=if e.op=1 then ff 0 1000000000 e.num else if e.op=2 then gG e.text else if e.op=3 then jJ e.path && S5 e.path else if e.op=4 then jJ e.path else true
def fe(e:cN):Bool:=ff 1 15 e.op && (decide (e.kids.length=nT e.op) && ((decide (e.op=1) ||decide (e.num=0)) && ((decide (e.op=2) ||decide (e.text.size=0)) && ((decide (e.op=3) ||(decide (e.op=4) ||zp e.path)) && pE e))))
def rh:List cN->Bool
 |[]=>true
 |e::es=>fe e && rh e.kids && rh es
termination_by es=>ah es
decreasing_by
 ·exact cN.iC e es
 ·simp only[bB];omega
def oM(e:cN):Bool:=fe e && rh e.kids
theorem B1:∀(l:List cN),rh l=l.all oM
 |[]=>by simp[rh]
 |e::l=>by rw[rh,bW,B1 l];rfl
theorem UA{n:Nat}(ih:∀e:cN,ah e < n->fc (bK e)<=mg->G 208 (bK e)=some (0,[.bool (oM e)])){e:cN}(hz:ah e < n+1)(hs:fc (bK e)<=mg) :
  bR (lB G wN) (0,.int .i64 e.kids.length::.int .i64 0::bK e)=some (if rh e.kids=true then (1,.int .i64 e.kids.length::.int .i64 e.kids.length::.bool false::bK e) else (0,[.bool false])):=by
 have hlen:e.kids.length<=mg:=az rY hs;rw[B1];exact iG (b:=lB G wN) e.kids (λi=>(0,.int .i64 e.kids.length::.int .i64 (i:Int)::bK e)) oM _ _ (by
  intro i x hn;have hi:=aR hn;have hw:=wj hi hlen;have hx:=ih x (by have:=cN.AE (aT hn);omega) (az (AF (aT hn)) hs);rw[bc]at hx;simp only[go_sem,bm,wN,bc e,hi,aH,hn,jv];simp only[go_sem,bc x,hx];cases oM x<;>simp only[go_sem,hw]) (by simp only[go_sem,bm,wN,bc,aq])
theorem vn{e:cN}(h:e.kids.length=0):rh e.kids=true:=by
 have:e.kids=[]:=cn.1 h;rw[this];simp[rh]
theorem Y1(n:Nat):∀e:cN,ah e < n->fc (bK e)<=mg->G 208 (bK e)=some (0,[.bool (oM e)]):=by
 induction n with
 |zero=>intro e h;omega
 |succ n ih=>
  intro e hz hs;have hl:=UA ih hz hs;rw[bc]at hl;have ht:=nX e;have hq:=Vi (s:=e.text) (by omega);have h5:=ahj (p:=e.path) (by omega);have h6:=ahk e.path;rw[jF]at h5 h6;have hw7:jJ e.path=true->G 207 [.bool e.path.root,.int .i64 e.path.oL,eE e.path.steps]=some (0,[.bool (S5 e.path)]):=λh=>ahl h;refine cq adN (by rw[bc];rfl) ?_;simp only[go_sem,t208,bc];have small:∀{k:Nat} (hk:e.kids.length=0),bR (lB G wN) (0,[.int .i64 0,.int .i64 0,.int .i64 e.op,.int .i64 e.num,.str e.text,.bool e.path.root,.int .i64 e.path.oL,eE e.path.steps,cW e.kids])=some (1,[.int .i64 0,.int .i64 0,.bool false,.int .i64 e.op,.int .i64 e.num,.str e.text,.bool e.path.root,.int .i64 e.path.oL,eE e.path.steps,cW e.kids]):=by
   intro _ hk;rw[vn hk,hk]at hl;exact hl
  by_cases o1:e.op=1
  ·have hh:fe e=(decide (e.kids.length=0) && ((decide (e.text.size=0)) && (zp e.path && ff 0 1000000000 e.num))):=by simp[fe,pE,nT,ff,o1]
   rw[o1]at small;by_cases hk:e.kids.length=0
   ·have gf:(e.kids.length:Int)=0:=by omega
    have pq:=small (k:=0) hk;have h0:=vn hk;simp only[go_sem,yG,o1]
    repeat' (first|with_reducible rfl|((first|rw[eX]|rw[eZ]|rw[eW]|rw[eY]);split<;>simp only[go_sem,cy, *]))
    all_goals simp_all[oM]
   ·have gf:¬(e.kids.length:Int)=0:=by omega
    simp only[go_sem,yG,o1]
    repeat' (first|with_reducible rfl|((first|rw[eX]|rw[eZ]|rw[eW]|rw[eY]);split<;>simp only[go_sem,cy, *]))
    all_goals simp_all[oM]
  by_cases o2:e.op=2
  ·have hh:fe e=(decide (e.kids.length=0) && ((decide (e.num=0)) && (zp e.path && gG e.text))):=by simp[fe,pE,nT,ff,o2]
   rw[o2]at small;by_cases hk:e.kids.length=0
   ·have gf:(e.kids.length:Int)=0:=by omega
    have pq:=small (k:=0) hk;have h0:=vn hk;simp only[go_sem,hq,o2]
    repeat' (first|with_reducible rfl|((first|rw[eX]|rw[eZ]|rw[eW]|rw[eY]);split<;>simp only[go_sem, *]))
    all_goals simp_all[oM]
   ·have gf:¬(e.kids.length:Int)=0:=by omega
    simp only[go_sem,hq,o2]
    repeat' (first|with_reducible rfl|((first|rw[eX]|rw[eZ]|rw[eW]|rw[eY]);split<;>simp only[go_sem, *]))
    all_goals simp_all[oM]
  by_cases o3:e.op=3
  ·have hh:fe e=(decide (e.kids.length=0) && ((decide (e.num=0)) && (decide (e.text.size=0) && (jJ e.path && S5 e.path)))):=by simp[fe,pE,nT,ff,o3]
   rw[o3]at small;cases hp:jJ e.path with
   |false=>
    simp only[go_sem,h5,o3,hp]
    repeat' (first|with_reducible rfl|((first|rw[eX]|rw[eZ]|rw[eW]|rw[eY]);split<;>simp only[go_sem,yG,hq,h5,h6,ba0,cy,o3,hp, *]))
    all_goals simp_all[oM]
   |true=>
    have h7:=hw7 hp;by_cases hk:e.kids.length=0
    ·have gf:(e.kids.length:Int)=0:=by omega
     have pq:=small (k:=0) hk;have h0:=vn hk;simp only[go_sem,h5,o3,hp]
     repeat' (first|with_reducible rfl|((first|rw[eX]|rw[eZ]|rw[eW]|rw[eY]);split<;>simp only[go_sem,cy, *]))
     all_goals simp_all[oM]
    ·have gf:¬(e.kids.length:Int)=0:=by omega
     simp only[go_sem,h5,o3,hp]
     repeat' (first|with_reducible rfl|((first|rw[eX]|rw[eZ]|rw[eW]|rw[eY]);split<;>simp only[go_sem,cy, *]))
     all_goals simp_all[oM]
  by_cases o4:e.op=4
  ·have hh:fe e=(decide (e.kids.length=0) && ((decide (e.num=0)) && (decide (e.text.size=0) && jJ e.path))):=by simp[fe,pE,nT,ff,o4]
   rw[o4]at small;by_cases hk:e.kids.length=0
   ·have gf:(e.kids.length:Int)=0:=by omega
    have pq:=small (k:=0) hk;have h0:=vn hk;simp only[go_sem,h5,o4]
    repeat' (first|with_reducible rfl|((first|rw[eX]|rw[eZ]|rw[eW]|rw[eY]);split<;>simp only[go_sem,cy, *]))
    all_goals simp_all[oM]
   ·have gf:¬(e.kids.length:Int)=0:=by omega
    simp only[go_sem,h5,o4]
    repeat' (first|with_reducible rfl|((first|rw[eX]|rw[eZ]|rw[eW]|rw[eY]);split<;>simp only[go_sem,cy, *]))
    all_goals simp_all[oM]
  cases hi:ff 5 15 e.op with
  |false=>
   have hh:fe e=false:=by
    have:ff 1 15 e.op=false:=by
     rw[cT]at hi ⊢;intro h
     apply hi
     have:=(fH _ _ _).1 h;exact (fH _ _ _).2 (by omega)
    simp[fe,this]
   have hx:oM e=false:=by simp[oM,hh]
   simp only[go_sem,yG,o1,o2,o3,o4,hi,hx]
  |true=>
   have hr:=(fH _ _ _).1 hi;have JW:ff 1 15 e.op=true:=(fH _ _ _).2 (by omega);by_cases o5:e.op=5
   ·have hh:fe e=(decide (e.kids.length=1) && ((decide (e.num=0)) && (decide (e.text.size=0) && zp e.path))):=by simp[fe,pE,nT,ff,o5]
    by_cases hk:e.kids.length=1
    ·have gf:(e.kids.length:Int)=1:=by omega
     rw[gf,o5]at hl;cases h9:rh e.kids with
     |false=>
      rw[h9]at hl;simp only[go_sem]at hl;simp only[go_sem,yG,o5]
      repeat' (first|with_reducible rfl|((first|rw[eX]|rw[eZ]|rw[eW]|rw[eY]);split<;>simp only[go_sem,cy, *]))
      all_goals simp_all[oM]
     |true=>
      rw[h9]at hl;simp only[go_sem]at hl;simp only[go_sem,yG,o5]
      repeat' (first|with_reducible rfl|((first|rw[eX]|rw[eZ]|rw[eW]|rw[eY]);split<;>simp only[go_sem,cy, *]))
      all_goals simp_all[oM]
    ·have gf:¬(e.kids.length:Int)=1:=by omega
     simp only[go_sem,yG,o5]
     repeat' (first|with_reducible rfl|((first|rw[eX]|rw[eZ]|rw[eW]|rw[eY]);split<;>simp only[go_sem,cy, *]))
     all_goals simp_all[oM]
   ·have hN:nT e.op=2:=by unfold nT;rw[if_neg (by omega),if_neg o5]
    have hh:fe e=(decide (e.kids.length=2) && ((decide (e.num=0)) && (decide (e.text.size=0) && zp e.path))):=by simp[fe,pE,hN,JW,o1,o2,o3,o4]
    by_cases hk:e.kids.length=2
    ·have gf:(e.kids.length:Int)=2:=by omega
     rw[gf]at hl;cases h9:rh e.kids with
     |false=>
      rw[h9]at hl;simp only[go_sem]at hl;simp only[go_sem,yG,o1,o2,o3,o4,o5,hi]
      repeat' (first|with_reducible rfl|((first|rw[eX]|rw[eZ]|rw[eW]|rw[eY]);split<;>simp only[go_sem,cy, *]))
      all_goals simp_all[oM]
     |true=>
      rw[h9]at hl;simp only[go_sem]at hl;simp only[go_sem,yG,o1,o2,o3,o4,o5,hi]
      repeat' (first|with_reducible rfl|((first|rw[eX]|rw[eZ]|rw[eW]|rw[eY]);split<;>simp only[go_sem,cy, *]))
      all_goals simp_all[oM]
    ·have gf:¬(e.kids.length:Int)=2:=by omega
     simp only[go_sem,yG,o1,o2,o3,o4,o5,hi]
     repeat' (first|with_reducible rfl|((first|rw[eX]|rw[eZ]|rw[eW]|rw[eY]);split<;>simp only[go_sem,cy, *]))
     all_goals simp_all[oM]
theorem ahm{e:cN}(hs:fc (bK e)<=mg):G 208 (bK e)=some (0,[.bool (oM e)]):=Y1 _ e (aM _) hs
end
section
theorem UH{n:Nat}(ih:∀e:cN,ah e < n->fc (bK e)<=mg->G 267 (bK e)=some (0,[.bool (oM e)])){e:cN}(hz:ah e < n+1)(hs:fc (bK e)<=mg) :
  bR (lB G wW) (0,[cW e.kids,.int .i64 e.kids.length,.int .i64 0])=some (if rh e.kids=true then (1,[cW e.kids,.int .i64 e.kids.length,.int .i64 e.kids.length,.bool false]) else (0,[.bool false])):=by
 have hlen:e.kids.length<=mg:=az rY hs;rw[B1];exact iG (b:=lB G wW) e.kids (λi=>(0,[cW e.kids,.int .i64 e.kids.length,.int .i64 (i:Int)])) oM _ _ (by
  intro i x hn;have hi:=aR hn;have hw:=wj hi hlen;have hx:=ih x (by have:=cN.AE (aT hn);omega) (az (AF (aT hn)) hs);rw[bc]at hx;simp only[go_sem,bm,wW,hi,aH,hn,jv];simp only[go_sem,bc x,hx];cases oM x<;>simp only[go_sem,hw]) (by simp only[go_sem,bm,wW,aq])
theorem n2:((2:Nat):Int)=2:=(rfl)
attribute [go_sem] n1 n2
theorem UG:Ri=wW:=(rfl)
attribute [go_sem] UG
theorem ZW{p:ml}(h:jJ p=true):S5 p=(!(!p.root && (decide (p.oL=0) && D7 p)) && !(p.root && p.steps.isEmpty)):=by
 obtain⟨h1,h2,h3⟩:=IB h;unfold S5
 congr 1
 have:decide (0 < p.oL)=!decide (p.oL=0):=by rw[cU];simp;omega
 rw[this];cases p.root<;>cases decide (p.oL=0)<;>cases D7 p<;>rfl
theorem Ze(n:Nat):∀e:cN,ah e < n->fc (bK e)<=mg->G 267 (bK e)=some (0,[.bool (oM e)]):=by
 induction n with
 |zero=>intro e h;omega
 |succ n ih=>
  intro e hz hs;have hl:=UH ih hz hs;have ht:=nX e;have hq:=Vk (s:=e.text) (by omega);have h5:=ahO (p:=e.path) (by omega);have h6:=ahM e.path;rw[jF]at h5 h6;refine cq aeB (by rw[bc];rfl) ?_;simp only[go_sem,afp,bc];by_cases o1:e.op=1
  ·clear ih hl hz hs;have hh:fe e=(decide (e.kids.length=0) && ((decide (e.text.size=0)) && (zp e.path && ff 0 1000000000 e.num))):=by simp[fe,pE,nT,ff,o1]
   have h0:e.kids.length=0->rh e.kids=true:=vn;have hk:e.kids.isEmpty=decide (e.kids.length=0):=by cases e.kids<;>simp
   unfold ff at hh;simp only[go_sem,pK,o1,hk]
   repeat' (first|with_reducible rfl|((first|rw[eX]|rw[eZ]|rw[eW]|rw[eY]);split<;>simp only[go_sem,cy, *]))
   all_goals simp_all[oM]
  by_cases o2:e.op=2
  ·clear ih hl hz hs;have hh:fe e=(decide (e.kids.length=0) && ((decide (e.num=0)) && (zp e.path && gG e.text))):=by simp[fe,pE,nT,ff,o2]
   have h0:e.kids.length=0->rh e.kids=true:=vn;have hk:e.kids.isEmpty=decide (e.kids.length=0):=by cases e.kids<;>simp
   simp only[go_sem,pK,o2,hk]
   repeat' (first|with_reducible rfl|((first|rw[eX]|rw[eZ]|rw[eW]|rw[eY]);split<;>simp only[go_sem, *]))
   all_goals simp_all[oM]
  by_cases o4:e.op=4
  ·clear ih hl hz hs;have hh:fe e=(decide (e.kids.length=0) && ((decide (e.num=0)) && (decide (e.text.size=0) && jJ e.path))):=by simp[fe,pE,nT,ff,o4]
   have h0:e.kids.length=0->rh e.kids=true:=vn;have hk:e.kids.isEmpty=decide (e.kids.length=0):=by cases e.kids<;>simp
   simp only[go_sem,pK,o4,hk]
   repeat' (first|with_reducible rfl|((first|rw[eX]|rw[eZ]|rw[eW]|rw[eY]);split<;>simp only[go_sem,cy, *]))
   all_goals simp_all[oM]
  by_cases o3:e.op=3
  ·clear ih hl hz hs;have hh:fe e=(decide (e.kids.length=0) && ((decide (e.num=0)) && (decide (e.text.size=0) && (jJ e.path && S5 e.path)))):=by simp[fe,pE,nT,ff,o3]
   have h0:e.kids.length=0->rh e.kids=true:=vn;have hk:e.kids.isEmpty=decide (e.kids.length=0):=by cases e.kids<;>simp
   have hw:jJ e.path=true->S5 e.path=(!(!e.path.root && (decide (e.path.oL=0) && D7 e.path)) && !(e.path.root && e.path.steps.isEmpty)):=ZW;cases Ct:e.path.steps with
   |nil=>
    have hb:D7 e.path=false:=by simp[D7,Ct]
    rw[Ct]at h5;cases hrt:e.path.root with
    |true=>
     rw[hrt]at h5 h6;simp only[go_sem,pK,o3,hk]
     repeat' (first|with_reducible rfl|((first|rw[eX]|rw[eZ]|rw[eW]|rw[eY]);split<;>simp only[go_sem,cy, *]))
     all_goals simp_all[oM]
    |false=>
     rw[hrt]at h5 h6;simp only[go_sem,pK,o3,hk]
     repeat' (first|with_reducible rfl|((first|rw[eX]|rw[eZ]|rw[eW]|rw[eY]);split<;>simp only[go_sem,cy, *]))
     all_goals simp_all[oM]
   |cons s l=>
    have hb:D7 e.path=(decide (s.name=orA) ||decide (s.name=Pb)):=by simp[D7,Ct]
    rw[Ct]at h5;cases hrt:e.path.root with
    |true=>
     rw[hrt]at h5 h6;simp only[go_sem,pK,o3,hk]
     repeat' (first|with_reducible rfl|((first|rw[eX]|rw[eZ]|rw[eW]|rw[eY]);split<;>simp only[go_sem,cy,aN,jY, *]))
     all_goals simp_all[oM]
     all_goals omega
    |false=>
     rw[hrt]at h5 h6;simp only[go_sem,pK,o3,hk]
     repeat' (first|with_reducible rfl|((first|rw[eX]|rw[eZ]|rw[eW]|rw[eY]);split<;>simp only[go_sem,cy,aN,jY,WX,SU, *]))
     all_goals simp_all[oM]
  cases hi:ff 5 15 e.op with
  |false=>
   have JW:ff 1 15 e.op=false:=by
    rw[cT]at hi ⊢;intro h
    apply hi
    have:=(fH _ _ _).1 h;exact (fH _ _ _).2 (by omega)
   have hx:oM e=false:=by simp[oM,fe,JW]
   have ho:¬(5<=e.op/\e.op<=15):=λh=>by rw[(fH _ _ _).2 h]at hi;cases hi
   have o5:¬e.op=5:=by omega
   by_cases b1:e.op < 1
   ·simp only[go_sem,o1,o2,o3,o4,o5,hx,b1]
   ·have b2:15 < e.op:=by omega
    simp only[go_sem,o1,o2,o3,o4,o5,hx,b1,b2]
  |true=>
   have hr:=(fH _ _ _).1 hi;have JW:ff 1 15 e.op=true:=(fH _ _ _).2 (by omega);have b1:¬e.op < 1:=by omega
   have b2:¬15 < e.op:=by omega
   by_cases o5:e.op=5
   ·have hh:fe e=(decide (e.kids.length=1) && ((decide (e.num=0)) && (decide (e.text.size=0) && zp e.path))):=by simp[fe,pE,nT,ff,o5]
    by_cases hk:e.kids.length=1
    ·have gf:(e.kids.length:Int)=1:=by omega
     rw[gf]at hl;cases h9:rh e.kids with
     |false=>
      rw[h9]at hl;simp only[go_sem]at hl;simp only[go_sem,o5,gf]
      repeat' (first|with_reducible rfl|((first|rw[eX]|rw[eZ]|rw[eW]|rw[eY]);split<;>simp only[go_sem,cy, *]))
      all_goals simp_all[oM]
     |true=>
      rw[h9]at hl;simp only[go_sem]at hl;simp only[go_sem,o5,gf]
      repeat' (first|with_reducible rfl|((first|rw[eX]|rw[eZ]|rw[eW]|rw[eY]);split<;>simp only[go_sem,cy, *]))
      all_goals simp_all[oM]
    ·have gf:¬(e.kids.length:Int)=1:=by omega
     simp only[go_sem,o5,gf]
     repeat' (first|with_reducible rfl|((first|rw[eX]|rw[eZ]|rw[eW]|rw[eY]);split<;>simp only[go_sem,hq,h5,h6,ba0,cy,Gu,pK,o5,gf, *]))
     all_goals simp_all[oM]
   ·have hN:nT e.op=2:=by unfold nT;rw[if_neg (by omega),if_neg o5]
    have hh:fe e=(decide (e.kids.length=2) && ((decide (e.num=0)) && (decide (e.text.size=0) && zp e.path))):=by simp[fe,pE,hN,JW,o1,o2,o3,o4]
    by_cases hk:e.kids.length=2
    ·have gf:(e.kids.length:Int)=2:=by omega
     rw[gf]at hl;cases h9:rh e.kids with
     |false=>
      rw[h9]at hl;simp only[go_sem]at hl;simp only[go_sem,o1,o2,o3,o4,o5,b1,b2,gf]
      repeat' (first|with_reducible rfl|((first|rw[eX]|rw[eZ]|rw[eW]|rw[eY]);split<;>simp only[go_sem,cy, *]))
      all_goals simp_all[oM]
     |true=>
      rw[h9]at hl;simp only[go_sem]at hl;simp only[go_sem,o1,o2,o3,o4,o5,b1,b2,gf]
      repeat' (first|with_reducible rfl|((first|rw[eX]|rw[eZ]|rw[eW]|rw[eY]);split<;>simp only[go_sem,cy, *]))
      all_goals simp_all[oM]
    ·have gf:¬(e.kids.length:Int)=2:=by omega
     simp only[go_sem,o1,o2,o3,o4,o5,b1,b2,gf]
     repeat' (first|with_reducible rfl|((first|rw[eX]|rw[eZ]|rw[eW]|rw[eY]);split<;>simp only[go_sem,hq,h5,h6,ba0,cy,Gu,pK,o1,o2,o3,o4,o5,b1,b2,gf, *]))
     all_goals simp_all[oM]
theorem ahP{e:cN}(hs:fc (bK e)<=mg):G 267 (bK e)=some (0,[.bool (oM e)]):=Ze _ e (aM _) hs
def nS(e:cN):Bool:=decide (dep e<=8) && oM e
theorem ahn{e:cN}(hs:fc (bK e)<=mg):G 209 (bK e)=some (0,[.bool (nS e)]):=by
 have h1:=ahi hs;have h2:=ahm hs;have h3:decide (((dep e:Nat):Int)<=8)=decide (dep e<=8):=Ob (dep e) 8;rw[bc]at h1 h2;refine cq adO (by rw[bc];rfl) ?_;simp only[go_sem,t209,bc,h1,h3];unfold nS;cases hd:decide (dep e<=8)<;>simp only[go_sem,h2]
theorem ahQ{e:cN}(hs:fc (bK e)<=mg):G 268 (bK e)=some (0,[.bool (nS e)]):=by
 have h1:=ahL hs;have h2:=ahP hs;have h3:decide (((dep e:Nat):Int)<=8)=decide (dep e<=8):=Ob (dep e) 8;rw[bc]at h1 h2;refine cq aeC (by rw[bc];rfl) ?_;simp only[go_sem,afq,bc,h1,h3];unfold nS;cases hd:decide (dep e<=8)<;>simp only[go_sem,h2]
def Cm(l:List cN)(Kd:Nat):Bool:=l.all nS && decide (l.length<=Kd)
theorem acL{l:List cN}{m:Nat}(hs:cA bK l<=mg):G 210 [cW l,.int .i64 (m:Int)]=some (0,[.bool (Cm l m)]):=by
 have hlen:l.length<=mg:=by simp only[cA]at hs;omega
 refine cq adP rfl ?_;simp only[go_sem,t210];have hl:=iG (b:=lB G EU) l (λi=>(0,[cW l,.int .i64 (m:Int),.int .i64 (i:Int)])) nS (1,[cW l,.int .i64 (m:Int),.int .i64 l.length,.bool false]) (0,[.bool false]) (by
  intro i x hn;have hi:=aR hn;have hw:=wj hi hlen;have hx:=ahn (e:=x) (fE hs (aT hn)).1;rw[bc]at hx;simp only[go_sem,bm,EU,hi,aH,hn,jv];simp only[go_sem,bc x,hx];cases nS x<;>simp only[go_sem,hw]) (by simp only[go_sem,bm,EU,aq])
 rw[n0]at hl;rw[hl,Cm];cases l.all nS<;>simp only[go_sem,Ob]
theorem ac1{l:List cN}{m:Nat}(hs:cA bK l<=mg):G 269 [cW l,.int .i64 (m:Int)]=some (0,[.bool (Cm l m)]):=by
 have hlen:l.length<=mg:=by simp only[cA]at hs;omega
 refine cq aeD rfl ?_;simp only[go_sem,afr];have hl:=iG (b:=lB G Fe) l (λi=>(0,[cW l,.int .i64 (m:Int),cW l,.int .i64 l.length,.int .i64 (i:Int)])) nS (1,[cW l,.int .i64 (m:Int),cW l,.int .i64 l.length,.int .i64 l.length,.bool false]) (0,[.bool false]) (by
  intro i x hn;have hi:=aR hn;have hw:=wj hi hlen;have hx:=ahQ (e:=x) (fE hs (aT hn)).1;rw[bc]at hx;simp only[go_sem,bm,Fe,hi,aH,hn,jv];simp only[go_sem,bc x,hx];cases nS x<;>simp only[go_sem,hw]) (by simp only[go_sem,bm,Fe,aq])
 rw[n0]at hl;rw[hl,Cm];cases l.all nS<;>simp only[go_sem,Ob]
end
section
def Yp(l:List iF):Bool:=match l with
 |r::_=>decide (0<=r.lo)
 |[]=>true
def vw(ip:ByteArray->Bool)(t:lL):Bool:=
 if t.kind=1 then zE t.ranges && (t.names.isEmpty && (decide (t.pattern.size=0) && decide (t.path.size=0)))
 else if t.kind=2 then zE t.ranges && (Yp t.ranges && ((decide (t.pattern.size=0) ||ip t.pattern) && (t.names.isEmpty && decide (t.path.size=0))))
 else if t.kind=4 then ff 1 6 t.names.length && (t.ranges.isEmpty && (decide (t.pattern.size=0) && decide (t.path.size=0)))
 else if t.kind=5 then gG t.path && (!decide (t.path.size=0) && (t.ranges.isEmpty && (t.names.isEmpty && decide (t.pattern.size=0))))
 else if t.kind=3\/t.kind=6 then t.ranges.isEmpty && (t.names.isEmpty && (decide (t.pattern.size=0) && decide (t.path.size=0)))
 else false
def qy(l:List ByteArray):Bool:=qf l && l.all isName
def isType(ip:ByteArray->Bool)(t:lL):Bool:=qy t.names && vw ip t
theorem HB(l:List ByteArray)(v:ByteArray):nQ l v=!(l.all λx=>!decide (x=v)):=by
 induction l with
 |nil=>rfl
 |cons x l ih=>
  simp only[nQ,kT,bW]at ih ⊢;rw[ih,decide_eq_decide.2 (eq_comm (a:=v) (b:=x))];cases decide (x=v)<;>simp
theorem Kj(l:List ByteArray):qy l=allI (λk e=>((l.take k).all λx=>!decide (x=e)) && isName e) 0 l:=by
 have h:=zC (λk (e:ByteArray)=>(l.take k).all λx=>!decide (x=e)) (λ_ e=>isName e) 0 l;rw[qy,h,rE,qf]
 congr 2
 funext i e
 rw[HB,fm]
section
variable {kd:Int} {rs:D} {pt ph:ByteArray}
theorem NV{l:List ByteArray}{e:ByteArray}{k:Nat}(hn:nth l k=some e)(ht:cA gC l<=mg) :
  bR (lB G AO) (0,[.int .i64 (k:Int),.int .i64 0,.int .i64 kd,rs,bp l,.str pt,.str ph]) =
   some (if (l.take k).all (λx=>!decide (x=e))=true then (1,[.int .i64 (k:Int),.int .i64 (k:Int),.bool false,.int .i64 kd,rs,bp l,.str pt,.str ph]) else (0,[.bool false])):=by
 have hk:=aR hn;have hlen:l.length<=mg:=by simp only[cA]at ht;omega
 have hl:=oC (b:=lB G AO) (λj=>(0,[.int .i64 (k:Int),.int .i64 (j:Int),.int .i64 kd,rs,bp l,.str pt,.str ph])) (VZ (λx=>!decide (x=e)) l) k
  (1,[.int .i64 (k:Int),.int .i64 (k:Int),.bool false,.int .i64 kd,rs,bp l,.str pt,.str ph]) (0,[.bool false]) (by
  intro j hj;have a1:=dF (l:=l) (i:=j) (by omega);have hw:=wj (i:=j) (n:=k) hj (by omega);generalize l[j]'(by omega)=x at a1;simp only[go_sem,bm,AO,hj,aH,hn,a1,gC,VZ];cases hc:decide (x=e)<;>simp only[go_sem,hw]) (by simp only[go_sem,bm,AO,aq]) k 0 (by omega)
 rw[n0]at hl;rw[hl,uP _ l k 0 (by omega),aX]
theorem NW{l:List ByteArray}(ht:cA gC l<=mg) :
  bR (lB G AP) (0,[.int .i64 0,.int .i64 kd,rs,bp l,.str pt,.str ph]) =
   some (if qy l=true then (1,[.int .i64 l.length,.bool false,.int .i64 kd,rs,bp l,.str pt,.str ph]) else (0,[.bool false])):=by
 have hlen:l.length<=mg:=by simp only[cA]at ht;omega
 have hl:=nk (b:=lB G AP) l (λk=>(0,[.int .i64 (k:Int),.int .i64 kd,rs,bp l,.str pt,.str ph])) (λk e=>((l.take k).all λx=>!decide (x=e)) && isName e)
  (1,[.int .i64 l.length,.bool false,.int .i64 kd,rs,bp l,.str pt,.str ph]) (0,[.bool false]) (by
  intro k e hn;have hk:=aR hn;have hw:=wj hk hlen;have h1:=Vh (s:=e) (by have:=MQ l (aT hn);omega);simp only[go_sem,bm,AP,hk,NV hn ht];cases hc:(l.take k).all (λx=>!decide (x=e)) with
  |false=>simp only[go_sem]
  |true=>
   simp only[go_sem,aH,hn,gC,h1];cases h3:isName e<;>simp only[go_sem,hw]) (by simp only[go_sem,bm,AP,aq]) l.length 0 (by omega)
 rw[n0,aX]at hl;rw[hl,Kj]
end
theorem acV{ip:ByteArray->Bool}(hP:∀s:ByteArray,s.size<=mg->G 227 [.str s]=some (0,[.bool (ip s)])){t:lL}(hs:fc (ew t)<=mg):G 228 (ew t)=some (0,[.bool (isType ip t)]):=by
 rw[pQ]at hs;have h1:=ahp (l:=t.ranges) (by simp only[cA]at hs;omega);have h2:=hP t.pattern (by omega);have h3:=Vi (s:=t.path) (by omega);refine cq ad1 rfl ?_;simp only[go_sem,t228,ew,NW (l:=t.names) (by omega)];cases hN:qy t.names with
 |false=>simp only[go_sem,hN,isType]
 |true=>
  simp only[go_sem,hN,isType,Gu];by_cases k1:t.kind=1
  ·have hk:vw ip t=(zE t.ranges && (t.names.isEmpty && (decide (t.pattern.size=0) && decide (t.path.size=0)))):=by simp[vw,k1]
   simp only[go_sem,h1,k1]
   repeat' (first|with_reducible rfl|((first|rw[eX]|rw[eZ]|rw[eW]|rw[eY]);split<;>simp only[go_sem,cy, *]))
   all_goals simp_all
  by_cases k2:t.kind=2
  ·have hk:vw ip t=(zE t.ranges && (Yp t.ranges && ((decide (t.pattern.size=0) ||ip t.pattern) && (t.names.isEmpty && decide (t.path.size=0))))):=by simp[vw,k2]
   cases hr:t.ranges with
   |nil=>
    have Jb:Yp t.ranges=true:=by rw[hr];rfl
    rw[hr]at h1;simp only[go_sem,h1,k2,gM]
    repeat' (first|with_reducible rfl|((first|rw[eX]|rw[eZ]|rw[eW]|rw[eY]);split<;>simp only[go_sem,cy, *]))
    all_goals simp_all
   |cons r l=>
    have Jb:Yp t.ranges=decide (0<=r.lo):=by rw[hr];rfl
    rw[hr]at h1;simp only[go_sem,h1,k2,iy]
    repeat' (first|with_reducible rfl|((first|rw[eX]|rw[eZ]|rw[eW]|rw[eY]);split<;>simp only[go_sem,cy,aN,jG, *]))
    all_goals simp_all
  by_cases k4:t.kind=4
  ·have hk:vw ip t=(ff 1 6 t.names.length && (t.ranges.isEmpty && (decide (t.pattern.size=0) && decide (t.path.size=0)))):=by simp[vw,k4]
   simp only[go_sem,yG,k4]
   repeat' (first|with_reducible rfl|((first|rw[eX]|rw[eZ]|rw[eW]|rw[eY]);split<;>simp only[go_sem,cy, *]))
   all_goals simp_all
  by_cases k5:t.kind=5
  ·have hk:vw ip t=(gG t.path && (!decide (t.path.size=0) && (t.ranges.isEmpty && (t.names.isEmpty && decide (t.pattern.size=0))))):=by simp[vw,k5]
   simp only[go_sem,h3,k5]
   repeat' (first|with_reducible rfl|((first|rw[eX]|rw[eZ]|rw[eW]|rw[eY]);split<;>simp only[go_sem,cy, *]))
   all_goals simp_all
  by_cases k3:t.kind=3
  ·have hk:vw ip t=(t.ranges.isEmpty && (t.names.isEmpty && (decide (t.pattern.size=0) && decide (t.path.size=0)))):=by simp[vw,k3]
   simp only[go_sem,k3]
   repeat' (first|with_reducible rfl|((first|rw[eX]|rw[eZ]|rw[eW]|rw[eY]);split<;>simp only[go_sem,cy, *]))
   all_goals simp_all
  by_cases k6:t.kind=6
  ·have hk:vw ip t=(t.ranges.isEmpty && (t.names.isEmpty && (decide (t.pattern.size=0) && decide (t.path.size=0)))):=by simp[vw,k6]
   simp only[go_sem,k6]
   repeat' (first|with_reducible rfl|((first|rw[eX]|rw[eZ]|rw[eW]|rw[eY]);split<;>simp only[go_sem,cy, *]))
   all_goals simp_all
  have hk:vw ip t=false:=by simp[vw,k1,k2,k3,k4,k5,k6]
  simp only[go_sem,k1,k2,k3,k4,k5,k6,hk]
end
section
def zT(t:lL):Bool:=decide (t.kind=0) && (t.ranges.isEmpty && (t.names.isEmpty && (decide (t.pattern.size=0) && decide (t.path.size=0))))
theorem ahR(t:lL):G 270 (ew t)=some (0,[.bool (zT t)]):=by
 refine cq aeE rfl ?_;simp only[go_sem,afs,ew]
 repeat' (first|with_reducible rfl|((first|rw[eX]|rw[eZ]|rw[eW]|rw[eY]);split<;>simp only[go_sem,pK,cy, *]))
 all_goals simp_all[zT]
theorem acM(t:lL):G 211 (ew t)=some (0,[.bool (zT t)]):=by
 refine cq adQ rfl ?_;simp only[go_sem,t211,ew]
 repeat' (first|with_reducible rfl|((first|rw[eX]|rw[eZ]|rw[eW]|rw[eY]);split<;>simp only[go_sem,pK,cy, *]))
 all_goals simp_all[zT]
theorem Bo{l:List ByteArray}(h:l.isEmpty=true):qy l=true:=by rw[List.isEmpty_iff.1 h];rfl
theorem Pe{l:List iF}(h:l.isEmpty=true):zE l=true:=by rw[List.isEmpty_iff.1 h];rfl
theorem ac8{ip:ByteArray->Bool}(hP:∀s:ByteArray,s.size<=mg->G 285 [.str s]=some (0,[.bool (ip s)])){t:lL}(hs:fc (ew t)<=mg):G 286 (ew t)=some (0,[.bool (isType ip t)]):=by
 rw[pQ]at hs;have h1:=ahT (l:=t.ranges) (by simp only[cA]at hs;omega);have h2:=hP t.pattern (by omega);have h3:=Vk (s:=t.path) (by omega);have h4:=Zf (l:=t.names) (by omega);have h5:=Ov (l:=t.names) (by simp only[cA]at hs;omega);refine cq aeM rfl ?_;simp only[go_sem,isType,afA,ew];by_cases k1:t.kind=1
 ·have hk:vw ip t=(zE t.ranges && (t.names.isEmpty && (decide (t.pattern.size=0) && decide (t.path.size=0)))):=by simp[vw,k1]
  simp only[go_sem,Gu,k1]
  repeat' (first|with_reducible rfl|((first|rw[eX]|rw[eZ]|rw[eW]|rw[eY]);split<;>simp only[go_sem,cy, *]))
  all_goals clear h1 h2 h3 h4 h5 hP hs
  all_goals simp_all[Bo]
 by_cases k2:t.kind=2
 ·have hk:vw ip t=(zE t.ranges && (Yp t.ranges && ((decide (t.pattern.size=0) ||ip t.pattern) && (t.names.isEmpty && decide (t.path.size=0))))):=by simp[vw,k2]
  cases hr:t.ranges with
  |nil=>
   have Jb:Yp t.ranges=true:=by rw[hr];rfl
   rw[hr]at h1;simp only[go_sem,Gu,k2]
   repeat' (first|with_reducible rfl|((first|rw[eX]|rw[eZ]|rw[eW]|rw[eY]);split<;>simp only[go_sem,cy,dD, *]))
   all_goals clear h1 h2 h3 h4 h5 hP hs
   all_goals simp_all[Bo,Pe]
  |cons r l=>
   have Jb:Yp t.ranges=decide (0<=r.lo):=by rw[hr];rfl
   rw[hr]at h1;simp only[go_sem,Gu,k2]
   repeat' (first|with_reducible rfl|((first|rw[eX]|rw[eZ]|rw[eW]|rw[eY]);split<;>simp only[go_sem,cy,aN,jG, *]))
   all_goals clear h1 h2 h3 h4 h5 hP hs
   all_goals simp_all[Bo]
   all_goals omega
 by_cases k4:t.kind=4
 ·have hk:vw ip t=(ff 1 6 t.names.length && (t.ranges.isEmpty && (decide (t.pattern.size=0) && decide (t.path.size=0)))):=by simp[vw,k4]
  unfold ff at hk;unfold qy;simp only[go_sem,Gu,k4]
  repeat' (first|with_reducible rfl|((first|rw[eX]|rw[eZ]|rw[eW]|rw[eY]);split<;>simp only[go_sem,cy, *]))
  all_goals clear h1 h2 h3 h4 h5 hP hs
  all_goals simp_all[Bo,Pe]
 by_cases k5:t.kind=5
 ·have hk:vw ip t=(gG t.path && (!decide (t.path.size=0) && (t.ranges.isEmpty && (t.names.isEmpty && decide (t.pattern.size=0))))):=by simp[vw,k5]
  simp only[go_sem,Gu,k5]
  repeat' (first|with_reducible rfl|((first|rw[eX]|rw[eZ]|rw[eW]|rw[eY]);split<;>simp only[go_sem,cy,Gu, *]))
  all_goals clear h1 h2 h3 h4 h5 hP hs
  all_goals simp_all[Bo]
 by_cases k3:t.kind=3
 ·have hk:vw ip t=(t.ranges.isEmpty && (t.names.isEmpty && (decide (t.pattern.size=0) && decide (t.path.size=0)))):=by simp[vw,k3]
  simp only[go_sem,Gu,k3]
  repeat' (first|with_reducible rfl|((first|rw[eX]|rw[eZ]|rw[eW]|rw[eY]);split<;>simp only[go_sem,cy,Gu, *]))
  all_goals clear h1 h2 h3 h4 h5 hP hs
  all_goals simp_all[Bo]
 by_cases k6:t.kind=6
 ·have hk:vw ip t=(t.ranges.isEmpty && (t.names.isEmpty && (decide (t.pattern.size=0) && decide (t.path.size=0)))):=by simp[vw,k6]
  simp only[go_sem,Gu,k6]
  repeat' (first|with_reducible rfl|((first|rw[eX]|rw[eZ]|rw[eW]|rw[eY]);split<;>simp only[go_sem,cy,Gu, *]))
  all_goals clear h1 h2 h3 h4 h5 hP hs
  all_goals simp_all[Bo]
 have hk:vw ip t=false:=by simp[vw,k1,k2,k3,k4,k5,k6]
 simp only[go_sem,Gu,k1,k2,hk]
 repeat' (first|with_reducible rfl|((first|rw[eX]|rw[eZ]|rw[eW]|rw[eY]);split<;>simp only[go_sem,cy,Gu, *]))
end
section
def mG:ByteArray:=⟨#[116,114,117,101]⟩
def jH:ByteArray:=⟨#[102,97,108,115,101]⟩
def yE:ByteArray:=⟨#[49]⟩
def qT:ByteArray:=⟨#[48]⟩
theorem mi:(⟨[116,114,117,101].toArray⟩:ByteArray)=mG:=(rfl)
theorem pR:(⟨[102,97,108,115,101].toArray⟩:ByteArray)=jH:=(rfl)
theorem pd:(⟨[49].toArray⟩:ByteArray)=yE:=(rfl)
theorem nw:(⟨[48].toArray⟩:ByteArray)=qT:=(rfl)
def kh(s:ByteArray):ByteArray:=if s=yE then mG else if s=qT then jH else s
def kS(mt:ByteArray->ByteArray->Bool)(t:lL)(s:ByteArray):Option ByteArray:=
 if t.kind=1 then (match Jg s with
  |some n=>if LV t.ranges n=true then some (wB n) else none
  |none=>none)
 else if t.kind=2 then (if (gG s && (LV t.ranges s.size && (decide (t.pattern.size=0) ||mt t.pattern s)))=true then some s else none)
 else if t.kind=3 then (if (decide (kh s=mG) ||decide (kh s=jH))=true then some (kh s) else none)
 else if t.kind=4 then (if nQ t.names s=true then some s else none)
 else if t.kind=5 then (if (gG s && !decide (s.size=0))=true then some s else none)
 else if t.kind=6 then (if s.size=0 then some s else none)
 else none
def zM(ip:ByteArray->Bool)(mt:ByteArray->ByteArray->Bool)(t:lL)(s:ByteArray):Option ByteArray:=if isType ip t=true then kS mt t s else none
def j_:Option ByteArray->List D
 |some v=>[.str v,.bool true]
 |none=>[.str ⟨#[]⟩,.bool false]
theorem Ck{l:List ByteArray}{i:Nat}{e s:ByteArray}(h:nth l i=some e):((l.take (i+1)).any λx=>decide (x=s))=(((l.take i).any λx=>decide (x=s)) ||decide (e=s)):=by
 rw[cu l i e h,List.any_append];simp
theorem QE(l:List ByteArray)(s:ByteArray):(l.any λx=>decide (x=s))=nQ l s:=by
 unfold nQ
 congr 1
 funext x
 exact decide_eq_decide.2 eq_comm
theorem UF{l:List ByteArray}{s o pt ph:ByteArray}{kd:Int}{rs:D}(hlen:l.length<=mg) :
  bR (lB G AT) (0,[.str s,.str o,.bool false,.int .i64 0,.int .i64 kd,rs,bp l,.str pt,.str ph])=some (0,[.str s,.str o,.bool (nQ l s),.int .i64 l.length,.bool false,.int .i64 kd,rs,bp l,.str pt,.str ph]):=by
 have hl:=eB (b:=lB G AT) l (λi (b:Bool)=>(0,[.str s,.str o,.bool b,.int .i64 (i:Int),.int .i64 kd,rs,bp l,.str pt,.str ph])) (λi=>(l.take i).any λx=>decide (x=s))
  (0,[.str s,.str o,.bool (l.any λx=>decide (x=s)),.int .i64 l.length,.bool false,.int .i64 kd,rs,bp l,.str pt,.str ph]) (by
  intro i e hn;have hi:=aR hn;have hw:=wj hi hlen;rw[Ck hn];cases hb:(l.take i).any λx=>decide (x=s)<;>simp only[go_sem,bm,AT,hi,aH,hn,gC,hw]) (by simp only[go_sem,bm,AT,aq,aW]) l.length 0 (by omega)
 rw[n0,bg,List.any_nil,QE]at hl;exact hl
theorem ahx{ip:ByteArray->Bool}{mt:ByteArray->ByteArray->Bool}(hP:∀s:ByteArray,s.size<=mg->G 227 [.str s]=some (0,[.bool (ip s)]))(hM:∀p s:ByteArray,p.size<=mg->s.size<=mg->G 236 [.str p,.str s]=some (0,[.bool (mt p s)]))
  {t:lL} {s:ByteArray} (ht:fc (ew t)<=mg) (hs:s.size<=mg):G 237 (ew t++[.str s])=some (0,j_ (zM ip mt t s)):=by
 have h8:=acV hP ht;have hz:=ht;rw[pQ]at hz;have h1:=ahu hs;have h4:=Vi hs;have h5:=acW (n:=0) (by omega);have h6:=hM t.pattern s (by omega) hs;have h7:∀n:Int,G 232 [eR t.ranges,.int .i64 n]=some (0,[.bool (LV t.ranges n)]):=λn=>ahv (by simp only[cA]at hz;omega);have h9:=UF (l:=t.names) (s:=s) (o:=s) (pt:=t.pattern) (ph:=t.path) (kd:=t.kind) (rs:=eR t.ranges) (by simp only[cA]at hz;omega);rw[ew]at h8;refine cq ad_ rfl ?_;simp only[go_sem,t237,ew];have fin:∀{r:Option ByteArray},kS mt t s=r->zM ip mt t s=if isType ip t=true then r else none:=λh=>by rw[zM,h]
 clear hP hM;by_cases k1:t.kind=1
 ·rw[k1]at h8 h9;cases hr:Jg s with
  |none=>
   have hv:=fin (r:=none) (by simp[kS,k1,hr]);rw[hr]at h1;clear fin h9;cases hT:isType ip t<;>rw[hT]at h8 hv<;>simp only[go_sem,k1,h1,h5,lu,hv,j_]
  |some n=>
   have hq:=acW (n:=n) (Ow hr);rw[hr]at h1;cases hi:LV t.ranges n with
   |false=>
    have hv:=fin (r:=none) (by simp[kS,k1,hr,hi]);clear fin h9;cases hT:isType ip t<;>rw[hT]at h8 hv<;>simp only[go_sem,h7,k1,h1,hq,hi,lu,hv,j_]
   |true=>
    have hv:=fin (r:=some (wB n)) (by simp[kS,k1,hr,hi]);clear fin h9;cases hT:isType ip t<;>rw[hT]at h8 hv<;>simp only[go_sem,h7,k1,h1,hq,hi,lu,h8,hv,j_]
 by_cases k2:t.kind=2
 ·rw[k2]at h8 h9;have hv:=fin (r:=if (gG s && (LV t.ranges s.size && (decide (t.pattern.size=0) ||mt t.pattern s)))=true then some s else none) (by simp[kS,k2]);clear fin h9;cases hT:isType ip t<;>rw[hT]at h8 hv<;>cases e1:gG s<;>cases e2:LV t.ranges s.size<;>by_cases e3:t.pattern.size=0<;>cases e4:mt t.pattern s<;>rw[e1,e2,e4]at hv<;>simp only[go_sem,e3]at hv<;>simp only[go_sem,h4,h6,h7,cy,k2,e1,e2,e3,e4,h8,hv,j_]
 by_cases k3:t.kind=3
 ·rw[k3]at h8 h9;have hv:=fin (r:=if (decide (kh s=mG) ||decide (kh s=jH))=true then some (kh s) else none) (by simp[kS,k3]);clear fin h9;have d1:¬yE=qT:=by decide
  have d2:¬mG=jH:=by decide
  have d3:¬jH=mG:=by decide
  have d4:¬qT=yE:=by decide
  have d5:¬mG=yE:=by decide
  have d6:¬mG=qT:=by decide
  have d7:¬jH=yE:=by decide
  have d8:¬jH=qT:=by decide
  by_cases e1:s=yE
  ·have hb:kh s=mG:=by rw[kh,if_pos e1]
   rw[hb]at hv;simp only[go_sem,d2]at hv;cases hT:isType ip t<;>rw[hT]at h8 hv<;>simp only[go_sem,mi,pd,k3,e1,h8,j_]<;>(rw[e1]at hv;simp only[go_sem,hv])
  by_cases e2:s=qT
  ·have hb:kh s=jH:=by rw[kh,if_neg e1,if_pos e2]
   rw[hb]at hv;simp only[go_sem,d3]at hv;cases hT:isType ip t<;>rw[hT]at h8 hv<;>simp only[go_sem,mi,pR,pd,nw,k3,e2,d3,d4,h8,j_]<;>(rw[e2]at hv;simp only[go_sem,hv])
  have hb:kh s=s:=by rw[kh,if_neg e1,if_neg e2]
  rw[hb]at hv;by_cases e3:s=mG
  ·simp only[go_sem,e3,d2]at hv;cases hT:isType ip t<;>rw[hT]at h8 hv<;>simp only[go_sem,mi,pd,nw,k3,e3,d5,d6,h8,j_]<;>simp only[go_sem,hv]
  by_cases e4:s=jH
  ·simp only[go_sem,e4,d3]at hv;cases hT:isType ip t<;>rw[hT]at h8 hv<;>simp only[go_sem,mi,pR,pd,nw,k3,e4,d3,d7,d8,h8,j_]<;>simp only[go_sem,hv]
  simp only[go_sem,e3,e4,ite_self]at hv;cases hT:isType ip t<;>rw[hT]at h8<;>simp only[go_sem,mi,pR,pd,nw,k3,e1,e2,e3,e4,hv,j_]
 by_cases k4:t.kind=4
 ·rw[k4]at h8 h9;have hv:=fin (r:=if nQ t.names s=true then some s else none) (by simp[kS,k4]);clear fin;cases hT:isType ip t<;>rw[hT]at h8 hv<;>cases e1:nQ t.names s<;>rw[e1]at h9 hv<;>simp only[go_sem,k4,h9,h8,hv,j_]
 by_cases k5:t.kind=5
 ·rw[k5]at h8 h9;have hv:=fin (r:=if (gG s && !decide (s.size=0))=true then some s else none) (by simp[kS,k5]);clear fin h9;cases hT:isType ip t<;>rw[hT]at h8 hv<;>cases e1:gG s<;>by_cases e2:s.size=0<;>rw[e1]at hv<;>simp only[go_sem,e2]at hv<;>simp only[go_sem,h4,cy,k5,e1,e2,h8,hv,j_]
 by_cases k6:t.kind=6
 ·rw[k6]at h8 h9;have hv:=fin (r:=if s.size=0 then some s else none) (by simp[kS,k6]);clear fin h9;cases hT:isType ip t<;>rw[hT]at h8 hv<;>by_cases e2:s.size=0<;>simp only[go_sem,e2]at hv<;>simp only[go_sem,cy,k6,e2,h8,hv,j_]
 have hv:=fin (r:=none) (by simp[kS,k1,k2,k3,k4,k5,k6]);clear fin h9;cases hT:isType ip t<;>rw[hT]at h8 hv<;>simp only[go_sem,k1,k2,k3,k4,k5,k6,hv,j_]
end
section
theorem ah0{ip:ByteArray->Bool}{mt:ByteArray->ByteArray->Bool}(hP:∀s:ByteArray,s.size<=mg->G 285 [.str s]=some (0,[.bool (ip s)]))(hM:∀p s:ByteArray,p.size<=mg->s.size<=mg->G 310 [.str p,.str s]=some (0,[.bool (mt p s)]))
  {t:lL} {s:ByteArray} (ht:fc (ew t)<=mg) (hs:s.size<=mg):G 311 (ew t++[.str s])=some (0,j_ (zM ip mt t s)):=by
 have h8:=ac8 hP ht;have hz:=ht;rw[pQ]at hz;have h1:=ahX hs;have h4:=Vk hs;have h5:=ac9 0;have h6:=hM t.pattern s (by omega) hs;have h7:∀n:Int,G 288 [eR t.ranges,.int .i64 n]=some (0,[.bool (LV t.ranges n)]):=λn=>ahY (by simp only[cA]at hz;omega);have h9:=q99 (l:=t.names) (v:=s) (by simp only[cA]at hz;omega);rw[ew]at h8;refine cq aeT rfl ?_;clear hP hM;cases hT:isType ip t with
 |false=>
  have hv:zM ip mt t s=none:=by rw[zM,hT];rfl
  rw[hT]at h8;simp only[go_sem,ZI,ew,h8,hv,j_]
 |true=>
 have hc:zM ip mt t s=kS mt t s:=by rw[zM,hT];rfl
 rw[hT]at h8;rw[hc];clear hc;simp only[go_sem,ZI,ew,h8];clear h8;by_cases k1:t.kind=1
 ·cases hr:Jg s with
  |none=>
   have hv:kS mt t s=none:=by simp[kS,k1,hr]
   rw[hr]at h1;simp only[go_sem,k1,h1,h5,lu,hv,j_]
  |some n=>
   have hq:=ac9 n;rw[hr]at h1;cases hi:LV t.ranges n with
   |false=>
    have hv:kS mt t s=none:=by simp[kS,k1,hr,hi]
    simp only[go_sem,h7,k1,h1,hq,hi,lu,hv,j_]
   |true=>
    have hv:kS mt t s=some (wB n):=by simp[kS,k1,hr,hi]
    simp only[go_sem,h7,k1,h1,hq,hi,lu,hv,j_]
 by_cases k2:t.kind=2
 ·have hv:kS mt t s=if (gG s && (LV t.ranges s.size && (decide (t.pattern.size=0) ||mt t.pattern s)))=true then some s else none:=by simp[kS,k2]
  cases e1:gG s<;>cases e2:LV t.ranges s.size<;>by_cases e3:t.pattern.size=0<;>cases e4:mt t.pattern s<;>rw[e1,e2,e4]at hv<;>simp only[go_sem,e3]at hv<;>simp only[go_sem,h4,h6,h7,cy,k2,e1,e2,e3,e4,hv,j_]
 by_cases k3:t.kind=3
 ·have hv:kS mt t s=if (decide (kh s=mG) ||decide (kh s=jH))=true then some (kh s) else none:=by simp[kS,k3]
  have d1:¬yE=qT:=by decide
  have d2:¬mG=jH:=by decide
  have d3:¬jH=mG:=by decide
  have d4:¬qT=yE:=by decide
  have d5:¬mG=yE:=by decide
  have d6:¬mG=qT:=by decide
  have d7:¬jH=yE:=by decide
  have d8:¬jH=qT:=by decide
  by_cases e1:s=yE
  ·have hb:kh s=mG:=by rw[kh,if_pos e1]
   rw[hb]at hv;rw[hv];simp only[go_sem,mi,pd,nw,k3,e1,d2,d6,j_]
  by_cases e2:s=qT
  ·have hb:kh s=jH:=by rw[kh,if_neg e1,if_pos e2]
   rw[hb]at hv;rw[hv];simp only[go_sem,mi,pR,pd,nw,k3,e2,d3,d4,j_]
  have hb:kh s=s:=by rw[kh,if_neg e1,if_neg e2]
  rw[hb]at hv;rw[hv];by_cases e3:s=mG
  ·simp only[go_sem,mi,pd,nw,k3,e3,d2,d5,d6,j_]
  by_cases e4:s=jH
  ·simp only[go_sem,mi,pR,pd,nw,k3,e4,d3,d7,d8,j_]
  simp only[go_sem,mi,pR,pd,nw,k3,e1,e2,e3,e4,j_]
 by_cases k4:t.kind=4
 ·have hv:kS mt t s=if nQ t.names s=true then some s else none:=by simp[kS,k4]
  rw[hv];cases e1:nQ t.names s<;>simp only[go_sem,h9,k4,e1,j_]
 by_cases k5:t.kind=5
 ·have hv:kS mt t s=if (gG s && !decide (s.size=0))=true then some s else none:=by simp[kS,k5]
  rw[hv];cases e1:gG s<;>by_cases e2:s.size=0<;>simp only[go_sem,h4,cy,k5,e1,e2,j_]
 by_cases k6:t.kind=6
 ·have hv:kS mt t s=if s.size=0 then some s else none:=by simp[kS,k6]
  rw[hv];by_cases e2:s.size=0<;>simp only[go_sem,cy,k6,e2,j_]
 have hv:kS mt t s=none:=by simp[kS,k1,k2,k3,k4,k5,k6]
 rw[hv];simp only[go_sem,k1,k2,k3,k4,k5,k6,j_]
def isVal(ip:ByteArray->Bool)(mt:ByteArray->ByteArray->Bool)(t:lL)(s:ByteArray):Bool:=match zM ip mt t s with
 |some v=>decide (v=s)
 |none=>false
theorem acY{ip:ByteArray->Bool}{mt:ByteArray->ByteArray->Bool}(hP:∀s:ByteArray,s.size<=mg->G 227 [.str s]=some (0,[.bool (ip s)]))(hM:∀p s:ByteArray,p.size<=mg->s.size<=mg->G 236 [.str p,.str s]=some (0,[.bool (mt p s)]))
  {t:lL} {s:ByteArray} (ht:fc (ew t)<=mg) (hs:s.size<=mg):G 238 (ew t++[.str s])=some (0,[.bool (isVal ip mt t s)]):=by
 have h:=ahx hP hM ht hs;rw[ew]at h;refine cq aea rfl ?_;unfold isVal;cases hc:zM ip mt t s with
 |none=>rw[hc]at h;simp only[go_sem]at h;simp only[go_sem,t238,ew,h,j_]
 |some v=>rw[hc]at h;simp only[go_sem]at h;simp only[go_sem,t238,ew,h,j_]
theorem ada{ip:ByteArray->Bool}{mt:ByteArray->ByteArray->Bool}(hP:∀s:ByteArray,s.size<=mg->G 285 [.str s]=some (0,[.bool (ip s)]))(hM:∀p s:ByteArray,p.size<=mg->s.size<=mg->G 310 [.str p,.str s]=some (0,[.bool (mt p s)]))
  {t:lL} {s:ByteArray} (ht:fc (ew t)<=mg) (hs:s.size<=mg):G 312 (ew t++[.str s])=some (0,[.bool (isVal ip mt t s)]):=by
 have h:=ah0 hP hM ht hs;rw[ew]at h;refine cq aeU rfl ?_;unfold isVal;cases hc:zM ip mt t s with
 |none=>rw[hc]at h;simp only[go_sem]at h;simp only[go_sem,ZJ,ew,h,j_]
 |some v=>rw[hc]at h;simp only[go_sem]at h;simp only[go_sem,ZJ,ew,h,j_]
end
section
theorem sP{α β σ ρ:Type}{b:σ->Option (Sg σ ρ)}(es:List α)(g:α->β)(m0:Nat->σ)(m1:Nat->List β->σ)(f0:ρ)(f1:List β->ρ)
  (h0:∀e,nth es 0=some e->b (m0 0)=some (.go (m1 1 [g e])))
  (h1:∀i e,nth es i=some e->0 < i->b (m1 i ((es.take i).map g))=some (.go (m1 (i+1) ((es.take i).map g++[g e]))))
  (e0:es=[]->b (m0 0)=some (.out f0)) (e1:es≠[]->b (m1 es.length (es.map g))=some (.out (f1 (es.map g)))) :
  bR b (m0 0)=some (if es.isEmpty=true then f0 else f1 (es.map g)):=by
 cases vQ:es with
 |nil=>rw[bk (e0 vQ)];rfl
 |cons x l=>
  have iO:es≠[]:=by rw[vQ];simp
  have go:∀m i,i+m=es.length->0 < i->bR b (m1 i ((es.take i).map g))=some (f1 (es.map g)):=by
   intro m
   induction m with
   |zero=>
    intro i hi hp;obtain rfl:i=es.length:=by omega
    rw[aW];exact bk (e1 iO)
   |succ m ih=>
    intro i hi hp;have a1:=dF (l:=es) (i:=i) (by omega);rw[cE (h1 i _ a1 hp),<- vq a1];exact ih (i+1) (by omega) (by omega)
  have hx:nth es 0=some x:=by rw[vQ];rfl
  rw[cE (h0 x hx)];have:=go (es.length - 1) 1 (by rw[vQ];simp;omega) (by omega);rw[vq hx]at this;simp only[bg,dD,ak]at this;rw[this,vQ];rfl
theorem fI(k by_:Nat)(fl:Bool)(es iY:List (List D))(hb:by_<=65536)(h:es.length+iY.length<=2147483648):aK (.app k by_) [.list k fl es,.list k fl iY]=some (.list k fl (es++iY)):=
 Ko k by_ fl es iY (of_eq_true (Zt hb h))
theorem q76{t:lL}(ht:fc (ew t)<=mg):G 76 (ew t)=some (0,ew t):=by
 rw[pQ]at ht;have h1:=fI 2 16 true [] (t.ranges.map jG) (by decide) (by simp only[cA,mg,av,aQ]at *;omega);have h2:=fI 1 16 true [] (t.names.map gC) (by decide) (by simp only[cA,mg,av,aQ]at *;omega);refine cq s76 rfl ?_;simp only[go_sem,t76,ew,h1,h2]
theorem q77{p:ml}(hs:fc (jF p)<=mg):G 77 (jF p)=some (0,jF p):=by
 rw[BV]at hs;have hlen:p.steps.length<=mg:=by simp only[cA]at hs;omega
 refine cq s77 rfl ?_;simp only[go_sem,t77,jF];have hl:=sP (b:=lB G Dq) p.steps (λe=>e) (λi=>(0,[.int .i64 (i:Int),.bool p.root,.int .i64 p.oL,eE p.steps,.bool false,.int .i64 0,.bool p.root,.int .i64 p.oL]))
  (λi a=>(1,[.int .i64 (i:Int),.bool p.root,.int .i64 p.oL,eE p.steps,.bool false,.int .i64 0,.bool p.root,.int .i64 p.oL,eE a]))
  (0,[.int .i64 0,.bool false,.bool p.root,.int .i64 p.oL,eE p.steps,.bool false,.int .i64 0,.bool p.root,.int .i64 p.oL])
  (λa=>(1,[.int .i64 p.steps.length,.bool false,.bool p.root,.int .i64 p.oL,eE p.steps,.bool false,.int .i64 0,.bool p.root,.int .i64 p.oL,eE a])) (by
   intro e hn;have hi:=aR hn;have hw:=wj hi hlen;have mH:=(fE hs (aT hn)).1;rw[vH]at mH;have h1:=fI 2 32 true [] (e.fu.map nM) (by decide) (by simp only[cA,mg,av,aQ]at *;omega);have h2:aK (.eg 2 false) [.str e.name,hZ e.fu]=some (.list 2 false [[.str e.name,hZ e.fu]]):=by simp[aK,chunk]
   have h3:=fI 2 40 false [] [[.str e.name,hZ e.fu]] (by decide) (by simp);have h4:aK .pl [.str e.name]=some (.bool false):=rfl;simp only[go_sem,bm,Dq,hi,aH,hn,jY,h1,h2,h3,h4,hw];simp[eE,jY]) (by
   intro i e hn hp;have hi:=aR hn;have hw:=wj hi hlen;have mH:=(fE hs (aT hn)).1;rw[vH]at mH;have h1:=fI 2 32 true [] (e.fu.map nM) (by decide) (by simp only[cA,mg,av,aQ]at *;omega);have h2:aK (.eg 2 false) [.str e.name,hZ e.fu]=some (.list 2 false [[.str e.name,hZ e.fu]]):=by simp[aK,chunk]
   have h3:=fI 2 40 false ((p.steps.take i).map jY) [[.str e.name,hZ e.fu]] (by decide) (by simp only[mg,av,aY,aE,aQ]at *;omega);have h4:aK .pl [.str e.name]=some (.bool false):=rfl;simp only[go_sem,bm,Dq,hi,aH,hn,jY,dC,h1,h2,h3,h4,hw];simp[eE,jY]) (by
   intro h;simp only[go_sem,bm,Dq,h,dD,n0,ey]) (by
   intro h;simp only[go_sem,bm,Dq,aq,dC])
 rw[n0]at hl;rw[hl];cases Ct:p.steps with
 |nil=>simp only[go_sem,gM,dD];rfl
 |cons s l=>simp only[go_sem,iy,dC]
theorem kI(k:Nat)(xs:List D)(h:xs.length=k)(hk:0 < k):aK (.eg k false) xs=some (.list k false [xs]):=by
 have h1:xs.length / k=1:=by rw[h];exact Nat.div_self hk
 have h2:xs.length % k=0:=by rw[h];exact Nat.mod_self k
 have h3:chunk k 1 xs=some [xs]:=by
  simp only[chunk];rw[if_pos (by omega),ez (by omega),List.take_of_length_le (by omega)];rfl
 simp only[aK,h1,h2,h3,if_true];rw[if_pos (λh=>by cases h)]
theorem adg(n:Nat):∀e:cN,ah e < n->fc (bK e)<=mg->G 78 (bK e)=some (0,bK e):=by
 induction n with
 |zero=>intro e h;omega
 |succ n ih=>
  intro e hz hs;have hlen:e.kids.length<=mg:=az rY hs;have ht:=nX e;have h7:=q77 (p:=e.path) (by omega);rw[jF]at h7;refine cq s78 (by rw[bc];rfl) ?_;simp only[go_sem,t78,bc,h7];have st:∀(i:Nat) (x:cN) (l:List (List D)),nth e.kids i=some x->l.length<=mg->G 78 (bK x)=some (0,bK x)/\aK .pl [.int .i64 x.op,.int .i64 x.num,.str x.text,.bool x.path.root,.int .i64 x.path.oL]=some (.bool false)/\
    aK (.eg 7 false) (bK x)=some (.list 7 false [bK x])/\aK (.app 7 96) [.list 7 false l,.list 7 false [bK x]]=some (.list 7 false (l++[bK x])):=by
   intro i x l hn hl;refine⟨ih x (by have:=cN.AE (aT hn);omega) (az (AF (aT hn)) hs),rfl,kI 7 _ (pB x) (by decide),fI 7 96 false l [bK x] (by decide) (by simp only[mg,aE,aQ]at *;omega)⟩
  have hl:=sP (b:=lB G Dr) e.kids (λe=>e) (λi=>(0,.int .i64 (i:Int)::(bK e++[.int .i64 0,.int .i64 0,.str ⟨#[]⟩,.bool false,.int .i64 0,.int .i64 e.op,.int .i64 e.num,.str e.text,.bool e.path.root,.int .i64 e.path.oL,eE e.path.steps])))
   (λi a=>(1,.int .i64 (i:Int)::(bK e++[.int .i64 0,.int .i64 0,.str ⟨#[]⟩,.bool false,.int .i64 0,.int .i64 e.op,.int .i64 e.num,.str e.text,.bool e.path.root,.int .i64 e.path.oL,cW a,eE e.path.steps])))
   (0,.int .i64 0::.bool false::(bK e++[.int .i64 0,.int .i64 0,.str ⟨#[]⟩,.bool false,.int .i64 0,.int .i64 e.op,.int .i64 e.num,.str e.text,.bool e.path.root,.int .i64 e.path.oL,eE e.path.steps]))
   (λa=>(1,.int .i64 e.kids.length::.bool false::(bK e++[.int .i64 0,.int .i64 0,.str ⟨#[]⟩,.bool false,.int .i64 0,.int .i64 e.op,.int .i64 e.num,.str e.text,.bool e.path.root,.int .i64 e.path.oL,cW a,eE e.path.steps]))) (by
    intro x hn;have hi:=aR hn;have hw:=wj hi hlen;obtain⟨h1,h2,h3,h4⟩:=st 0 x [] hn (by simp);rw[bc x]at h1 h3 h4;simp only[go_sem,bm,Dr,bc e,hi,aH,hn,jv];simp only[go_sem,bc x,h1,h2,h3,h4,hw];simp[cW,bc x]) (by
    intro i x hn hp;have hi:=aR hn;have hw:=wj hi hlen;obtain⟨h1,h2,h3,h4⟩:=st i x ((e.kids.take i).map bK) hn (by simp only[av,aY];omega);rw[bc x]at h1 h3 h4;simp only[go_sem,bm,Dr,bc e,hi,aH,hn,jv,dC];simp only[go_sem,bc x,h1,h2,h3,h4,hw];simp[cW,bc x]) (by
    intro h;simp only[go_sem,bm,Dr,bc,h,dD,n0,ey]) (by
    intro h;simp only[go_sem,bm,Dr,bc,aq,dC])
  simp only[go_sem,bc,n0]at hl;rw[hl];cases Ct:e.kids with
  |nil=>simp only[go_sem,gM,dD];rfl
  |cons s l=>simp only[go_sem,iy,dC]
theorem q78{e:cN}(hs:fc (bK e)<=mg):G 78 (bK e)=some (0,bK e):=adg _ e (aM _) hs
end
section
def bS(e:af):List D:=aw e++[.int .i64 0,.str ⟨#[]⟩,.int .i64 0,.str ⟨#[]⟩,.str ⟨#[]⟩,.str ⟨#[]⟩,.bool false,.bool false,.bool false,.bool false,.int .i64 0,.int .i64 0,.int .i64 e.kind,.str e.name,.int .i64 e.type.kind,.str e.type.pattern,.str e.type.path,.str e.default,.bool e.given,.bool e.dZ,.bool e.cP,.bool e.fixed,.int .i64 e.min,.int .i64 e.max,aA e.kids,bp e.keys,bp e.unique]
def rS(e:af):List D:=[eR e.type.ranges,bp e.type.names]
theorem Rm{e:af}{w:D}(hs:fc (aw e)<=mg) :
  bR (lB G A5) (0,.int .i64 0::(bS e++[]++rS e))=some (if e.when.isEmpty=true then (0,.int .i64 0::.bool false::(bS e++[]++rS e)) else (1,.int .i64 e.when.length::.bool false::(bS e++[cW e.when]++rS e))):=by
 have hz:=hs;rw[dK]at hz;have hf:cA bK e.when<=mg:=by omega
 have hlen:e.when.length<=mg:=by simp only[cA]at hf;omega
 have st:∀(i:Nat) (x:cN) (l:List (List D)),nth e.when i=some x->l.length<=mg->G 78 (bK x)=some (0,bK x)/\aK .pl [.int .i64 x.op,.int .i64 x.num,.str x.text,.bool x.path.root,.int .i64 x.path.oL]=some (.bool false)/\
   aK (.eg 7 false) (bK x)=some (.list 7 false [bK x])/\aK (.app 7 96) [.list 7 false l,.list 7 false [bK x]]=some (.list 7 false (l++[bK x])):=by
  intro i x l hn hl;refine⟨q78 (fE hf (aT hn)).1,rfl,kI 7 _ (pB x) (by decide),fI 7 96 false l [bK x] (by decide) (by simp only[mg,aE,aQ]at *;omega)⟩
 have hl:=sP (b:=lB G A5) e.when (λe=>e) (λi=>(0,.int .i64 (i:Int)::(bS e++[]++rS e))) (λi a=>(1,.int .i64 (i:Int)::(bS e++[cW a]++rS e)))
  (0,.int .i64 0::.bool false::(bS e++[]++rS e)) (λa=>(1,.int .i64 e.when.length::.bool false::(bS e++[cW a]++rS e))) (by
   intro x hn;have hi:=aR hn;have hw:=wj hi hlen;obtain⟨h1,h2,h3,h4⟩:=st 0 x [] hn (by simp);rw[bc x]at h1 h3 h4;simp only[go_sem,bm,A5,bS,rS,ae,hi,aH,hn,jv];simp only[go_sem,bc x,h1,h2,h3,h4,hw];simp[cW,bc x]) (by
   intro i x hn hp;have hi:=aR hn;have hw:=wj hi hlen;obtain⟨h1,h2,h3,h4⟩:=st i x ((e.when.take i).map bK) hn (by simp only[av,aY];omega);rw[bc x]at h1 h3 h4;simp only[go_sem,bm,A5,bS,rS,ae,hi,aH,hn,jv,dC];simp only[go_sem,bc x,h1,h2,h3,h4,hw];simp[cW,bc x]) (by
   intro h;simp only[go_sem,bm,A5,bS,rS,ae,h,dD,n0,ey]) (by
   intro h;simp only[go_sem,bm,A5,bS,rS,ae,aq,dC])
 rw[n0]at hl;rw[hl,dC]
theorem Rn{e:af}{w:D}(hs:fc (aw e)<=mg) :
  bR (lB G A6) (0,.int .i64 0::(bS e++[]++rS e))=some (if e.hO.isEmpty=true then (0,.int .i64 0::.bool false::(bS e++[]++rS e)) else (1,.int .i64 e.hO.length::.bool false::(bS e++[cW e.hO]++rS e))):=by
 have hz:=hs;rw[dK]at hz;have hf:cA bK e.hO<=mg:=by omega
 have hlen:e.hO.length<=mg:=by simp only[cA]at hf;omega
 have st:∀(i:Nat) (x:cN) (l:List (List D)),nth e.hO i=some x->l.length<=mg->G 78 (bK x)=some (0,bK x)/\aK .pl [.int .i64 x.op,.int .i64 x.num,.str x.text,.bool x.path.root,.int .i64 x.path.oL]=some (.bool false)/\
   aK (.eg 7 false) (bK x)=some (.list 7 false [bK x])/\aK (.app 7 96) [.list 7 false l,.list 7 false [bK x]]=some (.list 7 false (l++[bK x])):=by
  intro i x l hn hl;refine⟨q78 (fE hf (aT hn)).1,rfl,kI 7 _ (pB x) (by decide),fI 7 96 false l [bK x] (by decide) (by simp only[mg,aE,aQ]at *;omega)⟩
 have hl:=sP (b:=lB G A6) e.hO (λe=>e) (λi=>(0,.int .i64 (i:Int)::(bS e++[]++rS e))) (λi a=>(1,.int .i64 (i:Int)::(bS e++[cW a]++rS e)))
  (0,.int .i64 0::.bool false::(bS e++[]++rS e)) (λa=>(1,.int .i64 e.hO.length::.bool false::(bS e++[cW a]++rS e))) (by
   intro x hn;have hi:=aR hn;have hw:=wj hi hlen;obtain⟨h1,h2,h3,h4⟩:=st 0 x [] hn (by simp);rw[bc x]at h1 h3 h4;simp only[go_sem,bm,A6,bS,rS,ae,hi,aH,hn,jv];simp only[go_sem,bc x,h1,h2,h3,h4,hw];simp[cW,bc x]) (by
   intro i x hn hp;have hi:=aR hn;have hw:=wj hi hlen;obtain⟨h1,h2,h3,h4⟩:=st i x ((e.hO.take i).map bK) hn (by simp only[av,aY];omega);rw[bc x]at h1 h3 h4;simp only[go_sem,bm,A6,bS,rS,ae,hi,aH,hn,jv,dC];simp only[go_sem,bc x,h1,h2,h3,h4,hw];simp[cW,bc x]) (by
   intro h;simp only[go_sem,bm,A6,bS,rS,ae,h,dD,n0,ey]) (by
   intro h;simp only[go_sem,bm,A6,bS,rS,ae,aq,dC])
 rw[n0]at hl;rw[hl,dC]
theorem Ro{e:af}{w:D}(hs:fc (aw e)<=mg) :
  bR (lB G A7) (0,.int .i64 0::(bS e++[w]++rS e))=some (if e.hO.isEmpty=true then (0,.int .i64 0::.bool false::(bS e++[w]++rS e)) else (1,.int .i64 e.hO.length::.bool false::(bS e++[w,cW e.hO]++rS e))):=by
 have hz:=hs;rw[dK]at hz;have hf:cA bK e.hO<=mg:=by omega
 have hlen:e.hO.length<=mg:=by simp only[cA]at hf;omega
 have st:∀(i:Nat) (x:cN) (l:List (List D)),nth e.hO i=some x->l.length<=mg->G 78 (bK x)=some (0,bK x)/\aK .pl [.int .i64 x.op,.int .i64 x.num,.str x.text,.bool x.path.root,.int .i64 x.path.oL]=some (.bool false)/\
   aK (.eg 7 false) (bK x)=some (.list 7 false [bK x])/\aK (.app 7 96) [.list 7 false l,.list 7 false [bK x]]=some (.list 7 false (l++[bK x])):=by
  intro i x l hn hl;refine⟨q78 (fE hf (aT hn)).1,rfl,kI 7 _ (pB x) (by decide),fI 7 96 false l [bK x] (by decide) (by simp only[mg,aE,aQ]at *;omega)⟩
 have hl:=sP (b:=lB G A7) e.hO (λe=>e) (λi=>(0,.int .i64 (i:Int)::(bS e++[w]++rS e))) (λi a=>(1,.int .i64 (i:Int)::(bS e++[w,cW a]++rS e)))
  (0,.int .i64 0::.bool false::(bS e++[w]++rS e)) (λa=>(1,.int .i64 e.hO.length::.bool false::(bS e++[w,cW a]++rS e))) (by
   intro x hn;have hi:=aR hn;have hw:=wj hi hlen;obtain⟨h1,h2,h3,h4⟩:=st 0 x [] hn (by simp);rw[bc x]at h1 h3 h4;simp only[go_sem,bm,A7,bS,rS,ae,hi,aH,hn,jv];simp only[go_sem,bc x,h1,h2,h3,h4,hw];simp[cW,bc x]) (by
   intro i x hn hp;have hi:=aR hn;have hw:=wj hi hlen;obtain⟨h1,h2,h3,h4⟩:=st i x ((e.hO.take i).map bK) hn (by simp only[av,aY];omega);rw[bc x]at h1 h3 h4;simp only[go_sem,bm,A7,bS,rS,ae,hi,aH,hn,jv,dC];simp only[go_sem,bc x,h1,h2,h3,h4,hw];simp[cW,bc x]) (by
   intro h;simp only[go_sem,bm,A7,bS,rS,ae,h,dD,n0,ey]) (by
   intro h;simp only[go_sem,bm,A7,bS,rS,ae,aq,dC])
 rw[n0]at hl;rw[hl,dC]
theorem af.iC(e:af)(es:List af):ah e.kids < ah (e::es):=by
 cases e;simp only[bB,af.mk.sizeOf_spec];omega
theorem af.fq(e:af):ah e.kids < ah e:=by
 cases e;simp only[af.mk.sizeOf_spec];omega
theorem oA(e:af):(aw e).length=19:=by rw[ae];rfl
theorem dO(e:af)(k:Nat)(fl:Bool):aK (.has 19) [.list k fl [aw e]]=some (.bool false):=by
 rw[BD,oA,if_pos (aj 19)]
theorem hX(e:af):cA aw e.kids<=fc (aw e):=by rw[dK];omega
theorem RX{e:af}(hs:fc (aw e)<=mg)(hk:G 79 [aA e.kids]=some (0,[aA e.kids])):G 80 (aw e)=some (0,aw e):=by
 have hz:=hs;rw[dK]at hz;have h76:=q76 (t:=e.type) (by omega);rw[ew]at h76;have hz2:=pQ e.type;have h1:=fI 1 16 true [] (e.keys.map gC) (by decide) (by simp only[cA,mg,av,aQ]at *;omega);have h2:=fI 1 16 true [] (e.unique.map gC) (by decide) (by simp only[cA,mg,av,aQ]at *;omega);have l0:=Rm (e:=e) (w:=.bool false) hs;have l1:=Rn (e:=e) (w:=.bool false) hs;have l2:=Ro (e:=e) (w:=cW e.when) hs;simp only[go_sem,bS,rS,ae]at l0 l1 l2;refine cq s80 (by rw[ae];rfl) ?_;simp only[go_sem,t80,ae,h76,h1,h2];rw[l0];cases hw:e.when with
 |nil=>
  rw[hw]at l1 l0;simp only[go_sem,gM];rw[l1];cases hm:e.hO with
  |nil=>simp only[go_sem,gM,hk];rfl
  |cons x l=>simp only[go_sem,iy,hk];rfl
 |cons y m=>
  rw[hw]at l2;simp only[go_sem,iy];rw[l2];cases hm:e.hO with
  |nil=>simp only[go_sem,gM,hk];rfl
  |cons x l=>simp only[go_sem,iy,hk]
end
section
theorem plS(x:af):aK .pl [.int .i64 x.kind,.str x.name,.int .i64 x.type.kind,.str x.type.pattern,.str x.type.path,.str x.default,.bool x.given,.bool x.dZ,.bool x.cP,.bool x.fixed,.int .i64 x.min,.int .i64 x.max]=some (.bool false):=(rfl)
theorem mkS(x:af):aK (.eg 19 false) (aw x)=some (.list 19 false [aw x]):=kI 19 _ (oA x) (by decide)
theorem aau(l:List (List D))(x:List D)(h:l.length<=mg):aK (.app 19 272) [.list 19 false l,.list 19 false [x]]=some (.list 19 false (l++[x])):=
 fI 19 272 false l [x] (by decide) (by simp only[mg,aE,aQ]at *;omega)
theorem adh(n:Nat):∀l:List af,ah l < n->cA aw l<=mg->G 79 [aA l]=some (0,[aA l]):=by
 induction n with
 |zero=>intro l h;omega
 |succ n ih=>
  intro l hz hs;have hlen:l.length<=mg:=by simp only[cA]at hs;omega
  refine cq s79 rfl ?_;simp only[go_sem,t79];have hl:=eB (b:=lB G HZ) l (λi (a:List af)=>(0,[aA l,.int .i64 (i:Int),aA a])) (λi=>l.take i) (0,[aA l,.int .i64 l.length,.bool false,aA l]) (by
   intro i x hn;have hi:=aR hn;have hw:=wj hi hlen;have hx:fc (aw x)<=mg:=(fE hs (aT hn)).1;have hk:=ih x.kids (by have:=aU (aT hn);have:=af.fq x;omega) (az (hX x) hx);have h80:=RX hx hk;have h2:=mkS x;have h3:=aau ((l.take i).map aw) (aw x) (by simp only[av,aY];omega);rw[ae x]at h80 h2 h3;simp only[go_sem,bm,HZ,hi,aH,hn,dO];simp only[go_sem,ae x,h80,plS,h2,h3,hw,cu _ _ _ hn];simp[aA,ae x]) (by simp only[go_sem,bm,HZ,aq,aW]) l.length 0 (by omega)
  rw[n0,bg]at hl;have rq:bR (lB G HZ) (0,[aA l,.int .i64 0,.list 19 false []])=_:=hl;rw[rq];simp only[go_sem]
theorem q79{l:List af}(hs:cA aw l<=mg):G 79 [aA l]=some (0,[aA l]):=adh _ l (aM _) hs
theorem q80{e:af}(hs:fc (aw e)<=mg):G 80 (aw e)=some (0,aw e):=RX hs (q79 (az (hX e) hs))
def lS(k:Int):Bool:=ff 1 4 k
def od(k:Int):Bool:=decide (k=5) ||decide (k=6)
theorem q75(k:Int):G 75 [.int .i64 k]=some (0,[.bool (lS k)]):=by
 refine cq s75 rfl ?_;simp only[go_sem,t75,yG,lS]
theorem vS(k:Int):G 92 [.int .i64 k]=some (0,[.bool (lS k)]):=by
 have h:lS k=(decide (k=1) ||decide (k=2) ||decide (k=3) ||decide (k=4)):=by
  rw[cU];simp[lS,ff];omega
 refine cq s92 rfl ?_;simp only[go_sem,t92]
 repeat' (first|with_reducible rfl|((first|rw[eX]|rw[eZ]|rw[eW]|rw[eY]);split<;>simp only[go_sem, *]))
 all_goals simp_all
def dk:List af->List af
 |[]=>[]
 |e::es=>(if lS e.kind=true then [e] else if od e.kind=true then dk e.kids else [])++dk es
termination_by es=>ah es
decreasing_by
 ·exact af.iC e es
 ·simp only[bB];omega
def xQ(e:af):List af:=if lS e.kind=true then [e] else if od e.kind=true then dk e.kids else []
theorem oz(e:af)(es:List af):dk (e::es)=xQ e++dk es:=by rw[dk];rfl
theorem rP:dk []=[]:=by rw[dk]
theorem PL:∀(a b:List af),dk (a++b)=dk a++dk b
 |[],b=>by rw[rP];rfl
 |e::a,b=>by rw[ai,oz,oz,PL a b,bh]
theorem yP(a:List af)(e:af):dk (a++[e])=dk a++xQ e:=by rw[PL,oz,rP,aD]
theorem aaH(n:Nat):∀(es:List af),ah es < n->cA aw (dk es)<=cA aw es:=by
 induction n with
 |zero=>intro es h;omega
 |succ n ih=>
  intro es h;cases es with
  |nil=>rw[rP];exact aj _
  |cons e es=>
   have h1:=ih es (by simp only[bB]at h;omega);have h2:=ih e.kids (by have:=af.iC e es;omega);rw[oz,F7,lD];have h3:cA aw (xQ e)<=fc (aw e)+1:=by
    unfold xQ;split
    ·rw[lD];simp[cA,n7]
    ·split
     ·have:=hX e;omega
     ·simp[cA,n7]
   omega
theorem qM{es:List af}:cA aw (dk es)<=cA aw es:=aaH _ es (aM _)
theorem yQ{es:List af}(i:Nat)(hs:cA aw es<=mg):(dk (es.take i)).length<=mg:=by
 have h1:=qM (es:=es.take i);have h2:=Sw aw es i;simp only[cA]at *;omega
theorem WL{k:Int}(h:lS k=true):od k=false/\¬k=5/\¬k=6:=by
 have:=(fH _ _ _).1 h;have h5:¬k=5:=by omega
 have h6:¬k=6:=by omega
 exact⟨by simp[od,h5,h6],h5,h6⟩
theorem adi(n:Nat):∀l:List af,ah l < n->cA aw l<=mg->G 81 [aA l]=some (0,[aA (dk l)]):=by
 induction n with
 |zero=>intro l h;omega
 |succ n ih=>
  intro l hz hs;have hlen:l.length<=mg:=by simp only[cA]at hs;omega
  refine cq s81 rfl ?_;simp only[go_sem,t81];have hl:=eB (b:=lB G xZ) l (λi (a:List af)=>(0,[aA l,.int .i64 (i:Int),aA a])) (λi=>dk (l.take i)) (0,[aA l,.int .i64 l.length,.bool false,aA (dk l)]) (by
   intro i x hn;have hi:=aR hn;have hw:=wj hi hlen;have hx:fc (aw x)<=mg:=(fE hs (aT hn)).1;have Dg:=az (hX x) hx;have xW:=yQ i hs;have HC:=yQ (i+1) hs;rw[cu _ _ _ hn,yP]at HC;rw[cu _ _ _ hn,yP];cases hd:lS x.kind with
   |true=>
    obtain⟨hc,k5,k6⟩:=WL hd;have h80:=q80 hx;have h2:=mkS x;have h3:=aau ((dk (l.take i)).map aw) (aw x) (by rw[av];exact xW);have h1:xQ x=[x]:=by rw[xQ,if_pos hd]
    rw[ae x]at h80 h2 h3;rw[h1];simp only[go_sem,bm,xZ,hi,aH,hn];simp only[go_sem,ae x,q75,hd];simp only[go_sem,ae x,hn,aH,h80,plS,h2,h3,k5,k6,hw];simp[aA,ae x]
   |false=>
    have h81:=ih x.kids (by have:=aU (aT hn);have:=af.fq x;omega) Dg;by_cases k5:x.kind=5
    ·have h1:xQ x=dk x.kids:=by rw[xQ,if_neg (by rw[hd];simp),if_pos (by simp[od,k5])]
     rw[h1]at HC ⊢;have h3:=fI 19 272 false ((dk (l.take i)).map aw) ((dk x.kids).map aw) (by decide) (by simp only[mg,av,aO]at *;omega);rw[k5]at hd;simp only[go_sem,bm,xZ,hi,aH,hn];simp only[go_sem,ae x,q75,hd,k5];simp only[go_sem,ae x,hn,aH,k5,h81,h3,hw];simp[aA]
    ·by_cases k6:x.kind=6
     ·have h1:xQ x=dk x.kids:=by rw[xQ,if_neg (by rw[hd];simp),if_pos (by simp[od,k6])]
      rw[h1]at HC ⊢;have h3:=fI 19 272 false ((dk (l.take i)).map aw) ((dk x.kids).map aw) (by decide) (by simp only[mg,av,aO]at *;omega);rw[k6]at hd;simp only[go_sem,bm,xZ,hi,aH,hn];simp only[go_sem,ae x,q75,hd,k6];simp only[go_sem,ae x,hn,aH,k6,h81,h3,hw];simp[aA]
     ·have h1:xQ x=[]:=by rw[xQ,if_neg (by rw[hd];simp),if_neg (by simp[od,k5,k6])]
      rw[h1,aD];simp only[go_sem,bm,xZ,hi,aH,hn];simp only[go_sem,ae x,q75,hd];simp only[go_sem,ae x,hn,aH,k5,k6,hw]) (by simp only[go_sem,bm,xZ,aq,aW]) l.length 0 (by omega)
  rw[n0,bg,rP]at hl;have rq:bR (lB G xZ) (0,[aA l,.int .i64 0,.list 19 false []])=_:=hl;rw[rq];simp only[go_sem]
theorem q81{l:List af}(hs:cA aw l<=mg):G 81 [aA l]=some (0,[aA (dk l)]):=adi _ l (aM _) hs
end
section
def wc(c:Bool)(l:List af):List Bool:=match l with
 |[]=>[]
 |e::es=>(if lS e.kind=true then [c] else if od e.kind=true then wc (c ||decide (e.kind=6)) e.kids else [])++wc c es
termination_by ah l
decreasing_by
 ·exact af.iC e es
 ·simp only[bB];omega
def rN(c:Bool)(e:af):List Bool:=if lS e.kind=true then [c] else if od e.kind=true then wc (c ||decide (e.kind=6)) e.kids else []
theorem rO(c:Bool)(e:af)(es:List af):wc c (e::es)=rN c e++wc c es:=by rw[wc];rfl
theorem yO(c:Bool):wc c []=[]:=by rw[wc]
theorem Hc(c:Bool)(e:af):∀(a:List af),wc c (a++[e])=wc c a++rN c e
 |[]=>by rw[ak,rO,yO];simp
 |x::a=>by rw[ai,rO,rO,Hc c e a,bh]
theorem TN(n:Nat):∀(c:Bool) (l:List af),ah l < n->(wc c l).length=(dk l).length:=by
 induction n with
 |zero=>intro c l h;omega
 |succ n ih=>
  intro c l h;cases l with
  |nil=>rw[yO,rP];rfl
  |cons e es=>
   rw[rO,oz,aO,aO,ih c es (by simp only[bB]at h;omega)]
   congr 1
   unfold rN xQ;split
   ·rfl
   ·split
    ·exact ih _ e.kids (by have:=af.iC e es;omega)
    ·rfl
theorem wg(c:Bool)(l:List af):(wc c l).length=(dk l).length:=TN _ c l (aM _)
def kE{α:Type}(l:List α):Nat:=if l.isEmpty=true then 0 else 1
theorem agZ(x:af):aK .yb (aw x)=some (.bool false):=by rw[ae];rfl
theorem fV{α:Type}:kE ([]:List α)=0:=(rfl)
theorem oZ{α:Type}(l m:List α)(h:m≠[]):kE (l++m)=1:=by
 unfold kE;rw[if_neg];cases l<;>cases m<;>simp_all
theorem ju{α:Type}{l:List α}(h:l≠[]):kE l=1:=by simpa using oZ [] l h
theorem aav(a b:List af)(h:a.length+b.length<=mg):aK (.app 19 272) [aA a,aA b]=some (aA (a++b)):=by
 have:=fI 19 272 false (a.map aw) (b.map aw) (by decide) (by simp only[mg,av]at *;omega);rw[<- dc]at this;exact this
theorem aas(a b:List Bool)(h:a.length+b.length<=mg):aK (.app 1 1) [aV a,aV b]=some (aV (a++b)):=by
 have:=fI 1 1 true (a.map xR) (b.map xR) (by decide) (by simp only[mg,av]at *;omega);rw[<- dc]at this;exact this
theorem mkB(c:Bool):aK (.eg 1 true) [.bool c]=some (aV [c]):=by simp[aK,chunk,cQ,D.plain,xR,aV]
theorem adm(n:Nat):∀(l:List af) (c:Bool),ah l < n->cA aw l<=mg->G 93 [aA l,.bool c]=some (kE (dk l),[aA (dk l),aV (wc c l)]):=by
 induction n with
 |zero=>intro l c h;omega
 |succ n ih=>
  intro l c hz hs;have hlen:l.length<=mg:=by simp only[cA]at hs;omega
  refine cq s93 rfl ?_;simp only[go_sem,t93];have hl:=eB (b:=lB G je) l (λi (a:List af×List Bool)=>(kE a.1,[.bool c,aA l,.int .i64 l.length,.int .i64 (i:Int),aA a.1,aV a.2])) (λi=>(dk (l.take i),wc c (l.take i)))
   (kE (dk l),[.bool c,aA l,.int .i64 l.length,.int .i64 l.length,.bool false,aA (dk l),aV (wc c l)]) (by
   intro i x hn;have hi:=aR hn;have hw:=wj hi hlen;have hx:fc (aw x)<=mg:=(fE hs (aT hn)).1;have Dg:=az (hX x) hx;have xW:=yQ i hs;have HC:=yQ (i+1) hs;have sR:=wg c (l.take i);rw[cu _ _ _ hn,yP]at HC;rw[cu _ _ _ hn,yP,Hc];have EB:dk (l.take i)=[]->wc c (l.take i)=[]:=λh=>cn.1 (by rw[sR,h];rfl);have agu:(rN c x).length=(xQ x).length:=by
    have h1:=wg c [x];rw[rO,yO,oz,rP]at h1
    simpa using h1
   have hA:=aav (dk (l.take i)) (xQ x) (by rw[aO]at HC;exact HC);have hB:=aas (wc c (l.take i)) (rN c x) (by rw[sR,agu];rw[aO]at HC;exact HC);have hm:=mkB c;have hMk:=mkS x;have hNp:=agZ x;rw[ae x]at hMk hNp;generalize hda:dk (l.take i)=a at *;generalize hfa:wc c (l.take i)=f at *;cases hd:lS x.kind with
   |true=>
    have h1:xQ x=[x]:=by rw[xQ,if_pos hd]
    have h2:rN c x=[c]:=by rw[rN,if_pos hd]
    rw[h1]at hA ⊢;rw[h2]at hB ⊢;have XB:aK (.app 19 272) [aA a,.list 19 false [aw x]]=some (aA (a++[x])):=hA;rw[ae x]at XB;rw[oZ a [x] (by simp)];cases a with
    |nil=>
     have hf:=EB rfl;subst hf;simp only[go_sem,bm,je,fV,hi,aH,hn,dO];simp only[go_sem,ae x,vS,hd,hNp,hMk,XB,hm,hB,hw]
    |cons y a=>
     simp only[go_sem,bm,je,ju (bP y a),hi,aH,hn,dO];simp only[go_sem,ae x,vS,hd,hNp,hMk,XB,hm,hB,hw]
   |false=>
    have OT:=hd;by_cases k6:x.kind=6
    ·have h1:xQ x=dk x.kids:=by rw[xQ,if_neg (by rw[hd];simp),if_pos (by simp[od,k6])]
     have k5:¬x.kind=5:=by omega
     rw[h1]at hA ⊢;rw[k6]at hd;cases c with
     |true=>
      have kj:=ih x.kids true (by have:=aU (aT hn);have:=af.fq x;omega) Dg;have h2:rN true x=wc true x.kids:=by rw[rN,if_neg (by rw[OT];simp),if_pos (by simp[od,k6])];simp[k6]
      rw[h2]at hB ⊢;cases hq:dk x.kids with
      |nil=>
       rw[hq]at kj hA;have hg:wc true x.kids=[]:=cn.1 (by rw[wg,hq];rfl);rw[hg]at kj hB ⊢;cases a with
       |nil=>
        have hf:=EB rfl;subst hf;rw[aD,aD];simp only[go_sem,bm,je,fV,fV,hi,aH,hn,dO];simp only[go_sem,ae x,vS,hd,k6,kj,fV,hA,hB,hw,aD]
       |cons y a=>
        rw[aD,aD];simp only[go_sem,bm,je,ju (bP y a),hi,aH,hn,dO];simp only[go_sem,ae x,vS,hd,k6,kj,fV,hA,hB,hw,aD]
      |cons u b=>
       rw[hq]at kj hA;cases a with
       |nil=>
        have hf:=EB rfl;subst hf;rw[oZ _ (u::b) (by simp)];simp only[go_sem,bm,je,fV,hi,aH,hn,dO];simp only[go_sem,ae x,vS,hd,k6,kj,ju (bP u b),hA,hB,hw]
       |cons y a=>
        rw[oZ _ (u::b) (by simp)];simp only[go_sem,bm,je,ju (bP y a),hi,aH,hn,dO];simp only[go_sem,ae x,vS,hd,k6,kj,ju (bP u b),hA,hB,hw]
     |false=>
      have kj:=ih x.kids true (by have:=aU (aT hn);have:=af.fq x;omega) Dg;have h2:rN false x=wc true x.kids:=by rw[rN,if_neg (by rw[OT];simp),if_pos (by simp[od,k6])];simp[k6]
      rw[h2]at hB ⊢;cases hq:dk x.kids with
      |nil=>
       rw[hq]at kj hA;have hg:wc true x.kids=[]:=cn.1 (by rw[wg,hq];rfl);rw[hg]at kj hB ⊢;cases a with
       |nil=>
        have hf:=EB rfl;subst hf;rw[aD,aD];simp only[go_sem,bm,je,fV,fV,hi,aH,hn,dO];simp only[go_sem,ae x,vS,hd,k6,kj,fV,hA,hB,hw,aD]
       |cons y a=>
        rw[aD,aD];simp only[go_sem,bm,je,ju (bP y a),hi,aH,hn,dO];simp only[go_sem,ae x,vS,hd,k6,kj,fV,hA,hB,hw,aD]
      |cons u b=>
       rw[hq]at kj hA;cases a with
       |nil=>
        have hf:=EB rfl;subst hf;rw[oZ _ (u::b) (by simp)];simp only[go_sem,bm,je,fV,hi,aH,hn,dO];simp only[go_sem,ae x,vS,hd,k6,kj,ju (bP u b),hA,hB,hw]
       |cons y a=>
        rw[oZ _ (u::b) (by simp)];simp only[go_sem,bm,je,ju (bP y a),hi,aH,hn,dO];simp only[go_sem,ae x,vS,hd,k6,kj,ju (bP u b),hA,hB,hw]
    ·by_cases k5:x.kind=5
     ·have h1:xQ x=dk x.kids:=by rw[xQ,if_neg (by rw[hd];simp),if_pos (by simp[od,k5])]
      rw[h1]at hA ⊢;rw[k5]at hd;cases c with
      |true=>
       have kj:=ih x.kids true (by have:=aU (aT hn);have:=af.fq x;omega) Dg;have h2:rN true x=wc true x.kids:=by rw[rN,if_neg (by rw[OT];simp),if_pos (by simp[od,k5])];simp[k5]
       rw[h2]at hB ⊢;cases hq:dk x.kids with
       |nil=>
        rw[hq]at kj hA;have hg:wc true x.kids=[]:=cn.1 (by rw[wg,hq];rfl);rw[hg]at kj hB ⊢;cases a with
        |nil=>
         have hf:=EB rfl;subst hf;rw[aD,aD];simp only[go_sem,bm,je,fV,fV,hi,aH,hn,dO];simp only[go_sem,ae x,vS,hd,k5,kj,fV,hA,hB,hw,aD]
        |cons y a=>
         rw[aD,aD];simp only[go_sem,bm,je,ju (bP y a),hi,aH,hn,dO];simp only[go_sem,ae x,vS,hd,k5,kj,fV,hA,hB,hw,aD]
       |cons u b=>
        rw[hq]at kj hA;cases a with
        |nil=>
         have hf:=EB rfl;subst hf;rw[oZ _ (u::b) (by simp)];simp only[go_sem,bm,je,fV,hi,aH,hn,dO];simp only[go_sem,ae x,vS,hd,k5,kj,ju (bP u b),hA,hB,hw]
        |cons y a=>
         rw[oZ _ (u::b) (by simp)];simp only[go_sem,bm,je,ju (bP y a),hi,aH,hn,dO];simp only[go_sem,ae x,vS,hd,k5,kj,ju (bP u b),hA,hB,hw]
      |false=>
       have kj:=ih x.kids false (by have:=aU (aT hn);have:=af.fq x;omega) Dg;have h2:rN false x=wc false x.kids:=by rw[rN,if_neg (by rw[OT];simp),if_pos (by simp[od,k5])];simp[k5]
       rw[h2]at hB ⊢;cases hq:dk x.kids with
       |nil=>
        rw[hq]at kj hA;have hg:wc false x.kids=[]:=cn.1 (by rw[wg,hq];rfl);rw[hg]at kj hB ⊢;cases a with
        |nil=>
         have hf:=EB rfl;subst hf;rw[aD,aD];simp only[go_sem,bm,je,fV,fV,hi,aH,hn,dO];simp only[go_sem,ae x,vS,hd,k5,kj,fV,hA,hB,hw,aD]
        |cons y a=>
         rw[aD,aD];simp only[go_sem,bm,je,ju (bP y a),hi,aH,hn,dO];simp only[go_sem,ae x,vS,hd,k5,kj,fV,hA,hB,hw,aD]
       |cons u b=>
        rw[hq]at kj hA;cases a with
        |nil=>
         have hf:=EB rfl;subst hf;rw[oZ _ (u::b) (by simp)];simp only[go_sem,bm,je,fV,hi,aH,hn,dO];simp only[go_sem,ae x,vS,hd,k5,kj,ju (bP u b),hA,hB,hw]
        |cons y a=>
         rw[oZ _ (u::b) (by simp)];simp only[go_sem,bm,je,ju (bP y a),hi,aH,hn,dO];simp only[go_sem,ae x,vS,hd,k5,kj,ju (bP u b),hA,hB,hw]
     ·have h1:xQ x=[]:=by rw[xQ,if_neg (by rw[hd];simp),if_neg (by simp[od,k5,k6])]
      have h2:rN c x=[]:=by rw[rN,if_neg (by rw[hd];simp),if_neg (by simp[od,k5,k6])]
      rw[h1,h2,aD,aD];cases a with
      |nil=>
       simp only[go_sem,bm,je,fV,hi,aH,hn,dO];simp only[go_sem,ae x,vS,hd,k5,k6,hw]
      |cons y a=>
       simp only[go_sem,bm,je,ju (bP y a),hi,aH,hn,dO];simp only[go_sem,ae x,vS,hd,k5,k6,hw]) (by
   rw[aW];cases hd:dk l with
   |nil=>simp only[go_sem,bm,je,fV,aq]
   |cons y a=>simp only[go_sem,bm,je,ju (bP y a),aq]) l.length 0 (by omega)
  rw[n0,bg,rP,yO]at hl;have rq:bR (lB G je) (0,[.bool c,aA l,.int .i64 l.length,.int .i64 0,.list 19 false [],.list 1 true []])=_:=hl;rw[rq];cases hd:dk l with
  |nil=>simp only[go_sem,fV]
  |cons y a=>simp only[go_sem,ju (bP y a)]
theorem q93{l:List af}{c:Bool}(hs:cA aw l<=mg):G 93 [aA l,.bool c]=some (kE (dk l),[aA (dk l),aV (wc c l)]):=adm _ l c (aM _) hs
theorem q94{l:List af}(hs:cA aw l<=mg):G 94 [aA l]=some (kE (dk l),[aA (dk l)]):=by
 have h:=q93 (c:=false) hs;refine cq s94 rfl ?_;cases hd:dk l with
 |nil=>rw[hd]at h;simp only[go_sem,t94,h,fV]
 |cons y a=>rw[hd]at h;simp only[go_sem,t94,h,ju (bP y a)]
end
section
def fF(l:List af)(nm:ByteArray):Option Nat:=pV (λe=>decide (e.name=nm)) l 0
theorem WR{l:List af}{nm:ByteArray}(hlen:l.length<=mg):G 82 [aA l,.str nm]=some (0,[.int .i64 (kR (fF l nm))]):=by
 refine cq s82 rfl ?_;simp only[go_sem,t82];have hl:=nP (b:=lB G Me) l (λi=>(0,[aA l,.str nm,.int .i64 (i:Int)])) (λe=>decide (e.name=nm)) (1,[aA l,.str nm,.int .i64 l.length,.bool false]) (λi e=>(0,[.int .i64 (i:Int)])) (by
  intro i e hn;have hi:=aR hn;have hw:=wj hi hlen;simp only[go_sem,bm,Me,hi,aH,hn,ae];cases hc:decide (e.name=nm)<;>simp only[go_sem,hw]) (by simp only[go_sem,bm,Me,aq])
 rw[n0]at hl;rw[hl];unfold fF;cases hf:pV (λe=>decide (e.name=nm)) l 0 with
 |none=>simp only[go_sem,kR]
 |some j=>
  obtain⟨e,h1,h2⟩:=dr hf;simp only[go_sem,h1,kR]
theorem q95{l:List af}(hlen:l.length<=mg):G 95 [aA l]=some (0,[bp (l.map af.name)]):=by
 refine cq s95 rfl ?_;simp only[go_sem,t95];have hl:=eB (b:=lB G H0) l (λi (a:List ByteArray)=>(0,[aA l,.int .i64 l.length,.int .i64 (i:Int),bp a])) (λi=>(l.take i).map af.name) (0,[aA l,.int .i64 l.length,.int .i64 l.length,.bool false,bp (l.map af.name)]) (by
  intro i e hn;have hi:=aR hn;have hw:=wj hi hlen;have XE:aK (.app 1 16) [bp ((l.take i).map af.name),.list 1 true [[.str e.name]]]=some (bp ((l.take (i+1)).map af.name)):=by
   have h:=fI 1 16 true (((l.take i).map af.name).map gC) [[.str e.name]] (by decide) (by simp only[mg,av,aY,aE,aQ]at *;omega);rw[h,vq hn];simp[gC]
  have hmk:aK (.eg 1 true) [.str e.name]=some (.list 1 true [[.str e.name]]):=by simp[aK,chunk,cQ,D.plain]
  simp only[go_sem,bm,H0,hi,aH,hn,dO];simp only[go_sem,ae e,hmk,XE,hw]) (by simp only[go_sem,bm,H0,aq,aW]) l.length 0 (by omega)
 rw[n0,bg]at hl;have rq:bR (lB G H0) (0,[aA l,.int .i64 l.length,.int .i64 0,.list 1 true []])=_:=hl;rw[rq];simp only[go_sem]
theorem UB{l:List ByteArray}{e:ByteArray}{k:Nat}(hn:nth l k=some e)(hlen:l.length<=mg) :
  bR (lB G AM) (0,[bp l,.int .i64 (k:Int),.int .i64 0])=some (if (l.take k).all (λx=>!decide (x=e))=true then (1,[bp l,.int .i64 (k:Int),.int .i64 (k:Int),.bool false]) else (0,[.bool false])):=by
 have hk:=aR hn;have hl:=oC (b:=lB G AM) (λj=>(0,[bp l,.int .i64 (k:Int),.int .i64 (j:Int)])) (VZ (λx=>!decide (x=e)) l) k (1,[bp l,.int .i64 (k:Int),.int .i64 (k:Int),.bool false]) (0,[.bool false]) (by
  intro j hj;have a1:=dF (l:=l) (i:=j) (by omega);have hw:=wj (i:=j) (n:=k) hj (by omega);generalize l[j]'(by omega)=x at a1;simp only[go_sem,bm,AM,hj,aH,hn,a1,gC,VZ];cases hc:decide (x=e)<;>simp only[go_sem,hw]) (by simp only[go_sem,bm,AM,aq]) k 0 (by omega)
 rw[n0]at hl;rw[hl,uP _ l k 0 (by omega),aX]
def so(l:List ByteArray):Bool:=qf l && decide (l.length<=3)
theorem TM(l:List ByteArray):qf l=allI (λk e=>(l.take k).all λx=>!decide (x=e)) 0 l:=by
 rw[qf]
 congr 1
 funext i e
 rw[HB,fm]
theorem acN{l:List ByteArray}(hlen:l.length<=mg):G 212 [bp l]=some (0,[.bool (so l)]):=by
 refine cq adR rfl ?_;simp only[go_sem,t212];have hl:=nk (b:=lB G EV) l (λk=>(0,[bp l,.int .i64 (k:Int)])) (λk e=>(l.take k).all λx=>!decide (x=e)) (1,[bp l,.int .i64 l.length,.bool false]) (0,[.bool false]) (by
  intro k e hn;have hk:=aR hn;have hw:=wj hk hlen;simp only[go_sem,bm,EV,hk,UB hn hlen];cases hc:(l.take k).all (λx=>!decide (x=e))<;>simp only[go_sem,hw]) (by simp only[go_sem,bm,EV,aq]) l.length 0 (by omega)
 rw[n0,aX]at hl;rw[hl,so,TM];cases allI (λk e=>(l.take k).all λx=>!decide (x=e)) 0 l<;>simp only[go_sem,abS]
def kH(e:af):Bool:=ff 0 1000000000 e.min && (decide (e.max=0) ||ff e.min 1000000000 e.max)
theorem acO(e:af):G 213 (aw e)=some (0,[.bool (kH e)]):=by
 refine cq adS (by rw[ae];rfl) ?_;simp only[go_sem,t213,ae,yG]
 repeat' (first|with_reducible rfl|((first|rw[eX]|rw[eZ]|rw[eW]|rw[eY]);split<;>simp only[go_sem,yG, *]))
 all_goals simp_all[kH]
theorem Ol(e:af):kH e=(decide (0<=e.min) && (decide (e.min<=1000000000) && (decide (0<=e.max) && (decide (e.max<=1000000000) && (decide (e.max=0) ||decide (e.min<=e.max)))))):=by
 rw[cU];simp only[kH,ff,ab,dE,decide_eq_true_eq];omega
theorem ahS(e:af):G 272 (aw e)=some (0,[.bool (kH e)]):=by
 rw[Ol];refine cq aeG (by rw[ae];rfl) ?_;simp only[go_sem,afv,ae]
 repeat' (first|with_reducible rfl|((first|rw[eX]|rw[eZ]|rw[eW]|rw[eY]);split<;>simp only[go_sem, *]))
 all_goals simp_all
end
section
def dq:List af->Nat
 |[]=>0
 |e::es=>1+dq e.kids+dq es
termination_by es=>ah es
decreasing_by
 ·exact af.iC e es
 ·simp only[bB];omega
def dG:List af->Nat
 |[]=>0
 |e::es=>dq e.kids+dG es
theorem ow:∀(l:List af),dq l=l.length+dG l
 |[]=>by rw[dq];rfl
 |e::l=>by rw[dq,ow l,dG,aE];omega
theorem oT(e:af):∀(l:List af),dG (l++[e])=dG l+dq e.kids
 |[]=>by simp[dG]
 |x::l=>by rw[ai,dG,dG,oT e l];omega
theorem Cn(l:List af)(i:Nat):dG l=dG (l.take i)+dG (l.drop i):=by
 have app:∀(a b:List af),dG (a++b)=dG a+dG b:=by
  intro a
  induction a with
  |nil=>intro b;simp[dG]
  |cons x a ih=>intro b;rw[ai,dG,dG,ih b];omega
 rw[<- app,a_]
theorem G6(n:Nat):∀(l:List af),ah l < n->dq l<=cA aw l:=by
 induction n with
 |zero=>intro l h;omega
 |succ n ih=>
  intro l h;cases l with
  |nil=>rw[dq];omega
  |cons e l=>
   have h1:=ih l (by simp only[bB]at h;omega);have h2:=ih e.kids (by have:=af.iC e l;omega);rw[dq,lD];have:=hX e;omega
theorem G7{l:List af}:dq l<=cA aw l:=G6 _ l (aM _)
theorem Za(n:Nat):∀l:List af,ah l < n->cA aw l<=mg->G 255 [aA l]=some (0,[.int .i64 (dq l)]):=by
 induction n with
 |zero=>intro l h;omega
 |succ n ih=>
  intro l hz hs;have hlen:l.length<=mg:=by simp only[cA]at hs;omega
  refine cq aep rfl ?_;simp only[go_sem,t255];have hl:=eB (b:=lB G E6) l (λi (m:Nat)=>(0,[.int .i64 (m:Int),aA l,.int .i64 l.length,.int .i64 (i:Int)])) (λi=>l.length+dG (l.take i)) (0,[.int .i64 (dq l),aA l,.int .i64 l.length,.int .i64 l.length,.bool false]) (by
   intro i x hn;have hi:=aR hn;have hw:=wj hi hlen;have hx:=(fE hs (aT hn)).1;have hk:=az (hX x) hx;have h1:=ih x.kids (by have:=aU (aT hn);have:=af.fq x;omega) hk;have h2:=Cn l (i+1);have h3:=G7 (l:=l);rw[ow]at h3;rw[cu _ _ _ hn,oT]at h2;have h4:IntKind.i64.wrap (((l.length+dG (l.take i):Nat):Int)+(dq x.kids:Int))=((l.length+(dG (l.take i)+dq x.kids):Nat):Int):=by rw[wrap_i64 (by simp only[mg]at hs;omega)];omega
   rw[cu _ _ _ hn,oT];simp only[go_sem,bm,E6,hi,aH,hn,dO];simp only[go_sem,ae x,h1,h4,hw]) (by
   rw[aW,ow];simp only[go_sem,bm,E6,aq]) l.length 0 (by omega)
  rw[n0,bg,dG,eA]at hl;rw[hl];simp only[go_sem]
theorem ahI{l:List af}(hs:cA aw l<=mg):G 255 [aA l]=some (0,[.int .i64 (dq l)]):=Za _ l (aM _) hs
def sH(l:List af)(x r:Int):Prop:=((dq l:Int)<=x->r=x - dq l)/\(x < (dq l:Int)->r < 0)/\-1048576<=r
theorem YZ(n:Nat):∀(l:List af) (x:Int),ah l < n->cA aw l<=mg->0<=x->x<=1048576->∃r,G 201 [aA l,.int .i64 x]=some (0,[.int .i64 r])/\sH l x r:=by
 induction n with
 |zero=>intro l x h;omega
 |succ n ih=>
  intro l x hz hs h0 hx;have hlen:l.length<=mg:=by simp only[cA]at hs;omega
  have hw0:IntKind.i64.wrap (x - (l.length:Int))=x - l.length:=wrap_i64 (by simp only[mg]at hlen;omega);have loop:∀m i (y:Int),i+m=l.length->-1048576<=y->y<=1048576->∃(r z:Int),bR (lB G AJ) (0,[aA l,.int .i64 y,.int .i64 (i:Int)])=some (0,[aA l,.int .i64 r,.int .i64 z,.bool false])/\(0<=y->(dG (l.drop i):Int)<=y->r=y - dG (l.drop i))/\(y < 0\/y < (dG (l.drop i):Int)->r < 0)/\-1048576<=r:=by
   intro m
   induction m with
   |zero=>
    intro i y hi h1 h2;obtain rfl:i=l.length:=by omega
    refine⟨y,l.length,bk (by simp only[go_sem,bm,AJ,aq]),?_⟩;rw[cC];simp only[dG];omega
   |succ m ihm=>
    intro i y hi h1 h2;have ic:i < l.length:=by omega
    have a1:=dF (l:=l) (i:=i) ic;have hd:=gY l i _ a1;generalize l[i]'ic=e at a1 hd;by_cases hy:0<=y
    ·have tq:=aT a1;have hke:=az (hX e) (fE hs tq).1;obtain⟨r1,g1,g2,g3,g4⟩:=ih e.kids y (by have:=aU tq;have:=af.fq e;omega) hke hy h2;have X0:r1<=1048576:=by
      by_cases hc:(dq e.kids:Int)<=y
      ·have:=g2 hc;omega
      ·have:=g3 (by omega);omega
     obtain⟨r,z,k1,k2,k3,k4⟩:=ihm (i+1) r1 (by omega) g4 X0;have hw:=wj ic hlen;refine⟨r,z,?_,?_⟩
     ·rw[<- k1];refine cE ?_;simp only[go_sem,bm,AJ,ic,aH,a1,hy];simp only[go_sem,ae e,g1,hw]
     ·rw[hd,dG];refine⟨λ_ h=>?_,λh=>?_,k4⟩
      ·have:=g2 (by omega);have:=k2 (by omega) (by omega);omega
      ·by_cases hc:(dq e.kids:Int)<=y
       ·have:=g2 hc;exact k3 (by omega)
       ·have:=g3 (by omega);exact k3 (.inl this)
    ·refine⟨y,i,bk (by simp only[go_sem,bm,AJ,ic,hy]),λh=>absurd h hy,λ_=>by omega,h1⟩
  obtain⟨r,z,k1,k2,k3,k4⟩:=loop l.length 0 (x - l.length) (by omega) (by simp only[mg]at hlen;omega) (by omega);rw[n0,aX]at *;refine⟨r,cq adG rfl ?_,?_⟩
  ·simp only[go_sem,t201,hw0,k1]
  ·unfold sH;rw[ow];refine⟨λh=>?_,λh=>?_,k4⟩
   ·have:=k2 (by omega) (by omega);omega
   ·exact k3 (by omega)
theorem ahh{l:List af}{x:Int}(hs:cA aw l<=mg)(h0:0<=x)(hx:x<=1048576):∃r,G 201 [aA l,.int .i64 x]=some (0,[.int .i64 r])/\sH l x r:=YZ _ l x (aM _) hs h0 hx
theorem aJ.iC(e:aJ)(es:List aJ):ah e.kids < ah (e::es):=by
 cases e;simp only[bB,aJ.mk.sizeOf_spec];omega
theorem aJ.fq(e:aJ):ah e.kids < ah e:=by
 cases e;simp only[aJ.mk.sizeOf_spec];omega
theorem Nj(e:aJ):(bD e).length=3:=by rw[aP];rfl
theorem fg(e:aJ)(k:Nat)(fl:Bool):aK (.has 3) [.list k fl [bD e]]=some (.bool false):=by
 rw[BD,Nj,if_pos (aj 3)]
theorem Bk(e:aJ):cA bD e.kids<=fc (bD e):=by rw[jL];omega
def fw:List aJ->Nat
 |[]=>0
 |e::es=>1+fw e.kids+fw es
termination_by es=>ah es
decreasing_by
 ·exact aJ.iC e es
 ·simp only[bB];omega
def fK:List aJ->Nat
 |[]=>0
 |e::es=>fw e.kids+fK es
theorem sK:∀(l:List aJ),fw l=l.length+fK l
 |[]=>by rw[fw];rfl
 |e::l=>by rw[fw,sK l,fK,aE];omega
theorem rH(e:aJ):∀(l:List aJ),fK (l++[e])=fK l+fw e.kids
 |[]=>by simp[fK]
 |x::l=>by rw[ai,fK,fK,rH e l];omega
theorem GQ(l:List aJ)(i:Nat):fK l=fK (l.take i)+fK (l.drop i):=by
 have app:∀(a b:List aJ),fK (a++b)=fK a+fK b:=by
  intro a
  induction a with
  |nil=>intro b;simp[fK]
  |cons x a ih=>intro b;rw[ai,fK,fK,ih b];omega
 rw[<- app,a_]
theorem Nc(n:Nat):∀(l:List aJ),ah l < n->fw l<=cA bD l:=by
 induction n with
 |zero=>intro l h;omega
 |succ n ih=>
  intro l h;cases l with
  |nil=>rw[fw];omega
  |cons e l=>
   have h1:=ih l (by simp only[bB]at h;omega);have h2:=ih e.kids (by have:=aJ.iC e l;omega);rw[fw,lD];have:=Bk e;omega
theorem Nd{l:List aJ}:fw l<=cA bD l:=Nc _ l (aM _)
theorem Zl(n:Nat):∀l:List aJ,ah l < n->cA bD l<=mg->G 317 [bl l]=some (0,[.int .i64 (fw l)]):=by
 induction n with
 |zero=>intro l h;omega
 |succ n ih=>
  intro l hz hs;have hlen:l.length<=mg:=by simp only[cA]at hs;omega
  refine cq aeZ rfl ?_;simp only[go_sem,afG];have hl:=eB (b:=lB G Fo) l (λi (m:Nat)=>(0,[.int .i64 (m:Int),bl l,.int .i64 l.length,.int .i64 (i:Int)])) (λi=>l.length+fK (l.take i)) (0,[.int .i64 (fw l),bl l,.int .i64 l.length,.int .i64 l.length,.bool false]) (by
   intro i x hn;have hi:=aR hn;have hw:=wj hi hlen;have hx:=(fE hs (aT hn)).1;have hk:=az (Bk x) hx;have h1:=ih x.kids (by have:=aU (aT hn);have:=aJ.fq x;omega) hk;have h2:=GQ l (i+1);have h3:=Nd (l:=l);rw[sK]at h3;rw[cu _ _ _ hn,rH]at h2;have h4:IntKind.i64.wrap (((l.length+fK (l.take i):Nat):Int)+(fw x.kids:Int))=((l.length+(fK (l.take i)+fw x.kids):Nat):Int):=by rw[wrap_i64 (by simp only[mg]at hs;omega)];omega
   rw[cu _ _ _ hn,rH];simp only[go_sem,bm,Fo,hi,aH,hn,fg];simp only[go_sem,aP x,h1,h4,hw]) (by
   rw[aW,sK];simp only[go_sem,bm,Fo,aq]) l.length 0 (by omega)
  rw[n0,bg,fK,eA]at hl;rw[hl];simp only[go_sem]
theorem ah3{l:List aJ}(hs:cA bD l<=mg):G 317 [bl l]=some (0,[.int .i64 (fw l)]):=Zl _ l (aM _) hs
def yJ(l:List aJ)(x r:Int):Prop:=((fw l:Int)<=x->r=x - fw l)/\(x < (fw l:Int)->r < 0)/\-1048576<=r
theorem Y8(n:Nat):∀(l:List aJ) (x:Int),ah l < n->cA bD l<=mg->0<=x->x<=1048576->∃r,G 242 [bl l,.int .i64 x]=some (0,[.int .i64 r])/\yJ l x r:=by
 induction n with
 |zero=>intro l x h;omega
 |succ n ih=>
  intro l x hz hs h0 hx;have hlen:l.length<=mg:=by simp only[cA]at hs;omega
  have hw0:IntKind.i64.wrap (x - (l.length:Int))=x - l.length:=wrap_i64 (by simp only[mg]at hlen;omega);have loop:∀m i (y:Int),i+m=l.length->-1048576<=y->y<=1048576->∃(r z:Int),bR (lB G AU) (0,[bl l,.int .i64 y,.int .i64 (i:Int)])=some (0,[bl l,.int .i64 r,.int .i64 z,.bool false])/\(0<=y->(fK (l.drop i):Int)<=y->r=y - fK (l.drop i))/\(y < 0\/y < (fK (l.drop i):Int)->r < 0)/\-1048576<=r:=by
   intro m
   induction m with
   |zero=>
    intro i y hi h1 h2;obtain rfl:i=l.length:=by omega
    refine⟨y,l.length,bk (by simp only[go_sem,bm,AU,aq]),?_⟩;rw[cC];simp only[fK];omega
   |succ m ihm=>
    intro i y hi h1 h2;have ic:i < l.length:=by omega
    have a1:=dF (l:=l) (i:=i) ic;have hd:=gY l i _ a1;generalize l[i]'ic=e at a1 hd;by_cases hy:0<=y
    ·have tq:=aT a1;have hke:=az (Bk e) (fE hs tq).1;obtain⟨r1,g1,g2,g3,g4⟩:=ih e.kids y (by have:=aU tq;have:=aJ.fq e;omega) hke hy h2;have X0:r1<=1048576:=by
      by_cases hc:(fw e.kids:Int)<=y
      ·have:=g2 hc;omega
      ·have:=g3 (by omega);omega
     obtain⟨r,z,k1,k2,k3,k4⟩:=ihm (i+1) r1 (by omega) g4 X0;have hw:=wj ic hlen;refine⟨r,z,?_,?_⟩
     ·rw[<- k1];refine cE ?_;simp only[go_sem,bm,AU,ic,aH,a1,hy];simp only[go_sem,aP e,g1,hw]
     ·rw[hd,fK];refine⟨λ_ h=>?_,λh=>?_,k4⟩
      ·have:=g2 (by omega);have:=k2 (by omega) (by omega);omega
      ·by_cases hc:(fw e.kids:Int)<=y
       ·have:=g2 hc;exact k3 (by omega)
       ·have:=g3 (by omega);exact k3 (.inl this)
    ·refine⟨y,i,bk (by simp only[go_sem,bm,AU,ic,hy]),λh=>absurd h hy,λ_=>by omega,h1⟩
  obtain⟨r,z,k1,k2,k3,k4⟩:=loop l.length 0 (x - l.length) (by omega) (by simp only[mg]at hlen;omega) (by omega);rw[n0,aX]at *;refine⟨r,cq aee rfl ?_,?_⟩
  ·simp only[go_sem,t242,hw0,k1]
  ·unfold yJ;rw[sK];refine⟨λh=>?_,λh=>?_,k4⟩
   ·have:=k2 (by omega) (by omega);omega
   ·exact k3 (by omega)
theorem ahA{l:List aJ}{x:Int}(hs:cA bD l<=mg)(h0:0<=x)(hx:x<=1048576):∃r,G 242 [bl l,.int .i64 x]=some (0,[.int .i64 r])/\yJ l x r:=Y8 _ l x (aM _) hs h0 hx
end
section
def qg:List af->Nat
 |[]=>0
 |e::es=>max (1+qg e.kids) (qg es)
termination_by es=>ah es
decreasing_by
 ·exact af.iC e es
 ·simp only[bB];omega
theorem Hd(e:af):∀(l:List af),qg (l++[e])=max (qg l) (1+qg e.kids)
 |[]=>by simp[qg]
 |x::l=>by rw[ai,qg,Hd e l,qg,Nat.max_assoc]
theorem aaT(n:Nat):∀(l:List af),ah l < n->qg l<=cA aw l:=by
 induction n with
 |zero=>intro l h;omega
 |succ n ih=>
  intro l h;cases l with
  |nil=>rw[qg];omega
  |cons e l=>
   have h1:=ih l (by simp only[bB]at h;omega);have h2:=ih e.kids (by have:=af.iC e l;omega);rw[qg,lD];have:=hX e;omega
theorem PQ{l:List af}:qg l<=cA aw l:=aaT _ l (aM _)
theorem Zb(n:Nat):∀l:List af,ah l < n->cA aw l<=mg->G 256 [aA l]=some (0,[.int .i64 (qg l)]):=by
 induction n with
 |zero=>intro l h;omega
 |succ n ih=>
  intro l hz hs;have hlen:l.length<=mg:=by simp only[cA]at hs;omega
  refine cq aeq rfl ?_;simp only[go_sem,t256];have hl:=eB (b:=lB G E7) l (λi (m:Nat)=>(0,[.int .i64 (m:Int),aA l,.int .i64 l.length,.int .i64 (i:Int)])) (λi=>qg (l.take i)) (0,[.int .i64 (qg l),aA l,.int .i64 l.length,.int .i64 l.length,.bool false]) (by
   intro i x hn;have hi:=aR hn;have hw:=wj hi hlen;have hx:=(fE hs (aT hn)).1;have hk:=az (hX x) hx;have h1:=ih x.kids (by have:=aU (aT hn);have:=af.fq x;omega) hk;have h2:=PQ (l:=x.kids);have h4:IntKind.i64.wrap (1+(qg x.kids:Int))=((1+qg x.kids:Nat):Int):=by rw[wrap_i64 (by simp only[mg]at hk;omega)];omega
   rw[cu _ _ _ hn,Hd];simp only[go_sem,bm,E7,hi,aH,hn,dO];simp only[go_sem,ae x,h1,h4,mx,hw]) (by
   rw[aW];simp only[go_sem,bm,E7,aq]) l.length 0 (by omega)
  have d0':((qg []:Nat):Int)=0:=by simp[qg]
  rw[n0,bg,d0']at hl;rw[hl];simp only[go_sem]
theorem ahJ{l:List af}(hs:cA aw l<=mg):G 256 [aA l]=some (0,[.int .i64 (qg l)]):=Zb _ l (aM _) hs
def FD:af:=⟨0,⟨#[]⟩,⟨0,[],[],⟨#[]⟩,⟨#[]⟩⟩,[],[],⟨#[]⟩,false,false,false,false,0,0,[],[],[]⟩
def jZ(l:List af)(nm:ByteArray):Option Nat:=pV (λe=>decide (e.name=nm) && decide (e.kind=3)) l 0
theorem adb{l:List af}{nm:ByteArray}(hlen:l.length<=mg):G 314 [aA l,.str nm]=some (match jZ l nm with
  |some j=>match nth l j with
   |some e=>(0,aw e++[.bool true])
   |none=>(1,aw FD++[.bool false])
  |none=>(1,aw FD++[.bool false])):=by
 refine cq aeW rfl ?_;simp only[go_sem,afF];have hl:=nP (b:=lB G Fl) l (λi=>(0,[.str nm,aA l,.int .i64 l.length,.int .i64 (i:Int),.int .i64 0,.str ⟨#[]⟩,.int .i64 0,.str ⟨#[]⟩,.str ⟨#[]⟩,.str ⟨#[]⟩,.bool false,.bool false,.bool false,.bool false,.int .i64 0,.int .i64 0])) (λe=>decide (e.name=nm) && decide (e.kind=3))
  (1,[.str nm,aA l,.int .i64 l.length,.int .i64 l.length,.bool false,.int .i64 0,.str ⟨#[]⟩,.int .i64 0,.str ⟨#[]⟩,.str ⟨#[]⟩,.str ⟨#[]⟩,.bool false,.bool false,.bool false,.bool false,.int .i64 0,.int .i64 0]) (λi e=>(0,.bool true::aw e)) (by
  intro i e hn;have hi:=aR hn;have hw:=wj hi hlen;simp only[go_sem,bm,Fl,hi,aH,hn,dO];by_cases h1:e.name=nm
  ·by_cases h2:e.kind=3
   ·simp only[go_sem,ae e,h1,h2]
   ·simp only[go_sem,ae e,h1,h2,hw]
  ·simp only[go_sem,ae e,h1,hw]) (by simp only[go_sem,bm,Fl,aq])
 rw[n0]at hl;rw[hl];unfold jZ;cases hf:pV (λe=>decide (e.name=nm) && decide (e.kind=3)) l 0 with
 |none=>simp only[go_sem,ae,FD];rfl
 |some j=>
  obtain⟨e,h1,h2⟩:=dr hf;simp only[go_sem,h1,ae]
end
section
noncomputable def unr{σ ρ:Type}(b:σ->Option (Sg σ ρ)):Option (Sg σ ρ)->Option ρ
 |some (.go s)=>bR b s
 |some (.out r)=>some r
 |none=>none
theorem Da{σ ρ:Type}(b:σ->Option (Sg σ ρ))(s:σ):bR b s=unr b (b s):=by
 cases h:b s with
 |none=>
  unfold bR;rw[dif_neg]
  ·rfl
  ·rintro⟨r,hr⟩
   cases hr with
   |out g=>rw[h]at g;cases g
   |go g _=>rw[h]at g;cases g
 |some x=>
  cases x with
  |go s'=>rw[cE h];rfl
  |out r=>rw[bk h];rfl
theorem ZN{σ ρ:Type}(b:σ->Option (Sg σ ρ))(s:σ):unr b (some (.go s))=bR b s:=(rfl)
theorem Gg{σ ρ:Type}(b:σ->Option (Sg σ ρ))(r:ρ):unr b (some (.out r))=some r:=(rfl)
theorem LD{α β:Type}(f:α->β)(p:β->Bool):∀(l:List α) (k:Nat),pV p (l.map f) k=pV (λe=>p (f e)) l k
 |[],_=>rfl
 |e::l,k=>by simp only[aN,pV,LD f p l (k+1)]
theorem Aw(l:List af)(nm:ByteArray):ix (l.map af.name) nm=fF l nm:=by
 rw[ix,LD,fF]
 congr 1
 funext e
 exact decide_eq_decide.2 eq_comm
theorem PT{d:List af}{j:Nat}{e:af}(h:nth d j=some e):aK (.nN 19 0 19 false) [aA d,.int .i64 (j:Int)]=some (.list 0 false [aw e]):=by
 have h1:nth (d.map aw) j=some (aw e):=by rw[aH,h];rfl
 simp only[aK,cB,h1];rw[oA];simp
theorem aaW{d:List af}{j:Nat}{e:af}(h:nth d j=some e):aK (.nN 19 18 1 false) [aA d,.int .i64 (j:Int)]=some (.list 0 false [aw e]):=by
 have h1:nth (d.map aw) j=some (aw e):=by rw[aH,h];rfl
 simp only[aK,cB,h1];rw[oA];simp
theorem adn{l:List af}{nm:ByteArray}(hs:cA aw l<=mg):G 97 [aA l,bp [nm]]=some (match fF (dk l) nm with
  |some j=>match nth (dk l) j with
   |some e=>(1,aw e++[.bool true])
   |none=>(0,aw FD++[.bool false])
  |none=>(0,aw FD++[.bool false])):=by
 have hd:=qM (es:=l);have xW:(dk l).length<=mg:=by simp only[cA]at *;omega
 have h94:=q94 hs;have JS:=q95 (l:=dk l) xW;have h96:=q96 (l:=(dk l).map af.name) (v:=nm) (by rw[av];exact xW);rw[Aw]at h96;refine cq s97 rfl ?_;simp only[go_sem,Da,bm,Ww,gC,t97];cases hf:fF (dk l) nm with
 |none=>
  rw[hf]at h96;have hp:aK .pl [.int .i64 (-1)]=some (.bool false):=rfl;by_cases hq:dk l=[]
  ·have hk:kE (dk l)=0:=by rw[hq];rfl
   simp only[go_sem,Gg,h94,hk,JS,h96,hp,kR,ae,FD];rfl
  ·have hk:kE (dk l)=1:=ju hq;simp only[go_sem,Gg,h94,hk,JS,h96,hp,kR,ae,FD];rfl
 |some j=>
  obtain⟨e,h1,h2⟩:=dr hf;rw[hf]at h96;have hp:aK .pl [.int .i64 (j:Int)]=some (.bool false):=rfl;have iO:dk l≠[]:=by intro h;rw[h]at h1;cases h1
  have hj:=aR h1;have e1:=PT h1;have e2:=aaW h1;have e3:=lV 19 false ((dk l).map aw) j (by rw[av];exact hj);have hj0:¬(j:Int) < 0:=by omega
  have hk:kE (dk l)=1:=ju iO;have hw:IntKind.i64.wrap 1=1:=by decide
  have hc:decide ((1:Int) < 1)=false:=by decide
  simp only[go_sem,Da,ZN,Gg,bm,gC,h94,hk,JS,h96,hp,kR,e1,e2,e3,hj0,h1,hw,ae]
end
section
def tF(l:List aJ)(nm:ByteArray):Option Nat:=pV (λe=>decide (e.name=nm)) l 0
theorem ahB{l:List aJ}{nm:ByteArray}(hlen:l.length<=mg):G 243 [bl l,.str nm]=some (0,[.int .i64 (kR (tF l nm))]):=by
 refine cq aef rfl ?_;simp only[go_sem,t243];have hl:=nP (b:=lB G E5) l (λi=>(0,[bl l,.str nm,.int .i64 (i:Int)])) (λe=>decide (e.name=nm)) (1,[bl l,.str nm,.int .i64 l.length,.bool false]) (λi e=>(0,[.int .i64 (i:Int)])) (by
  intro i e hn;have hi:=aR hn;have hw:=wj hi hlen;simp only[go_sem,bm,E5,hi,aH,hn,aP];cases hc:decide (e.name=nm)<;>simp only[go_sem,hw]) (by simp only[go_sem,bm,E5,aq])
 rw[n0]at hl;rw[hl];unfold tF;cases hf:pV (λe=>decide (e.name=nm)) l 0 with
 |none=>simp only[go_sem,kR]
 |some j=>
  obtain⟨e,h1,h2⟩:=dr hf;simp only[go_sem,h1,kR]
theorem Ms(nm:ByteArray):∀(l:List aJ) (k:Nat),Oh nm (l.map bD) (k:Int)=some (kR (pV (λe=>decide (e.name=nm)) l k))
 |[],k=>rfl
 |e::l,k=>by
  have h:=Ms nm l (k+1);simp only[aN,aP e,Oh,pV];by_cases hc:e.name=nm
  ·simp[hc,kR]
  ·have h':Oh nm (l.map bD) ((k:Int)+1)=some (kR (pV (λe=>decide (e.name=nm)) l (k+1))):=h;simp[hc,h']
theorem adl(l:List aJ)(nm:ByteArray):G 9003 [bl l,.str nm]=some (0,[.int .i64 (kR (tF l nm))]):=
 tJ (i:=9003) (sg:=⟨9003,[.val false [.d],.val false [.d]],[([.val false [.d]],[])]⟩) (v:=([.val false [.d]],[])) (j:=0) (r:=([.val false [.d (.int .i64 (kR (tF l nm)))]],[])) (ws:=[bl l,.str nm]) rfl rfl ((Rv T rfl [.val false [.d (bl l)],.val false [.d (.str nm)]]).trans (by
  have h:=Ms nm l 0;have h':Oh nm (l.map bD) 0=some (kR (tF l nm)):=h;simp only[XT,bl,h'];rfl)) rfl rfl
def lq(k:Int):Bool:=decide (k=2) ||decide (k=4)
theorem ahD(k:Int):G 247 [.int .i64 k]=some (0,[.bool (lq k)]):=by
 refine cq aej rfl ?_;simp only[go_sem,t247,lq];cases h:decide (k=2)<;>simp only[go_sem]
def It(l:List aJ)(nm:ByteArray):Option ByteArray:=match tF l nm with
 |some j=>(nth l j).map aJ.value
 |none=>none
def vm(l:List aJ):List ByteArray->List ByteArray->List ByteArray×Bool
 |t,[]=>(t,true)
 |t,k::ks=>match It l k with
  |none=>(t,false)
  |some v=>vm l (t++[v]) ks
def Uy{ρ:Type}(l:List aJ)(g:Nat->List ByteArray->ρ)(i:Nat)(t:List ByteArray)(k:ByteArray):Sg (List ByteArray) ρ:=match It l k with
 |none=>.out (g i t)
 |some v=>.go (t++[v])
def keyOf(n:af)(x:aJ):List ByteArray×Bool:=
 if n.kind=2 then (if (vm x.kids [] n.keys).2=true then ((vm x.kids [] n.keys).1,true) else ([],false)) else ([x.value],true)
theorem DF{l:List aJ}{k:ByteArray}:tF l k=none->It l k=none:=λh=>by rw[It,h]
theorem DG{l:List aJ}{k:ByteArray}{j:Nat}{e:aJ}(h:tF l k=some j)(he:nth l j=some e):It l k=some e.value:=by rw[It,h];simp only[he,aB]
theorem Ak{ρ:Type}(l:List aJ)(g:List ByteArray->ρ):∀(ks:List ByteArray) (i:Nat) (t:List ByteArray),
  ij (Uy l (λ_ t=>g t)) i t ks=if (vm l t ks).2=true then .go (vm l t ks).1 else .out (g (vm l t ks).1)
 |[],_,_=>rfl
 |k::ks,i,t=>by
  cases h:It l k with
  |none=>simp only[ij,Uy,vm,h];rfl
  |some v=>simp only[ij,Uy,vm,h];exact Ak l g ks (i+1) (t++[v])
theorem aar{t:List ByteArray}{v:ByteArray}(h:t.length < mg):aK (.app 1 16) [bp t,.list 1 true [[.str v]]]=some (bp (t++[v])):=by
 have h:=fI 1 16 true (t.map gC) [[.str v]] (by decide) (by simp only[mg,av,aE,aQ]at *;omega);rw[h];simp[gC]
theorem CU:bp []=.list 1 true []:=(rfl)
theorem RC(v:ByteArray):aK (.eg 1 true) [.str v]=some (.list 1 true [[.str v]]):=by simp[aK,chunk,cQ,D.plain]
theorem RT{n:af}{x:aJ}(hk:n.keys.length<=mg)(hx:x.kids.length<=mg):G 244 (aw n++bD x)=some (0,[bp (keyOf n x).1,.bool (keyOf n x).2]):=by
 refine cq aeg (by rw[ae,aP];rfl) ?_;simp only[go_sem,t244,ae,aP];have hl:=vd (b:=lB G AV) n.keys (λi (t:List ByteArray)=>(0,.int .i64 (i:Int)::(aw n++bD x++[bp t]))) (Uy x.kids (λ_ t=>(0,[.bool false,bp t])))
  (λt=>(1,.int .i64 n.keys.length::.bool false::(aw n++bD x++[bp t]))) (λi t=>t.length=i) [] rfl (by
  intro i k t hn hI;have hi:=aR hn;have hw:=wj hi hk;have h1:=ahB (l:=x.kids) (nm:=k) hx;have XE:∀v,aK (.app 1 16) [bp t,.list 1 true [[.str v]]]=some (bp (t++[v])):=λv=>aar (by omega);cases hf:tF x.kids k with
  |none=>
   rw[hf]at h1;simp only[go_sem,bm,AV,hi,aH,hn,ae,aP,gC,h1,kR,Uy,DF hf,Jh];intro t' ht;cases ht
  |some j=>
   obtain⟨e,e1,e2⟩:=dr hf;rw[hf]at h1;have hj:¬(j:Int) < 0:=by omega
   simp only[go_sem,bm,AV,hi,aH,hn,ae n,aP x,gC,h1,kR,hj,Uy,DG hf e1,Jh];simp only[go_sem,e1,aP e,RC,XE,hw];simp[hI]) (by
  intro t hI;simp only[go_sem,bm,AV,aq,ae,aP])
 rw[n0,Ak]at hl;simp only[ae,aP,ai,ak,CU]at hl;rw[keyOf];by_cases QN:n.kind=2
 ·have hd:decide (n.kind=2)=true:=by simp[QN]
  simp only[go_sem,hd];rw[hl];clear hl;cases hr:(vm x.kids [] n.keys).2
  ·simp only[go_sem,WU,QN];rfl
  ·simp only[go_sem,WU,QN]
 ·have hd:decide (n.kind=2)=false:=by simp[QN]
  simp only[go_sem,RC,QN];rfl
theorem RW{n:af}{x:aJ}(hk:n.keys.length<=mg)(hx:x.kids.length<=mg):G 320 (aw n++bD x)=some (0,[bp (keyOf n x).1,.bool (keyOf n x).2]):=by
 refine cq ae0 (by rw[ae,aP];rfl) ?_;simp only[go_sem,afH,ae,aP];have hl:=vd (b:=lB G AZ) n.keys (λi (t:List ByteArray)=>(0,[bp n.keys,.int .i64 n.keys.length,.int .i64 (i:Int),.str x.name,.str x.value,bl x.kids,bp t])) (Uy x.kids (λ_ t=>(0,[.bool false,bp t,bp []])))
  (λt=>(1,[bp n.keys,.int .i64 n.keys.length,.int .i64 n.keys.length,.bool false,.str x.name,.str x.value,bl x.kids,bp t])) (λi t=>t.length=i) [] rfl (by
  intro i k t hn hI;have hi:=aR hn;have hw:=wj hi hk;have h1:=adl x.kids k;have hmk:aK (.eg 1 true) []=some (bp []):=by simp[aK,chunk]
  have XE:∀v,aK (.app 1 16) [bp t,.list 1 true [[.str v]]]=some (bp (t++[v])):=λv=>aar (by omega);cases hf:tF x.kids k with
  |none=>
   rw[hf]at h1;simp only[go_sem,bm,AZ,hi,aH,hn,gC,h1,kR,Uy,DF hf,Jh,hmk];intro t' ht;cases ht
  |some j=>
   obtain⟨e,e1,e2⟩:=dr hf;rw[hf]at h1;have hj:¬(j:Int) < 0:=by omega
   simp only[go_sem,bm,AZ,hi,aH,hn,gC,h1,kR,hj,Uy,DG hf e1,Jh];simp only[go_sem,e1,aP e,RC,XE,hw];simp[hI]) (by
  intro t hI;simp only[go_sem,bm,AZ,aq])
 rw[n0,Ak (g:=λt=>(0,[D.bool false,bp t,bp []]))]at hl;simp only[CU]at hl;rw[keyOf];by_cases QN:n.kind=2
 ·have hd:decide (n.kind=2)=true:=by simp[QN]
  simp only[go_sem,hd];rw[hl];clear hl;cases hr:(vm x.kids [] n.keys).2
  ·simp only[go_sem,WU,QN];rfl
  ·simp only[go_sem,WU,QN]
 ·have hd:decide (n.kind=2)=false:=by simp[QN]
  simp only[go_sem,RC,QN];rfl
end
section
theorem Ae{β:Type}(f:Nat->Option β):∀m i,j8 f (i+1) m=j8 (λj=>f (j+1)) i m
 |0,_=>rfl
 |m+1,i=>by
  simp only[j8,Ae f m (i+1)]
theorem JM{α β:Type}(f:Nat->Option α)(g:α->β):∀m i,j8 (λj=>(f j).map g) i m=(j8 f i m).map g
 |0,_=>rfl
 |m+1,i=>by
  simp only[j8];cases h:f i with
  |none=>simp only[Option.map_none,JM f g m (i+1)]
  |some r=>rfl
def pk{α β:Type}(c:α->α->Option β)(a b:List α)(i:Nat):Option β:=match nth a i,nth b i with
 |some x,some y=>c x y
 |_,_=>none
def Bb{α β:Type}(c:α->α->Option β):List α->List α->Option β
 |x::a,y::b=>match c x y with
  |some r=>some r
  |none=>Bb c a b
 |_,_=>none
theorem Qr{α β:Type}(c:α->α->Option β):∀(a b:List α),j8 (pk c a b) 0 (min a.length b.length)=Bb c a b
 |[],b=>by simp only[aQ,Nat.zero_min,j8,Bb]
 |x::a,[]=>by simp only[aQ,Nat.min_zero,j8,Bb]
 |x::a,y::b=>by
  have h:(min (x::a).length (y::b).length)=min a.length b.length+1:=by simp only[aE];omega
  rw[h];have h2:(λj=>pk c (x::a) (y::b) (j+1))=pk c a b:=rfl;have h3:pk c (x::a) (y::b) 0=c x y:=rfl;simp only[j8,Ae,h2,h3,Bb,Qr c a b];cases c x y<;>rfl
def WC(x y:ByteArray):Option Bool:=if decide (x=y)=true then none else some (j5 x y)
def kP(a b:List ByteArray):Bool:=(Bb WC a b).getD (decide (a.length < b.length))
theorem Y_{a b:List ByteArray}(ha:a.length<=mg)(hb:b.length<=mg):G 248 [bp a,bp b]=some (0,[.bool (kP a b)]):=by
 refine cq aek rfl ?_;simp only[go_sem,t248];have hl:=Ew (b:=lB G AW) (λi=>(0,[bp a,bp b,.int .i64 (i:Int)])) (λi=>(pk WC a b i).map (λr=>(0,[.bool r]))) (min a.length b.length) (1,[bp a,bp b,.int .i64 (min a.length b.length:Nat),.bool false]) (by
  intro i hi;have h1:i < a.length:=by omega
  have h2:i < b.length:=by omega
  have a1:=dF (l:=a) h1;have a2:=dF (l:=b) h2;generalize a[i]'h1=x at a1;generalize b[i]'h2=y at a2;have hw:=wj h1 ha;simp only[go_sem,bm,AW,h1,h2,aH,a1,a2,gC,pk,WC];cases hc:decide (x=y)<;>simp only[go_sem,hw,Pz,aH,a1,a2,gC]) (by
  by_cases h:a.length < b.length
  ·have e:min a.length b.length=a.length:=by omega
   rw[e];simp only[go_sem,bm,AW,aq]
  ·have e:min a.length b.length=b.length:=by omega
   rw[e];simp only[go_sem,bm,AW];by_cases h':b.length < a.length<;>simp only[go_sem,h',aq]) (min a.length b.length) 0 (by omega)
 rw[n0,JM,Qr]at hl;rw[hl,kP];cases hx:Bb WC a b<;>simp only[go_sem,Option.getD,Option.map]
theorem ah5(a:ByteArray):G 323 [.str a]=some (0,[.bool false]):=by
 refine cq ae3 rfl ?_;simp only[go_sem,afK]
def n9(x y:ByteArray):Int:=if j5 x y=true then -1 else if decide (x=y)=true then 0 else 1
theorem ah6(x y:ByteArray):G 324 [.str x,.str y]=some (0,[.int .i64 (n9 x y)]):=by
 refine cq ae4 rfl ?_;simp only[go_sem,afL,ah5,n9];cases h1:j5 x y<;>cases h2:decide (x=y)<;>simp only[go_sem,h1,h2]
def GY(a b:List ByteArray)(i:Nat):Option Int:=match nth a i with
 |none=>none
 |some x=>match nth b i with
  |none=>some 1
  |some y=>if n9 x y=0 then none else some (n9 x y)
def cmpL(a b:List ByteArray):Int:=match j8 (GY a b) 0 a.length with
 |some r=>r
 |none=>if a.length < b.length then -1 else 0
theorem Ir{α:Type}:∀{l:List α} {i:Nat},l.length<=i->nth l i=none
 |[],_,_=>rfl
 |_::l,0,h=>by simp at h
 |_::l,i+1,h=>by
  have:=Ir (l:=l) (i:=i) (by simpa using h)
  simpa [nth] using this
theorem ah7{a b:List ByteArray}(ha:a.length<=mg)(hb:b.length<=mg):G 325 [bp a,bp b]=some (0,[.int .i64 (cmpL a b)]):=by
 refine cq ae5 rfl ?_;simp only[go_sem,afM];have hl:=Ew (b:=lB G A4) (λi=>(0,[bp a,bp b,bp a,.int .i64 a.length,.int .i64 (i:Int)])) (λi=>(GY a b i).map (λr=>(0,[.int .i64 r]))) a.length (1,[bp a,bp b,bp a,.int .i64 a.length,.int .i64 a.length,.bool false]) (by
  intro i h1;have a1:=dF (l:=a) h1;generalize a[i]'h1=x at a1;have hw:=wj h1 ha;by_cases h2:i < b.length
  ·have a2:=dF (l:=b) h2;generalize b[i]'h2=y at a2;have h3:decide ((b.length:Int)<=(i:Int))=false:=by simp only[decide_eq_false_iff_not];omega
   have h4:=ah6 x y;simp only[go_sem,bm,A4,h1,h3,aH,a1,a2,gC,GY,h4];by_cases hc:n9 x y=0
   ·have hd:decide (n9 x y=0)=true:=by simp[hc]
    simp only[go_sem,hc,hw,Pz]
   ·have hd:decide (n9 x y=0)=false:=by simp[hc]
    simp only[go_sem,hc,Pz]
  ·have a2:=Ir (l:=b) (i:=i) (by omega);have h3:decide ((b.length:Int)<=(i:Int))=true:=by simp only[decide_eq_true_eq];omega
   simp only[go_sem,bm,A4,h1,h3,aH,a1,a2,gC,GY,Pz]) (by simp only[go_sem,bm,A4,aq]) a.length 0 (by omega)
 rw[n0,JM]at hl;rw[hl,cmpL];cases hx:j8 (GY a b) 0 a.length
 ·simp only[go_sem,Option.getD,Option.map];by_cases h:a.length < b.length<;>simp only[go_sem,h]
 ·simp only[go_sem,Option.getD,Option.map]
end
section
theorem Pq:∀l:List UInt8,Op.bytesLess l l=false
 |[]=>rfl
 |x::l=>by
  have h:¬x < x:=by simp
  simp[Op.bytesLess,Pq l,h]
theorem Sd(x:ByteArray):j5 x x=false:=Pq _
theorem rL(b:List ByteArray):cmpL [] b=if 0 < b.length then -1 else 0:=(rfl)
theorem CT(x:ByteArray)(a:List ByteArray):cmpL (x::a) []=1:=(rfl)
theorem vY(x y:ByteArray)(a b:List ByteArray):cmpL (x::a) (y::b)=if n9 x y=0 then cmpL a b else n9 x y:=by
 have h2:(λj=>GY (x::a) (y::b) (j+1))=GY a b:=rfl;have h3:GY (x::a) (y::b) 0=if n9 x y=0 then none else some (n9 x y):=rfl
 rw[cmpL];simp only[aE,j8,Ae,h2,h3];by_cases h:n9 x y=0
 ·simp only[h,if_true,cmpL,Nat.add_lt_add_iff_right]
 ·simp only[h,if_false]
theorem vo:∀a b:List ByteArray,kP a b=decide (cmpL a b < 0)
 |[],[]=>rfl
 |[],y::b=>by
  rw[rL];simp[kP,Bb]
 |x::a,[]=>by
  rw[CT];simp[kP,Bb]
 |x::a,y::b=>by
  rw[vY];by_cases h:x=y
  ·subst h;have h1:n9 x x=0:=by simp[n9,Sd]
   have h2:WC x x=none:=by simp[WC]
   rw[if_pos h1,<- vo a b];simp only[kP,Bb,h2,aE,Nat.add_lt_add_iff_right]
  ·have h2:WC x y=some (j5 x y):=by simp[WC,h]
   have h3:kP (x::a) (y::b)=j5 x y:=by simp only[kP,Bb,h2,Option.getD]
   rw[h3];cases hs:j5 x y
   ·have h1:n9 x y=1:=by simp[n9,hs,h]
    simp[h1]
   ·have h1:n9 x y=-1:=by simp[n9,hs]
    simp[h1]
theorem HR(l:List aJ):∀(ks t:List ByteArray),(vm l t ks).1.length<=t.length+ks.length
 |[],t=>by simp[vm]
 |k::ks,t=>by
  cases h:It l k with
  |none=>simp only[vm,h,aE];omega
  |some v=>
   have:=HR l ks (t++[v]);simp only[vm,h,aE,aO,aQ]at *;omega
theorem kO{n:af}{x:aJ}(hk:n.keys.length<=mg):(keyOf n x).1.length<=mg:=by
 have h:=HR x.kids n.keys [];simp only[aQ,bo]at h;unfold keyOf;have hm:1<=mg:=by decide
 split
 ·split
  ·exact az h hk
  ·simp
 ·simpa using hm
def qS(n:af)(a b:aJ):Int:=if lq n.kind=true then cmpL (keyOf n a).1 (keyOf n b).1 else 0
theorem adf{n:af}{a b:aJ}(hk:n.keys.length<=mg)(ha:a.kids.length<=mg)(hb:b.kids.length<=mg):G 326 (aw n++bD a++bD b)=some (0,[.int .i64 (qS n a b)]):=by
 have h1:=RW (n:=n) (x:=a) hk ha;have h2:=RW (n:=n) (x:=b) hk hb;have h3:=ah7 (a:=(keyOf n a).1) (b:=(keyOf n b).1) (kO hk) (kO hk);have hp:∀z:Int,aK .pl [.int .i64 z]=some (.bool false):=λz=>rfl;simp only[ae,aP,ai,ak]at h1 h2;refine cq ae6 (by rw[ae,aP,aP];rfl) ?_;simp only[go_sem,afN,ae,aP,qS,lq];obtain⟨v1,c1⟩:∃v,decide (n.kind=2)=v:=⟨_,rfl⟩
 obtain⟨v2,c2⟩:∃v,decide (n.kind=4)=v:=⟨_,rfl⟩
 cases v1<;>cases v2<;>simp only[go_sem,c1,c2,h1,h2,h3,hp]
theorem ahE{d:List af}{a b:aJ}{i k:Nat}{e:af}(hd:d.length<=mg)(hk:e.keys.length<=mg)(ha:a.kids.length<=mg)(hb:b.kids.length<=mg)
  (hi:fF d a.name=some i) (hj:fF d b.name=some k) (he:nth d i=some e) :
  G 249 ([aA d]++bD a++bD b)=some (0,[.bool (if decide (i=k) && lq e.kind then kP (keyOf e a).1 (keyOf e b).1 else decide (i < k))]):=by
 have f1:=WR (l:=d) (nm:=a.name) hd;have f2:=WR (l:=d) (nm:=b.name) hd;rw[hi]at f1;rw[hj]at f2;have h1:=RT (n:=e) (x:=a) hk ha;have h2:=RT (n:=e) (x:=b) hk hb;have h3:=Y_ (a:=(keyOf e a).1) (b:=(keyOf e b).1) (kO hk) (kO hk);have h4:=ahD e.kind;have hp:aK .pl [.bool (kP (keyOf e a).1 (keyOf e b).1)]=some (.bool false):=rfl;simp only[ae,aP,ai,ak]at h1 h2;refine cq ael (by rw[aP,aP];rfl) ?_;have ht:(some (aw e):Option (List D))=some (aw e):=rfl;simp only[go_sem,t249,aP,f1,f2,kR];by_cases c:i=k
 ·subst c;cases c1:lq e.kind<;>simp only[go_sem,aH,he,ae e,h1,h2,h3,h4,c1,hp,aq]
 ·have c':decide (i=k)=false:=by simp[c]
  have c'':decide ((i:Int)=(k:Int))=false:=by simp only[decide_eq_false_iff_not];omega
  simp only[go_sem,c,c'']
end
section
def DD(ip:ByteArray->Bool)(mt:ByteArray->ByteArray->Bool)(r:List af->List aJ->Bool)(n:af)(x:aJ):Bool:=
 if decide (n.kind=3) ||decide (n.kind=4) then decide (x.kids.length=0) && isVal ip mt n.type x.value
 else if decide (n.kind=2) then (keyOf n x).2 && (decide (x.value.size=0) && r (dk n.kids) x.kids)
 else decide (x.value.size=0) && ((n.cP ||decide (0 < x.kids.length)) && r (dk n.kids) x.kids)
theorem ahC{ip:ByteArray->Bool}{mt:ByteArray->ByteArray->Bool}(hP:∀s:ByteArray,s.size<=mg->G 227 [.str s]=some (0,[.bool (ip s)]))(hM:∀p s:ByteArray,p.size<=mg->s.size<=mg->G 236 [.str p,.str s]=some (0,[.bool (mt p s)]))
  {r:List af->List aJ->Bool} {n:af} {x:aJ} (hn:fc (aw n)<=mg) (hx:fc (bD x)<=mg)
  (hR:G 246 [aA (dk n.kids),bl x.kids]=some (0,[.bool (r (dk n.kids) x.kids)])) :
  G 245 (aw n++bD x)=some (0,[.bool (DD ip mt r n x)]):=by
 rw[dK]at hn;rw[jL]at hx;have b1:fc (ew n.type)<=mg:=by omega
 have b2:n.keys.length<=mg:=by simp only[cA]at hn;omega
 have b3:cA aw n.kids<=mg:=by omega
 have b4:x.value.size<=mg:=by omega
 have b5:x.kids.length<=mg:=by simp only[cA]at hx;omega
 have h1:=acY hP hM b1 b4;have h2:=RT (n:=n) (x:=x) b2 b5;have h3:=q81 b3;have hp:∀b:Bool,aK .pl [.bool b]=some (.bool false):=λb=>rfl;clear hP hM hn hx b1 b2 b3 b4 b5;simp only[ae,aP,ew,ai,ak]at h1 h2;refine cq aeh (by rw[ae,aP];rfl) ?_;simp only[go_sem,t245,ae,aP,DD];obtain⟨v3,c3⟩:∃v,decide (n.kind=3)=v:=⟨_,rfl⟩
 obtain⟨v4,c4⟩:∃v,decide (n.kind=4)=v:=⟨_,rfl⟩
 obtain⟨v2,c2⟩:∃v,decide (n.kind=2)=v:=⟨_,rfl⟩
 obtain⟨w,cw⟩:∃v,decide (x.kids.length=0)=v:=⟨_,rfl⟩
 have cw':decide ((x.kids.length:Int)=0)=w:=by rw[<- cw];apply decide_eq_decide.2;omega
 have cg:decide ((0:Int) < (x.kids.length:Int))=!w:=by rw[<- cw,<- decide_not];apply decide_eq_decide.2;omega
 have cg':decide (0 < x.kids.length)=!w:=by rw[<- cw,<- decide_not];apply decide_eq_decide.2;omega
 obtain⟨e,ce⟩:∃v,decide (x.value=⟨#[]⟩)=v:=⟨_,rfl⟩
 have ce':decide (x.value.size=0)=e:=by rw[<- ce,cy]
 cases v3<;>cases v4<;>cases v2<;>cases w<;>cases e<;>simp only[go_sem,c3,c4,c2,cw,cw',cg',ce,ce',h1,h2]
 all_goals try (cases hk:(keyOf n x).2<;>simp only[go_sem,ce,h3,hR,hp])
 all_goals try (cases HK:n.cP<;>simp only[go_sem,cg,h3,hR,hp])
theorem ah4{ip:ByteArray->Bool}{mt:ByteArray->ByteArray->Bool}(hP:∀s:ByteArray,s.size<=mg->G 285 [.str s]=some (0,[.bool (ip s)]))(hM:∀p s:ByteArray,p.size<=mg->s.size<=mg->G 310 [.str p,.str s]=some (0,[.bool (mt p s)]))
  {r:List af->List aJ->Bool} {n:af} {x:aJ} (hn:fc (aw n)<=mg) (hx:fc (bD x)<=mg)
  (hd:n.kind=1\/n.kind=2\/n.kind=3\/n.kind=4) (hR:G 322 [aA n.kids,bl x.kids]=some (0,[.bool (r (dk n.kids) x.kids)])) :
  G 321 (aw n++bD x)=some (0,[.bool (DD ip mt r n x)]):=by
 rw[dK]at hn;rw[jL]at hx;have b1:fc (ew n.type)<=mg:=by omega
 have b2:n.keys.length<=mg:=by simp only[cA]at hn;omega
 have b3:cA aw n.kids<=mg:=by omega
 have b4:x.value.size<=mg:=by omega
 have b5:x.kids.length<=mg:=by simp only[cA]at hx;omega
 have h1:=ada hP hM b1 b4;have h2:=RW (n:=n) (x:=x) b2 b5;have hp:∀b:Bool,aK .pl [.bool b]=some (.bool false):=λb=>rfl;clear hP hM hn hx b1 b2 b3 b4 b5;simp only[ae,aP,ew,ai,ak]at h1 h2;refine cq ae1 (by rw[ae,aP];rfl) ?_;simp only[go_sem,afI,ae,aP,DD];have hc:∃v1 v2 v3 v4:Bool,decide (n.kind=1)=v1/\decide (n.kind=2)=v2/\decide (n.kind=3)=v3/\decide (n.kind=4)=v4/\((v1,v2,v3,v4)=(true,false,false,false)\/(v1,v2,v3,v4)=(false,true,false,false)\/(v1,v2,v3,v4)=(false,false,true,false)\/(v1,v2,v3,v4)=(false,false,false,true)):=by
  refine⟨_,_,_,_,rfl,rfl,rfl,rfl,?_⟩;rcases hd with h|h|h|h<;>rw[h]<;>decide
 obtain⟨v1,v2,v3,v4,c1,c2,c3,c4,hv⟩:=hc;clear hd;obtain⟨w,cw⟩:∃v,decide (x.kids.length=0)=v:=⟨_,rfl⟩
 have cw':decide ((x.kids.length:Int)=0)=w:=by rw[<- cw];apply decide_eq_decide.2;omega
 have cg:decide ((0:Int) < (x.kids.length:Int))=!w:=by rw[<- cw,<- decide_not];apply decide_eq_decide.2;omega
 have cg':decide (0 < x.kids.length)=!w:=by rw[<- cw,<- decide_not];apply decide_eq_decide.2;omega
 obtain⟨e,ce⟩:∃v,decide (x.value=⟨#[]⟩)=v:=⟨_,rfl⟩
 have ce':decide (x.value.size=0)=e:=by rw[<- ce,cy]
 cases hr:r (dk n.kids) x.kids<;>rcases hv with hv|hv|hv|hv<;>cases hv<;>cases w<;>cases e<;>simp only[go_sem,c3,c4,c2,cw,cw',cg',ce,ce',h1,h2,c1,hR,hr]
 all_goals try (cases hk:(keyOf n x).2<;>simp only[go_sem,ce,hR])
 all_goals try (cases HK:n.cP<;>simp only[go_sem,cg])
 all_goals try rw[hr]
end
section
def tL(t:Option (aJ×Nat))(s:af)(k:Nat)(e:aJ):Bool:=match t with
 |none=>true
 |some (p,k')=>if decide (k'=k) && lq s.kind then kP (keyOf s p).1 (keyOf s e).1 else decide (k' < k)
def lC{ρ:Type}(no:ρ)(nr:af->aJ->Bool)(d:List af)(i:Nat)(t:Option (aJ×Nat))(e:aJ):Sg (Option (aJ×Nat)) ρ:=match fF d e.name with
 |none=>.out no
 |some k=>match nth d k with
  |none=>.out no
  |some s=>if (nr s e && tL t s k e)=true then .go (some (e,k)) else .out no
def Q3{σ ρ:Type}:Sg σ ρ->Bool
 | .go _=>true
 | .out _=>false
def mU(nr:af->aJ->Bool)(d:List af)(l:List aJ):Bool:=Q3 (ij (lC () nr d) 0 none l)
theorem IJ{ρ:Type}(no:ρ)(nr:af->aJ->Bool)(d:List af)(fin:Option (aJ×Nat)->ρ)(yes:ρ)(hf:∀t,fin t=yes):∀(l:List aJ) (i:Nat) (t:Option (aJ×Nat)),
  WU fin (ij (lC no nr d) i t l)=if Q3 (ij (lC () nr d) i t l)=true then yes else no
 |[],_,t=>hf t
 |e::l,i,t=>by
  cases h1:fF d e.name with
  |none=>simp only[ij,lC,h1];rfl
  |some k=>
   cases h2:nth d k with
   |none=>simp only[ij,lC,h1,h2];rfl
   |some s=>
    cases h:(nr s e && tL t s k e)
    ·simp only[ij,lC,h1,h2,h,au,if_false];rfl
    ·simp only[ij,lC,h1,h2,h,if_true];exact IJ no nr d fin yes hf l (i+1) (some (e,k))
def Q2(d:List af)(l:List aJ)(i:Nat)(t:Option (aJ×Nat)):Prop:=match t with
 |none=>i=0
 |some (p,k)=>∃j,i=j+1/\nth l j=some p/\fF d p.name=some k
theorem acZ{nr:af->aJ->Bool}{d:List af}{l:List aJ}(hd:cA aw d<=mg)(JX:cA bD l<=mg)
  (hN:∀s e,s∈d->e∈l->G 245 (aw s++bD e)=some (0,[.bool (nr s e)])):G 246 [aA d,bl l]=some (0,[.bool (mU nr d l)]):=by
 have xW:d.length<=mg:=by simp only[cA]at hd;omega
 have yV:l.length<=mg:=by simp only[cA]at JX;omega
 refine cq aei rfl ?_;simp only[go_sem,t246];have hl:=vd (b:=lB G wV) l (λi (t:Option (aJ×Nat))=>(0,[aA d,bl l,.int .i64 (i:Int)])) (lC (0,[.bool false]) nr d) (λt=>(1,[aA d,bl l,.int .i64 l.length,.bool false])) (Q2 d l) none rfl (by
  intro i e t hn hI;have hi:=aR hn;have hw:=wj hi yV;have f1:=WR (l:=d) (nm:=e.name) xW;cases hf:fF d e.name with
  |none=>
   rw[hf]at f1;simp only[go_sem,bm,wV,hi,aH,hn,aP e,f1,kR,lC,hf,Jh];intro t' ht;cases ht
  |some k=>
   rw[hf]at f1;obtain⟨s,h1,h2⟩:=dr hf;have g1:=hN s e (aT h1) (aT hn);have tE:decide ((k:Int) < 0)=false:=by simp only[decide_eq_false_iff_not];omega
   simp only[ae,aP,ai,ak]at g1;have hinv:∀t',Sg.go (some (e,k))=(Sg.go t':Sg (Option (aJ×Nat)) (Nat×List D))->Q2 d l (i+1) t':=by
    intro t' ht;cases ht;exact⟨i,rfl,hn,hf⟩
   have Ct:lC (0,[D.bool false]) nr d i t e=if (nr s e && tL t s k e)=true then .go (some (e,k)) else .out (0,[D.bool false]):=by simp only[lC,hf,h1]
   rw[Ct];cases t with
   |none=>
    obtain rfl:i=0:=hI;simp only[go_sem,bm,wV,hi,aH,hn,h1,aP e,ae s,f1,kR,g1,tE,tL];cases hq:nr s e
    ·simp only[go_sem,Jh];intro t' ht;cases ht
    ·simp only[go_sem,Jh];exact⟨rfl,hinv⟩
   |some pk=>
    obtain⟨p,k'⟩:=pk;obtain⟨j,rfl,i2,i3⟩:=hI;obtain⟨s',i4,_⟩:=dr i3;have b1:s'.keys.length<=mg:=by
     have a1:=eS aw (aT i4);rw[dK]at a1;simp only[cA]at a1 hd;omega
    have b2:∀y:aJ,y∈l->y.kids.length<=mg:=by
     intro y hy;have a1:=eS bD hy;rw[jL]at a1;simp only[cA]at a1 JX;omega
    have g2:=ahE xW b1 (b2 p (aT i2)) (b2 e (aT hn)) i3 hf i4;have g3:(if decide (k'=k) && lq s'.kind then kP (keyOf s' p).1 (keyOf s' e).1 else decide (k' < k))=tL (some (p,k')) s k e:=by
     by_cases hk:k'=k
     ·subst hk;have:s'=s:=eJ (i4.symm.trans h1);subst this;simp only[tL]
     ·simp[tL,hk]
    rw[g3]at g2;simp only[aP,ai,ak]at g2;have e1:IntKind.i64.wrap (((j+1:Nat):Int) - 1)=(j:Int):=by rw[wrap_i64 (by simp only[mg]at yV;omega)];omega
    have e3:(0:Int) < ((j+1:Nat):Int):=by omega
    have hj:j < l.length:=by omega
    clear hd JX hN b1 b2 g3;obtain⟨bf,hbf⟩:∃v,tL (some (p,k')) s k e=v:=⟨_,rfl⟩
    obtain⟨nv,Wk⟩:∃v,nr s e=v:=⟨_,rfl⟩
    rw[hbf]at g2;rw[Wk]at g1;rw[hbf,Wk];simp only[go_sem,bm,wV,hi,aH,hn,h1,aP e,ae s,f1,kR,g1,tE];cases nv<;>cases bf<;>simp only[go_sem,Jh,e1,e3,aH,hn,i2,aP e,aP p,g2,hw]
    all_goals try (intro t' ht;cases ht)
    all_goals exact hinv _ rfl) (by
  intro t hI;simp only[go_sem,bm,wV,aq])
 rw[n0,IJ (yes:=(1,[aA d,bl l,.int .i64 l.length,.bool false])) (hf:=λ_=>rfl)]at hl;rw[hl,mU];cases Q3 (ij (lC () nr d) 0 none l)<;>simp only[go_sem]
end
section
def qR(t:Option (aJ×Nat)):Int:=match t with
 |none=>-1
 |some (_,k)=>(k:Int)
theorem BQ{ρ:Type}(no:ρ)(nr:af->aJ->Bool)(d:List af)(fin:Option (aJ×Nat)->ρ):∀(l:List aJ) (i:Nat) (t:Option (aJ×Nat)),
  ∃t',WU fin (ij (lC no nr d) i t l)=if Q3 (ij (lC () nr d) i t l)=true then fin t' else no
 |[],_,t=>⟨t,rfl⟩
 |e::l,i,t=>by
  cases h1:fF d e.name with
  |none=>exact⟨t,by simp only[ij,lC,h1];rfl⟩
  |some k=>
   cases h2:nth d k with
   |none=>exact⟨t,by simp only[ij,lC,h1,h2];rfl⟩
   |some s=>
    cases h:(nr s e && tL t s k e)
    ·exact⟨t,by simp only[ij,lC,h1,h2,h,au,if_false];rfl⟩
    ·obtain⟨t',h'⟩:=BQ no nr d fin l (i+1) (some (e,k));exact⟨t',by simp only[ij,lC,h1,h2,h,if_true];exact h'⟩
theorem Zn{nr:af->aJ->Bool}{d:List af}{l:List aJ}(hd:cA aw d<=mg)(JX:cA bD l<=mg)
  (h0:d=[]) (hN:∀s e,s∈d->e∈l->G 321 (aw s++bD e)=some (0,[.bool (nr s e)])) :
  ∃t,bR (lB G A3) (0,[bl l,.int .i64 (-1),bl l,.int .i64 l.length,.int .i64 0,aA d,bp (d.map af.name)])=some (if mU nr d l=true then (1,[bl l,.int .i64 (qR t),bl l,.int .i64 l.length,.int .i64 l.length,.bool false,aA d,bp (d.map af.name)]) else (0,[.bool false])):=by
 have xW:d.length<=mg:=by simp only[cA]at hd;omega
 have yV:l.length<=mg:=by simp only[cA]at JX;omega
 have hl:=vd (b:=lB G A3) l (λi (t:Option (aJ×Nat))=>(0,[bl l,.int .i64 (qR t),bl l,.int .i64 l.length,.int .i64 (i:Int),aA d,bp (d.map af.name)])) (lC (0,[.bool false]) nr d) (λt=>(1,[bl l,.int .i64 (qR t),bl l,.int .i64 l.length,.int .i64 l.length,.bool false,aA d,bp (d.map af.name)])) (Q2 d l) none rfl (by
  intro i e t hn hI;have hi:=aR hn;have hw:=wj hi yV;have f1:=q96 (l:=d.map af.name) (v:=e.name) (by rw[av];exact xW);rw[Aw]at f1;cases hf:fF d e.name with
  |none=>
   rw[hf]at f1;have hp:aK .pl [.int .i64 (-1)]=some (.bool false):=rfl;simp only[go_sem,bm,A3,hi,aH,hn,aP e,f1,kR,lC,hf,Jh,hp];intro t' ht;cases ht
  |some k=>
   obtain⟨s,h1,_⟩:=dr hf;rw[h0]at h1;cases h1) (by
  intro t hI;simp only[go_sem,bm,A3,aq])
 obtain⟨t',h'⟩:=BQ (0,[D.bool false]) nr d (λt=>(1,[bl l,.int .i64 (qR t),bl l,.int .i64 l.length,.int .i64 l.length,.bool false,aA d,bp (d.map af.name)])) l 0 none;rw[n0,h']at hl;exact⟨t',hl⟩
theorem Zo{nr:af->aJ->Bool}{d:List af}{l:List aJ}(hd:cA aw d<=mg)(JX:cA bD l<=mg)
  (hN:∀s e,s∈d->e∈l->G 321 (aw s++bD e)=some (0,[.bool (nr s e)])) :
  ∃t,bR (lB G qp) (0,[bl l,.int .i64 (-1),bl l,.int .i64 l.length,.int .i64 0,aA d,bp (d.map af.name)])=some (if mU nr d l=true then (1,[bl l,.int .i64 (qR t),bl l,.int .i64 l.length,.int .i64 l.length,.bool false,aA d,bp (d.map af.name)]) else (0,[.bool false])):=by
 have xW:d.length<=mg:=by simp only[cA]at hd;omega
 have yV:l.length<=mg:=by simp only[cA]at JX;omega
 have hl:=vd (b:=lB G qp) l (λi (t:Option (aJ×Nat))=>(0,[bl l,.int .i64 (qR t),bl l,.int .i64 l.length,.int .i64 (i:Int),aA d,bp (d.map af.name)])) (lC (0,[.bool false]) nr d) (λt=>(1,[bl l,.int .i64 (qR t),bl l,.int .i64 l.length,.int .i64 l.length,.bool false,aA d,bp (d.map af.name)])) (Q2 d l) none rfl (by
  intro i e t hn hI;have hi:=aR hn;have hw:=wj hi yV;have f1:=q96 (l:=d.map af.name) (v:=e.name) (by rw[av];exact xW);rw[Aw]at f1;cases hf:fF d e.name with
  |none=>
   rw[hf]at f1;have hp:aK .pl [.int .i64 (-1)]=some (.bool false):=rfl;simp only[go_sem,bm,qp,hi,aH,hn,aP e,f1,kR,lC,hf,Jh,hp];intro t' ht;cases ht
  |some k=>
   rw[hf]at f1;obtain⟨s,h1,h2⟩:=dr hf;have g1:=hN s e (aT h1) (aT hn);have tE:decide ((k:Int) < 0)=false:=by simp only[decide_eq_false_iff_not];omega
   simp only[ae,aP,ai,ak]at g1;have hp:aK .pl [.int .i64 (k:Int)]=some (.bool false):=rfl;have r1:=PT h1;have r2:=lV 19 false (d.map aw) k (by rw[av];exact aR h1);have hinv:∀t',Sg.go (some (e,k))=(Sg.go t':Sg (Option (aJ×Nat)) (Nat×List D))->Q2 d l (i+1) t':=by
    intro t' ht;cases ht;exact⟨i,rfl,hn,hf⟩
   have Ct:lC (0,[D.bool false]) nr d i t e=if (nr s e && tL t s k e)=true then .go (some (e,k)) else .out (0,[D.bool false]):=by simp only[lC,hf,h1]
   rw[Ct];have b1:∀y:af,y∈d->y.keys.length<=mg:=by
    intro y hy;have a1:=eS aw hy;rw[dK]at a1;simp only[cA]at a1 hd;omega
   have b2:∀y:aJ,y∈l->y.kids.length<=mg:=by
    intro y hy;have a1:=eS bD hy;rw[jL]at a1;simp only[cA]at a1 JX;omega
   clear hN hd JX;cases t with
   |none=>
    obtain rfl:i=0:=hI;have m1:decide ((k:Int) < -1)=false:=by simp only[decide_eq_false_iff_not];omega
    have m2:decide ((k:Int)=-1)=false:=by simp only[decide_eq_false_iff_not];omega
    obtain⟨nv,Wk⟩:∃v,nr s e=v:=⟨_,rfl⟩
    rw[Wk]at g1;rw[Wk];simp only[go_sem,bm,qp,hi,aH,hn,aP e,ae s,f1,kR,g1,tE,tL,qR,hp,r1,r2,m1];cases nv<;>simp only[go_sem,Jh,hw,m2]
    ·intro t' ht;cases ht
    ·exact hinv
   |some pk=>
    obtain⟨p,k'⟩:=pk;obtain⟨j,rfl,i2,i3⟩:=hI;have g2:=adf (n:=s) (a:=p) (b:=e) (b1 s (aT h1)) (b2 p (aT i2)) (b2 e (aT hn));simp only[ae,aP,ai,ak]at g2;have e1:IntKind.i64.wrap (((j+1:Nat):Int) - 1)=(j:Int):=by rw[wrap_i64 (by simp only[mg]at yV;omega)];omega
    have hj:j < l.length:=by omega
    obtain⟨bf,hbf⟩:∃v,tL (some (p,k')) s k e=v:=⟨_,rfl⟩
    obtain⟨nv,Wk⟩:∃v,nr s e=v:=⟨_,rfl⟩
    have hb:bf=if k'=k then decide (qS s p e < 0) else decide (k' < k):=by
     rw[<- hbf];by_cases hk:k'=k
     ·subst hk;cases hr:lq s.kind<;>simp[tL,hr,qS,vo]
     ·simp[tL,hk]
    rw[Wk]at g1;rw[hbf,Wk];clear b1 b2 Ct hbf;obtain⟨o,ho⟩:∃v,decide (0<=qS s p e)=v:=⟨_,rfl⟩
    have ho':decide (qS s p e < 0)=!o:=by rw[<- ho,<- decide_not];apply decide_eq_decide.2;omega
    rcases Nat.lt_trichotomy k k' with c|c|c
    ·have m1:decide ((k:Int) < (k':Int))=true:=by simp only[decide_eq_true_eq];omega
     have kU:bf=false:=by rw[hb,if_neg (by omega)];simp only[decide_eq_false_iff_not];omega
     subst kU;simp only[go_sem,bm,qp,hi,aH,hn,aP e,f1,kR,tE,qR,hp,m1];cases nv<;>simp only[go_sem,Jh]
     all_goals (intro t' ht;cases ht)
    ·subst c;have m1:decide ((k:Int) < (k:Int))=false:=by simp
     have m2:decide ((k:Int)=(k:Int))=true:=by simp
     rw[if_pos rfl,ho']at hb;subst hb;simp only[go_sem,bm,qp,hi,aH,hn,aP e,ae s,f1,kR,g1,tE,qR,hp,r1,r2,m1];cases nv<;>cases o<;>simp only[go_sem,Jh,hw,e1,aH,i2,aP p,g2,ho]
     all_goals first|exact⟨rfl,hinv⟩|exact hinv|(intro t' ht;cases ht)
    ·have m1:decide ((k:Int) < (k':Int))=false:=by simp only[decide_eq_false_iff_not];omega
     have m2:decide ((k:Int)=(k':Int))=false:=by simp only[decide_eq_false_iff_not];omega
     have kU:bf=true:=by rw[hb,if_neg (by omega)];simp only[decide_eq_true_eq];omega
     subst kU;simp only[go_sem,bm,qp,hi,aH,hn,aP e,ae s,f1,kR,g1,tE,qR,hp,r1,r2,m1];cases nv<;>simp only[go_sem,Jh,hw,m2]
     all_goals first|exact⟨rfl,hinv⟩|exact hinv|(intro t' ht;cases ht)) (by
  intro t hI;simp only[go_sem,bm,qp,aq])
 obtain⟨t',h'⟩:=BQ (0,[D.bool false]) nr d (λt=>(1,[bl l,.int .i64 (qR t),bl l,.int .i64 l.length,.int .i64 l.length,.bool false,aA d,bp (d.map af.name)])) l 0 none;rw[n0,h']at hl;exact⟨t',hl⟩
end
section
theorem ade{nr:af->aJ->Bool}{ks:List af}{l:List aJ}(tE:cA aw ks<=mg)(JX:cA bD l<=mg)
  (hN:∀s e,s∈dk ks->e∈l->G 321 (aw s++bD e)=some (0,[.bool (nr s e)])):G 322 [aA ks,bl l]=some (0,[.bool (mU nr (dk ks) l)]):=by
 have hd:=az (qM (es:=ks)) tE;have xW:(dk ks).length<=mg:=by simp only[cA]at hd;omega
 have h94:=q94 tE;have JS:=q95 (l:=dk ks) xW;refine cq ae2 rfl ?_;simp only[go_sem,afJ];by_cases hq:dk ks=[]
 ·have hk:kE (dk ks)=0:=by rw[hq];rfl
  obtain⟨t,ht⟩:=Zn hd JX hq hN;simp only[go_sem,h94,hk,JS,ht];cases mU nr (dk ks) l<;>simp only[go_sem]
 ·have hk:kE (dk ks)=1:=ju hq;obtain⟨t,ht⟩:=Zo hd JX hN;simp only[go_sem,h94,hk,JS,ht];cases mU nr (dk ks) l<;>simp only[go_sem]
end
section
def pc(ip:ByteArray->Bool)(mt:ByteArray->ByteArray->Bool):Nat->af->aJ->Bool
 |0,_,_=>false
 |N+1,n,x=>DD ip mt (mU (pc ip mt N)) n x
theorem Y9{ip:ByteArray->Bool}{mt:ByteArray->ByteArray->Bool}(hP:∀s:ByteArray,s.size<=mg->G 227 [.str s]=some (0,[.bool (ip s)]))(hM:∀p s:ByteArray,p.size<=mg->s.size<=mg->G 236 [.str p,.str s]=some (0,[.bool (mt p s)]))
  (N:Nat):∀(n:af) (x:aJ),ah x < N->fc (aw n)<=mg->fc (bD x)<=mg->G 245 (aw n++bD x)=some (0,[.bool (pc ip mt N n x)]):=by
 induction N with
 |zero=>intro n x h;omega
 |succ N ih=>
  intro n x h hn hx;refine ahC (r:=mU (pc ip mt N)) hP hM hn hx ?_;have a1:=hn;have a2:=hx;rw[dK]at a1;rw[jL]at a2;have b1:cA aw (dk n.kids)<=mg:=az qM (by omega);have b2:cA bD x.kids<=mg:=by omega
  refine acZ b1 b2 ?_;intro s e hs he;have c1:=eS aw hs;have c2:=eS bD he;have c3:=aJ.J7 he;exact ih s e (by omega) (by omega) (by omega)
end
section
theorem Lo(n:Nat):∀(es:List af),ah es < n->∀s,s∈dk es->lS s.kind=true:=by
 induction n with
 |zero=>intro es h;omega
 |succ n ih=>
  intro es h s hs;cases es with
  |nil=>rw[rP]at hs;cases hs
  |cons e es=>
   rw[oz]at hs;rcases aL.1 hs with hs|hs
   ·unfold xQ at hs
    split at hs
    ·rename_i hk;rw[ct.1 hs];exact hk
    ·split at hs
     ·have h1:=af.iC e es;exact ih e.kids (by omega) s hs
     ·cases hs
   ·exact ih es (by simp only[bB]at h;omega) s hs
theorem PS{k:Int}(h:lS k=true):k=1\/k=2\/k=3\/k=4:=by
 simp only[lS,ff,ab,decide_eq_true_eq]at h;omega
theorem Zm{ip:ByteArray->Bool}{mt:ByteArray->ByteArray->Bool}(hP:∀s:ByteArray,s.size<=mg->G 285 [.str s]=some (0,[.bool (ip s)]))(hM:∀p s:ByteArray,p.size<=mg->s.size<=mg->G 310 [.str p,.str s]=some (0,[.bool (mt p s)]))
  (N:Nat):∀(n:af) (x:aJ),ah x < N->lS n.kind=true->fc (aw n)<=mg->fc (bD x)<=mg->G 321 (aw n++bD x)=some (0,[.bool (pc ip mt N n x)]):=by
 induction N with
 |zero=>intro n x h;omega
 |succ N ih=>
  intro n x h hk hn hx;refine ah4 (r:=mU (pc ip mt N)) hP hM hn hx (PS hk) ?_;have a1:=hn;have a2:=hx;rw[dK]at a1;rw[jL]at a2;have b0:cA aw n.kids<=mg:=by omega
  have b1:cA aw (dk n.kids)<=mg:=az qM b0;have b2:cA bD x.kids<=mg:=by omega
  refine ade b0 b2 ?_;intro s e hs he;have c1:=eS aw hs;have c2:=eS bD he;have c3:=aJ.J7 he;exact ih s e (by omega) (Lo _ _ (aM _) s hs) (by omega) (by omega)
end
section
noncomputable def tY(ip:ByteArray->Bool)(mt:ByteArray->ByteArray->Bool)(ok:Bool)(s:List af)(l:List aJ):Bool:=
 ok && (decide (fw l<=120) && mU (pc ip mt (ah l)) (dk s) l)
theorem WH{l:List aJ}{e:aJ}(h:e∈l):ah e < ah l:=aU h
theorem ahF{ip:ByteArray->Bool}{mt:ByteArray->ByteArray->Bool}(hP:∀s:ByteArray,s.size<=mg->G 227 [.str s]=some (0,[.bool (ip s)]))(hM:∀p s:ByteArray,p.size<=mg->s.size<=mg->G 236 [.str p,.str s]=some (0,[.bool (mt p s)]))
  {ok:Bool} {s:List af} {l:List aJ} (hs:cA aw s<=mg) (hl:cA bD l<=mg) (hS:G 241 [aA s]=some (0,[.bool ok])):G 250 [aA s,bl l]=some (0,[.bool (tY ip mt ok s l)]):=by
 obtain⟨r,h1,h2⟩:=ahA (l:=l) (x:=120) hl (by omega) (by omega);have h3:=q81 hs;have h4:=acZ (nr:=pc ip mt (ah l)) (d:=dk s) (l:=l) (az qM hs) hl (by
  intro s' e pq he;have c1:=eS aw pq;have c2:=eS bD he;have c4:=qM (es:=s);exact Y9 hP hM _ s' e (WH he) (by omega) (by omega))
 have hr:decide (0<=r)=decide (fw l<=120):=by
  apply decide_eq_decide.2
  unfold yJ at h2;omega
 have hp:∀b:Bool,aK .pl [.bool b]=some (.bool false):=λb=>rfl;clear hP hM h2;refine cq aem rfl ?_;simp only[go_sem,t250,hS,tY];obtain⟨v,hv⟩:∃v,decide (fw l<=120)=v:=⟨_,rfl⟩
 rw[hv]at hr;cases ok<;>cases v<;>simp only[go_sem,h1,h3,h4,hr,hv,hp]
theorem ah8{ip:ByteArray->Bool}{mt:ByteArray->ByteArray->Bool}(hP:∀s:ByteArray,s.size<=mg->G 285 [.str s]=some (0,[.bool (ip s)]))(hM:∀p s:ByteArray,p.size<=mg->s.size<=mg->G 310 [.str p,.str s]=some (0,[.bool (mt p s)]))
  {ok:Bool} {s:List af} {l:List aJ} (hs:cA aw s<=mg) (hl:cA bD l<=mg) (hS:G 316 [aA s]=some (0,[.bool ok])):G 327 [aA s,bl l]=some (0,[.bool (tY ip mt ok s l)]):=by
 have h1:=ah3 hl;have h4:=ade (nr:=pc ip mt (ah l)) (ks:=s) (l:=l) hs hl (by
  intro s' e pq he;have c1:=eS aw pq;have c2:=eS bD he;have c4:=qM (es:=s);exact Zm hP hM _ s' e (WH he) (Lo _ _ (aM _) s' pq) (by omega) (by omega))
 have hr:decide ((fw l:Int)<=120)=decide (fw l<=120):=by apply decide_eq_decide.2;omega
 clear hP hM;refine cq ae7 rfl ?_;simp only[go_sem,afO,hS,tY];obtain⟨v,hv⟩:∃v,decide (fw l<=120)=v:=⟨_,rfl⟩
 rw[hv]at hr;cases ok<;>cases v<;>simp only[go_sem,h1,h4,hr,hv]
end
section
theorem Pr:∀(a b:List UInt8),Op.bytesLess a b=false->Op.bytesLess b a=false->a=b
 |[],[],_,_=>rfl
 |[],y::b,h,_=>by simp[Op.bytesLess]at h
 |x::a,[],_,h=>by simp[Op.bytesLess]at h
 |x::a,y::b,h1,h2=>by
  unfold Op.bytesLess at h1 h2;by_cases h:x < y
  ·simp[h]at h1
  ·by_cases h':y < x
   ·simp[h']at h2
   ·have e:x=y:=by
     have a1:¬x.toNat < y.toNat:=h;have a2:¬y.toNat < x.toNat:=h';exact UInt8.toNat_inj.1 (by omega)
    subst e;simp[h]at h1 h2;rw[Pr a b h1 h2]
theorem ZF{a b:ByteArray}(h1:j5 a b=false)(h2:j5 b a=false):a=b:=by
 have h:=Pr a.toList b.toList h1 h2;have e:∀x:ByteArray,x.toList=x.data.toList:=λx=>ByteArray.toList_eq x;rw[e,e]at h;cases a;cases b
 simp only[ByteArray.mk.injEq]at h ⊢;exact Array.toList_inj.1 h
theorem zP{a b:ByteArray}:n9 a b=0↔a=b:=by
 unfold n9;by_cases h:j5 a b=true
 ·simp only[h,if_true]
  constructor
  ·intro h;omega
  ·rintro rfl;rw[Sd]at h;cases h
 ·rw[if_neg h];by_cases e:a=b
  ·simp[e]
  ·simp[e]
theorem Ef:∀{a b:List ByteArray},cmpL a b=0↔a=b
 |[],[]=>by simp[rL]
 |[],y::b=>by simp[rL]
 |x::a,[]=>by rw[CT];simp
 |x::a,y::b=>by
  rw[vY];split
  ·rename_i h;rw[Ef,zP.1 h];simp
  ·rename_i h
   constructor
   ·intro h';exact absurd h' h
   ·intro h';cases h';exact absurd (zP.2 rfl) h
theorem GZ:∀{a b:List ByteArray},¬cmpL a b < 0->¬cmpL b a < 0->a=b
 |[],[],_,_=>rfl
 |[],y::b,h,_=>by rw[rL]at h;simp at h
 |x::a,[],_,h=>by rw[rL]at h;simp at h
 |x::a,y::b,h1,h2=>by
  rw[vY]at h1 h2;by_cases e:x=y
  ·subst e;rw[if_pos (zP.2 rfl)]at h1 h2;rw[GZ h1 h2]
  ·rw[if_neg (λh=>e (zP.1 h))]at h1;rw[if_neg (λh=>e (zP.1 h).symm)]at h2;have a1:j5 x y=false:=by
    cases h:j5 x y with
    |false=>rfl
    |true=>exfalso;apply h1;simp[n9,h]
   have a2:j5 y x=false:=by
    cases h:j5 y x with
    |false=>rfl
    |true=>exfalso;apply h2;simp[n9,h]
   exact absurd (ZF a1 a2) e
theorem UQ(a b:List ByteArray):(!kP a b && !kP b a)=decide (a=b):=by
 rw[vo,vo,cU];simp only[ab,ck,decide_eq_false_iff_not,decide_eq_true_eq]
 constructor
 ·rintro⟨h1,h2⟩;exact GZ h1 h2
 ·rintro rfl;have:=(Ef (a:=a) (b:=a)).2 rfl;omega
def Ut(n:af)(l:List aJ)(v:ByteArray)(key:List ByteArray):Option Nat:=
 pV (λy=>decide (y.name=n.name) && (!(decide (n.kind=4) && !decide (y.value=v)) && (!decide (n.kind=2) ||(!kP (keyOf n y).1 key && !kP key (keyOf n y).1)))) l 0
def yg(n:af)(a b:aJ):Bool:=!lq n.kind ||((keyOf n a).2 && ((keyOf n b).2 && decide ((keyOf n a).1=(keyOf n b).1)))
def pI(n:af)(l:List aJ)(x:aJ):Option Nat:=
 pV (λy=>decide (y.name=n.name) && (decide (qS n x y=0) && yg n x y)) l 0
theorem C9{α:Type}{p q:α->Bool}:∀{l:List α} {k:Nat},(∀x∈l,p x=q x)->pV p l k=pV q l k
 |[],_,_=>rfl
 |y::l,k,h=>by simp only[pV,h y dQ,C9 λx hx=>h x (cp _ hx)]
theorem idx_eq{n:af}{l:List aJ}{x:aJ}(hx:n.kind=2->(keyOf n x).2=true)(hl:∀y∈l,y.name=n.name->n.kind=2->(keyOf n y).2=true):Ut n l x.value (keyOf n x).1=pI n l x:=by
 refine C9 λy hy=>?_;by_cases hn:y.name=n.name
 ·simp only[hn,decide_true,bU];by_cases h2:n.kind=2
  ·have h4:¬n.kind=4:=by omega
   have e1:lq n.kind=true:=by simp[lq,h2]
   have h24:¬(2:Int)=4:=by decide
   simp only[h2,h24,decide_true,decide_false,df,fX,bU,jB,fQ,UQ,yg,hx h2,hl y hy hn h2,qS,if_true,show lq 2=true from rfl];rw[cU];simp only[ab,decide_eq_true_eq,Ef,and_self];exact eq_comm
  ·by_cases h4:n.kind=4
   ·have e1:lq n.kind=true:=by simp[lq,h4]
    have k1:∀z:aJ,keyOf n z=([z.value],true):=λz=>by rw[keyOf,if_neg h2]
    have h42:¬(4:Int)=2:=by decide
    simp only[h4,h42,decide_true,decide_false,bU,fX,l6,fj,fm,yg,qS,if_true,k1,show lq 4=true from rfl,jB,fQ];rw[cU];simp only[ab,decide_eq_true_eq,Ef,and_self,bq,and_true];exact eq_comm
   ·have e1:lq n.kind=false:=by simp[lq,h2,h4]
    simp only[h2,h4,decide_false,df,fX,l6,fj,yg,e1,qS,au,if_false,decide_true]
 ·simp only[hn,decide_false,df]
section
variable {ip:ByteArray->Bool} {mt:ByteArray->ByteArray->Bool}
def Rt(ip:ByteArray->Bool)(mt:ByteArray->ByteArray->Bool)(d:List af)(l:List aJ):Prop:=∃N,mU (pc ip mt N) d l=true
theorem DQ{nr:af->aJ->Bool}{d:List af}:∀{l:List aJ} {i:Nat} {t:Option (aJ×Nat)},Q3 (ij (lC () nr d) i t l)=true->∀x∈l,∃k n,fF d x.name=some k/\nth d k=some n/\nr n x=true
 |e::l,i,t,h,x,hx=>by
  cases h1:fF d e.name with
  |none=>simp only[ij,lC,h1]at h;cases h
  |some k=>
   cases h2:nth d k with
   |none=>simp only[ij,lC,h1,h2]at h;cases h
   |some s=>
    cases h3:(nr s e && tL t s k e) with
    |false=>simp only[ij,lC,h1,h2,h3,au,if_false]at h;cases h
    |true=>
     simp only[ij,lC,h1,h2,h3,if_true]at h;rcases ay.1 hx with rfl|hx
     ·exact⟨k,s,h1,h2,(ab _ _▸h3).1⟩
     ·exact DQ h x hx
theorem W6{d:List af}:Rt ip mt d []:=⟨0,rfl⟩
theorem vT{d:List af}{l:List aJ}(h:Rt ip mt d l){x:aJ}(hx:x∈l):∃k n,fF d x.name=some k/\nth d k=some n/\(n.kind=2->(keyOf n x).2=true)/\Rt ip mt (dk n.kids) x.kids:=by
 obtain⟨N,hN⟩:=h;obtain⟨k,n,h1,h2,h3⟩:=DQ hN x hx;refine⟨k,n,h1,h2,?_⟩;cases N with
 |zero=>cases h3
 |succ N=>
  simp only[pc,DD]at h3
  split at h3
  ·rename_i hk;simp only[dE,decide_eq_true_eq]at hk;simp only[ab,decide_eq_true_eq]at h3;refine⟨λh=>by omega,?_⟩;rw[cn.1 h3.1];exact W6
  ·split at h3
   ·simp only[ab]at h3;exact⟨λ_=>h3.1,N,h3.2.2⟩
   ·rename_i hk;simp only[ab]at h3;refine⟨λh=>by simp[h]at hk,N,h3.2.2⟩
theorem NK{ok:Bool}{s:List af}{l:List aJ}(h:tY ip mt ok s l=true):Rt ip mt (dk s) l:=by
 simp only[tY,ab]at h;exact⟨_,h.2.2⟩
def mB(ix:af->List aJ->aJ->Option Nat)(s:List af)(b:List aJ)(x:aJ):Option (af×aJ):=match fF (dk s) x.name with
 |some k=>(match nth (dk s) k with
  |some n=>(match ix n b x with
   |some j=>(match nth b j with
    |some y=>if (decide (n.kind=3) && !decide (y.value=x.value))=true then none else some (n,y)
    |none=>none)
   |none=>none)
  |none=>none)
 |none=>none
def Gz(n:af)(b:List aJ)(x:aJ):Option Nat:=Ut n b x.value (keyOf n x).1
theorem abF{s:List af}{a b:List aJ}(ha:Rt ip mt (dk s) a)(hb:Rt ip mt (dk s) b){x:aJ}(hx:x∈a){k:Nat}{n:af}(h1:fF (dk s) x.name=some k)(h2:nth (dk s) k=some n):Gz n b x=pI n b x:=by
 have hn:n.name=x.name:=by
  obtain⟨e,e1,e2⟩:=dr h1;rw[h2]at e1;cases e1
  simpa using e2
 refine idx_eq (λhk=>?_) λy hy hyn hk=>?_
 ·obtain⟨k',n',g1,g2,g3,_⟩:=vT ha hx;rw[h1]at g1;cases g1;rw[h2]at g2;cases g2;exact g3 hk
 ·obtain⟨k',n',g1,g2,g3,_⟩:=vT hb hy;rw[hyn,hn,h1]at g1;cases g1;rw[h2]at g2;cases g2;exact g3 hk
theorem U9{s:List af}{a b:List aJ}(ha:Rt ip mt (dk s) a)(hb:Rt ip mt (dk s) b){x:aJ}(hx:x∈a):mB Gz s b x=mB pI s b x:=by
 unfold mB;split
 ·rename_i k h1;split
  ·rename_i n h2;rw[abF ha hb hx h1 h2]
  ·rfl
 ·rfl
theorem U8{ix:af->List aJ->aJ->Option Nat}(Ud:∀n l x j y,ix n l x=some j->nth l j=some y->y.name=n.name){s:List af}{a b:List aJ}(ha:Rt ip mt (dk s) a)(hb:Rt ip mt (dk s) b){x y:aJ}{n:af}(hx:x∈a)
  (h:mB ix s b x=some (n,y)):Rt ip mt (dk n.kids) x.kids/\Rt ip mt (dk n.kids) y.kids/\n∈dk s/\y∈b/\n.name=x.name:=by
 unfold mB at h
 split at h
 ·rename_i k h1
  split at h
  ·rename_i n' h2
   split at h
   ·rename_i j h3
    split at h
    ·rename_i y' h4
     split at h
     ·cases h
     ·cases h;obtain⟨e,e1,e2⟩:=dr h1;rw[h2]at e1;cases e1;have hn:n.name=x.name:=by simpa using e2
      have hy:=Ud _ _ _ _ _ h3 h4;refine⟨?_,?_,aT h2,aT h4,hn⟩
      ·obtain⟨k',n',g1,g2,_,g4⟩:=vT ha hx;rw[h1]at g1;cases g1;rw[h2]at g2;cases g2;exact g4
      ·obtain⟨k',n',g1,g2,_,g4⟩:=vT hb (aT h4);rw[hy,hn,h1]at g1;cases g1;rw[h2]at g2;cases g2;exact g4
    ·cases h
   ·cases h
  ·cases h
 ·cases h
theorem NJ(n:af)(l:List aJ)(x:aJ)(j:Nat)(y:aJ)(h:pI n l x=some j)(hy:nth l j=some y):y.name=n.name:=by
 obtain⟨e,e1,e2⟩:=dr h;rw[hy]at e1;cases e1;simp only[ab,decide_eq_true_eq]at e2;exact e2.1
end
end
section
def oG(n:af):Bool:=n.keys.isEmpty && (n.unique.isEmpty && (decide (n.default.size=0) && (!n.given && (!n.fixed && (decide (n.min=0) && decide (n.max=0))))))
def ub(l:List af)(o:Option Nat)(p:af->Bool):Bool:=match o with
 |some j=>(match nth l j with
  |some x=>p x
  |none=>false)
 |none=>false
def NO(x:af):Bool:=x.when.isEmpty && (!x.given && !decide (x.type.kind=6))
def Cu(l:List af)(k:ByteArray):Bool:=ub l (fF l k) λx=>decide (x.kind=3) && NO x
def BX(l:List af)(k:ByteArray):Bool:=ub l (fF l k) λx=>decide (x.kind=3)
def Dx(n:af):Bool:=n.keys.all (Cu n.kids) && (n.unique.all (BX n.kids) && (zT n.type && (!n.keys.isEmpty && (so n.keys && (so n.unique && (kH n && (!n.given && (!n.dZ && (!n.cP && (!n.fixed && decide (n.default.size=0)))))))))))
def A_(ip:ByteArray->Bool)(n:af):Bool:=n.keys.isEmpty && (n.unique.isEmpty && (decide (n.min=0) && (decide (n.max=0) && (!n.cP && (n.kids.isEmpty && isType ip n.type)))))
def Ie(ip:ByteArray->Bool)(n:af):Bool:=n.keys.isEmpty && (n.unique.isEmpty && (decide (n.default.size=0) && (!n.given && (!n.fixed && (!n.dZ && (!n.cP && (n.kids.isEmpty && (kH n && isType ip n.type))))))))
def Df(n:af):Bool:=isName n.name && (Cm n.when 1 && Cm n.hO 3)
section
variable (ip:ByteArray->Bool) (mt:ByteArray->ByteArray->Bool)
def iW(n:af)(free:Bool):Bool:=
 if n.kind=1 then oG n && (!n.dZ && zT n.type)
 else if n.kind=2 then Dx n
 else if n.kind=3 then (if n.given=true then A_ ip n && (free && (!n.dZ && (n.when.isEmpty && isVal ip mt n.type n.default))) else A_ ip n && decide (n.default.size=0))
 else if n.kind=4 then Ie ip n
 else if n.kind=5 then oG n && (!n.cP && (n.hO.isEmpty && zT n.type))
 else if n.kind=6 then oG n && (!n.cP && (!n.dZ && (n.hO.isEmpty && zT n.type)))
 else false
def Bl(n:af)(free:Bool):Bool:=Df n && iW ip mt n free
def tM(n:af)(free:Bool):Bool:=free && (n.when.isEmpty && !decide (n.kind=6))
def AA:Nat->List af->Int->Bool->Nat->Bool
 |0,_,_,_,_=>false
 |m+1,l,k,free,deep=>
  allI (λi n=>decide (fF l n.name=some i) && (decide (decide (k=5)=decide (n.kind=6)) && (Bl ip mt n free && AA m n.kids n.kind (tM n free) (deep+1)))) 0 l &&
   (allI (λi n=>decide (fF (dk l) n.name=some i)) 0 (dk l) && (decide (deep<=8) ||l.isEmpty))
def tt(l:List af)(k:ByteArray):Bool:=ub l (jZ l k) NO
def nJ(n:af):Bool:=
 (!decide (n.kind=3) && (!decide (n.kind=4) && !zT n.type)) ||
 ((!decide (n.kind=2) && !(n.keys.isEmpty && n.unique.isEmpty)) ||
 ((!decide (n.kind=3) && (!decide (n.default.size=0) ||(n.given ||n.fixed))) ||
 ((!decide (n.kind=3) && (!decide (n.kind=5) && n.dZ)) ||
 ((!decide (n.kind=1) && n.cP) ||
 ((!decide (n.kind=2) && (!decide (n.kind=4) && (!decide (n.min=0) ||!decide (n.max=0)))) ||
 ((!lS n.kind && !n.hO.isEmpty) ||
 ((decide (n.kind=3) ||decide (n.kind=4)) && !n.kids.isEmpty)))))))
def lx(l:List ByteArray):Bool:=decide (l.length<=3) && (qf l && l.all isName)
def jD(n:af):Bool:=
 if n.kind=1 then true
 else if n.kind=2 then !n.keys.isEmpty && (lx n.keys && (lx n.unique && kH n))
 else if n.kind=3 then isType ip n.type && (!(n.given && (n.dZ ||!n.when.isEmpty)) && (if n.given=true then isVal ip mt n.type n.default else decide (n.default.size=0)))
 else if n.kind=4 then isType ip n.type && kH n
 else if n.kind=5 then true
 else if n.kind=6 then true
 else if n.kind=7 then n.when.isEmpty && n.kids.isEmpty
 else false
def vu(n:af):Bool:=Df n && (!nJ n && jD ip mt n)
def tu:Nat->List af->Int->Bool->Bool
 |0,_,_,_=>false
 |m+1,l,k,bound=>
  (qf (l.map af.name) && (od k ||qf ((dk l).map af.name))) &&
   l.all λn=>vu ip mt n && (!decide (n.kind=7) && (decide (decide (n.kind=6)=decide (k=5)) && (!(n.given && bound) && (n.keys.all (tt n.kids) && (n.unique.all (λu=>(jZ n.kids u).isSome) && tu m n.kids n.kind (bound ||(!n.when.isEmpty ||decide (n.kind=6))))))))
end
theorem nI{α:Type}{p:Nat->α->Bool}:∀{l:List α} {i:Nat},allI p i l=true↔∀j x,nth l j=some x->p (i+j) x=true
 |[],i=>⟨λ_ j x h=>by simp[nth]at h,λ_=>rfl⟩
 |y::l,i=>by
  simp only[allI,ab,nI (l:=l)]
  constructor
  ·rintro⟨h1,h2⟩ j x hx
   cases j with
   |zero=>cases hx;exact h1
   |succ j=>have:=h2 j x hx;rwa [Nat.add_right_comm,dv]at this
  ·intro h;refine⟨h 0 y rfl,λj x hx=>?_⟩;have:=h (j+1) x hx
   rwa [Nat.add_right_comm,dv]
theorem uv{α:Type}:∀{l:List α} {x:α},x∈l->∃j,nth l j=some x
 |y::l,x,h=>by
  rcases ay.1 h with rfl|h
  ·exact⟨0,rfl⟩
  ·obtain⟨j,hj⟩:=uv h;exact⟨j+1,hj⟩
theorem wC{α:Type}{p:α->Bool}:∀{l:List α} {k j:Nat} {e:α},nth l j=some e->p e=true->(∀i x,i < j->nth l i=some x->p x=false)->pV p l k=some (k+j)
 |y::l,k,0,e,h,hp,_=>by cases h;simp only[pV,hp,if_true,eA]
 |y::l,k,j+1,e,h,hp,hb=>by
  have h0:=hb 0 y (by omega) rfl;simp only[pV,h0,au,if_false];rw[wC (l:=l) (k:=k+1) h hp λi x hi hx=>hb (i+1) x (by omega) hx]
  congr 1;omega
theorem Aj{α:Type}{p:α->Bool}:∀{l:List α} {k j:Nat},pV p l k=some j->∀i x,k+i < j->nth l i=some x->p x=false
 |[],k,j,h=>by simp[pV]at h
 |y::l,k,j,h=>by
  intro i x hi hx;simp only[pV]at h
  split at h
  ·cases h;omega
  ·rename_i hp;cases i with
   |zero=>cases hx;exact cT.2 hp
   |succ i=>exact Aj h i x (by omega) hx
theorem xh{α β:Type}(f:α->β):∀{l:List α},(l.map f).Nodup↔∀i j x y,i < j->nth l i=some x->nth l j=some y->f x≠f y
 |[]=>by simp[nth]
 |z::l=>by
  simp only[aN,bZ,xh f (l:=l)]
  constructor
  ·rintro⟨h1,h2⟩ i j x y hij hx hy
   obtain⟨j,rfl⟩:∃m,j=m+1:=⟨j - 1,by omega⟩
   cases i with
   |zero=>cases hx;exact λe=>h1 (bQ.2 ⟨y,aT (l:=l) hy,e.symm⟩)
   |succ i=>exact h2 i j x y (by omega) hx hy
  ·intro h;refine⟨λhm=>?_,λi j x y hij hx hy=>h (i+1) (j+1) x y (by omega) hx hy⟩;obtain⟨y,hy,he⟩:=bQ.1 hm;obtain⟨j,hj⟩:=uv hy;exact h 0 (j+1) z y (by omega) rfl hj he.symm
theorem qh(l:List af):allI (λi n=>decide (fF l n.name=some i)) 0 l=true↔(l.map af.name).Nodup:=by
 rw[nI,xh];simp only[bo,decide_eq_true_eq]
 constructor
 ·intro h i j x y hij hx hy he;have h1:=h j y hy;have:=Aj h1 i x (by omega) hx;simp[he]at this
 ·intro h j x hx;have:=wC (p:=λe:af=>decide (e.name=x.name)) (k:=0) hx (by simp) λi y hi hy=>by simpa using h i j y x hi hy hx
  rw[bo]at this;exact this
theorem Mi{l:List af}(hn:(l.map af.name).Nodup)(k:ByteArray)(p:af->Bool):ub l (fF l k) (λx=>decide (x.kind=3) && p x)=ub l (jZ l k) p:=by
 cases h:jZ l k with
 |some j=>
  obtain⟨e,h1,h2⟩:=dr h;simp only[ab,decide_eq_true_eq]at h2;have:fF l k=some j:=by
   have:=wC (p:=λe:af=>decide (e.name=k)) (k:=0) h1 (by simp[h2.1]) λi y hi hy=>by
    have:=(xh af.name).1 hn i j y e hi hy h1;rw[h2.1]at this
    simpa using this
   rw[bo]at this;exact this
  simp only[this,ub,h1,h2.2,decide_true,bU]
 |none=>
  cases h':fF l k with
  |none=>rfl
  |some j=>
   obtain⟨e,h1,h2⟩:=dr h';by_cases h3:e.kind=3
   ·have:(jZ l k).isSome=true:=by
     unfold jZ;rw[vc,ku];exact⟨e,aT h1,by simpa [h3] using h2⟩
    rw[h]at this;cases this
   ·simp only[ub,h1,h3,decide_false,df]
theorem US{l:List af}(hn:(l.map af.name).Nodup)(k:ByteArray):BX l k=(jZ l k).isSome:=by
 have:=Mi hn k λ_=>true;simp only[fj]at this;rw[BX,this];cases h:jZ l k with
 |none=>rfl
 |some j=>
  obtain⟨e,h1,_⟩:=dr h;simp only[ub,h1,gR]
theorem UR{l:List af}(hn:(l.map af.name).Nodup)(k:ByteArray):Cu l k=tt l k:=Mi hn k NO
theorem Bc{l:List af}(h:∀x∈l,isName x.name=true){k:ByteArray}(hk:(jZ l k).isSome=true):isName k=true:=by
 obtain⟨j,hj⟩:=bF.1 hk;obtain⟨e,h1,h2⟩:=dr hj;simp only[ab,decide_eq_true_eq]at h2;rw[<- h2.1];exact h e (aT h1)
theorem NN{l:List af}{k:ByteArray}(h:tt l k=true):(jZ l k).isSome=true:=by
 unfold tt ub at h
 split at h
 ·rename_i j hj;rw[hj];rfl
 ·cases h
theorem Iw{l:List ByteArray}(h:∀k∈l,isName k=true):lx l=so l:=by
 have:l.all isName=true:=aS.2 h;rw[lx,so,this,fj,Bool.and_comm]
section
variable {ip:ByteArray->Bool} {mt:ByteArray->ByteArray->Bool}
theorem TH{n:af}(h:n.kind=2):(!nJ n && jD ip mt n)=(zT n.type && (!n.keys.isEmpty && (lx n.keys && (lx n.unique && (kH n && (!n.given && (!n.dZ && (!n.cP && (!n.fixed && decide (n.default.size=0)))))))))):=by
 simp only[nJ,jD,h,lS];cases zT n.type<;>cases n.keys.isEmpty<;>cases lx n.keys<;>cases lx n.unique<;>cases kH n<;>cases n.given<;>cases n.dZ<;>cases n.cP<;>cases n.fixed<;>cases decide (n.default.size=0)<;>rfl
theorem Ux{n:af}{free:Bool}(h:¬(1<=n.kind/\n.kind<=6)):iW ip mt n free=false:=by
 simp only[iW];rw[if_neg (by omega),if_neg (by omega),if_neg (by omega),if_neg (by omega),if_neg (by omega),if_neg (by omega)]
theorem Rb{n:af}(h:¬(1<=n.kind/\n.kind<=6))(h7:n.kind≠7):jD ip mt n=false:=by
 simp only[jD];rw[if_neg (by omega),if_neg (by omega),if_neg (by omega),if_neg (by omega),if_neg (by omega),if_neg (by omega),if_neg h7]
theorem Mt{n:af}{bound:Bool}(hn:(n.kids.map af.name).Nodup)(hk:∀x∈n.kids,isName x.name=true) :
  (Bl ip mt n (!bound)=true)↔vu ip mt n=true/\n.kind≠7/\(n.given && bound)=false/\n.keys.all (tt n.kids)=true/\n.unique.all (λu=>(jZ n.kids u).isSome)=true:=by
 unfold Bl vu;cases Df n with
 |false=>simp
 |true=>
  simp only[bU];by_cases h2:n.kind=2
  ·have e1:n.keys.all (Cu n.kids)=n.keys.all (tt n.kids):=by congr 1;funext k;exact UR hn k
   have e2:n.unique.all (BX n.kids)=n.unique.all (λu=>(jZ n.kids u).isSome):=by congr 1;funext k;exact US hn k
   rw[TH h2];have e3:iW ip mt n (!bound)=Dx n:=by simp only[iW,h2];rfl
   rw[e3,Dx,e1,e2];cases h3:n.keys.all (tt n.kids) with
   |false=>simp
   |true=>
    cases h4:n.unique.all (λu=>(jZ n.kids u).isSome) with
    |false=>simp
    |true=>
     have k1:=Iw (l:=n.keys) λk gf=>Bc hk (NN (aS.1 h3 k gf));have k2:=Iw (l:=n.unique) λk gf=>Bc hk (aS.1 h4 k gf);rw[k1,k2,h2];cases n.given<;>simp
  ·by_cases hr:1<=n.kind/\n.kind<=6
   ·have hd:lS n.kind=decide (n.kind<=4):=by
     by_cases h:n.kind<=4
     ·rw[decide_eq_true h];exact (fH _ _ _).2 ⟨hr.1,h⟩
     ·rw[decide_eq_false h];exact cT.2 λh'=>h ((fH _ _ _).1 h').2
    cases hK:n.keys with
    |cons a l=>
     have:nJ n=true:=by simp[nJ,h2,hK]
     have hb:iW ip mt n (!bound)=false:=by simp[iW,h2,oG,A_,Ie,hK]
     simp[this,hb]
    |nil=>
     cases hU:n.unique with
     |cons a l=>
      have:nJ n=true:=by simp[nJ,h2,hU]
      have hb:iW ip mt n (!bound)=false:=by simp[iW,h2,oG,A_,Ie,hU]
      simp[this,hb]
     |nil=>
      have h7:n.kind≠7:=by omega
      have hb:iW ip mt n (!bound)=(!nJ n && (jD ip mt n && !(n.given && bound))):=by
       simp only[nJ,iW,jD,oG,A_,Ie,hK,hU,hd,gM,bU,fj];obtain⟨h1,h6⟩:=hr;have hc:n.kind=1\/n.kind=3\/n.kind=4\/n.kind=5\/n.kind=6:=by omega
       rcases hc with h|h|h|h|h<;>simp only[h]<;>generalize zT n.type=z<;>generalize isType ip n.type=t<;>generalize isVal ip mt n.type n.default=v<;>generalize n.when.isEmpty=w<;>generalize n.hO.isEmpty=u<;>generalize n.kids.isEmpty=q<;>generalize kH n=o<;>generalize decide (n.default.size=0)=d<;>generalize decide (n.min=0)=m<;>generalize decide (n.max=0)=x<;>generalize n.given=g<;>generalize n.fixed=f<;>generalize n.dZ=e<;>generalize n.cP=p
       ·cases z<;>cases d<;>cases m<;>cases x<;>cases g<;>cases f<;>cases e<;>cases bound<;>rfl
       ·cases t<;>cases v<;>cases w<;>cases q<;>cases d<;>cases m<;>cases x<;>cases g<;>cases e<;>cases p<;>cases bound<;>rfl
       ·cases t<;>cases o<;>cases q<;>cases d<;>cases g<;>cases f<;>cases e<;>cases p<;>cases bound<;>rfl
       ·cases z<;>cases d<;>cases m<;>cases x<;>cases g<;>cases f<;>cases u<;>cases p<;>cases bound<;>rfl
       ·cases z<;>cases d<;>cases m<;>cases x<;>cases g<;>cases f<;>cases e<;>cases u<;>cases p<;>cases bound<;>rfl
      rw[hb];cases n.given<;>simp[h7,and_assoc]
   ·rw[Ux hr];by_cases h7:n.kind=7
    ·simp[h7]
    ·rw[Rb hr h7];simp
theorem Az{m:Nat}{l:List af}{k:Int}{b:Bool}(h:tu ip mt m l k b=true):(l.map af.name).Nodup/\∀x∈l,isName x.name=true:=by
 cases m with
 |zero=>cases h
 |succ m=>
  simp only[tu,ab,aS]at h;refine⟨(pz _).1 h.1.1,λx hx=>?_⟩;have:=(h.2 x hx).1;simp only[vu,Df,ab]at this;exact this.1.1
theorem yR:∀(l:List af) (N:Nat),qg l<=N↔∀x∈l,1+qg x.kids<=N
 |[],N=>by simp[qg]
 |e::l,N=>by rw[qg,Nat.max_le,yR l N];simp
theorem PN{l:List af}:qg l=0↔l=[]:=by
 cases l with
 |nil=>simp[qg]
 |cons e l=>rw[qg];simp
theorem CH(n:af)(bound:Bool):tM n (!bound)=!(bound ||(!n.when.isEmpty ||decide (n.kind=6))):=by
 unfold tM;cases bound<;>cases n.when.isEmpty<;>cases decide (n.kind=6)<;>rfl
theorem Xj{l:List af}{n:af}(hn:n∈l)(hc:od n.kind=true):(dk n.kids).Sublist (dk l):=by
 induction l with
 |nil=>cases hn
 |cons e l ih=>
  rw[oz];rcases ay.1 hn with rfl|h
  ·have:xQ n=dk n.kids:=by
    unfold xQ;rw[if_neg,if_pos hc];intro h;have:=(WL h).1;rw[hc]at this;cases this
   rw[this];exact List.sublist_append_left _ _
  ·exact (ih h).trans (List.sublist_append_right _ _)
theorem Ym:∀(m:Nat) (l:List af) (k:Int) (bound:Bool) (deep:Nat),ah l < m->1<=deep->
  (AA ip mt m l k (!bound) deep=true↔tu ip mt m l k bound=true/\((dk l).map af.name).Nodup/\(qg l=0\/deep+qg l<=9)):=by
 intro m
 induction m with
 |zero=>intro l k bound deep h;omega
 |succ m ih=>
  intro l k bound deep hz hd;have ihk:∀n∈l,∀b,(AA ip mt m n.kids n.kind (!b) (deep+1)=true↔tu ip mt m n.kids n.kind b=true/\((dk n.kids).map af.name).Nodup/\(qg n.kids=0\/deep+1+qg n.kids<=9)):=λn hn b=>
   ih n.kids n.kind b (deep+1) (by have:=aU hn;have:=af.fq n;omega) (by omega)
  constructor
  ·intro h;simp only[AA,ab]at h;obtain⟨h1,h2,h3⟩:=h;rw[nI]at h1;simp only[bo,ab,decide_eq_true_eq]at h1;have hN:(l.map af.name).Nodup:=(qh l).1 (by rw[nI];intro j x hx;rw[bo,decide_eq_true_eq];exact (h1 j x hx).1);have hD:=(qh (dk l)).1 h2;have hx:∀n∈l,(decide (k=5)=decide (n.kind=6))/\(vu ip mt n=true/\n.kind≠7/\(n.given && bound)=false/\n.keys.all (tt n.kids)=true/\n.unique.all (λu=>(jZ n.kids u).isSome)=true)/\tu ip mt m n.kids n.kind (bound ||(!n.when.isEmpty ||decide (n.kind=6)))=true/\(qg n.kids=0\/deep+1+qg n.kids<=9):=by
    intro n hn;obtain⟨j,hj⟩:=uv hn;obtain⟨_,a2,a3,a4⟩:=h1 j n hj;rw[CH]at a4;obtain⟨b1,_,b3⟩:=(ihk n hn _).1 a4;obtain⟨c1,c2⟩:=Az b1;exact⟨a2,(Mt c1 c2).1 a3,b1,b3⟩
   refine⟨?_,hD,?_⟩
   ·simp only[tu,ab,aS];refine⟨⟨(pz _).2 hN,by rw[dE];exact .inr ((pz _).2 hD)⟩,λn hn=>?_⟩;obtain⟨a1,⟨a2,a3,a4,a5,a6⟩,a7,_⟩:=hx n hn;exact⟨a2,by simpa using a3,by rw[decide_eq_true_eq];exact a1.symm,by rw[a4];rfl,aS.1 a5,aS.1 a6,a7⟩
   ·by_cases hl:l=[]
    ·exact .inl (PN.2 hl)
    ·have h8:deep<=8:=by
      cases l with
      |nil=>exact absurd rfl hl
      |cons e l=>simpa using h3
     have:=(yR l (9 - deep)).2 λn hn=>by
      obtain⟨_,_,_,a⟩:=hx n hn;omega
     omega
  ·rintro⟨h1,hD,h3⟩
   simp only[tu,ab,aS]at h1;obtain⟨⟨hN,hC⟩,hx⟩:=h1;have hN':=(pz _).1 hN;have Wc:∀n∈l,deep+(1+qg n.kids)<=9:=by
    intro n hn;rcases h3 with h3|h3
    ·rw[PN.1 h3]at hn;cases hn
    ·have:=(yR l (9 - deep)).1 (by omega) n hn;omega
   simp only[AA,ab];refine⟨?_,(qh (dk l)).2 hD,?_⟩
   ·rw[nI];intro j n hj;have hn:=aT hj;obtain⟨a1,a2,a3,a4,a5,a6,a7⟩:=hx n hn;obtain⟨c1,c2⟩:=Az a7;have hf:=(qh l).2 hN';rw[nI]at hf;simp only[ab];refine⟨hf j n hj,by rw[decide_eq_true_eq]at a3 ⊢;exact a3.symm,(Mt c1 c2).2 ⟨a1,by simpa using a2,by cases hg:n.given<;>cases bound<;>simp_all,aS.2 a5,aS.2 a6⟩,?_⟩;rw[CH];refine (ihk n hn _).2 ⟨a7,?_,.inr (by have:=Wc n hn;omega)⟩;cases hc:od n.kind with
    |true=>exact List.Nodup.sublist ((Xj hn hc).map _) hD
    |false=>
     cases m with
     |zero=>cases a7
     |succ m=>
      simp only[tu,ab,hc,fQ]at a7;exact (pz _).1 a7.1.2
   ·rcases h3 with h3|h3
    ·rw[PN.1 h3];simp
    ·cases l with
     |nil=>simp
     |cons e l=>
      have:=Wc e dQ;have:deep<=8:=by omega
      simp[this]
noncomputable def Dh(ip:ByteArray->Bool)(mt:ByteArray->ByteArray->Bool)(l:List af):Bool:=decide (dq l<=60) && AA ip mt (ah l+1) l 0 true 1
theorem Uv(l:List af):Dh ip mt l=(decide (dq l<=60) && (decide (qg l<=8) && tu ip mt (ah l+1) l 0 false)):=by
 have h:=Ym (ip:=ip) (mt:=mt) (ah l+1) l 0 false 1 (aM _) (aj _);rw[fX]at h;unfold Dh
 congr 1
 rw[cU,h,ab,decide_eq_true_eq]
 constructor
 ·rintro⟨a,_,c⟩
  exact⟨by omega,a⟩
 ·rintro⟨a,b⟩
  refine⟨b,?_,by omega⟩;simp only[tu,ab,od,dE,decide_eq_true_eq]at b;rcases b.1.2 with h|h
  ·rcases h with h|h<;>omega
  ·exact (pz _).1 h
end
end
section
abbrev PR:=Option (cx×Nat)
abbrev eT:ByteArray:=⟨#[]⟩
def fU(s:ByteArray)(i:Nat)(b:Int):Bool:=decide (i < s.size) && decide (da s i=b)
def TI(f:Nat->Bool):ByteArray:=bA (((bE 256).filter f).map cL)
def M7:ByteArray:=TI λx=>decide (32<=x) && decide (x<=126)
def nn(r:List (Int×Int))(x:Nat):Bool:=r.any λp=>decide (p.1<=(x:Int)) && decide ((x:Int)<=p.2)
def Zs(r:List (Int×Int)):ByteArray:=TI (nn r)
def o8(s:ByteArray)(i:Nat):Option ((Int×Int)×Nat):=
 if (decide (i < s.size) && Jy (da s i))=true then
  if fU s (i+1) 126=true then
   if (decide (i+2 < s.size) && (Jy (da s (i+2)) && decide (da s i<=da s (i+2))))=true then some ((da s i,da s (i+2)),i+3) else none
  else some ((da s i,da s i),i+1)
 else none
def gp(s:ByteArray):Nat->Nat->Option (List (Int×Int)×Nat)
 |0,_=>none
 |f+1,i=>if fU s i 93=true then some ([],i+1) else match o8 s i with
  |some (r,j)=>(gp s f j).map λp=>(r::p.1,p.2)
  |none=>none
def Iz(s:ByteArray)(i:Nat):PR:=match gp s (s.size+1) i with
 |some (r::l,k)=>some (⟨1,Zs (r::l),[]⟩,k)
 |_=>none
def YC(b:Int):Bool:=ff 97 122 b ||(ff 48 57 b ||decide (b=45))
def Bu(b:Int):ByteArray:=bA [cL b.toNat]
def tH(alt:Nat->PR)(s:ByteArray)(i:Nat):PR:=
 if fU s i 40=true then (match alt (i+1) with
  |some (p,j)=>if fU s j 41=true then some (p,j+1) else none
  |none=>none)
 else if fU s i 91=true then Iz s (i+1)
 else if fU s i 46=true then some (⟨1,M7,[]⟩,i+1)
 else if (decide (i < s.size) && YC (da s i))=true then some (⟨1,Bu (da s i),[]⟩,i+1)
 else none
def BA(s:ByteArray)(p:cx)(j:Nat):cx×Nat:=
 if fU s j 42=true then (⟨4,eT,[p]⟩,j+1)
 else if fU s j 43=true then (⟨2,eT,[p,⟨4,eT,[p]⟩]⟩,j+1)
 else if fU s j 63=true then (⟨5,eT,[p]⟩,j+1)
 else (p,j)
def pP(alt:Nat->PR)(s:ByteArray)(i:Nat):PR:=(tH alt s i).map λp=>BA s p.1 p.2
def su(s:ByteArray)(i:Nat):Bool:=decide (i < s.size) && (!decide (da s i=124) && !decide (da s i=41))
def sr(alt:Nat->PR)(s:ByteArray):Nat->Nat->Option (List cx×Nat)
 |0,_=>none
 |f+1,i=>if su s i=true then match pP alt s i with
   |some (p,j)=>(sr alt s f j).map λq=>(p::q.1,q.2)
   |none=>none
  else some ([],i)
def pS(op:Int):List cx->cx
 |[p]=>p
 |l=>⟨op,eT,l⟩
def yF(alt:Nat->PR)(s:ByteArray)(i:Nat):PR:=(sr alt s (s.size+1) i).map λq=>(pS 2 q.1,q.2)
def yd(alt:Nat->PR)(s:ByteArray):Nat->Nat->Option (List cx×Nat)
 |0,_=>none
 |f+1,i=>if fU s i 124=true then match yF alt s (i+1) with
   |some (p,j)=>(yd alt s f j).map λq=>(p::q.1,q.2)
   |none=>none
  else some ([],i)
def Bz(alt:Nat->PR)(s:ByteArray)(i:Nat):PR:=match yF alt s i with
 |some (p,j)=>(yd alt s (s.size+1) j).map λq=>(pS 3 (p::q.1),q.2)
 |none=>none
def Oo(s:ByteArray):Nat->Nat->PR
 |0,_=>none
 |f+1,i=>Bz (Oo s f) s i
def ye(s:ByteArray):Option cx:=if 30 < s.size then none else match Oo s (s.size+1) 0 with
 |some (p,k)=>if k=s.size then some p else none
 |none=>none
def uw(n:Nat)(p:cx):Bool:=(decide (p.kids.length<=n) && decide (p.text.size<=256)) && p.kids.attach.all λq=>uw n q.1
termination_by ah p
decreasing_by exact cx.J7 q.2
theorem FL(n:Nat)(p:cx):uw n p=((decide (p.kids.length<=n) && decide (p.text.size<=256)) && p.kids.all (uw n)):=by
 rw[uw]
 congr 1
 rw[cU,aS,aS];exact⟨λh x hx=>h ⟨x,hx⟩ (List.mem_attach _ _),λh x _=>h x.1 x.2⟩
theorem zk{n:Nat}{p q:cx}(h:uw n p=true)(hq:q∈p.kids):uw n q=true:=by
 rw[FL,ab,aS]at h;exact h.2 q hq
theorem zm{n:Nat}{p:cx}(h:uw n p=true):p.kids.length<=n:=by
 rw[FL,ab,ab,decide_eq_true_eq]at h;exact h.1.1
theorem U6{n:Nat}{p:cx}(h:uw n p=true):p.text.size<=256:=by
 rw[FL,ab,ab,decide_eq_true_eq,decide_eq_true_eq]at h;exact h.1.2
theorem ux{n:Nat}{op:Int}{t:ByteArray}{l:List cx}(ht:t.size<=256)(h:l.length<=n)(hl:∀q∈l,uw n q=true):uw n ⟨op,t,l⟩=true:=by
 rw[FL,ab,ab,decide_eq_true_eq,decide_eq_true_eq,aS];exact⟨⟨h,ht⟩,hl⟩
theorem xS:eT.size<=256:=qL _
theorem sE{n:Nat}{op:Int}:∀{l:List cx},l.length<=n->(∀q∈l,uw n q=true)->uw n (pS op l)=true
 |[p],_,h=>h p (ct.2 rfl)
 |[],h,hl=>ux xS h hl
 |_::_::_,h,hl=>ux xS h hl
theorem MD{n:Nat}(h2:2<=n){s:ByteArray}{p:cx}(j:Nat)(h:uw n p=true):uw n (BA s p j).1=true:=by
 unfold BA;have h4:uw n ⟨4,eT,[p]⟩=true:=ux xS (by simp;omega) (by simpa using h);have h5:uw n ⟨5,eT,[p]⟩=true:=ux xS (by simp;omega) (by simpa using h);have h2:uw n ⟨2,eT,[p,⟨4,eT,[p]⟩]⟩=true:=ux xS (by simpa using h2) (by simp[h,h4]);split
 ·exact h4
 split
 ·exact h2
 split
 ·exact h5
 ·exact h
theorem MB(s:ByteArray)(p:cx)(j:Nat):j<=(BA s p j).2/\(j<=s.size->(BA s p j).2<=s.size):=by
 unfold BA;have hl:∀b,fU s j b=true->j < s.size:=λb h=>by simp only[fU,ab,decide_eq_true_eq]at h;exact h.1
 split
 ·rename_i h;have:=hl _ h;exact⟨by simp,λ_=>this⟩
 split
 ·rename_i h;have:=hl _ h;exact⟨by simp,λ_=>this⟩
 split
 ·rename_i h;have:=hl _ h;exact⟨by simp,λ_=>this⟩
 ·exact⟨aj _,λh=>h⟩
theorem vX(f:Nat->Bool):(TI f).size<=256:=by
 have:=tz f (bE 256);simp only[TI,ot,av,List.length_range]at this ⊢;exact this
theorem ll{s:ByteArray}{i:Nat}{b:Int}(h:fU s i b=true):i < s.size:=by simp only[fU,ab,decide_eq_true_eq]at h;exact h.1
end
section
def hasB(t:ByteArray)(b:Int):Bool:=(bE t.size).any λk=>decide (da t k=b)
def I8(t s:ByteArray)(a:List Bool):List Bool:=false::(bE s.size).map λi=>(nth a i).getD false && hasB t (da s i)
def yl(f:List Bool->List Bool):Nat->List Bool->List Bool
 |0,x=>x
 |n+1,x=>if cF x (f x)=x then x else yl f n (cF x (f x))
def Bt{α β:Type}(l:List α)(a:β)(g:α->β):β:=match l with
 |[k]=>g k
 |_=>a
theorem FJ{α β:Type}{l:List α}{a:β}{g:α->β}(h:l.length≠1):Bt l a g=a:=by
 unfold Bt;split
 ·exact absurd rfl h
 ·rfl
theorem FI{α β:Type}(k:α)(a:β)(g:α->β):Bt [k] a g=g k:=(rfl)
def Hj(f:cx->List Bool->List Bool)(s:ByteArray)(p:cx)(a:List Bool):List Bool:=
 if p.op=1 then I8 p.text s a
 else if p.op=2 then p.kids.foldl (λo k=>f k o) a
 else if p.op=3 then p.kids.foldl (λo k=>cF o (f k a)) (aC (s.size+1) false)
 else if p.op=4 then Bt p.kids a λk=>yl (f k) (s.size+2) a
 else if p.op=5 then Bt p.kids a λk=>cF a (f k a)
 else aC (s.size+1) false
def gE(s:ByteArray):Nat->cx->List Bool->List Bool
 |0,_,a=>a
 |n+1,p,a=>Hj (gE s n) s p a
noncomputable def Kb(p:cx)(s:ByteArray):Bool:=(nth (gE s (ah p+1) p (true::aC s.size false)) s.size).getD false
noncomputable def FC(t s:ByteArray):Bool:=match ye t with
 |some p=>Kb p s
 |none=>false
def lp(t:ByteArray):Bool:=(ye t).isSome
theorem DV{f:List Bool->List Bool}:∀(n:Nat) (x:List Bool),(yl f n x).length=x.length
 |0,x=>rfl
 |n+1,x=>by
  simp only[yl];split
  ·rfl
  ·rw[DV n,iH]
theorem Eb(t s:ByteArray)(a:List Bool):(I8 t s a).length=s.size+1:=by simp[I8]
theorem Nk{f:cx->List Bool->List Bool}{s:ByteArray}{p:cx}{a:List Bool}(hf:∀k∈p.kids,∀b:List Bool,b.length=s.size+1->(f k b).length=s.size+1)(ha:a.length=s.size+1):(Hj f s p a).length=s.size+1:=by
 unfold Hj;have h2:∀(l:List cx) (b:List Bool),(∀k∈l,k∈p.kids)->b.length=s.size+1->(l.foldl (λo k=>f k o) b).length=s.size+1:=by
  intro l
  induction l with
  |nil=>intro b _ h;exact h
  |cons k l ih=>intro b hl h;exact ih _ (λx hx=>hl x (cp _ hx)) (hf k (hl k dQ) b h)
 have h3:∀(l:List cx) (b:List Bool),b.length=s.size+1->(l.foldl (λo k=>cF o (f k a)) b).length=s.size+1:=by
  intro l
  induction l with
  |nil=>intro b h;exact h
  |cons k l ih=>intro b h;exact ih _ (by rw[iH];exact h)
 split
 ·exact Eb _ _ _
 split
 ·exact h2 _ _ (λ_ h=>h) ha
 split
 ·exact h3 _ _ (by simp)
 split
 ·unfold Bt;split
  ·rw[DV];exact ha
  ·exact ha
 split
 ·unfold Bt;split
  ·rw[iH];exact ha
  ·exact ha
 ·simp
theorem pC{s:ByteArray}:∀(n:Nat) (p:cx) (a:List Bool),a.length=s.size+1->(gE s n p a).length=s.size+1
 |0,_,_,h=>h
 |n+1,p,a,h=>Nk (λk _ b hb=>pC n k b hb) h
def outs:List Bool->Nat
 |[]=>0
 |b::l=>(if b then 0 else 1)+outs l
theorem FK:∀(l:List Bool),outs l<=l.length
 |[]=>aj _
 |b::l=>by have:=FK l;cases b<;>simp[outs]<;>omega
theorem tZ:∀(x y:List Bool),outs (cF x y)<=outs x/\(cF x y≠x->outs (cF x y) < outs x)
 |[],y=>by cases y<;>simp[cF,outs]
 |b::x,[]=>by simp[cF,outs]
 |b::x,c::y=>by
  obtain⟨h1,h2⟩:=tZ x y;refine⟨by cases b<;>cases c<;>simp[cF,outs]<;>omega,λh=>?_⟩;cases b<;>cases c<;>simp_all[cF,outs]<;>omega
theorem Db:∀(x y:List Bool),lg x y=!decide (cF x y=x)
 |[],y=>by cases y<;>simp[cF,lg]
 |b::x,[]=>by simp[cF,lg]
 |b::x,c::y=>by
  have:=Db x y;cases b<;>cases c<;>simp_all[cF,lg]
end
section
theorem ko{s:ByteArray}{i:Nat}{b:Int}:fU s i b=true↔i < s.size/\da s i=b:=by simp[fU]
theorem LW{s:ByteArray}{i:Nat}{b:Int}(h:fU s i b=false)(hi:i < s.size):¬da s i=b:=by
 intro h';rw[ko.2 ⟨hi,h'⟩]at h;cases h
theorem pa{s:ByteArray}{i:Nat}{c:Int}(hs:s.size<=mg)(h:fU s i c=true):G 216 [.str s,.int .i64 (i:Int),.bool false,.int .u8 c]=some (0,[.bool true,.str s,.int .i64 ((i+1:Nat):Int),.bool false]):=by
 obtain⟨hi,hb⟩:=ko.1 h;have hw:=wj hi hs;refine cq Vn rfl ?_;simp only[go_sem,t216,hi,hb,eo _ _ hi,hw]
theorem o9{s:ByteArray}{i:Nat}{c:Int}(h:fU s i c=false):G 216 [.str s,.int .i64 (i:Int),.bool false,.int .u8 c]=some (0,[.bool false,.str s,.int .i64 (i:Int),.bool false]):=by
 refine cq Vn rfl ?_;by_cases hi:i < s.size
 ·have hb:=LW h hi;simp only[go_sem,t216,hi,hb,eo _ _ hi]
 ·simp only[go_sem,t216,hi]
theorem FM{s:ByteArray}{i c:Int}:G 216 [.str s,.int .i64 i,.bool true,.int .u8 c]=some (0,[.bool false,.str s,.int .i64 i,.bool true]):=by
 refine cq Vn rfl ?_;simp only[go_sem,t216]
abbrev hB(f:Nat->Bool):D:=.list 1 true ((bE 256).map λx=>[D.bool (f x)])
abbrev bL(f:Nat->Bool)(n:Nat):D:=.list 1 true (((bE n).filter f).map λx:Nat=>[D.int .u8 (x:Int)])
theorem Kg{α:Type}{f:Nat->α}{n x:Nat}(h:x < n):nth ((bE n).map f) x=some (f x):=by
 rw[cV];simp[h]
theorem QD{f:Nat->Bool}{x:Nat}(h:x < 256):aK .lF [hB f,.int .i64 (x:Int)]=some (.bool false):=lV _ _ _ _ (by simpa using h)
theorem XC{f:Nat->Bool}{x:Nat}(h:x < 256):aK (.nN 1 0 1 true) [hB f,.int .i64 (x:Int)]=some (.list 0 false [[.bool (f x)]]):=by
 simp only[aK,cB,Kg h];simp[cQ,D.plain]
theorem XD{f:Nat->Bool}{x:Nat}(h:x < 256):aK (.set 0) [hB f,.int .i64 (x:Int),.bool true]=some (hB λy=>f y ||decide (x=y)):=by
 simp only[aK,cB,Kg h];rw[if_pos ⟨by simp,λ_=>by simp[cQ,D.plain]⟩]
 congr 2
 apply List.ext_getElem (by simp)
 intro i h1 h2;simp only[av,List.length_range]at h2;rw[List.getElem_set];simp only[List.getElem_map,List.getElem_range];by_cases hx:x=i
 ·subst hx;simp[fP]
 ·simp[hx]
theorem T6:aK (.make 1 1 true [zB false]) [.int .i64 256]=some (hB λ_=>false):=by
 have:(bE 256).map (λx:Nat=>[D.bool ((λ_=>false) x)])=aC 256 [D.bool false]:=by
  rw[n4];simp
 simp only[hB,this];rfl
theorem Kp:aK (.eg 1 true) []=some (.list 1 true []):=th 1 true
theorem rU(f:Nat->Bool)(n:Nat):(bE (n+1)).filter f=(bE n).filter f++(if f n=true then [n] else []):=by
 rw[List.range_succ,List.filter_append]
 congr 1
 by_cases h:f n=true<;>simp[h]
theorem Pj{f:Nat->Bool}{n:Nat}(hn:n < 256)(h:f n=true):aK (.app 1 1) [bL f n,.list 1 true [[.int .u8 (n:Int)]]]=some (bL f (n+1)):=by
 have hl:((bE n).filter f).length<=n:=by have:=tz f (bE n);simpa using this
 rw[Ko _ _ _ _ _ (by simp only[av,aE,aQ,room,maxLen];omega)];simp only[bL,rU,h,if_true,dc,aN,dD]
theorem aay{f:Nat->Bool}{n:Nat}(h:f n=false):bL f (n+1)=bL f n:=by
 simp only[bL,rU,h,au,if_false,aD]
theorem xN:∀(l:List Nat),bytesOf (l.map λx:Nat=>[D.int .u8 (x:Int)])=some (l.map λx:Nat=>(x:Int))
 |[]=>rfl
 |x::l=>by simp only[aN,bytesOf,xN l,aB]
theorem Pk{f:Nat->Bool}{n:Nat}:aK .yq [bL f n]=some (.str (bA (((bE n).filter f).map cL))):=by
 simp only[bL,aK,xN,aB,List.map_map,bA];rfl
theorem W_{f:Nat->Bool}{n:Nat}(hn:n<=256)(h:∀x,n<=x->f x=false):bA (((bE n).filter f).map cL)=TI f:=by
 have:∀m,(bE (n+m)).filter f=(bE n).filter f:=by
  intro m
  induction m with
  |zero=>rfl
  |succ m ih=>rw[<- dv,rU,h (n+m) (by omega),ih];simp
 have h2:=this (256 - n);rw[show n+(256 - n)=256 by omega]at h2;rw[TI,h2]
theorem Lj{x:Nat}(h:x < 256):IntKind.u8.wrap (x:Int)=(x:Int):=wrap_u8 (by omega)
theorem B0{x:Nat}(h:x<=mg):IntKind.i64.wrap (x:Int)=(x:Int):=wrap_i64 (by simp only[mg]at h;omega)
theorem mkU(x:Int):aK (.eg 1 true) [.int .u8 x]=some (.list 1 true [[.int .u8 x]]):=qC .u8 x
abbrev Cj(x:Nat):Bool:=decide (32<=x) && decide (x<=126)
theorem n32:((32:Nat):Int)=32:=(rfl)
theorem n127:((127:Nat):Int)=127:=(rfl)
theorem n256:((256:Nat):Int)=256:=(rfl)
theorem bL0(f:Nat->Bool):bL f 0=.list 1 true []:=(rfl)
theorem aga:bL Cj 32=.list 1 true []:=by
 have:(bE 32).filter Cj=[]:=by decide
 simp only[bL,this,dD]
theorem ahr:G 221 []=some (0,[.str M7]):=by
 refine cq adY rfl ?_;have hl:=Ew (b:=lB G AN) (λi=>(0,[.int .i64 ((i:Nat):Int),bL Cj i])) (λi=>if 32<=i then none else some (0,[])) 127 (0,[.int .i64 127,.bool false,bL Cj 127]);have QO:∀m i,i+m=127->32<=i->bR (lB G AN) (0,[.int .i64 ((i:Nat):Int),bL Cj i])=some (0,[.int .i64 127,.bool false,bL Cj 127]):=by
  intro m
  induction m with
  |zero=>
   intro i h _;obtain rfl:i=127:=by omega
   refine bk ?_;simp only[go_sem,bm,AN,n127]
  |succ m ih=>
   intro i h hi;refine (cE ?_).trans (ih (i+1) (by omega) (by omega));have h1:(i:Int) < 127:=by omega
   have h2:=Lj (x:=i) (by omega);have h3:=Pj (f:=Cj) (n:=i) (by omega) (by simp[Cj];omega);have h4:=wj (i:=i) (n:=127) (by omega) (by decide);simp only[go_sem,bm,AN,h1,h2,h3,h4,mkU]
 have Wh:=QO 95 32 rfl (by omega);rw[aga,n32]at Wh;have h5:=Pk (f:=Cj) (n:=127);rw[W_ (by decide) (λx hx=>by simp[Cj];omega)]at h5;simp only[go_sem,t221,Wh,Kp,h5];rfl
theorem L3:Rc=ud:=(rfl)
theorem L4:Rd=ud:=(rfl)
theorem L5:Re=ud:=(rfl)
theorem UC:Rf=wR:=(rfl)
theorem wQ{e op tx s i b:D}{z:Nat}(hz:z < 256):∀(m x:Nat) (f:Nat->Bool),x+m=z+1->
  bR (lB G ud) (0,[e,.int .u8 (z:Int),.int .i64 (x:Int),op,tx,s,i,b,hB f])=some (0,[e,.int .u8 (z:Int),.int .i64 ((z+1:Nat):Int),.bool false,op,tx,s,i,b,hB λy=>f y ||(decide (x<=y) && decide (y<=z))])
 |0,x,f,h=>by
  obtain rfl:x=z+1:=by omega
  have h1:decide (((z+1:Nat):Int)<=(z:Int))=false:=by simp only[decide_eq_false_iff_not];omega
  have h2:=B0 (x:=z) (by simp only[mg];omega);have h3:(λy=>f y ||(decide (z+1<=y) && decide (y<=z)))=f:=by
   funext y
   by_cases h:z+1<=y
   ·have:¬y<=z:=by omega
    simp[h,this]
   ·simp[h]
  rw[h3];refine bk ?_;simp only[go_sem,bm,ud,h1,h2]
 |m+1,x,f,h=>by
  refine (cE ?_).trans ((wQ (e:=e) (op:=op) (tx:=tx) (s:=s) (i:=i) (b:=b) hz m (x+1) (λy=>f y ||decide (x=y)) (by omega)).trans ?_)
  ·have h1:decide ((x:Int)<=(z:Int))=true:=by simp only[decide_eq_true_eq];omega
   have h2:=B0 (x:=z) (by simp only[mg];omega);have h4:=wj (i:=x) (n:=256) (by omega) (by decide);simp only[go_sem,bm,ud,h1,h2,h4,QD (f:=f) (x:=x) (by omega),XD (f:=f) (x:=x) (by omega)]
  ·have he:(λy=>(λy=>f y ||decide (x=y)) y ||(decide (x+1<=y) && decide (y<=z)))=λy=>f y ||(decide (x<=y) && decide (y<=z)):=by
    funext y
    by_cases h1:x=y
    ·subst h1;have:x<=z:=by omega
     simp[this]
    ·by_cases h2:x<=y
     ·have:x+1<=y:=by omega
      simp[h1,h2,this]
     ·have:¬x+1<=y:=by omega
      simp[h1,h2,this]
   rw[he]
theorem Dl{op tx s i b:D}{f:Nat->Bool}:∀(m x:Nat),x+m=256->
  bR (lB G wR) (0,[.int .i64 (x:Int),op,tx,s,i,b,hB f,bL f x])=some (0,[.int .i64 256,.bool false,op,tx,s,i,b,hB f,bL f 256])
 |0,x,h=>by
  obtain rfl:x=256:=by omega
  refine bk ?_;simp only[go_sem,bm,wR,n256,ey]
 |m+1,x,h=>by
  refine (cE ?_).trans (Dl m (x+1) (by omega));have h1:(x:Int) < 256:=by omega
  have h2:=QD (f:=f) (x:=x) (by omega);have h3:=XC (f:=f) (x:=x) (by omega);have h4:=wj (i:=x) (n:=256) (by omega) (by decide);have h5:=Lj (x:=x) (by omega);cases hf:f x with
  |false=>
   rw[aay hf];rw[hf]at h3;simp only[go_sem,bm,wR,h1,h2,h3,h4]
  |true=>
   rw[hf]at h3;simp only[go_sem,bm,wR,h1,h2,h3,h4,h5,mkU,Pj (f:=f) (n:=x) (by omega) hf]
theorem my(a b:Nat):decide ((a:Int)<=(b:Int))=decide (a<=b):=by apply decide_eq_decide.2;omega
theorem uQ(s:ByteArray)(i:Nat):∃a:Nat,a < 256/\da s i=(a:Int):=by
 have:=pY s i;exact⟨(da s i).toNat,by omega,by omega⟩
def ji(e:D)(s:ByteArray)(i:Nat)(f:Nat->Bool):Option (D×D)->Nat×List D
 |none=>(0,[e,.int .i64 0,.str ⟨#[]⟩,.str s,.int .i64 (i:Int),.bool false,hB f])
 |some (u,v)=>(1,[e,u,v,.bool false,.int .i64 0,.str ⟨#[]⟩,.str s,.int .i64 (i:Int),.bool false,hB f])
theorem Ye(f:Nat->Bool)(a:Nat)(l:List (Int×Int)):(λy:Nat=>(f y ||(decide (a<=y) && decide (y<=a))) ||nn l y)=λy=>f y ||nn (((a:Int),(a:Int))::l) y:=by
 funext y
 simp only[nn,kT,fR]
 congr 3<;>simp
theorem Q1(f:Nat->Bool)(a z:Nat)(l:List (Int×Int)):(λy:Nat=>(f y ||(decide (a<=y) && decide (y<=z))) ||nn l y)=λy=>f y ||nn (((a:Int),(z:Int))::l) y:=by
 funext y
 simp only[nn,kT,fR]
 congr 3<;>simp
def Vl(e:D)(s:ByteArray)(i:Nat)(f:Nat->Bool)(r:Option (List (Int×Int)×Nat))(o:Nat×List D):Prop:=match r with
 |some (l,k)=>i+1+l.length<=k/\k<=s.size/\o=(1,[e,.bool false,.int .i64 0,.str ⟨#[]⟩,.str s,.int .i64 (k:Int),.bool false,hB λy=>f y ||nn l y])
 |none=>∃k:Nat,i<=k/\k<=s.size/\o=(0,[.int .i64 0,.str ⟨#[]⟩,.str s,.int .i64 (k:Int),.bool true])
theorem NT{e:D}{s:ByteArray}(hs:s.size<=mg):∀(g i:Nat) (f:Nat->Bool) (q:Option (D×D)),i<=s.size->s.size+1 - i<=g->
  ∃o,bR (lB G gg) (ji e s i f q)=some o/\Vl e s i f (gp s g i) o:=by
 intro g
 induction g with
 |zero=>intro i f q h1 h2;omega
 |succ g ih=>
  intro i f q hi hg;have nx:∀(j:Nat) (f':Nat->Bool) (u v:D) (rs:Int×Int),i < j->j<=s.size->(∀l,(λy=>f' y ||nn l y)=λy=>f y ||nn (rs::l) y)->lB G gg (ji e s i f q)=some (.go (ji e s j f' (some (u,v))))->o8 s i=some (rs,j)->fU s i 93=false->
    ∃o,bR (lB G gg) (ji e s i f q)=some o/\Vl e s i f (gp s (g+1) i) o:=by
   intro j f' u v rs hij hj hf nA hm kj;obtain⟨o,h1,h2⟩:=ih j f' (some (u,v)) hj (by omega);refine⟨o,(cE nA).trans h1,?_⟩;have hp:gp s (g+1) i=(gp s g j).map λp=>(rs::p.1,p.2):=by simp only[gp,kj,au,if_false,hm]
   rw[hp];cases hr:gp s g j with
   |none=>
    rw[hr]at h2;obtain⟨k,k1,k2,k3⟩:=h2;exact⟨k,by omega,k2,k3⟩
   |some p=>
    obtain⟨l,k⟩:=p;rw[hr]at h2;obtain⟨k1,k2,k3⟩:=h2;rw[hf]at k3;exact⟨by show i+1+(rs::l).length<=k;rw[aE];omega,k2,k3⟩
  have bd:∀(k:Nat),i<=k->k<=s.size->fU s i 93=false->o8 s i=none->lB G gg (ji e s i f q)=some (.out (0,[.int .i64 0,.str ⟨#[]⟩,.str s,.int .i64 (k:Int),.bool true]))->
    ∃o,bR (lB G gg) (ji e s i f q)=some o/\Vl e s i f (gp s (g+1) i) o:=by
   intro k k1 k2 kj hm ho;refine⟨_,bk ho,?_⟩;have hp:gp s (g+1) i=none:=by simp only[gp,kj,au,if_false,hm]
   rw[hp];exact⟨k,k1,k2,rfl⟩
  cases kj:fU s i 93 with
  |true=>
   obtain⟨hl,_⟩:=ko.1 kj;have rW:=pa hs kj;refine⟨(1,[e,.bool false,.int .i64 0,.str ⟨#[]⟩,.str s,.int .i64 ((i+1:Nat):Int),.bool false,hB f]),?_,?_⟩
   ·refine bk ?_;cases q with
    |none=>simp only[go_sem,bm,ji,gg,rW]
    |some p=>simp only[go_sem,bm,ji,gg,rW]
   ·have hp:gp s (g+1) i=some ([],i+1):=by simp only[gp,kj,if_true]
    rw[hp];have he:(λy=>f y ||nn [] y)=f:=by funext y;simp[nn]
    refine⟨by simp,by omega,?_⟩;rw[he]
  |false=>
   have rW:=o9 kj;by_cases hl:i < s.size
   ·obtain⟨a,ha,Tq⟩:=uQ s i;have vf:=acR (b:=da s i) (pY s i);have hx:=eo s i hl;have hw:=wj hl hs;have yx:¬s.size<=i:=by omega
    cases hc:Jy (da s i) with
    |false=>
     refine bd i (aj _) hi kj (by simp only[o8,hc,iU,au,if_false]) ?_;rw[hc]at vf;cases q with
     |none=>simp only[go_sem,bm,ji,gg,rW,my,yx,hx,vf]
     |some p=>simp only[go_sem,bm,ji,gg,rW,my,yx,hx,vf]
    |true=>
     rw[hc]at vf;cases ht:fU s (i+1) 126 with
     |false=>
      have h2:=o9 ht;have l0:=wQ (e:=e) (op:=.int .i64 0) (tx:=.str ⟨#[]⟩) (s:=.str s) (i:=.int .i64 ((i+1:Nat):Int)) (b:=.bool false) ha 1 a f rfl;rw[<- Tq]at l0;refine nx (i+1) _ (.int .u8 (da s i)) (.int .i64 ((a+1:Nat):Int)) (da s i,da s i) (by omega) (by omega) (λl=>by rw[Tq];exact Ye f a l) ?_ (by simp only[o8,hl,hc,ht,decide_true,iL,if_true,au,if_false]) kj;cases q with
      |none=>simp only[go_sem,bm,ji,gg,L3,rW,my,yx,hx,vf,hw,h2,l0]
      |some p=>simp only[go_sem,bm,ji,gg,L4,L5,rW,my,yx,hx,vf,hw,h2,l0]
     |true=>
      have h2:=pa hs ht;obtain⟨QO,_⟩:=ko.1 ht;have XF:∀(k:Nat),k=i+2->o8 s i=none->lB G gg (ji e s i f q)=some (.out (0,[.int .i64 0,.str ⟨#[]⟩,.str s,.int .i64 (k:Int),.bool true]))->∃o,bR (lB G gg) (ji e s i f q)=some o/\Vl e s i f (gp s (g+1) i) o:=λk hk hm ho=>bd k (by omega) (by omega) kj hm ho;by_cases Wh:i+1+1 < s.size
      ·have hx3:=eo s (i+1+1) Wh;have xU:=acR (b:=da s (i+1+1)) (pY s (i+1+1));have hw3:=wj Wh hs;have ED:¬s.size<=i+1+1:=by omega
       cases Cq:Jy (da s (i+1+1)) with
       |false=>
        rw[Cq]at xU;refine XF (i+1+1) rfl (by simp only[o8,hl,hc,ht,Cq,decide_true,iL,if_true,df,iU,au,if_false]) ?_;cases q with
        |none=>simp only[go_sem,bm,ji,gg,rW,my,yx,hx,vf,hw,h2,ED,hx3,xU]
        |some p=>simp only[go_sem,bm,ji,gg,rW,my,yx,hx,vf,hw,h2,ED,hx3,xU]
       |true=>
        rw[Cq]at xU;by_cases ic:da s (i+1+1) < da s i
        ·have hle:¬da s i<=da s (i+1+1):=by omega
         refine XF (i+1+1) rfl (by simp only[o8,hl,hc,ht,Cq,hle,decide_true,decide_false,iL,if_true,iU,au,if_false]) ?_;cases q with
         |none=>simp only[go_sem,bm,ji,gg,rW,my,yx,hx,vf,hw,h2,ED,hx3,xU,ic]
         |some p=>simp only[go_sem,bm,ji,gg,rW,my,yx,hx,vf,hw,h2,ED,hx3,xU,ic]
        ·have hle:da s i<=da s (i+1+1):=by omega
         obtain⟨z,hz,QI⟩:=uQ s (i+1+1);have l0:=wQ (e:=e) (op:=.int .i64 0) (tx:=.str ⟨#[]⟩) (s:=.str s) (i:=.int .i64 ((i+1+1+1:Nat):Int)) (b:=.bool false) hz (z+1 - a) a f (by omega);have wa:=B0 (x:=a) (by simp only[mg];omega);rw[<- QI,<- Tq]at l0;refine nx (i+1+1+1) _ (.int .u8 (da s (i+1+1))) (.int .i64 ((z+1:Nat):Int)) (da s i,da s (i+1+1)) (by omega) (by omega) (λl=>by rw[Tq,QI];exact Q1 f a z l) ?_ (by simp only[o8,hl,hc,ht,Cq,Wh,hle,decide_true,iL,if_true]) kj;cases q with
         |none=>simp only[go_sem,bm,ji,gg,L3,rW,my,yx,hx,vf,hw,h2,ED,hx3,xU,hw3,ic,l0]
         |some p=>simp only[go_sem,bm,ji,gg,L4,L5,rW,my,yx,hx,vf,hw,h2,ED,hx3,xU,hw3,ic,l0]
      ·have ED:s.size<=i+1+1:=by omega
       refine XF (i+1+1) rfl (by
        have:¬i+2 < s.size:=Wh;simp only[o8,hl,hc,ht,this,decide_true,decide_false,iL,if_true,df,au,if_false]) ?_
       cases q with
       |none=>simp only[go_sem,bm,ji,gg,rW,my,yx,hx,vf,hw,h2,ED]
       |some p=>simp only[go_sem,bm,ji,gg,rW,my,yx,hx,vf,hw,h2,ED]
   ·have yx:s.size<=i:=by omega
    refine bd i (aj _) hi kj (by simp only[o8,hl,decide_false,df,au,if_false]) ?_;cases q with
    |none=>simp only[go_sem,bm,ji,gg,rW,my,yx]
    |some p=>simp only[go_sem,bm,ji,gg,rW,my,yx]
def PA(s:ByteArray)(i c:Nat)(r:PR)(p:cx)(k:Nat)(b:Bool):Prop:=uw 64 p=true/\i<=k/\k<=s.size/\match r with
 |some q=>b=false/\q=(p,k)/\i+c<=k
 |none=>b=true
theorem jf(op:Int)(t:ByteArray)(h:t.size<=256):uw 64 ⟨op,t,[]⟩=true:=ux h (by simp) (by simp)
theorem Oq{s:ByteArray}{g i k:Nat}(h:gp s g i=some ([],k)):k=i+1:=by
 cases g with
 |zero=>cases h
 |succ g=>
  simp only[gp]at h
  split at h
  ·cases h;rfl
  ·split at h
   ·obtain⟨p,_,h⟩:=ad.1 h;simp at h
   ·cases h
theorem ahq{s:ByteArray}{i:Nat}(hs:s.size<=mg)(hi:i<=s.size):∃p k b,G 220 [.str s,.int .i64 (i:Int),.bool false]=some (0,gB p++[.str s,.int .i64 (k:Int),.bool b])/\PA s i 0 (Iz s i) p k b:=by
 obtain⟨o,h1,h2⟩:=NT (e:=.int .i64 (i:Int)) hs (s.size+1) i (λ_=>false) none (by omega) (by omega);have hm:=T6;simp only[ji]at h1;cases hr:gp s (s.size+1) i with
 |none=>
  rw[hr]at h2;obtain⟨k,k1,k2,rfl⟩:=h2;refine⟨⟨0,eT,[]⟩,k,true,cq Vo rfl ?_,jf _ _ xS,k1,k2,by rw[Iz,hr]⟩;simp only[go_sem,t220,hm,h1,aF];rfl
 |some q=>
  obtain⟨l,k⟩:=q;rw[hr]at h2;obtain⟨k1,k2,rfl⟩:=h2;have hf:(λy:Nat=>(λ_=>false) y ||nn l y)=nn l:=by funext y;simp
  rw[hf]at h1;have hw:IntKind.i64.wrap ((i:Int)+1)=((i+1:Nat):Int):=by rw[wrap_i64 (by simp only[mg]at hs;omega)];omega
  have l5:=λtx ii b=>Dl (op:=.int .i64 0) (tx:=tx) (s:=.str s) (i:=ii) (b:=b) (f:=nn l) 256 0 rfl;simp only[bL0,n0]at l5;have h5:=Pk (f:=nn l) (n:=256);cases l with
  |nil=>
   have hk:=Oq hr;subst hk;refine⟨⟨1,TI (nn []),[]⟩,i+1,true,cq Vo rfl ?_,jf _ _ (vX _),by omega,k2,by rw[Iz,hr]⟩;simp only[go_sem,t220,hm,h1,hw,Kp,l5,h5,aF];rfl
  |cons r l=>
   have hk:¬(k:Int)=((i+1:Nat):Int):=by rw[aE]at k1;omega
   refine⟨⟨1,TI (nn (r::l)),[]⟩,k,false,cq Vo rfl ?_,jf _ _ (vX _),by omega,k2,by rw[Iz,hr];exact⟨rfl,rfl,by omega⟩⟩;simp only[go_sem,t220,hm,h1,hw,hk,Kp,l5,UC,h5,aF];rfl
end
section
theorem Hz {σ ρ : Type} {b : σ -> Option (Sg σ ρ)} (mk : Nat -> σ) (n : Nat) {fin : ρ} (nA : ∀ i, i < n -> b (mk i) = some (.go (mk (i + 1)))) (fy : b (mk n) = some (.out fin)) : bR b (mk 0) = some fin := by
  have h : ∀ m i, i + m = n -> bR b (mk i) = some fin := by
    intro m
    induction m with
    | zero => intro i h; obtain rfl : i = n := by omega
              exact bk fy
    | succ m ih => intro i h; rw [cE (nA i (by omega))]; exact ih (i + 1) (by omega)
  exact h n 0 (by omega)
theorem Lh{l:List Bool}{i:Nat}{b:Bool}(h:nth l i=some b):aK (.el 1) [aV l,.int .i64 (i:Int)]=some (.list 0 false [[.bool b]]):=by
 rw[BC,aH,h];rfl
theorem p9{l:List Bool}{i:Nat}(h:i < l.length):aK .lF [aV l,.int .i64 (i:Int)]=some (.bool false):=lV _ _ _ _ (by simpa using h)
theorem zG{l:List Bool}{i:Nat}{b:Bool}(h:nth l i=some b):aK (.nN 1 0 1 true) [aV l,.int .i64 (i:Int)]=some (.list 0 false [[.bool b]]):=by
 simp only[aK,cB,aH,h,aB];simp[xR,cQ,D.plain]
theorem zH{l:List Bool}{i:Nat}{c:Bool}(h:i < l.length):aK (.set 0) [aV l,.int .i64 (i:Int),.bool c]=some (aV (l.set i c)):=by
 have h1:nth l i=some l[i]:=dF h;simp only[aK,cB,aH,h1,aB];rw[if_pos ⟨by simp,λ_=>by simp[cQ,D.plain]⟩];simp only[aV,List.map_set];rfl
theorem uT{n:Nat}(h:n<=2097152):aK (.make 1 1 true [zB false]) [.int .i64 (n:Int)]=some (aV (aC n false)):=by
 simp only[aK,cB];rw[if_pos ⟨by omega,by simp only[room];omega,by omega⟩];simp[aV,xR,SK.d]
theorem Pu{l m:List Bool}(h:m.length=l.length):aK .xP [aV l,aV m]=some (aV m):=by
 simp only[aK,av,h,and_self,if_true]
def jt(J:List Bool)(i:Nat):List Bool:=J.take i++aC (J.length - i) false
theorem Xt(J:List Bool):jt J 0=aC J.length false:=by simp[jt]
theorem JO(J:List Bool):jt J J.length=J:=by simp[jt]
theorem vb(J:List Bool)(i:Nat)(h:i<=J.length):(jt J i).length=J.length:=by simp[jt];omega
theorem Af(J:List Bool)(i j:Nat)(h:i<=J.length):(jt J i)[j]?=if j < i then J[j]? else if j < J.length then some false else none:=by
 unfold jt;rw[uH];have h1:(J.take i).length=i:=by rw[aY];omega
 rw[h1];split
 ·rw[List.getElem?_take_of_lt (by assumption)]
 ·rw[List.getElem?_replicate];by_cases hj:j < J.length
  ·rw[if_pos (by omega),if_pos hj]
  ·rw[if_neg (by omega),if_neg hj]
theorem wz{J:List Bool}{i:Nat}{b:Bool}(h:nth J i=some b):(jt J i).set i b=jt J (i+1):=by
 have hi:i < J.length:=aR h;rw[cV]at h
 apply ed
 intro j;rw[iu,Af _ _ _ (by omega),Af _ _ _ (by omega),vb _ _ (by omega)];by_cases hj:i=j
 ·subst hj;rw[if_pos rfl,if_pos hi,if_pos (by omega),h]
 ·rw[if_neg hj];by_cases h1:j < i
  ·rw[if_pos h1,if_pos (by omega)]
  ·rw[if_neg h1,if_neg (show ¬j < i+1 by omega)]
theorem DE:∀{a b:List Bool} {i:Nat} {x y:Bool},nth a i=some x->nth b i=some y->nth (cF a b) i=some (x ||y)
 |_::_,_::_,0,_,_,h1,h2=>by cases h1;cases h2;rfl
 |a::x,b::y,i+1,_,_,h1,h2=>DE (a:=x) (b:=y) h1 h2
theorem Cv{n:Nat}(h:n<=mg):IntKind.i64.wrap ((n:Int)+1)=((n+1:Nat):Int):=by rw[wrap_i64 (by simp only[mg]at h;omega)];omega
theorem Y5{a b:List Bool}(ha:a.length<=mg+1)(hb:b.length=a.length):G 233 [aV a,aV b]=some (0,[aV (cF a b)]):=by
 have hJ:=iH a b;have hm:=uT (n:=a.length) (by simp only[mg]at ha;omega);have hl:=Hz (b:=lB G EY) (λi=>(0,[aV a,aV b,.int .i64 (i:Int),aV (jt (cF a b) i)])) a.length (fin:=(0,[aV a,aV b,.int .i64 a.length,.bool false,aV (jt (cF a b) a.length)])) (by
  intro i hi;have hw:IntKind.i64.wrap ((i:Int)+1)=((i+1:Nat):Int):=Cv (by omega);have h1:nth a i=some a[i]:=dF hi;have h2:nth b i=some (b[i]'(by omega)):=dF (by omega);have h3:=DE h1 h2;have e1:=Lh h1;have e2:=Lh h2;have e3:=p9 (l:=jt (cF a b) i) (i:=i) (by rw[vb _ _ (by omega)];omega);have e4:=λc=>zH (l:=jt (cF a b) i) (i:=i) (c:=c) (by rw[vb _ _ (by omega)];omega);have e5:=wz h3;generalize a[i]=x at *;generalize (b[i]'(by omega))=y at *;cases x<;>cases y<;>simp only[jo,iM]at e5<;>simp only[go_sem,bm,EY,hi,hw,e1,e2,e3,e4,e5]) (by
  simp only[go_sem,bm,EY,aq])
 rw[n0,Xt,hJ,<- hJ,JO,hJ]at hl;refine cq ad6 rfl ?_;simp only[go_sem,t233,hm,hl]
theorem rG(p:Nat->Bool)(k:Nat):(bE (k+1)).any p=((bE k).any p ||p k):=by
 rw[List.range_succ,List.any_append];simp
theorem Mu{t s:ByteArray}{a:List Bool}{i:Nat}{x:Bool}(hi:i < s.size)(h:nth a i=some x):nth (I8 t s a) (i+1)=some (x && hasB t (da s i)):=by
 have:=Kg (f:=λi=>(nth a i).getD false && hasB t (da s i)) hi;rw[h]at this;exact this
theorem Kh{l:List Bool}{i:Nat}{c:Bool}(h:i < l.length):nth (l.set i c) i=some c:=by
 rw[cV,iu];simp[h]
theorem NX{s t:ByteArray}{a o:List Bool}{op ks:D}{i:Nat}{x:Bool}(hs:s.size<=mg)(ht:t.size<=mg)(hi:i < s.size)(ha:nth a i=some x)(ho:nth o (i+1)=some false) :
  ∃z:Int,bR (lB G ue) (0,[.str s,aV a,.int .i64 (i:Int),.int .i64 0,op,.str t,ks,aV o])=some (0,[.str s,aV a,.int .i64 (i:Int),.int .i64 z,.bool false,op,.str t,ks,aV (o.set (i+1) (x && hasB t (da s i)))]):=by
 have e1:=Lh ha;have hol:=aR ho;have hw:IntKind.i64.wrap ((i:Int)+1)=((i+1:Nat):Int):=Cv (by omega);cases x with
 |false=>
  have h0:o.set (i+1) (false && hasB t (da s i))=o:=by
   apply ed
   intro j;rw[iu];rw[cV]at ho;by_cases hj:i+1=j
   ·subst hj;rw[if_pos rfl,if_pos hol,ho];rfl
   ·rw[if_neg hj]
  rw[h0];refine⟨0,bk ?_⟩;by_cases h1:(0:Int) < (t.size:Int)
  ·simp only[go_sem,bm,ue,h1,e1]
  ·simp only[go_sem,bm,ue,h1]
 |true=>
  refine⟨t.size,?_⟩;have hl:=Hz (b:=lB G ue) (λk=>(0,[.str s,aV a,.int .i64 (i:Int),.int .i64 (k:Int),op,.str t,ks,aV (o.set (i+1) ((bE k).any λk=>decide (da t k=da s i)))])) t.size (fin:=(0,[.str s,aV a,.int .i64 (i:Int),.int .i64 t.size,.bool false,op,.str t,ks,aV (o.set (i+1) (hasB t (da s i)))])) (by
   intro k hk;have hwk:IntKind.i64.wrap ((k:Int)+1)=((k+1:Nat):Int):=Cv (by omega);rw[rG];generalize (bE k).any (λk=>decide (da t k=da s i))=q;have sS:i+1 < (o.set (i+1) q).length:=by rw[List.length_set];exact hol
   have e2:=p9 sS;have e3:=zG (Kh (l:=o) (i:=i+1) (c:=q) hol);have e4:=λc=>zH (l:=o.set (i+1) q) (i:=i+1) (c:=c) sS;have e5:=eo t k hk;have e6:=eo s i hi;have e7:∀c,(o.set (i+1) q).set (i+1) c=o.set (i+1) c:=λc=>List.set_set ..;simp only[e7]at e4;cases q<;>simp only[go_sem,bm,ue,hk,hw,hwk,e1,e2,e3,e4,e5,e6]) (by
   have:hasB t (da s i)=(bE t.size).any λk=>decide (da t k=da s i):=rfl;rw[this];simp only[go_sem,bm,ue,aq])
  have h0:o.set (i+1) ((bE 0).any λk=>decide (da t k=da s i))=o:=by
   apply ed
   intro j;rw[iu];rw[cV]at ho;by_cases hj:i+1=j
   ·subst hj;rw[if_pos rfl,if_pos hol,ho];rfl
   ·rw[if_neg hj]
  rw[h0,n0]at hl;rw[bU];exact hl
theorem RF{J:List Bool}{i j:Nat}(hi:i<=j)(hj:j < J.length):nth (jt J i) j=some false:=by
 rw[cV,Af _ _ _ (by omega),if_neg (by omega),if_pos hj]
theorem NY{s t:ByteArray}{a:List Bool}{op ks:D}(hs:s.size<=mg)(ht:t.size<=mg)(ha:a.length=s.size+1) :
  bR (lB G AQ) (0,[.str s,aV a,.int .i64 0,op,.str t,ks,aV (aC (s.size+1) false)])=some (0,[.str s,aV a,.int .i64 s.size,.bool false,op,.str t,ks,aV (I8 t s a)]):=by
 have hJ:=Eb t s a;have hl:=Hz (b:=lB G AQ) (λi=>(0,[.str s,aV a,.int .i64 (i:Int),op,.str t,ks,aV (jt (I8 t s a) (i+1))])) s.size (fin:=(0,[.str s,aV a,.int .i64 s.size,.bool false,op,.str t,ks,aV (jt (I8 t s a) (s.size+1))])) (by
  intro i hi;have hw:IntKind.i64.wrap ((i:Int)+1)=((i+1:Nat):Int):=Cv (by omega);have h1:nth a i=some (a[i]'(by omega)):=dF (by omega);have h3:=Mu (t:=t) hi h1;obtain⟨z,hz⟩:=NX (op:=op) (ks:=ks) hs ht hi h1 (RF (J:=I8 t s a) (i:=i+1) (j:=i+1) (aj _) (by omega));rw[wz h3]at hz;simp only[go_sem,bm,AQ,hi,hw,hz]) (by
  simp only[go_sem,bm,AQ,aq])
 have h0:jt (I8 t s a) (0+1)=aC (s.size+1) false:=by
  rw[jt,hJ];simp[I8,fp]
 rw[h0,n0]at hl;rw[hl]
 congr 9
 rw[<- hJ,JO]
theorem L6:Rg=uf:=(rfl)
theorem L7:Rh=uf:=(rfl)
def WI(x y:List Bool):Bool:=!decide (x=y)
theorem Pc:∀{x y:List Bool},x.length=y.length->(bE x.length).any (λj=>!decide (nth x j=nth y j))=WI x y
 |[],[],_=>rfl
 |a::x,b::y,h=>by
  have ih:=Pc (x:=x) (y:=y) (by simpa using h);rw[aE,List.range_succ_eq_map,kT,List.any_map];have e1:((λj=>!decide (nth (a::x) j=nth (b::y) j)) ∘ Nat.succ)=λj=>!decide (nth x j=nth y j):=rfl;rw[e1,ih];simp only[WI,bq];have e2:nth (a::x) 0=some a:=rfl;have e3:nth (b::y) 0=some b:=rfl;rw[e2,e3];by_cases h1:a=b<;>by_cases h2:x=y<;>simp[h1,h2]
theorem Dm{s op tx ks:D}{o x:List Bool}(ho:o.length<=mg+1)(hx:x.length=o.length) :
  bR (lB G uf) (0,[s,.bool false,.int .i64 0,op,tx,ks,aV o,aV x])=some (0,[s,.bool (WI x o),.int .i64 o.length,.bool false,op,tx,ks,aV o,aV x]):=by
 rw[<- Pc hx];have hl:=Hz (b:=lB G uf) (λi=>(0,[s,.bool ((bE i).any λj=>!decide (nth x j=nth o j)),.int .i64 (i:Int),op,tx,ks,aV o,aV x])) o.length (fin:=(0,[s,.bool ((bE o.length).any λj=>!decide (nth x j=nth o j)),.int .i64 o.length,.bool false,op,tx,ks,aV o,aV x])) (by
  intro i hi;have hw:IntKind.i64.wrap ((i:Int)+1)=((i+1:Nat):Int):=Cv (by omega);have h1:nth o i=some o[i]:=dF hi;have h2:nth x i=some (x[i]'(by omega)):=dF (by omega);rw[rG,h1,h2];generalize (bE i).any (λj=>!decide (nth x j=nth o j))=q;have e1:=zG h1;have e2:=zG h2;have e3:=p9 hi;have e4:=p9 (l:=x) (i:=i) (by omega);generalize o[i]=c at *;generalize (x[i]'(by omega))=d at *;cases q<;>cases c<;>cases d<;>simp only[go_sem,bm,uf,hi,hw,e1,e2,e3,e4,aa]) (by
  simp only[go_sem,bm,uf,aq])
 rw[n0]at hl;rw[hx];exact hl
theorem Hf(p:cx):(gB p).length=3:=by rw[aF];rfl
theorem oH(p:cx)(k:Nat)(fl:Bool):aK (.has 3) [.list k fl [gB p]]=some (.bool false):=by
 rw[BD,Hf,if_pos (aj 3)]
theorem Hg{l:List cx}{i:Nat}{p:cx}(h:nth l i=some p):aK (.el 3) [bJ l,.int .i64 (i:Int)]=some (.list 0 false [gB p]):=by
 rw[BC,aH,h];rfl
theorem tD{k:cx}:aK (.el 3) [bJ [k],.int .i64 0]=some (.list 0 false [gB k]):=Hg (l:=[k]) (i:=0) rfl
def BN(h:Option D)(s:ByteArray)(op:Int)(t:ByteArray)(k:cx)(x:List Bool):Nat×List D:=match h with
 |none=>(0,[.str s,.int .i64 op,.str t,bJ [k],aV x])
 |some z=>(1,[.str s,z,.int .i64 op,.str t,bJ [k],aV x])
section
variable {s:ByteArray} {k:cx} {f:List Bool->List Bool} (hs:s.size<=mg) (hf:∀x:List Bool,x.length=s.size+1->(f x).length=s.size+1)
 (ih:∀x:List Bool,x.length=s.size+1->G 234 (gB k++[.str s,aV x])=some (0,[aV (f x)]))
include hs hf ih
theorem N0{t:ByteArray}:∀(m:Nat) (x:List Bool) (h:Option D),outs x < m->x.length=s.size+1->
  bR (lB G rZ) (BN h s 4 t k x)=some (0,[.str s,.bool true,.int .i64 4,.str t,bJ [k],aV (yl f m x)]):=by
 intro m
 induction m with
 |zero=>intro x h h1;omega
 |succ m im=>
  intro x h h1 hx;have e1:=ih x hx;rw[aF]at e1;simp only[ai,ak]at e1;have e2:=Y5 (a:=x) (b:=f x) (by rw[hx];omega) (by rw[hf x hx,hx]);have hj:=iH x (f x);have e3:=Dm (s:=.str s) (op:=.int .i64 4) (tx:=.str t) (ks:=bJ [k]) (o:=x) (x:=cF x (f x)) (by rw[hx];omega) hj;simp only[yl];by_cases hc:cF x (f x)=x
  ·rw[if_pos hc];have hn:WI (cF x (f x)) x=false:=by simp[WI,hc]
   rw[hn,hc]at e3;rw[hc]at e2;refine bk ?_;cases h with
   |none=>simp only[go_sem,bm,BN,rZ,L6,tD,aF k,e1,e2,e3]
   |some z=>simp only[go_sem,bm,BN,rZ,L7,tD,aF k,e1,e2,e3]
  ·rw[if_neg hc];have hn:WI (cF x (f x)) x=true:=by simp[WI,hc]
   rw[hn]at e3;refine (cE (s':=BN (some (.bool false)) s 4 t k (cF x (f x))) ?_).trans (im _ (some (.bool false)) (by have:=(tZ x (f x)).2 hc;omega) (by rw[hj];exact hx));cases h with
   |none=>simp only[go_sem,bm,BN,rZ,L6,tD,aF k,e1,e2,e3]
   |some z=>simp only[go_sem,bm,BN,rZ,L7,tD,aF k,e1,e2,e3]
theorem NZ{t:ByteArray}{x:List Bool}(hx:x.length=s.size+1) :
  bR (lB G AS) (0,[.str s,.int .i64 5,.str t,bJ [k],aV x])=some (0,[.str s,.bool true,.int .i64 5,.str t,bJ [k],aV (cF x (f x))]):=by
 have e1:=ih x hx;rw[aF]at e1;simp only[ai,ak]at e1;have e2:=Y5 (a:=x) (b:=f x) (by rw[hx];omega) (by rw[hf x hx,hx]);have hj:=iH x (f x);have e3:=Dm (s:=.str s) (op:=.int .i64 5) (tx:=.str t) (ks:=bJ [k]) (o:=x) (x:=cF x (f x)) (by rw[hx];omega) hj;refine bk ?_;cases hn:WI (cF x (f x)) x<;>rw[hn]at e3<;>simp only[go_sem,bm,AS,tD,aF k,e1,e2,e3]
end
theorem tT{α β:Type}(g:β->α->β)(b:β)(l:List α)(i:Nat)(x:α)(h:nth l i=some x):(l.take (i+1)).foldl g b=g ((l.take i).foldl g b) x:=by
 rw[cu l i x h,List.foldl_append];rfl
theorem Hx{s:ByteArray}{f:cx->List Bool->List Bool}(hf:∀(k:cx) (x:List Bool),x.length=s.size+1->(f k x).length=s.size+1):∀(l:List cx) (b:List Bool),b.length=s.size+1->(l.foldl (λo k=>f k o) b).length=s.size+1
 |[],_,h=>h
 |k::l,b,h=>Hx hf l _ (hf k b h)
theorem wD{s:ByteArray}{g:cx->List Bool}:∀(l:List cx) (b:List Bool),b.length=s.size+1->(l.foldl (λo k=>cF o (g k)) b).length=s.size+1
 |[],_,h=>h
 |k::l,b,h=>wD l _ (by rw[iH];exact h)
theorem UZ{α:Type}{l:List α}(h:l.length≠1):¬(l.length:Int)=1:=by omega
theorem Y6{s:ByteArray}(hs:s.size<=mg)(n:Nat):∀(p:cx) (a:List Bool),ah p < n->uw 64 p=true->a.length=s.size+1->G 234 (gB p++[.str s,aV a])=some (0,[aV (gE s n p a)]):=by
 induction n with
 |zero=>intro p a h;omega
 |succ n ih=>
  intro p a hz hp ha;have hlen:=pC (s:=s) n;have hk:∀k∈p.kids,∀x:List Bool,x.length=s.size+1->G 234 (gB k++[.str s,aV x])=some (0,[aV (gE s n k x)]):=λk hk x hx=>ih k x (by have:=cx.J7 hk;omega) (zk hp hk) hx;have hw:=Cv hs;have hm:=uT (n:=s.size+1) (by simp only[mg]at hs;omega);have xX:=zm hp;have hc:=Pu (l:=aC (s.size+1) false) (m:=a) (by simpa using ha);have htx:=U6 hp;refine cq ad7 (by rw[aF];rfl) ?_;simp only[gE];unfold Hj;by_cases o1:p.op=1
  ·have hl:=NY (s:=s) (t:=p.text) (a:=a) (op:=.int .i64 1) (ks:=bJ p.kids) hs (by simp only[mg];omega) ha;rw[if_pos o1];simp only[go_sem,hw,hm,t234,aF p,o1,hl]
  rw[if_neg o1];by_cases o2:p.op=2
  ·rw[if_pos o2];have hl:=eB (b:=lB G EZ) p.kids (λi (x:List Bool)=>(0,[.str s,.int .i64 (i:Int),.int .i64 2,.str p.text,bJ p.kids,aV x])) (λi=>(p.kids.take i).foldl (λo k=>gE s n k o) a) (0,[.str s,.int .i64 p.kids.length,.bool false,.int .i64 2,.str p.text,bJ p.kids,aV (p.kids.foldl (λo k=>gE s n k o) a)]) (by
    intro i k hn;have hi:=aR hn;have hwi:=wj (i:=i) (n:=p.kids.length) hi (by simp only[mg];omega);have e1:=hk k (aT hn) _ (Hx (f:=gE s n) hlen (p.kids.take i) a ha);rw[aF]at e1;simp only[ai,ak]at e1;rw[tT _ _ _ _ _ hn];simp only[go_sem,bm,EZ,hi,Hg hn,oH];simp only[go_sem,aF k,e1,hwi]) (by
    rw[aW];simp only[go_sem,bm,EZ,aq]) p.kids.length 0 (by omega)
   rw[n0,bg,uG]at hl;simp only[go_sem,hw,hm,hc,t234,aF p,o2,hl]
  rw[if_neg o2];by_cases o3:p.op=3
  ·rw[if_pos o3];have hl:=eB (b:=lB G E0) p.kids (λi (x:List Bool)=>(0,[.str s,aV a,.int .i64 (i:Int),.int .i64 3,.str p.text,bJ p.kids,aV x])) (λi=>(p.kids.take i).foldl (λo k=>cF o (gE s n k a)) (aC (s.size+1) false)) (0,[.str s,aV a,.int .i64 p.kids.length,.bool false,.int .i64 3,.str p.text,bJ p.kids,aV (p.kids.foldl (λo k=>cF o (gE s n k a)) (aC (s.size+1) false))]) (by
    intro i k hn;have hi:=aR hn;have hwi:=wj (i:=i) (n:=p.kids.length) hi (by simp only[mg];omega);have e1:=hk k (aT hn) a ha;have sR:=wD (s:=s) (g:=λk=>gE s n k a) (p.kids.take i) (aC (s.size+1) false) (by simp);have e2:=Y5 (a:=(p.kids.take i).foldl (λo k=>cF o (gE s n k a)) (aC (s.size+1) false)) (b:=gE s n k a) (by rw[sR];omega) (by rw[hlen k a ha,sR]);rw[aF]at e1;simp only[ai,ak]at e1;rw[tT _ _ _ _ _ hn];simp only[go_sem,bm,E0,hi,Hg hn,oH];simp only[go_sem,aF k,e1,e2,hwi]) (by
    rw[aW];simp only[go_sem,bm,E0,aq]) p.kids.length 0 (by omega)
   rw[n0,bg,uG]at hl;simp only[go_sem,hw,hm,t234,aF p,o3,hl]
  rw[if_neg o3];by_cases o4:p.op=4
  ·rw[if_pos o4];have o5:¬(4:Int)=5:=by decide
   by_cases h1:p.kids.length=1
   ·obtain⟨k,Cs⟩:=cJ.1 h1;have pq:=N0 (t:=p.text) hs (hlen k) (λx hx=>hk k (by rw[Cs];simp) x hx) (s.size+2) a none (by have:=FK a;omega) ha;simp only[BN]at pq;rw[Cs,FI];simp only[go_sem,hw,hm,hc,t234,aF p,o4,o5,Cs,pq]
   ·rw[FJ h1];have h2:=UZ h1;have hl:bR (lB G rZ) (0,[.str s,.int .i64 4,.str p.text,bJ p.kids,aV a])=some (1,[.str s,.bool false,.int .i64 4,.str p.text,bJ p.kids,aV a]):=by
     refine bk ?_;simp only[go_sem,bm,rZ,h2]
    simp only[go_sem,hw,hm,hc,t234,aF p,o4,o5,hl]
  rw[if_neg o4];by_cases o5:p.op=5
  ·rw[if_pos o5];by_cases h1:p.kids.length=1
   ·obtain⟨k,Cs⟩:=cJ.1 h1;have pq:=NZ (t:=p.text) hs (hlen k) (λx hx=>hk k (by rw[Cs];simp) x hx) ha;rw[Cs,FI];simp only[go_sem,hw,hm,hc,t234,aF p,o5,Cs,pq]
   ·rw[FJ h1];have h2:=UZ h1;have hl:bR (lB G AS) (0,[.str s,.int .i64 5,.str p.text,bJ p.kids,aV a])=some (1,[.str s,.bool false,.int .i64 5,.str p.text,bJ p.kids,aV a]):=by
     refine bk ?_;simp only[go_sem,bm,AS,h2]
    simp only[go_sem,hw,hm,hc,t234,aF p,o5,hl]
  rw[if_neg o5];simp only[go_sem,hw,hm,t234,aF p,o1,o2,o3,o4,o5]
theorem ahw{s:ByteArray}{p:cx}(hs:s.size<=mg)(hp:uw 64 p=true):G 235 (gB p++[.str s])=some (0,[.bool (Kb p s)]):=by
 have hw:=Cv hs;have hm:=uT (n:=s.size+1) (by simp only[mg]at hs;omega);have h1:=Y6 hs (ah p+1) p (true::aC s.size false) (aM _) hp (by simp);have hl:=pC (s:=s) (ah p+1) p (true::aC s.size false) (by simp);rw[aF]at h1;simp only[ai,ak]at h1;have e1:=p9 (l:=aC (s.size+1) false) (i:=0) (by simp);have e2:=zH (l:=aC (s.size+1) false) (i:=0) (c:=true) (by simp);have e3:(aC (s.size+1) false).set 0 true=true::aC s.size false:=by rw[fp];rfl
 rw[e3]at e2;rw[n0]at e1 e2;have e4:=p9 (l:=gE s (ah p+1) p (true::aC s.size false)) (i:=s.size) (by rw[hl];omega);obtain⟨b,hb⟩:∃b,nth (gE s (ah p+1) p (true::aC s.size false)) s.size=some b:=⟨_,dF (by rw[hl];omega)⟩
 have e5:=zG hb;refine cq ad8 (by rw[aF];rfl) ?_;have e6:Kb p s=b:=by rw[Kb,hb];rfl
 rw[e6];generalize gE s (ah p+1) p (true::aC s.size false)=z at *;simp only[go_sem,t235,aF p,hw,hm,e1,e2,h1,e4,e5]
end
section
theorem RN(b:Int):YC b=(ff 97 122 b ||(ff 48 57 b ||decide (b=45))):=(rfl)
theorem Vx{s:ByteArray}{i:Nat}(h:i < s.size):aK (.Ji true) [.str s,.int .i64 (i:Int),.int .i64 ((i+1:Nat):Int)]=some (.str (Bu (da s i))):=by
 have e1:dI (.int .i64 (i:Int))=some i:=by simp[dI]
 have e2:dI (.int .i64 ((i+1:Nat):Int))=some (i+1):=by simp only[dI];rw[if_pos (by omega)];congr 1
 simp only[aK,e1,e2];rw[if_pos ⟨by omega,by omega⟩]
 congr 2
 have hb:(da s i).toNat=(s[i]?.getD 0).toNat:=by unfold da;simp
 have Ap:cL (da s i).toNat=s[i]:=by
  rw[hb,getElem?_pos s i h,mK];simp
 apply pv
 have e3:(Bu (da s i)).data=#[s[i]]:=by simp only[Bu,bA,Ap]
 rw[e3,ByteArray.data_extract]
 apply Array.ext
 ·simp;omega
 ·intro j h1 h2;have:j=0:=by simpa using h2
  subst this;simp
  rfl
theorem aff(k:Nat)(h:k<=mg):IntKind.i64.wrap (((k+1:Nat):Int) - 1)=(k:Int):=by rw[wrap_i64 (by simp only[mg]at h;omega)];omega
def zA(f:Nat)(s:ByteArray)(i c n:Nat)(b0:Bool)(r:PR):Prop:=∃j p k b,j < n/\G f [.str s,.int .i64 (i:Int),.bool b0]=some (j,gB p++[.str s,.int .i64 (k:Int),.bool b])/\PA s i c r p k b
section
variable {s:ByteArray} {alt:Nat->PR}
theorem GA(a:Int)(t:ByteArray):aK .pl [.int .i64 a,.str t]=some (.bool false):=(rfl)
theorem q9(a:Int)(t:ByteArray)(l:List cx):aK .yb [.int .i64 a,.str t,bJ l]=some (.bool false):=(rfl)
theorem af_{i i' c c' k:Nat}{r:PR}{p:cx}{b:Bool}(h:PA s i' c' r p k b)(hi:i<=i')(hc:i+c<=i'+c'):PA s i c r p k b:=by
 obtain⟨h1,h2,h3,h4⟩:=h;refine⟨h1,by omega,h3,?_⟩;cases r with
 |none=>exact h4
 |some q=>exact⟨h4.1,h4.2.1,by have:=h4.2.2;omega⟩
theorem ahs(hs:s.size<=mg){i:Nat}(hi:i < s.size)(hA:∀j,i < j->j<=s.size->zA 223 s j 0 2 false (alt j)):zA 222 s i 1 3 false (tH alt s i):=by
 have hw:=wj hi hs;unfold tH;cases h40:fU s i 40 with
 |true=>
  have f1:=pa hs h40;obtain⟨j,p,k,b,hj,hg,hp⟩:=hA (i+1) (by omega) (by omega);obtain⟨p1,p2,p3,p4⟩:=hp;simp only[aF,ai,ak]at hg;rw[if_pos rfl];cases b with
  |true=>
   have f2:=λc=>FM (s:=s) (i:=(k:Int)) (c:=c);cases hr:alt (i+1) with
   |some q=>rw[hr]at p4;cases p4.1
   |none=>
    match j,hj with
    |0,_=>exact⟨1,p,k,true,by decide,cq BJ rfl (by simp only[go_sem,t222,f1,f2,hg,aF]),p1,by omega,p3,rfl⟩
    |1,_=>exact⟨2,p,k,true,by decide,cq BJ rfl (by simp only[go_sem,t222,f1,f2,hg,aF]),p1,by omega,p3,rfl⟩
  |false=>
   cases hr:alt (i+1) with
   |none=>rw[hr]at p4;cases p4
   |some q=>
    rw[hr]at p4;obtain⟨_,rfl,p5⟩:=p4;dsimp only;cases T5:fU s k 41 with
    |true=>
     have f2:=pa hs T5;have hk:=ll T5
     match j,hj with
     |0,_=>exact⟨1,p,k+1,false,by decide,cq BJ rfl (by simp only[go_sem,t222,f1,f2,hg,aF]),p1,by omega,by omega,rfl,rfl,by omega⟩
     |1,_=>exact⟨2,p,k+1,false,by decide,cq BJ rfl (by simp only[go_sem,t222,f1,f2,hg,aF]),p1,by omega,by omega,rfl,rfl,by omega⟩
    |false=>
     have f2:=o9 T5
     match j,hj with
     |0,_=>exact⟨1,p,k,true,by decide,cq BJ rfl (by simp only[go_sem,t222,f1,f2,hg,aF]),p1,by omega,p3,rfl⟩
     |1,_=>exact⟨2,p,k,true,by decide,cq BJ rfl (by simp only[go_sem,t222,f1,f2,hg,aF]),p1,by omega,p3,rfl⟩
 |false=>
  have f1:=o9 h40;rw[if_neg cj];cases XA:fU s i 91 with
  |true=>
   have f2:=pa hs XA;obtain⟨p,k,b,hg,hp⟩:=ahq (i:=i+1) hs (by omega);simp only[aF,ai,ak]at hg;rw[if_pos rfl];exact⟨0,p,k,b,by decide,cq BJ rfl (by simp only[go_sem,t222,f1,f2,hg,aF]),af_ hp (by omega) (by omega)⟩
  |false=>
   have f2:=o9 XA;rw[if_neg cj];cases V8:fU s i 46 with
   |true=>
    have f3:=pa hs V8;have f4:=ahr;rw[if_pos rfl];exact⟨0,⟨1,M7,[]⟩,i+1,false,by decide,cq BJ rfl (by simp only[go_sem,t222,f1,f2,f3,f4,aF];rfl),jf _ _ (vX _),by omega,by omega,rfl,rfl,by omega⟩
   |false=>
    have f3:=o9 V8;have f4:=eo s i hi;have f5:=acP (pY s i);have f6:=acQ (pY s i);have f7:=Vx hi;have f8:=aff i (by omega);rw[if_neg cj];cases hc:YC (da s i) with
    |true=>
     simp only[hi,decide_true,iL,if_true];refine⟨0,⟨1,Bu (da s i),[]⟩,i+1,false,by decide,cq BJ rfl ?_,jf _ _ (by rw[Bu,ot];simp),by omega,by omega,rfl,rfl,by omega⟩;rw[RN]at hc;generalize ff 97 122 (da s i)=x at *;generalize ff 48 57 (da s i)=y at *;cases x<;>cases y<;>(try simp only[fQ]at hc)<;>simp only[go_sem,t222,hi,hc,f1,f2,f3,f4,f5,f6,f7,f8,hw,aF]
     all_goals rfl
    |false=>
     simp only[iU,au,if_false];refine⟨0,⟨0,eT,[]⟩,i,true,by decide,cq BJ rfl ?_,jf _ _ xS,by omega,by omega,rfl⟩;rw[RN]at hc;generalize ff 97 122 (da s i)=x at *;generalize ff 48 57 (da s i)=y at *;cases x<;>cases y<;>simp only[l6,jo,fQ,Bool.true_eq_false]at hc
     simp only[go_sem,t222,hi,hc,f1,f2,f3,f4,f5,f6,aF];rfl
end
end
end Go.Proofs.YtcdjbelccndadaaGreatDoor
