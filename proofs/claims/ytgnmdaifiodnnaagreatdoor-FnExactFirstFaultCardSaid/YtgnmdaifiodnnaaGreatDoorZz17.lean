/- Part of the proof. Condition: none. -/
import Derived.Test.YtgnmdaifiodnnaaGreatDoorZz16
set_option linter.all false
open Bool renaming and_eq_true->aw,false_eq_true->aL,not_eq_true'->cx,not_false->dh,false_ne_true->dr,not_true->dv,true_and->dw,or_eq_true->dE,or_false->dF,false_and->dH,eq_false_iff->dS,eq_iff_iff->dU,or_true->dZ,and_false->eo,and_true->fF,false_or->fV,or_assoc->iO,and_assoc->iV,and_self->kF,true_or->qS,true->I,false->J
open ByteArray renaming ext->sE
open Int renaming toNat_natCast->cn,lt_irrefl->eg,natCast_nonneg->ly,reduceEq->rG,zero_add->rH
open List renaming length_map->aj,nil_append->av,cons_append->ax,length_append->az,append_nil->aH,length_nil->aK,length_cons->aN,length_singleton->aQ,mem_cons->aU,mem_append->aZ,replicate->a_,map_cons->bc,append_assoc->bh,length_take->bo,take_length->bq,getElem?_eq_some_iff->br,take_zero->bB,sizeOf_lt_of_mem->bD,all_eq_true->bG,mem_singleton->bO,drop_zero->cj,take_append_drop->ck,map_nil->cA,map_append->cC,eq_nil_of_length_eq_zero->cD,range->cH,nodup_append->cI,take_succ_cons->cT,nodup_cons->cU,drop_of_length_le->cX,length_eq_one_iff->dm,mem_map->dx,mem_map_of_mem->dM,mem_cons_of_mem->dO,isEmpty_iff->dT,mem_cons_self->dV,isEmpty_nil->ei,drop_length->eI,flatMap_cons->eJ,length_filter_le->eW,map_id'->fc,length_eq_zero_iff->fe,getElem?_take->fq,any_eq_true->fG,ext_getElem?->gq,mem_filter->gF,any_cons->hO,replicate_succ->ir,isEmpty_cons->i_,getElem?_set->ko,getElem?_eq_getElem->kG,length_pos_iff->kK,filter_cons->kN,filter_append->k9,map_const'->qw,map_congr_left->qB,getElem_append_left->uK,filter_eq_nil_iff->wI,take_of_length_le->wJ,foldl_cons->xu,foldl_nil->zr,getElem?_append->zt,mem_range->zu
open List.cons renaming sizeOf_spec->bM,injEq->cr
open Nat renaming lt_irrefl->aG,le_refl->aI,le_trans->aV,lt_succ_self->aW,zero_add->bF,zero_le->bK,reduceEqDiff->cm,reduceLeDiff->cR,add_zero->dG,reduceAdd->eh,reduceBNe->eA,add_assoc->gC,mul_one->mr,sub_zero->rI,reduceLT->xw,sub_self->xy
open Option renaming map_eq_some_iff->ay,map_some->aX,isSome_none->bw,isSome_some->bT,isSome_iff_exists->cB,getD_some->cJ,some->Z,none->O
open Option.some renaming injEq->ao
open SizeOf renaming sizeOf->aF
open UInt8 renaming ofNat->dW
open Decidable renaming decide->Z'
namespace Go.Proofs.YtgnmdaifiodnnaaGreatDoor
set_option maxRecDepth 100000
set_option maxHeartbeats 4000000
set_option maxHeartbeats 8000000
def oI(n:aq):Bool:=n.cl.isEmpty && (n.unique.isEmpty && (Z' (n.default.size=0) && (!n.given && (!n.fixed && (Z' (n.min=0) && Z' (n.max=0))))))
def yz(l:M aq)(o:u Nat)(p:aq->Bool):Bool:=match o with
 |some j=>(match nth l j with
  |some x=>p x
  |none=>J)
 |none=>J
def VL(x:aq):Bool:=x.when.isEmpty && (!x.given && !Z' (x.type.aA=6))
def Ih(l:M aq)(k:z):Bool:=yz l (ey l k) λx=>Z' (x.aA=3) && VL x
def HC(l:M aq)(k:z):Bool:=yz l (ey l k) λx=>Z' (x.aA=3)
def Gy(n:aq):Bool:=n.cl.all (Ih n.ai) && (n.unique.all (HC n.ai) && (zT n.type && (!n.cl.isEmpty && (wm n.cl && (wm n.unique && (lR n && (!n.given && (!n.dB && (!n.dq && (!n.fixed && Z' (n.default.size=0)))))))))))
def xX(a:z->Bool)(n:aq):Bool:=n.cl.isEmpty && (n.unique.isEmpty && (Z' (n.min=0) && (Z' (n.max=0) && (!n.dq && (n.ai.isEmpty && isType a n.type)))))
def C2(a:z->Bool)(n:aq):Bool:=n.cl.isEmpty && (n.unique.isEmpty && (Z' (n.default.size=0) && (!n.given && (!n.fixed && (!n.dB && (!n.dq && (n.ai.isEmpty && (lR n && isType a n.type))))))))
def Jd(n:aq):Bool:=isName n.au && (HZ n.when 1 && HZ n.gZ 3)
section
variable (ip:z->Bool) (mt:z->z->Bool)
def iP(n:aq)(free:Bool):Bool:=
 if n.aA=1 then oI n && (!n.dB && zT n.type)
 else if n.aA=2 then Gy n
 else if n.aA=3 then (if n.given=I then xX ip n && (free && (!n.dB && (n.when.isEmpty && isVal ip mt n.type n.default))) else xX ip n && Z' (n.default.size=0))
 else if n.aA=4 then C2 ip n
 else if n.aA=5 then oI n && (!n.dq && (n.gZ.isEmpty && zT n.type))
 else if n.aA=6 then oI n && (!n.dq && (!n.dB && (n.gZ.isEmpty && zT n.type)))
 else J
def wg(n:aq)(free:Bool):Bool:=Jd n && iP ip mt n free
def tM(n:aq)(free:Bool):Bool:=free && (n.when.isEmpty && !Z' (n.aA=6))
def t_:Nat->M aq->Int->Bool->Nat->Bool
 |0,_,_,_,_=>J
 |m+1,l,k,free,deep=>
  allI (λi n=>Z' (ey l n.au=Z i) && (Z' (Z' (k=5)=Z' (n.aA=6)) && (wg ip mt n free && t_ m n.ai n.aA (tM n free) (deep+1)))) 0 l &&
   (allI (λi n=>Z' (ey (dk l) n.au=Z i)) 0 (dk l) && (Z' (deep<=8) ||l.isEmpty))
def xH(l:M aq)(k:z):Bool:=yz l (kV l k) VL
def pM(n:aq):Bool:=
 (!Z' (n.aA=3) && (!Z' (n.aA=4) && !zT n.type)) ||
 ((!Z' (n.aA=2) && !(n.cl.isEmpty && n.unique.isEmpty)) ||
 ((!Z' (n.aA=3) && (!Z' (n.default.size=0) ||(n.given ||n.fixed))) ||
 ((!Z' (n.aA=3) && (!Z' (n.aA=5) && n.dB)) ||
 ((!Z' (n.aA=1) && n.dq) ||
 ((!Z' (n.aA=2) && (!Z' (n.aA=4) && (!Z' (n.min=0) ||!Z' (n.max=0)))) ||
 ((!j6 n.aA && !n.gZ.isEmpty) ||
 ((Z' (n.aA=3) ||decide (n.aA=4)) && !n.ai.isEmpty)))))))
def nI(l:M z):Bool:=Z' (l.length<=3) && (tO l && l.all isName)
def lJ(n:aq):Bool:=
 if n.aA=1 then I
 else if n.aA=2 then !n.cl.isEmpty && (nI n.cl && (nI n.unique && lR n))
 else if n.aA=3 then isType ip n.type && (!(n.given && (n.dB ||!n.when.isEmpty)) && (if n.given=I then isVal ip mt n.type n.default else Z' (n.default.size=0)))
 else if n.aA=4 then isType ip n.type && lR n
 else if n.aA=5 then I
 else if n.aA=6 then I
 else if n.aA=7 then n.when.isEmpty && n.ai.isEmpty
 else J
def Aw(n:aq):Bool:=Jd n && (!pM n && lJ ip mt n)
def xI:Nat->M aq->Int->Bool->Bool
 |0,_,_,_=>J
 |m+1,l,k,bound=>
  (tO (l.map aq.au) && (pw k ||tO ((dk l).map aq.au))) &&
   l.all λn=>Aw ip mt n && (!Z' (n.aA=7) && (Z' (Z' (n.aA=6)=Z' (k=5)) && (!(n.given && bound) && (n.cl.all (xH n.ai) && (n.unique.all (λa=>(kV n.ai a).isSome) && xI m n.ai n.aA (bound ||(!n.when.isEmpty ||decide (n.aA=6))))))))
end
theorem mu{b:Type}{p:Nat->b->Bool}:∀{l:M b} {i:Nat},allI p i l=I↔∀j x,nth l j=Z x->p (i+j) x=I
 |[],i=>⟨λ_ j x h=>by simp[nth]at h,λ_=>rfl⟩
 |y::l,i=>by simp only[allI,aw,mu (l:=l)];constructor;{rintro⟨d,c⟩ j x a;cases j with|zero=>{cases a;exact d}|succ j=>have:=c j x a;rwa [Nat.add_right_comm,gC]at this};intro h;refine⟨h 0 y rfl,λj x a=>?_⟩;have:=h (j+1) x a;rwa [Nat.add_right_comm,gC]
theorem qi{a:Type}:∀{l:M a} {x:a},x∈l->∃j,nth l j=Z x
 |y::l,x,h=>by rcases aU.1 h with rfl|h;{exact⟨0,rfl⟩};obtain⟨j,b⟩:=qi h;exact⟨j+1,b⟩
theorem wV{a:Type}{p:a->Bool}:∀{l:M a} {k j:Nat} {e:a},nth l j=Z e->p e=I->(∀i x,i<j->nth l i=Z x->p x=J)->u7 p l k=Z (k+j)
 |y::l,k,0,e,h,b,_=>by cases h;simp only[u7,b,if_true,dG]
 |y::l,k,j+1,e,h,b,c=>by have f:=c 0 y (by omega) rfl;simp only[u7,f,aL,if_false];rw[wV (l:=l) (k:=k+1) h b λi x g d=>c (i+1) x (by omega) d];congr 1;omega
theorem E0{a:Type}{p:a->Bool}:∀{l:M a} {k j:Nat},u7 p l k=Z j->∀i x,k+i<j->nth l i=Z x->p x=J
 |[],k,j,h=>by simp[u7]at h
 |y::l,k,j,h=>by intro i x d b;simp only[u7]at h;split at h;{cases h;omega};rename_i c;cases i with|zero=>{cases b;exact dS.2 c}|succ i=>exact E0 h i x (by omega) b
theorem Co{g β:Type}(f:g->β):∀{l:M g},(l.map f).Nodup↔∀i j x y,i<j->nth l i=Z x->nth l j=Z y->f x≠f y
 |[]=>by simp[nth]
 |a::l=>by simp only[bc,cU,Co f (l:=l)];constructor;{rintro⟨q,p⟩ i j x y d c b;obtain⟨j,rfl⟩:∃m,j=m+1:=⟨j - 1,by omega⟩;cases i with|zero=>{cases c;exact λe=>q (dx.2 ⟨y,bp (l:=l) b,e.symm⟩)}|succ i=>exact p i j x y (by omega) c b};intro h;refine⟨λk=>?_,λi j x y d c b=>h (i+1) (j+1) x y (by omega) c b⟩;obtain⟨y,b,o⟩:=dx.1 k;obtain⟨j,n⟩:=qi b;exact h 0 (j+1) a y (by omega) rfl n o.symm
def mV(l:M aq):allI (λi n=>Z' (ey l n.au=Z i)) 0 l=I↔(l.map aq.au).Nodup:=by rw[mu,Co];simp only[bF,decide_eq_true_eq];constructor;{intro h i j x y c a b f;have g:=h j y b;have:=E0 g i x (by omega) a;simp[f]at this};intro h j x a;(have:=wV (p:=λe:aq=>Z' (e.au=x.au)) (k:=0) a (by simp) λi y d b=>by simpa using h i j y x d b a);rw[bF]at this;exact this
theorem TI{l:M aq}(f:(l.map aq.au).Nodup)(k:z)(p:aq->Bool):yz l (ey l k) (λx=>Z' (x.aA=3) && p x)=yz l (kV l k) p:=by cases h:kV l k with|some j=>{obtain⟨e,b,a⟩:=dy h;simp only[aw,decide_eq_true_eq]at a;have:ey l k=Z j:=by{have:=wV (p:=λe:aq=>Z' (e.au=k)) (k:=0) b (by simp[a.1]) λi y g d=>by{have:=(Co aq.au).1 f i j y e g d b;rw[a.1]at this;simpa using this};rw[bF]at this;exact this};simp only[this,yz,b,a.2,decide_true,dw]}|none=>cases m:ey l k with|none=>{rfl}|some j=>obtain⟨e,b,a⟩:=dy m;by_cases c:e.aA=3;{have:(kV l k).isSome=I:=by{unfold kV;rw[pV,fG];exact⟨e,bp b,by simpa [c] using a⟩};rw[h]at this;cases this};simp only[yz,b,c,decide_false,dH]
theorem adN{l:M aq}(a:(l.map aq.au).Nodup)(k:z):HC l k=(kV l k).isSome:=by have:=TI a k λ_=>I;simp only[fF]at this;rw[HC,this];cases h:kV l k with|none=>{rfl}|some j=>obtain⟨e,b,_⟩:=dy h;simp only[yz,b,bT]
def adM{l:M aq}(a:(l.map aq.au).Nodup)(k:z):Ih l k=xH l k:=TI a k VL
def Gx{l:M aq}(h:∀x∈l,isName x.au=I){k:z}(b:(kV l k).isSome=I):isName k=I:=by obtain⟨j,c⟩:=cB.1 b;obtain⟨e,d,a⟩:=dy c;simp only[aw,decide_eq_true_eq]at a;rw[<- a.1];exact h e (bp d)
def VK{l:M aq}{k:z}(h:xH l k=I):(kV l k).isSome=I:=by unfold xH yz at h;split at h;{rename_i j a;rw[a];rfl};cases h
def OQ{l:M z}(h:∀k∈l,isName k=I):nI l=wm l:=by have:l.all isName=I:=bG.2 h;rw[nI,wm,this,fF,Bool.and_comm]
section
variable {ip:z->Bool} {mt:z->z->Bool}
theorem acY{n:aq}(h:n.aA=2):(!pM n && lJ ip mt n)=(zT n.type && (!n.cl.isEmpty && (nI n.cl && (nI n.unique && (lR n && (!n.given && (!n.dB && (!n.dq && (!n.fixed && Z' (n.default.size=0)))))))))):=by simp only[pM,lJ,h,j6];cases zT n.type<;>cases n.cl.isEmpty<;>cases nI n.cl<;>cases nI n.unique<;>cases lR n<;>cases n.given<;>cases n.dB<;>cases n.dq<;>cases n.fixed<;>cases Z' (n.default.size=0)<;>rfl
theorem Tv{n:aq}{free:Bool}(h:¬(1<=n.aA/\n.aA<=6)):iP ip mt n free=J:=by simp only[iP];rw[if_neg (by omega),if_neg (by omega),if_neg (by omega),if_neg (by omega),if_neg (by omega),if_neg (by omega)]
theorem aaz{n:aq}(h:¬(1<=n.aA/\n.aA<=6))(a:n.aA≠7):lJ ip mt n=J:=by simp only[lJ];rw[if_neg (by omega),if_neg (by omega),if_neg (by omega),if_neg (by omega),if_neg (by omega),if_neg (by omega),if_neg a]
theorem TT{n:aq}{bound:Bool}(C:(n.ai.map aq.au).Nodup)(D:∀x∈n.ai,isName x.au=I) :
  (wg ip mt n (!bound)=I)↔Aw ip mt n=I/\n.aA≠7/\(n.given && bound)=J/\n.cl.all (xH n.ai)=I/\n.unique.all (λc=>(kV n.ai c).isSome)=I:=by unfold wg Aw;cases Jd n with|false=>{simp}|true=>simp only[dw];by_cases i:n.aA=2;{(have R:n.cl.all (Ih n.ai)=n.cl.all (xH n.ai):=by congr 1;funext k;exact adM C k);(have Q:n.unique.all (HC n.ai)=n.unique.all (λc=>(kV n.ai c).isSome):=by congr 1;funext k;exact adN C k);rw[acY i];(have P:iP ip mt n (!bound)=Gy n:=by simp only[iP,i];rfl);rw[P,Gy,R,Q];cases L:n.cl.all (xH n.ai) with|false=>{simp}|true=>cases K:n.unique.all (λc=>(kV n.ai c).isSome) with|false=>{simp}|true=>have G:=OQ (l:=n.cl) λk y=>Gx D (VK (bG.1 L k y));have F:=OQ (l:=n.unique) λk y=>Gx D (bG.1 K k y);rw[G,F,i];cases n.given<;>simp};by_cases r:1<=n.aA/\n.aA<=6;{have hd:j6 n.aA=Z' (n.aA<=4):=by{by_cases h:n.aA<=4;{rw[decide_eq_true h];exact (ej _ _ _).2 ⟨r.1,h⟩};rw[decide_eq_false h];exact dS.2 λN=>h ((ej _ _ _).1 N).2};cases B:n.cl with|cons a l=>{(have:pM n=I:=by simp[pM,i,B]);(have j:iP ip mt n (!bound)=J:=by simp[iP,i,oI,xX,C2,B]);simp[this,j]}|nil=>cases A:n.unique with|cons a l=>{(have:pM n=I:=by simp[pM,i,A]);(have j:iP ip mt n (!bound)=J:=by simp[iP,i,oI,xX,C2,A]);simp[this,j]}|nil=>(have s:n.aA≠7:=by omega);have j:iP ip mt n (!bound)=(!pM n && (lJ ip mt n && !(n.given && bound))):=by{simp only[pM,iP,lJ,oI,xX,C2,B,A,hd,ei,dw,fF];obtain⟨T,S⟩:=r;(have H:n.aA=1\/n.aA=3\/n.aA=4\/n.aA=5\/n.aA=6:=by omega);rcases H with h|h|h|h|h<;>simp only[h]<;>generalize zT n.type=b<;>generalize isType ip n.type=t<;>generalize isVal ip mt n.type n.default=v<;>generalize n.when.isEmpty=w<;>generalize n.gZ.isEmpty=c<;>generalize n.ai.isEmpty=q<;>generalize lR n=o<;>generalize Z' (n.default.size=0)=d<;>generalize Z' (n.min=0)=m<;>generalize Z' (n.max=0)=x<;>generalize n.given=g<;>generalize n.fixed=f<;>generalize n.dB=e<;>generalize n.dq=p;{cases b<;>cases d<;>cases m<;>cases x<;>cases g<;>cases f<;>cases e<;>cases bound<;>rfl};{cases t<;>cases v<;>cases w<;>cases q<;>cases d<;>cases m<;>cases x<;>cases g<;>cases e<;>cases p<;>cases bound<;>rfl};{cases t<;>cases o<;>cases q<;>cases d<;>cases g<;>cases f<;>cases e<;>cases p<;>cases bound<;>rfl};{cases b<;>cases d<;>cases m<;>cases x<;>cases g<;>cases f<;>cases c<;>cases p<;>cases bound<;>rfl};cases b<;>cases d<;>cases m<;>cases x<;>cases g<;>cases f<;>cases e<;>cases c<;>cases p<;>cases bound<;>rfl};rw[j];cases n.given<;>simp[s,and_assoc]};rw[Tv r];by_cases s:n.aA=7;{simp[s]};rw[aaz r s];simp
theorem Fz{m:Nat}{l:M aq}{k:Int}{b:Bool}(h:xI ip mt m l k b=I):(l.map aq.au).Nodup/\∀x∈l,isName x.au=I:=by cases m with|zero=>{cases h}|succ m=>simp only[xI,aw,bG]at h;refine⟨(sK _).1 h.1.1,λx a=>?_⟩;have:=(h.2 x a).1;simp only[Aw,Jd,aw]at this;exact this.1.1
theorem DS:∀(l:M aq) (N:Nat),tQ l<=N↔∀x∈l,1+tQ x.ai<=N
 |[],N=>by simp[tQ]
 |e::l,N=>by rw[tQ,Nat.max_le,DS l N];simp
theorem Zf{l:M aq}:tQ l=0↔l=[]:=by cases l with|nil=>{simp[tQ]}|cons e l=>rw[tQ];simp
theorem IG(n:aq)(bound:Bool):tM n (!bound)=!(bound ||(!n.when.isEmpty ||decide (n.aA=6))):=by unfold tM;cases bound<;>cases n.when.isEmpty<;>cases Z' (n.aA=6)<;>rfl
theorem agx{l:M aq}{n:aq}(a:n∈l)(b:pw n.aA=I):(dk n.ai).Sublist (dk l):=by induction l with|nil=>{cases a}|cons e l c=>rw[jQ];rcases aU.1 a with rfl|h;{have:sL n=dk n.ai:=by{unfold sL;rw[if_neg,if_pos b];intro h;have:=(afU h).1;rw[b]at this;cases this};rw[this];exact List.sublist_append_left _ _};exact (c h).trans (List.sublist_append_right _ _)
theorem ahm:∀(m:Nat) (l:M aq) (k:Int) (d:Bool) (deep:Nat),aF l<m->1<=deep->
  (t_ ip mt m l k (!d) deep=I↔xI ip mt m l k d=I/\((dk l).map aq.au).Nodup/\(tQ l=0\/deep+tQ l<=9)):=by intro m;induction m with|zero=>{intro l k d deep h;omega}|succ m G=>intro l k d deep L hd;have q:∀n∈l,∀b,(t_ ip mt m n.ai n.aA (!b) (deep+1)=I↔xI ip mt m n.ai n.aA b=I/\((dk n.ai).map aq.au).Nodup/\(tQ n.ai=0\/deep+1+tQ n.ai<=9)):=λn f b=> G n.ai n.aA b (deep+1) (by have:=bD f;have:=aq.fD n;omega) (by omega);constructor;{intro h;simp only[t_,aw]at h;obtain⟨i,H,g⟩:=h;rw[mu]at i;simp only[bF,aw,decide_eq_true_eq]at i;have v:(l.map aq.au).Nodup:=(mV l).1 (by rw[mu];intro j x p;rw[bF,decide_eq_true_eq];exact (i j x p).1);have r:=(mV (dk l)).1 H;have p:∀n∈l,(Z' (k=5)=Z' (n.aA=6))/\(Aw ip mt n=I/\n.aA≠7/\(n.given && d)=J/\n.cl.all (xH n.ai)=I/\n.unique.all (λc=>(kV n.ai c).isSome)=I)/\xI ip mt m n.ai n.aA (d ||(!n.when.isEmpty ||decide (n.aA=6)))=I/\(tQ n.ai=0\/deep+1+tQ n.ai<=9):=by{intro n f;obtain⟨j,s⟩:=qi f;obtain⟨_,a2,a3,a4⟩:=i j n s;rw[IG]at a4;obtain⟨D,_,K⟩:=(q n f _).1 a4;obtain⟨c1,w⟩:=Fz D;exact⟨a2,(TT c1 w).1 a3,D,K⟩};refine⟨?_,r,?_⟩;{simp only[xI,aw,bG];refine⟨⟨(sK _).2 v,by rw[dE];exact .inr ((sK _).2 r)⟩,λn f=>?_⟩;obtain⟨a1,⟨a2,a3,a4,a5,y⟩,o,_⟩:=p n f;exact⟨a2,by simpa using a3,by rw[decide_eq_true_eq];exact a1.symm,by rw[a4];rfl,bG.1 a5,bG.1 y,o⟩};by_cases A:l=[];{exact .inl (Zf.2 A)};have Q:deep<=8:=by{cases l with|nil=>{exact absurd rfl A}|cons e l=>simpa using g};have:=(DS l (9 - deep)).2 λn f=>by{obtain⟨_,_,_,a⟩:=p n f;omega};omega};rintro⟨i,r,g⟩;simp only[xI,aw,bG]at i;obtain⟨⟨v,P⟩,p⟩:=i;have t:=(sK _).1 v;have F:∀n∈l,deep+(1+tQ n.ai)<=9:=by{intro n f;rcases g with g|g;{rw[Zf.1 g]at f;cases f};have:=(DS l (9 - deep)).1 (by omega) n f;omega};simp only[t_,aw];refine⟨?_,(mV (dk l)).2 r,?_⟩;{rw[mu];intro j n s;have f:=bp s;obtain⟨a1,a2,a3,a4,a5,y,o⟩:=p n f;obtain⟨c1,w⟩:=Fz o;have B:=(mV l).2 t;rw[mu]at B;simp only[aw];refine⟨B j n s,by rw[decide_eq_true_eq]at a3 ⊢;exact a3.symm,(TT c1 w).2 ⟨a1,by simpa using a2,by cases N:n.given<;>cases d<;>simp_all,bG.2 a5,bG.2 y⟩,?_⟩;rw[IG];refine (q n f _).2 ⟨o,?_,.inr (by have:=F n f;omega)⟩;cases C:pw n.aA with|true=>{exact List.Nodup.sublist ((agx f C).map _) r}|false=>cases m with|zero=>{cases o}|succ m=>simp only[xI,aw,C,fV]at o;exact (sK _).1 o.1.2};rcases g with g|g;{rw[Zf.1 g];simp};cases l with|nil=>{simp}|cons e l=>have:=F e dV;(have:deep<=8:=by omega);simp[this]
noncomputable def sU(ip:z->Bool)(mt:z->z->Bool)(l:M aq):Bool:=Z' (bN l<=60) && t_ ip mt (aF l+1) l 0 I 1
theorem adt(l:M aq):sU ip mt l=(Z' (bN l<=60) && (Z' (tQ l<=8) && xI ip mt (aF l+1) l 0 J)):=by have h:=ahm (ip:=ip) (mt:=mt) (aF l+1) l 0 J 1 (aW _) (aI _);rw[dh]at h;unfold sU;congr 1;rw[dU,h,aw,decide_eq_true_eq];constructor;{rintro⟨a,_,c⟩;exact⟨by omega,a⟩};rintro⟨a,b⟩;refine⟨b,?_,by omega⟩;simp only[xI,aw,pw,dE,decide_eq_true_eq]at b;rcases b.1.2 with h|h;{rcases h with h|h<;>omega};exact (sK _).1 h
end
def ab0{s:z}(h:s.size=0):s=l_:=by obtain⟨d⟩:=s;have a:d.size=0:=h;rw[Array.eq_empty_of_size_eq_zero a];rfl
section
variable {ip:z->Bool} {mt:z->z->Bool}
theorem sY{N:Nat}{l:M aq}{k:Int}{f:Bool}{deep:Nat}(h:t_ ip mt N l k f deep=I) :
  (∀x∈l,(Z' (k=5)=Z' (x.aA=6))/\wg ip mt x f=I/\∃a,t_ ip mt a x.ai x.aA (tM x f) (deep+1)=I)/\((dk l).map aq.au).Nodup:=by cases N with|zero=>{cases h}|succ a=>unfold t_ at h;simp only[aw]at h;obtain⟨e,d,_⟩:=h;refine⟨λx b=>?_,(mV _).1 d⟩;obtain⟨j,c⟩:=qi b;have:=mu.1 e j x c;simp only[aw,decide_eq_true_eq]at this;exact⟨this.2.1,this.2.2.1,a,this.2.2.2⟩
theorem abY{l:M aq}(a:(l.map aq.au).Nodup){j:Nat}{x:aq}(h:nth l j=Z x):ey l x.au=Z j:=by have:=mu.1 ((mV l).2 a) j x h;simpa using this
theorem EE(a:Nat):∀{N:Nat} {s:M aq} {k:Int} {f:Bool} {deep:Nat},aF s<a->t_ ip mt N s k f deep=I->∀n∈dk s,∃t m r,wg ip mt n m=I/\t_ ip mt t n.ai n.aA (tM n m) r=I:=by induction a with|zero=>{intro N s k f deep h;omega}|succ a o=>intro N s k f deep v h;have p:=(sY h).1;have d:∀l:M aq,(∀x∈l,x∈s)->∀n∈dk l,∃x∈s,n∈sL x:=by{intro l;induction l with|nil=>{intro _ n b;rw[mR]at b;cases b}|cons e l g=>intro i n b;rw[jQ,aZ]at b;rcases b with b|b;{exact⟨e,i e dV,b⟩};exact g (λx c=>i x (dO _ c)) n b};intro n b;obtain⟨x,c,b⟩:=d s (λx c=>c) n b;obtain⟨w,q,K,j⟩:=p x c;unfold sL at b;split at b;{rw[bO]at b;subst b;exact⟨K,f,_,q,j⟩};split at b;{refine o ?_ j n b;have a1:=aq.fD x;have a2:=bD c;omega};cases b
end
def fW(p:Nat->Bool):Nat->Nat->Nat
 |i,0=>i
 |i,m+1=>if p i=I then fW p (i+1) m else i
theorem jH(p:Nat->Bool):∀(m i:Nat),i<=fW p i m/\fW p i m<=i+m
 |0,i=>by simp[fW]
 |m+1,i=>by unfold fW;split;{have:=jH p m (i+1);omega};omega
def vv(p:Nat->Bool):Nat->Nat
 |0=>0
 |i+1=>if p i=I then vv p i else i+1
theorem DI(p:Nat->Bool):∀i,vv p i<=i
 |0=>aI _
 |i+1=>by unfold vv;split;{have:=DI p i;omega};omega
theorem Sk(p:Nat->Bool){k:Nat}(b:p k=J):∀i,k<i->k<vv p i
 |0,h=>by omega
 |i+1,h=>by unfold vv;split;{rename_i a;by_cases e:i=k;{rw[e,b]at a;cases a};exact Sk p b i (by omega)};omega
def Il(s:z)(i:Nat):Nat:=vv (λj=>Z' (bY s j=45)) (fW (λj=>gh (bY s j)) i (s.size - i))
def Cm{s:z}{i:Nat}(e:i<s.size)(a:eB 97 122 (bY s i)=I):i<Il s i/\Il s i<=s.size:=by have g:=jH (λj=>gh (bY s j)) (s.size - i) i;have d:i<fW (λj=>gh (bY s j)) i (s.size - i):=by{obtain⟨m,b⟩:∃m,s.size - i=m+1:=⟨s.size - i - 1,by omega⟩;rw[b];unfold fW;(have:gh (bY s i)=I:=by simp[gh,a]);rw[if_pos this];have:=(jH (λj=>gh (bY s j)) m (i+1)).1;omega};have c:Z' (bY s i=45)=J:=by{have:=(ej _ _ _).1 a;simp;omega};have f:=DI (λj=>Z' (bY s j=45)) (fW (λj=>gh (bY s j)) i (s.size - i));exact⟨Sk (λj=>Z' (bY s j=45)) c _ d,by unfold Il;omega⟩
def qE(s:z):Nat->Nat->u Nat
 |0,_=>O
 |m+1,i=>if i<s.size then (if bY s i=34 then Z (i+1) else if bY s i=92 then (if i+1=s.size\/(bY s (i+1)≠34/\bY s (i+1)≠92) then O else qE s m (i+2)) else qE s m (i+1)) else O
theorem x_{s:z}:∀{m i j:Nat},qE s m i=Z j->i<j/\j<=s.size
 |0,_,_,h=>by cases h
 |m+1,i,j,h=>by unfold qE at h;split at h;{split at h;{cases h;omega};split at h;{split at h;{cases h};have:=x_ h;omega};have:=x_ h;omega};cases h
def Dc(s:z)(e:Nat):Nat->Nat->M Int
 |0,_=>[]
 |m+1,i=>if i<e then (if bY s i=92 then bY s (i+1)::Dc s e m (i+2) else bY s i::Dc s e m (i+1)) else []
theorem Mv{s:z}{e:Nat}:∀{m i:Nat},(Dc s e m i).length<=m
 |0,_=>aI _
 |m+1,i=>by unfold Dc;split;{split;{simp only[aN];have:=Mv (s:=s) (e:=e) (m:=m) (i:=i+2);omega};simp only[aN];have:=Mv (s:=s) (e:=e) (m:=m) (i:=i+1);omega};simp
def txB(l:M Int):z:=⟨(l.map λn=>dW n.toNat).toArray⟩
def acD(l:M Int):(txB l).size=l.length:=by show ((l.map λn=>dW n.toNat).toArray).size=_;simp
def unq(s:z):z:=txB (Dc s (s.size - 1) s.size 1)
def acH(s:z):(unq s).size<=s.size:=by rw[unq,acD];exact Mv
def It(t:z):z:=if t.size<2\/bY t 0≠34\/qE t t.size 1≠Z t.size then l_ else unq t
def CJ(t:z):(It t).size<=t.size:=by unfold It;split;{exact bK _};exact acH t
def Dq(t:z):Bool:=Z' (t=⟨#[33,61]⟩) ||(Z' (t=⟨#[60,61]⟩) ||(Z' (t=⟨#[62,61]⟩) ||decide (t=⟨#[46,46]⟩)))
def oX:z:=⟨#[123,125,59,91,93,40,41,60,62,61,43,45,47,124,46,44,36,58]⟩
def Ik(b:Int):Bool:=!oP (λk=>!Z' (b=bY oX k)) 0 18
def s_(s:z)(i:Nat):Nat:=if i+2<=s.size/\Dq (s.extract i (i+2))=I then 2 else if Ik (bY s i)=I then 1 else 0
def Q7{s:z}{i:Nat}(a:i<s.size):i+s_ s i<=s.size:=by unfold s_;split;{omega};split<;>omega
structure eX where
 aA:Int
 text:ByteArray
 pos:Int
def mT(t:eX):M D:=[.int .i64 t.aA,.str t.text,.int .i64 t.pos]
abbrev cL(l:M eX):D:=.list 3 I (l.map mT)
theorem og(t:eX):mT t=[E t.aA,.str t.text,E t.pos]:=(rfl)
def Ur(t:eX):eu (mT t)=t.text.size:=by simp[mT,eu,D.sz]
def oG(s:z):Nat->Nat->M eX->M eX×Int
 |0,_,out=>(out,-1)
 |m+1,i,out=>if i<s.size then
   (if bY s i=32\/bY s i=10 then oG s m (i+1) out
   else if bY s i=35 then oG s m (fW (λj=>!Z' (bY s j=10)) i (s.size - i)) out
   else if eB 97 122 (bY s i)=I then oG s m (Il s i) (out++[⟨1,s.extract i (Il s i),i⟩])
   else if eB 48 57 (bY s i)=I then oG s m (fW (λj=>eB 48 57 (bY s j)) i (s.size - i)) (out++[⟨2,s.extract i (fW (λj=>eB 48 57 (bY s j)) i (s.size - i)),i⟩])
   else if bY s i=34 then (match qE s s.size (i+1) with
    |none=>([],i)
    |some j=>oG s m j (out++[⟨3,It (s.extract i j),i⟩]))
   else if s_ s i=0 then ([],i) else oG s m (i+s_ s i) (out++[⟨4,s.extract i (i+s_ s i),i⟩]))
  else (out,-1)
def kL(s:z):M eX×Int:=oG s s.size 0 []
def En(l:M eX)(n:Nat):Prop:=bQ mT l<=2 * n
def En.app{l:M eX}{i j:Nat}{t:eX}(h:En l i)(c:i<j)(a:t.text.size<=j - i):En (l++[t]) j:=by unfold En at *;simp only[bQ,az,cC,bc,cA,zi,qN,aN,aK,Ur]at *;omega
def mU(s:z){i j:Nat}(h:j<=s.size):(s.extract i j).size=j - i:=by simp;omega
theorem ur{s:z}:∀(m i:Nat) (out:M eX),i<=s.size->En out i->En (oG s m i out).1 s.size
 |0,i,out,b,h=>by unfold oG En at *;dsimp only;omega
 |m+1,i,out,b,h=>by (have nil:En [] s.size:=by simp[En,bQ,qN]);unfold oG;split;{rename_i b;split;{exact ur m _ _ (by omega) (by unfold En at *;omega)};split;{rename_i o n;have a:=jH (λj=>!Z' (bY s j=10)) (s.size - i) i;exact ur m _ _ (by omega) (by unfold En at *;omega)};split;{rename_i g;have a:=Cm b g;exact ur m _ _ a.2 (h.app a.1 (by rw[mU s a.2];exact aI _))};split;{rename_i f;have a:=jH (λj=>eB 48 57 (bY s j)) (s.size - i) i;have c:i<fW (λj=>eB 48 57 (bY s j)) i (s.size - i):=by{obtain⟨k,d⟩:∃k,s.size - i=k+1:=⟨s.size - i - 1,by omega⟩;rw[d];unfold fW;rw[if_pos f];have:=(jH (λj=>eB 48 57 (bY s j)) k (i+1)).1;omega};exact ur m _ _ (by omega) (h.app c (by rw[mU s (by omega)];exact aI _))};split;{split;{exact nil};rename_i j e;have a:=x_ e;exact ur m _ _ a.2 (h.app (by omega) (aV (CJ _) (by rw[mU s a.2];exact aI _)))};split;{exact nil};rename_i l;have a:=Q7 b;exact ur m _ _ a (h.app (by omega) (by rw[mU s a];exact aI _))};unfold En at *;dsimp only;omega
def LN(s:z):bQ mT (kL s).1<=2 * s.size:=ur s.size 0 [] (bK _) (by simp[En,bQ,qN])
theorem tU{c β:Type}{b:c->u (Sg c β)}(mk:Nat->c)(fin:Nat->β)(p:Nat->Bool)(n:Nat)
  (e:∀i,i<n->b (mk i)=Z (if p i=I then .go (mk (i+1)) else .out (fin i))) (f:b (mk n)=Z (.out (fin n))):∀m i,i+m=n->bJ b (mk i)=Z (fin (fW p i m))
 |0,i,h=>by (obtain rfl:i=n:=by omega);exact aO f
 |m+1,i,h=>by have a:=e i (by omega);unfold fW;split;{rename_i d;rw[if_pos d]at a;rw[bE a];exact tU mk fin p n e f m (i+1) (by omega)};rename_i d;rw[if_neg d]at a;exact aO a
theorem KM{d β:Type}{b:d->u (Sg d β)}(mk:Nat->d)(fin:Nat->β)(p:Nat->Bool)(k n:Nat)(g:p k=J)
  (f:∀i,k<=i->i<n->b (mk (i+1))=Z (if p i=I then .go (mk i) else .out (fin (i+1)))):∀i,k<i->i<=n->bJ b (mk i)=Z (fin (vv p i))
 |0,h,_=>by omega
 |i+1,h,j=>by have c:=f i (by omega) (by omega);unfold vv;split;{rename_i a;rw[if_pos a]at c;rw[bE c];(have:k≠i:=λe=>by rw[<- e,g]at a;cases a);exact KM mk fin p k n g f i (by omega) (by omega)};rename_i a;rw[if_neg a]at c;exact aO c
def acM{i:Nat}(a:i+1<=mg):IntKind.i64.wrap (((i+1:Nat):Int) - 1)=(i:Int):=by simp only[mg]at a;rw[wrap_i64 (by omega)];omega
def ard{s:z}{i:Nat}(r:s.size<=mg)(x:i<s.size)(n:eB 97 122 (bY s i)=I):G 391 [.str s,E i]=Z (0,[E (Il s i)]):=by have y:=tU (b:=lB G B3) (λj=>(0,[.str s,.int .i64 (j:Int)])) (λj=>(0,[.str s,.int .i64 (j:Int),.bool J])) (λj=>gh (bY s j)) s.size (by intro j f;have c:=wj f r;have g:=mP s j;have l:=aeu g;have o:=Xl g;cases c1:eB 97 122 (bY s j);{cases p:eB 48 57 (bY s j);{obtain⟨v,A⟩:∃v,Z' (bY s j=45)=v:=⟨_,rfl⟩;cases v<;>simp only[go_sem,bn,B3,f,df,l,o,c,gh,c1,p,A]};simp only[go_sem,bn,B3,f,df,l,o,c,gh,c1,p]};{simp only[go_sem,bn,B3,f,df,l,c,gh,c1]}) (by simp only[go_sem,bn,B3,aG]) (s.size - i) i (by omega);have t:=jH (λj=>gh (bY s j)) (s.size - i) i;have hd:Z' (bY s i=45)=J:=by{have:=(ej _ _ _).1 n;simp;omega};have q:i<fW (λj=>gh (bY s j)) i (s.size - i):=by{have:=Cm x n;have:=DI (λj=>Z' (bY s j=45)) (fW (λj=>gh (bY s j)) i (s.size - i));unfold Il at *;omega};have st:∀j,j<s.size->lB G B4 (1,[.str s,E ((j+1:Nat):Int)])=Z (if Z' (bY s j=45)=I then .go (1,[.str s,.int .i64 (j:Int)]) else .out (0,[.str s,E ((j+1:Nat):Int),.bool J]))/\ lB G B4 (0,[.str s,E ((j+1:Nat):Int),.bool J])=Z (if Z' (bY s j=45)=I then .go (1,[.str s,.int .i64 (j:Int)]) else .out (0,[.str s,E ((j+1:Nat):Int),.bool J])):=by{intro j h;have c:=acM (i:=j) (by omega);obtain⟨v,e⟩:∃v,Z' (bY s j=45)=v:=⟨_,rfl⟩;constructor<;>cases v<;>simp only[go_sem,bn,B4,c,df _ _ h,e]};have g:=KM (b:=lB G B4) (λj=>(1,[.str s,.int .i64 (j:Int)])) (λj=>(0,[.str s,.int .i64 (j:Int),.bool J])) (λj=>Z' (bY s j=45)) i s.size hd (λj _ h=>(st j h).1);refine ch aoq rfl ?_;simp only[go_sem,aoq,y];obtain⟨k,w⟩:∃k,fW (λj=>gh (bY s j)) i (s.size - i)=k+1:=⟨fW (λj=>gh (bY s j)) i (s.size - i) - 1,by omega⟩;unfold Il;rw[w]at q t ⊢;have a:=(st k (by omega)).2;have m:bJ (lB G B4) (0,[.str s,E ((k+1:Nat):Int),.bool J])=Z (0,[.str s,E ((vv (λj=>Z' (bY s j=45)) (k+1):Nat):Int),.bool J]):=by{unfold vv;split;{rename_i d;rw[if_pos d]at a;(have B:i≠k:=λe=>by rw[<- e,hd]at d;cases d);exact (bE a).trans (g k (by omega) (by omega))};rename_i d;rw[if_neg d]at a;exact aO a};simp only[go_sem,m]
theorem aiD{s:z}(r:s.size<=mg):∀(m i:Nat),s.size<=i+m->i<=s.size+1->bJ (lB G l9) (0,[.str s,E (i:Int)])=Z (0,[E (lE (qE s m i))])\/(qE s m i=O/\∃C:Nat,bJ (lB G l9) (0,[.str s,E (i:Int)])=Z (1,[.str s,E (C:Int),.bool J])):=by intro m;induction m with|zero=>{intro i H F;(have D:¬i<s.size:=by omega);refine .inr ⟨rfl,i,aO ?_⟩;simp only[go_sem,bn,l9,D]}|succ m q=>intro i H F;by_cases a:i<s.size;{have d:=wj a r;have f:i+1<s.size->IntKind.i64.wrap (((i+1:Nat):Int)+1)=((i+2:Nat):Int):=λh=>wj h r;unfold qE;rw[if_pos a];obtain⟨v,c1⟩:∃v,Z' (bY s i=34)=v:=⟨_,rfl⟩;obtain⟨w,c⟩:∃v,Z' (bY s i=92)=v:=⟨_,rfl⟩;cases v;{(have n1:¬bY s i=34:=by simpa using c1);rw[if_neg n1];cases w;{(have n2:¬bY s i=92:=by simpa using c);rw[if_neg n2];have n:bJ (lB G l9) (0,[.str s,E (i:Int)])=bJ (lB G l9) (0,[.str s,E ((i+1:Nat):Int)]):=bE (by simp only[go_sem,bn,l9,a,df _ _ a,c1,c,d]);rw[n];exact q (i+1) (by omega) (by omega)};(have A:bY s i=92:=by simpa using c);rw[if_pos A];by_cases t:i+1=s.size;{rw[if_pos (.inl t)];(have b:((i+1:Nat):Int)=(s.size:Int):=by omega);refine .inl (aO ?_);simp only[go_sem,bn,l9,a,df _ _ a,c1,c,d,b,lE]};(have g:i+1<s.size:=by omega);(have b:Z' (((i+1:Nat):Int)=(s.size:Int))=J:=by simp;omega);have k:=df s (i+1) g;have f:=f g;obtain⟨x,e⟩:∃v,Z' (bY s (i+1)=34)=v:=⟨_,rfl⟩;obtain⟨y,l⟩:∃v,Z' (bY s (i+1)=92)=v:=⟨_,rfl⟩;by_cases j:bY s (i+1)≠34/\bY s (i+1)≠92;{rw[if_pos (.inr j)];(have p:x=J:=by rw[<- e];simpa using j.1);(have o:y=J:=by rw[<- l];simpa using j.2);subst p o;refine .inl (aO ?_);simp only[go_sem,bn,l9,a,df _ _ a,c1,c,d,b,k,e,l,lE]};rw[if_neg (by rintro (h|h);exact t h;exact j h)];have n:bJ (lB G l9) (0,[.str s,E (i:Int)])=bJ (lB G l9) (0,[.str s,E ((i+2:Nat):Int)]):=bE (by cases x<;>cases y;{exact absurd ⟨by simpa using e,by simpa using l⟩ j};{simp only[go_sem,bn,l9,a,df _ _ a,c1,c,d,b,k,e,l,f]};{simp only[go_sem,bn,l9,a,df _ _ a,c1,c,d,b,k,e,f]};simp only[go_sem,bn,l9,a,df _ _ a,c1,c,d,b,k,e,f]);rw[n];exact q (i+2) (by omega) (by omega)};(have B:bY s i=34:=by simpa using c1);rw[if_pos B];refine .inl (aO ?_);simp only[go_sem,bn,l9,a,df _ _ a,c1,d,lE]};unfold qE;rw[if_neg a];refine .inr ⟨rfl,i,aO ?_⟩;simp only[go_sem,bn,l9,a]
def anM{s:z}{i:Nat}(b:s.size<=mg)(c:i<s.size):G 392 [.str s,E i]=Z (0,[E (lE (qE s s.size (i+1)))]):=by have a:=wj c b;refine ch ai8 rfl ?_;rcases aiD b s.size (i+1) (by omega) (by omega) with h|⟨d,e,h⟩;{simp only[go_sem,ai8,a,h]};simp only[go_sem,ai8,a,h,d,lE]
def pz(t:z){a b:Nat}(h:a<=b)(c:b<=t.size):aS (.MQ I) [.str t,E (a:Int),E (b:Int)]=Z (.str (t.extract a b)):=by simp only[aS,dI,cn];rw[if_pos (by omega),if_pos (by omega)];dsimp only;rw[if_pos ⟨h,c⟩]
theorem n18:((18:Nat):Int)=18:=(rfl)
theorem GA:(⟨[123,125,59,91,93,40,41,60,62,61,43,45,47,124,46,44,36,58].toArray⟩:z)=oX:=(rfl)
def adF{s:z}{i:Nat}(c:i<s.size)(j:s.size<=mg):bJ (lB G FZ) (0,[.str s,E i,E 0])=Z (if Ik (bY s i)=I then (0,[.str (s.extract i (i+1))]) else (1,[.str s,E i,E 18,.bool J])):=by have g:=wj c j;have f:aS (.MQ I) [.str s,E (i:Int),E ((i+1:Nat):Int)]=Z (.str (s.extract i (i+1))):=pz s (by omega) (by omega);have h:=pq (b:=lB G FZ) (λk=>(0,[.str s,E i,E (k:Int)])) (λk=>!Z' (bY s i=bY oX k)) 18 (1,[.str s,E i,E 18,.bool J]) (0,[.str (s.extract i (i+1))]) (by intro k l;(have d:(k:Int)<18:=by omega);have m:=df oX k (show k<oX.size from l);(have a:IntKind.i64.wrap ((k:Int)+1)=((k+1:Nat):Int):=by rw[wrap_i64 (by omega)];omega);obtain⟨v,e⟩:∃v,Z' (bY s i=bY oX k)=v:=⟨_,rfl⟩;cases v<;>simp only[go_sem,bn,FZ,d,GA,m,df _ _ c,e,g,f,a]) (by simp only[go_sem,bn,FZ,n18]) 18 0 rfl;rw[n0]at h;rw[h];unfold Ik;cases oP (λk=>!Z' (bY s i=bY oX k)) 0 18<;>rfl
def Au(s:z)(i:Nat):z:=s.extract i (i+s_ s i)
def arf{s:z}{i:Nat}(r:s.size<=mg)(y:i<s.size):G 394 [.str s,E i]=Z (0,[.str (Au s i)]):=by have l:=adF y r;(have g:IntKind.i64.wrap ((i:Int)+2)=((i+2:Nat):Int):=by simp only[mg]at r;rw[wrap_i64 (by omega)];omega);have w:(⟨([]:M UInt8).toArray⟩:z)=l_:=(rfl);have A:s.extract i i=l_:=by{apply ab0;rw[mU s (by omega)];omega};have j:∀h:¬(i+2<=s.size/\Dq (s.extract i (i+2))=I),Au s i=if Ik (bY s i)=I then s.extract i (i+1) else l_:=by{intro h;unfold Au s_;rw[if_neg h];cases Ik (bY s i);{rw[if_neg (by simp),if_neg (by simp),dG];exact A};rw[if_pos rfl,if_pos rfl]};refine ch Mk rfl ?_;by_cases q:i+2<=s.size;{have k:aS (.MQ I) [.str s,E (i:Int),E ((i+2:Nat):Int)]=Z (.str (s.extract i (i+2))):=pz s (by omega) q;(have e:((i+2:Nat):Int)<=(s.size:Int):=by omega);have f:Dq (s.extract i (i+2))=I->Au s i=s.extract i (i+2):=by{intro h;unfold Au s_;rw[if_pos ⟨q,h⟩]};generalize s.extract i (i+2)=t at *;obtain⟨a,c1⟩:∃v,Z' (t=⟨[33,61].toArray⟩)=v:=⟨_,rfl⟩;obtain⟨b,m⟩:∃v,Z' (t=⟨[60,61].toArray⟩)=v:=⟨_,rfl⟩;obtain⟨c,n⟩:∃v,Z' (t=⟨[62,61].toArray⟩)=v:=⟨_,rfl⟩;obtain⟨d,o⟩:∃v,Z' (t=⟨[46,46].toArray⟩)=v:=⟨_,rfl⟩;have x:Dq t=(a ||(b ||(c ||d))):=by{rw[<- c1,<- m,<- n,<- o];rfl};rw[x]at f j;cases a;{cases b;{cases c;{cases d;{rw[j (by simp)];cases p:Ik (bY s i)<;>rw[p]at l;{simp only[go_sem,Mk,g,e,k,c1,m,n,o,l,w]};simp only[go_sem,Mk,g,e,k,c1,m,n,o,l]};rw[f rfl];simp only[go_sem,Mk,g,e,k,c1,m,n,o]};rw[f rfl];simp only[go_sem,Mk,g,e,k,c1,m,n]};rw[f rfl];simp only[go_sem,Mk,g,e,k,c1,m]};rw[f rfl];simp only[go_sem,Mk,g,e,k,c1]};(have e:¬((i+2:Nat):Int)<=(s.size:Int):=by omega);rw[j (λh=>q h.1)];cases p:Ik (bY s i)<;>rw[p]at l;{simp only[go_sem,Mk,g,e,l,w]};simp only[go_sem,Mk,g,e,l]
def Nr(n:Int):M D:=[.int .u8 n]
abbrev mQ(l:M Int):D:=.list 1 I (l.map Nr)
theorem M9:∀l:M Int,bytesOf (l.map Nr)=Z l
 |[]=>rfl
 |n::l=>by have h:=M9 l;simp only[bc,Nr,bytesOf]at h ⊢;rw[show bytesOf (l.map Nr)=Z l from h];rfl
def abk(l:M Int):aS .PI [mQ l]=Z (.str (txB l)):=by simp only[aS,M9,aX];rfl
def aa5(n:Int):aS (.lD 1 I) [.int .u8 n]=Z (mQ [n]):=by simp[aS,chunk,db,D.plain,Nr]
theorem TM:aS (.lD 1 I) []=Z (mQ []):=(rfl)
def acV{l:M Int}(h:l.length<=mg)(n:Int):aS (.app 1 1) [mQ l,mQ [n]]=Z (mQ (l++[n])):=by rw[dQ 1 1 I _ _ (by decide) (by simp only[mg,aj,aN,aK]at *;omega),mQ,cC]
theorem aiE{s:z}(g:s.size<=mg)(B:1<=s.size):∀(m i:Nat) (out:M Int),s.size<=i+m->out.length<=i->i<=s.size+1->∃a:Nat,bJ (lB G B5) (0,[.str s,E (i:Int),mQ out])=Z (0,[.str s,E (a:Int),.bool J,mQ (out++Dc s (s.size - 1) m i)]):=by (have d:IntKind.i64.wrap ((s.size:Int) - 1)=((s.size - 1:Nat):Int):=by simp only[mg]at g;rw[wrap_i64 (by omega)];omega);intro m;induction m with|zero=>{intro i out x o t;(have r:¬i<s.size - 1:=by omega);refine⟨i,aO ?_⟩;simp only[go_sem,bn,B5,d,r,Dc,aH]}|succ m k=>intro i out x o t;unfold Dc;by_cases c:i<s.size - 1;{rw[if_pos c];(have j:i<s.size:=by omega);have n:=wj j g;obtain⟨w,f⟩:∃v,Z' (bY s i=92)=v:=⟨_,rfl⟩;have A:IntKind.u8.wrap (bY s i)=bY s i:=wrap_u8 (mP s i);cases w;{(have n2:¬bY s i=92:=by simpa using f);rw[if_neg n2];obtain⟨a,e⟩:=k (i+1) (out++[bY s i]) (by omega) (by rw[az];simpa using o) (by omega);have h:=acV (l:=out) (by omega) (bY s i);refine⟨a,?_⟩;rw[bh]at e;refine (bE ?_).trans e;simp only[go_sem,bn,B5,d,c,df _ _ j,f,n,aa5,h]};(have q:bY s i=92:=by simpa using f);rw[if_pos q];(have b:i+1<s.size:=by omega);have p:IntKind.i64.wrap (((i+1:Nat):Int)+1)=((i+2:Nat):Int):=wj b g;have y:=df s (i+1) b;obtain⟨a,e⟩:=k (i+2) (out++[bY s (i+1)]) (by omega) (by rw[az];simp;omega) (by omega);have h:=acV (l:=out) (by omega) (bY s (i+1));refine⟨a,?_⟩;rw[bh]at e;refine (bE ?_).trans e;simp only[go_sem,bn,B5,d,c,df _ _ j,f,n,y,p,aa5,h]};rw[if_neg c];refine⟨i,aO ?_⟩;simp only[go_sem,bn,B5,d,c,aH]
theorem are{s:z}(k:s.size<=mg):∃b,G 393 [.str s]=Z (0,[.str (It s),.bool b]):=by have f:(⟨([]:M UInt8).toArray⟩:z)=l_:=(rfl);unfold It;by_cases m:s.size<2;{rw[if_pos (.inl m)];(have a:(s.size:Int)<2:=by omega);refine⟨J,ch Pf rfl ?_⟩;simp only[go_sem,Pf,a,f]};(have a:¬(s.size:Int)<2:=by omega);have d:=ji (t:=s) (by omega);have e:=anM (s:=s) (i:=0) k (by omega);rw[n0,bF]at e;obtain⟨v,c1⟩:∃v,Z' (bY s 0=34)=v:=⟨_,rfl⟩;cases v;{(have n1:¬bY s 0=34:=by simpa using c1);rw[if_pos (.inr (.inl n1))];refine⟨J,ch Pf rfl ?_⟩;simp only[go_sem,Pf,a,d,c1,f]};(have n:bY s 0=34:=by simpa using c1);obtain⟨w,g⟩:∃v,Z' (lE (qE s s.size 1)=(s.size:Int))=v:=⟨_,rfl⟩;have c:(qE s s.size 1≠Z s.size)↔w=J:=by{rw[<- g];cases c:qE s s.size 1 with|none=>{rw[decide_eq_false_iff_not];simp only[ne_eq,reduceCtorEq,not_false_eq_true,lE];try omega}|some j=>rw[decide_eq_false_iff_not];simp only[ne_eq,ao,lE];exact⟨λh o=>h (by omega),λh o=>h (by omega)⟩};cases w;{rw[if_pos (.inr (.inr (c.2 rfl)))];refine⟨J,ch Pf rfl ?_⟩;simp only[go_sem,Pf,a,d,c1,e,g,f]};rw[if_neg (by rintro (h|h|h);exact m h;exact h n;exact absurd (c.1 h) (by simp))];obtain⟨p,l⟩:=aiE k (by omega) s.size 1 [] (by omega) (by simp) (by omega);rw[n1]at l;refine⟨I,ch Pf rfl ?_⟩;simp only[go_sem,Pf,a,d,c1,e,g,TM,l,av,abk,unq]
def aa6(k:Int)(t:z)(p:Int):aS (.lD 3 I) [E k,.str t,E p]=Z (cL [⟨k,t,p⟩]):=by simp[aS,chunk,db,D.plain,mT]
theorem C3:aS (.lD 3 I) []=Z (cL []):=(rfl)
def apT{l:M eX}(h:l.length<=mg)(t:eX):aS (.app 3 32) [cL l,cL [t]]=Z (cL (l++[t])):=by rw[dQ 3 32 I _ _ (by decide) (by simp only[mg,aj,aN,aK]at *;omega),cL,cC]
def V9{s:z}(g:s.size<=mg){i f:Nat}{out:D}(e:i<s.size)(o:bY s i=35):bJ (lB G yE) (0,[.str s,E i,E f,.bool I,out])=Z (0,[.str s,E (fW (λj=>!Z' (bY s j=10)) i (s.size - i):Nat),.bool J,out]):=by have a:=wj e g;(have h:Z' (bY s i=10)=J:=by rw[o];decide);have n:=tU (b:=lB G yE) (λj=>(1,[.str s,E (j:Int),out])) (λj=>(0,[.str s,E (j:Int),.bool J,out])) (λj=>!Z' (bY s j=10)) s.size (by intro j d;have a:=wj d g;obtain⟨v,c⟩:∃v,Z' (bY s j=10)=v:=⟨_,rfl⟩;cases v<;>simp only[go_sem,bn,yE,d,df _ _ d,c,a]) (by simp only[go_sem,bn,yE,aG]) (s.size - (i+1)) (i+1) (by omega);have l:fW (λj=>!Z' (bY s j=10)) i (s.size - i)=fW (λj=>!Z' (bY s j=10)) (i+1) (s.size - (i+1)):=by{obtain⟨k,m⟩:∃k,s.size - i=k+1:=⟨s.size - (i+1),by omega⟩;rw[m,fW,if_pos (by rw[h];rfl),show s.size - (i+1)=k by omega]};rw[l,<- n];refine bE ?_;simp only[go_sem,bn,yE,e,df _ _ e,h,a]
def V_{s:z}(g:s.size<=mg){i f:Nat}{out:D}(e:i<s.size)(h:eB 48 57 (bY s i)=I):bJ (lB G yF) (0,[.str s,E i,E f,.bool I,out])=Z (0,[.str s,E (fW (λj=>eB 48 57 (bY s j)) i (s.size - i):Nat),E f,.bool J,out]):=by have a:=wj e g;have m:=Xl (mP s i);rw[h]at m;have p:=tU (b:=lB G yF) (λj=>(1,[.str s,E (j:Int),E f,out])) (λj=>(0,[.str s,E (j:Int),E f,.bool J,out])) (λj=>eB 48 57 (bY s j)) s.size (by intro j d;have a:=wj d g;have l:=Xl (mP s j);cases c:eB 48 57 (bY s j)<;>rw[c]at l<;>simp only[go_sem,bn,yF,d,df _ _ d,l,a]) (by simp only[go_sem,bn,yF,aG]) (s.size - (i+1)) (i+1) (by omega);have n:fW (λj=>eB 48 57 (bY s j)) i (s.size - i)=fW (λj=>eB 48 57 (bY s j)) (i+1) (s.size - (i+1)):=by{obtain⟨k,o⟩:∃k,s.size - i=k+1:=⟨s.size - (i+1),by omega⟩;rw[o,fW,if_pos h,show s.size - (i+1)=k by omega]};rw[n,<- p];refine bE ?_;simp only[go_sem,bn,yF,e,df _ _ e,m,a]
def LxF(s:z)(R:Nat×M D)(p:M eX×Int):Prop:=(∃x,R=(0,[.int .i64 p.2,x,cL p.1])\/R=(1,[.int .i64 p.2,x,cL p.1]))\/(∃a,R=(2,[.str s,a,.bool J,cL p.1])/\p.2=-1)
theorem Wa{s:z}(w:s.size<=4194304):∀(m i:Nat) (out:M eX),s.size<=i+m->i<=s.size->En out i->∀c,(c=(0,[.str s,E (i:Int),cL out])\/c=(1,[.str s,E (i:Int),.bool J,cL out]))->
  ∃R,bJ (lB G lN) c=Z R/\LxF s R (oG s m i out):=by (have w:s.size<=mg:=by simp only[mg];omega);have t:∀(i:Nat) (out:M eX),¬i<s.size->∀c,(c=(0,[.str s,E (i:Int),cL out])\/c=(1,[.str s,E (i:Int),.bool J,cL out]))->bJ (lB G lN) c=Z (2,[.str s,E (i:Int),.bool J,cL out]):=by{intro i out d c n;refine aO ?_;rcases n with rfl|rfl<;>simp only[go_sem,bn,lN,d]};intro m;induction m with|zero=>{intro i out h1 h2 F c n;exact⟨_,t i out (by omega) c n,.inr ⟨_,rfl,rfl⟩⟩}|succ m ih=>intro i out h1 h2 F c n;unfold oG;by_cases d:i<s.size;{rw[if_pos d];have T:out.length<=mg:=by{have:bQ mT out<=2 * i:=F;simp only[bQ,mg]at *;omega};have hw:=wj d w;have q:=df s i d;have A:=aeu (mP s i);have H:=Xl (mP s i);have B:∀{j:Nat} {l:M eX} {E':Nat×M D} {p:M eX×Int},lB G lN c=Z (.go E')->(E'=(0,[.str s,E (j:Int),cL l])\/E'=(1,[.str s,E (j:Int),.bool J,cL l]))->i<j->j<=s.size->En l j->p=oG s m j l->∃R,bJ (lB G lN) c=Z R/\LxF s R p:=by{intro j l E' p g1 Y g3 g4 g5 g6;obtain⟨R,r1,r2⟩:=ih j l (by omega) g4 g5 E' Y;exact⟨R,(bE g1).trans r1,g6▸r2⟩};have x:∀{k:Nat} {p:M eX×Int},lB G lN c=Z (.out (k,[E (i:Int),cL out,cL []]))->(k=0\/k=1)->p=([],(i:Int))->∃R,bJ (lB G lN) c=Z R/\LxF s R p:=by{intro k p g1 Y g3;refine⟨_,aO g1,.inl ⟨cL out,?_⟩⟩;rw[g3];rcases Y with rfl|rfl;{exact .inl rfl};exact .inr rfl};obtain⟨v1,c1⟩:∃v,Z' (bY s i=32)=v:=⟨_,rfl⟩;obtain⟨v2,o⟩:∃v,Z' (bY s i=10)=v:=⟨_,rfl⟩;obtain⟨v3,r⟩:∃v,Z' (bY s i=35)=v:=⟨_,rfl⟩;obtain⟨v6,K⟩:∃v,Z' (bY s i=34)=v:=⟨_,rfl⟩;by_cases L:bY s i=32\/bY s i=10;{rw[if_pos L];refine B (E':=(0,[.str s,E ((i+1:Nat):Int),cL out])) ?_ (.inl rfl) (by omega) (by omega) (by unfold En at *;omega) rfl;cases v1;{cases v2;{simp only[decide_eq_false_iff_not]at c1 o;exact absurd L (by simp[c1,o])};rcases n with rfl|rfl<;>simp only[go_sem,bn,lN,d,q,c1,o,hw]};rcases n with rfl|rfl<;>simp only[go_sem,bn,lN,d,q,c1,hw]};rw[if_neg L];(obtain rfl:v1=J:=by rw[<- c1,decide_eq_false_iff_not];exact λh=>L (.inl h));(obtain rfl:v2=J:=by rw[<- o,decide_eq_false_iff_not];exact λh=>L (.inr h));by_cases C:bY s i=35;{rw[if_pos C];have f:=V9 (f:=i) (out:=cL out) w d C;(obtain rfl:v3=I:=by rw[<- r];simpa using C);have e:=jH (λj=>!Z' (bY s j=10)) (s.size - i) i;have S:i<fW (λj=>!Z' (bY s j=10)) i (s.size - i):=by{obtain⟨k,X⟩:∃k,s.size - i=k+1:=⟨s.size - (i+1),by omega⟩;rw[X,fW,if_pos (by rw[C];decide)];have:=(jH (λj=>!Z' (bY s j=10)) k (i+1)).1;omega};refine B (E':=(1,[.str s,E (fW (λj=>!Z' (bY s j=10)) i (s.size - i):Nat),.bool J,cL out])) ?_ (.inr rfl) S (by omega) (by unfold En at *;omega) rfl;rcases n with rfl|rfl<;>simp only[go_sem,bn,lN,d,q,c1,o,r,f]};rw[if_neg C];(obtain rfl:v3=J:=by rw[<- r,decide_eq_false_iff_not];exact C);cases c4:eB 97 122 (bY s i)<;>rw[c4]at A;{rw[if_neg (by simp)];cases c5:eB 48 57 (bY s i)<;>rw[c5]at H;{rw[if_neg (by simp)];by_cases Q:bY s i=34;{rw[if_pos Q];(obtain rfl:v6=I:=by rw[<- K];simpa using Q);have f:=anM w d;cases V:qE s s.size (i+1) with|none=>{refine x (k:=0) ?_ (.inl rfl) rfl;rcases n with rfl|rfl<;>simp only[go_sem,bn,lN,d,q,c1,o,r,K,A,H,f,V,lE,C3]}|some j=>have e:=x_ V;have N:=pz s (a:=i) (b:=j) (by omega) e.2;obtain⟨b,g⟩:=are (s:=s.extract i j) (by rw[mU s e.2];omega);have y:=apT T ⟨3,It (s.extract i j),i⟩;(have hj:Z' ((j:Int)<0)=J:=by simp);refine B (E':=(0,[.str s,E (j:Int),cL (out++[⟨3,It (s.extract i j),i⟩])])) ?_ (.inl rfl) (by omega) e.2 (F.app (by omega) (aV (CJ _) (by rw[mU s e.2];exact aI _))) rfl;rcases n with rfl|rfl<;>simp only[go_sem,bn,lN,d,q,c1,o,r,K,A,H,f,V,lE,hj,N,g,aa6,y]};rw[if_neg Q];(obtain rfl:v6=J:=by rw[<- K,decide_eq_false_iff_not];exact Q);have f:=arf w d;have e:=Q7 d;by_cases U:s_ s i=0;{rw[if_pos U];have W:Au s i=⟨([]:M UInt8).toArray⟩:=by{show Au s i=l_;apply ab0;unfold Au;rw[mU s (by omega)];omega};rw[W]at f;refine x (k:=1) ?_ (.inr rfl) rfl;rcases n with rfl|rfl<;>simp only[go_sem,bn,lN,d,q,c1,o,r,K,A,H,f,C3]};rw[if_neg U];(have P:(Au s i).size=s_ s i:=by unfold Au;rw[mU s e];omega);have W:Z' (Au s i=⟨([]:M UInt8).toArray⟩)=J:=by{rw[decide_eq_false_iff_not];intro h;rw[h]at P;exact U P.symm};have y:=apT T ⟨4,Au s i,i⟩;have hz:IntKind.i64.wrap ((i:Int)+((Au s i).size:Int))=((i+s_ s i:Nat):Int):=by{rw[P];simp only[mg]at w;rw[wrap_i64 (by omega)];omega};refine B (E':=(0,[.str s,E ((i+s_ s i:Nat):Int),cL (out++[⟨4,Au s i,i⟩])])) ?_ (.inl rfl) (by omega) e (F.app (by omega) (by rw[P];omega)) rfl;rcases n with rfl|rfl<;>simp only[go_sem,bn,lN,d,q,c1,o,r,K,A,H,f,W,aa6,y,hz]};rw[if_pos rfl];have f:=V_ (f:=i) (out:=cL out) w d c5;have e:=jH (λj=>eB 48 57 (bY s j)) (s.size - i) i;have S:i<fW (λj=>eB 48 57 (bY s j)) i (s.size - i):=by{obtain⟨k,X⟩:∃k,s.size - i=k+1:=⟨s.size - (i+1),by omega⟩;rw[X,fW,if_pos c5];have:=(jH (λj=>eB 48 57 (bY s j)) k (i+1)).1;omega};generalize fW (λj=>eB 48 57 (bY s j)) i (s.size - i)=j at *;have N:=pz s (a:=i) (b:=j) (by omega) (by omega);have y:=apT T ⟨2,s.extract i j,i⟩;refine B (E':=(0,[.str s,E (j:Int),cL (out++[⟨2,s.extract i j,i⟩])])) ?_ (.inl rfl) S (by omega) (F.app S (by rw[mU s (by omega)];exact aI _)) rfl;rcases n with rfl|rfl<;>simp only[go_sem,bn,lN,d,q,c1,o,r,A,H,f,N,aa6,y]};rw[if_pos rfl];have f:=ard w d c4;have e:=Cm d c4;have N:=pz s (a:=i) (b:=Il s i) (by omega) (by omega);have y:=apT T ⟨1,s.extract i (Il s i),i⟩;refine B (E':=(0,[.str s,E (Il s i:Int),cL (out++[⟨1,s.extract i (Il s i),i⟩])])) ?_ (.inl rfl) e.1 e.2 (F.app e.1 (by rw[mU s e.2];exact aI _)) rfl;rcases n with rfl|rfl<;>simp only[go_sem,bn,lN,d,q,c1,o,r,A,f,N,aa6,y]};rw[if_neg d];exact⟨_,t i out d c n,.inr ⟨_,rfl,rfl⟩⟩
def arh{s:z}(b:s.size<=4194304):G 395 [.str s]=Z (0,[cL (kL s).1,E (kL s).2]):=by obtain⟨R,a,d⟩:=Wa b s.size 0 [] (by omega) (by omega) (by simp[En,bQ,qN]) _ (.inl rfl);rw[n0]at a;refine ch aeZ rfl ?_;unfold kL;generalize oG s s.size 0 []=p at *;rcases d with ⟨x,rfl|rfl⟩|⟨e,rfl,c⟩;{simp only[go_sem,aeZ,C3,a]};{simp only[go_sem,aeZ,C3,a]};simp only[go_sem,aeZ,C3,a,c]
def ki(L:M eX)(i:Nat)(a:Bool)(k:Int)(t:z):Bool:=!a && (match nth L i with
 |some x=>Z' (x.aA=k) && (Z' (t=l_) ||decide (x.text=t))
 |none=>J)
def tkT(L:M eX)(i:Nat):z:=match nth L i with
 |some x=>x.text
 |none=>l_
def fP{L:M eX}{i:Nat}{a:Bool}{k:Int}{t:z}(h:ki L i a k t=I):i<L.length/\a=J:=by unfold ki at h;rw[aw]at h;refine⟨?_,by simpa using h.1⟩;split at h;{rename_i x b;exact bj b};cases h.2
abbrev cP(L:M eX)(i:Nat)(a:Bool)(o:Int):M D:=[cL L,.int .i64 (i:Int),.bool a,.int .i64 o]
theorem DT:(⟨([]:M UInt8).toArray⟩:z)=l_:=(rfl)
def akN{L:M eX}{i:Nat}{x:eX}(h:nth L i=Z x):aS (.IY 3 0 1 I) [cL L,E (i:Int)]=Z (.list 0 J [mT x]):=by (have a:nth (L.map mT) i=Z (mT x):=by rw[aY,h];rfl);simp only[aS,cn,a];simp[mT,db,D.plain]
def afv{L:M eX}{i:Nat}{x:eX}(h:nth L i=Z x):aS (.IY 3 1 1 I) [cL L,E (i:Int)]=Z (.list 0 J [mT x]):=by (have a:nth (L.map mT) i=Z (mT x):=by rw[aY,h];rfl);simp only[aS,cn,a];simp[mT,db,D.plain]
def agp{L:M eX}{i:Nat}(h:i<L.length):aS .UW [cL L,E (i:Int)]=Z (.bool J):=by simp only[aS,cn,aj];rw[if_pos ⟨by omega,h⟩]
section
variable {L:M eX} {i:Nat} {bad:Bool} {o:Int} (hL:L.length<=mg)
include hL
theorem aiF{k:Int}{t:z}:G 397 (cP L i bad o++[E k,.str t])=Z (0,.bool (ki L i bad k t)::cP L i bad o):=by refine ch Xx rfl ?_;unfold ki;cases bad;{by_cases d:i<L.length;{obtain⟨x,e⟩:∃x,nth L i=Z x:=⟨_,dL d⟩;have g:=akN e;have m:=afv e;have f:=agp d;rw[e];obtain⟨a,c1⟩:∃v,Z' (x.aA=k)=v:=⟨_,rfl⟩;obtain⟨b,j⟩:∃v,Z' (t=l_)=v:=⟨_,rfl⟩;obtain⟨c,h⟩:∃v,Z' (x.text=t)=v:=⟨_,rfl⟩;cases a;{simp only[go_sem,Xx,d,g,f,og,c1,j,h,DT]};cases b;{simp only[go_sem,Xx,d,g,m,f,og,c1,j,h,DT]};simp only[go_sem,Xx,d,g,f,og,c1,j,h,DT]};(have l:nth L i=O:=by rw[ek];simp;omega);rw[l];simp only[go_sem,Xx,d]};simp only[go_sem,Xx]
def mo(L:M eX)(i:Nat)(bad:Bool)(k:Int):z×Nat×Bool:=if ki L i bad k l_=I then (tkT L i,i+1,bad) else (l_,i,I)
theorem aiG{k:Int}:G 398 (cP L i bad o++[E k])=Z (0,.str (mo L i bad k).1::cP L (mo L i bad k).2.1 (mo L i bad k).2.2 o):=by have f:=aiF (i:=i) (bad:=bad) (o:=o) hL (k:=k) (t:=l_);refine ch ai9 rfl ?_;unfold mo;simp only[cP,ax,av]at f ⊢;cases h:ki L i bad k l_;{rw[h]at f;simp only[go_sem,ai9,DT,f]};rw[h]at f;obtain⟨a,rfl⟩:=fP h;obtain⟨x,b⟩:∃x,nth L i=Z x:=⟨_,dL a⟩;have j:=afv b;have g:=agp a;have c:=wj a hL;have e:=acM (i:=i) (by omega);(have d:tkT L i=x.text:=by unfold tkT;rw[b]);simp only[go_sem,ai9,DT,f,c,e,g,j,og,d]
theorem arj{t:z}:G 400 (cP L i bad o++[.str t])=Z (0,.bool (ki L i bad 4 t)::cP L i bad o):=by have f:=aiF (i:=i) (bad:=bad) (o:=o) hL (k:=4) (t:=t);refine ch aos rfl ?_;simp only[cP,ax,av]at f ⊢;simp only[go_sem,aos,f]
def yX(L:M eX)(i:Nat)(bad:Bool)(k:Int)(t:z):Nat:=if ki L i bad k t=I then i+1 else i
theorem Io{t:z}:G 401 (cP L i bad o++[.str t])=Z (0,.bool (ki L i bad 4 t)::cP L (yX L i bad 4 t) bad o):=by have f:=arj (i:=i) (bad:=bad) (o:=o) hL (t:=t);refine ch ai_ rfl ?_;unfold yX;simp only[cP,ax,av]at f ⊢;cases h:ki L i bad 4 t;{rw[h]at f;simp only[go_sem,ai_,f]};rw[h]at f;have a:=wj (fP h).1 hL;simp only[go_sem,ai_,f,a]
theorem anN{t:z}:G 402 (cP L i bad o++[.str t])=Z (0,cP L (yX L i bad 4 t) (bad ||!ki L i bad 4 t) o):=by have f:=Io (i:=i) (bad:=bad) (o:=o) hL (t:=t);refine ch aja rfl ?_;simp only[cP,ax,av]at f ⊢;cases h:ki L i bad 4 t;{rw[h]at f;cases bad<;>simp only[go_sem,aja,f]};rw[h]at f;cases bad<;>simp only[go_sem,aja,f]
theorem arl:G 413 (cP L i bad o)=Z (0,.bool (!bad && Z' (i=L.length))::cP L i bad o):=by refine ch aot rfl ?_;obtain⟨a,c1⟩:∃v,Z' (i=L.length)=v:=⟨_,rfl⟩;(have b:Z' ((i:Int)=(L.length:Int))=a:=by rw[<- c1];exact decide_eq_decide.2 (by omega));cases bad<;>cases a<;>simp only[go_sem,aot,c1,b]
end
def ari{s:z}(a:s.size<=4194304):G 396 [.str s]=Z (0,cP (kL s).1 0 (Z' (0<=(kL s).2)) 0):=by have f:=arh a;refine ch aor rfl ?_;simp only[go_sem,aor,f];rfl
def eqA:z:=⟨#[61]⟩
def zy:z:=⟨#[91]⟩
def rbA:z:=⟨#[93]⟩
def AP:z:=⟨#[47]⟩
def Nk:z:=⟨#[46,46]⟩
theorem JY:(⟨[61].toArray⟩:z)=eqA:=(rfl)
theorem qq:(⟨[91].toArray⟩:z)=zy:=(rfl)
theorem JZ:(⟨[93].toArray⟩:z)=rbA:=(rfl)
theorem jW:(⟨[47].toArray⟩:z)=AP:=(rfl)
theorem pd:(⟨[46,46].toArray⟩:z)=Nk:=(rfl)
def Im(L:M eX)(i:Nat):Nat:=bQ mT (L.take i)
def abn{L:M eX}{i:Nat}{x:eX}(h:nth L i=Z x):Im L (i+1)=Im L i+1+x.text.size:=by unfold Im;rw[cd _ _ _ h,kM,fX,Ur];simp[bQ,qN];omega
def abm(L:M eX)(i:Nat):Im L i<=bQ mT L:=by have:=kM mT (L.take i) (L.drop i);rw[ck]at this;unfold Im;omega
def L6{L:M eX}{i:Nat}(h:i<L.length):Im L (i+1)=Im L i+1+(tkT L i).size:=by have a:=dL (l:=L) h;rw[abn a];unfold tkT;rw[a]
def CG{L:M eX}{i:Nat}{bad:Bool}{k:Int}(b:i<=L.length):(mo L i bad k).1.size+Im L i<=Im L (mo L i bad k).2.1/\i<=(mo L i bad k).2.1/\(mo L i bad k).2.1<=L.length/\
  ((mo L i bad k).2.2=J->(mo L i bad k).1.size+Im L i+1<=Im L (mo L i bad k).2.1):=by unfold mo;split;{rename_i h;have a:=(fP h).1;have:=L6 a;exact⟨by dsimp only;omega,by dsimp only;omega,a,λ_=>by dsimp only;omega⟩};have c:l_.size=0:=rfl;exact⟨by dsimp only;omega,aI _,b,λh=>by cases h⟩
def abb{L:M eX}{i:Nat}{bad:Bool}{k:Int}{t:z}(b:i<=L.length):Im L i<=Im L (yX L i bad k t)/\i<=yX L i bad k t/\yX L i bad k t<=L.length:=by unfold yX;split;{rename_i h;have a:=(fP h).1;have:=L6 a;exact⟨by omega,by omega,a⟩};exact⟨aI _,aI _,b⟩
def tA(L:M eX)(i:Nat)(a:Bool):=mo L i a 1
def tB(L:M eX)(i:Nat)(a:Bool):Nat×Bool:=(yX L (tA L i a).2.1 (tA L i a).2.2 4 eqA,(tA L i a).2.2 ||!ki L (tA L i a).2.1 (tA L i a).2.2 4 eqA)
def tC(L:M eX)(i:Nat)(a:Bool):=mo L (tB L i a).1 (tB L i a).2 3
def tD(L:M eX)(i:Nat)(a:Bool):Nat×Bool:=(yX L (tC L i a).2.1 (tC L i a).2.2 4 rbA,(tC L i a).2.2 ||!ki L (tC L i a).2.1 (tC L i a).2.2 4 rbA)
def fk(L:M eX)(i:Nat)(a:Bool):fL×Nat×Bool:=(⟨(tA L i a).1,(tC L i a).1⟩,tD L i a)
def uA{L:M eX}{i:Nat}{bad:Bool}(a:i<=L.length):eu (gT (fk L i bad).1)+Im L i<=Im L (fk L i bad).2.1/\i<=(fk L i bad).2.1/\(fk L i bad).2.1<=L.length:=by have a1:=CG (bad:=bad) (k:=1) a;have a2:=abb (bad:=(tA L i bad).2.2) (k:=4) (t:=eqA) a1.2.2.1;have a3:=CG (bad:=(tB L i bad).2) (k:=3) a2.2.2;have a4:=abb (bad:=(tC L i bad).2.2) (k:=4) (t:=rbA) a3.2.2.1;rw[Hv];unfold fk tD tC tB tA at *;dsimp only at *;omega
def lZ(L:M eX):Nat->Nat->Bool->M fL->M fL×Nat×Bool
 |0,i,bad,acc=>(acc,i,bad)
 |m+1,i,bad,acc=>if ki L i bad 4 zy=I then lZ L m (fk L (i+1) bad).2.1 (fk L (i+1) bad).2.2 (acc++[(fk L (i+1) bad).1]) else (acc,i,bad)
theorem acB{L:M eX}:∀{m i:Nat} {bad:Bool} {acc:M fL},i<=L.length->bQ gT (lZ L m i bad acc).1+Im L i<=bQ gT acc+Im L (lZ L m i bad acc).2.1/\i<=(lZ L m i bad acc).2.1/\(lZ L m i bad acc).2.1<=L.length
 |0,i,bad,acc,a=>⟨aI _,aI _,a⟩
 |m+1,i,bad,acc,a=>by unfold lZ;split;{rename_i h;have b:=(fP h).1;have e:=L6 b;have d:=uA (bad:=bad) (show i+1<=L.length from b);have c:=acB (m:=m) (bad:=(fk L (i+1) bad).2.2) (acc:=acc++[(fk L (i+1) bad).1]) d.2.2;rw[kM,fX]at c;have:bQ gT []=0:=rfl;omega};exact⟨aI _,aI _,a⟩
def mH(L:M eX)(i:Nat):eb×Nat×Bool:=(⟨(mo L i J 1).1,(lZ L L.length (mo L i J 1).2.1 (mo L i J 1).2.2 []).1⟩,(lZ L L.length (mo L i J 1).2.1 (mo L i J 1).2.2 []).2)
def Hi{L:M eX}{i:Nat}(a:i<=L.length):eu (dt (mH L i).1)+Im L i<=Im L (mH L i).2.1/\i<=(mH L i).2.1/\(mH L i).2.1<=L.length:=by have a1:=CG (bad:=J) (k:=1) a;have a2:=acB (m:=L.length) (bad:=(mo L i J 1).2.2) (acc:=[]) a1.2.2.1;rw[nN];have:bQ gT []=0:=rfl;unfold mH;dsimp only;omega
def oO(L:M eX):Nat->Nat->Bool->M eb->M eb×Nat×Bool
 |0,i,bad,acc=>(acc,i,bad)
 |m+1,i,bad,acc=>if bad=I then (acc,i,bad) else if ki L (mH L i).2.1 (mH L i).2.2 4 AP=I then oO L m ((mH L i).2.1+1) (mH L i).2.2 (acc++[(mH L i).1]) else (acc++[(mH L i).1],(mH L i).2)
theorem Ry{L:M eX}:∀{m i:Nat} {bad:Bool} {acc:M eb},i<=L.length->bQ dt (oO L m i bad acc).1+Im L i<=bQ dt acc+Im L (oO L m i bad acc).2.1+1/\i<=(oO L m i bad acc).2.1/\(oO L m i bad acc).2.1<=L.length
 |0,i,bad,acc,a=>⟨by dsimp only[oO];omega,aI _,a⟩
 |m+1,i,bad,acc,a=>by have c:=Hi a;have f:bQ dt []=0:=rfl;unfold oO;split;{exact⟨by dsimp only;omega,aI _,a⟩};split;{rename_i h;have b:=(fP h).1;have e:=L6 b;have d:=Ry (m:=m) (bad:=(mH L i).2.2) (acc:=acc++[(mH L i).1]) (show (mH L i).2.1+1<=L.length from b);rw[kM,fX]at d;omega};refine⟨?_,c.2.1,c.2.2⟩;dsimp only;rw[kM,fX];omega
def rE(L:M eX):Nat->Nat->Bool->Nat->Nat×Nat×Bool
 |0,i,bad,a=>(a,i,I)
 |m+1,i,bad,a=>if ki L i bad 4 Nk=I then (if ki L (i+1) bad 4 AP=I then rE L m (i+2) bad (a+1) else (a+1,i+1,J)) else (a,i,I)
theorem Mw{L:M eX}:∀{m i:Nat} {bad:Bool} {u:Nat},i<=L.length->i<=(rE L m i bad u).2.1/\(rE L m i bad u).2.1<=L.length/\(rE L m i bad u).1+i<=u+(rE L m i bad u).2.1
 |0,i,bad,u,a=>⟨aI _,a,aI _⟩
 |m+1,i,bad,u,a=>by unfold rE;split;{rename_i h;have d:=(fP h).1;split;{rename_i c;have b:=(fP c).1;have:=Mw (m:=m) (bad:=bad) (u:=u+1) (show i+2<=L.length from b);omega};exact⟨Nat.le_succ _,d,by dsimp only;omega⟩};exact⟨aI _,a,aI _⟩
def L1(L:M eX)(i:Nat)(a:Bool):fC×Nat×Bool:=
 if ki L i a 4 AP=I then
  (if ki L (i+1) a 1 l_=I then (⟨I,0,(oO L (L.length+1) (i+1) a []).1⟩,(oO L (L.length+1) (i+1) a []).2) else (⟨I,0,[]⟩,i+1,a))
 else if (rE L (L.length+1) i a 0).2.2=I then
  (⟨J,(rE L (L.length+1) i a 0).1,(oO L (L.length+1) (rE L (L.length+1) i a 0).2.1 a []).1⟩,(oO L (L.length+1) (rE L (L.length+1) i a 0).2.1 a []).2)
 else (⟨J,(rE L (L.length+1) i a 0).1,[]⟩,(rE L (L.length+1) i a 0).2.1,a)
def rq(L:M eX)(i:Nat)(a:Bool):fC×Nat×Bool:=((L1 L i a).1,(L1 L i a).2.1,(L1 L i a).2.2 ||!gz (L1 L i a).1)
def Rk{L:M eX}{i:Nat}{bad:Bool}(b:i<=L.length):eu (bU (L1 L i bad).1)<=bQ mT L+1/\(L1 L i bad).2.1<=L.length:=by rw[jV];have e:bQ dt []=0:=rfl;unfold L1;split;{rename_i h;have a:=(fP h).1;split;{have d:=Ry (m:=L.length+1) (bad:=bad) (acc:=[]) (show i+1<=L.length from a);have c:=abm L (oO L (L.length+1) (i+1) bad []).2.1;dsimp only;omega};exact⟨by dsimp only;omega,a⟩};have a:=Mw (m:=L.length+1) (bad:=bad) (u:=0) b;split;{have d:=Ry (m:=L.length+1) (bad:=bad) (acc:=[]) a.2.1;have c:=abm L (oO L (L.length+1) (rE L (L.length+1) i bad 0).2.1 bad []).2.1;dsimp only;omega};exact⟨by dsimp only;omega,a.2.1⟩
def eO(s:z):fC×Bool:=
 let p:=rq (kL s).1 0 (Z' (0<=(kL s).2))
 if p.2.2=J/\p.2.1=(kL s).1.length then (p.1,I) else (⟨J,0,[]⟩,J)
theorem L5(a:z):aS .pl [.str a]=Z (.bool J):=(rfl)
def JB(a b:z):aS (.lD 2 I) [.str a,.str b]=Z (cS [⟨a,b⟩]):=by simp[aS,chunk,db,D.plain,gT]
def IC{l:M fL}(h:l.length<=mg)(t:fL):aS (.app 2 32) [cS l,cS [t]]=Z (cS (l++[t])):=by rw[dQ 2 32 I _ _ (by decide) (by simp only[mg,aj,aN,aK]at *;omega),cS,cC]
def At(a:z)(b:M fL):aS (.lD 2 J) [.str a,cS b]=Z (bP [⟨a,b⟩]):=by rw[gW 2 _ rfl (by decide)];rfl
def M3{l:M eb}(h:l.length<=mg)(t:eb):aS (.app 2 40) [bP l,bP [t]]=Z (bP (l++[t])):=by rw[dQ 2 40 J _ _ (by decide) (by simp only[mg,aj,aN,aK]at *;omega),bP,cC]
section
variable {L:M eX} (hL:L.length<=mg) {a b c d nmv:D} {o:Int}
include hL
theorem Ed{i:Nat}{bad:Bool}(h:ki L i bad 4 zy=I) :
  G 401 (cP L i bad o++[.str zy])=Z (0,.bool I::cP L (i+1) bad o)/\
  G 398 (cP L (i+1) bad o++[E 1])=Z (0,.str (tA L (i+1) bad).1::cP L (tA L (i+1) bad).2.1 (tA L (i+1) bad).2.2 o)/\
  G 402 (cP L (tA L (i+1) bad).2.1 (tA L (i+1) bad).2.2 o++[.str eqA])=Z (0,cP L (tB L (i+1) bad).1 (tB L (i+1) bad).2 o)/\
  G 398 (cP L (tB L (i+1) bad).1 (tB L (i+1) bad).2 o++[E 3])=Z (0,.str (tC L (i+1) bad).1::cP L (tC L (i+1) bad).2.1 (tC L (i+1) bad).2.2 o)/\
  G 402 (cP L (tC L (i+1) bad).2.1 (tC L (i+1) bad).2.2 o++[.str rbA])=Z (0,cP L (tD L (i+1) bad).1 (tD L (i+1) bad).2 o):=by have e:=Io (i:=i) (bad:=bad) (o:=o) hL (t:=zy);rw[h]at e;unfold yX at e;rw[if_pos h]at e;exact⟨e,aiG hL,anN hL,aiG hL,anN hL⟩
theorem Wb:∀(m i:Nat) (bad:Bool) (e:M fL),L.length<=i+m->i<=L.length->e.length<=i->
  bJ (lB G uf) (1,[a,b,c,d,nmv,E (i:Int),.bool bad,E o,cS e,cL L]) =
   Z (1,[.bool J,a,b,c,d,nmv,E ((lZ L m i bad e).2.1:Int),.bool (lZ L m i bad e).2.2,E o,cS (lZ L m i bad e).1,cL L]):=by intro m;induction m with|zero=>{intro i bad e y x w;have h:ki L i bad 4 zy=J:=by{cases h:ki L i bad 4 zy;{rfl};have:=(fP h).1;omega};have f:=Io (i:=i) (bad:=bad) (o:=o) hL (t:=zy);rw[h]at f;unfold yX at f;rw[if_neg (by rw[h];simp)]at f;simp only[cP,ax,av]at f;refine aO ?_;simp only[go_sem,bn,uf,qq,f,lZ]}|succ m r=>intro i bad e y x w;cases h:ki L i bad 4 zy;{have f:=Io (i:=i) (bad:=bad) (o:=o) hL (t:=zy);rw[h]at f;unfold yX at f;rw[if_neg (by rw[h];simp)]at f;simp only[cP,ax,av]at f;unfold lZ;rw[if_neg (by rw[h];simp)];refine aO ?_;simp only[go_sem,bn,uf,qq,f]};obtain⟨q,p,n,k,j⟩:=Ed (o:=o) hL h;have v:=uA (bad:=bad) (show i+1<=L.length from (fP h).1);simp only[cP,ax,av]at q p n k j;have g:=IC (l:=e) (by omega) (fk L (i+1) bad).1;have s:=r (fk L (i+1) bad).2.1 (fk L (i+1) bad).2.2 (e++[(fk L (i+1) bad).1]) (by omega) v.2.2 (by rw[az,aQ];omega);unfold lZ;rw[if_pos h];rw[<- s];unfold fk at g ⊢;refine bE ?_;simp only[go_sem,bn,uf,qq,JY,JZ,q,p,n,k,j,JB,g]
theorem aaA{i:Nat}{bad:Bool}(A:i<=L.length):∃R,bJ (lB G uf) (0,[a,b,c,d,nmv,E (i:Int),.bool bad,E o,cL L])=Z R/\
  (((lZ L L.length i bad []).1=[]/\R=(0,[.bool J,a,b,c,d,nmv,E ((lZ L L.length i bad []).2.1:Int),.bool (lZ L L.length i bad []).2.2,E o,cL L]))\/
   R=(1,[.bool J,a,b,c,d,nmv,E ((lZ L L.length i bad []).2.1:Int),.bool (lZ L L.length i bad []).2.2,E o,cS (lZ L L.length i bad []).1,cL L])):=by cases h:ki L i bad 4 zy;{have f:=Io (i:=i) (bad:=bad) (o:=o) hL (t:=zy);rw[h]at f;unfold yX at f;rw[if_neg (by rw[h];simp)]at f;simp only[cP,ax,av]at f;have e:lZ L L.length i bad []=([],i,bad):=by{cases L.length with|zero=>{rfl}|succ m=>unfold lZ;rw[if_neg (by rw[h];simp)]};rw[e];refine⟨_,aO (r:=(0,[.bool J,a,b,c,d,nmv,E (i:Int),.bool bad,E o,cL L])) ?_,.inl ⟨rfl,rfl⟩⟩;simp only[go_sem,bn,uf,qq,f]};obtain⟨s,q,p,n,j⟩:=Ed (o:=o) hL h;have y:=(fP h).1;have x:=uA (bad:=bad) (show i+1<=L.length from y);simp only[cP,ax,av]at s q p n j;have g:aS (.app 2 32) [.list 2 I [],cS [(fk L (i+1) bad).1]]=Z (cS [(fk L (i+1) bad).1]):=IC (l:=[]) (by simp) _;obtain⟨k,w⟩:∃k,L.length=k+1:=⟨L.length - 1,by omega⟩;have v:=Wb hL (a:=a) (b:=b) (c:=c) (d:=d) (nmv:=nmv) (o:=o) k (fk L (i+1) bad).2.1 (fk L (i+1) bad).2.2 ([]++[(fk L (i+1) bad).1]) (by omega) x.2.2 (by simp;omega);have e:lZ L L.length i bad []=lZ L k (fk L (i+1) bad).2.1 (fk L (i+1) bad).2.2 ([]++[(fk L (i+1) bad).1]):=by{rw[w];(conv=>lhs;unfold lZ);rw[if_pos h]};rw[e];refine⟨_,(bE ?_).trans v,.inr rfl⟩;unfold fk at g ⊢;simp only[go_sem,bn,uf,qq,JY,JZ,s,q,p,n,j,JB,g]
theorem Wc{st:D}:∀(m i:Nat) (bad:Bool) (e:M fL),L.length<=i+m->i<=L.length->e.length<=i->
  bJ (lB G ug) (1,[a,b,c,d,nmv,E (i:Int),.bool bad,E o,cS e,st,cL L]) =
   Z (1,[.bool J,a,b,c,d,nmv,E ((lZ L m i bad e).2.1:Int),.bool (lZ L m i bad e).2.2,E o,cS (lZ L m i bad e).1,st,cL L]):=by intro m;induction m with|zero=>{intro i bad e y x w;have h:ki L i bad 4 zy=J:=by{cases h:ki L i bad 4 zy;{rfl};have:=(fP h).1;omega};have f:=Io (i:=i) (bad:=bad) (o:=o) hL (t:=zy);rw[h]at f;unfold yX at f;rw[if_neg (by rw[h];simp)]at f;simp only[cP,ax,av]at f;refine aO ?_;simp only[go_sem,bn,ug,qq,f,lZ]}|succ m r=>intro i bad e y x w;cases h:ki L i bad 4 zy;{have f:=Io (i:=i) (bad:=bad) (o:=o) hL (t:=zy);rw[h]at f;unfold yX at f;rw[if_neg (by rw[h];simp)]at f;simp only[cP,ax,av]at f;unfold lZ;rw[if_neg (by rw[h];simp)];refine aO ?_;simp only[go_sem,bn,ug,qq,f]};obtain⟨q,p,n,k,j⟩:=Ed (o:=o) hL h;have v:=uA (bad:=bad) (show i+1<=L.length from (fP h).1);simp only[cP,ax,av]at q p n k j;have g:=IC (l:=e) (by omega) (fk L (i+1) bad).1;have s:=r (fk L (i+1) bad).2.1 (fk L (i+1) bad).2.2 (e++[(fk L (i+1) bad).1]) (by omega) v.2.2 (by rw[az,aQ];omega);unfold lZ;rw[if_pos h];rw[<- s];unfold fk at g ⊢;refine bE ?_;simp only[go_sem,bn,ug,qq,JY,JZ,q,p,n,k,j,JB,g]
theorem aaB{st:D}{i:Nat}{bad:Bool}(A:i<=L.length):∃R,bJ (lB G ug) (0,[a,b,c,d,nmv,E (i:Int),.bool bad,E o,st,cL L])=Z R/\
  (((lZ L L.length i bad []).1=[]/\R=(0,[.bool J,a,b,c,d,nmv,E ((lZ L L.length i bad []).2.1:Int),.bool (lZ L L.length i bad []).2.2,E o,st,cL L]))\/
   R=(1,[.bool J,a,b,c,d,nmv,E ((lZ L L.length i bad []).2.1:Int),.bool (lZ L L.length i bad []).2.2,E o,cS (lZ L L.length i bad []).1,st,cL L])):=by cases h:ki L i bad 4 zy;{have f:=Io (i:=i) (bad:=bad) (o:=o) hL (t:=zy);rw[h]at f;unfold yX at f;rw[if_neg (by rw[h];simp)]at f;simp only[cP,ax,av]at f;have e:lZ L L.length i bad []=([],i,bad):=by{cases L.length with|zero=>{rfl}|succ m=>unfold lZ;rw[if_neg (by rw[h];simp)]};rw[e];refine⟨_,aO (r:=(0,[.bool J,a,b,c,d,nmv,E (i:Int),.bool bad,E o,st,cL L])) ?_,.inl ⟨rfl,rfl⟩⟩;simp only[go_sem,bn,ug,qq,f]};obtain⟨s,q,p,n,j⟩:=Ed (o:=o) hL h;have y:=(fP h).1;have x:=uA (bad:=bad) (show i+1<=L.length from y);simp only[cP,ax,av]at s q p n j;have g:aS (.app 2 32) [.list 2 I [],cS [(fk L (i+1) bad).1]]=Z (cS [(fk L (i+1) bad).1]):=IC (l:=[]) (by simp) _;obtain⟨k,w⟩:∃k,L.length=k+1:=⟨L.length - 1,by omega⟩;have v:=Wc hL (a:=a) (b:=b) (c:=c) (d:=d) (nmv:=nmv) (o:=o) (st:=st) k (fk L (i+1) bad).2.1 (fk L (i+1) bad).2.2 ([]++[(fk L (i+1) bad).1]) (by omega) x.2.2 (by simp;omega);have e:lZ L L.length i bad []=lZ L k (fk L (i+1) bad).2.1 (fk L (i+1) bad).2.2 ([]++[(fk L (i+1) bad).1]):=by{rw[w];(conv=>lhs;unfold lZ);rw[if_pos h]};rw[e];refine⟨_,(bE ?_).trans v,.inr rfl⟩;unfold fk at g ⊢;simp only[go_sem,bn,ug,qq,JY,JZ,s,q,p,n,j,JB,g]
end
section
variable {L:M eX} (hL:L.length<=mg) {r1 u1 rt up:D} {o:Int}
include hL
theorem Po{i:Nat}:G 398 (cP L i J o++[E 1])=Z (0,.str (mo L i J 1).1::cP L (mo L i J 1).2.1 (mo L i J 1).2.2 o):=aiG hL
theorem AQ{i:Nat}{bad:Bool}:G 401 (cP L i bad o++[.str AP])=Z (0,.bool (ki L i bad 4 AP)::cP L (if ki L i bad 4 AP=I then i+1 else i) bad o):=Io hL
theorem Wd:∀(m i:Nat) (bad:Bool) (e:M eb),L.length+1<=i+m->i<=L.length->e.length<=i->
  bJ (lB G nF) (1,[.bool I,r1,u1,rt,up,E (i:Int),.bool bad,E o,bP e,cL L]) =
   Z (1,[.bool J,r1,u1,rt,up,E ((oO L m i bad e).2.1:Int),.bool (oO L m i bad e).2.2,E o,bP (oO L m i bad e).1,cL L]):=by intro m;induction m with|zero=>{intro i bad e F r;omega}|succ m y=>intro i bad e F r K;cases bad;{have s:=Po (o:=o) hL (i:=i);have C:=Hi r;have A:=CG (bad:=J) (k:=1) r;obtain⟨R,x,H⟩:=aaB hL (a:=r1) (b:=u1) (c:=rt) (d:=up) (nmv:=.str (mo L i J 1).1) (o:=o) (st:=bP e) (i:=(mo L i J 1).2.1) (bad:=(mo L i J 1).2.2) A.2.2.1;have g:=AQ (o:=o) hL (i:=(mH L i).2.1) (bad:=(mH L i).2.2);have p:=M3 (l:=e) (by omega) (mH L i).1;unfold oO;rw[if_neg (by simp)];have w:(mH L i).1=⟨(mo L i J 1).1,(lZ L L.length (mo L i J 1).2.1 (mo L i J 1).2.2 []).1⟩:=rfl;have h:(mH L i).2=(lZ L L.length (mo L i J 1).2.1 (mo L i J 1).2.2 []).2:=rfl;simp only[cP,ax,av]at s g;rw[h]at g C;rw[h];generalize lZ L L.length (mo L i J 1).2.1 (mo L i J 1).2.2 []=q at *;obtain⟨t,i2,j⟩:=q;dsimp only at *;have B:=At (mo L i J 1).1 t;have n:aS (.lD 2 J) [.str (mo L i J 1).1,.list 2 I []]=Z (bP [⟨(mo L i J 1).1,[]⟩]):=At _ [];rw[w]at p;rw[w];have go:∀v:Bool,ki L i2 j 4 AP=v->lB G nF (1,[.bool I,r1,u1,rt,up,E (i:Int),.bool J,E o,bP e,cL L])=Z (.go (1,[.bool v,r1,u1,rt,up,E ((if v=I then i2+1 else i2:Nat):Int),.bool j,E o,bP (e++[⟨(mo L i J 1).1,t⟩]),cL L])):=by{intro v f;rw[f]at g;rcases H with ⟨rfl,rfl⟩|rfl;{simp only[go_sem,bn,nF,jW,s,x,L5,n,p,g]};simp only[go_sem,bn,nF,jW,s,x,L5,B,p,g]};cases f:ki L i2 j 4 AP;{rw[if_neg (by simp),bE (go J f)];refine aO ?_;simp only[go_sem,bn,nF]};rw[if_pos rfl,bE (go I f),if_pos rfl];exact y (i2+1) j _ (by omega) (fP f).1 (by rw[az,aQ];omega)};unfold oO;rw[if_pos rfl];refine aO ?_;simp only[go_sem,bn,nF]
theorem Ow{x:D}{i:Nat}{bad more:Bool}(w:i<=L.length):∃R,bJ (lB G nF) (0,[.bool more,x,r1,u1,rt,up,E (i:Int),.bool bad,E o,cL L])=Z R/\
  (((if more=I then oO L (L.length+1) i bad [] else ([],i,bad)).1=[]/\R=(0,[.bool J,r1,u1,rt,up,E ((if more=I then oO L (L.length+1) i bad [] else ([],i,bad)).2.1:Int),.bool (if more=I then oO L (L.length+1) i bad [] else ([],i,bad)).2.2,E o,cL L]))\/
   R=(1,[.bool J,r1,u1,rt,up,E ((if more=I then oO L (L.length+1) i bad [] else ([],i,bad)).2.1:Int),.bool (if more=I then oO L (L.length+1) i bad [] else ([],i,bad)).2.2,E o,bP (if more=I then oO L (L.length+1) i bad [] else ([],i,bad)).1,cL L])):=by cases more;{refine⟨_,aO (r:=(0,[.bool J,r1,u1,rt,up,E (i:Int),.bool bad,E o,cL L])) ?_,.inl ⟨rfl,rfl⟩⟩;simp only[go_sem,bn,nF]};rw[if_pos rfl];cases bad;{have s:=Po (o:=o) hL (i:=i);have H:=Hi w;have B:=CG (bad:=J) (k:=1) w;obtain⟨R,A,N⟩:=aaA hL (a:=r1) (b:=u1) (c:=rt) (d:=up) (nmv:=.str (mo L i J 1).1) (o:=o) (i:=(mo L i J 1).2.1) (bad:=(mo L i J 1).2.2) B.2.2.1;have g:=AQ (o:=o) hL (i:=(mH L i).2.1) (bad:=(mH L i).2.2);have p:aS (.app 2 40) [.list 2 J [],bP [(mH L i).1]]=Z (bP [(mH L i).1]):=M3 (l:=[]) (by simp) _;have e:oO L (L.length+1) i J []=if ki L (mH L i).2.1 (mH L i).2.2 4 AP=I then oO L L.length ((mH L i).2.1+1) (mH L i).2.2 [(mH L i).1] else ([(mH L i).1],(mH L i).2):=by{(conv=>lhs;unfold oO);rw[if_neg (by simp)];rfl};rw[e];have t:(mH L i).1=⟨(mo L i J 1).1,(lZ L L.length (mo L i J 1).2.1 (mo L i J 1).2.2 []).1⟩:=rfl;have j:(mH L i).2=(lZ L L.length (mo L i J 1).2.1 (mo L i J 1).2.2 []).2:=rfl;simp only[cP,ax,av]at s g;clear e;rw[j]at g H;rw[j];rw[t]at p;rw[t];generalize lZ L L.length (mo L i J 1).2.1 (mo L i J 1).2.2 []=q at *;obtain⟨m,i2,h⟩:=q;dsimp only at *;have F:=At (mo L i J 1).1 m;have n:aS (.lD 2 J) [.str (mo L i J 1).1,.list 2 I []]=Z (bP [⟨(mo L i J 1).1,[]⟩]):=At _ [];have go:∀v:Bool,ki L i2 h 4 AP=v->lB G nF (0,[.bool I,x,r1,u1,rt,up,E (i:Int),.bool J,E o,cL L])=Z (.go (1,[.bool v,r1,u1,rt,up,E ((if v=I then i2+1 else i2:Nat):Int),.bool h,E o,bP [⟨(mo L i J 1).1,m⟩],cL L])):=by{intro v f;rw[f]at g;rcases N with ⟨rfl,rfl⟩|rfl;{simp only[go_sem,bn,nF,jW,s,A,L5,n,p,g]};simp only[go_sem,bn,nF,jW,s,A,L5,F,p,g]};cases f:ki L i2 h 4 AP;{rw[if_neg (by simp)];refine⟨_,(bE (go J f)).trans (aO (r:=(1,[.bool J,r1,u1,rt,up,E (i2:Int),.bool h,E o,bP [⟨(mo L i J 1).1,m⟩],cL L])) ?_),.inr rfl⟩;simp only[go_sem,bn,nF]};rw[if_pos rfl];have K:=(fP f).1;have C:=Wd hL (r1:=r1) (u1:=u1) (rt:=rt) (up:=up) (o:=o) L.length (i2+1) h [⟨(mo L i J 1).1,m⟩] (by omega) K (by simp);have y:=go I f;rw[if_pos rfl]at y;exact⟨_,(bE y).trans C,.inr rfl⟩};have e:oO L (L.length+1) i I []=([],i,I):=by{unfold oO;rw[if_pos rfl]};rw[e];refine⟨_,aO (r:=(0,[.bool J,r1,u1,rt,up,E (i:Int),.bool I,E o,cL L])) ?_,.inl ⟨rfl,rfl⟩⟩;simp only[go_sem,bn,nF]
theorem Sw{i:Nat}{bad:Bool}:G 401 (cP L i bad o++[.str Nk])=Z (0,.bool (ki L i bad 4 Nk)::cP L (if ki L i bad 4 Nk=I then i+1 else i) bad o):=Io hL
theorem We:∀(m i:Nat) (bad:Bool) (a:Nat),L.length+1<=i+m->i<=L.length->a<=i->
  bJ (lB G qa) (1,[.bool I,r1,u1,.bool J,E (a:Int),E (i:Int),.bool bad,E o,cL L]) =
   Z (0,[.bool (rE L m i bad a).2.2,.bool J,r1,u1,.bool J,E ((rE L m i bad a).1:Int),E ((rE L m i bad a).2.1:Int),.bool bad,E o,cL L]):=by intro m;induction m with|zero=>{intro i bad a g c;omega}|succ m f=>intro i bad a g c j;have b:=Sw (o:=o) hL (i:=i) (bad:=bad);simp only[cP,ax,av]at b;unfold rE;cases h:ki L i bad 4 Nk;{rw[h]at b;rw[if_neg (by simp)];refine aO ?_;simp only[go_sem,bn,qa,pd,b]};rw[h]at b;rw[if_pos rfl];have k:=(fP h).1;(have e:IntKind.i64.wrap ((a:Int)+1)=((a+1:Nat):Int):=by simp only[mg]at hL;rw[wrap_i64 (by omega)];omega);have d:=AQ (o:=o) hL (i:=i+1) (bad:=bad);simp only[cP,ax,av]at d;cases c:ki L (i+1) bad 4 AP;{rw[c]at d;rw[if_neg (by simp)];refine (bE (s':=(1,[.bool J,r1,u1,.bool J,E ((a+1:Nat):Int),E ((i+1:Nat):Int),.bool bad,E o,cL L])) ?_).trans (aO ?_);{simp only[go_sem,bn,qa,pd,jW,b,d,e]};simp only[go_sem,bn,qa]};rw[c]at d;rw[if_pos rfl,<- f (i+2) bad (a+1) (by omega) (fP c).1 (by omega)];refine bE ?_;simp only[go_sem,bn,qa,pd,jW,b,d,e]
end
theorem uB(b:Bool):aS .pl [.bool b]=Z (.bool J):=(rfl)
section
variable {L:M eX} (hL:bQ mT L<=8388608) {o:Int}
include hL
theorem uG:L.length<=mg:=by simp only[bQ,mg]at *;omega
theorem aaC{r1 u1 x:D}{i:Nat}{bad:Bool}(f:i<=L.length) :
  bJ (lB G qa) (0,[.bool I,x,r1,u1,.bool J,E 0,E (i:Int),.bool bad,E o,cL L]) =
   Z (0,[.bool (rE L (L.length+1) i bad 0).2.2,.bool J,r1,u1,.bool J,E ((rE L (L.length+1) i bad 0).1:Int),E ((rE L (L.length+1) i bad 0).2.1:Int),.bool bad,E o,cL L]):=by have c:=uG hL;have a:=Sw (o:=o) c (i:=i) (bad:=bad);simp only[cP,ax,av]at a;unfold rE;cases h:ki L i bad 4 Nk;{rw[h]at a;rw[if_neg (by simp)];refine aO ?_;simp only[go_sem,bn,qa,pd,a];rfl};rw[h]at a;rw[if_pos rfl];have g:=(fP h).1;have e:IntKind.i64.wrap 1=1:=rfl;have b:=AQ (o:=o) c (i:=i+1) (bad:=bad);simp only[cP,ax,av]at b;cases d:ki L (i+1) bad 4 AP;{rw[d]at b;rw[if_neg (by simp)];refine (bE (s':=(1,[.bool J,r1,u1,.bool J,E ((0+1:Nat):Int),E ((i+1:Nat):Int),.bool bad,E o,cL L])) ?_).trans (aO ?_);{simp only[go_sem,bn,qa,pd,jW,a,b,e]};simp only[go_sem,bn,qa]};rw[d]at b;rw[if_pos rfl,<- We c L.length (i+2) bad (0+1) (by omega) (fP d).1 (by omega)];refine bE ?_;simp only[go_sem,bn,qa,pd,jW,a,b,e]
theorem ark{i:Nat}{bad:Bool}(r:i<=L.length):G 406 (cP L i bad o)=Z (0,bU (rq L i bad).1++cP L (rq L i bad).2.1 (rq L i bad).2.2 o):=by have j:=uG hL;have b:=AQ (o:=o) j (i:=i) (bad:=bad);have A:=Rk (bad:=bad) r;have a:=aet (p:=(L1 L i bad).1) (by simp only[mg];omega);unfold rq;have c:L1 L i bad=L1 L i bad:=rfl;(conv at c=>rhs;unfold L1);simp only[cP,ax,av]at b;cases h:ki L i bad 4 AP;{rw[h]at b c;rw[if_neg (by simp)]at c;have e:=aaC hL (r1:=.bool J) (u1:=E 0) (x:=.bool J) (o:=o) (bad:=bad) r;have v:=Mw (m:=L.length+1) (bad:=bad) (u:=0) r;obtain⟨R,d,f⟩:=Ow j (r1:=.bool J) (u1:=E 0) (rt:=.bool J) (up:=E ((rE L (L.length+1) i bad 0).1:Int)) (o:=o) (x:=.bool J) (bad:=bad) (more:=(rE L (L.length+1) i bad 0).2.2) v.2.1;have s:L1 L i bad=(⟨J,(rE L (L.length+1) i bad 0).1,(if (rE L (L.length+1) i bad 0).2.2=I then oO L (L.length+1) (rE L (L.length+1) i bad 0).2.1 bad [] else ([],(rE L (L.length+1) i bad 0).2.1,bad)).1⟩,(if (rE L (L.length+1) i bad 0).2.2=I then oO L (L.length+1) (rE L (L.length+1) i bad 0).2.1 bad [] else ([],(rE L (L.length+1) i bad 0).2.1,bad)).2):=by{rw[c];split<;>rfl};clear c;rw[s]at a ⊢;generalize (if (rE L (L.length+1) i bad 0).2.2=I then oO L (L.length+1) (rE L (L.length+1) i bad 0).2.1 bad [] else ([],(rE L (L.length+1) i bad 0).2.1,bad))=q at *;obtain⟨l,i2,y⟩:=q;simp only[bU,cP,ax,av]at a f ⊢;refine ch Ir rfl ?_;cases n:gz ⟨J,((rE L (L.length+1) i bad 0).1:Int),l⟩<;>rw[n]at a;{rcases f with ⟨rfl,rfl⟩|rfl;{have a:G 205 [.bool J,E ((rE L (L.length+1) i bad 0).1:Int),.list 2 J []]=_:=a;simp only[go_sem,Ir,jW,b,e,d,a,dh,dZ];rfl};simp only[go_sem,Ir,jW,b,e,d,uB,a,dh,dZ]};rcases f with ⟨rfl,rfl⟩|rfl;{have a:G 205 [.bool J,E ((rE L (L.length+1) i bad 0).1:Int),.list 2 J []]=_:=a;simp only[go_sem,Ir,jW,b,e,d,a,dv,dF];rfl};simp only[go_sem,Ir,jW,b,e,d,uB,a,dv,dF]};rw[h]at b c;rw[if_pos rfl]at c;have w:=(fP h).1;have g:=aiF (i:=i+1) (bad:=bad) (o:=o) j (k:=1) (t:=l_);have e:bJ (lB G QY) (0,[.bool (ki L (i+1) bad 1 l_),.bool J,E 0,.bool I,E 0,E ((i+1:Nat):Int),.bool bad,E o,cL L])=Z (0,[.bool (ki L (i+1) bad 1 l_),.bool J,.bool J,E 0,.bool I,E 0,E ((i+1:Nat):Int),.bool bad,E o,cL L]):=by{refine aO ?_;cases ki L (i+1) bad 1 l_<;>simp only[go_sem,bn,QY]};obtain⟨R,d,f⟩:=Ow j (r1:=.bool J) (u1:=E 0) (rt:=.bool I) (up:=E 0) (o:=o) (x:=.bool J) (bad:=bad) (more:=ki L (i+1) bad 1 l_) (show i+1<=L.length from w);have s:L1 L i bad=(⟨I,0,(if ki L (i+1) bad 1 l_=I then oO L (L.length+1) (i+1) bad [] else ([],i+1,bad)).1⟩,(if ki L (i+1) bad 1 l_=I then oO L (L.length+1) (i+1) bad [] else ([],i+1,bad)).2):=by{rw[c];split<;>rfl};clear c;rw[s]at a ⊢;generalize (if ki L (i+1) bad 1 l_=I then oO L (L.length+1) (i+1) bad [] else ([],i+1,bad))=q at *;obtain⟨l,i2,y⟩:=q;simp only[bU,cP,ax,av]at a f g ⊢;refine ch Ir rfl ?_;cases n:gz ⟨I,0,l⟩<;>rw[n]at a;{rcases f with ⟨rfl,rfl⟩|rfl;{have a:G 205 [.bool I,E 0,.list 2 J []]=_:=a;simp only[go_sem,Ir,jW,DT,b,g,e,d,a,dh,dZ];rfl};simp only[go_sem,Ir,jW,DT,b,g,e,d,uB,a,dh,dZ]};rcases f with ⟨rfl,rfl⟩|rfl;{have a:G 205 [.bool I,E 0,.list 2 J []]=_:=a;simp only[go_sem,Ir,jW,DT,b,g,e,d,a,dv,dF];rfl};simp only[go_sem,Ir,jW,DT,b,g,e,d,uB,a,dv,dF]
end
def anQ{s:z}(g:s.size<=4194304):G 421 [.str s]=Z (0,bU (eO s).1++[.bool (eO s).2]):=by have c:=ari g;(have e:bQ mT (kL s).1<=8388608:=by have:=LN s;omega);have b:=ark e (o:=0) (i:=0) (bad:=Z' (0<=(kL s).2)) (bK _);unfold eO;dsimp only;generalize rq (kL s).1 0 (Z' (0<=(kL s).2))=q at *;obtain⟨p,i2,f⟩:=q;have a:=arl (uG e) (i:=i2) (bad:=f) (o:=0);simp only[bU,cP,ax,av]at c b a;refine ch ae1 rfl ?_;cases f;{by_cases h:i2=(kL s).1.length;{rw[if_pos ⟨rfl,h⟩];(have d:Z' (i2=(kL s).1.length)=I:=by simpa using h);rw[d]at a;simp only[go_sem,ae1,c,b,a,bU]};rw[if_neg (λx=>h x.2)];(have d:Z' (i2=(kL s).1.length)=J:=by simpa using h);rw[d]at a;simp only[go_sem,ae1,c,b,a,bU];rfl};rw[if_neg (λx=>by cases x.1)];simp only[go_sem,ae1,c,b,a,bU];rfl
def fy(b:Bool)(f:cM):M cM:=if b=I then [f] else []
def gK(t:M aE)(n:aq)(x:aE)(a:M z)(at_:M Int):M cM:=
 fy (!fj t n.when at_) ⟨6,a,at_⟩++(fy (!fj t n.gZ at_) ⟨7,a,at_⟩++fy (Z' (n.type.aA=5) && !iA (qR t at_ (eO n.type.path).1) x.bu) ⟨8,a,at_⟩)
def Jb(l:M z)(v x:z):iA (l++[v]) x=(iA l x ||decide (v=x)):=by unfold iA;rw[List.any_append];simp only[hO,List.any_nil,dF];congr 1;exact decide_eq_decide.2 eq_comm
section
variable {ns at_ nm ks t o:D} {V:M z} {x:z}
theorem aht{i:Nat}{v:z}(a:nth V i=Z v)(e:V.length<=mg):lB G qd (0,[ns,at_,.bool (iA (V.take i) x),E (i:Int),nm,.str x,ks,t,aJ V,o])=Z (.go (1,[ns,at_,aJ V,.bool (iA (V.take (i+1)) x),E ((i+1:Nat):Int),nm,.str x,ks,t,aJ V,o])):=by have c:=bj a;have d:=wj c e;have f:=wO a;rw[cd _ _ _ a,Jb];generalize iA (V.take i) x=b;cases b<;>simp only[go_sem,bn,qd,aj,c,f,d]
theorem ahu{i:Nat}{v:z}(a:nth V i=Z v)(e:V.length<=mg):lB G qd (1,[ns,at_,aJ V,.bool (iA (V.take i) x),E (i:Int),nm,.str x,ks,t,aJ V,o])=Z (.go (1,[ns,at_,aJ V,.bool (iA (V.take (i+1)) x),E ((i+1:Nat):Int),nm,.str x,ks,t,aJ V,o])):=by have c:=bj a;have d:=wj c e;have f:=wO a;rw[cd _ _ _ a,Jb];generalize iA (V.take i) x=b;cases b<;>simp only[go_sem,bn,qd,aj,c,f,d]
theorem ahv{b:Bool}:lB G qd (0,[ns,at_,.bool b,E V.length,nm,.str x,ks,t,aJ V,o])=Z (.out (0,[ns,at_,.bool b,E V.length,.bool J,nm,.str x,ks,t,aJ V,o])):=by simp only[go_sem,bn,qd,aj,aG]
theorem ahw{b:Bool}:lB G qd (1,[ns,at_,aJ V,.bool b,E V.length,nm,.str x,ks,t,aJ V,o])=Z (.out (1,[ns,at_,aJ V,.bool b,E V.length,.bool J,nm,.str x,ks,t,aJ V,o])):=by simp only[go_sem,bn,qd,aj,aG]
theorem adH(c:V.length<=mg):∃R,bJ (lB G qd) (0,[ns,at_,.bool J,E 0,nm,.str x,ks,t,aJ V,o])=Z R/\(R=(0,[ns,at_,.bool (iA V x),E V.length,.bool J,nm,.str x,ks,t,aJ V,o])\/R=(1,[ns,at_,aJ V,.bool (iA V x),E V.length,.bool J,nm,.str x,ks,t,aJ V,o])):=by cases V with|nil=>{exact⟨_,aO (ahv (V:=[]) (b:=J)),.inl rfl⟩}|cons v a=>have f:=aht (V:=v::a) (x:=x) (i:=0) (v:=v) (ns:=ns) (at_:=at_) (nm:=nm) (ks:=ks) (t:=t) (o:=o) rfl c;have e:=cO (b:=lB G qd) (v::a) (λi (b:Bool)=>(1,[ns,at_,aJ (v::a),.bool b,E (i:Int),nm,.str x,ks,t,aJ (v::a),o])) (λi=>iA ((v::a).take i) x) (1,[ns,at_,aJ (v::a),.bool (iA (v::a) x),E (v::a).length,.bool J,nm,.str x,ks,t,aJ (v::a),o]) (λi y d=>ahu d c) (by rw[bq];exact ahw) a.length 1 (by simp only[aN];omega);exact⟨_,(bE f).trans e,.inr rfl⟩
end
def anW{t:M aE}{out:M cM}{n:aq}{x:aE}{ns:M z}{at_:M Int}(F:bQ bl t+1<=mg)(N:at_.length+eu (aC n)<=mg)(K:n.type.path.size<=4194304)(B:at_.length+eu (bU (eO n.type.path).1)<=mg)(P:out.length+3<=1073741824)(H:ns.length<=mg) :
  G 469 ([aB t,bI out]++(aC n++(bl x++[aJ ns,bH at_])))=Z (0,[aB t,bI (out++gK t n x ns at_)]):=by have L:=cp n;(have C:at_.length<=mg:=by omega);have y:=λo:M cM=>Xn (t:=t) (out:=o) (es:=n.when) (at_:=at_) F (by omega);have A:=λo:M cM=>Xn (t:=t) (out:=o) (es:=n.gZ) (at_:=at_) F (by omega);have fa:=λ(o:M cM) (c:Int) (h:o.length<=1073741824)=>Xo (T_:=aB t) (out:=o) (c:=c) (ns:=ns) (at_:=at_) h H C;have d:=anQ K;have b:=anU (l:=t) (at_:=at_) (p:=(eO n.type.path).1) (by omega) B;have Q:=AZ t at_ (eO n.type.path).1;simp only[bU,ax,av]at d b;have lp:=λa:D=>adH (ns:=aJ ns) (at_:=bH at_) (nm:=.str x.au) (ks:=aB x.ai) (t:=aB t) (o:=a) (V:=qR t at_ (eO n.type.path).1) (x:=x.bu) (by omega);refine ch CE (by rw[ak,aR];rfl) ?_;cases q:fj t n.when at_;{cases m:fj t n.gZ at_;{have k:=y out;rw[q]at k;have w:=fa out 6 (by omega);have j:=A (out++[⟨6,ns,at_⟩]);rw[m]at j;have v:=fa (out++[⟨6,ns,at_⟩]) 7 (by first|omega|(simp only[az,aQ];omega));by_cases e:n.type.aA=5;{obtain⟨R,r,g⟩:=lp (bI ((out++[⟨6,ns,at_⟩])++[⟨7,ns,at_⟩]));cases i:iA (qR t at_ (eO n.type.path).1) x.bu;{have s:=fa ((out++[⟨6,ns,at_⟩])++[⟨7,ns,at_⟩]) 8 (by first|omega|(simp only[az,aQ];omega));(have f:out++gK t n x ns at_=(((out++[⟨6,ns,at_⟩])++[⟨7,ns,at_⟩])++[⟨8,ns,at_⟩]):=by simp[gK,fy,q,m,e,i]);rw[f];rw[i]at g;rcases g with rfl|rfl<;>simp only[go_sem,CE,ak,aR,k,w,j,v,e,d,b,r,s]};(have f:out++gK t n x ns at_=((out++[⟨6,ns,at_⟩])++[⟨7,ns,at_⟩]):=by simp[gK,fy,q,m,e,i]);rw[f];rw[i]at g;rcases g with rfl|rfl<;>simp only[go_sem,CE,ak,aR,k,w,j,v,e,d,b,r]};(have f:out++gK t n x ns at_=((out++[⟨6,ns,at_⟩])++[⟨7,ns,at_⟩]):=by simp[gK,fy,q,m,e]);rw[f];simp only[go_sem,CE,ak,aR,k,w,j,v,e]};have k:=y out;rw[q]at k;have w:=fa out 6 (by omega);have j:=A (out++[⟨6,ns,at_⟩]);rw[m]at j;by_cases e:n.type.aA=5;{obtain⟨R,r,g⟩:=lp (bI (out++[⟨6,ns,at_⟩]));cases i:iA (qR t at_ (eO n.type.path).1) x.bu;{have s:=fa (out++[⟨6,ns,at_⟩]) 8 (by first|omega|(simp only[az,aQ];omega));(have f:out++gK t n x ns at_=((out++[⟨6,ns,at_⟩])++[⟨8,ns,at_⟩]):=by simp[gK,fy,q,m,e,i]);rw[f];rw[i]at g;rcases g with rfl|rfl<;>simp only[go_sem,CE,ak,aR,k,w,j,e,d,b,r,s]};(have f:out++gK t n x ns at_=(out++[⟨6,ns,at_⟩]):=by simp[gK,fy,q,m,e,i]);rw[f];rw[i]at g;rcases g with rfl|rfl<;>simp only[go_sem,CE,ak,aR,k,w,j,e,d,b,r]};(have f:out++gK t n x ns at_=(out++[⟨6,ns,at_⟩]):=by simp[gK,fy,q,m,e]);rw[f];simp only[go_sem,CE,ak,aR,k,w,j,e]};cases m:fj t n.gZ at_;{have k:=y out;rw[q]at k;have j:=A out;rw[m]at j;have v:=fa out 7 (by first|omega|(simp only[az,aQ];omega));by_cases e:n.type.aA=5;{obtain⟨R,r,g⟩:=lp (bI (out++[⟨7,ns,at_⟩]));cases i:iA (qR t at_ (eO n.type.path).1) x.bu;{have s:=fa (out++[⟨7,ns,at_⟩]) 8 (by first|omega|(simp only[az,aQ];omega));(have f:out++gK t n x ns at_=((out++[⟨7,ns,at_⟩])++[⟨8,ns,at_⟩]):=by simp[gK,fy,q,m,e,i]);rw[f];rw[i]at g;rcases g with rfl|rfl<;>simp only[go_sem,CE,ak,aR,k,j,v,e,d,b,r,s]};(have f:out++gK t n x ns at_=(out++[⟨7,ns,at_⟩]):=by simp[gK,fy,q,m,e,i]);rw[f];rw[i]at g;rcases g with rfl|rfl<;>simp only[go_sem,CE,ak,aR,k,j,v,e,d,b,r]};(have f:out++gK t n x ns at_=(out++[⟨7,ns,at_⟩]):=by simp[gK,fy,q,m,e]);rw[f];simp only[go_sem,CE,ak,aR,k,j,v,e]};have k:=y out;rw[q]at k;have j:=A out;rw[m]at j;by_cases e:n.type.aA=5;{obtain⟨R,r,g⟩:=lp (bI out);cases i:iA (qR t at_ (eO n.type.path).1) x.bu;{have s:=fa out 8 (by first|omega|(simp only[az,aQ];omega));(have f:out++gK t n x ns at_=(out++[⟨8,ns,at_⟩]):=by simp[gK,fy,q,m,e,i]);rw[f];rw[i]at g;rcases g with rfl|rfl<;>simp only[go_sem,CE,ak,aR,k,j,e,d,b,r,s]};(have f:out++gK t n x ns at_=out:=by simp[gK,fy,q,m,e,i]);rw[f];rw[i]at g;rcases g with rfl|rfl<;>simp only[go_sem,CE,ak,aR,k,j,e,d,b,r]};(have f:out++gK t n x ns at_=out:=by simp[gK,fy,q,m,e]);rw[f];simp only[go_sem,CE,ak,aR,k,j,e]
def Wt{n:aq}{l:M aE}{ns at_ t o:D}(m:l.length<=mg) :
  bJ (lB G B9) (0,[aB l,ns,at_,E 0,E 0]++(aC n++[t,o]))=Z (0,[aB l,ns,at_,E (named l n.au).length,E l.length,.bool J]++(aC n++[t,o])):=by have h:=cO (b:=lB G B9) l (λk (c:Nat)=>(0,[aB l,ns,at_,E (c:Int),E (k:Int)]++(aC n++[t,o]))) (λk=>(named (l.take k) n.au).length) (0,[aB l,ns,at_,E (named l n.au).length,E l.length,.bool J]++(aC n++[t,o])) (by intro k x d;have e:=bj d;have f:=wj e m;have g:=ij d;have j:=GC d n.au;have q:(named (l.take k) n.au).length<=k:=by{have:=eW (λx:aE=>Z' (x.au=n.au)) (l.take k);rw[bo]at this;unfold named;omega};rw[j,az];have i:IntKind.i64.wrap (((named (l.take k) n.au).length:Int)+1)=(((named (l.take k) n.au).length+1:Nat):Int):=wi1 (n:=mg+1) (by omega) (by decide);generalize (named (l.take k) n.au).length=c at *;by_cases a:x.au=n.au;{rw[if_pos a,aQ];simp only[go_sem,bn,B9,ak n,aR x,aj,e,g,a,f,i]};rw[if_neg a,aK,dG];simp only[go_sem,bn,B9,ak n,aR x,aj,e,g,a,f]) (by simp only[go_sem,bn,B9,ak n,aj,aG,bq]) l.length 0 (by omega);have p:named [] n.au=[]:=rfl;rw[bB,p,aK,n0]at h;exact h
def Xa{a:Type}{l:M a}{k j:Nat}{y:a}(h:nth (l.take k) j=Z y):nth l j=Z y/\j<k:=by rw[ek,fq]at h;rw[ek];split at h;{exact⟨h,by assumption⟩};cases h
def Wu{n:aq}{l:M aE}{ns:M z}{at_ t:D}{here:M Int}{out:M cM}{k:Nat}{x:aE}(i:nth l k=Z x)(H:bQ bl l<=mg)(C:n.unique.length<=mg)(F:out.length<=1073741824)(v:ns.length<=mg)(L:here.length<=mg) :
  bJ (lB G vZ) (0,[aB l,aJ ns,at_,E (k:Int),bH here,E 0]++(aC n++[t,bH here,bI out]))=Z (if ((l.take k).any λy=>Z' (y.au=n.au) && uniq n y x)=I
   then (0,[aB l,aJ ns,at_,E (k:Int),bH here]++(aC n++[t,bH here,bI (out++[⟨5,ns,here⟩])]))
   else (1,[aB l,aJ ns,at_,E (k:Int),bH here,E (k:Int),.bool J]++(aC n++[t,bH here,bI out]))):=by
 (have N:l.length<=mg:=by simp only[bQ]at H;omega);have P:=bj i;have m:(l.take k).length=k:=by rw[bo];omega
 have h:=q9 (b:=lB G vZ) (l.take k) (λj=>(0,[aB l,aJ ns,at_,E (k:Int),bH here,E (j:Int)]++(aC n++[t,bH here,bI out]))) (λy=>Z' (y.au=n.au) && uniq n y x)
  (1,[aB l,aJ ns,at_,E (k:Int),bH here,E (k:Int),.bool J]++(aC n++[t,bH here,bI out])) (0,[aB l,aJ ns,at_,E (k:Int),bH here]++(aC n++[t,bH here,bI (out++[⟨5,ns,here⟩])])) (by
  intro j y K;obtain⟨p,d⟩:=Xa K;have q:=wj d (by omega:k<=mg);have o:=ij p;have s:=ij i;have A:=cy bl (bp p);have Q:=cy bl (bp i);have w:=eF y;have B:=eF x;have f:=arC (n:=n) (a:=y) (b:=x) C (by simp only[bQ]at *;omega) (by simp only[bQ]at *;omega);have g:=Xo (T_:=t) (out:=out) (c:=5) (ns:=ns) (at_:=here) F v L;simp only[ak n,aR,ax,av]at f;by_cases e:y.au=n.au
  .rw[e]at f;cases r:uniq n y x
   .rw[r]at f;simp only[go_sem,bn,vZ,ak n,aR,d,o,s,gl,e,f,q]
   .rw[r]at f;simp only[go_sem,bn,vZ,ak n,aR,d,o,s,gl,e,f,g]
  .simp only[go_sem,bn,vZ,ak n,aR,d,o,e,q]) (by
  rw[m];simp only[go_sem,bn,vZ,ak n,aG])
 rw[n0]at h;exact h
abbrev FK:=M aq->M aE->M z->M Int->M cM
def mB(r:FK)(t:M aE)(n:aq)(l:M aE)(own:M z)(at_:M Int)(k:Nat)(x:aE):M cM:=
 if x.au=n.au then gK t n x own (at_++[(k:Int)])++(fy ((l.take k).any λy=>Z' (y.au=n.au) && uniq n y x) ⟨5,own,at_++[(k:Int)]⟩++if n.aA=2 then r n.ai x.ai own (at_++[(k:Int)]) else []) else []
def gV{a β:Type}(f:Nat->a->M β):Nat->M a->M β
 |_,[]=>[]
 |k,x::xs=>f k x++gV f (k+1) xs
def KC(r:FK)(t:M aE)(n:aq)(l:M aE)(own:M z)(at_:M Int):M cM:=
 fy (Z' (((named l n.au).length:Int)<n.min) && fj t n.when (at_++[-1]) ||decide (0<n.max) && Z' (n.max<((named l n.au).length:Int))) ⟨4,own,at_⟩++gV (mB r t n l own at_) 0 l
def oB(r:FK)(t:M aE)(l:M aE)(a:M z)(at_:M Int)(c:aq):M cM:=
 if pr l c=I then fy (!fj t c.when at_) ⟨6,a,at_⟩++r c.ai l a at_ else []
def Vc(r:FK)(t:M aE)(n:aq)(l:M aE)(a:M z)(at_:M Int):M cM:=
 fy (Z' (0<(n.ai.filter (pr l)).length) && !fj t n.when at_) ⟨6,a,at_⟩++(fy (Z' (1<(n.ai.filter (pr l)).length)) ⟨3,a,at_⟩ ++
  (fy (Z' ((n.ai.filter (pr l)).length=0) && (n.dB && fj t n.when at_)) ⟨2,a,at_⟩++n.ai.flatMap (oB r t l a at_)))
def Vb(r:FK)(t:M aE)(n:aq)(l:M aE)(own:M z)(at_:M Int):M cM:=match iK l n.au with
 |some k=>match nth l k with
  |some x=>gK t n x own (at_++[(k:Int)])++r n.ai x.ai own (at_++[(k:Int)])
  |none=>[]
 |none=>if n.aA=3/\n.dB=I/\fj t n.when (at_++[-1])=I then [⟨2,own,at_⟩] else if n.aA=1/\n.dq=J/\fj t n.when (at_++[-1])=I then r n.ai [] own (at_++[-1]) else []
def Vd(r:FK)(t:M aE)(l:M aE)(a:M z)(at_:M Int)(n:aq):M cM:=
 if n.aA=5 then Vc r t n l a at_ else if nn n.aA=I then KC r t n l (a++[n.au]) at_ else Vb r t n l (a++[n.au]) at_
def A9(t:M aE):Nat->FK
 |0,_,_,_,_=>[]
 |m+1,s,l,ns,at_=>s.flatMap (Vd (A9 t m) t l ns at_)
theorem EL{a β:Type}(f:Nat->a->M β)(x:a):∀(l:M a) (k:Nat),gV f k (l++[x])=gV f k l++f (k+l.length) x
 |[],k=>by rw[av,gV,gV,gV,aH];rfl
 |y::l,k=>by rw[ax,gV,gV,EL f x l (k+1),bh,aN,show k+1+l.length=k+(l.length+1) by omega]
def Qn{a β:Type}(f:Nat->a->M β){l:M a}{k:Nat}{x:a}(h:nth l k=Z x):gV f 0 (l.take (k+1))=gV f 0 (l.take k)++f k x:=by (have b:(l.take k).length=k:=by rw[bo];have:=bj h;omega);rw[cd _ _ _ h,EL,b,bF]
theorem NB{a β:Type}(f:Nat->a->M β):∀(l:M a) (k i:Nat),(gV f i (l.take k)).length<=(gV f i l).length
 |[],k,i=>by rw[List.take_nil];exact aI _
 |x::l,0,i=>bK _
 |x::l,k+1,i=>by rw[cT,gV,gV,az,az];have:=NB f l k (i+1);omega
def Yg(r:FK)(t:M aE)(s:M aq)(l:M aE)(a:M z)(at_:M Int):Prop:=∀o:M cM,(o++r s l a at_).length+3<=1073741824->G 467 [aB t,bI o,aD s,aB l,aJ a,bH at_]=Z (0,[aB t,bI (o++r s l a at_)])
def Wv{r:FK}{t:M aE}{n:aq}{l:M aE}{own:M z}{at_:M Int}{out:M cM}(L:bQ bl t+1<=mg)(H:bQ bl l<=mg)(U:at_.length+1+eu (aC n)<=mg)(P:n.type.path.size<=4194304)(N:at_.length+1+eu (bU (eO n.type.path).1)<=mg)(C:own.length<=mg)
  (Q:(out++gV (mB r t n l own at_) 0 l).length+3<=1073741824) (F:n.aA=2->∀k x,nth l k=Z x->x.au=n.au->Yg r t n.ai x.ai own (at_++[(k:Int)])) :
  bJ (lB G ui) (0,[aB l,aJ own,bH at_,E 0]++(aC n++[aB t,bI out]))=Z (0,[aB l,aJ own,bH at_,E l.length,.bool J]++(aC n++[aB t,bI (out++gV (mB r t n l own at_) 0 l)])):=by (have K:l.length<=mg:=by simp only[bQ]at H;omega);have T:=cp n;have h:=cO (b:=lB G ui) l (λk (o:M cM)=>(0,[aB l,aJ own,bH at_,.int .i64 (k:Int)]++(aC n++[aB t,bI o]))) (λk=>out++gV (mB r t n l own at_) 0 (l.take k)) (0,[aB l,aJ own,bH at_,E l.length,.bool J]++(aC n++[aB t,bI (out++gV (mB r t n l own at_) 0 l)])) (by intro k x m;have p:=bj m;have q:=wj p K;have s:=ij m;have R:=NB (mB r t n l own at_) l (k+1) 0;have B:=Qn (mB r t n l own at_) m;rw[B]at R;rw[B,<- bh out];rw[az]at Q;have c:((out++gV (mB r t n l own at_) 0 (l.take k))++mB r t n l own at_ k x).length+3<=1073741824:=by{rw[bh,az];omega};generalize out++gV (mB r t n l own at_) 0 (l.take k)=o at *;by_cases g:x.au=n.au;{have w:mB r t n l own at_ k x=gK t n x own (at_++[(k:Int)])++(fy ((l.take k).any λy=>Z' (y.au=n.au) && uniq n y x) ⟨5,own,at_++[(k:Int)]⟩++if n.aA=2 then r n.ai x.ai own (at_++[(k:Int)]) else []):=by{unfold mB;rw[if_pos g]};rw[w]at c ⊢;(have j:(at_++[(k:Int)]).length=at_.length+1:=by simp);have d:=aeD (at_:=at_) (by omega) (k:Int);have a:=anW (t:=t) (out:=o) (n:=n) (x:=x) (ns:=own) (at_:=at_++[(k:Int)]) L (by rw[j];omega) P (by rw[j];omega) (by simp only[az]at c;omega) C;have f:=Wu (n:=n) (l:=l) (ns:=own) (at_:=bH at_) (t:=aB t) (here:=at_++[(k:Int)]) (out:=o++gK t n x own (at_++[(k:Int)])) (k:=k) (x:=x) m H (by simp only[bQ]at *;omega) (by simp only[az]at c ⊢;omega) C (by rw[j];omega);simp only[ak n,aR,ax,av]at a f;rw[g]at a;generalize gK t n x own (at_++[(k:Int)])=A at *;cases D:(l.take k).any λy=>Z' (y.au=n.au) && uniq n y x;{rw[D]at f c;rw[if_neg (by simp)]at f;have i:fy J ⟨5,own,at_++[(k:Int)]⟩=[]:=rfl;rw[i,av]at c ⊢;by_cases e:n.aA=2;{rw[if_pos e]at c ⊢;have v:=F e k x m g (o++A) (by rw[bh];exact c);rw[bh o A]at v;rw[e]at f a;simp only[go_sem,bn,ui,ak n,aR,aj,p,s,gl,g,e,d,a,f,v,q]};rw[if_neg e]at c ⊢;rw[aH];simp only[go_sem,bn,ui,ak n,aR,aj,p,s,gl,g,e,d,a,f,q]};rw[D]at f c;rw[if_pos rfl]at f;have i:fy I ⟨5,own,at_++[(k:Int)]⟩=[⟨5,own,at_++[(k:Int)]⟩]:=rfl;rw[i]at c ⊢;by_cases e:n.aA=2;{rw[if_pos e]at c ⊢;have v:=F e k x m g (o++A++[⟨5,own,at_++[(k:Int)]⟩]) (by simp only[bh]at c ⊢;exact c);(have S:o++(A++([⟨5,own,at_++[(k:Int)]⟩]++r n.ai x.ai own (at_++[(k:Int)])))=o++A++[⟨5,own,at_++[(k:Int)]⟩]++r n.ai x.ai own (at_++[(k:Int)]):=by simp only[bh]);rw[S];rw[e]at f a;simp only[go_sem,bn,ui,ak n,aR,aj,p,s,gl,g,e,d,a,f,v,q]};rw[if_neg e]at c ⊢;rw[aH,<- bh o];simp only[go_sem,bn,ui,ak n,aR,aj,p,s,gl,g,e,d,a,f,q]};(have w:mB r t n l own at_ k x=[]:=by unfold mB;rw[if_neg g]);rw[w,aH];simp only[go_sem,bn,ui,ak n,aR,aj,p,s,g,q]) (by simp only[go_sem,bn,ui,ak n,aj,aG,bq]) l.length 0 (by omega);rw[bB,gV,aH,n0]at h;exact h
def xD(l:M aE)(c:aq):Bool:=l.any λx=>iA ((dk c.ai).map aq.au) x.au
def Qy(r:FK)(t:M aE)(n:aq)(l:M aE)(own:M z)(at_:M Int):M cM:=
 if n.aA=3 then fy (Z' ((named l n.au).length=0) && (n.dB && fj t n.when (at_++[-1]))) ⟨2,own,at_⟩
 else if n.aA=4\/n.aA=2 then fy (Z' (((named l n.au).length:Int)<n.min) && fj t n.when (at_++[-1]) ||!Z' (n.max=0) && Z' (n.max<((named l n.au).length:Int))) ⟨4,own,at_⟩
 else if n.aA=1/\(named l n.au).length=0/\n.dq=J/\fj t n.when (at_++[-1])=I then r n.ai [] own (at_++[-1]) else []
def pT(r:FK)(t:M aE)(n:aq)(l:M aE)(own:M z)(at_:M Int)(k:Nat)(x:aE):M cM:=
 if x.au=n.au then gK t n x own (at_++[(k:Int)])++(fy (Z' (n.aA=2) && (l.take k).any λy=>Z' (y.au=n.au) && uniq n y x) ⟨5,own,at_++[(k:Int)]⟩++if n.aA=1\/n.aA=2 then r n.ai x.ai own (at_++[(k:Int)]) else []) else []
def xU(r:FK)(t:M aE)(n:aq)(l:M aE)(own:M z)(at_:M Int):M cM:=Qy r t n l own at_++gV (pT r t n l own at_) 0 l
def NM(r:FK)(t:M aE)(n:aq)(l:M aE)(a:M z)(at_:M Int):M cM:=
 fy (Z' (0<(n.ai.filter (xD l)).length) && !fj t n.when at_) ⟨6,a,at_⟩++(fy (Z' (1<(n.ai.filter (xD l)).length)) ⟨3,a,at_⟩ ++
  (fy (Z' ((n.ai.filter (xD l)).length=0) && (n.dB && fj t n.when at_)) ⟨2,a,at_⟩++n.ai.flatMap λc=>if xD l c=I then fy (!fj t c.when at_) ⟨6,a,at_⟩++r c.ai l a at_ else []))
def ES(r:FK)(t:M aE)(l:M aE)(a:M z)(at_:M Int)(n:aq):M cM:=
 if n.aA=5 then NM r t n l a at_ else xU r t n l (a++[n.au]) at_
def NO(t:M aE):Nat->FK
 |0,_,_,_,_=>[]
 |m+1,s,l,ns,at_=>s.flatMap (ES (NO t m) t l ns at_)
def adi(l:M aE)(c:aq):pr l c=xD l c:=by rw[dU];unfold pr xD iA;simp only[fG,dx,decide_eq_true_eq];constructor;{rintro⟨d,hd,f⟩;obtain⟨k,e⟩:=cB.1 f;obtain⟨x,h,g⟩:=dy e;exact⟨x,bp h,d.au,⟨d,hd,rfl⟩,by simpa using g⟩};rintro⟨x,a,i,⟨d,hd,rfl⟩,b⟩;refine⟨d,hd,?_⟩;unfold iK;rw[pV,fG];exact⟨x,a,by simp[b]⟩
theorem I4{a β:Type}{f:Nat->a->M β}:∀{l:M a} {k:Nat},(∀i,∀x∈l,f i x=[])->gV f k l=[]
 |[],k,h=>rfl
 |x::l,k,h=>by rw[gV,h k x (by simp),I4 λi y b=>h i y (by simp[b])];rfl
theorem vE{a β:Type}{f g:Nat->a->M β}:∀{l:M a} {k:Nat},(∀i,∀x∈l,f i x=g i x)->gV f k l=gV g k l
 |[],k,h=>rfl
 |x::l,k,h=>by rw[gV,gV,h k x (by simp),vE λi y b=>h i y (by simp[b])]
theorem Bv{a β:Type}{f:Nat->a->M β}{p:a->Bool}(c:∀i x,p x=J->f i x=[]):∀{l:M a} {k:Nat},(l.filter p).length<=1->gV f k l=match u7 p l k with
  |none=>[]
  |some j=>match nth l (j - k) with
   |none=>[]
   |some x=>f j x
 |[],k,h=>rfl
 |x::l,k,h=>by rw[gV,u7];cases b:p x;{rw[c k x b,av,Bv c (by rw[kN,b]at h;simpa using h),if_neg (by simp)];cases g:u7 p l (k+1) with|none=>{rfl}|some j=>obtain⟨_,n,_,_⟩:=KJ g;dsimp only;rw[show j - k=(j - (k+1))+1 by omega];rfl};rw[if_pos rfl];have m:l.filter p=[]:=by{rw[kN,b]at h;simp only[if_true,aN]at h;exact cD (by omega)};rw[I4 λi y d=>c i y (by cases e:p y;{rfl};have:y∈l.filter p:=gF.2 ⟨d,e⟩;rw[m]at this;cases this),aH];dsimp only;rw[xy];rfl
def CO:Nat->M aq->M aE->Prop
 |0,_,_=>True
 |m+1,s,l=>∀d∈dk s,(nn d.aA=J->(named l d.au).length<=1)/\∀x∈l,x.au=d.au->CO m d.ai x.ai
def JI{a b:Bool}{f:cM}(h:a=b):fy a f=fy b f:=by rw[h]
theorem ac8{r m:FK}{t:M aE}{n:aq}{l:M aE}{own:M z}{at_:M Int}(hd:j6 n.aA=I)(K:0<=n.max)
  (F:n.aA=3->n.ai=[]) (B:n.aA=4->n.unique=[]) (C:∀o at_,r [] [] o at_=[]) (s:∀l o at_,r [] l o at_=[]) (A:nn n.aA=J->(named l n.au).length<=1)
  (w:∀x∈l,x.au=n.au->∀at_,r n.ai x.ai own at_=m n.ai x.ai own at_) (q:n.aA=1->∀at_,r n.ai [] own at_=m n.ai [] own at_) :
  (if nn n.aA=I then KC r t n l own at_ else Vb r t n l own at_)=xU m t n l own at_:=by have D:n.aA=1\/n.aA=2\/n.aA=3\/n.aA=4:=by{have:=(ej _ _ _).1 hd;omega};(have g:∀(x:aE),(λy:aE=>Z' (y.au=n.au)) x=J->¬x.au=n.au:=λx h=>by simpa using h);have j:∀nb:z,(named l nb).length=0↔iK l nb=O:=by{intro nb;constructor;{intro h;have H:named l nb=[]:=cD h;cases b:iK l nb with|none=>{rfl}|some k=>obtain⟨x,a1,a2⟩:=dy b;have:x∈named l nb:=gF.2 ⟨bp a1,a2⟩;rw[H]at this;cases this};intro h;unfold named;rw[fe,wI];intro x d;rw[ZX h d];simp};rcases D with h|h|h|h;{(have a:nn n.aA=J:=by rw[h];rfl);rw[if_neg (by rw[a];simp)];unfold xU Vb Qy;rw[Bv (p:=λy:aE=>Z' (y.au=n.au)) (λi x d=>by unfold pT;rw[if_neg (g x d)]) (A a)];rw[h];have c:=j n.au;unfold iK at c ⊢;cases b:u7 (λe:aE=>Z' (e.au=n.au)) l 0 with|none=>{have f:=c.2 b;simp only[f,aH,true_and,if_false,rG,or_self,false_and];split;{rename_i v;exact q h _};rfl}|some k=>obtain⟨x,a1,a2⟩:=dy b;(have a3:x.au=n.au:=by simpa using a2);(have f:¬(named l n.au).length=0:=λe=>by rw[c.1 e]at b;cases b);simp only[a1,rI,rG,if_false,or_self,f,false_and,and_false,av];unfold pT;rw[if_pos a3,if_pos (.inl h),h];simp only[rG,decide_false,dH,fy,aL,if_false,av];rw[w x (bp a1) a3]};{(have a:nn n.aA=I:=by rw[h];rfl);rw[if_pos a];unfold xU KC Qy;rw[if_neg (by omega),if_pos (.inr h)];congr 1;{apply JI;congr 2;rw[dU,decide_eq_true_eq,cx,decide_eq_false_iff_not];omega};refine vE λi x d=>?_;unfold mB pT;split;{rename_i v;rw[if_pos (show n.aA=1\/n.aA=2 from .inr h),w x d v];have G:Z' (n.aA=2)=I:=decide_eq_true h;rw[G,dw]};rfl};{(have a:nn n.aA=J:=by rw[h];rfl);rw[if_neg (by rw[a];simp)];unfold xU Vb Qy;rw[Bv (p:=λy:aE=>Z' (y.au=n.au)) (λi x d=>by unfold pT;rw[if_neg (g x d)]) (A a)];rw[h];have c:=j n.au;unfold iK at c ⊢;cases b:u7 (λe:aE=>Z' (e.au=n.au)) l 0 with|none=>{have f:=c.2 b;simp only[f,if_true,aH,true_and,rG,if_false,false_and,decide_true,dw,fy,aw]}|some k=>obtain⟨x,a1,a2⟩:=dy b;(have a3:x.au=n.au:=by simpa using a2);(have f:¬(named l n.au).length=0:=λe=>by rw[c.1 e]at b;cases b);simp only[a1,rI,if_true,f,decide_false,dH,fy,aL,if_false,av];unfold pT;rw[if_pos a3,if_neg (by omega),h,F h,s];simp[fy]};(have a:nn n.aA=I:=by rw[h];rfl);rw[if_pos a];unfold xU KC Qy;rw[if_neg (by omega),if_pos (.inl h)];congr 1;{apply JI;congr 2;rw[dU,decide_eq_true_eq,cx,decide_eq_false_iff_not];omega};refine vE λi x d=>?_;unfold mB pT;split;{rename_i v;(have c:∀y,uniq n y x=J:=λy=>by unfold uniq;rw[B h];rfl);rw[if_neg (by omega),if_neg (by omega),h];simp[c,fy]};rfl
def Dh(r:M aq->M aE->M aE)(l:M aE)(d:aq)(c:Bool):M aE:=
 if d.aA=3 then (if (named l d.au).isEmpty=I/\d.given=I then [⟨d.au,d.default,[]⟩] else named l d.au)
 else if d.aA=1\/d.aA=2 then (named l d.au).map (λx=>⟨x.au,x.bu,r d.ai x.ai⟩)++(if d.aA=1/\(named l d.au).isEmpty=I/\d.dq=J/\d.when.isEmpty=I/\c=J/\(r d.ai []).isEmpty=J then [⟨d.au,⟨#[]⟩,r d.ai []⟩] else [])
 else named l d.au
def qD:Nat->M aq->M aE->M aE
 |0,_,_=>[]
 |n+1,s,l=>((dk s).zip (sM J s)).flatMap λp=>Dh (qD n) l p.1 p.2
theorem Zd:∀l:M aq,∀c∈sM I l,c=I:=by have h:∀(n:Nat) (l:M aq),aF l<n->∀c∈sM I l,c=I:=by{intro n;induction n with|zero=>{intro l h;omega}|succ n b=>intro l h c a;cases l with|nil=>{rw[tP]at a;cases a}|cons e es=>rw[nz]at a;rcases aZ.1 a with a|a;{unfold qF at a;split at a;{simpa using a};split at a;{exact b e.ai (by have:=aq.gu e es;omega) c (by simpa using a)};cases a};exact b es (by simp only[bM]at h;omega) c a};exact λl=>h _ l (aW _)
theorem IX:∀l:M aq,(∀k∈l,k.aA=6)->∀c∈sM J l,c=I
 |[],h,c,a=>by rw[tP]at a;cases a
 |e::es,h,c,a=>by rw[nz]at a;rcases aZ.1 a with a|a;{have d:=h e (by simp);unfold qF at a;rw[d,if_neg (by decide),if_pos (by decide)]at a;exact Zd _ c (by simpa using a)};exact IX es (λk b=>h k (by simp[b])) c a
def UA{c β:Type}:∀{a:M c} {b:M β} {p:c×β},p∈a.zip b->p.1∈a/\p.2∈b:=by intro a b p h;exact⟨(List.of_mem_zip (a:=p.1) (b:=p.2) h).1,(List.of_mem_zip (a:=p.1) (b:=p.2) h).2⟩
def Zb(e:aq):(sL e).length=(qF J e).length:=by have h:=pP J [e];rw[nz,jQ,tP,mR]at h;simpa using h.symm
theorem Zc{s:M aq}(X:(s.map aq.au).Nodup)(hd:((dk s).map aq.au).Nodup)(hc:∀e∈s,e.aA≠6/\(e.aA=5->∀k∈e.ai,k.aA=6)) :
  ∀p∈(dk s).zip (sM J s),(p.1.when.isEmpty && !p.2)=uQ s p.1.au:=by have A:∀(es a:M aq),s=a++es->∀p∈(dk es).zip (sM J es),(p.1.when.isEmpty && !p.2)=uQ s p.1.au:=by{intro es;induction es with|nil=>{intro a h p b;rw[mR]at b;cases b}|cons e es V=>intro a h p b;rw[jQ,nz,List.zip_append (Zb e)]at b;rcases aZ.1 b with b|b;{(have he:e∈s:=by rw[h];simp);(have v:nth s a.length=Z e:=by rw[h,ek];simp);by_cases m:j6 e.aA=I;{unfold sL qF at b;rw[if_pos m,if_pos m]at b;simp only[List.zip_cons_cons,List.zip_nil_right,bO]at b;subst b;have H:ey s e.au=Z a.length:=by{unfold ey;have:=wV (p:=λy:aq=>Z' (y.au=e.au)) (k:=0) v (by simp) (λi x Y P=>by simp only[decide_eq_false_iff_not];intro D;rw[ek]at P v;have w:=br.1 P;have L:=br.1 v;obtain⟨a1,a2⟩:=w;obtain⟨b1,b2⟩:=L;have S:=(List.nodup_iff_pairwise_ne.1 X);rw[List.pairwise_iff_getElem]at S;have R:=S i a.length (by simpa using a1) (by simpa using b1) Y;simp only[List.getElem_map,a2,b2]at R;exact R D);rw[this,bF]};unfold uQ;rw[H];dsimp only;rw[v];dsimp only;rw[m];simp};have t:=hc e he;have G:=UA b;have Q:e.aA=5:=by{have d:=G.1;unfold sL at d;rw[if_neg m]at d;split at d;{rename_i f;unfold pw at f;simp only[dE,decide_eq_true_eq]at f;rcases f with f|f;{exact f};exact absurd f t.1};cases d};have F:p.2=I:=by{have j:=G.2;unfold qF at j;rw[if_neg m,Q,if_pos (by decide)]at j;exact IX e.ai (t.2 Q) p.2 (by simpa using j)};rw[F,dv,eo];unfold uQ;cases H:ey s p.1.au with|none=>{rfl}|some k=>obtain⟨n,w,L⟩:=dy H;dsimp only;rw[w];dsimp only;(have q:n.au=p.1.au:=by simpa using L);cases B:j6 n.aA;{rfl};exfalso;have c:n∈s:=bp w;(have W:n≠e:=λe1=>by rw[e1]at B;exact m B);have N:n∈a\/n∈es:=by{rw[h]at c;rcases aZ.1 c with c|c;{exact .inl c};rcases aU.1 c with c|c;{exact absurd c W};exact .inr c};have U:∀l:M aq,n∈l->n∈dk l:=by{intro l;induction l with|nil=>{intro r;cases r}|cons y l C=>intro r;rw[jQ];rcases aU.1 r with rfl|r;{refine aZ.2 (.inl ?_);unfold sL;rw[if_pos B];simp};exact aZ.2 (.inr (C r))};rw[h,Qm,jQ,cC,cC,cI]at hd;obtain⟨_,T,d3⟩:=hd;rw[cI]at T;have o:p.1.au∈(sL e).map aq.au:=dM G.1;rcases N with g|g;{have K:n.au∈(dk a).map aq.au:=dM (U _ g);exact d3 _ K _ (aZ.2 (.inl o)) q};have K:n.au∈(dk es).map aq.au:=dM (U _ g);exact T.2.2 _ o _ K q.symm};exact V (a++[e]) (by rw[h];simp) p b};exact A s [] rfl
theorem Ze{l:M aq}{n:aq}(h:n∈dk l):j6 n.aA=I:=by have b:∀(m:Nat) (l:M aq),aF l<m->n∈dk l->j6 n.aA=I:=by{intro m;induction m with|zero=>{intro l h;omega}|succ m c=>intro l d a;cases l with|nil=>{rw[mR]at a;cases a}|cons e es=>rw[jQ]at a;rcases aZ.1 a with a|a;{unfold sL at a;split at a;{rename_i hd;rw[bO.1 a];exact hd};split at a;{exact c e.ai (by have:=aq.gu e es;omega) a};cases a};exact c es (by simp only[bM]at d;omega) a};exact b _ l (aW _) h
theorem Cn:∀{l:M aq},(l.map aq.au).Nodup->∀{a b:aq},a∈l->b∈l->a.au=b.au->a=b
 |[],_,a,b,g,_,_=>by cases g
 |x::l,e,a,b,g,h,c=>by rw[bc,cU]at e;rcases aU.1 g with rfl|d;{rcases aU.1 h with rfl|f;{rfl};exact absurd (by rw[c];exact dM f) e.1};rcases aU.1 h with rfl|f;{exact absurd (by rw[<- c];exact dM d) e.1};exact Cn e.2 d f c
def GI(x:aE):(⟨x.au,x.bu,x.ai⟩:aE)=x:=by cases x;rfl
section
variable {ip:z->Bool} {mt:z->z->Bool}
def VS(ip:z->Bool)(mt:z->z->Bool)(s:M aq):Prop:=∃N k f deep,t_ ip mt N s k f deep=I
theorem VS.uT{s:M aq}(h:VS ip mt s){n:aq}(a:n∈dk s):VS ip mt n.ai:=by obtain⟨N,k,f,deep,h⟩:=h;obtain⟨e,g,i,_,c⟩:=EE _ (aW _) h n a;exact⟨e,_,_,_,c⟩
theorem VS.body{s:M aq}(h:VS ip mt s){n:aq}(c:n∈dk s):∃f,iP ip mt n f=I:=by obtain⟨N,k,f,deep,h⟩:=h;obtain⟨i,e,g,a,_⟩:=EE _ (aW _) h n c;unfold wg at a;simp only[aw]at a;exact⟨e,a.2⟩
theorem ahE{r:M aq->M aE->Bool}{n:aq}{x:aE}:Ax ip mt r n x=I↔((n.aA=3\/n.aA=4)/\x.ai=[]/\isVal ip mt n.type x.bu=I)\/(n.aA=2/\(keyOf n x).2=I/\x.bu=l_/\r (dk n.ai) x.ai=I)\/
  (n.aA≠2/\n.aA≠3/\n.aA≠4/\x.bu=l_/\(n.dq=I\/x.ai≠[])/\r (dk n.ai) x.ai=I):=by have a:x.bu.size=0↔x.bu=l_:=⟨ab0,λh=>by rw[h];rfl⟩;unfold Ax;by_cases c:n.aA=3;{simp[c]};by_cases b:n.aA=4;{simp[b]};by_cases d:n.aA=2;{simp[d,a]};simp[d,c,b,a,kK]
theorem CA(nr:aq->aE->Bool)(d:M aq):mb nr d []=I:=rfl
theorem acS{s:M aq}{l:M aE}(h:Rt ip mt (dk s) l){x:aE}(d:x∈l):∃k n,ey (dk s) x.au=Z k/\nth (dk s) k=Z n/\n∈dk s/\xd s x.au=Z n/\n.au=x.au/\Rt ip mt (dk n.ai) x.ai/\∃N,Ax ip mt (mb (qm ip mt N)) n x=I:=by obtain⟨N,h⟩:=h;obtain⟨k,n,c,b,e⟩:=Cz h x d;(have a:xd s x.au=Z n:=by simp only[xd,c,b]);obtain⟨_,_,_,m,j⟩:=LR a;obtain⟨p,o,g,f,_,i⟩:=agd ⟨N,h⟩ d;rw[c]at g;cases g;rw[b]at f;cases f;cases N with|zero=>{cases e}|succ N=>exact⟨k,n,c,b,j,a,m,i,N,e⟩
end
section
variable {ip:z->Bool} {mt:z->z->Bool}
def VT(ip:z->Bool)(mt:z->z->Bool)(s:M aq):Prop:=∃N k f deep,k≠5/\t_ ip mt N s k f deep=I
theorem VT.vs{s:M aq}(h:VT ip mt s):VS ip mt s:=by obtain⟨N,k,f,deep,_,h⟩:=h;exact⟨N,k,f,deep,h⟩
theorem VT.uT{s:M aq}(h:VT ip mt s){n:aq}(a:n∈dk s):VT ip mt n.ai:=by obtain⟨N,k,f,deep,_,h⟩:=h;obtain⟨e,g,i,_,c⟩:=EE _ (aW _) h n a;have:=(ej _ _ _).1 (Ze a);exact⟨e,_,_,_,by omega,c⟩
theorem VT.names{s:M aq}(h:VT ip mt s):(s.map aq.au).Nodup/\((dk s).map aq.au).Nodup/\∀e∈s,e.aA≠6/\(e.aA=5->∀k∈e.ai,k.aA=6):=by obtain⟨N,k,f,deep,l,h⟩:=h;have g:=sY h;refine⟨?_,g.2,λe n=>?_⟩;{cases N with|zero=>{cases h}|succ a=>unfold t_ at h;simp only[aw]at h;refine (mV _).1 (mu.2 λj x m=>?_);have:=mu.1 h.1 j x m;simp only[aw]at this;exact this.1};obtain⟨c,_,a,q⟩:=g.1 e n;have o:e.aA≠6:=λr=>by{rw[r]at c;simp at c;exact l c};refine⟨o,λp x i=>?_⟩;have:=((sY q).1 x i).1;rw[p]at this;simpa using this
theorem Ng:∀(m:Nat) (l:M aE),qD m [] l=[]
 |0,l=>rfl
 |m+1,l=>by rw[qD,mR];rfl
theorem PE{β:Type}{g:aq->M β}:∀{a:M aq} {b:M Bool},a.length=b.length->(a.zip b).flatMap (λp=>g p.1)=a.flatMap g
 |[],b,_=>rfl
 |x::a,[],h=>by cases h
 |x::a,y::b,h=>by rw[List.zip_cons_cons,eJ,eJ,PE (by simpa using h)]
theorem ym{a β:Type}{f g:a->M β}:∀{l:M a},(∀x∈l,f x=g x)->l.flatMap f=l.flatMap g
 |[],h=>rfl
 |x::l,h=>by rw[eJ,eJ,h x (by simp),ym λy b=>h y (by simp[b])]
theorem Em{s:M aq}{l:M aE}(h:Rt ip mt (dk s) l)(g:((dk s).map aq.au).Nodup){d:aq}(hd:d∈dk s){x:aE}(f:x∈named l d.au):Rt ip mt (dk d.ai) x.ai/\((d.aA=3\/d.aA=4)->x.ai=[]):=by obtain⟨b,a⟩:=gF.1 f;obtain⟨k,n,v,t,o,_,m,j,N,i⟩:=acS h b;have e:n=d:=by{(have p:n.au=d.au:=by rw[m];simpa using a);exact Cn g o hd p};subst e;refine⟨j,λq=>?_⟩;rcases ahE.1 i with ⟨_,c,_⟩|⟨c,_⟩|⟨_,c,r,_⟩;{exact c};{omega};omega
theorem cmp_eq:∀(m:Nat) (s:M aq) (l:M aE),VT ip mt s->Rt ip mt (dk s) l->qD m s l=kl m s l
 |0,s,l,_,_=>rfl
 |m+1,s,l,o,H=>by obtain⟨n1,n2,G⟩:=o.names;have t:=Zc n1 n2 G;rw[qD,kl,<- PE (b:=sM J s) (pP J s).symm];refine ym λp D=>?_;have F:=t p D;have hd:=(UA D).1;obtain⟨d,c⟩:=p;dsimp only at F hd ⊢;have Q:=(ej _ _ _).1 (Ze hd);obtain⟨f,j⟩:=o.vs.body hd;have k:=λx a=>Em H n2 hd (x:=x) a;have v:qD m d.ai []=kl m d.ai []:=cmp_eq m d.ai [] (o.uT hd) ⟨0,CA _ _⟩;have C:∀x∈named l d.au,qD m d.ai x.ai=kl m d.ai x.ai:=λx a=>cmp_eq m d.ai x.ai (o.uT hd) (k x a).1;have r:∀g:aE->aE,(∀x∈named l d.au,g x=x)->(named l d.au).map g=named l d.au:=λg A=>by{have:(named l d.au).map g=(named l d.au).map id:=qB λx a=>A x a;rw[this,List.map_id]};unfold Dh pU;(have w:d.aA=1\/d.aA=2\/d.aA=3\/d.aA=4:=by omega);rcases w with h|h|h|h;{rw[if_neg (by omega),if_pos (.inl h),v];have a:(named l d.au).map (λx=>(⟨x.au,x.bu,qD m d.ai x.ai⟩:aE))=(named l d.au).map (rQ (kl m) d):=qB λx a=>by{unfold rQ;rw[C x a];split;{rename_i e;rw[dT.1 e,<- cmp_eq m [] x.ai (by rw[<- dT.1 e];exact o.uT hd) (by rw[<- dT.1 e];exact (k x a).1),Ng]};rfl};rw[a];cases P:named l d.au with|nil=>{have t:uQ s d.au=I↔(d.when.isEmpty=I/\c=J):=by{rw[<- F];cases d.when.isEmpty<;>cases c<;>simp};have L:(if d.aA=1/\([]:M aE).isEmpty=I/\d.dq=J/\d.when.isEmpty=I/\c=J/\(kl m d.ai []).isEmpty=J then [(⟨d.au,⟨#[]⟩,kl m d.ai []⟩:aE)] else [])=Dj (kl m) (uQ s d.au) d:=by{unfold Dj;(have N:¬(d.aA=3/\d.given=I):=λq=>by omega);rw[if_neg N];by_cases i:d.dq=J/\d.when.isEmpty=I/\c=J;{have n:d.aA=1/\d.dq=J/\uQ s d.au=I:=⟨h,i.1,t.2 i.2⟩;rw[if_pos n];cases e:(kl m d.ai []).isEmpty;{have K:d.aA=1/\([]:M aE).isEmpty=I/\d.dq=J/\d.when.isEmpty=I/\c=J/\J=J:=⟨h,rfl,i.1,i.2.1,i.2.2,rfl⟩;rw[if_pos K,if_neg dr]};rw[if_neg (λq=>by have:=q.2.2.2.2.2;cases this),if_pos rfl]};have n:¬(d.aA=1/\d.dq=J/\uQ s d.au=I):=λq=>i ⟨q.2.1,t.1 q.2.2⟩;rw[if_neg n,if_neg (λq=>i ⟨q.2.2.1,q.2.2.2.1,q.2.2.2.2.1⟩)]};rw[cA,av,L];rfl}|cons y ys=>simp};{rw[if_neg (by omega),if_pos (.inr h),if_neg (by omega),aH];have a:(named l d.au).map (λx=>(⟨x.au,x.bu,qD m d.ai x.ai⟩:aE))=(named l d.au).map (rQ (kl m) d):=qB λx a=>by{unfold rQ;rw[C x a];split;{rename_i e;rw[dT.1 e,<- cmp_eq m [] x.ai (by rw[<- dT.1 e];exact o.uT hd) (by rw[<- dT.1 e];exact (k x a).1),Ng]};rfl};rw[a];split;{rename_i e;unfold Dj;rw[if_neg (by omega),if_neg (by omega),dT.1 e];rfl};rfl};{have B:d.ai=[]:=by{unfold iP at j;rw[if_neg (by omega),if_neg (by omega),if_pos h]at j;unfold xX at j;split at j<;>(simp only[aw,dT]at j;exact j.1.2.2.2.2.2.1)};rw[if_pos h];unfold Dj;simp only[h,true_and,rG,false_and,if_false];split;{rename_i i;rw[if_pos i.1,if_pos i.2]};rename_i i;split;{rename_i e;rw[if_neg λA=>i ⟨e,A⟩,dT.1 e]};rw[r _ λx a=>by unfold rQ;rw[B,ei,if_pos rfl,<- (k x a).2 (.inl h)];exact GI x]};have B:d.ai=[]:=by{unfold iP at j;rw[if_neg (by omega),if_neg (by omega),if_neg (by omega),if_pos h]at j;unfold C2 at j;simp only[aw,dT]at j;exact j.2.2.2.2.2.2.2.1};rw[if_neg (by omega),if_neg (by omega)];split;{rename_i e;unfold Dj;rw[if_neg (by omega),if_neg (by omega),dT.1 e]};rw[r _ λx a=>by unfold rQ;rw[B,ei,if_pos rfl,<- (k x a).2 (.inr h)];exact GI x]
end
abbrev PR:=u (dD×Nat)
abbrev eT:z:=⟨#[]⟩
def iU(s:z)(i:Nat)(b:Int):Bool:=Z' (i<s.size) && Z' (bY s i=b)
def bsT(f:Nat->Bool):z:=bA (((cH 256).filter f).map dW)
def UN:z:=bsT λx=>Z' (32<=x) && Z' (x<=126)
def pv(r:M (Int×Int))(x:Nat):Bool:=r.any λp=>Z' (p.1<=(x:Int)) && Z' ((x:Int)<=p.2)
def ai0(r:M (Int×Int)):z:=bsT (pv r)
def sf(s:z)(i:Nat):u ((Int×Int)×Nat):=
 if (Z' (i<s.size) && Qf (bY s i))=I then
  if iU s (i+1) 126=I then
   if (Z' (i+2<s.size) && (Qf (bY s (i+2)) && Z' (bY s i<=bY s (i+2))))=I then Z ((bY s i,bY s (i+2)),i+3) else O
  else Z ((bY s i,bY s i),i+1)
 else O
def jr(s:z):Nat->Nat->u (M (Int×Int)×Nat)
 |0,_=>O
 |f+1,i=>if iU s i 93=I then Z ([],i+1) else match sf s i with
  |some (r,j)=>(jr s f j).map λp=>(r::p.1,p.2)
  |none=>O
def OT(s:z)(i:Nat):PR:=match jr s (s.size+1) i with
 |some (r::l,k)=>Z (⟨1,ai0 (r::l),[]⟩,k)
 |_=>O
def pCh(b:Int):Bool:=eB 97 122 b ||(eB 48 57 b ||decide (b=45))
def GU(b:Int):z:=bA [dW b.toNat]
def xY(alt:Nat->PR)(s:z)(i:Nat):PR:=
 if iU s i 40=I then (match alt (i+1) with
  |some (p,j)=>if iU s j 41=I then Z (p,j+1) else O
  |none=>O)
 else if iU s i 91=I then OT s (i+1)
 else if iU s i 46=I then Z (⟨1,UN,[]⟩,i+1)
 else if (Z' (i<s.size) && pCh (bY s i))=I then Z (⟨1,GU (bY s i),[]⟩,i+1)
 else O
def GX(s:z)(p:dD)(j:Nat):dD×Nat:=
 if iU s j 42=I then (⟨4,eT,[p]⟩,j+1)
 else if iU s j 43=I then (⟨2,eT,[p,⟨4,eT,[p]⟩]⟩,j+1)
 else if iU s j 63=I then (⟨5,eT,[p]⟩,j+1)
 else (p,j)
def tf(alt:Nat->PR)(s:z)(i:Nat):PR:=(xY alt s i).map λp=>GX s p.1 p.2
def wv(s:z)(i:Nat):Bool:=Z' (i<s.size) && (!Z' (bY s i=124) && !Z' (bY s i=41))
def wq(alt:Nat->PR)(s:z):Nat->Nat->u (M dD×Nat)
 |0,_=>O
 |f+1,i=>if wv s i=I then match tf alt s i with
   |some (p,j)=>(wq alt s f j).map λq=>(p::q.1,q.2)
   |none=>O
  else Z ([],i)
def tz(op:Int):M dD->dD
 |[p]=>p
 |l=>⟨op,eT,l⟩
def Dw(alt:Nat->PR)(s:z)(i:Nat):PR:=(wq alt s (s.size+1) i).map λq=>(tz 2 q.1,q.2)
def C4(alt:Nat->PR)(s:z):Nat->Nat->u (M dD×Nat)
 |0,_=>O
 |f+1,i=>if iU s i 124=I then match Dw alt s (i+1) with
   |some (p,j)=>(C4 alt s f j).map λq=>(p::q.1,q.2)
   |none=>O
  else Z ([],i)
def GW(alt:Nat->PR)(s:z)(i:Nat):PR:=match Dw alt s i with
 |some (p,j)=>(C4 alt s (s.size+1) j).map λq=>(tz 3 (p::q.1),q.2)
 |none=>O
def Xg(s:z):Nat->Nat->PR
 |0,_=>O
 |f+1,i=>GW (Xg s f) s i
def C5(s:z):u dD:=if 30<s.size then O else match Xg s (s.size+1) 0 with
 |some (p,k)=>if k=s.size then Z p else O
 |none=>O
def yZ(n:Nat)(p:dD):Bool:=(Z' (p.ai.length<=n) && Z' (p.text.size<=256)) && p.ai.attach.all λq=>yZ n q.1
termination_by aF p
decreasing_by exact dD.uT q.2
def L0(n:Nat)(p:dD):yZ n p=((Z' (p.ai.length<=n) && Z' (p.text.size<=256)) && p.ai.all (yZ n)):=by rw[yZ];congr 1;rw[dU,bG,bG];exact⟨λh x a=>h ⟨x,a⟩ (List.mem_attach _ _),λh x _=>h x.1 x.2⟩
def D6{n:Nat}{p q:dD}(h:yZ n p=I)(a:q∈p.ai):yZ n q=I:=by rw[L0,aw,bG]at h;exact h.2 q a
def D7{n:Nat}{p:dD}(h:yZ n p=I):p.ai.length<=n:=by rw[L0,aw,aw,decide_eq_true_eq]at h;exact h.1.1
def aec{n:Nat}{p:dD}(h:yZ n p=I):p.text.size<=256:=by rw[L0,aw,aw,decide_eq_true_eq,decide_eq_true_eq]at h;exact h.1.2
def y_{n:Nat}{op:Int}{t:z}{l:M dD}(a:t.size<=256)(h:l.length<=n)(b:∀q∈l,yZ n q=I):yZ n ⟨op,t,l⟩=I:=by rw[L0,aw,aw,decide_eq_true_eq,decide_eq_true_eq,bG];exact⟨⟨h,a⟩,b⟩
def CT:eT.size<=256:=bK _
theorem wG{n:Nat}{op:Int}:∀{l:M dD},l.length<=n->(∀q∈l,yZ n q=I)->yZ n (tz op l)=I
 |[p],_,h=>h p (bO.2 rfl)
 |[],h,a=>y_ CT h a
 |_::_::_,h,a=>y_ CT h a
def T6{n:Nat}(a:2<=n){s:z}{p:dD}(j:Nat)(h:yZ n p=I):yZ n (GX s p j).1=I:=by unfold GX;have b:yZ n ⟨4,eT,[p]⟩=I:=y_ CT (by simp;omega) (by simpa using h);have c:yZ n ⟨5,eT,[p]⟩=I:=y_ CT (by simp;omega) (by simpa using h);have a:yZ n ⟨2,eT,[p,⟨4,eT,[p]⟩]⟩=I:=y_ CT (by simpa using a) (by simp[h,b]);split;{exact b};split;{exact a};split;{exact c};exact h
def T5(s:z)(p:dD)(j:Nat):j<=(GX s p j).2/\(j<=s.size->(GX s p j).2<=s.size):=by unfold GX;(have a:∀b,iU s j b=I->j<s.size:=λb h=>by simp only[iU,aw,decide_eq_true_eq]at h;exact h.1);split;{rename_i h;have:=a _ h;exact⟨by simp,λ_=>this⟩};split;{rename_i h;have:=a _ h;exact⟨by simp,λ_=>this⟩};split;{rename_i h;have:=a _ h;exact⟨by simp,λ_=>this⟩};exact⟨aI _,λh=>h⟩
def Bk(f:Nat->Bool):(bsT f).size<=256:=by have:=eW f (cH 256);simp only[bsT,pg,aj,List.length_range]at this ⊢;exact this
def nE{s:z}{i:Nat}{b:Int}(h:iU s i b=I):i<s.size:=by simp only[iU,aw,decide_eq_true_eq]at h;exact h.1
def hasB(t:z)(b:Int):Bool:=(cH t.size).any λk=>Z' (bY t k=b)
def PJ(t s:z)(a:M Bool):M Bool:=J::(cH s.size).map λi=>(nth a i).getD J && hasB t (bY s i)
def C9(f:M Bool->M Bool):Nat->M Bool->M Bool
 |0,x=>x
 |n+1,x=>if dN x (f x)=x then x else C9 f n (dN x (f x))
def Dr{b β:Type}(l:M b)(a:β)(g:b->β):β:=match l with
 |[k]=>g k
 |_=>a
def LY{b β:Type}{l:M b}{a:β}{g:b->β}(h:l.length≠1):Dr l a g=a:=by unfold Dr;split;{exact absurd rfl h};rfl
theorem LX{b β:Type}(k:b)(a:β)(g:b->β):Dr [k] a g=g k:=(rfl)
def NA(f:dD->M Bool->M Bool)(s:z)(p:dD)(a:M Bool):M Bool:=
 if p.op=1 then PJ p.text s a
 else if p.op=2 then p.ai.foldl (λo k=>f k o) a
 else if p.op=3 then p.ai.foldl (λo k=>dN o (f k a)) (a_ (s.size+1) J)
 else if p.op=4 then Dr p.ai a λk=>C9 (f k) (s.size+2) a
 else if p.op=5 then Dr p.ai a λk=>dN a (f k a)
 else a_ (s.size+1) J
def jz(s:z):Nat->dD->M Bool->M Bool
 |0,_,a=>a
 |n+1,p,a=>NA (jz s n) s p a
noncomputable def Q6(p:dD)(s:z):Bool:=(nth (jz s (aF p+1) p (I::a_ s.size J)) s.size).getD J
noncomputable def yV(t s:z):Bool:=match C5 t with
 |some p=>Q6 p s
 |none=>J
def kT(t:z):Bool:=(C5 t).isSome
theorem JW{f:M Bool->M Bool}:∀(n:Nat) (x:M Bool),(C9 f n x).length=x.length
 |0,x=>rfl
 |n+1,x=>by simp only[C9];split;{rfl};rw[JW n,kz]
def Kg(t s:z)(a:M Bool):(PJ t s a).length=s.size+1:=by simp[PJ]
theorem U5{f:dD->M Bool->M Bool}{s:z}{p:dD}{a:M Bool}(i:∀k∈p.ai,∀b:M Bool,b.length=s.size+1->(f k b).length=s.size+1)(c:a.length=s.size+1):(NA f s p a).length=s.size+1:=by unfold NA;have m:∀(l:M dD) (b:M Bool),(∀k∈l,k∈p.ai)->b.length=s.size+1->(l.foldl (λo k=>f k o) b).length=s.size+1:=by{intro l;induction l with|nil=>{intro b _ h;exact h}|cons k l d=>intro b e h;exact d _ (λx g=>e x (dO _ g)) (i k (e k dV) b h)};have j:∀(l:M dD) (b:M Bool),b.length=s.size+1->(l.foldl (λo k=>dN o (f k a)) b).length=s.size+1:=by{intro l;induction l with|nil=>{intro b h;exact h}|cons k l d=>intro b h;exact d _ (by rw[kz];exact h)};split;{exact Kg _ _ _};split;{exact m _ _ (λ_ h=>h) c};split;{exact j _ _ (by simp)};split;{unfold Dr;split;{rw[JW];exact c};exact c};split;{unfold Dr;split;{rw[kz];exact c};exact c};simp
theorem sO{s:z}:∀(n:Nat) (p:dD) (a:M Bool),a.length=s.size+1->(jz s n p a).length=s.size+1
 |0,_,_,h=>h
 |n+1,p,a,h=>U5 (λk _ b c=>sO n k b c) h
def outs:M Bool->Nat
 |[]=>0
 |b::l=>(if b then 0 else 1)+outs l
theorem LZ:∀(l:M Bool),outs l<=l.length
 |[]=>aI _
 |b::l=>by have:=LZ l;cases b<;>simp[outs]<;>omega
theorem yy:∀(x y:M Bool),outs (dN x y)<=outs x/\(dN x y≠x->outs (dN x y)<outs x)
 |[],y=>by cases y<;>simp[dN,outs]
 |b::x,[]=>by simp[dN,outs]
 |b::x,c::y=>by obtain⟨d,a⟩:=yy x y;refine⟨by cases b<;>cases c<;>simp[dN,outs]<;>omega,λh=>?_⟩;cases b<;>cases c<;>simp_all[dN,outs]<;>omega
theorem I_:∀(x y:M Bool),nB x y=!Z' (dN x y=x)
 |[],y=>by cases y<;>simp[dN,nB]
 |b::x,[]=>by simp[dN,nB]
 |b::x,c::y=>by have:=I_ x y;cases b<;>cases c<;>simp_all[dN,nB]
def mE{s:z}{i:Nat}{b:Int}:iU s i b=I↔i<s.size/\bY s i=b:=by simp[iU]
def Tp{s:z}{i:Nat}{b:Int}(h:iU s i b=J)(a:i<s.size):¬bY s i=b:=by intro c;rw[mE.2 ⟨a,c⟩]at h;cases h
def sk{s:z}{i:Nat}{c:Int}(d:s.size<=mg)(h:iU s i c=I):G 216 [.str s,E (i:Int),.bool J,.int .u8 c]=Z (0,[.bool I,.str s,E ((i+1:Nat):Int),.bool J]):=by obtain⟨a,e⟩:=mE.1 h;have b:=wj a d;refine ch t216 rfl ?_;simp only[go_sem,t216,a,e,df _ _ a,b]
def sj{s:z}{i:Nat}{c:Int}(h:iU s i c=J):G 216 [.str s,E (i:Int),.bool J,.int .u8 c]=Z (0,[.bool J,.str s,E (i:Int),.bool J]):=by refine ch t216 rfl ?_;by_cases a:i<s.size;{have b:=Tp h a;simp only[go_sem,t216,a,b,df _ _ a]};simp only[go_sem,t216,a]
def L8{s:z}{i c:Int}:G 216 [.str s,E i,.bool I,.int .u8 c]=Z (0,[.bool J,.str s,E i,.bool I]):=by refine ch t216 rfl ?_;simp only[go_sem,t216]
abbrev hB(f:Nat->Bool):D:=.list 1 I ((cH 256).map λx=>[D.bool (f x)])
abbrev bL(f:Nat->Bool)(n:Nat):D:=.list 1 I (((cH n).filter f).map λx:Nat=>[D.int .u8 (x:Int)])
def Ra{a:Type}{f:Nat->a}{n x:Nat}(h:x<n):nth ((cH n).map f) x=Z (f x):=by rw[ek];simp[h]
def aab{f:Nat->Bool}{x:Nat}(h:x<256):aS .UW [hB f,E (x:Int)]=Z (.bool J):=jh _ _ _ _ (by simpa using h)
def agR{f:Nat->Bool}{x:Nat}(h:x<256):aS (.IY 1 0 1 I) [hB f,E (x:Int)]=Z (.list 0 J [[.bool (f x)]]):=by simp only[aS,cn,Ra h];simp[db,D.plain]
def agS{f:Nat->Bool}{x:Nat}(h:x<256):aS (.set 0) [hB f,E (x:Int),.bool I]=Z (hB λy=>f y ||decide (x=y)):=by simp only[aS,cn,Ra h];rw[if_pos ⟨by simp,λ_=>by simp[db,D.plain]⟩];congr 2;apply List.ext_getElem (by simp);intro i c b;simp only[aj,List.length_range]at b;rw[List.getElem_set];simp only[List.getElem_map,List.getElem_range];by_cases a:x=i;{subst a;simp[nS]};simp[a]
def adh:aS (.make 1 1 I [zB J]) [E 256]=Z (hB λ_=>J):=by have:(cH 256).map (λx:Nat=>[D.bool ((λ_=>J) x)])=a_ 256 [D.bool J]:=by{rw[qw];simp};simp only[hB,this];rfl
def Rm:aS (.lD 1 I) []=Z (.list 1 I []):=xo 1 I
def vG(f:Nat->Bool)(n:Nat):(cH (n+1)).filter f=(cH n).filter f++(if f n=I then [n] else []):=by rw[List.range_succ,k9];congr 1;by_cases h:f n=I<;>simp[h]
def Yy{f:Nat->Bool}{n:Nat}(a:n<256)(h:f n=I):aS (.app 1 1) [bL f n,.list 1 I [[.int .u8 (n:Int)]]]=Z (bL f (n+1)):=by (have b:((cH n).filter f).length<=n:=by have:=eW f (cH n);simpa using this);rw[Rl _ _ _ _ _ (by simp only[aj,aN,aK,room,maxLen];omega)];simp only[bL,vG,h,if_true,cC,bc,cA]
def aka{f:Nat->Bool}{n:Nat}(h:f n=J):bL f (n+1)=bL f n:=by simp only[bL,vG,h,aL,if_false,aH]
theorem CP:∀(l:M Nat),bytesOf (l.map λx:Nat=>[D.int .u8 (x:Int)])=Z (l.map λx:Nat=>(x:Int))
 |[]=>rfl
 |x::l=>by simp only[bc,bytesOf,CP l,aX]
def Yz{f:Nat->Bool}{n:Nat}:aS .PI [bL f n]=Z (.str (bA (((cH n).filter f).map dW))):=by simp only[bL,aS,CP,aX,List.map_map,bA];rfl
theorem agn{f:Nat->Bool}{n:Nat}(c:n<=256)(h:∀x,n<=x->f x=J):bA (((cH n).filter f).map dW)=bsT f:=by have:∀m,(cH (n+m)).filter f=(cH n).filter f:=by{intro m;induction m with|zero=>{rfl}|succ m b=>rw[<- gC,vG,h (n+m) (by omega),b];simp};have a:=this (256 - n);rw[show n+(256 - n)=256 by omega]at a;rw[bsT,a]
def Su{x:Nat}(h:x<256):IntKind.u8.wrap (x:Int)=(x:Int):=wrap_u8 (by omega)
def HH{x:Nat}(h:x<=mg):IntKind.i64.wrap (x:Int)=(x:Int):=wrap_i64 (by simp only[mg]at h;omega)
def mkU(x:Int):aS (.lD 1 I) [.int .u8 x]=Z (.list 1 I [[.int .u8 x]]):=uD .u8 x
abbrev HW(x:Nat):Bool:=decide (32<=x) && decide (x<=126)
theorem n32:((32:Nat):Int)=32:=(rfl)
theorem n127:((127:Nat):Int)=127:=(rfl)
theorem n256:((256:Nat):Int)=256:=(rfl)
theorem bL0(f:Nat->Bool):bL f 0=.list 1 I []:=(rfl)
def ao7:bL HW 32=.list 1 I []:=by (have:(cH 32).filter HW=[]:=by decide);simp only[bL,this,cA]
theorem aqE:G 221 []=Z (0,[.str UN]):=by refine ch t221 rfl ?_;have p:=E6 (b:=lB G FL) (λi=>(0,[E ((i:Nat):Int),bL HW i])) (λi=>if 32<=i then O else Z (0,[])) 127 (0,[E 127,.bool J,bL HW 127]);have c:∀m i,i+m=127->32<=i->bJ (lB G FL) (0,[E ((i:Nat):Int),bL HW i])=Z (0,[E 127,.bool J,bL HW 127]):=by{intro m;induction m with|zero=>{intro i h _;(obtain rfl:i=127:=by omega);refine aO ?_;simp only[go_sem,bn,FL,n127]}|succ m e=>intro i h q;refine (bE ?_).trans (e (i+1) (by omega) (by omega));(have l:(i:Int)<127:=by omega);have k:=Su (x:=i) (by omega);have j:=Yy (f:=HW) (n:=i) (by omega) (by simp[HW];omega);have g:=wj (i:=i) (n:=127) (by omega) (by decide);simp only[go_sem,bn,FL,l,k,j,g,mkU]};have a:=c 95 32 rfl (by omega);rw[ao7,n32]at a;have d:=Yz (f:=HW) (n:=127);rw[agn (by decide) (λx o=>by simp[HW];omega)]at d;simp only[go_sem,t221,a,Rm,d];rfl
theorem BT{e op tx s i b:D}{a:Nat}(g:a<256):∀(m x:Nat) (f:Nat->Bool),x+m=a+1->
  bJ (lB G FI) (0,[e,.int .u8 (a:Int),E (x:Int),op,tx,s,i,b,hB f])=Z (0,[e,.int .u8 (a:Int),E ((a+1:Nat):Int),.bool J,op,tx,s,i,b,hB λy=>f y ||(Z' (x<=y) && Z' (y<=a))])
 |0,x,f,h=>by (obtain rfl:x=a+1:=by omega);(have c:Z' (((a+1:Nat):Int)<=(a:Int))=J:=by simp only[decide_eq_false_iff_not];omega);have d:=HH (x:=a) (by simp only[mg];omega);have l:(λy=>f y ||(Z' (a+1<=y) && Z' (y<=a)))=f:=by{funext y;by_cases h:a+1<=y;{(have:¬y<=a:=by omega);simp[h,this]};simp[h]};rw[l];refine aO ?_;simp only[go_sem,bn,FI,c,d]
 |m+1,x,f,h=>by refine (bE ?_).trans ((BT (e:=e) (op:=op) (tx:=tx) (s:=s) (i:=i) (b:=b) g m (x+1) (λy=>f y ||decide (x=y)) (by omega)).trans ?_);{(have c:Z' ((x:Int)<=(a:Int))=I:=by simp only[decide_eq_true_eq];omega);have d:=HH (x:=a) (by simp only[mg];omega);have k:=wj (i:=x) (n:=256) (by omega) (by decide);simp only[go_sem,bn,FI,c,d,k,aab (f:=f) (x:=x) (by omega),agS (f:=f) (x:=x) (by omega)]};have j:(λy=>(λy=>f y ||decide (x=y)) y ||(Z' (x+1<=y) && Z' (y<=a)))=λy=>f y ||(Z' (x<=y) && Z' (y<=a)):=by{funext y;by_cases c:x=y;{subst c;(have:x<=a:=by omega);simp[this]};by_cases d:x<=y;{(have:x+1<=y:=by omega);simp[c,d,this]};(have:¬x+1<=y:=by omega);simp[c,d,this]};rw[j]
theorem Jm{op tx s i b:D}{f:Nat->Bool}:∀(m x:Nat),x+m=256->
  bJ (lB G FJ) (0,[E (x:Int),op,tx,s,i,b,hB f,bL f x])=Z (0,[E 256,.bool J,op,tx,s,i,b,hB f,bL f 256])
 |0,x,h=>by (obtain rfl:x=256:=by omega);refine aO ?_;simp only[go_sem,bn,FJ,n256,eg]
 |m+1,x,h=>by refine (bE ?_).trans (Jm m (x+1) (by omega));(have g:(x:Int)<256:=by omega);have e:=aab (f:=f) (x:=x) (by omega);have c:=agR (f:=f) (x:=x) (by omega);have d:=wj (i:=x) (n:=256) (by omega) (by decide);have j:=Su (x:=x) (by omega);cases a:f x with|false=>{rw[aka a];rw[a]at c;simp only[go_sem,bn,FJ,g,e,c,d]}|true=>rw[a]at c;simp only[go_sem,bn,FJ,g,e,c,d,j,mkU,Yy (f:=f) (n:=x) (by omega) a]
def oF(a b:Nat):Z' ((a:Int)<=(b:Int))=Z' (a<=b):=by apply decide_eq_decide.2;omega
def zJ(s:z)(i:Nat):∃a:Nat,a<256/\bY s i=(a:Int):=by have:=mP s i;exact⟨(bY s i).toNat,by omega,by omega⟩
def kY(e:D)(s:z)(i:Nat)(f:Nat->Bool):u (D×D)->Nat×M D
 |none=>(0,[e,.int .i64 0,.str ⟨#[]⟩,.str s,.int .i64 (i:Int),.bool J,hB f])
 |some (a,v)=>(1,[e,a,v,.bool J,.int .i64 0,.str ⟨#[]⟩,.str s,.int .i64 (i:Int),.bool J,hB f])
def ahc(f:Nat->Bool)(a:Nat)(l:M (Int×Int)):(λy:Nat=>(f y ||(Z' (a<=y) && Z' (y<=a))) ||pv l y)=λy=>f y ||pv (((a:Int),(a:Int))::l) y:=by funext y;simp only[pv,hO,iO];congr 3<;>simp
def aaq(f:Nat->Bool)(a b:Nat)(l:M (Int×Int)):(λy:Nat=>(f y ||(Z' (a<=y) && Z' (y<=b))) ||pv l y)=λy=>f y ||pv (((a:Int),(b:Int))::l) y:=by funext y;simp only[pv,hO,iO];congr 3<;>simp
def aeI(e:D)(s:z)(i:Nat)(f:Nat->Bool)(r:u (M (Int×Int)×Nat))(o:Nat×M D):Prop:=match r with
 |some (l,k)=>i+1+l.length<=k/\k<=s.size/\o=(1,[e,.bool J,.int .i64 0,.str ⟨#[]⟩,.str s,.int .i64 (k:Int),.bool J,hB λy=>f y ||pv l y])
 |none=>∃k:Nat,i<=k/\k<=s.size/\o=(0,[.int .i64 0,.str ⟨#[]⟩,.str s,.int .i64 (k:Int),.bool I])
theorem VR{e:D}{s:z}(hs:s.size<=mg):∀(g i:Nat) (f:Nat->Bool) (q:u (D×D)),i<=s.size->s.size+1 - i<=g->
  ∃o,bJ (lB G jc) (kY e s i f q)=Z o/\aeI e s i f (jr s g i) o:=by intro g;induction g with|zero=>{intro i f q h1 m;omega}|succ g ih=>intro i f q hi hg;have nx:∀(j:Nat) (f':Nat->Bool) (d v:D) (S:Int×Int),i<j->j<=s.size->(∀l,(λy=>f' y ||pv l y)=λy=>f y ||pv (S::l) y)->lB G jc (kY e s i f q)=Z (.go (kY e s j f' (Z (d,v))))->sf s i=Z (S,j)->iU s i 93=J-> ∃o,bJ (lB G jc) (kY e s i f q)=Z o/\aeI e s i f (jr s (g+1) i) o:=by{intro j f' d v S hij hj hf qz W t;obtain⟨o,h1,m⟩:=ih j f' (Z (d,v)) hj (by omega);refine⟨o,(bE qz).trans h1,?_⟩;(have V:jr s (g+1) i=(jr s g j).map λp=>(S::p.1,p.2):=by simp only[jr,t,aL,if_false,W]);rw[V];cases hr:jr s g j with|none=>{rw[hr]at m;obtain⟨k,k1,T,k3⟩:=m;exact⟨k,by omega,T,k3⟩}|some p=>obtain⟨l,k⟩:=p;rw[hr]at m;obtain⟨k1,T,k3⟩:=m;rw[hf]at k3;exact⟨by show i+1+(S::l).length<=k;rw[aN];omega,T,k3⟩};have bd:∀(k:Nat),i<=k->k<=s.size->iU s i 93=J->sf s i=O->lB G jc (kY e s i f q)=Z (.out (0,[E 0,.str ⟨#[]⟩,.str s,E (k:Int),.bool I]))-> ∃o,bJ (lB G jc) (kY e s i f q)=Z o/\aeI e s i f (jr s (g+1) i) o:=by{intro k k1 T t W ho;refine⟨_,aO ho,?_⟩;(have V:jr s (g+1) i=O:=by simp only[jr,t,aL,if_false,W]);rw[V];exact⟨k,k1,T,rfl⟩};cases t:iU s i 93 with|true=>{obtain⟨F,_⟩:=mE.1 t;have h:=sk hs t;refine⟨(1,[e,.bool J,E 0,.str ⟨#[]⟩,.str s,E ((i+1:Nat):Int),.bool J,hB f]),?_,?_⟩;{refine aO ?_;cases q with|none=>{simp only[go_sem,bn,kY,jc,h]}|some p=>simp only[go_sem,bn,kY,jc,h]};(have V:jr s (g+1) i=Z ([],i+1):=by simp only[jr,t,if_true]);rw[V];(have he:(λy=>f y ||pv [] y)=f:=by funext y;simp[pv]);refine⟨by simp,by omega,?_⟩;rw[he]}|false=>have h:=sj t;by_cases F:i<s.size;{obtain⟨a,ha,Vp⟩:=zJ s i;have r:=ano (b:=bY s i) (mP s i);have A:=df s i F;have B:=wj F hs;(have n:¬s.size<=i:=by omega);cases L:Qf (bY s i) with|false=>{refine bd i (aI _) hi t (by simp only[sf,L,eo,aL,if_false]) ?_;rw[L]at r;cases q with|none=>{simp only[go_sem,bn,kY,jc,h,oF,n,A,r]}|some p=>simp only[go_sem,bn,kY,jc,h,oF,n,A,r]}|true=>rw[L]at r;cases K:iU s (i+1) 126 with|false=>{have m:=sj K;have P:=BT (e:=e) (op:=E 0) (tx:=.str ⟨#[]⟩) (s:=.str s) (i:=E ((i+1:Nat):Int)) (b:=.bool J) ha 1 a f rfl;rw[<- Vp]at P;refine nx (i+1) _ (.int .u8 (bY s i)) (E ((a+1:Nat):Int)) (bY s i,bY s i) (by omega) (by omega) (λl=>by rw[Vp];exact ahc f a l) ?_ (by simp only[sf,F,L,K,decide_true,kF,if_true,aL,if_false]) t;cases q with|none=>{simp only[go_sem,bn,kY,jc,h,oF,n,A,r,B,m,P]}|some p=>simp only[go_sem,bn,kY,jc,h,oF,n,A,r,B,m,P]}|true=>have m:=sk hs K;obtain⟨hl2,_⟩:=mE.1 K;have R:∀(k:Nat),k=i+2->sf s i=O->lB G jc (kY e s i f q)=Z (.out (0,[E 0,.str ⟨#[]⟩,.str s,E (k:Int),.bool I]))->∃o,bJ (lB G jc) (kY e s i f q)=Z o/\aeI e s i f (jr s (g+1) i) o:=λk hk W ho=>bd k (by omega) (by omega) t W ho;by_cases C:i+1+1<s.size;{have w:=df s (i+1+1) C;have N:=ano (b:=bY s (i+1+1)) (mP s (i+1+1));have U:=wj C hs;(have H:¬s.size<=i+1+1:=by omega);cases Y:Qf (bY s (i+1+1)) with|false=>{rw[Y]at N;refine R (i+1+1) rfl (by simp only[sf,F,L,K,Y,decide_true,kF,if_true,dH,eo,aL,if_false]) ?_;cases q with|none=>{simp only[go_sem,bn,kY,jc,h,oF,n,A,r,B,m,H,w,N]}|some p=>simp only[go_sem,bn,kY,jc,h,oF,n,A,r,B,m,H,w,N]}|true=>rw[Y]at N;by_cases gf:bY s (i+1+1)<bY s i;{(have Q:¬bY s i<=bY s (i+1+1):=by omega);refine R (i+1+1) rfl (by simp only[sf,F,L,K,Y,Q,decide_true,decide_false,kF,if_true,eo,aL,if_false]) ?_;cases q with|none=>{simp only[go_sem,bn,kY,jc,h,oF,n,A,r,B,m,H,w,N,gf]}|some p=>simp only[go_sem,bn,kY,jc,h,oF,n,A,r,B,m,H,w,N,gf]};(have Q:bY s i<=bY s (i+1+1):=by omega);obtain⟨c,hz,X⟩:=zJ s (i+1+1);have P:=BT (e:=e) (op:=E 0) (tx:=.str ⟨#[]⟩) (s:=.str s) (i:=E ((i+1+1+1:Nat):Int)) (b:=.bool J) hz (c+1 - a) a f (by omega);have wa:=HH (x:=a) (by simp only[mg];omega);rw[<- X,<- Vp]at P;refine nx (i+1+1+1) _ (.int .u8 (bY s (i+1+1))) (E ((c+1:Nat):Int)) (bY s i,bY s (i+1+1)) (by omega) (by omega) (λl=>by rw[Vp,X];exact aaq f a c l) ?_ (by simp only[sf,F,L,K,Y,C,Q,decide_true,kF,if_true]) t;cases q with|none=>{simp only[go_sem,bn,kY,jc,h,oF,n,A,r,B,m,H,w,N,U,gf,P]}|some p=>simp only[go_sem,bn,kY,jc,h,oF,n,A,r,B,m,H,w,N,U,gf,P]};(have H:s.size<=i+1+1:=by omega);refine R (i+1+1) rfl (by have:¬i+2<s.size:=C;simp only[sf,F,L,K,this,decide_true,decide_false,kF,if_true,dH,aL,if_false]) ?_;cases q with|none=>{simp only[go_sem,bn,kY,jc,h,oF,n,A,r,B,m,H]}|some p=>simp only[go_sem,bn,kY,jc,h,oF,n,A,r,B,m,H]};(have n:s.size<=i:=by omega);refine bd i (aI _) hi t (by simp only[sf,F,decide_false,dH,aL,if_false]) ?_;cases q with|none=>{simp only[go_sem,bn,kY,jc,h,oF,n]}|some p=>simp only[go_sem,bn,kY,jc,h,oF,n]
def PA(s:z)(i c:Nat)(r:PR)(p:dD)(k:Nat)(b:Bool):Prop:=yZ 64 p=I/\i<=k/\k<=s.size/\match r with
 |some q=>b=J/\q=(p,k)/\i+c<=k
 |none=>b=I
def kW(op:Int)(t:z)(h:t.size<=256):yZ 64 ⟨op,t,[]⟩=I:=y_ h (by simp) (by simp)
theorem Xh{s:z}{g i k:Nat}(h:jr s g i=Z ([],k)):k=i+1:=by cases g with|zero=>{cases h}|succ g=>simp only[jr]at h;split at h;{cases h;rfl};split at h;{obtain⟨p,_,h⟩:=ay.1 h;simp at h};cases h
theorem aqD{s:z}{i:Nat}(w:s.size<=mg)(C:i<=s.size):∃p k b,G 220 [.str s,E (i:Int),.bool J]=Z (0,jy p++[.str s,.int .i64 (k:Int),.bool b])/\PA s i 0 (OT s i) p k b:=by obtain⟨o,c,g⟩:=VR (e:=E (i:Int)) w (s.size+1) i (λ_=>J) O (by omega) (by omega);have m:=adh;simp only[kY]at c;cases a:jr s (s.size+1) i with|none=>{rw[a]at g;obtain⟨k,j,d,rfl⟩:=g;refine⟨⟨0,eT,[]⟩,k,I,ch t220 rfl ?_,kW _ _ CT,j,d,by rw[OT,a]⟩;simp only[go_sem,t220,m,c,bk];rfl}|some q=>obtain⟨l,k⟩:=q;rw[a]at g;obtain⟨j,d,rfl⟩:=g;(have B:(λy:Nat=>(λ_=>J) y ||pv l y)=pv l:=by funext y;simp);rw[B]at c;(have v:IntKind.i64.wrap ((i:Int)+1)=((i+1:Nat):Int):=by rw[wrap_i64 (by simp only[mg]at w;omega)];omega);have h:=λtx A b=>Jm (op:=E 0) (tx:=tx) (s:=.str s) (i:=A) (b:=b) (f:=pv l) 256 0 rfl;simp only[bL0,n0]at h;have x:=Yz (f:=pv l) (n:=256);cases l with|nil=>{have t:=Xh a;subst t;refine⟨⟨1,bsT (pv []),[]⟩,i+1,I,ch t220 rfl ?_,kW _ _ (Bk _),by omega,d,by rw[OT,a]⟩;simp only[go_sem,t220,m,c,v,Rm,h,x,bk];rfl}|cons r l=>(have t:¬(k:Int)=((i+1:Nat):Int):=by rw[aN]at j;omega);refine⟨⟨1,bsT (pv (r::l)),[]⟩,k,J,ch t220 rfl ?_,kW _ _ (Bk _),by omega,d,by rw[OT,a];exact⟨rfl,rfl,by omega⟩⟩;simp only[go_sem,t220,m,c,v,t,Rm,h,x,bk];rfl
theorem N4 {a c : Type} {b : a -> u (Sg a c)} (mk : Nat -> a) (n : Nat) {fin : c} (d : ∀ i, i<n -> b (mk i) = Z (.go (mk (i + 1)))) (e : b (mk n) = Z (.out fin)) : bJ b (mk 0) = Z fin := by
  have h : ∀ m i, i + m = n -> bJ b (mk i) = Z fin := by
    intro m
    induction m with
    | zero => intro i h; obtain rfl : i = n := by omega
              exact aO e
    | succ m f => intro i h; rw [bE (d i (by omega))]; exact f (i + 1) (by omega)
  exact h n 0 (by omega)
def Sm{l:M Bool}{i:Nat}{b:Bool}(h:nth l i=Z b):aS (.el 1) [bR l,E (i:Int)]=Z (.list 0 J [[.bool b]]):=by rw[kB,aY,h];rfl
def rM{l:M Bool}{i:Nat}(h:i<l.length):aS .UW [bR l,E (i:Int)]=Z (.bool J):=jh _ _ _ _ (by simpa using h)
def Bg{l:M Bool}{i:Nat}{b:Bool}(h:nth l i=Z b):aS (.IY 1 0 1 I) [bR l,E (i:Int)]=Z (.list 0 J [[.bool b]]):=by simp only[aS,cn,aY,h,aX];simp[CS,db,D.plain]
def Et{l:M Bool}{i:Nat}{c:Bool}(h:i<l.length):aS (.set 0) [bR l,E (i:Int),.bool c]=Z (bR (l.set i c)):=by have a:nth l i=Z l[i]:=dL h;simp only[aS,cn,aY,a,aX];rw[if_pos ⟨by simp,λ_=>by simp[db,D.plain]⟩];simp only[bR,List.map_set];rfl
def zM{n:Nat}(h:n<=1073741824):aS (.make 1 1 I [zB J]) [E (n:Int)]=Z (bR (a_ n J)):=by simp only[aS,cn];rw[if_pos ⟨by omega,by simp only[room];omega,by omega⟩];simp[bR,CS,SK.d]
def YH{l m:M Bool}(h:m.length=l.length):aS .IT [bR l,bR m]=Z (bR m):=by simp only[aS,aj,h,and_self,if_true]
def ll(a:M Bool)(i:Nat):M Bool:=a.take i++a_ (a.length - i) J
def agG(a:M Bool):ll a 0=a_ a.length J:=by simp[ll]
def QA(a:M Bool):ll a a.length=a:=by simp[ll]
def z8(a:M Bool)(i:Nat)(h:i<=a.length):(ll a i).length=a.length:=by simp[ll];omega
def EX(a:M Bool)(i j:Nat)(h:i<=a.length):(ll a i)[j]?=if j<i then a[j]? else if j<a.length then Z J else O:=by unfold ll;rw[zt];(have c:(a.take i).length=i:=by rw[bo];omega);rw[c];split;{rw[List.getElem?_take_of_lt (by assumption)]};rw[List.getElem?_replicate];by_cases b:j<a.length;{rw[if_pos (by omega),if_pos b]};rw[if_neg (by omega),if_neg b]
def Bz{a:M Bool}{i:Nat}{b:Bool}(h:nth a i=Z b):(ll a i).set i b=ll a (i+1):=by have e:i<a.length:=bj h;rw[ek]at h;apply gq;intro j;rw[ko,EX _ _ _ (by omega),EX _ _ _ (by omega),z8 _ _ (by omega)];by_cases c:i=j;{subst c;rw[if_pos rfl,if_pos e,if_pos (by omega),h]};rw[if_neg c];by_cases d:j<i;{rw[if_pos d,if_pos (by omega)]};rw[if_neg d,if_neg (show ¬j<i+1 by omega)]
theorem JD:∀{a b:M Bool} {i:Nat} {x y:Bool},nth a i=Z x->nth b i=Z y->nth (dN a b) i=Z (x ||y)
 |_::_,_::_,0,_,_,d,c=>by cases d;cases c;rfl
 |a::x,b::y,i+1,_,_,d,c=>JD (a:=x) (b:=y) d c
def Ij{n:Nat}(h:n<=mg):IntKind.i64.wrap ((n:Int)+1)=((n+1:Nat):Int):=by rw[wrap_i64 (by simp only[mg]at h;omega)];omega
def aid{a b:M Bool}(o:a.length<=mg+1)(v:b.length=a.length):G 233 [bR a,bR b]=Z (0,[bR (dN a b)]):=by have d:=kz a b;have m:=zM (n:=a.length) (by simp only[mg]at o;omega);have e:=N4 (b:=lB G Lj) (λi=>(0,[bR a,bR b,E (i:Int),bR (ll (dN a b) i)])) a.length (fin:=(0,[bR a,bR b,E a.length,.bool J,bR (ll (dN a b) a.length)])) (by intro i f;have k:IntKind.i64.wrap ((i:Int)+1)=((i+1:Nat):Int):=Ij (by omega);have h:nth a i=Z a[i]:=dL f;have g:nth b i=Z (b[i]'(by omega)):=dL (by omega);have p:=JD h g;have t:=Sm h;have s:=Sm g;have r:=rM (l:=ll (dN a b) i) (i:=i) (by rw[z8 _ _ (by omega)];omega);have q:=λc=>Et (l:=ll (dN a b) i) (i:=i) (c:=c) (by rw[z8 _ _ (by omega)];omega);have j:=Bz p;generalize a[i]=x at *;generalize (b[i]'(by omega))=y at *;cases x<;>cases y<;>simp only[dZ,dF]at j<;>simp only[go_sem,bn,Lj,f,k,t,s,r,q,j]) (by simp only[go_sem,bn,Lj,aG]);rw[n0,agG,d,<- d,QA,d]at e;refine ch t233 rfl ?_;simp only[go_sem,t233,m,e]
def vu(p:Nat->Bool)(k:Nat):(cH (k+1)).any p=((cH k).any p ||p k):=by rw[List.range_succ,List.any_append];simp
def TW{t s:z}{a:M Bool}{i:Nat}{x:Bool}(b:i<s.size)(h:nth a i=Z x):nth (PJ t s a) (i+1)=Z (x && hasB t (bY s i)):=by have:=Ra (f:=λi=>(nth a i).getD J && hasB t (bY s i)) b;rw[h]at this;exact this
def Rb{l:M Bool}{i:Nat}{c:Bool}(h:i<l.length):nth (l.set i c) i=Z c:=by rw[ek,ko];simp[h]
theorem VX{s t:z}{a o:M Bool}{op ks:D}{i:Nat}{x:Bool}(Q:s.size<=mg)(P:t.size<=mg)(B:i<s.size)(C:nth a i=Z x)(f:nth o (i+1)=Z J) :
  ∃d:Int,bJ (lB G vS) (0,[.str s,bR a,E (i:Int),E 0,op,.str t,ks,bR o])=Z (0,[.str s,bR a,E (i:Int),E d,.bool J,op,.str t,ks,bR (o.set (i+1) (x && hasB t (bY s i)))]):=by have y:=Sm C;have e:=bj f;have A:IntKind.i64.wrap ((i:Int)+1)=((i+1:Nat):Int):=Ij (by omega);cases x with|false=>{have m:o.set (i+1) (J && hasB t (bY s i))=o:=by{apply gq;intro j;rw[ko];rw[ek]at f;by_cases g:i+1=j;{subst g;rw[if_pos rfl,if_pos e,f];rfl};rw[if_neg g]};rw[m];refine⟨0,aO ?_⟩;by_cases v:(0:Int)<(t.size:Int);{simp only[go_sem,bn,vS,v,y]};simp only[go_sem,bn,vS,v]}|true=>refine⟨t.size,?_⟩;have p:=N4 (b:=lB G vS) (λk=>(0,[.str s,bR a,E (i:Int),E (k:Int),op,.str t,ks,bR (o.set (i+1) ((cH k).any λk=>Z' (bY t k=bY s i)))])) t.size (fin:=(0,[.str s,bR a,E (i:Int),E t.size,.bool J,op,.str t,ks,bR (o.set (i+1) (hasB t (bY s i)))])) (by intro k r;have h:IntKind.i64.wrap ((k:Int)+1)=((k+1:Nat):Int):=Ij (by omega);rw[vu];generalize (cH k).any (λk=>Z' (bY t k=bY s i))=q;(have n:i+1<(o.set (i+1) q).length:=by rw[List.length_set];exact e);have N:=rM n;have L:=Bg (Rb (l:=o) (i:=i+1) (c:=q) e);have w:=λc=>Et (l:=o.set (i+1) q) (i:=i+1) (c:=c) n;have K:=df t k r;have H:=df s i B;have F:∀c,(o.set (i+1) q).set (i+1) c=o.set (i+1) c:=λc=>List.set_set ..;simp only[F]at w;cases q<;>simp only[go_sem,bn,vS,r,A,h,y,N,L,w,K,H]) (by have:hasB t (bY s i)=(cH t.size).any λk=>Z' (bY t k=bY s i):=rfl;rw[this];simp only[go_sem,bn,vS,aG]);have m:o.set (i+1) ((cH 0).any λk=>Z' (bY t k=bY s i))=o:=by{apply gq;intro j;rw[ko];rw[ek]at f;by_cases g:i+1=j;{subst g;rw[if_pos rfl,if_pos e,f];rfl};rw[if_neg g]};rw[m,n0]at p;rw[dw];exact p
def aba{J:M Bool}{i j:Nat}(b:i<=j)(a:j<J.length):nth (ll J i) j=Z false:=by rw[ek,EX _ _ _ (by omega),if_neg (by omega),if_pos a]
def VY{s t:z}{a:M Bool}{op ks:D}(m:s.size<=mg)(l:t.size<=mg)(p:a.length=s.size+1) :
  bJ (lB G FN) (0,[.str s,bR a,E 0,op,.str t,ks,bR (a_ (s.size+1) false)])=Z (0,[.str s,bR a,E s.size,.bool false,op,.str t,ks,bR (PJ t s a)]):=by have g:=Kg t s a;have f:=N4 (b:=lB G FN) (λi=>(0,[.str s,bR a,E (i:Int),op,.str t,ks,bR (ll (PJ t s a) (i+1))])) s.size (fin:=(0,[.str s,bR a,E s.size,.bool false,op,.str t,ks,bR (ll (PJ t s a) (s.size+1))])) (by intro i d;have k:IntKind.i64.wrap ((i:Int)+1)=((i+1:Nat):Int):=Ij (by omega);have h:nth a i=Z (a[i]'(by omega)):=dL (by omega);have n:=TW (t:=t) d h;obtain⟨c,e⟩:=VX (op:=op) (ks:=ks) m l d h (aba (J:=PJ t s a) (i:=i+1) (j:=i+1) (aI _) (by omega));rw[Bz n]at e;simp only[go_sem,bn,FN,d,k,e]) (by simp only[go_sem,bn,FN,aG]);have o:ll (PJ t s a) (0+1)=a_ (s.size+1) false:=by{rw[ll,g];simp[PJ,ir]};rw[o,n0]at f;rw[f];congr 9;rw[<- g,QA]
def neB(x y:M Bool):Bool:=!Z' (x=y)
theorem Yo:∀{x y:M Bool},x.length=y.length->(cH x.length).any (λj=>!Z' (nth x j=nth y j))=neB x y
 |[],[],_=>rfl
 |a::x,b::y,h=>by have c:=Yo (x:=x) (y:=y) (by simpa using h);rw[aN,List.range_succ_eq_map,hO,List.any_map];have i:((λj=>!Z' (nth (a::x) j=nth (b::y) j)) ∘ Nat.succ)=λj=>!Z' (nth x j=nth y j):=rfl;rw[i,c];simp only[neB,cr];have g:nth (a::x) 0=Z a:=rfl;have f:nth (b::y) 0=Z b:=rfl;rw[g,f];by_cases e:a=b<;>by_cases d:x=y<;>simp[e,d]
def Jn{s op tx ks:D}{o x:M Bool}(t:o.length<=mg+1)(e:x.length=o.length) :
  bJ (lB G BX) (0,[s,.bool J,E 0,op,tx,ks,bR o,bR x])=Z (0,[s,.bool (neB x o),E o.length,.bool J,op,tx,ks,bR o,bR x]):=by rw[<- Yo e];have f:=N4 (b:=lB G BX) (λi=>(0,[s,.bool ((cH i).any λj=>!Z' (nth x j=nth o j)),E (i:Int),op,tx,ks,bR o,bR x])) o.length (fin:=(0,[s,.bool ((cH o.length).any λj=>!Z' (nth x j=nth o j)),E o.length,.bool J,op,tx,ks,bR o,bR x])) (by intro i a;have k:IntKind.i64.wrap ((i:Int)+1)=((i+1:Nat):Int):=Ij (by omega);have h:nth o i=Z o[i]:=dL a;have g:nth x i=Z (x[i]'(by omega)):=dL (by omega);rw[vu,h,g];generalize (cH i).any (λj=>!Z' (nth x j=nth o j))=q;have r:=Bg h;have p:=Bg g;have n:=rM a;have m:=rM (l:=x) (i:=i) (by omega);generalize o[i]=c at *;generalize (x[i]'(by omega))=d at *;cases q<;>cases c<;>cases d<;>simp only[go_sem,bn,BX,a,k,r,p,n,m,ao]) (by simp only[go_sem,bn,BX,aG]);rw[n0]at f;rw[e];exact f
def Ns(p:dD):(jy p).length=3:=by rw[bk];rfl
def ru(p:dD)(k:Nat)(a:Bool):aS (.has 3) [.list k a [jy p]]=Z (.bool J):=by rw[zb,Ns,if_pos (aI 3)]
def Nu{l:M dD}{i:Nat}{p:dD}(h:nth l i=Z p):aS (.el 3) [cQ l,E (i:Int)]=Z (.list 0 J [jy p]):=by rw[kB,aY,h];rfl
def xT{k:dD}:aS (.el 3) [cQ [k],E 0]=Z (.list 0 J [jy k]):=Nu (l:=[k]) (i:=0) rfl
def Hg(h:u D)(s:z)(op:Int)(t:z)(k:dD)(x:M Bool):Nat×M D:=match h with
 |none=>(0,[.str s,.int .i64 op,.str t,cQ [k],bR x])
 |some a=>(1,[.str s,a,.int .i64 op,.str t,cQ [k],bR x])
section
variable {s:z} {k:dD} {f:M Bool->M Bool} (hs:s.size<=mg) (hf:∀x:M Bool,x.length=s.size+1->(f x).length=s.size+1)
 (ih:∀x:M Bool,x.length=s.size+1->G 234 (jy k++[.str s,bR x])=Z (0,[bR (f x)]))
include hs hf ih
theorem V0{t:z}:∀(m:Nat) (x:M Bool) (h:u D),outs x<m->x.length=s.size+1->
  bJ (lB G oV) (Hg h s 4 t k x)=Z (0,[.str s,.bool I,E 4,.str t,cQ [k],bR (C9 f m x)]):=by intro m;induction m with|zero=>{intro x h q;omega}|succ m p=>intro x h q e;have i:=ih x e;rw[bk]at i;simp only[ax,av]at i;have j:=aid (a:=x) (b:=f x) (by rw[e];omega) (by rw[hf x e,e]);have n:=kz x (f x);have g:=Jn (s:=.str s) (op:=E 4) (tx:=.str t) (ks:=cQ [k]) (o:=x) (x:=dN x (f x)) (by rw[e];omega) n;simp only[C9];by_cases d:dN x (f x)=x;{rw[if_pos d];(have l:neB (dN x (f x)) x=J:=by simp[neB,d]);rw[l,d]at g;rw[d]at j;refine aO ?_;cases h with|none=>{simp only[go_sem,bn,Hg,oV,xT,bk k,i,j,g]}|some c=>simp only[go_sem,bn,Hg,oV,xT,bk k,i,j,g]};rw[if_neg d];(have l:neB (dN x (f x)) x=I:=by simp[neB,d]);rw[l]at g;refine (bE (s':=Hg (Z (.bool J)) s 4 t k (dN x (f x))) ?_).trans (p _ (Z (.bool J)) (by have:=(yy x (f x)).2 d;omega) (by rw[n];exact e));cases h with|none=>{simp only[go_sem,bn,Hg,oV,xT,bk k,i,j,g]}|some c=>simp only[go_sem,bn,Hg,oV,xT,bk k,i,j,g]
theorem VZ{t:z}{x:M Bool}(c:x.length=s.size+1) :
  bJ (lB G oV) (0,[.str s,E 5,.str t,cQ [k],bR x])=Z (0,[.str s,.bool I,E 5,.str t,cQ [k],bR (dN x (f x))]):=by have d:=ih x c;rw[bk]at d;simp only[ax,av]at d;have i:=aid (a:=x) (b:=f x) (by rw[c];omega) (by rw[hf x c,c]);have h:=kz x (f x);have e:=Jn (s:=.str s) (op:=E 5) (tx:=.str t) (ks:=cQ [k]) (o:=x) (x:=dN x (f x)) (by rw[c];omega) h;refine aO ?_;cases g:neB (dN x (f x)) x<;>rw[g]at e<;>simp only[go_sem,bn,oV,xT,bk k,d,i,e]
end
def yn{a β:Type}(g:β->a->β)(b:β)(l:M a)(i:Nat)(x:a)(h:nth l i=Z x):(l.take (i+1)).foldl g b=g ((l.take i).foldl g b) x:=by rw[cd l i x h,List.foldl_append];rfl
theorem NY{s:z}{f:dD->M Bool->M Bool}(a:∀(k:dD) (x:M Bool),x.length=s.size+1->(f k x).length=s.size+1):∀(l:M dD) (b:M Bool),b.length=s.size+1->(l.foldl (λo k=>f k o) b).length=s.size+1
 |[],_,h=>h
 |k::l,b,h=>NY a l _ (a k b h)
theorem BB{s:z}{g:dD->M Bool}:∀(l:M dD) (b:M Bool),b.length=s.size+1->(l.foldl (λo k=>dN o (g k)) b).length=s.size+1
 |[],_,h=>h
 |k::l,b,h=>BB l _ (by rw[kz];exact h)
def ad6{a:Type}{l:M a}(h:l.length≠1):¬(l.length:Int)=1:=by omega
theorem aie{s:z}(H:s.size<=mg)(n:Nat):∀(p:dD) (a:M Bool),aF p<n->yZ 64 p=I->a.length=s.size+1->G 234 (jy p++[.str s,bR a])=Z (0,[bR (jz s n p a)]):=by induction n with|zero=>{intro p a h;omega}|succ n V=>intro p a hz S A;have c:=sO (s:=s) n;have y:∀k∈p.ai,∀x:M Bool,x.length=s.size+1->G 234 (jy k++[.str s,bR x])=Z (0,[bR (jz s n k x)]):=λk y x F=>V k x (by have:=dD.uT y;omega) (D6 S y) F;have q:=Ij H;have r:=zM (n:=s.size+1) (by simp only[mg]at H;omega);have Y:=D7 S;have L:=YH (l:=a_ (s.size+1) J) (m:=a) (by simpa using A);have W:=aec S;refine ch t234 (by rw[bk];rfl) ?_;simp only[jz];unfold NA;by_cases R:p.op=1;{have d:=VY (s:=s) (t:=p.text) (a:=a) (op:=E 1) (ks:=cQ p.ai) H (by simp only[mg];omega) A;rw[if_pos R];simp only[go_sem,q,r,t234,bk p,R,d]};rw[if_neg R];by_cases Q:p.op=2;{rw[if_pos Q];have d:=cO (b:=lB G Lk) p.ai (λi (x:M Bool)=>(0,[.str s,E (i:Int),E 2,.str p.text,cQ p.ai,bR x])) (λi=>(p.ai.take i).foldl (λo k=>jz s n k o) a) (0,[.str s,E p.ai.length,.bool J,E 2,.str p.text,cQ p.ai,bR (p.ai.foldl (λo k=>jz s n k o) a)]) (by intro i k e;have K:=bj e;have w:=wj (i:=i) (n:=p.ai.length) K (by simp only[mg];omega);have C:=y k (bp e) _ (NY (f:=jz s n) c (p.ai.take i) a A);rw[bk]at C;simp only[ax,av]at C;rw[yn _ _ _ _ _ e];simp only[go_sem,bn,Lk,K,Nu e,ru];simp only[go_sem,bk k,C,w]) (by rw[bq];simp only[go_sem,bn,Lk,aG]) p.ai.length 0 (by omega);rw[n0,bB,zr]at d;simp only[go_sem,q,r,L,t234,bk p,Q,d]};rw[if_neg Q];by_cases P:p.op=3;{rw[if_pos P];have d:=cO (b:=lB G Ll) p.ai (λi (x:M Bool)=>(0,[.str s,bR a,E (i:Int),E 3,.str p.text,cQ p.ai,bR x])) (λi=>(p.ai.take i).foldl (λo k=>dN o (jz s n k a)) (a_ (s.size+1) J)) (0,[.str s,bR a,E p.ai.length,.bool J,E 3,.str p.text,cQ p.ai,bR (p.ai.foldl (λo k=>dN o (jz s n k a)) (a_ (s.size+1) J))]) (by intro i k e;have K:=bj e;have w:=wj (i:=i) (n:=p.ai.length) K (by simp only[mg];omega);have C:=y k (bp e) a A;have U:=BB (s:=s) (g:=λk=>jz s n k a) (p.ai.take i) (a_ (s.size+1) J) (by simp);have X:=aid (a:=(p.ai.take i).foldl (λo k=>dN o (jz s n k a)) (a_ (s.size+1) J)) (b:=jz s n k a) (by rw[U];omega) (by rw[c k a A,U]);rw[bk]at C;simp only[ax,av]at C;rw[yn _ _ _ _ _ e];simp only[go_sem,bn,Ll,K,Nu e,ru];simp only[go_sem,bk k,C,X,w]) (by rw[bq];simp only[go_sem,bn,Ll,aG]) p.ai.length 0 (by omega);rw[n0,bB,zr]at d;simp only[go_sem,q,r,t234,bk p,P,d]};rw[if_neg P];by_cases D:p.op=4;{rw[if_pos D];(have j:¬(4:Int)=5:=by decide);by_cases B:p.ai.length=1;{obtain⟨k,v⟩:=dm.1 B;have N:=V0 (t:=p.text) H (c k) (λx F=>y k (by rw[v];simp) x F) (s.size+2) a O (by have:=LZ a;omega) A;simp only[Hg]at N;rw[v,LX];simp only[go_sem,q,r,L,t234,bk p,D,j,v,N]};rw[LY B];have T:=ad6 B;have d:bJ (lB G oV) (0,[.str s,E 4,.str p.text,cQ p.ai,bR a])=Z (1,[.str s,.bool J,E 4,.str p.text,cQ p.ai,bR a]):=by{refine aO ?_;simp only[go_sem,bn,oV,T]};simp only[go_sem,q,r,L,t234,bk p,D,j,d]};rw[if_neg D];by_cases j:p.op=5;{rw[if_pos j];by_cases B:p.ai.length=1;{obtain⟨k,v⟩:=dm.1 B;have N:=VZ (t:=p.text) H (c k) (λx F=>y k (by rw[v];simp) x F) A;rw[v,LX];simp only[go_sem,q,r,L,t234,bk p,j,v,N]};rw[LY B];have T:=ad6 B;have d:bJ (lB G oV) (0,[.str s,E 5,.str p.text,cQ p.ai,bR a])=Z (1,[.str s,.bool J,E 5,.str p.text,cQ p.ai,bR a]):=by{refine aO ?_;simp only[go_sem,bn,oV,T]};simp only[go_sem,q,r,L,t234,bk p,j,d]};rw[if_neg j];simp only[go_sem,q,r,t234,bk p,R,Q,P,D,j]
def aqJ{s:z}{p:dD}(d:s.size<=mg)(m:yZ 64 p=I):G 235 (jy p++[.str s])=Z (0,[.bool (Q6 p s)]):=by have k:=Ij d;have o:=zM (n:=s.size+1) (by simp only[mg]at d;omega);have e:=aie d (aF p+1) p (I::a_ s.size J) (aW _) m (by simp);have g:=sO (s:=s) (aF p+1) p (I::a_ s.size J) (by simp);rw[bk]at e;simp only[ax,av]at e;have j:=rM (l:=a_ (s.size+1) J) (i:=0) (by simp);have f:=Et (l:=a_ (s.size+1) J) (i:=0) (c:=I) (by simp);(have v:(a_ (s.size+1) J).set 0 I=I::a_ s.size J:=by rw[ir];rfl);rw[v]at f;rw[n0]at j f;have t:=rM (l:=jz s (aF p+1) p (I::a_ s.size J)) (i:=s.size) (by rw[g];omega);obtain⟨b,h⟩:∃b,nth (jz s (aF p+1) p (I::a_ s.size J)) s.size=Z b:=⟨_,dL (by rw[g];omega)⟩;have r:=Bg h;refine ch t235 (by rw[bk];rfl) ?_;(have q:Q6 p s=b:=by rw[Q6,h];rfl);rw[q];generalize jz s (aF p+1) p (I::a_ s.size J)=a at *;simp only[go_sem,t235,bk p,k,o,j,f,e,t,r]
theorem abf(b:Int):pCh b=(eB 97 122 b ||(eB 48 57 b ||decide (b=45))):=(rfl)
def aeS{s:z}{i:Nat}(h:i<s.size):aS (.MQ I) [.str s,E (i:Int),E ((i+1:Nat):Int)]=Z (.str (GU (bY s i))):=by (have f:dI (E (i:Int))=Z i:=by simp[dI]);(have e:dI (E ((i+1:Nat):Int))=Z (i+1):=by simp only[dI];rw[if_pos (by omega)];congr 1);simp only[aS,f,e];rw[if_pos ⟨by omega,by omega⟩];congr 2;(have b:(bY s i).toNat=(s[i]?.getD 0).toNat:=by unfold bY;simp);have a:dW (bY s i).toNat=s[i]:=by{rw[b,getElem?_pos s i h,cJ];simp};apply sE;(have d:(GU (bY s i)).data=#[s[i]]:=by simp only[GU,bA,a]);rw[d,ByteArray.data_extract];apply Array.ext;{simp;omega};intro j g c;(have:j=0:=by simpa using c);subst this;simp;rfl
def aoo(k:Nat)(h:k<=mg):IntKind.i64.wrap (((k+1:Nat):Int) - 1)=(k:Int):=by rw[wrap_i64 (by simp only[mg]at h;omega)];omega
def El(f:Nat)(s:z)(i c n:Nat)(a:Bool)(r:PR):Prop:=∃j p k b,j<n/\G f [.str s,.int .i64 (i:Int),.bool a]=Z (j,jy p++[.str s,.int .i64 (k:Int),.bool b])/\PA s i c r p k b
section
variable {s:z} {alt:Nat->PR}
theorem MP(a:Int)(t:z):aS .pl [E a,.str t]=Z (.bool J):=(rfl)
theorem vf(a:Int)(t:z)(l:M dD):aS .xK [E a,.str t,cQ l]=Z (.bool J):=(rfl)
theorem ao4{i d c e k:Nat}{r:PR}{p:dD}{b:Bool}(h:PA s d e r p k b)(j:i<=d)(l:i+c<=d+e):PA s i c r p k b:=by obtain⟨g,m,f,a⟩:=h;refine⟨g,by omega,f,?_⟩;cases r with|none=>{exact a}|some q=>exact⟨a.1,a.2.1,by have:=a.2.2;omega⟩
theorem aqF(l:s.size<=mg){i:Nat}(m:i<s.size)(K:∀j,i<j->j<=s.size->El 223 s j 0 2 J (alt j)):El 222 s i 1 3 J (xY alt s i):=by have H:=wj m l;unfold xY;cases t:iU s i 40 with|true=>{have d:=sk l t;obtain⟨j,p,k,b,D,e,C⟩:=K (i+1) (by omega) (by omega);obtain⟨h,Q,v,g⟩:=C;simp only[bk,ax,av]at e;rw[if_pos rfl];cases b with|true=>{have a:=λc=>L8 (s:=s) (i:=(k:Int)) (c:=c);cases w:alt (i+1) with|some q=>{rw[w]at g;cases g.1}|none=>match j,D with|0,_=>{exact⟨1,p,k,I,by decide,ch t222 rfl (by simp only[go_sem,t222,d,a,e,bk]),h,by omega,v,rfl⟩}|1,_=>exact⟨2,p,k,I,by decide,ch t222 rfl (by simp only[go_sem,t222,d,a,e,bk]),h,by omega,v,rfl⟩}|false=>cases w:alt (i+1) with|none=>{rw[w]at g;cases g}|some q=>rw[w]at g;obtain⟨_,rfl,P⟩:=g;dsimp only;cases f:iU s k 41 with|true=>{have a:=sk l f;have R:=nE f;match j,D with|0,_=>{exact⟨1,p,k+1,J,by decide,ch t222 rfl (by simp only[go_sem,t222,d,a,e,bk]),h,by omega,by omega,rfl,rfl,by omega⟩}|1,_=>exact⟨2,p,k+1,J,by decide,ch t222 rfl (by simp only[go_sem,t222,d,a,e,bk]),h,by omega,by omega,rfl,rfl,by omega⟩}|false=>have a:=sj f;match j,D with|0,_=>{exact⟨1,p,k,I,by decide,ch t222 rfl (by simp only[go_sem,t222,d,a,e,bk]),h,by omega,v,rfl⟩}|1,_=>exact⟨2,p,k,I,by decide,ch t222 rfl (by simp only[go_sem,t222,d,a,e,bk]),h,by omega,v,rfl⟩}|false=>have d:=sj t;rw[if_neg dr];cases o:iU s i 91 with|true=>{have a:=sk l o;obtain⟨p,k,b,e,C⟩:=aqD (i:=i+1) l (by omega);simp only[bk,ax,av]at e;rw[if_pos rfl];exact⟨0,p,k,b,by decide,ch t222 rfl (by simp only[go_sem,t222,d,a,e,bk]),ao4 C (by omega) (by omega)⟩}|false=>have a:=sj o;rw[if_neg dr];cases r:iU s i 46 with|true=>{have B:=sk l r;have A:=aqE;rw[if_pos rfl];exact⟨0,⟨1,UN,[]⟩,i+1,J,by decide,ch t222 rfl (by simp only[go_sem,t222,d,a,B,A,bk];rfl),kW _ _ (Bk _),by omega,by omega,rfl,rfl,by omega⟩}|false=>have B:=sj r;have A:=df s i m;have G:=aeu (mP s i);have F:=Xl (mP s i);have N:=aeS m;have L:=aoo i (by omega);rw[if_neg dr];cases n:pCh (bY s i) with|true=>{simp only[m,decide_true,kF,if_true];refine⟨0,⟨1,GU (bY s i),[]⟩,i+1,J,by decide,ch t222 rfl ?_,kW _ _ (by rw[GU,pg];simp),by omega,by omega,rfl,rfl,by omega⟩;rw[abf]at n;generalize eB 97 122 (bY s i)=x at *;generalize eB 48 57 (bY s i)=y at *;cases x<;>cases y<;>(try simp only[fV]at n)<;>simp only[go_sem,t222,m,n,d,a,B,A,G,F,N,L,H,bk];all_goals rfl}|false=>simp only[eo,aL,if_false];refine⟨0,⟨0,eT,[]⟩,i,I,by decide,ch t222 rfl ?_,kW _ _ CT,by omega,by omega,rfl⟩;rw[abf]at n;generalize eB 97 122 (bY s i)=x at *;generalize eB 48 57 (bY s i)=y at *;cases x<;>cases y<;>simp only[qS,dZ,fV,Bool.true_eq_false]at n;simp only[go_sem,t222,m,n,d,a,B,A,G,F,bk];rfl
end
attribute [go_sem] Pq blk agH PN agC rsl
section
variable (T:Nat->u KF)(cf:Cf)(mf:Mf)(a b:K)(s:St)(d:u Nat)(o:KO)(x y:u (Ex×St))
@[go_sem] theorem y1:cnd T mf (.d (.bool I)) a b s=ev T mf a s:=rfl
@[go_sem] theorem y2:cnd T mf (.d (.bool J)) a b s=ev T mf b s:=rfl
@[go_sem] theorem y3:ife (.d (.bool I)) x y=x:=rfl
@[go_sem] theorem y4:ife (.d (.bool J)) x y=y:=rfl
@[go_sem] theorem y5:gdn cf mf s d o I (.d (.bool I))=DW cf mf s d o:=rfl
@[go_sem] theorem y6:gdn cf mf s d o J (.d (.bool J))=DW cf mf s d o:=rfl
@[go_sem] theorem y7:gdn cf mf s d o I (.d (.bool J))=Z (s.put d .wD):=rfl
@[go_sem] theorem y8:gdn cf mf s d o J (.d (.bool I))=Z (s.put d .wD):=rfl
@[go_sem] theorem y9(w:Bool):gdn cf mf s d o w .wD=Z (s.put d .wD):=rfl
end
def qL(a:Int)(t:z)(l:M dD):aS (.lD 3 J) [E a,.str t,cQ l]=Z (.list 3 J [[E a,.str t,cQ l]]):=gW 3 _ rfl (by decide)
def W7(a b:Int)(t c:z)(l m:D):aS (.lD 3 J) [E a,.str t,l,E b,.str c,m]=Z (.list 3 J [[E a,.str t,l],[E b,.str c,m]]):=by simp[aS,chunk]
def J8{l:M dD}(h:l.length<=mg)(op:Int)(t:z)(a:M dD):aS (.app 3 48) [cQ l,.list 3 J [[E op,.str t,cQ a]]]=Z (cQ (l++[⟨op,t,a⟩])):=by have h:=dQ 3 48 J (l.map jy) [[E op,.str t,cQ a]] (by decide) (by simp only[mg,aj,aN,aK]at *;omega);rw[h];simp[cQ,bk]
def P1(a:Int)(t:z)(b:M dD):D.list 3 J [[E a,.str t,cQ b]]=cQ [⟨a,t,b⟩]:=by simp[cQ,bk]
def P2(a b:Int)(t c:z)(e d:M dD):D.list 3 J [[E a,.str t,cQ e],[E b,.str c,cQ d]]=cQ [⟨a,t,e⟩,⟨b,c,d⟩]:=by simp[cQ,bk]
def Yt{l:M dD}(h:l.length<=mg)(x:dD):aS (.app 3 48) [cQ l,cQ [x]]=Z (cQ (l++[x])):=by have:=J8 h x.op x.text x.ai;rw[P1]at this;cases x;exact this
def aj4(op:Int)(t:z)(a:M dD):aS (.app 3 48) [.list 3 J [],.list 3 J [[E op,.str t,cQ a]]]=Z (cQ [⟨op,t,a⟩]):=J8 (l:=[]) (by decide) op t a
def cV(p:dD):(⟨p.op,p.text,p.ai⟩:dD)=p:=by cases p;rfl
theorem aib(n:Nat):∀p:dD,aF p<n->yZ 64 p=I->G 224 (jy p)=Z (0,jy p):=by
 induction n with
 |zero=>intro p h;omega
 |succ n x=>
  intro p C q;have r:=D7 q;have d:∀k∈p.ai,G 224 (jy k)=Z (0,jy k):=λk d=>x k (by have:=dD.uT d;omega) (D6 q d);refine ch t224 (by rw[bk];rfl) ?_;have v:=tS (b:=lB G BU) p.ai (λe=>e) (λi=>(0,[E (i:Int),E p.op,.str p.text,cQ p.ai,E 0,.str ⟨#[]⟩,E p.op,.str p.text]))
   (λi a=>(1,[E (i:Int),E p.op,.str p.text,cQ p.ai,E 0,.str ⟨#[]⟩,E p.op,.str p.text,cQ a]))
   (0,[E 0,.bool J,E p.op,.str p.text,cQ p.ai,E 0,.str ⟨#[]⟩,E p.op,.str p.text])
   (λa=>(1,[E p.ai.length,.bool J,E p.op,.str p.text,cQ p.ai,E 0,.str ⟨#[]⟩,E p.op,.str p.text,cQ a])) (by
    intro k c;have g:=bj c;have o:=wj (i:=0) (n:=p.ai.length) g (by simp only[mg];omega);have f:=d k (bp c);have j:=Nu c;rw[n0]at j;have m:IntKind.i64.wrap 1=1:=wrap_i64 (by decide);rw[bk]at f;have A:(0:Int)<p.ai.length:=by omega
    simp only[go_sem,bn,BU,n0,A,j,ru];simp only[go_sem,bk k,f,MP,qL,aj4,cV,m]) (by
    intro i k c D;have g:=bj c;have o:=wj (i:=i) (n:=p.ai.length) g (by simp only[mg];omega);have f:=d k (bp c);have j:=Nu c;have y:=λ(op:Int) (t:z) (w:M dD)=>J8 (l:=p.ai.take i) (by rw[bo];simp only[mg];omega) op t w;rw[bk]at f;simp only[go_sem,bn,BU,fc,g,j,ru];simp only[go_sem,bk k,f,MP,qL,y,cV,o]) (by
    intro h;simp only[go_sem,bn,BU,h,n0,aK,eg]) (by
    intro h;simp only[go_sem,bn,BU,aG,fc])
  rw[n0]at v;simp only[go_sem,t224,bk p,v];cases B:p.ai with|nil=>{simp only[go_sem,ei];rfl}|cons s l=>simp only[go_sem,i_,fc]
def aqG{p:dD}(a:yZ 64 p=I):G 224 (jy p)=Z (0,jy p):=aib _ p (aW _) a
section
variable {s:z} {alt:Nat->PR}
theorem VU(W:s.size<=30){i:Nat}{l:M dD}(X:l.length<=100)(S:wv s i=I)(L:El 222 s i 1 3 J (xY alt s i)) :
  ∃(p:dD) (k:Nat) (b:Bool),lB G jL (0,[E 0,.str ⟨#[]⟩,.str s,E (i:Int),.bool J,cQ l])=Z (.go (0,[E 0,.str ⟨#[]⟩,.str s,E (k:Int),.bool b,cQ (l++[p])]))/\PA s i 1 (tf alt s i) p k b:=by (have K:s.size<=mg:=by simp only[mg];omega);(have N:l.length<=mg:=by simp only[mg];omega);simp only[wv,aw,decide_eq_true_eq,cx,decide_eq_false_iff_not]at S;obtain⟨d,g,f⟩:=S;have h:=df s i d;have fa:=λop t U=>J8 N op t U;have r:=λx=>Yt N x;obtain⟨j,p,k,b,B,e,F,Q,P,y⟩:=L;simp only[bk,ax,av]at e;cases b with|true=>{have a:=λc=>L8 (s:=s) (i:=(k:Int)) (c:=c);have v:tf alt s i=O:=by{unfold tf;cases v:xY alt s i with|none=>{rfl}|some q=>rw[v]at y;cases y.1};rw[v];refine⟨p,k,I,?_,F,Q,P,rfl⟩;match j,B with|0,_=>{simp only[go_sem,d,g,f,h,e,MP,qL,fa,cV,bn,jL,a]}|1,_=>{simp only[go_sem,d,g,f,h,e,vf,qL,fa,cV,bn,jL,a]}|2,_=>simp only[go_sem,d,g,f,h,e,qL,fa,cV,bn,jL,a]}|false=>cases v:xY alt s i with|none=>{rw[v]at y;cases y}|some q=>rw[v]at y;obtain⟨_,rfl,T⟩:=y;(have V:tf alt s i=Z (GX s p k):=by rw[tf,v];rfl);have o:=T6 (n:=64) (by decide) (s:=s) k F;have A:=T5 s p k;have D:=aqG F;rw[bk]at D;have Y:jy ⟨4,eT,[p]⟩=[E 4,.str ⟨#[]⟩,cQ [p]]:=bk _;rw[V];unfold GX at o A ⊢;cases c1:iU s k 42 with|true=>{have a:=sk K c1;have R:=nE c1;rw[c1]at o A;refine⟨⟨4,eT,[p]⟩,k+1,J,?_,o,by omega,by omega,rfl,rfl,by omega⟩;match j,B with|0,_=>{simp only[go_sem,d,g,f,h,e,MP,qL,r,cV,eT,bn,jL,a,P1]}|1,_=>{simp only[go_sem,d,g,f,h,e,vf,qL,r,cV,eT,bn,jL,a,P1]}|2,_=>simp only[go_sem,d,g,f,h,e,qL,r,cV,eT,bn,jL,a,P1]}|false=>have a:=sj c1;rw[c1]at o A;cases C:iU s k 43 with|true=>{have m:=sk K C;have R:=nE C;rw[C]at o A;refine⟨⟨2,eT,[p,⟨4,eT,[p]⟩]⟩,k+1,J,?_,o,by omega,by omega,rfl,rfl,by omega⟩;match j,B with|0,_=>{simp only[go_sem,d,g,f,h,e,MP,qL,r,cV,eT,bn,jL,a,m,D,P1,W7,P2]}|1,_=>{simp only[go_sem,d,g,f,h,e,MP,vf,qL,r,cV,eT,bn,jL,a,m,D,P1,W7,P2]}|2,_=>simp only[go_sem,d,g,f,h,e,MP,qL,r,cV,eT,bn,jL,a,m,D,P1,W7,P2]}|false=>have m:=sj C;rw[C]at o A;cases H:iU s k 63 with|true=>{have w:=sk K H;have R:=nE H;rw[H]at o A;refine⟨⟨5,eT,[p]⟩,k+1,J,?_,o,by omega,by omega,rfl,rfl,by omega⟩;match j,B with|0,_=>{simp only[go_sem,d,g,f,h,e,MP,qL,r,cV,eT,bn,jL,a,m,w,P1]}|1,_=>{simp only[go_sem,d,g,f,h,e,vf,qL,r,cV,eT,bn,jL,a,m,w,P1]}|2,_=>simp only[go_sem,d,g,f,h,e,qL,r,cV,eT,bn,jL,a,m,w,P1]}|false=>have w:=sj H;refine⟨p,k,J,?_,F,Q,P,rfl,rfl,T⟩;match j,B with|0,_=>{simp only[go_sem,d,g,f,h,e,MP,qL,fa,cV,bn,jL,a,m,w]}|1,_=>{simp only[go_sem,d,g,f,h,e,vf,qL,fa,cV,bn,jL,a,m,w]}|2,_=>simp only[go_sem,d,g,f,h,e,qL,fa,cV,bn,jL,a,m,w]
def Lsx(l:M dD)(n:Nat):Prop:=l.length<=n/\∀q∈l,yZ 64 q=I
theorem pf{l:M dD}{n m:Nat}{p:dD}(h:Lsx l n)(b:yZ 64 p=I)(c:n+1<=m):Lsx (l++[p]) m:=by refine⟨by rw[az];have:=h.1;simp;omega,λq a=>?_⟩;rcases aZ.1 a with a|a;{exact h.2 q a};rw[bO.1 a];exact b
def RdL(i:Nat)(s:z)(l:M dD)(r:u (M dD×Nat))(a:M dD)(k:Nat)(b:Bool):Prop:=Lsx a 40/\i<=k/\k<=s.size/\match r with
 |some q=>b=J/\a=l++q.1/\k=q.2
 |none=>b=I
theorem zD{i j:Nat}{l a:M dD}{p:dD}{k:Nat}{b:Bool}{r:u (M dD×Nat)}(d:i<=j)(h:RdL j s (l++[p]) r a k b):RdL i s l (r.map λq=>(p::q.1,q.2)) a k b:=by obtain⟨n,o,m,c⟩:=h;refine⟨n,by omega,m,?_⟩;cases r with|none=>{exact c}|some q=>obtain⟨g,f,e⟩:=c;exact⟨g,by rw[f,bh];rfl,e⟩
theorem adz(y:s.size<=30){i0:Nat}(H:∀j,i0<j->j<=s.size->El 223 s j 0 2 J (alt j)):∀(g i:Nat) (l:M dD),i0<=i->i<=s.size->s.size+1 - i<=g->Lsx l i->
  ∃(h:M dD) (k:Nat) (b:Bool),bJ (lB G jL) (0,[E 0,.str ⟨#[]⟩,.str s,E (i:Int),.bool J,cQ l])=Z (0,[.bool J,E 0,.str ⟨#[]⟩,.str s,E (k:Int),.bool b,cQ h])/\RdL i s l (wq alt s g i) h k b:=by (have F:s.size<=mg:=by simp only[mg];omega);intro g;induction g with|zero=>{intro i l _ v K;omega}|succ g D=>intro i l T v K c;simp only[wq];cases d:wv s i with|false=>{simp only[aL,if_false];refine⟨l,i,J,aO ?_,⟨by have:=c.1;omega,c.2⟩,aI _,v,rfl,by rw[aH],rfl⟩;by_cases a:i<s.size;{have w:=df s i a;simp only[wv,a,decide_true,dw]at d;by_cases r:bY s i=124;{simp only[go_sem,bn,jL,a,r,w]};have f:bY s i=41:=by{by_cases f:bY s i=41;{exact f};simp[r,f]at d};(have B:¬(41:Int)=124:=by decide);simp only[go_sem,bn,jL,a,f,B,w]};simp only[go_sem,bn,jL,a]}|true=>(have a:i<s.size:=by simp only[wv,aw,decide_eq_true_eq]at d;exact d.1);simp only[if_true];obtain⟨p,k,b,x,o,A,m,e⟩:=VU y (l:=l) (by have:=c.1;omega) d (aqF F a λj S Q=>H j (by omega) Q);cases t:tf alt s i with|none=>{rw[t]at e;subst e;refine⟨l++[p],k,I,(bE x).trans (aO ?_),pf (n:=30) ⟨by have:=c.1;omega,c.2⟩ o (by decide),A,m,rfl⟩;simp only[go_sem,bn,jL]}|some q=>rw[t]at e;obtain⟨rfl,rfl,R⟩:=e;obtain⟨h,C,P,N,L⟩:=D k (l++[p]) (by omega) m (by omega) (pf c o (by omega));exact⟨h,C,P,(bE x).trans N,zD (by omega) L⟩
theorem IZ{k:dD}:aS (.IY 3 0 3 J) [cQ [k],E 0]=Z (.list 0 J [jy k]):=by have h:nth ([k].map jy) 0=Z (jy k):=rfl;simp only[aS,Int.toNat_zero,h,Ns];simp
theorem IQ{k:dD}:aS .UW [cQ [k],E 0]=Z (.bool J):=(rfl)
theorem Ju{l:M dD}:Z' ((l.length:Int)=1)=Z' (l.length=1):=by apply decide_eq_decide.2;omega
theorem My{op:Int}{l:M dD}(h:l.length≠1):tz op l=⟨op,eT,l⟩:=by unfold tz;split;{exact absurd rfl h};rfl
theorem anp(m:s.size<=30){i:Nat}(w:i<=s.size)(o:∀j,i<j->j<=s.size->El 223 s j 0 2 J (alt j)):El 225 s i 0 2 J (Dw alt s i):=by obtain⟨f,k,b,l,h,y,x,c⟩:=adz m o (s.size+1) i [] (aI _) w (by omega) ⟨by simp,by simp⟩;have e:aS (.lD 3 J) []=Z (cQ []):=xo 3 J;have a:PA s i 0 (Dw alt s i) (tz 2 f) k b:=by{refine⟨wG (by have:=h.1;omega) h.2,y,x,?_⟩;unfold Dw;cases g:wq alt s (s.size+1) i with|none=>{rw[g]at c;exact c}|some q=>rw[g]at c;obtain⟨v,t,r⟩:=c;subst t r;exact⟨v,rfl,by omega⟩};by_cases d:f.length=1;{obtain⟨p,rfl⟩:=dm.1 d;have n:tz 2 [p]=p:=rfl;rw[n]at a;refine⟨0,p,k,b,by decide,ch t225 rfl ?_,a⟩;simp only[go_sem,t225,e,l,IZ,IQ,bk p]};rw[My d]at a;refine⟨1,_,k,b,by decide,ch t225 rfl ?_,a⟩;simp only[go_sem,t225,e,l,Ju,d,bk,eT]
theorem ady(B:s.size<=30){i0:Nat}(K:∀j,i0<j->j<=s.size->El 223 s j 0 2 J (alt j)):∀(g i:Nat) (l:M dD),i0<=i->i<=s.size->s.size+1 - i<=g->Lsx l (i+1)->
  ∃(e:M dD) (k:Nat) (b:Bool),bJ (lB G ud) (0,[E 0,.str ⟨#[]⟩,.str s,E (i:Int),.bool J,cQ l])=Z (0,[.bool J,E 0,.str ⟨#[]⟩,.str s,E (k:Int),.bool b,cQ e])/\RdL i s l (C4 alt s g i) e k b:=by (have H:s.size<=mg:=by simp only[mg];omega);intro g;induction g with|zero=>{intro i l _ A L;omega}|succ g F=>intro i l W A L a;simp only[C4];cases m:iU s i 124 with|false=>{have f:=sj m;simp only[aL,if_false];refine⟨l,i,J,aO ?_,⟨by have:=a.1;omega,a.2⟩,aI _,A,rfl,by rw[aH],rfl⟩;simp only[go_sem,bn,ud,f]}|true=>have f:=sk H m;have V:=nE m;(have o:l.length<=mg:=by have:=a.1;simp only[mg];omega);have X:=λx=>Yt o x;have fa:=λop t C=>J8 o op t C;simp only[if_true];obtain⟨j,p,k,b,y,h,v,U,r,d⟩:=anp B (i:=i+1) (by omega) λj y S=>K j (by omega) S;simp only[bk,ax,av]at h;have go:lB G ud (0,[E 0,.str ⟨#[]⟩,.str s,E (i:Int),.bool J,cQ l])=Z (.go (0,[E 0,.str ⟨#[]⟩,.str s,E (k:Int),.bool b,cQ (l++[p])])):=by{match j,y with|0,_=>{simp only[go_sem,bn,ud,f,h,vf,qL,fa,cV]}|1,_=>simp only[go_sem,bn,ud,f,h,qL,fa,cV]};cases w:Dw alt s (i+1) with|none=>{rw[w]at d;subst d;have N:=λc=>L8 (s:=s) (i:=(k:Int)) (c:=c);refine⟨l++[p],k,I,(bE go).trans (aO ?_),pf (n:=32) ⟨by have:=a.1;omega,a.2⟩ v (by decide),by omega,r,rfl⟩;simp only[go_sem,bn,ud,N]}|some q=>rw[w]at d;obtain⟨rfl,rfl,T⟩:=d;obtain⟨e,D,R,Q,P⟩:=F k (l++[p]) (by omega) r (by omega) (pf a v (by omega));exact⟨e,D,R,(bE go).trans Q,zD (by omega) P⟩
theorem aia(v:s.size<=30){i:Nat}(R:i<=s.size)(C:∀j,i<j->j<=s.size->El 223 s j 0 2 J (alt j)):El 223 s i 0 2 J (GW alt s i):=by obtain⟨j,p,k,b,B,l,y,x,w,m⟩:=anp v R C;simp only[bk,ax,av]at l;have L:∃(e:M dD) (a:Nat) (d:Bool),bJ (lB G ud) (0,[E 0,.str ⟨#[]⟩,.str s,E (k:Int),.bool b,cQ [p]])=Z (0,[.bool J,E 0,.str ⟨#[]⟩,.str s,E (a:Int),.bool d,cQ e])/\PA s i 0 (GW alt s i) (tz 3 e) a d:=by{unfold GW;cases A:Dw alt s i with|none=>{rw[A]at m;subst m;have S:=λc=>L8 (s:=s) (i:=(k:Int)) (c:=c);exact⟨[p],k,I,aO (by simp only[go_sem,bn,ud,S]),y,x,w,rfl⟩}|some q=>rw[A]at m;obtain⟨rfl,rfl,U⟩:=m;obtain⟨e,a,d,f,F,V,T,r⟩:=ady v C (s.size+1) k [p] x w (by omega) ⟨by simp,by simpa using y⟩;refine⟨e,a,d,f,wG (by have:=F.1;omega) F.2,by omega,T,?_⟩;dsimp only;cases g:C4 alt s (s.size+1) k with|none=>{rw[g]at r;exact r}|some q=>rw[g]at r;obtain⟨Q,P,N⟩:=r;subst P N;exact⟨Q,rfl,by omega⟩};obtain⟨e,a,d,f,o⟩:=L;have K:∀(t:Nat×M D) (h:eY G (t223.t) 0 [.str s,E (i:Int),.bool J]=Z t),True:=λ_ _=>trivial;by_cases n:e.length=1;{obtain⟨q,rfl⟩:=dm.1 n;have H:tz 3 [q]=q:=rfl;rw[H]at o;refine⟨0,q,a,d,by decide,ch t223 rfl ?_,o⟩;match j,B with|0,_=>{simp only[go_sem,t223,l,vf,qL,P1,cV,f,IZ,IQ,bk q]}|1,_=>simp only[go_sem,t223,l,qL,P1,cV,f,IZ,IQ,bk q]};rw[My n]at o;refine⟨1,_,a,d,by decide,ch t223 rfl ?_,o⟩;match j,B with|0,_=>{simp only[go_sem,t223,l,vf,qL,P1,cV,f,Ju,n,bk,eT]}|1,_=>simp only[go_sem,t223,l,qL,P1,cV,f,Ju,n,bk,eT]
theorem abr(a:s.size<=30):∀(g i:Nat),i<=s.size->s.size+1 - i<=g->El 223 s i 0 2 J (Xg s g i)
 |0,i,b,c=>by omega
 |g+1,i,b,c=>aia a b λj e d=>abr a g j d (by omega)
end
def Ac(n:Nat):Z' ((30:Int)<(n:Int))=Z' (30<n):=by apply decide_eq_decide.2;omega
def TR(a b:Nat):Z' ((a:Int)=(b:Int))=Z' (a=b):=by apply decide_eq_decide.2;omega
theorem anq{s:z}:∃j p,j<3/\G 226 [.str s]=Z (j,jy p++[.bool (kT s)])/\∀q,C5 s=Z q->p=q/\yZ 64 p=I:=by unfold kT C5;by_cases h:30<s.size;{refine⟨0,⟨0,eT,[]⟩,by decide,ch t226 rfl ?_,λq a=>by rw[if_pos h]at a;cases a⟩;rw[if_pos h];simp only[go_sem,t226,Ac,h,bk,bw];rfl};rw[if_neg h];obtain⟨j,p,k,b,f,c,i,n,m,e⟩:=abr (s:=s) (by omega) (s.size+1) 0 (by omega) (by omega);simp only[bk,ax,av,n0]at c;cases g:Xg s (s.size+1) 0 with|none=>{rw[g]at e;subst e;refine⟨0,⟨0,eT,[]⟩,by decide,ch t226 rfl ?_,λq a=>by cases a⟩;match j,f with|0,_=>{simp only[go_sem,t226,Ac,h,c,bk,bw];rfl}|1,_=>simp only[go_sem,t226,Ac,h,c,bk,bw];rfl}|some q=>rw[g]at e;obtain⟨rfl,rfl,l⟩:=e;dsimp only;by_cases d:k=s.size;{rw[if_pos d];refine⟨j+1,p,by omega,ch t226 rfl ?_,λq a=>by cases a;exact⟨rfl,i⟩⟩;match j,f with|0,_=>{simp only[go_sem,t226,Ac,h,c,d,bk,bT]}|1,_=>simp only[go_sem,t226,Ac,h,c,d,bk,bT]};rw[if_neg d];refine⟨0,⟨0,eT,[]⟩,by decide,ch t226 rfl ?_,λq a=>by cases a⟩;match j,f with|0,_=>{simp only[go_sem,t226,Ac,TR,h,c,d,bk,bw];rfl}|1,_=>simp only[go_sem,t226,Ac,TR,h,c,d,bk,bw];rfl
theorem aic(s:z):G 227 [.str s]=Z (0,[.bool (kT s)]):=by obtain⟨j,p,b,a,_⟩:=anq (s:=s);simp only[bk,ax,av]at a;refine ch t227 rfl ?_;match j,b with|0,_=>{simp only[go_sem,t227,a]}|1,_=>{simp only[go_sem,t227,a]}|2,_=>simp only[go_sem,t227,a]
theorem aif{t s:z}(g:s.size<=mg):G 236 [.str t,.str s]=Z (0,[.bool (yV t s)]):=by obtain⟨j,p,f,a,h⟩:=anq (s:=t);simp only[bk,ax,av]at a;have X5:∀b,aS .pl [.bool b]=Z (.bool J):=λb=>rfl;refine ch t236 rfl ?_;unfold yV;cases d:C5 t with|none=>{(have e:kT t=J:=by rw[kT,d];rfl);rw[e]at a;match j,f with|0,_=>{simp only[go_sem,t236,a]}|1,_=>{simp only[go_sem,t236,a]}|2,_=>simp only[go_sem,t236,a]}|some q=>(have e:kT t=I:=by rw[kT,d];rfl);obtain⟨rfl,i⟩:=h q d;have c:=aqJ g i;simp only[bk,ax,av]at c;rw[e]at a;match j,f with|0,_=>{simp only[go_sem,t236,a,c,X5]}|1,_=>{simp only[go_sem,t236,a,c]}|2,_=>simp only[go_sem,t236,a,c,X5]
def bC(f:Nat->Bool):M C:=(cH 256).map λx=>.d (.bool (f x))
def bV(f:Nat->Bool):M RV:=(cH 256).map λx=>.d (.bool (f x))
def eL(f:Nat->Bool)(n:Nat):M (M D):=((cH n).filter f).map λx:Nat=>[D.int .u8 (x:Int)]
def chT(f:Nat->Bool):z:=⟨(((cH 256).filter f).map dW).toArray⟩
theorem mz:((0:Nat):Int)=0:=(rfl)
theorem Tn(f:Nat->Bool)(d:Nat):∀(l:M Nat) (j:Nat) (s:St),er d j (l.map λx=>RV.d (.bool (f x))) s=(l.map λx=>C.d (.bool (f x)),s)
 |[],j,s=>rfl
 |x::l,j,s=>by simp only[bc,er,Tn f d l (j+1) s]
def alu(f:Nat->Bool)(d j:Nat)(s:St):er d j (bV f) s=(bC f,s):=Tn f d _ j s
theorem Jl(f:Nat->Bool)(i:Nat):∀(l:M Nat),C.jS i (l.map λx=>C.d (.bool (f x)))=l.map λx=>C.d (.bool (f x))
 |[]=>rfl
 |x::l=>by simp only[bc,C.jS,C.kill,Jl f i l]
def rj(f:Nat->Bool)(i:Nat):C.jS i (bC f)=bC f:=Jl f i _
def tK(f:Nat->Bool):(bC f).all C.cell=I:=by rw[bC,List.all_map];exact bG.2 λx _=>rfl
def sH(f:Nat->Bool):(bC f).all C.const=I:=by rw[bC,List.all_map];exact bG.2 λx _=>rfl
def oR(f:Nat->Bool):(bC f).length=256:=by simp[bC]
def ad7{a:Type}{f:Nat->a}{n x:Nat}(h:x<n):nth ((cH n).map f) x=Z (f x):=by rw[ek];simp[h]
def agm(f:Nat->Bool){x:Nat}(h:x<256):nth (bC f) x=Z (.d (.bool (f x))):=ad7 h
def ac3(f:Nat->Bool)(n:Nat):eL f (n+1)=eL f n++(if f n=I then [[D.int .u8 (n:Int)]] else []):=by simp only[eL,List.range_succ,k9,cC];congr 1;by_cases h:f n=I<;>simp[h]
def agy(f:Nat->Bool)(n:Nat):(eL f n).length<=n:=by have:=eW f (cH n);simpa [eL] using this
theorem IL:∀(l:M Nat),bytesOf (l.map λx:Nat=>[D.int .u8 (x:Int)])=Z (l.map λx:Nat=>(x:Int))
 |[]=>rfl
 |x::l=>by simp only[bc,bytesOf,IL l,aX]
abbrev wz:M C:=[.d (.int .i64 0),.d (.str ⟨#[]⟩),.nil 3 J]
def JV(f:Nat->Bool)(i:Nat):St:=⟨[(1,.ptr 1 0),(2,.ptr 2 0),(3,.ref 5),(6,.d (.int .i64 (i:Int)))],[(1,bC f),(2,wz)],[(5,⟨eL f i,1,I,I,I,J⟩)]⟩
theorem adC(f:Nat->Bool):ev T zz (.loop Aq) (JV f 0)=Z (.exit 0,⟨[(1,.ptr 1 0),(2,.ptr 2 0),(3,.ref 5),(6,.d (E 256)),(7,.d (.bool J))],[(1,bC f),(2,wz)],[(5,⟨eL f 256,1,I,I,I,J⟩)]⟩):=by refine amo (JV f) 256 (λh=>by cases h) ?_ ?_;{simp only[go_sem,cm,Int.reduceLT,Aq,JV,show ((256:Nat):Int)=256 from rfl]};intro i b;(have j:((i:Int)<256)=True:=by simp;omega);have g:IntKind.i64.wrap ((i:Int)+1)=((i+1:Nat):Int):=wi b (by decide);have m:IntKind.u8.wrap (i:Int)=(i:Int):=wrap_u8 (by omega);have a:=agm f b;have e:=ac3 f i;have n:=agy f i;have l:((eL f i).length+1<=room)=True:=eq_true (by simp only[room];omega);have k:((eL f i).length+1<=maxLen)=True:=eq_true (by simp only[maxLen];omega);cases c:f i with|true=>{rw[c,if_pos rfl]at e;rw[c]at a;simp only[go_sem,cm,eA,xw,Aq,JV,j,g,m,a,b,rj,mr,l,k,e,ly]}|false=>rw[c,if_neg dr,aH]at e;rw[c]at a;simp only[go_sem,cm,Aq,JV,j,g,a,b,mr,e,ly]
def anB(f:Nat->Bool):fK T 276 [.val I (bV f)]=Z ([.val I [.d (E 1),.d (.str (chT f)),.row ⟨[],3,J,I,I,J⟩]],[]):=by have b:=adC f;have g:eL f 0=[]:=rfl;have c:bytesOf (eL f 256)=Z (((cH 256).filter f).map λx:Nat=>(x:Int)):=IL _;have a:(((cH 256).filter f).map λx:Nat=>(x:Int)).map (λn=>dW n.toNat)=((cH 256).filter f).map dW:=by{rw[List.map_map];rfl};generalize h:(((cH 256).filter f).map λx:Nat=>(x:Int))=q at c a;(have e:(⟨(q.map λn=>dW n.toNat).toArray⟩:z)=chT f:=by rw[a];rfl);rw[Cj (f:=276) rfl rfl];simp only[JV,g,wz,show ((0:Nat):Int)=0 from rfl]at b;simp only[go_sem,eh,cm,cR,eA,xw,alu,tK,rj,b,c,e]
abbrev mgK:Nat:=33554432
abbrev nw(s:z)(i:Int)(b:Bool):A:=.box [.d (.str s),.d (.int .i64 i),.d (.bool b)]
abbrev bt(c:Int):A:=.val J [.d (.int .u8 c)]
abbrev ys(b:Bool):A:=.val J [.d (.bool b)]
def K9{s:z}{i g k e:Int}{b a t:Bool}{op:Int}{tx:z}{c:RV}(j:(∃es,c=.d (.list 3 J es))\/∃es,c=.row ⟨es,3,J,J,I,I⟩)
  (n:fK T 275 [nw s i b,bt 40]=Z ([ys I],[nw s g b])) (m:fK T 280 [nw s g b]=Z ([.val I [.d (E op),.d (.str tx),c]],[nw s k a]))
  (l:fK T 275 [nw s k a,bt 41]=Z ([ys t],[nw s e a])):fK T 279 [nw s i b]=Z ([.val I [.d (E op),.d (.str tx),c]],[nw s e (a ||!t)]):=by (have h:(a_ 256 (C.d (.bool J)))=bC λ_=>J:=by rw[bC,qw];simp);(conv at h=>lhs;reduce);rw[Cj (f:=279) rfl rfl,h];rcases j with ⟨es,rfl⟩|⟨es,rfl⟩<;>cases t<;>cases a<;>simp only[go_sem,eh,cm,Nat.reduceMul,cR,eA,tK,sH,rj,oR,n,m,l,cR]
def Yx(f:Nat->Bool){x:Nat}(h:x<256):List.take x (bC f)++[C.d (.bool I)]++List.drop (x+1) (bC f)=bC λy=>f y ||decide (x=y):=by apply List.ext_getElem;{simp[bC];omega};intro i l c;simp only[oR]at c;(have e:∀g:Nat->Bool,(bC g)[i]'(by rw[oR];exact c)=C.d (.bool (g i)):=λg=>by simp[bC]);rw[e];(have a:((bC f).take x).length=x:=by simp[bC];omega);by_cases k:i<x;{rw[uK (by simp[a];omega),uK (by omega),List.getElem_take,e];(have:¬x=i:=by omega);simp[this]};by_cases b:i=x;{subst b;rw[uK (by simp[a]),List.getElem_append_right (by omega)];simp[a]};rw[List.getElem_append_right (by simp[a];omega),List.getElem_drop];(have j:x+1+(i - (List.take x (bC f)++[C.d (D.bool I)]).length)=i:=by simp[a];omega);simp only[j];rw[e];(have:¬x=i:=by omega);simp[this]
def zK(f:Nat->Bool):List.drop 256 (bC f)=[]:=cX (by rw[oR];exact aI _)
def Sj(f:Nat->Bool):List.take 256 (bC f)=bC f:=wJ (by rw[oR];exact aI _)
theorem abE(f:Nat->Bool)(s:St):∀(l:M Nat),gN (mY s) (l.map λx=>C.d (.bool (f x)))=Z (l.map λx=>RV.d (.bool (f x)))
 |[]=>rfl
 |x::l=>by simp only[bc,gN,mY,abE f s l,aX]
def aoc(f:Nat->Bool)(s:St):gN (mY s) (bC f)=Z (bV f):=abE f s _
theorem O0(f:Nat->Bool):∀(l:M Nat),rowsOf (l.map λx=>C.d (.bool (f x)))=[]
 |[]=>rfl
 |x::l=>by simp only[bc,rowsOf,O0 f l]
def abL(f:Nat->Bool):rowsOf (bC f)=[]:=O0 f _
abbrev vr(x:Nat):Nat->Bool:=λy=>decide (32<=y) && decide (y<x)
def st0(c:M C)(x:Nat):St:=⟨[(0,.ptr 900 0),(2,.ptr 2 0),(3,.ptr 3 0),(5,.d (.int .i64 (x:Int)))],[(2,wz),(3,bC (vr x)),(900,c)],[]⟩
def agk{x:Nat}(h:32<=x):(λy=>vr x y ||decide (x=y))=vr (x+1):=by funext y;simp only[vr];by_cases a:32<=y;{by_cases c:y<x;{(have:y<x+1:=by omega);simp[a,c,this]};by_cases b:x=y;{subst b;simp[a]};(have:¬y<x+1:=by omega);simp[a,c,b,this]};(have:¬x=y:=by omega);simp[a,this]
theorem V1(c:M C):ev T zz (.loop xb) (st0 c 32)=Z (.exit 1,⟨[(0,.ptr 900 0),(2,.ptr 2 0),(3,.ptr 3 0),(5,.d (E 127)),(28,.d (.bool J))],[(2,wz),(3,bC (vr 127)),(900,c)],[]⟩):=by have h:∀m x,x+m=127->32<=x->ev T zz (.loop xb) (st0 c x)=Z (.exit 1,⟨[(0,.ptr 900 0),(2,.ptr 2 0),(3,.ptr 3 0),(5,.d (E 127)),(28,.d (.bool J))],[(2,wz),(3,bC (vr 127)),(900,c)],[]⟩):=by{intro m;induction m with|zero=>{intro x f _;(obtain rfl:x=127:=by omega);rw[lk];simp only[go_sem,cm,Int.reduceLE,xb,st0,show ((127:Nat):Int)=127 from rfl]}|succ m e=>intro x f a;have l:((x:Int)<=126)=True:=eq_true (by omega);have g:IntKind.i64.wrap ((x:Int)+1)=((x+1:Nat):Int):=wi (n:=127) (by omega) (by decide);have k:(x<256)=True:=eq_true (by omega);have j:(x+1<=256)=True:=eq_true (by omega);have b:=Yx (vr x) (x:=x) (by omega);rw[agk a]at b;have i:ev T zz xb (st0 c x)=Z (.norm,st0 c (x+1)):=by{simp only[go_sem,cm,eA,xb,st0,l,g,k,j,b,oR,mr,bF,ly]};rw[lk,i];exact e (x+1) (by omega) (by omega)};exact h 95 32 rfl (by omega)
def ahk{s:z}{i a:Int}{b:Bool}(j:fK T 275 [nw s i b,bt 40]=Z ([ys J],[nw s i b]))(h:fK T 275 [nw s i b,bt 46]=Z ([ys I],[nw s a b])) :
  fK T 279 [nw s i b]=Z ([.val I [.d (E 1),.d (.str (chT (vr 127))),.row ⟨[],3,J,I,I,J⟩]],[nw s a b]):=by have c:(a_ 256 (C.d (.bool J)))=bC (vr 32):=by{(have:vr 32=λ_=>J:=by funext y;simp[vr]);rw[this,bC,qw];simp};have e:=V1 [.d (.str s),.d (E a),.d (.bool b)];simp only[st0,wz,show ((32:Nat):Int)=32 from rfl]at e;have g:=anB (vr 127);(conv at c=>lhs;reduce);rw[Cj (f:=279) rfl rfl,c];simp only[go_sem,eh,cm,Nat.reduceMul,cR,eA,tK,sH,rj,oR,zK,Sj,aoc,abL,j,h,e,g,cR]
def aax{s:z}{i l a:Int}{b o:Bool}(j:fK T 275 [nw s i b,bt 40]=Z ([ys J],[nw s i b]))(h:fK T 275 [nw s i b,bt 46]=Z ([ys J],[nw s i b]))(g:fK T 275 [nw s i b,bt 91]=Z ([ys J],[nw s i b]))
  (e:fK T 278 [nw s i b]=Z ([.val J [.d (.int .u8 a)]],[nw s l o])) :
  fK T 279 [nw s i b]=Z ([.val I [.d (E 1),.d (.str ⟨[dW a.toNat].toArray⟩),.row ⟨[],3,J,I,I,J⟩]],[nw s l (o ||(Z' (a=95) ||decide (a=46)))]):=by have m:(a_ 256 (C.d (.bool J)))=bC (vr 32):=by{(have:vr 32=λ_=>J:=by funext y;simp[vr]);rw[this,bC,qw];simp};(conv at m=>lhs;reduce);rw[Cj (f:=279) rfl rfl,m];by_cases c1:a=95;{have c:(a=95)=True:=eq_true c1;simp only[go_sem,eh,cm,cR,eA,xw,tK,sH,rj,oR,zK,j,h,g,e,c,bytesOf,cR]};have c:(a=95)=False:=eq_false c1;by_cases n:a=46;{have k:(a=46)=True:=eq_true n;simp only[go_sem,eh,cm,cR,eA,xw,tK,sH,rj,oR,zK,j,h,g,e,c,k,bytesOf,cR]};have k:(a=46)=False:=eq_false n;simp only[go_sem,eh,cm,cR,eA,xw,tK,sH,rj,oR,zK,j,h,g,e,c,k,bytesOf,cR]
abbrev rC(s:z)(i:Int)(b:Bool):M C:=[.d (.str s),.d (.int .i64 i),.d (.bool b)]
def st1(c:M C)(n:Nat)(a x:Nat)(f:Nat->Bool):St:=⟨[(0,.ptr 900 0),(2,.ptr 2 0),(3,.ptr 3 0),(6,.d (.int .i64 (n:Int))),(8,.d (.int .u8 (a:Int))),(9,.d (.int .i64 (x:Int)))],[(2,wz),(3,bC f),(900,c)],[]⟩
def rg(f:Nat->Bool)(x a:Nat):Nat->Bool:=λy=>f y ||(Z' (x<=y) && Z' (y<=a))
def af0{f:Nat->Bool}{x a:Nat}(h:a<x):rg f x a=f:=by funext y;unfold rg;by_cases b:x<=y;{(have:¬y<=a:=by omega);simp[this]};simp[b]
def asd{f:Nat->Bool}{x a:Nat}(h:x<=a):rg (λy=>f y ||decide (x=y)) (x+1) a=rg f x a:=by funext y;unfold rg;by_cases b:x=y;{subst b;simp[h]};by_cases c:x<=y;{(have:x+1<=y:=by omega);simp[b,c,this]};(have:¬x+1<=y:=by omega);simp[b,c,this]
theorem Jo(c:M C)(n a:Nat)(j:a<256):∀(m x:Nat) (f:Nat->Bool),x+m=a+1->∃b:Int,ev T zz (.loop px) (st1 c n a x f)=Z (.exit 5,⟨[(0,.ptr 900 0),(2,.ptr 2 0),(3,.ptr 3 0),(6,.d (E (n:Int))),(8,.d (.int .u8 (a:Int))),(9,.d (E b)),(72,.d (.bool J))],[(2,wz),(3,bC (rg f x a)),(900,c)],[]⟩)
 |0,x,f,k=>by have h:((x:Int)<=(a:Int))=False:=eq_false (by omega);have g:IntKind.i64.wrap (a:Int)=(a:Int):=iI (by omega);refine⟨x,?_⟩;rw[af0 (by omega),lk];simp only[go_sem,cm,px,st1,h,g]
 |m+1,x,f,k=>by have h:((x:Int)<=(a:Int))=True:=eq_true (by omega);have e:IntKind.i64.wrap (a:Int)=(a:Int):=iI (by omega);have g:IntKind.i64.wrap ((x:Int)+1)=((x+1:Nat):Int):=wi (n:=256) (by omega) (by decide);have q:(x<256)=True:=eq_true (by omega);have p:(x+1<=256)=True:=eq_true (by omega);have l:=Yx f (x:=x) (by omega);obtain⟨b,i⟩:=Jo c n a j m (x+1) (λy=>f y ||decide (x=y)) (by omega);rw[asd (by omega)]at i;have o:ev T zz px (st1 c n a x f)=Z (.norm,st1 c n a (x+1) (λy=>f y ||decide (x=y))):=by{simp only[go_sem,cm,eA,px,st1,h,g,e,q,p,l,oR,mr,bF,ly]};refine⟨b,?_⟩;rw[lk,o];exact i
def FV(c:M C)(n a x:Nat)(f:Nat->Bool)(e:a<256)(j:x<256):∃b:Int,ev T zz (.loop px) (st1 c n a x f)=Z (.exit 5,⟨[(0,.ptr 900 0),(2,.ptr 2 0),(3,.ptr 3 0),(6,.d (E (n:Int))),(8,.d (.int .u8 (a:Int))),(9,.d (E b)),(72,.d (.bool J))],[(2,wz),(3,bC (rg f x a)),(900,c)],[]⟩):=by by_cases h:x<=a+1;{exact Jo c n a e (a+1 - x) x f (by omega)};have i:((x:Int)<=(a:Int))=False:=eq_false (by omega);have g:IntKind.i64.wrap (a:Int)=(a:Int):=iI (by omega);refine⟨x,?_⟩;rw[af0 (by omega),lk];simp only[go_sem,cm,px,st1,i,g]
def HR(s:z)(i:Int)(b:Bool)(n:Nat)(f:Nat->Bool):St:=⟨[(0,.ptr 900 0),(2,.ptr 2 0),(3,.ptr 3 0),(6,.d (.int .i64 (n:Int)))],[(2,wz),(3,bC f),(900,rC s i b)],[]⟩
theorem Fw{s:z}{i B i2 i3:Int}{q b3 t:Bool}{n a z0:Nat}{f:Nat->Bool}(H:n<=mgK)(A:a<256)(F:z0<256)(v:n=0\/fK T 275 [nw s i J,bt 93]=Z ([ys J],[nw s i J]))
  (p:fK T 278 [nw s i J]=Z ([.val J [.d (.int .u8 (a:Int))]],[nw s B q]))
  (o:fK T 275 [nw s B q,bt 126]=Z ([ys t],[nw s i2 q]))
  (G:t=I->fK T 278 [nw s i2 q]=Z ([.val J [.d (.int .u8 (z0:Int))]],[nw s i3 b3])) :
  ev T zz jg (HR s i J n f)=Z (.norm,HR s (if t then i3 else i2) ((if t then b3 else q) ||(t && Z' (z0<a))) (n+1) (rg f a (if t then z0 else a))):=by have g:IntKind.i64.wrap ((n:Int)+1)=((n+1:Nat):Int):=wi (n:=mgK+1) (by omega) (by decide);have c:IntKind.i64.wrap (a:Int)=(a:Int):=iI (by omega);have m:∀(P:Prop),(n=0->P)->(¬n=0->fK T 275 [nw s i J,bt 93]=Z ([ys J],[nw s i J])->P)->P:=λP D C=>by{by_cases h:n=0;{exact D h};rcases v with v|v;{exact absurd v h};exact C h v};cases t with|false=>{obtain⟨x,b⟩:=FV (rC s i2 q) n a a f A A;have l:((a:Int)<(a:Int))=False:=eq_false (by omega);simp only[st1]at b;refine m _ (λk=>?_) (λk r=>?_);{subst k;simp only[show ((0:Nat):Int)=0 from rfl,bF,rH]at b g ⊢;simp only[go_sem,eh,cm,cR,eA,jg,HR,mz,p,o,l,c,b,g,rH]};have w:((n:Int)=0)=False:=eq_false (by omega);simp only[go_sem,eh,cm,cR,eA,jg,HR,p,o,r,w,l,c,b,g]}|true=>have j:=G rfl;have fin:∀(y:Bool),y=(b3 ||decide (z0<a))->∃x:Int,ev T zz (.loop px) (st1 (rC s i3 y) n z0 a f)=Z (.exit 5,⟨[(0,.ptr 900 0),(2,.ptr 2 0),(3,.ptr 3 0),(6,.d (E (n:Int))),(8,.d (.int .u8 (z0:Int))),(9,.d (E x)),(72,.d (.bool J))],[(2,wz),(3,bC (rg f a z0)),(900,rC s i3 y)],[]⟩):=λy _=>FV _ n z0 a f F A;by_cases l:z0<a;{obtain⟨x,b⟩:=fin I (by simp[l]);have e:((z0:Int)<(a:Int))=True:=eq_true (by omega);simp only[st1]at b;simp only[l,decide_true,kF,dZ,if_true];refine m _ (λk=>?_) (λk r=>?_);{subst k;simp only[show ((0:Nat):Int)=0 from rfl,bF,rH]at b g ⊢;simp only[go_sem,eh,cm,cR,eA,jg,HR,mz,p,o,j,e,c,b,g,rH]};have w:((n:Int)=0)=False:=eq_false (by omega);simp only[go_sem,eh,cm,cR,eA,jg,HR,p,o,j,r,w,e,c,b,g]};obtain⟨x,b⟩:=fin b3 (by simp[l]);have e:((z0:Int)<(a:Int))=False:=eq_false (by omega);simp only[st1]at b;simp only[l,decide_false,eo,dF,if_true];refine m _ (λk=>?_) (λk r=>?_);{subst k;simp only[show ((0:Nat):Int)=0 from rfl,bF,rH]at b g ⊢;simp only[go_sem,eh,cm,cR,eA,jg,HR,mz,p,o,j,e,c,b,g,rH]};have w:((n:Int)=0)=False:=eq_false (by omega);simp only[go_sem,eh,cm,cR,eA,jg,HR,p,o,j,r,w,e,c,b,g]
def Jj{s:z}{i:Int}{n:Nat}{f:Nat->Bool}:ev T zz (.loop jg) (HR s i I n f)=Z (.exit 3,⟨[(0,.ptr 900 0),(2,.ptr 2 0),(3,.ptr 3 0),(6,.d (E (n:Int))),(51,.d (.bool J))],[(2,wz),(3,bC f),(900,rC s i I)],[]⟩):=by rw[lk];simp only[go_sem,eh,cm,cR,jg,HR]
def VJ{s:z}{i a:Int}{n:Nat}{f:Nat->Bool}(e:n≠0)(b:fK T 275 [nw s i J,bt 93]=Z ([ys I],[nw s a J])) :
  ev T zz (.loop jg) (HR s i J n f)=Z (.exit 3,⟨[(0,.ptr 900 0),(2,.ptr 2 0),(3,.ptr 3 0),(6,.d (E (n:Int))),(51,.d (.bool J))],[(2,wz),(3,bC f),(900,rC s a J)],[]⟩):=by have c:((n:Int)=0)=False:=eq_false (by omega);rw[lk];simp only[go_sem,eh,cm,cR,eA,jg,HR,b,c]
def aaw{s:z}{i a k:Int}{b g:Bool}{n:Int}{f:Nat->Bool}(m:fK T 275 [nw s i b,bt 40]=Z ([ys J],[nw s i b]))(l:fK T 275 [nw s i b,bt 46]=Z ([ys J],[nw s i b]))(j:fK T 275 [nw s i b,bt 91]=Z ([ys I],[nw s a b]))
  (e:ev T zz (.loop jg) (HR s a b 0 λ_=>J)=Z (.exit 3,⟨[(0,.ptr 900 0),(2,.ptr 2 0),(3,.ptr 3 0),(6,.d (E n)),(51,.d (.bool J))],[(2,wz),(3,bC f),(900,rC s k g)],[]⟩)) :
  fK T 279 [nw s i b]=Z ([.val I [.d (E 1),.d (.str (chT f)),.row ⟨[],3,J,I,I,J⟩]],[nw s k g]):=by (have c:(a_ 256 (C.d (.bool J)))=bC λ_=>J:=by rw[bC,qw];simp);have h:=anB f;simp only[HR,mz]at e;(conv at c=>lhs;reduce);rw[Cj (f:=279) rfl rfl,c];simp only[go_sem,eh,cm,Nat.reduceMul,cR,eA,tK,sH,rj,oR,zK,Sj,aoc,abL,m,l,j,e,h,cR]
def nJ{s:z}{i:Nat}{c:Int}{b:Bool}(e:s.size<=mg)(h:iU s i c=I):G 275 [.str s,E (i:Int),.bool b,.int .u8 c]=Z (0,[.bool I,.str s,E ((i+1:Nat):Int),.bool b]):=by obtain⟨a,f⟩:=mE.1 h;have d:=wj a e;refine ch t275 rfl ?_;simp only[go_sem,t275,a,f,df _ _ a,d]
def n8{s:z}{i:Nat}{c:Int}{b:Bool}(h:iU s i c=J):G 275 [.str s,E (i:Int),.bool b,.int .u8 c]=Z (0,[.bool J,.str s,E (i:Int),.bool b]):=by refine ch t275 rfl ?_;by_cases a:i<s.size;{have d:=Tp h a;simp only[go_sem,t275,a,d,df _ _ a]};simp only[go_sem,t275,a]
def anC(b:Int):G 277 [.int .u8 b]=Z (0,[.bool (Qf b)]):=by refine ch t277 rfl ?_;unfold Qf;cases f:eB 97 122 b<;>cases e:eB 48 57 b<;>simp only[go_sem,t277,aev,aew,f,e];by_cases d:b=95;{simp only[go_sem,d]};by_cases c:b=45;{simp only[go_sem,c]};by_cases a:b=46;{simp only[go_sem,a]};simp only[go_sem,d,c,a]
def Cr(s:z)(i:Nat):Bool:=Z' (i<s.size) && Qf (bY s i)
def L9{s:z}{i:Nat}{b:Bool}(f:s.size<=mg)(h:Cr s i=I):G 278 [.str s,E (i:Int),.bool b]=Z (0,[.int .u8 (bY s i),.str s,E ((i+1:Nat):Int),.bool b]):=by simp only[Cr,aw,decide_eq_true_eq]at h;obtain⟨a,g⟩:=h;have e:=wj a f;have c:=anC (bY s i);have k:=df s i a;have j:=aoo i (by omega);(have d:¬s.size<=i:=by omega);rw[g]at c;refine ch t278 rfl ?_;simp only[go_sem,t278,oF,d,c,k,j,e]
def G6{s:z}{i:Nat}{b:Bool}(h:Cr s i=J):G 278 [.str s,E (i:Int),.bool b]=Z (0,[.int .u8 0,.str s,E (i:Int),.bool I]):=by refine ch t278 rfl ?_;by_cases c:i<s.size;{simp only[Cr,c,decide_true,dw]at h;have d:=anC (bY s i);have e:=df s i c;(have a:¬s.size<=i:=by omega);rw[h]at d;simp only[go_sem,t278,oF,a,d,e]};(have a:s.size<=i:=by omega);simp only[go_sem,t278,oF,a]
theorem air(n:Nat):∀p:dD,aF p<n->yZ 64 p=I->G 281 (jy p)=Z (0,jy p):=by induction n with|zero=>{intro p h;omega}|succ n r=>intro p x e;have f:=D7 e;have d:∀k∈p.ai,G 281 (jy k)=Z (0,jy k):=λk d=>r k (by have:=dD.uT d;omega) (D6 e d);refine ch t281 (by rw[bk];rfl) ?_;have g:=cO (b:=lB G LA) p.ai (λi (a:M dD)=>(0,[cQ p.ai,E p.ai.length,E (i:Int),E p.op,.str p.text,cQ p.ai,E 0,.str ⟨#[]⟩,cQ a])) (λi=>p.ai.take i) (0,[cQ p.ai,E p.ai.length,E p.ai.length,.bool J,E p.op,.str p.text,cQ p.ai,E 0,.str ⟨#[]⟩,cQ p.ai]) (by intro i k c;have j:=bj c;have s:=wj (i:=i) (n:=p.ai.length) j (by simp only[mg];omega);have m:=d k (bp c);have w:=Nu c;have v:=λ(op:Int) (t:z) (q:M dD)=>J8 (l:=p.ai.take i) (by rw[bo];simp only[mg];omega) op t q;rw[bk]at m;rw[cd _ _ _ c];simp only[go_sem,bn,LA,j,w,ru];simp only[go_sem,bk k,m,MP,qL,v,cV,s]) (by rw[bq];simp only[go_sem,bn,LA,aG]) p.ai.length 0 (by omega);have o:aS (.lD 3 J) []=Z (cQ []):=xo 3 J;rw[n0,bB]at g;simp only[go_sem,t281,bk p,o,g]
def aq1{p:dD}(a:yZ 64 p=I):G 281 (jy p)=Z (0,jy p):=air _ p (aW _) a
def wc{s:z}{i d:Nat}{c:Int}{b t:Bool}(h:G 275 [.str s,E (i:Int),.bool b,.int .u8 c]=Z (0,[.bool t,.str s,E (d:Int),.bool b])):fK T 275 [nw s i b,bt c]=Z ([ys t],[nw s d b]):=by obtain⟨a,r,v,j,g,f,e⟩:=Ei T o9 275 _ rfl _ _ _ h;cases j;cases g;cases f;exact e
def LQ{s:z}{i c:Nat}{a:Int}{b e:Bool}(h:G 278 [.str s,E (i:Int),.bool b]=Z (0,[.int .u8 a,.str s,E (c:Int),.bool e])):fK T 278 [nw s i b]=Z ([.val J [.d (.int .u8 a)]],[nw s c e]):=by obtain⟨l,r,v,k,j,g,f⟩:=Ei T o9 278 _ rfl _ _ _ h;cases k;cases j;cases g;exact f
def aaZ{s:z}{i k:Nat}{p:dD}{b a:Bool}(h:G 280 [.str s,E (i:Int),.bool b]=Z (0,jy p++[.str s,E (k:Int),.bool a])) :
  fK T 280 [nw s i b]=Z ([.val I [.d (E p.op),.d (.str p.text),.d (.list 3 J (p.ai.map jy))]],[nw s k a]):=by rw[bk]at h;obtain⟨j,r,v,g,f,e,c⟩:=Ei T o9 280 _ rfl _ _ _ h;cases g;cases f;cases e;exact c
def aa0{s:z}{i k:Nat}{p:dD}{b a:Bool}(h:G 280 [.str s,E (i:Int),.bool b]=Z (1,jy p++[.str s,E (k:Int),.bool a])) :
  fK T 280 [nw s i b]=Z ([.val I [.d (E p.op),.d (.str p.text),.row ⟨p.ai.map jy,3,J,J,I,I⟩]],[nw s k a]):=by rw[bk]at h;obtain⟨j,r,v,g,f,e,c⟩:=Ei T o9 280 _ rfl _ _ _ h;cases g;cases f;cases e;exact c
def ZZ{s:z}{i k:Nat}{p:dD}{b a:Bool}(h:fK T 279 [nw s i b]=Z ([.val I [.d (E p.op),.d (.str p.text),.d (.list 3 J (p.ai.map jy))]],[nw s k a])) :
  G 279 [.str s,E (i:Int),.bool b]=Z (0,jy p++[.str s,E (k:Int),.bool a]):=by rw[bk];exact yf (i:=279) (sg:=⟨279,[.box [.d,.d,.d]],_⟩) (v:=([.val I [.d,.d,.d]],[.box [.d,.d,.d]])) rfl rfl h rfl rfl
def Z0{s:z}{i k:Nat}{p:dD}{b a:Bool}(h:fK T 279 [nw s i b]=Z ([.val I [.d (E p.op),.d (.str p.text),.row ⟨p.ai.map jy,3,J,J,I,I⟩]],[nw s k a])) :
  G 279 [.str s,E (i:Int),.bool b]=Z (1,jy p++[.str s,E (k:Int),.bool a]):=by rw[bk];exact yf (i:=279) (sg:=⟨279,[.box [.d,.d,.d]],_⟩) (v:=([.val I [.d,.d,.row 3 J J I I]],[.box [.d,.d,.d]])) rfl rfl h rfl rfl
def BC{s:z}{i k:Nat}{t:z}{op:Int}{b a:Bool}(h:fK T 279 [nw s i b]=Z ([.val I [.d (E op),.d (.str t),.row ⟨[],3,J,I,I,J⟩]],[nw s k a])) :
  G 279 [.str s,E (i:Int),.bool b]=Z (2,jy ⟨op,t,[]⟩++[.str s,E (k:Int),.bool a]):=by rw[bk];exact yf (i:=279) (sg:=⟨279,[.box [.d,.d,.d]],_⟩) (v:=([.val I [.d,.d,.row 3 J I I J]],[.box [.d,.d,.d]])) rfl rfl h rfl rfl
theorem YQ(f:Nat->Bool):chT f=bsT f:=(rfl)
def any_eq:chT (vr 127)=UN:=by rw[YQ,UN];congr 1;funext x;simp only[vr];congr 1;apply decide_eq_decide.2;omega
def alv(f:Nat->Bool)(a b:Nat)(l:M (Int×Int)):(λy:Nat=>rg f a b y ||pv l y)=λy=>f y ||pv (((a:Int),(b:Int))::l) y:=aaq f a b l
def eC(s:z)(k:Nat)(b:Bool)(n:Int)(f:Nat->Bool):u (Ex×St):=Z (.exit 3,⟨[(0,.ptr 900 0),(2,.ptr 2 0),(3,.ptr 3 0),(6,.d (.int .i64 n)),(51,.d (.bool J))],[(2,wz),(3,bC f),(900,rC s k b)],[]⟩)
theorem V2{s:z}(hs:s.size<=30):∀(g i n:Nat) (f:Nat->Bool),i<=s.size->s.size+1 - i<=g->n<=i->(n=0->iU s i 93=J)->
  ∃(k:Nat) (b:Bool) (v:Nat->Bool) (C:Int),ev T zz (.loop jg) (HR s i J n f)=eC s k b C v/\i<=k/\k<=s.size/\(match jr s g i with
   |some q=>b=J/\k=q.2/\v=λy=>f y ||pv q.1 y
   |none=>b=I):=by
 have A:s.size<=mg:=by simp only[mg];omega
 intro g
 induction g with
 |zero=>intro i n f h1 h2;omega
 |succ g ih=>
  intro i n f hi hg hn h0;cases x:iU s i 93 with
  |true=>
   have Y:=nE x;have e:=VJ (f:=f) (n:=n) (λh=>by rw[h0 h]at x;cases x) (wc (nJ (b:=J) A x));refine⟨i+1,J,f,n,e,by omega,by omega,?_⟩;have:jr s (g+1) i=Z ([],i+1):=by simp only[jr,x,if_true]
   rw[this];exact⟨rfl,rfl,by funext y;simp[pv]⟩
  |false=>
   have F:n=0\/fK T 275 [nw s i J,bt 93]=Z ([ys J],[nw s i J]):=.inr (wc (n8 x));have m:n<=mgK:=by simp only[mgK];omega
   have t:∀(k a c:Nat),i<=k->k<=s.size->sf s i=O->ev T zz jg (HR s i J n f)=Z (.norm,HR s k I (n+1) (rg f a c))->
     ∃(k:Nat) (b:Bool) (v:Nat->Bool) (C:Int),ev T zz (.loop jg) (HR s i J n f)=eC s k b C v/\i<=k/\k<=s.size/\(match jr s (g+1) i with
      |some q=>b=J/\k=q.2/\v=λy=>f y ||pv q.1 y
      |none=>b=I):=by
    intro k a c W R r j;have hx:=Jj (s:=s) (i:=(k:Int)) (n:=n+1) (f:=rg f a c);refine⟨k,I,rg f a c,((n+1:Nat):Int),?_,W,R,?_⟩
    .rw[lk,j];exact hx
    .have:jr s (g+1) i=O:=by simp only[jr,x,aL,if_false,r]
     rw[this]
   have KN:∀(k a c:Nat) (N:Int×Int),i<k->k<=s.size->sf s i=Z (N,k)->N=((a:Int),(c:Int))->ev T zz jg (HR s i J n f)=Z (.norm,HR s k J (n+1) (rg f a c))->
     ∃(k:Nat) (b:Bool) (v:Nat->Bool) (C:Int),ev T zz (.loop jg) (HR s i J n f)=eC s k b C v/\i<=k/\k<=s.size/\(match jr s (g+1) i with
      |some q=>b=J/\k=q.2/\v=λy=>f y ||pv q.1 y
      |none=>b=I):=by
    intro k a c N W R r rU j;obtain⟨k',b',v,C,e1,e2,e3,Q⟩:=ih k (n+1) (rg f a c) R (by omega) (by omega) (λh=>by omega);refine⟨k',b',v,C,?_,by omega,e3,?_⟩
    .rw[lk,j];exact e1
    .have:jr s (g+1) i=(jr s g k).map λp=>(N::p.1,p.2):=by simp only[jr,x,aL,if_false,r]
     rw[this];cases X:jr s g k with
     |none=>rw[X]at Q;exact Q
     |some q=>
      rw[X]at Q;obtain⟨h5,h6,h7⟩:=Q;refine⟨h5,h6,?_⟩;rw[h7,rU];exact alv f a c q.1
   cases P:Cr s i with
   |false=>
    have r:sf s i=O:=by have d:(Z' (i<s.size) && Qf (bY s i))=J:=P;simp only[sf,d,aL,if_false]
    have B:=LQ (G6 (b:=J) P);cases l:iU s i 126 with
    |false=>
     have j:=Fw (a:=0) (z0:=0) (f:=f) (i3:=0) (b3:=J) m (by decide) (by decide) F B (wc (n8 (b:=I) l)) (λh=>by cases h);exact t i 0 0 (aI _) hi r (by simpa using j)
    |true=>
     have Y:=nE l;cases w:Cr s (i+1) with
     |false=>
      have j:=Fw (a:=0) (z0:=0) (f:=f) m (by decide) (by decide) F B (wc (nJ (b:=I) A l)) (λ_=>LQ (G6 (b:=I) w));exact t (i+1) 0 0 (by omega) (by omega) r (by simpa using j)
     |true=>
      obtain⟨c,S,o⟩:=zJ s (i+1);have K:=LQ (L9 (b:=I) A w);rw[o]at K;have V:i+1<s.size:=by simp only[Cr,aw,decide_eq_true_eq]at w;exact w.1
      have j:=Fw (a:=0) (z0:=c) (f:=f) m (by decide) S F B (wc (nJ (b:=I) A l)) (λ_=>K);exact t (i+1+1) 0 c (by omega) (by omega) r (by simpa using j)
   |true=>
    obtain⟨a,U,L⟩:=zJ s i;have B:=LQ (L9 (b:=J) A P);rw[L]at B;have d:(Z' (i<s.size) && Qf (bY s i))=I:=P;have Y:i<s.size:=by simp only[aw,decide_eq_true_eq]at d;exact d.1
    cases l:iU s (i+1) 126 with
    |false=>
     have j:=Fw (a:=a) (z0:=0) (f:=f) (i3:=0) (b3:=J) m U (by decide) F B (wc (n8 (b:=J) l)) (λh=>by cases h);exact KN (i+1) a a (bY s i,bY s i) (by omega) (by omega) (by simp only[sf,d,l,if_true,aL,if_false]) (by rw[L]) (by simpa using j)
    |true=>
     have V:=nE l;cases w:Cr s (i+1+1) with
     |false=>
      have r:sf s i=O:=by have G:(Z' (i+2<s.size) && Qf (bY s (i+2)))=J:=w;simp only[sf,d,l,if_true,<- iV,G,dH,aL,if_false]
      have j:=Fw (a:=a) (z0:=0) (f:=f) m U (by decide) F B (wc (nJ (b:=J) A l)) (λ_=>LQ (G6 (b:=J) w));exact t (i+1+1) a 0 (by omega) (by omega) r (by simpa using j)
     |true=>
      obtain⟨c,S,o⟩:=zJ s (i+1+1);have K:=LQ (L9 (b:=J) A w);rw[o]at K;have G:(Z' (i+2<s.size) && Qf (bY s (i+2)))=I:=w;have aso:i+1+1<s.size:=by simp only[aw,decide_eq_true_eq]at G;exact G.1
      have j:=Fw (a:=a) (z0:=c) (f:=f) m U S F B (wc (nJ (b:=J) A l)) (λ_=>K);by_cases H:c<a
      .have D:¬bY s i<=bY s (i+2):=by rw[L,o];omega
       have r:sf s i=O:=by simp only[sf,d,l,if_true,<- iV,G,dw,D,decide_false,aL,if_false]
       exact t (i+1+1+1) a c (by omega) (by omega) r (by simpa [H] using j)
      .have D:bY s i<=bY s (i+2):=by rw[L,o];omega
       exact KN (i+1+1+1) a c (bY s i,bY s (i+2)) (by omega) (by omega) (by simp only[sf,d,l,if_true,<- iV,G,dw,D,decide_true]) (by rw[L,o]) (by simpa [H] using j)
def ixB(t:z)(c:Int):Int:=Lib.indexByte t.data.toList c.toNat.toUInt8
def afZ(t:z)(c:Int):G 9002 [.str t,.int .u8 c]=Z (0,[E (ixB t c)]):=
 yf (i:=9002) (sg:=⟨9002,[.val J [.d],.val J [.d]],[([.val J [.d]],[])]⟩) (v:=([.val J [.d]],[])) (j:=0) (r:=([.val J [.d (E (ixB t c))]],[])) (ws:=[.str t,.int .u8 c]) rfl rfl ((aaY T rfl [.val J [.d (.str t)],.val J [.d (.int .u8 c)]]).trans rfl) rfl rfl
theorem aav:∀(l:M UInt8) (c:UInt8),-1<=Lib.indexByte l c
 |[],c=>by simp[Lib.indexByte]
 |b::l,c=>by have a:=aav l c;simp only[Lib.indexByte];split;{omega};split<;>omega
theorem afN:∀(l:M UInt8) (c:UInt8),Z' (0<=Lib.indexByte l c)=l.any λx=>x ==c
 |[],c=>by simp[Lib.indexByte]
 |b::l,c=>by have e:=afN l c;have a:Lib.indexByte (b::l) c=if (b ==c)=I then 0 else if (Lib.indexByte l c == -1)=I then -1 else Lib.indexByte l c+1:=rfl;rw[hO,<- e];have g:=aav l c;by_cases h:(b ==c)=I;{rw[h,qS,decide_eq_true_eq,a,if_pos h];exact Int.le_refl 0};rw[dS.2 h,fV];apply decide_eq_decide.2;rw[a,if_neg h];split;{rename_i d;rw[beq_iff_eq]at d;omega};rename_i d;(have f:¬Lib.indexByte l c=-1:=by simpa using d);omega
def Tq(t:z){s:z}{i:Nat}:Z' (0<=ixB t (bY s i))=hasB t (bY s i):=by rw[ixB,afN,dU,fG,hasB,fG];have g:∀k,bY t k=(((t.data.toList)[k]?.getD 0).toNat:Int):=λk=>by{unfold bY;congr 2;simp only[Array.getElem?_toList];rfl};(have j:(bY s i).toNat.toUInt8=s[i]?.getD 0:=by unfold bY;simp);have f:bY s i=((s[i]?.getD 0).toNat:Int):=rfl;rw[j];constructor;{rintro⟨x,h,a⟩;obtain⟨k,c,d⟩:=List.getElem_of_mem h;refine⟨k,?_,?_⟩;{rw[zu];simpa using c};rw[decide_eq_true_eq,g,f,kG c,d];rw[beq_iff_eq]at a;rw[a];rfl};rintro⟨k,c,b⟩;rw[zu]at c;(have e:k<t.data.toList.length:=by simpa using c);rw[decide_eq_true_eq,g,f,kG e]at b;refine⟨_,List.getElem_mem e,?_⟩;rw[beq_iff_eq];simp only[cJ]at b;exact UInt8.toNat_inj.1 (by omega)
theorem Bh:∀(l:M Bool),lg (l.map CS)=Z l
 |[]=>rfl
 |b::l=>by have:=Bh l;simp only[bc,CS,lg,this,aX]
def Qb{a b:M Bool}(h:b.length=a.length)(c:0<b.length):aS .jnl [bR a,bR b]=Z (bR (dN a b)):=by simp only[aS,Bh,aj,h];rw[if_pos ⟨trivial,trivial,trivial,trivial,λd=>by rw[List.map_eq_nil_iff]at d;rw[d]at c;exact absurd c (by simp)⟩];rfl
def Qa(a b:M Bool):aS .jnb [bR a,bR b]=Z (.bool (nB a b)):=by simp only[aS,Bh]
theorem V4{s t:z}{a:M Bool}{op ks:D}(w:s.size<=mg)(y:a.length=s.size+1) :
  bJ (lB G BZ) (0,[.str s,bR a,E 0,op,.str t,ks,bR (a_ (s.size+1) J)])=Z (0,[.str s,bR a,E s.size,.bool J,op,.str t,ks,bR (PJ t s a)]):=by have j:=Kg t s a;have h:=N4 (b:=lB G BZ) (λi=>(0,[.str s,bR a,E (i:Int),op,.str t,ks,bR (ll (PJ t s a) (i+1))])) s.size (fin:=(0,[.str s,bR a,E s.size,.bool J,op,.str t,ks,bR (ll (PJ t s a) (s.size+1))])) (by intro i e;have g:IntKind.i64.wrap ((i:Int)+1)=((i+1:Nat):Int):=Ij (by omega);have k:nth a i=Z (a[i]'(by omega)):=dL (by omega);have o:=TW (t:=t) e k;have n:=Sm k;(have d:i+1<(ll (PJ t s a) (i+1)).length:=by rw[z8 _ _ (by omega)];omega);have m:=rM d;have l:=λc=>Et (c:=c) d;have f:=Bz o;have v:=df s i e;have r:=afZ t (bY s i);have q:=Tq t (s:=s) (i:=i);generalize (a[i]'(by omega))=x at *;cases x with|false=>{rw[dH]at f;simp only[go_sem,bn,BZ,e,g,n,m,l,f]}|true=>rw[dw]at f;simp only[go_sem,bn,BZ,e,g,n,m,l,f,v,r,q]) (by simp only[go_sem,bn,BZ,aG]);have p:ll (PJ t s a) (0+1)=a_ (s.size+1) J:=by{rw[ll,j];simp[PJ,ir]};rw[p,n0]at h;rw[h];congr 9;rw[<- j,QA]
section
variable {s:z} {k:dD} {f:M Bool->M Bool} (hf:∀x:M Bool,x.length=s.size+1->(f x).length=s.size+1)
 (ih:∀x:M Bool,x.length=s.size+1->G 308 (jy k++[.str s,bR x])=Z (0,[bR (f x)]))
include hf ih
theorem V6{t:z}:∀(m:Nat) (x:M Bool) (h:Nat) (c:D),h<2->outs x<m->x.length=s.size+1->
  bJ (lB G vT) (h,[.str s,c,E 4,.str t,cQ [k],bR x])=Z (0,[.str s,.bool J,E 4,.str t,cQ [k],bR (C9 f m x)]):=by intro m;induction m with|zero=>{intro x h c o r;omega}|succ m p=>intro x h c o r j;have g:=ih x j;rw[bk]at g;simp only[ax,av]at g;have n:=hf x j;have i:=Qb (a:=x) (b:=f x) (by rw[n,j]) (by omega);have e:=Qa x (f x);have q:=kz x (f x);have l:=I_ x (f x);simp only[C9];by_cases d:dN x (f x)=x;{rw[if_pos d];rw[decide_eq_true d,dv]at l;rw[l]at e;rw[d]at i;refine aO ?_;match h,o with|0,_=>{simp only[go_sem,bn,vT,xT,bk k,g,i,e]}|1,_=>simp only[go_sem,bn,vT,xT,bk k,g,i,e]};rw[if_neg d];rw[decide_eq_false d,dh]at l;rw[l]at e;refine (bE (s':=(1,[.str s,.bool I,E 4,.str t,cQ [k],bR (dN x (f x))])) ?_).trans (p _ 1 (.bool I) (by decide) (by have:=(yy x (f x)).2 d;omega) (by rw[q];exact j));match h,o with|0,_=>{simp only[go_sem,bn,vT,xT,bk k,g,i,e]}|1,_=>simp only[go_sem,bn,vT,xT,bk k,g,i,e]
theorem V5{t:ByteArray}{x:M Bool}{z:D}(c:x.length=s.size+1) :
  bJ (lB G vT) (0,[.str s,z,E 5,.str t,cQ [k],bR x])=Z (0,[.str s,.bool J,E 5,.str t,cQ [k],bR (dN x (f x))]):=by have e:=ih x c;rw[bk]at e;simp only[ax,av]at e;have d:=hf x c;have i:=Qb (a:=x) (b:=f x) (by rw[d,c]) (by omega);have g:=Qa x (f x);refine aO ?_;cases h:nB x (f x)<;>rw[h]at g<;>simp only[go_sem,bn,vT,xT,bk k,e,i,g]
end
def Hh(h:u D)(s:z)(l:M dD)(i:Nat)(x:M Bool):Nat×M D:=match h with
 |none=>(0,[.str s,cQ l,.int .i64 l.length,.int .i64 (i:Int),bR x])
 |some a=>(1,[.str s,cQ l,.int .i64 l.length,.int .i64 (i:Int),a,bR x])
def NW(h:u D)(s:z)(l:M dD)(x:M Bool):Nat×M D:=match h with
 |none=>(0,[.str s,cQ l,.int .i64 l.length,.int .i64 l.length,.bool J,bR x])
 |some a=>(1,[.str s,cQ l,.int .i64 l.length,.int .i64 l.length,.bool J,a,bR x])
theorem Jp{s:z}{l:M dD}{f:dD->M Bool->M Bool}(p:l.length<=mg)(q:∀(k:dD) (x:M Bool),x.length=s.size+1->(f k x).length=s.size+1)
  (j:∀k∈l,∀x:M Bool,x.length=s.size+1->G 308 (jy k++[.str s,bR x])=Z (0,[bR (f k x)])):∀(m i:Nat) (x:M Bool) (h:u D),i+m=l.length->x.length=s.size+1->
  ∃g,bJ (lB G B0) (Hh h s l i x)=Z (NW g s l ((l.drop i).foldl (λo k=>f k o) x))
 |0,i,x,h,t,c=>by (obtain rfl:i=l.length:=by omega);refine⟨h,aO ?_⟩;rw[eI,zr];cases h with|none=>{simp only[go_sem,bn,B0,Hh,NW,aG]}|some a=>simp only[go_sem,bn,B0,Hh,NW,aG]
 |m+1,i,x,h,t,c=>by have d:nth l i=Z (l[i]'(by omega)):=dL (by omega);(have e:i<l.length:=by omega);have n:=wj e p;have b:=j _ (bp d) x c;have r:=Nu d;obtain⟨g,v⟩:=Jp p q j m (i+1) (f (l[i]'(by omega)) x) (Z (h.getD (bR x))) (by omega) (q _ x c);refine⟨g,(bE (s':=Hh (Z (h.getD (bR x))) s l (i+1) (f (l[i]'(by omega)) x)) ?_).trans (v.trans ?_)⟩;{generalize (l[i]'(by omega))=k at *;rw[bk]at b;simp only[ax,av]at b;cases h with|none=>{simp only[go_sem,bn,B0,Hh,e,r,ru];simp only[go_sem,bk k,b,n]}|some a=>simp only[go_sem,bn,B0,Hh,e,r,ru];simp only[go_sem,bk k,b,n]};rw[fM l i _ d,xu]
theorem aiu{s:ByteArray}(P:s.size<=mg)(n:Nat):∀(p:dD) (a:M Bool),aF p<n->yZ 64 p=I->a.length=s.size+1->G 308 (jy p++[.str s,bR a])=Z (0,[bR (jz s n p a)]):=by induction n with|zero=>{intro p a h;omega}|succ n V=>intro p a hz S r;have c:=sO (s:=s) n;have w:∀k∈p.ai,∀x:M Bool,x.length=s.size+1->G 308 (jy k++[.str s,bR x])=Z (0,[bR (jz s n k x)]):=λk w x D=>V k x (by have:=dD.uT w;omega) (D6 S w) D;have e:=Ij P;have j:=zM (n:=s.size+1) (by simp only[mg]at P;omega);have xG:=D7 S;have A:=YH (l:=a_ (s.size+1) J) (m:=a) (by simpa using r);refine ch t308 (by rw[bk];rfl) ?_;simp only[jz];unfold NA;by_cases H:p.op=1;{have d:=V4 (s:=s) (t:=p.text) (a:=a) (op:=E 1) (ks:=cQ p.ai) P r;rw[if_pos H];simp only[go_sem,e,j,t308,bk p,H,d]};rw[if_neg H];by_cases C:p.op=2;{rw[if_pos C];obtain⟨W,d⟩:=Jp (s:=s) (l:=p.ai) (f:=jz s n) (by simp only[mg];omega) c w p.ai.length 0 a O (by omega) r;rw[cj]at d;simp only[Hh,n0]at d;cases W with|none=>{simp only[NW]at d;simp only[go_sem,e,j,A,t308,bk p,C,d]}|some z=>simp only[NW]at d;simp only[go_sem,e,j,A,t308,bk p,C,d]};rw[if_neg C];by_cases F:p.op=3;{rw[if_pos F];have d:=cO (b:=lB G LC) p.ai (λi (x:M Bool)=>(0,[.str s,bR a,cQ p.ai,E p.ai.length,E (i:Int),bR x])) (λi=>(p.ai.take i).foldl (λo k=>dN o (jz s n k a)) (a_ (s.size+1) J)) (0,[.str s,bR a,cQ p.ai,E p.ai.length,E p.ai.length,.bool J,bR (p.ai.foldl (λo k=>dN o (jz s n k a)) (a_ (s.size+1) J))]) (by intro i k K;have T:=bj K;have N:=wj (i:=i) (n:=p.ai.length) T (by simp only[mg];omega);have R:=w k (bp K) a r;have U:=BB (s:=s) (g:=λk=>jz s n k a) (p.ai.take i) (a_ (s.size+1) J) (by simp);have Y:=Qb (a:=(p.ai.take i).foldl (λo k=>dN o (jz s n k a)) (a_ (s.size+1) J)) (b:=jz s n k a) (by rw[c k a r,U]) (by rw[c k a r];omega);have X:=Qa ((p.ai.take i).foldl (λo k=>dN o (jz s n k a)) (a_ (s.size+1) J)) (jz s n k a);rw[bk]at R;simp only[ax,av]at R;rw[yn _ _ _ _ _ K];simp only[go_sem,bn,LC,T,Nu K,ru];simp only[go_sem,bk k,R,Y,X,N]) (by rw[bq];simp only[go_sem,bn,LC,aG]) p.ai.length 0 (by omega);rw[n0,bB,zr]at d;simp only[go_sem,e,j,t308,bk p,F,d]};rw[if_neg F];by_cases B:p.op=4;{rw[if_pos B];(have q:¬(4:Int)=5:=by decide);by_cases y:p.ai.length=1;{obtain⟨k,v⟩:=dm.1 y;have L:=V6 (t:=p.text) (c k) (λx D=>w k (by rw[v];simp) x D) (s.size+2) a 0 (.bool J) (by decide) (by have:=LZ a;omega) r;rw[v,LX];simp only[go_sem,e,j,A,t308,bk p,B,q,v,L]};rw[LY y];have Q:=ad6 y;simp only[go_sem,e,j,A,t308,bk p,B,q,Q]};rw[if_neg B];by_cases q:p.op=5;{rw[if_pos q];by_cases y:p.ai.length=1;{obtain⟨k,v⟩:=dm.1 y;have L:=V5 (t:=p.text) (z:=.bool J) (c k) (λx D=>w k (by rw[v];simp) x D) r;rw[v,LX];simp only[go_sem,e,j,A,t308,bk p,q,v,L]};rw[LY y];have Q:=ad6 y;simp only[go_sem,e,j,A,t308,bk p,q,Q]};rw[if_neg q];simp only[go_sem,e,j,t308,bk p,H,C,F,B,q]
def aq4{s:z}{p:dD}(d:s.size<=mg)(m:yZ 64 p=I):G 309 (jy p++[.str s])=Z (0,[.bool (Q6 p s)]):=by have k:=Ij d;have o:=zM (n:=s.size+1) (by simp only[mg]at d;omega);have e:=aiu d (aF p+1) p (I::a_ s.size J) (aW _) m (by simp);have g:=sO (s:=s) (aF p+1) p (I::a_ s.size J) (by simp);rw[bk]at e;simp only[ax,av]at e;have j:=rM (l:=a_ (s.size+1) J) (i:=0) (by simp);have f:=Et (l:=a_ (s.size+1) J) (i:=0) (c:=I) (by simp);(have v:(a_ (s.size+1) J).set 0 I=I::a_ s.size J:=by rw[ir];rfl);rw[v]at f;rw[n0]at j f;have t:=rM (l:=jz s (aF p+1) p (I::a_ s.size J)) (i:=s.size) (by rw[g];omega);obtain⟨b,h⟩:∃b,nth (jz s (aF p+1) p (I::a_ s.size J)) s.size=Z b:=⟨_,dL (by rw[g];omega)⟩;have r:=Bg h;refine ch t309 (by rw[bk];rfl) ?_;(have q:Q6 p s=b:=by rw[Q6,h];rfl);rw[q];generalize jz s (aF p+1) p (I::a_ s.size J)=a at *;simp only[go_sem,t309,bk p,k,o,j,f,e,t,r]
section
variable {s:z} {alt:Nat->PR}
theorem aq0(u9:s.size<=30){i:Nat}(F:i<s.size)(hA:∀j,i<j->j<=s.size->El 280 s j 0 2 J (alt j)):El 279 s i 1 3 J (xY alt s i):=by
 have D:s.size<=mg:=by simp only[mg];omega
 unfold xY;cases H:iU s i 40 with
 |true=>
  have t:=wc (nJ (b:=J) D H);obtain⟨j,p,k,b,W,P,V,p2,p3,B⟩:=hA (i+1) (by omega) (by omega);rw[if_pos rfl];cases o:iU s k 41 with
  |true=>
   have g:=wc (nJ (b:=b) D o);have hk:=nE o;have G:PA s i 1 (match alt (i+1) with
     |some (p,j)=>if iU s j 41=I then Z (p,j+1) else O
     |none=>O) p (k+1) b:=by
    refine⟨V,by omega,by omega,?_⟩;cases e:alt (i+1) with
    |none=>rw[e]at B;exact B
    |some q=>
     rw[e]at B;obtain⟨Q,rfl,p5⟩:=B;simp only[o,if_true];exact⟨Q,trivial,by omega⟩
   match j,W with|0,_=>{have:=K9 (.inl ⟨_,rfl⟩) t (aaZ P) g;rw[dv,dF]at this;exact⟨0,p,k+1,b,by decide,ZZ this,G⟩}|1,_=>have:=K9 (.inr ⟨_,rfl⟩) t (aa0 P) g;rw[dv,dF]at this;exact⟨1,p,k+1,b,by decide,Z0 this,G⟩
  |false=>
   have g:=wc (n8 (b:=b) o);have G:PA s i 1 (match alt (i+1) with
     |some (p,j)=>if iU s j 41=I then Z (p,j+1) else O
     |none=>O) p k I:=by
    refine⟨V,by omega,p3,?_⟩;cases e:alt (i+1) with
    |none=>rfl
    |some q=>
     rw[e]at B;obtain⟨Q,rfl,p5⟩:=B;simp only[o,aL,if_false]
   match j,W with|0,_=>{have:=K9 (.inl ⟨_,rfl⟩) t (aaZ P) g;rw[dh,dZ]at this;exact⟨0,p,k,I,by decide,ZZ this,G⟩}|1,_=>have:=K9 (.inr ⟨_,rfl⟩) t (aa0 P) g;rw[dh,dZ]at this;exact⟨1,p,k,I,by decide,Z0 this,G⟩
 |false=>have t:=wc (n8 (b:=J) H);rw[if_neg dr];cases m:iU s i 46 with|true=>{have g:=wc (nJ (b:=J) D m);have v:iU s i 91=J:=by{rw[dS];intro h;have a1:=(mE.1 h).2;have a2:=(mE.1 m).2;omega};have:=ahk t g;rw[any_eq]at this;rw[v,if_neg dr,if_pos rfl];exact⟨2,⟨1,UN,[]⟩,i+1,J,by decide,BC this,kW _ _ (Bk _),by omega,by omega,rfl,rfl,by omega⟩}|false=>have g:=wc (n8 (b:=J) m);cases v:iU s i 91 with|true=>{have K:=wc (nJ (b:=J) D v);rw[if_pos rfl];cases N:iU s (i+1) 93 with|false=>{obtain⟨k,b,Y,n',e1,e2,e3,R⟩:=V2 u9 (s.size+1) (i+1) 0 (λ_=>J) (by omega) (by omega) (by omega) (λ_=>N);have:=aaw t g K e1;refine⟨2,⟨1,chT Y,[]⟩,k,b,by decide,BC this,kW _ _ (Bk _),by omega,e3,?_⟩;unfold OT;cases e:jr s (s.size+1) (i+1) with|none=>{rw[e]at R;exact R}|some q=>obtain⟨l,k0⟩:=q;rw[e]at R;obtain⟨Q,X,h7⟩:=R;dsimp only at X;subst Q X;cases l with|nil=>{exfalso;simp only[jr,N,aL,if_false]at e;split at e;{obtain⟨p,_,h⟩:=ay.1 e;simp at h};cases e}|cons r l=>have hf:chT Y=ai0 (r::l):=by{rw[YQ,ai0,h7];congr 1};rw[hf];exact⟨rfl,rfl,by omega⟩}|true=>obtain⟨hl3,U⟩:=mE.1 N;have w:Cr s (i+1)=J:=by{simp only[Cr,U];rw[Bool.and_eq_false_iff];exact .inr (by decide)};have ht:iU s (i+1) 126=J:=by{rw[dS];intro h;have a1:=(mE.1 h).2;omega};have he:=Fw (a:=0) (z0:=0) (f:=λ_=>J) (i3:=0) (b3:=J) (n:=0) (by decide) (by decide) (by decide) (.inl rfl) (LQ (G6 (b:=J) w)) (wc (n8 (b:=I) ht)) (λh=>by cases h);have hx:=Jj (s:=s) (i:=((i+1:Nat):Int)) (n:=1) (f:=rg (λ_=>J) 0 0);have hl:ev T zz (.loop jg) (HR s ((i+1:Nat):Int) J 0 λ_=>J)=Z (.exit 3,⟨[(0,.ptr 900 0),(2,.ptr 2 0),(3,.ptr 3 0),(6,.d (E ((1:Nat):Int))),(51,.d (.bool J))],[(2,wz),(3,bC (rg (λ_=>J) 0 0)),(900,rC s ((i+1:Nat):Int) I)],[]⟩):=by{rw[lk,he];exact hx};have:=aaw t g K hl;refine⟨2,⟨1,chT _,[]⟩,i+1,I,by decide,BC this,kW _ _ (Bk _),by omega,by omega,?_⟩;(have e:jr s (s.size+1) (i+1)=Z ([],i+1+1):=by simp only[jr,N,if_true]);(have:OT s (i+1)=O:=by rw[OT,e]);rw[this]}|false=>have K:=wc (n8 (b:=J) v);rw[if_neg dr,if_neg dr];cases w:Cr s i with|false=>{have:=aax t g K (LQ (G6 (b:=J) w));have S:(Z' (i<s.size) && pCh (bY s i))=J:=by{simp only[Cr,F,decide_true,dw,Qf]at w;simp only[F,decide_true,dw,pCh];generalize eB 97 122 (bY s i)=x at *;generalize eB 48 57 (bY s i)=y at *;generalize Z' (bY s i=45)=c at *;cases x<;>cases y<;>cases c<;>simp_all};rw[S,if_neg dr];exact⟨2,⟨1,_,[]⟩,i,I,by decide,BC this,kW _ _ (by decide),by omega,by omega,rfl⟩}|true=>have:=aax t g K (LQ (L9 (b:=J) D w));(have L:¬bY s i=46:=λh=>by rw[mE.2 ⟨F,h⟩]at m;cases m);have e1:([dW (bY s i).toNat].toArray:Array UInt8)=(GU (bY s i)).data:=rfl;(have C:(GU (bY s i)).size<=256:=by rw[GU,pg];simp);have S:(Z' (i<s.size) && pCh (bY s i))=!Z' (bY s i=95):=by{simp only[Cr,F,decide_true,dw,Qf]at w;simp only[F,decide_true,dw,pCh];by_cases A:bY s i=95;{rw[A];decide};simp only[A,L,decide_false,fV,dF]at w;rw[w];simp[A]};rw[S];by_cases A:bY s i=95;{rw[decide_eq_true A,qS,dZ]at this;rw[decide_eq_true A,dv,if_neg dr];exact⟨2,⟨1,GU (bY s i),[]⟩,i+1,I,by decide,BC this,kW _ _ C,by omega,by omega,rfl⟩};rw[decide_eq_false A,decide_eq_false L,dF,dF]at this;rw[decide_eq_false A,dh,if_pos rfl];exact⟨2,⟨1,GU (bY s i),[]⟩,i+1,J,by decide,BC this,kW _ _ C,by omega,by omega,rfl,rfl,by omega⟩
theorem aq2(C:s.size<=30){i:Nat}(t:El 279 s i 1 3 J (xY alt s i)):El 282 s i 1 4 J (tf alt s i):=by (have r:s.size<=mg:=by simp only[mg];omega);obtain⟨j,p,k,b,l,c,v,F,x,h⟩:=t;simp only[bk,ax,av]at c;have g:=aq1 v;rw[bk]at g;have B:=T6 (n:=64) (by decide) (s:=s) k v;have A:=T5 s p k;have a:PA s i 1 (tf alt s i) (GX s p k).1 (GX s p k).2 b:=by{refine⟨B,by omega,A.2 x,?_⟩;unfold tf;cases w:xY alt s i with|none=>{rw[w]at h;exact h}|some q=>rw[w]at h;obtain⟨y,rfl,D⟩:=h;exact⟨y,rfl,by omega⟩};unfold GX at a;cases c1:iU s k 42 with|true=>{have d:=nJ (b:=b) r c1;rw[c1,if_pos rfl]at a;match j,l with|0,_=>{exact⟨0,_,_,b,by decide,ch t282 rfl (by simp only[go_sem,c,vf,qL,P1,cV,eT,t282,d,bk]),a⟩}|1,_=>{exact⟨0,_,_,b,by decide,ch t282 rfl (by simp only[go_sem,c,qL,P1,cV,eT,t282,d,bk]),a⟩}|2,_=>exact⟨3,_,_,b,by decide,ch t282 rfl (by simp only[go_sem,c,MP,qL,P1,cV,eT,t282,d,bk]),a⟩}|false=>have d:=n8 (b:=b) c1;rw[c1,if_neg dr]at a;cases o:iU s k 43 with|true=>{have e:=nJ (b:=b) r o;rw[o,if_pos rfl]at a;match j,l with|0,_=>{exact⟨0,_,_,b,by decide,ch t282 rfl (by simp only[go_sem,c,vf,qL,W7,P1,P2,g,cV,eT,t282,d,e,bk]),a⟩}|1,_=>{exact⟨0,_,_,b,by decide,ch t282 rfl (by simp only[go_sem,c,vf,qL,W7,P1,P2,g,cV,eT,t282,d,e,bk]),a⟩}|2,_=>exact⟨0,_,_,b,by decide,ch t282 rfl (by simp only[go_sem,c,vf,qL,W7,P1,P2,g,cV,eT,t282,d,e,bk]),a⟩}|false=>have e:=n8 (b:=b) o;rw[o,if_neg dr]at a;cases m:iU s k 63 with|true=>{have f:=nJ (b:=b) r m;rw[m,if_pos rfl]at a;match j,l with|0,_=>{exact⟨0,_,_,b,by decide,ch t282 rfl (by simp only[go_sem,c,vf,qL,P1,cV,eT,t282,d,e,f,bk]),a⟩}|1,_=>{exact⟨0,_,_,b,by decide,ch t282 rfl (by simp only[go_sem,c,qL,P1,cV,eT,t282,d,e,f,bk]),a⟩}|2,_=>exact⟨3,_,_,b,by decide,ch t282 rfl (by simp only[go_sem,c,MP,qL,P1,cV,eT,t282,d,e,f,bk]),a⟩}|false=>have f:=n8 (b:=b) m;rw[m,if_neg dr]at a;match j,l with|0,_=>{exact⟨1,_,_,b,by decide,ch t282 rfl (by simp only[go_sem,c,t282,d,e,f,bk]),a⟩}|1,_=>{exact⟨2,_,_,b,by decide,ch t282 rfl (by simp only[go_sem,c,t282,d,e,f,bk]),a⟩}|2,_=>exact⟨3,_,_,b,by decide,ch t282 rfl (by simp only[go_sem,c,t282,d,e,f,bk]),a⟩
end
section
variable {s:z} {alt:Nat->PR}
theorem V3(r:s.size<=30){i:Nat}{l:M dD}(v:l.length<=100)(h:wv s i=I)(g:El 282 s i 1 4 J (tf alt s i)) :
  ∃(p:dD) (k:Nat) (b:Bool),lB G n5 (0,[E 0,.str ⟨#[]⟩,.str s,E (i:Int),.bool J,cQ l])=Z (.go (0,[E 0,.str ⟨#[]⟩,.str s,E (k:Int),.bool b,cQ (l++[p])]))/\PA s i 1 (tf alt s i) p k b:=by (have m:l.length<=mg:=by simp only[mg];omega);simp only[wv,aw,decide_eq_true_eq,cx,decide_eq_false_iff_not]at h;obtain⟨a,e,d⟩:=h;have f:=df s i a;have fa:=λop t n=>J8 m op t n;obtain⟨j,p,k,b,o,c,q⟩:=g;simp only[bk,ax,av]at c;refine⟨p,k,b,?_,q⟩;match j,o with|0,_=>{simp only[go_sem,a,e,d,f,c,qL,fa,cV,bn,n5]}|1,_=>{simp only[go_sem,a,e,d,f,c,vf,qL,fa,cV,bn,n5]}|2,_=>{simp only[go_sem,a,e,d,f,c,qL,fa,cV,bn,n5]}|3,_=>simp only[go_sem,a,e,d,f,c,MP,qL,fa,cV,bn,n5]
theorem adE(m:s.size<=30){i0:Nat}(F:∀j,i0<j->j<=s.size->El 280 s j 0 2 J (alt j)):∀(g i:Nat) (l:M dD),i0<=i->i<=s.size->s.size+1 - i<=g->Lsx l i->
  ∃(h:M dD) (k:Nat) (b:Bool),bJ (lB G n5) (0,[E 0,.str ⟨#[]⟩,.str s,E (i:Int),.bool J,cQ l])=Z (0,[.bool J,E 0,.str ⟨#[]⟩,.str s,E (k:Int),.bool b,cQ h])/\RdL i s l (wq alt s g i) h k b:=by (have R:s.size<=mg:=by simp only[mg];omega);intro g;induction g with|zero=>{intro i l _ w H;omega}|succ g D=>intro i l T w H c;simp only[wq];cases d:wv s i with|false=>{simp only[aL,if_false];refine⟨l,i,J,aO ?_,⟨by have:=c.1;omega,c.2⟩,aI _,w,rfl,by rw[aH],rfl⟩;by_cases a:i<s.size;{have x:=df s i a;simp only[wv,a,decide_true,dw]at d;by_cases t:bY s i=124;{simp only[go_sem,bn,n5,a,t,x]};have f:bY s i=41:=by{by_cases f:bY s i=41;{exact f};simp[t,f]at d};(have B:¬(41:Int)=124:=by decide);simp only[go_sem,bn,n5,a,f,B,x]};simp only[go_sem,bn,n5,a]}|true=>(have a:i<s.size:=by simp only[wv,aw,decide_eq_true_eq]at d;exact d.1);simp only[if_true];obtain⟨p,k,b,y,r,A,o,e⟩:=V3 m (l:=l) (by have:=c.1;omega) d (aq2 m (aq0 m a λj S P=>F j (by omega) P));cases v:tf alt s i with|none=>{rw[v]at e;subst e;refine⟨l++[p],k,I,(bE y).trans (aO ?_),pf (n:=30) ⟨by have:=c.1;omega,c.2⟩ r (by decide),A,o,rfl⟩;simp only[go_sem,bn,n5]}|some q=>rw[v]at e;obtain⟨rfl,rfl,Q⟩:=e;obtain⟨h,C,N,L,K⟩:=D k (l++[p]) (by omega) o (by omega) (pf c r (by omega));exact⟨h,C,N,(bE y).trans L,zD (by omega) K⟩
theorem anD(m:s.size<=30){i:Nat}(w:i<=s.size)(o:∀j,i<j->j<=s.size->El 280 s j 0 2 J (alt j)):El 283 s i 0 2 J (Dw alt s i):=by obtain⟨f,k,b,l,h,y,x,c⟩:=adE m o (s.size+1) i [] (aI _) w (by omega) ⟨by simp,by simp⟩;have e:aS (.lD 3 J) []=Z (cQ []):=xo 3 J;have a:PA s i 0 (Dw alt s i) (tz 2 f) k b:=by{refine⟨wG (by have:=h.1;omega) h.2,y,x,?_⟩;unfold Dw;cases g:wq alt s (s.size+1) i with|none=>{rw[g]at c;exact c}|some q=>rw[g]at c;obtain⟨v,t,r⟩:=c;subst t r;exact⟨v,rfl,by omega⟩};by_cases d:f.length=1;{obtain⟨p,rfl⟩:=dm.1 d;have n:tz 2 [p]=p:=rfl;rw[n]at a;refine⟨0,p,k,b,by decide,ch t283 rfl ?_,a⟩;simp only[go_sem,t283,e,l,IZ,IQ,bk p]};rw[My d]at a;refine⟨1,_,k,b,by decide,ch t283 rfl ?_,a⟩;simp only[go_sem,t283,e,l,Ju,d,bk,eT]
theorem ais{i:Nat}(c:i<=s.size):El 283 s i 0 2 I O:=by have a:aS (.lD 3 J) []=Z (cQ []):=xo 3 J;have b:bJ (lB G n5) (0,[E 0,.str ⟨#[]⟩,.str s,E (i:Int),.bool I,cQ []])=Z (0,[.bool J,E 0,.str ⟨#[]⟩,.str s,E (i:Int),.bool I,cQ []]):=by{refine aO ?_;simp only[go_sem,bn,n5]};refine⟨1,⟨2,eT,[]⟩,i,I,by decide,ch t283 rfl ?_,y_ CT (by simp) (by simp),aI _,c,rfl⟩;simp only[go_sem,t283,n0,a,b,bk,eT]
theorem Ov(H:s.size<=30):∀(g i:Nat) (l:M dD),i<=s.size->s.size+1 - i<=g->Lsx l (i+2)->
  ∃(a:M dD) (k:Nat),bJ (lB G oW) (0,[E 0,.str ⟨#[]⟩,.str s,E (i:Int),.bool I,cQ l])=Z (0,[.bool J,E 0,.str ⟨#[]⟩,.str s,E (k:Int),.bool I,cQ a])/\Lsx a 40/\i<=k/\k<=s.size:=by (have y:s.size<=mg:=by simp only[mg];omega);intro g;induction g with|zero=>{intro i l m B;omega}|succ g x=>intro i l m B c;cases h:iU s i 124 with|false=>{have d:=n8 (b:=I) h;exact⟨l,i,aO (by simp only[go_sem,bn,oW,d]),⟨by have:=c.1;omega,c.2⟩,aI _,m⟩}|true=>have d:=nJ (b:=I) y h;have L:=nE h;(have n:l.length<=mg:=by have:=c.1;simp only[mg];omega);have fa:=λop t v=>J8 n op t v;obtain⟨j,p,k,b,A,f,r,K,q,o⟩:=ais (s:=s) (i:=i+1) (by omega);simp only[bk,ax,av]at f;have e:b=I:=o;subst e;have go:lB G oW (0,[E 0,.str ⟨#[]⟩,.str s,E (i:Int),.bool I,cQ l])=Z (.go (0,[E 0,.str ⟨#[]⟩,.str s,E (k:Int),.bool I,cQ (l++[p])])):=by{match j,A with|0,_=>{simp only[go_sem,bn,oW,d,f,vf,qL,fa,cV]}|1,_=>simp only[go_sem,bn,oW,d,f,qL,fa,cV]};obtain⟨a,w,F,D,N,C⟩:=x k (l++[p]) q (by omega) (pf c r (by omega));exact⟨a,w,(bE go).trans F,D,by omega,C⟩
theorem adD(o:s.size<=30){i0:Nat}(K:∀j,i0<j->j<=s.size->El 280 s j 0 2 J (alt j)):∀(g i:Nat) (l:M dD),i0<=i->i<=s.size->s.size+1 - i<=g->Lsx l (i+1)->
  ∃(a:M dD) (k:Nat) (b:Bool),bJ (lB G oW) (0,[E 0,.str ⟨#[]⟩,.str s,E (i:Int),.bool J,cQ l])=Z (0,[.bool J,E 0,.str ⟨#[]⟩,.str s,E (k:Int),.bool b,cQ a])/\RdL i s l (C4 alt s g i) a k b:=by (have H:s.size<=mg:=by simp only[mg];omega);intro g;induction g with|zero=>{intro i l _ B L;omega}|succ g F=>intro i l V B L c;simp only[C4];cases m:iU s i 124 with|false=>{have e:=n8 (b:=J) m;simp only[aL,if_false];refine⟨l,i,J,aO ?_,⟨by have:=c.1;omega,c.2⟩,aI _,B,rfl,by rw[aH],rfl⟩;simp only[go_sem,bn,oW,e]}|true=>have e:=nJ (b:=J) H m;have U:=nE m;(have r:l.length<=mg:=by have:=c.1;simp only[mg];omega);have W:=λx=>Yt r x;have fa:=λop t D=>J8 r op t D;simp only[if_true];obtain⟨j,p,k,b,A,h,w,T,v,d⟩:=anD o (i:=i+1) (by omega) λj A R=>K j (by omega) R;simp only[bk,ax,av]at h;have go:lB G oW (0,[E 0,.str ⟨#[]⟩,.str s,E (i:Int),.bool J,cQ l])=Z (.go (0,[E 0,.str ⟨#[]⟩,.str s,E (k:Int),.bool b,cQ (l++[p])])):=by{match j,A with|0,_=>{simp only[go_sem,bn,oW,e,h,vf,qL,fa,cV]}|1,_=>simp only[go_sem,bn,oW,e,h,qL,fa,cV]};cases y:Dw alt s (i+1) with|none=>{rw[y]at d;subst d;obtain⟨a,f,P,n,C,N⟩:=Ov o (s.size+1) k (l++[p]) v (by omega) (pf c w (by omega));exact⟨a,f,I,(bE go).trans P,n,by omega,N,rfl⟩}|some q=>rw[y]at d;obtain⟨rfl,rfl,S⟩:=d;obtain⟨a,f,Q,n,C⟩:=F k (l++[p]) (by omega) v (by omega) (pf c w (by omega));exact⟨a,f,Q,(bE go).trans n,zD (by omega) C⟩
theorem aiq(v:s.size<=30){i:Nat}(R:i<=s.size)(C:∀j,i<j->j<=s.size->El 280 s j 0 2 J (alt j)):El 280 s i 0 2 J (GW alt s i):=by obtain⟨j,p,k,b,B,g,y,F,x,m⟩:=anD v R C;simp only[bk,ax,av]at g;have L:∃(c:M dD) (a:Nat) (e:Bool),bJ (lB G oW) (0,[E 0,.str ⟨#[]⟩,.str s,E (k:Int),.bool b,cQ [p]])=Z (0,[.bool J,E 0,.str ⟨#[]⟩,.str s,E (a:Int),.bool e,cQ c])/\PA s i 0 (GW alt s i) (tz 3 c) a e:=by{unfold GW;cases A:Dw alt s i with|none=>{rw[A]at m;subst m;obtain⟨c,a,d,l,S,w⟩:=Ov v (s.size+1) k [p] x (by omega) ⟨by simp,by simpa using y⟩;exact⟨c,a,I,d,wG (by have:=l.1;omega) l.2,by omega,w,rfl⟩}|some q=>rw[A]at m;obtain⟨rfl,rfl,T⟩:=m;obtain⟨c,a,e,d,l,S,w,r⟩:=adD v C (s.size+1) k [p] F x (by omega) ⟨by simp,by simpa using y⟩;refine⟨c,a,e,d,wG (by have:=l.1;omega) l.2,by omega,w,?_⟩;dsimp only;cases f:C4 alt s (s.size+1) k with|none=>{rw[f]at r;exact r}|some q=>rw[f]at r;obtain⟨Q,P,N⟩:=r;subst P N;exact⟨Q,rfl,by omega⟩};obtain⟨c,a,e,d,o⟩:=L;have K:∀(t:Nat×M D) (h:eY G (t280.t) 0 [.str s,E (i:Int),.bool J]=Z t),True:=λ_ _=>trivial;by_cases n:c.length=1;{obtain⟨q,rfl⟩:=dm.1 n;have H:tz 3 [q]=q:=rfl;rw[H]at o;refine⟨0,q,a,e,by decide,ch t280 rfl ?_,o⟩;match j,B with|0,_=>{simp only[go_sem,t280,g,vf,qL,P1,cV,d,IZ,IQ,bk q]}|1,_=>simp only[go_sem,t280,g,qL,P1,cV,d,IZ,IQ,bk q]};rw[My n]at o;refine⟨1,_,a,e,by decide,ch t280 rfl ?_,o⟩;match j,B with|0,_=>{simp only[go_sem,t280,g,vf,qL,P1,cV,d,Ju,n,bk,eT]}|1,_=>simp only[go_sem,t280,g,qL,P1,cV,d,Ju,n,bk,eT]
theorem abw(a:s.size<=30):∀(g i:Nat),i<=s.size->s.size+1 - i<=g->El 280 s i 0 2 J (Xg s g i)
 |0,i,b,c=>by omega
 |g+1,i,b,c=>aiq a b λj e d=>abw a g j d (by omega)
end
theorem anE{s:z}:∃j p,j<3/\G 284 [.str s]=Z (j,jy p++[.bool (kT s)])/\∀q,C5 s=Z q->p=q/\yZ 64 p=I:=by unfold kT C5;by_cases h:30<s.size;{refine⟨0,⟨0,eT,[]⟩,by decide,ch t284 rfl ?_,λq a=>by rw[if_pos h]at a;cases a⟩;rw[if_pos h];simp only[go_sem,t284,Ac,h,bk,bw];rfl};rw[if_neg h];obtain⟨j,p,k,b,f,c,i,n,m,e⟩:=abw (s:=s) (by omega) (s.size+1) 0 (by omega) (by omega);simp only[bk,ax,av,n0]at c;cases g:Xg s (s.size+1) 0 with|none=>{rw[g]at e;subst e;refine⟨0,⟨0,eT,[]⟩,by decide,ch t284 rfl ?_,λq a=>by cases a⟩;match j,f with|0,_=>{simp only[go_sem,t284,Ac,h,c,bk,bw];rfl}|1,_=>simp only[go_sem,t284,Ac,h,c,bk,bw];rfl}|some q=>rw[g]at e;obtain⟨rfl,rfl,l⟩:=e;dsimp only;by_cases d:k=s.size;{rw[if_pos d];refine⟨j+1,p,by omega,ch t284 rfl ?_,λq a=>by cases a;exact⟨rfl,i⟩⟩;match j,f with|0,_=>{simp only[go_sem,t284,Ac,h,c,d,bk,bT]}|1,_=>simp only[go_sem,t284,Ac,h,c,d,bk,bT]};rw[if_neg d];refine⟨0,⟨0,eT,[]⟩,by decide,ch t284 rfl ?_,λq a=>by cases a⟩;match j,f with|0,_=>{simp only[go_sem,t284,Ac,TR,h,c,d,bk,bw];rfl}|1,_=>simp only[go_sem,t284,Ac,TR,h,c,d,bk,bw];rfl
theorem ait(s:z):G 285 [.str s]=Z (0,[.bool (kT s)]):=by obtain⟨j,p,b,a,_⟩:=anE (s:=s);simp only[bk,ax,av]at a;refine ch t285 rfl ?_;match j,b with|0,_=>{simp only[go_sem,t285,a]}|1,_=>{simp only[go_sem,t285,a]}|2,_=>simp only[go_sem,t285,a]
theorem aiv{t s:z}(g:s.size<=mg):G 310 [.str t,.str s]=Z (0,[.bool (yV t s)]):=by obtain⟨j,p,f,a,h⟩:=anE (s:=t);simp only[bk,ax,av]at a;have X5:∀b,aS .pl [.bool b]=Z (.bool J):=λb=>rfl;refine ch t310 rfl ?_;unfold yV;cases d:C5 t with|none=>{(have e:kT t=J:=by rw[kT,d];rfl);rw[e]at a;match j,f with|0,_=>{simp only[go_sem,t310,a]}|1,_=>{simp only[go_sem,t310,a]}|2,_=>simp only[go_sem,t310,a]}|some q=>(have e:kT t=I:=by rw[kT,d];rfl);obtain⟨rfl,i⟩:=h q d;have c:=aq4 g i;simp only[bk,ax,av]at c;rw[e]at a;match j,f with|0,_=>{simp only[go_sem,t310,a,c,X5]}|1,_=>{simp only[go_sem,t310,a,c]}|2,_=>simp only[go_sem,t310,a,c,X5]
def gv(c:Bool)(r:u D):u D:=if c=I then r else Z (.bool J)
def gw(c:Bool)(x:D):D:=if c=I then x else .bool J
@[congr] theorem ak4 {c a:Bool} {r b:u D} (h:c=a) (d:a=I->r=b):gv c r=gv a b:=by subst h;unfold gv;split;{exact d (by assumption)};rfl
theorem kZ(r:u D):gv J r=Z (.bool J):=(rfl)
def eS(c:Bool)(x:D):gv c (Z x)=Z (gw c x):=by cases c<;>rfl
theorem iT(x:D):gw I x=x:=(rfl)
theorem mC(x:D):gw J x=.bool J:=(rfl)
def eU(c b:Bool):gw c (.bool b)=.bool (c && b):=by cases c<;>rfl
def eV(G:Gf)(a:M D)(c:Bool)(o:PO)(es:M SE)(t:ST):ogT (Z c) G o es t a=opT (gv c (poT o (jk a es))) G t a:=by cases c<;>rfl
def ak0(G:Gf)(d:M D)(c:Bool)(a b:ST):XV (Z c) G a b d=if c=I then XV (Z I) G a b d else XV (Z J) G a b d:=by cases c<;>rfl
def ahZ(k:IntKind)(a b:Int):aS (.bin .eql) [.int k a,.int k b]=Z (.bool (Z' (a=b))):=by rw[AI];rfl
def ah4(k:IntKind)(a b:Int):aS (.bin .neq) [.int k a,.int k b]=Z (.bool (!Z' (a=b))):=by rw[AI];rfl
def ah3(k:IntKind)(a b:Int):aS (.bin .lss) [.int k a,.int k b]=Z (.bool (Z' (a<b))):=by rw[AI];rfl
def ah2(k:IntKind)(a b:Int):aS (.bin .leq) [.int k a,.int k b]=Z (.bool (Z' (a<=b))):=by rw[AI];rfl
def ah1(k:IntKind)(a b:Int):aS (.bin .gtr) [.int k a,.int k b]=Z (.bool (Z' (b<a))):=by rw[AI];rfl
def ah0(k:IntKind)(a b:Int):aS (.bin .geq) [.int k a,.int k b]=Z (.bool (Z' (b<=a))):=by rw[AI];rfl
def ahX(k:IntKind)(a b:Int):aS (.bin .add) [.int k a,.int k b]=Z (.int k (k.wrap (a+b))):=by rw[AI];rfl
def ah7(k:IntKind)(a b:Int):aS (.bin .sub) [.int k a,.int k b]=Z (.int k (k.wrap (a - b))):=by rw[AI];rfl
def ah6(a b:z):aS (.bin .eql) [.str a,.str b]=Z (.bool (Z' (a=b))):=by rw[abj];rfl
def ah5(a b:z):aS (.bin .neq) [.str a,.str b]=Z (.bool (!Z' (a=b))):=by rw[abj];rfl
theorem ahY(a b:Bool):aS (.XU .neq) [.bool a,.bool b]=Z (.bool (!Z' (a=b))):=(rfl)
attribute [go_sem 2000] ahZ ah4 ah3 ah2 ah1 ah0 ahX ah7 ah6 ah5 ahY
def bq1(a b:Bool):(a ||(!a && b))=(a ||b):=by cases a<;>rfl
def bq2(a b:Bool):(!a ||(a && b))=(!a ||b):=by cases a<;>rfl
theorem aqt(k:IntKind)(n:Int):aS .pl [.int k n]=Z (.bool J):=(rfl)
theorem aqs(b:Bool):aS .pl [.bool b]=Z (.bool J):=(rfl)
attribute [go_sem] aqt aqs
theorem X5(n:Int):aS .pl [E n]=Z (.bool J):=(rfl)
def agz{l:M aE}{i:Nat}{y:aE}(h:nth l i=Z y):aS (.el 3) [aB l,E (i:Int)]=Z (.list 0 J [bl y]):=by rw[kB,aY,h];rfl
def ahn{l:M aE}{y:aE}(a:bQ bl l<=mg)(h:y∈l):y.ai.length<=mg/\bQ bl y.ai<=mg:=by have a1:=cy bl h;rw[eF]at a1;refine⟨?_,by omega⟩;simp only[bQ]at a1 a;omega
end Go.Proofs.YtgnmdaifiodnnaaGreatDoor
