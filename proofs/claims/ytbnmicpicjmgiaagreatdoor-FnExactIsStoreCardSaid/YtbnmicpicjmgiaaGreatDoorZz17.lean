/- Part of the proof. Condition: none. -/
import Derived.Test.YtbnmicpicjmgiaaGreatDoorZz16
set_option linter.all false
open Bool renaming and_eq_true->aw,false_eq_true->aQ,not_false->db,false_ne_true->dh,not_eq_true'->dm,not_true->dr,or_false->dB,true_and->dC,false_and->dK,eq_false_iff->dQ,eq_iff_iff->dS,or_true->dX,and_false->eJ,or_eq_true->eY,and_true->fT,false_or->fU,or_assoc->iP,and_assoc->iW,and_self->ng,true_or->qS,true->I,false->J
open ByteArray renaming ext->sE
open Int renaming toNat_natCast->cn,lt_irrefl->ee,natCast_nonneg->lk,reduceEq->rF,zero_add->rG
open List renaming length_map->aj,nil_append->au,cons_append->av,length_append->ay,append_nil->aG,length_nil->aJ,length_singleton->aL,length_cons->aN,mem_cons->aU,replicate->aW,mem_append->aX,append_assoc->aZ,length_take->bk,take_length->bl,getElem?_eq_some_iff->bn,take_zero->br,map_cons->bz,sizeOf_lt_of_mem->bB,all_eq_true->bF,drop_zero->bQ,take_append_drop->cp,mem_singleton->ct,eq_nil_of_length_eq_zero->cx,take_succ_cons->cy,range->cC,nodup_append->cD,map_append->cE,map_nil->cO,drop_of_length_le->cS,nodup_cons->cW,length_eq_one_iff->dd,mem_map->dv,mem_map_of_mem->dH,isEmpty_iff->dR,mem_cons_of_mem->eb,isEmpty_nil->ei,mem_cons_self->eo,drop_length->eI,length_filter_le->eR,map_id'->eX,length_eq_zero_iff->eZ,flatMap_cons->fe,any_eq_true->fC,getElem?_take->fQ,ext_getElem?->gu,any_cons->g_,replicate_succ->ir,mem_filter->iy,isEmpty_cons->i_,getElem?_eq_getElem->kF,length_pos_iff->kJ,filter_append->k9,getElem?_set->lO,filter_cons->oZ,map_const'->qx,map_congr_left->qC,getElem_append_left->uH,filter_eq_nil_iff->wD,take_of_length_le->wE,foldl_nil->zq,getElem?_append->zr,mem_range->zt
open List.cons renaming sizeOf_spec->bJ,injEq->eB
open Nat renaming lt_irrefl->aE,le_refl->aH,le_trans->aS,lt_succ_self->aT,zero_le->bI,zero_add->bN,reduceEqDiff->cj,reduceLeDiff->cM,add_zero->dY,reduceAdd->eg,reduceBNe->ez,add_assoc->ij,mul_one->ml,sub_zero->rH,reduceLT->xq,sub_self->xu
open Option renaming map_eq_some_iff->aC,isSome_none->bp,isSome_some->bR,isSome_iff_exists->cu,getD_some->cL,map_some->cV,some->Z,none->O
open Option.some renaming injEq->bq
open SizeOf renaming sizeOf->aF
open UInt8 renaming ofNat->dT
open Decidable renaming decide->Z'
namespace Go.Proofs.YtbnmicpicjmgiaaGreatDoor
set_option maxRecDepth 100000
set_option maxHeartbeats 4000000
set_option maxHeartbeats 8000000
def oH(n:ao):Bool:=n.ch.isEmpty && (n.unique.isEmpty && (Z' (n.default.size=0) && (!n.given && (!n.fixed && (Z' (n.min=0) && Z' (n.max=0))))))
def yz(l:M ao)(o:u Nat)(p:ao->Bool):Bool:=match o with
 |some j=>(match nth l j with
  |some x=>p x
  |none=>J)
 |none=>J
def V3(x:ao):Bool:=x.when.isEmpty && (!x.given && !Z' (x.type.ax=6))
def Im(l:M ao)(k:z):Bool:=yz l (ew l k) λx=>Z' (x.ax=3) && V3 x
def HF(l:M ao)(k:z):Bool:=yz l (ew l k) λx=>Z' (x.ax=3)
def GG(n:ao):Bool:=n.ch.all (Im n.ai) && (n.unique.all (HF n.ai) && (zT n.type && (!n.ch.isEmpty && (v8 n.ch && (v8 n.unique && (lM n && (!n.given && (!n.dy && (!n.df && (!n.fixed && Z' (n.default.size=0)))))))))))
def xW(a:z->Bool)(n:ao):Bool:=n.ch.isEmpty && (n.unique.isEmpty && (Z' (n.min=0) && (Z' (n.max=0) && (!n.df && (n.ai.isEmpty && isType a n.type)))))
def C9(a:z->Bool)(n:ao):Bool:=n.ch.isEmpty && (n.unique.isEmpty && (Z' (n.default.size=0) && (!n.given && (!n.fixed && (!n.dy && (!n.df && (n.ai.isEmpty && (lM n && isType a n.type))))))))
def Jj(n:ao):Bool:=isName n.aq && (H_ n.when 1 && H_ n.gZ 3)
section
variable (ip:z->Bool) (mt:z->z->Bool)
def iR(n:ao)(free:Bool):Bool:=
 if n.ax=1 then oH n && (!n.dy && zT n.type)
 else if n.ax=2 then GG n
 else if n.ax=3 then (if n.given=I then xW ip n && (free && (!n.dy && (n.when.isEmpty && isVal ip mt n.type n.default))) else xW ip n && Z' (n.default.size=0))
 else if n.ax=4 then C9 ip n
 else if n.ax=5 then oH n && (!n.df && (n.gZ.isEmpty && zT n.type))
 else if n.ax=6 then oH n && (!n.df && (!n.dy && (n.gZ.isEmpty && zT n.type)))
 else J
def vY(n:ao)(free:Bool):Bool:=Jj n && iR ip mt n free
def tJ(n:ao)(free:Bool):Bool:=free && (n.when.isEmpty && !Z' (n.ax=6))
def tZ:Nat->M ao->Int->Bool->Nat->Bool
 |0,_,_,_,_=>J
 |m+1,l,k,free,deep=>
  allI (λi n=>Z' (ew l n.aq=Z i) && (Z' (Z' (k=5)=Z' (n.ax=6)) && (vY ip mt n free && tZ m n.ai n.ax (tJ n free) (deep+1)))) 0 l &&
   (allI (λi n=>Z' (ew (dk l) n.aq=Z i)) 0 (dk l) && (Z' (deep<=8) ||l.isEmpty))
def xD(l:M ao)(k:z):Bool:=yz l (kV l k) V3
def pP(n:ao):Bool:=
 (!Z' (n.ax=3) && (!Z' (n.ax=4) && !zT n.type)) ||
 ((!Z' (n.ax=2) && !(n.ch.isEmpty && n.unique.isEmpty)) ||
 ((!Z' (n.ax=3) && (!Z' (n.default.size=0) ||(n.given ||n.fixed))) ||
 ((!Z' (n.ax=3) && (!Z' (n.ax=5) && n.dy)) ||
 ((!Z' (n.ax=1) && n.df) ||
 ((!Z' (n.ax=2) && (!Z' (n.ax=4) && (!Z' (n.min=0) ||!Z' (n.max=0)))) ||
 ((!j7 n.ax && !n.gZ.isEmpty) ||
 ((Z' (n.ax=3) ||decide (n.ax=4)) && !n.ai.isEmpty)))))))
def nA(l:M z):Bool:=Z' (l.length<=3) && (tL l && l.all isName)
def lC(n:ao):Bool:=
 if n.ax=1 then I
 else if n.ax=2 then !n.ch.isEmpty && (nA n.ch && (nA n.unique && lM n))
 else if n.ax=3 then isType ip n.type && (!(n.given && (n.dy ||!n.when.isEmpty)) && (if n.given=I then isVal ip mt n.type n.default else Z' (n.default.size=0)))
 else if n.ax=4 then isType ip n.type && lM n
 else if n.ax=5 then I
 else if n.ax=6 then I
 else if n.ax=7 then n.when.isEmpty && n.ai.isEmpty
 else J
def Ay(n:ao):Bool:=Jj n && (!pP n && lC ip mt n)
def xE:Nat->M ao->Int->Bool->Bool
 |0,_,_,_=>J
 |m+1,l,k,bound=>
  (tL (l.map ao.aq) && (pw k ||tL ((dk l).map ao.aq))) &&
   l.all λn=>Ay ip mt n && (!Z' (n.ax=7) && (Z' (Z' (n.ax=6)=Z' (k=5)) && (!(n.given && bound) && (n.ch.all (xD n.ai) && (n.unique.all (λa=>(kV n.ai a).isSome) && xE m n.ai n.ax (bound ||(!n.when.isEmpty ||decide (n.ax=6))))))))
end
theorem mm{b:Type}{p:Nat->b->Bool}:∀{l:M b} {i:Nat},allI p i l=I↔∀j x,nth l j=Z x->p (i+j) x=I
 |[],i=>⟨λ_ j x h=>by simp[nth]at h,λ_=>rfl⟩
 |y::l,i=>by simp only[allI,aw,mm (l:=l)];constructor;{rintro⟨d,c⟩ j x a;cases j with|zero=>{cases a;exact d}|succ j=>have:=c j x a;rwa [Nat.add_right_comm,ij]at this};intro h;refine⟨h 0 y rfl,λj x a=>?_⟩;have:=h (j+1) x a;rwa [Nat.add_right_comm,ij]
theorem qj{a:Type}:∀{l:M a} {x:a},x∈l->∃j,nth l j=Z x
 |y::l,x,h=>by rcases aU.1 h with rfl|h;{exact⟨0,rfl⟩};obtain⟨j,b⟩:=qj h;exact⟨j+1,b⟩
theorem wN{a:Type}{p:a->Bool}:∀{l:M a} {k j:Nat} {e:a},nth l j=Z e->p e=I->(∀i x,i<j->nth l i=Z x->p x=J)->uZ p l k=Z (k+j)
 |y::l,k,0,e,h,b,_=>by cases h;simp only[uZ,b,if_true,dY]
 |y::l,k,j+1,e,h,b,c=>by have f:=c 0 y (by omega) rfl;simp only[uZ,f,aQ,if_false];rw[wN (l:=l) (k:=k+1) h b λi x g d=>c (i+1) x (by omega) d];congr 1;omega
theorem E8{a:Type}{p:a->Bool}:∀{l:M a} {k j:Nat},uZ p l k=Z j->∀i x,k+i<j->nth l i=Z x->p x=J
 |[],k,j,h=>by simp[uZ]at h
 |y::l,k,j,h=>by intro i x d b;simp only[uZ]at h;split at h;{cases h;omega};rename_i c;cases i with|zero=>{cases b;exact dQ.2 c}|succ i=>exact E8 h i x (by omega) b
theorem Ct{g β:Type}(f:g->β):∀{l:M g},(l.map f).Nodup↔∀i j x y,i<j->nth l i=Z x->nth l j=Z y->f x≠f y
 |[]=>by simp[nth]
 |a::l=>by simp only[bz,cW,Ct f (l:=l)];constructor;{rintro⟨q,p⟩ i j x y d c b;obtain⟨j,rfl⟩:∃m,j=m+1:=⟨j - 1,by omega⟩;cases i with|zero=>{cases c;exact λe=>q (dv.2 ⟨y,bj (l:=l) b,e.symm⟩)}|succ i=>exact p i j x y (by omega) c b};intro h;refine⟨λk=>?_,λi j x y d c b=>h (i+1) (j+1) x y (by omega) c b⟩;obtain⟨y,b,o⟩:=dv.1 k;obtain⟨j,n⟩:=qj b;exact h 0 (j+1) a y (by omega) rfl n o.symm
def mM(l:M ao):allI (λi n=>Z' (ew l n.aq=Z i)) 0 l=I↔(l.map ao.aq).Nodup:=by rw[mm,Ct];simp only[bN,decide_eq_true_eq];constructor;{intro h i j x y c a b f;have g:=h j y b;have:=E8 g i x (by omega) a;simp[f]at this};intro h j x a;(have:=wN (p:=λe:ao=>Z' (e.aq=x.aq)) (k:=0) a (by simp) λi y d b=>by simpa using h i j y x d b a);rw[bN]at this;exact this
theorem T7{l:M ao}(f:(l.map ao.aq).Nodup)(k:z)(p:ao->Bool):yz l (ew l k) (λx=>Z' (x.ax=3) && p x)=yz l (kV l k) p:=by cases h:kV l k with|some j=>{obtain⟨e,b,a⟩:=dw h;simp only[aw,decide_eq_true_eq]at a;have:ew l k=Z j:=by{have:=wN (p:=λe:ao=>Z' (e.aq=k)) (k:=0) b (by simp[a.1]) λi y g d=>by{have:=(Ct ao.aq).1 f i j y e g d b;rw[a.1]at this;simpa using this};rw[bN]at this;exact this};simp only[this,yz,b,a.2,decide_true,dC]}|none=>cases m:ew l k with|none=>{rfl}|some j=>obtain⟨e,b,a⟩:=dw m;by_cases c:e.ax=3;{have:(kV l k).isSome=I:=by{unfold kV;rw[pW,fC];exact⟨e,bj b,by simpa [c] using a⟩};rw[h]at this;cases this};simp only[yz,b,c,decide_false,dK]
theorem ael{l:M ao}(a:(l.map ao.aq).Nodup)(k:z):HF l k=(kV l k).isSome:=by have:=T7 a k λ_=>I;simp only[fT]at this;rw[HF,this];cases h:kV l k with|none=>{rfl}|some j=>obtain⟨e,b,_⟩:=dw h;simp only[yz,b,bR]
def aek{l:M ao}(a:(l.map ao.aq).Nodup)(k:z):Im l k=xD l k:=T7 a k V3
def GD{l:M ao}(h:∀x∈l,isName x.aq=I){k:z}(b:(kV l k).isSome=I):isName k=I:=by obtain⟨j,c⟩:=cu.1 b;obtain⟨e,d,a⟩:=dw c;simp only[aw,decide_eq_true_eq]at a;rw[<- a.1];exact h e (bj d)
def V2{l:M ao}{k:z}(h:xD l k=I):(kV l k).isSome=I:=by unfold xD yz at h;split at h;{rename_i j a;rw[a];rfl};cases h
def OZ{l:M z}(h:∀k∈l,isName k=I):nA l=v8 l:=by have:l.all isName=I:=bF.2 h;rw[nA,v8,this,fT,Bool.and_comm]
section
variable {ip:z->Bool} {mt:z->z->Bool}
theorem adz{n:ao}(h:n.ax=2):(!pP n && lC ip mt n)=(zT n.type && (!n.ch.isEmpty && (nA n.ch && (nA n.unique && (lM n && (!n.given && (!n.dy && (!n.df && (!n.fixed && Z' (n.default.size=0)))))))))):=by simp only[pP,lC,h,j7];cases zT n.type<;>cases n.ch.isEmpty<;>cases nA n.ch<;>cases nA n.unique<;>cases lM n<;>cases n.given<;>cases n.dy<;>cases n.df<;>cases n.fixed<;>cases Z' (n.default.size=0)<;>rfl
theorem TS{n:ao}{free:Bool}(h:¬(1<=n.ax/\n.ax<=6)):iR ip mt n free=J:=by simp only[iR];rw[if_neg (by omega),if_neg (by omega),if_neg (by omega),if_neg (by omega),if_neg (by omega),if_neg (by omega)]
theorem aa3{n:ao}(h:¬(1<=n.ax/\n.ax<=6))(a:n.ax≠7):lC ip mt n=J:=by simp only[lC];rw[if_neg (by omega),if_neg (by omega),if_neg (by omega),if_neg (by omega),if_neg (by omega),if_neg (by omega),if_neg a]
theorem Ug{n:ao}{bound:Bool}(C:(n.ai.map ao.aq).Nodup)(D:∀x∈n.ai,isName x.aq=I) :
  (vY ip mt n (!bound)=I)↔Ay ip mt n=I/\n.ax≠7/\(n.given && bound)=J/\n.ch.all (xD n.ai)=I/\n.unique.all (λc=>(kV n.ai c).isSome)=I:=by unfold vY Ay;cases Jj n with|false=>{simp}|true=>simp only[dC];by_cases i:n.ax=2;{(have R:n.ch.all (Im n.ai)=n.ch.all (xD n.ai):=by congr 1;funext k;exact aek C k);(have Q:n.unique.all (HF n.ai)=n.unique.all (λc=>(kV n.ai c).isSome):=by congr 1;funext k;exact ael C k);rw[adz i];(have P:iR ip mt n (!bound)=GG n:=by simp only[iR,i];rfl);rw[P,GG,R,Q];cases L:n.ch.all (xD n.ai) with|false=>{simp}|true=>cases K:n.unique.all (λc=>(kV n.ai c).isSome) with|false=>{simp}|true=>have G:=OZ (l:=n.ch) λk y=>GD D (V2 (bF.1 L k y));have F:=OZ (l:=n.unique) λk y=>GD D (bF.1 K k y);rw[G,F,i];cases n.given<;>simp};by_cases r:1<=n.ax/\n.ax<=6;{have hd:j7 n.ax=Z' (n.ax<=4):=by{by_cases h:n.ax<=4;{rw[decide_eq_true h];exact (ej _ _ _).2 ⟨r.1,h⟩};rw[decide_eq_false h];exact dQ.2 λN=>h ((ej _ _ _).1 N).2};cases B:n.ch with|cons a l=>{(have:pP n=I:=by simp[pP,i,B]);(have j:iR ip mt n (!bound)=J:=by simp[iR,i,oH,xW,C9,B]);simp[this,j]}|nil=>cases A:n.unique with|cons a l=>{(have:pP n=I:=by simp[pP,i,A]);(have j:iR ip mt n (!bound)=J:=by simp[iR,i,oH,xW,C9,A]);simp[this,j]}|nil=>(have s:n.ax≠7:=by omega);have j:iR ip mt n (!bound)=(!pP n && (lC ip mt n && !(n.given && bound))):=by{simp only[pP,iR,lC,oH,xW,C9,B,A,hd,ei,dC,fT];obtain⟨T,S⟩:=r;(have H:n.ax=1\/n.ax=3\/n.ax=4\/n.ax=5\/n.ax=6:=by omega);rcases H with h|h|h|h|h<;>simp only[h]<;>generalize zT n.type=b<;>generalize isType ip n.type=t<;>generalize isVal ip mt n.type n.default=v<;>generalize n.when.isEmpty=w<;>generalize n.gZ.isEmpty=c<;>generalize n.ai.isEmpty=q<;>generalize lM n=o<;>generalize Z' (n.default.size=0)=d<;>generalize Z' (n.min=0)=m<;>generalize Z' (n.max=0)=x<;>generalize n.given=g<;>generalize n.fixed=f<;>generalize n.dy=e<;>generalize n.df=p;{cases b<;>cases d<;>cases m<;>cases x<;>cases g<;>cases f<;>cases e<;>cases bound<;>rfl};{cases t<;>cases v<;>cases w<;>cases q<;>cases d<;>cases m<;>cases x<;>cases g<;>cases e<;>cases p<;>cases bound<;>rfl};{cases t<;>cases o<;>cases q<;>cases d<;>cases g<;>cases f<;>cases e<;>cases p<;>cases bound<;>rfl};{cases b<;>cases d<;>cases m<;>cases x<;>cases g<;>cases f<;>cases c<;>cases p<;>cases bound<;>rfl};cases b<;>cases d<;>cases m<;>cases x<;>cases g<;>cases f<;>cases e<;>cases c<;>cases p<;>cases bound<;>rfl};rw[j];cases n.given<;>simp[s,and_assoc]};rw[TS r];by_cases s:n.ax=7;{simp[s]};rw[aa3 r s];simp
theorem FD{m:Nat}{l:M ao}{k:Int}{b:Bool}(h:xE ip mt m l k b=I):(l.map ao.aq).Nodup/\∀x∈l,isName x.aq=I:=by cases m with|zero=>{cases h}|succ m=>simp only[xE,aw,bF]at h;refine⟨(sK _).1 h.1.1,λx a=>?_⟩;have:=(h.2 x a).1;simp only[Ay,Jj,aw]at this;exact this.1.1
theorem D0:∀(l:M ao) (N:Nat),tN l<=N↔∀x∈l,1+tN x.ai<=N
 |[],N=>by simp[tN]
 |e::l,N=>by rw[tN,Nat.max_le,D0 l N];simp
theorem ZF{l:M ao}:tN l=0↔l=[]:=by cases l with|nil=>{simp[tN]}|cons e l=>rw[tN];simp
theorem IN(n:ao)(bound:Bool):tJ n (!bound)=!(bound ||(!n.when.isEmpty ||decide (n.ax=6))):=by unfold tJ;cases bound<;>cases n.when.isEmpty<;>cases Z' (n.ax=6)<;>rfl
theorem ahc{l:M ao}{n:ao}(a:n∈l)(b:pw n.ax=I):(dk n.ai).Sublist (dk l):=by induction l with|nil=>{cases a}|cons e l c=>rw[jT];rcases aU.1 a with rfl|h;{have:sL n=dk n.ai:=by{unfold sL;rw[if_neg,if_pos b];intro h;have:=(agx h).1;rw[b]at this;cases this};rw[this];exact List.sublist_append_left _ _};exact (c h).trans (List.sublist_append_right _ _)
theorem ah4:∀(m:Nat) (l:M ao) (k:Int) (d:Bool) (deep:Nat),aF l<m->1<=deep->
  (tZ ip mt m l k (!d) deep=I↔xE ip mt m l k d=I/\((dk l).map ao.aq).Nodup/\(tN l=0\/deep+tN l<=9)):=by intro m;induction m with|zero=>{intro l k d deep h;omega}|succ m G=>intro l k d deep L hd;have q:∀n∈l,∀b,(tZ ip mt m n.ai n.ax (!b) (deep+1)=I↔xE ip mt m n.ai n.ax b=I/\((dk n.ai).map ao.aq).Nodup/\(tN n.ai=0\/deep+1+tN n.ai<=9)):=λn f b=> G n.ai n.ax b (deep+1) (by have:=bB f;have:=ao.fv n;omega) (by omega);constructor;{intro h;simp only[tZ,aw]at h;obtain⟨i,H,g⟩:=h;rw[mm]at i;simp only[bN,aw,decide_eq_true_eq]at i;have v:(l.map ao.aq).Nodup:=(mM l).1 (by rw[mm];intro j x p;rw[bN,decide_eq_true_eq];exact (i j x p).1);have r:=(mM (dk l)).1 H;have p:∀n∈l,(Z' (k=5)=Z' (n.ax=6))/\(Ay ip mt n=I/\n.ax≠7/\(n.given && d)=J/\n.ch.all (xD n.ai)=I/\n.unique.all (λc=>(kV n.ai c).isSome)=I)/\xE ip mt m n.ai n.ax (d ||(!n.when.isEmpty ||decide (n.ax=6)))=I/\(tN n.ai=0\/deep+1+tN n.ai<=9):=by{intro n f;obtain⟨j,s⟩:=qj f;obtain⟨_,a2,a3,a4⟩:=i j n s;rw[IN]at a4;obtain⟨D,_,K⟩:=(q n f _).1 a4;obtain⟨c1,w⟩:=FD D;exact⟨a2,(Ug c1 w).1 a3,D,K⟩};refine⟨?_,r,?_⟩;{simp only[xE,aw,bF];refine⟨⟨(sK _).2 v,by rw[eY];exact .inr ((sK _).2 r)⟩,λn f=>?_⟩;obtain⟨a1,⟨a2,a3,a4,a5,y⟩,o,_⟩:=p n f;exact⟨a2,by simpa using a3,by rw[decide_eq_true_eq];exact a1.symm,by rw[a4];rfl,bF.1 a5,bF.1 y,o⟩};by_cases A:l=[];{exact .inl (ZF.2 A)};have Q:deep<=8:=by{cases l with|nil=>{exact absurd rfl A}|cons e l=>simpa using g};have:=(D0 l (9 - deep)).2 λn f=>by{obtain⟨_,_,_,a⟩:=p n f;omega};omega};rintro⟨i,r,g⟩;simp only[xE,aw,bF]at i;obtain⟨⟨v,P⟩,p⟩:=i;have t:=(sK _).1 v;have F:∀n∈l,deep+(1+tN n.ai)<=9:=by{intro n f;rcases g with g|g;{rw[ZF.1 g]at f;cases f};have:=(D0 l (9 - deep)).1 (by omega) n f;omega};simp only[tZ,aw];refine⟨?_,(mM (dk l)).2 r,?_⟩;{rw[mm];intro j n s;have f:=bj s;obtain⟨a1,a2,a3,a4,a5,y,o⟩:=p n f;obtain⟨c1,w⟩:=FD o;have B:=(mM l).2 t;rw[mm]at B;simp only[aw];refine⟨B j n s,by rw[decide_eq_true_eq]at a3 ⊢;exact a3.symm,(Ug c1 w).2 ⟨a1,by simpa using a2,by cases N:n.given<;>cases d<;>simp_all,bF.2 a5,bF.2 y⟩,?_⟩;rw[IN];refine (q n f _).2 ⟨o,?_,.inr (by have:=F n f;omega)⟩;cases C:pw n.ax with|true=>{exact List.Nodup.sublist ((ahc f C).map _) r}|false=>cases m with|zero=>{cases o}|succ m=>simp only[xE,aw,C,fU]at o;exact (sK _).1 o.1.2};rcases g with g|g;{rw[ZF.1 g];simp};cases l with|nil=>{simp}|cons e l=>have:=F e eo;(have:deep<=8:=by omega);simp[this]
noncomputable def sV(ip:z->Bool)(mt:z->z->Bool)(l:M ao):Bool:=Z' (bK l<=60) && tZ ip mt (aF l+1) l 0 I 1
theorem ad2(l:M ao):sV ip mt l=(Z' (bK l<=60) && (Z' (tN l<=8) && xE ip mt (aF l+1) l 0 J)):=by have h:=ah4 (ip:=ip) (mt:=mt) (aF l+1) l 0 J 1 (aT _) (aH _);rw[db]at h;unfold sV;congr 1;rw[dS,h,aw,decide_eq_true_eq];constructor;{rintro⟨a,_,c⟩;exact⟨by omega,a⟩};rintro⟨a,b⟩;refine⟨b,?_,by omega⟩;simp only[xE,aw,pw,eY,decide_eq_true_eq]at b;rcases b.1.2 with h|h;{rcases h with h|h<;>omega};exact (sK _).1 h
end
def acA{s:z}(h:s.size=0):s=l8:=by obtain⟨d⟩:=s;have a:d.size=0:=h;rw[Array.eq_empty_of_size_eq_zero a];rfl
section
variable {ip:z->Bool} {mt:z->z->Bool}
theorem sY{N:Nat}{l:M ao}{k:Int}{f:Bool}{deep:Nat}(h:tZ ip mt N l k f deep=I) :
  (∀x∈l,(Z' (k=5)=Z' (x.ax=6))/\vY ip mt x f=I/\∃a,tZ ip mt a x.ai x.ax (tJ x f) (deep+1)=I)/\((dk l).map ao.aq).Nodup:=by cases N with|zero=>{cases h}|succ a=>unfold tZ at h;simp only[aw]at h;obtain⟨e,d,_⟩:=h;refine⟨λx b=>?_,(mM _).1 d⟩;obtain⟨j,c⟩:=qj b;have:=mm.1 e j x c;simp only[aw,decide_eq_true_eq]at this;exact⟨this.2.1,this.2.2.1,a,this.2.2.2⟩
theorem acy{l:M ao}(a:(l.map ao.aq).Nodup){j:Nat}{x:ao}(h:nth l j=Z x):ew l x.aq=Z j:=by have:=mm.1 ((mM l).2 a) j x h;simpa using this
theorem EJ(a:Nat):∀{N:Nat} {s:M ao} {k:Int} {f:Bool} {deep:Nat},aF s<a->tZ ip mt N s k f deep=I->∀n∈dk s,∃t m r,vY ip mt n m=I/\tZ ip mt t n.ai n.ax (tJ n m) r=I:=by induction a with|zero=>{intro N s k f deep h;omega}|succ a o=>intro N s k f deep v h;have p:=(sY h).1;have d:∀l:M ao,(∀x∈l,x∈s)->∀n∈dk l,∃x∈s,n∈sL x:=by{intro l;induction l with|nil=>{intro _ n b;rw[mJ]at b;cases b}|cons e l g=>intro i n b;rw[jT,aX]at b;rcases b with b|b;{exact⟨e,i e eo,b⟩};exact g (λx c=>i x (eb _ c)) n b};intro n b;obtain⟨x,c,b⟩:=d s (λx c=>c) n b;obtain⟨w,q,K,j⟩:=p x c;unfold sL at b;split at b;{rw[ct]at b;subst b;exact⟨K,f,_,q,j⟩};split at b;{refine o ?_ j n b;have a1:=ao.fv x;have a2:=bB c;omega};cases b
end
def fV(p:Nat->Bool):Nat->Nat->Nat
 |i,0=>i
 |i,m+1=>if p i=I then fV p (i+1) m else i
theorem jJ(p:Nat->Bool):∀(m i:Nat),i<=fV p i m/\fV p i m<=i+m
 |0,i=>by simp[fV]
 |m+1,i=>by unfold fV;split;{have:=jJ p m (i+1);omega};omega
def vn(p:Nat->Bool):Nat->Nat
 |0=>0
 |i+1=>if p i=I then vn p i else i+1
theorem DQ(p:Nat->Bool):∀i,vn p i<=i
 |0=>aH _
 |i+1=>by unfold vn;split;{have:=DQ p i;omega};omega
theorem SL(p:Nat->Bool){k:Nat}(b:p k=J):∀i,k<i->k<vn p i
 |0,h=>by omega
 |i+1,h=>by unfold vn;split;{rename_i a;by_cases e:i=k;{rw[e,b]at a;cases a};exact SL p b i (by omega)};omega
def Ir(s:z)(i:Nat):Nat:=vn (λj=>Z' (bY s j=45)) (fV (λj=>gj (bY s j)) i (s.size - i))
def Cr{s:z}{i:Nat}(e:i<s.size)(a:eA 97 122 (bY s i)=I):i<Ir s i/\Ir s i<=s.size:=by have g:=jJ (λj=>gj (bY s j)) (s.size - i) i;have d:i<fV (λj=>gj (bY s j)) i (s.size - i):=by{obtain⟨m,b⟩:∃m,s.size - i=m+1:=⟨s.size - i - 1,by omega⟩;rw[b];unfold fV;(have:gj (bY s i)=I:=by simp[gj,a]);rw[if_pos this];have:=(jJ (λj=>gj (bY s j)) m (i+1)).1;omega};have c:Z' (bY s i=45)=J:=by{have:=(ej _ _ _).1 a;simp;omega};have f:=DQ (λj=>Z' (bY s j=45)) (fV (λj=>gj (bY s j)) i (s.size - i));exact⟨SL (λj=>Z' (bY s j=45)) c _ d,by unfold Ir;omega⟩
def qE(s:z):Nat->Nat->u Nat
 |0,_=>O
 |m+1,i=>if i<s.size then (if bY s i=34 then Z (i+1) else if bY s i=92 then (if i+1=s.size\/(bY s (i+1)≠34/\bY s (i+1)≠92) then O else qE s m (i+2)) else qE s m (i+1)) else O
theorem x_{s:z}:∀{m i j:Nat},qE s m i=Z j->i<j/\j<=s.size
 |0,_,_,h=>by cases h
 |m+1,i,j,h=>by unfold qE at h;split at h;{split at h;{cases h;omega};split at h;{split at h;{cases h};have:=x_ h;omega};have:=x_ h;omega};cases h
def Dl(s:z)(e:Nat):Nat->Nat->M Int
 |0,_=>[]
 |m+1,i=>if i<e then (if bY s i=92 then bY s (i+1)::Dl s e m (i+2) else bY s i::Dl s e m (i+1)) else []
theorem ME{s:z}{e:Nat}:∀{m i:Nat},(Dl s e m i).length<=m
 |0,_=>aH _
 |m+1,i=>by unfold Dl;split;{split;{simp only[aN];have:=ME (s:=s) (e:=e) (m:=m) (i:=i+2);omega};simp only[aN];have:=ME (s:=s) (e:=e) (m:=m) (i:=i+1);omega};simp
def txB(l:M Int):z:=⟨(l.map λn=>dT n.toNat).toArray⟩
def ada(l:M Int):(txB l).size=l.length:=by show ((l.map λn=>dT n.toNat).toArray).size=_;simp
def unq(s:z):z:=txB (Dl s (s.size - 1) s.size 1)
def adg(s:z):(unq s).size<=s.size:=by rw[unq,ada];exact ME
def IC(t:z):z:=if t.size<2\/bY t 0≠34\/qE t t.size 1≠Z t.size then l8 else unq t
def CO(t:z):(IC t).size<=t.size:=by unfold IC;split;{exact bI _};exact adg t
def Dy(t:z):Bool:=Z' (t=⟨#[33,61]⟩) ||(Z' (t=⟨#[60,61]⟩) ||(Z' (t=⟨#[62,61]⟩) ||decide (t=⟨#[46,46]⟩)))
def oW:z:=⟨#[123,125,59,91,93,40,41,60,62,61,43,45,47,124,46,44,36,58]⟩
def Iq(b:Int):Bool:=!oP (λk=>!Z' (b=bY oW k)) 0 18
def s_(s:z)(i:Nat):Nat:=if i+2<=s.size/\Dy (s.extract i (i+2))=I then 2 else if Iq (bY s i)=I then 1 else 0
def Ro{s:z}{i:Nat}(a:i<s.size):i+s_ s i<=s.size:=by unfold s_;split;{omega};split<;>omega
structure eS where
 ax:Int
 text:ByteArray
 pos:Int
def mK(t:eS):M D:=[.int .i64 t.ax,.str t.text,.int .i64 t.pos]
abbrev cF(l:M eS):D:=.list 3 I (l.map mK)
theorem od(t:eS):mK t=[E t.ax,.str t.text,E t.pos]:=(rfl)
def UL(t:eS):dV (mK t)=t.text.size:=by simp[mK,dV,D.sz]
def oF(s:z):Nat->Nat->M eS->M eS×Int
 |0,_,out=>(out,-1)
 |m+1,i,out=>if i<s.size then
   (if bY s i=32\/bY s i=10 then oF s m (i+1) out
   else if bY s i=35 then oF s m (fV (λj=>!Z' (bY s j=10)) i (s.size - i)) out
   else if eA 97 122 (bY s i)=I then oF s m (Ir s i) (out++[⟨1,s.extract i (Ir s i),i⟩])
   else if eA 48 57 (bY s i)=I then oF s m (fV (λj=>eA 48 57 (bY s j)) i (s.size - i)) (out++[⟨2,s.extract i (fV (λj=>eA 48 57 (bY s j)) i (s.size - i)),i⟩])
   else if bY s i=34 then (match qE s s.size (i+1) with
    |none=>([],i)
    |some j=>oF s m j (out++[⟨3,IC (s.extract i j),i⟩]))
   else if s_ s i=0 then ([],i) else oF s m (i+s_ s i) (out++[⟨4,s.extract i (i+s_ s i),i⟩]))
  else (out,-1)
def kL(s:z):M eS×Int:=oF s s.size 0 []
def Eu(l:M eS)(n:Nat):Prop:=bO mK l<=2 * n
def Eu.app{l:M eS}{i j:Nat}{t:eS}(h:Eu l i)(c:i<j)(a:t.text.size<=j - i):Eu (l++[t]) j:=by unfold Eu at *;simp only[bO,ay,cE,bz,cO,zh,qp,aN,aJ,UL]at *;omega
def mL(s:z){i j:Nat}(h:j<=s.size):(s.extract i j).size=j - i:=by simp;omega
theorem uo{s:z}:∀(m i:Nat) (out:M eS),i<=s.size->Eu out i->Eu (oF s m i out).1 s.size
 |0,i,out,b,h=>by unfold oF Eu at *;dsimp only;omega
 |m+1,i,out,b,h=>by (have nil:Eu [] s.size:=by simp[Eu,bO,qp]);unfold oF;split;{rename_i b;split;{exact uo m _ _ (by omega) (by unfold Eu at *;omega)};split;{rename_i o n;have a:=jJ (λj=>!Z' (bY s j=10)) (s.size - i) i;exact uo m _ _ (by omega) (by unfold Eu at *;omega)};split;{rename_i g;have a:=Cr b g;exact uo m _ _ a.2 (h.app a.1 (by rw[mL s a.2];exact aH _))};split;{rename_i f;have a:=jJ (λj=>eA 48 57 (bY s j)) (s.size - i) i;have c:i<fV (λj=>eA 48 57 (bY s j)) i (s.size - i):=by{obtain⟨k,d⟩:∃k,s.size - i=k+1:=⟨s.size - i - 1,by omega⟩;rw[d];unfold fV;rw[if_pos f];have:=(jJ (λj=>eA 48 57 (bY s j)) k (i+1)).1;omega};exact uo m _ _ (by omega) (h.app c (by rw[mL s (by omega)];exact aH _))};split;{split;{exact nil};rename_i j e;have a:=x_ e;exact uo m _ _ a.2 (h.app (by omega) (aS (CO _) (by rw[mL s a.2];exact aH _)))};split;{exact nil};rename_i l;have a:=Ro b;exact uo m _ _ a (h.app (by omega) (by rw[mL s a];exact aH _))};unfold Eu at *;dsimp only;omega
def LW(s:z):bO mK (kL s).1<=2 * s.size:=uo s.size 0 [] (bI _) (by simp[Eu,bO,qp])
theorem tS{c β:Type}{b:c->u (Sg c β)}(mk:Nat->c)(fin:Nat->β)(p:Nat->Bool)(n:Nat)
  (e:∀i,i<n->b (mk i)=Z (if p i=I then .go (mk (i+1)) else .out (fin i))) (f:b (mk n)=Z (.out (fin n))):∀m i,i+m=n->bG b (mk i)=Z (fin (fV p i m))
 |0,i,h=>by (obtain rfl:i=n:=by omega);exact aK f
 |m+1,i,h=>by have a:=e i (by omega);unfold fV;split;{rename_i d;rw[if_pos d]at a;rw[bD a];exact tS mk fin p n e f m (i+1) (by omega)};rename_i d;rw[if_neg d]at a;exact aK a
theorem KW{d β:Type}{b:d->u (Sg d β)}(mk:Nat->d)(fin:Nat->β)(p:Nat->Bool)(k n:Nat)(g:p k=J)
  (f:∀i,k<=i->i<n->b (mk (i+1))=Z (if p i=I then .go (mk i) else .out (fin (i+1)))):∀i,k<i->i<=n->bG b (mk i)=Z (fin (vn p i))
 |0,h,_=>by omega
 |i+1,h,j=>by have c:=f i (by omega) (by omega);unfold vn;split;{rename_i a;rw[if_pos a]at c;rw[bD c];(have:k≠i:=λe=>by rw[<- e,g]at a;cases a);exact KW mk fin p k n g f i (by omega) (by omega)};rename_i a;rw[if_neg a]at c;exact aK c
def adm{i:Nat}(a:i+1<=mg):IntKind.i64.wrap (((i+1:Nat):Int) - 1)=(i:Int):=by simp only[mg]at a;rw[wrap_i64 (by omega)];omega
def asm{s:z}{i:Nat}(r:s.size<=mg)(x:i<s.size)(n:eA 97 122 (bY s i)=I):G 391 [.str s,E i]=Z (0,[E (Ir s i)]):=by have y:=tS (b:=lB G B8) (λj=>(0,[.str s,.int .i64 (j:Int)])) (λj=>(0,[.str s,.int .i64 (j:Int),.bool J])) (λj=>gj (bY s j)) s.size (by intro j f;have c:=wj f r;have g:=mH s j;have l:=ae9 g;have o:=XE g;cases c1:eA 97 122 (bY s j);{cases p:eA 48 57 (bY s j);{obtain⟨v,A⟩:∃v,Z' (bY s j=45)=v:=⟨_,rfl⟩;cases v<;>simp only[go_sem,bc,B8,f,cZ,l,o,c,gj,c1,p,A]};simp only[go_sem,bc,B8,f,cZ,l,o,c,gj,c1,p]};{simp only[go_sem,bc,B8,f,cZ,l,c,gj,c1]}) (by simp only[go_sem,bc,B8,aE]) (s.size - i) i (by omega);have t:=jJ (λj=>gj (bY s j)) (s.size - i) i;have hd:Z' (bY s i=45)=J:=by{have:=(ej _ _ _).1 n;simp;omega};have q:i<fV (λj=>gj (bY s j)) i (s.size - i):=by{have:=Cr x n;have:=DQ (λj=>Z' (bY s j=45)) (fV (λj=>gj (bY s j)) i (s.size - i));unfold Ir at *;omega};have st:∀j,j<s.size->lB G B9 (1,[.str s,E ((j+1:Nat):Int)])=Z (if Z' (bY s j=45)=I then .go (1,[.str s,.int .i64 (j:Int)]) else .out (0,[.str s,E ((j+1:Nat):Int),.bool J]))/\ lB G B9 (0,[.str s,E ((j+1:Nat):Int),.bool J])=Z (if Z' (bY s j=45)=I then .go (1,[.str s,.int .i64 (j:Int)]) else .out (0,[.str s,E ((j+1:Nat):Int),.bool J])):=by{intro j h;have c:=adm (i:=j) (by omega);obtain⟨v,e⟩:∃v,Z' (bY s j=45)=v:=⟨_,rfl⟩;constructor<;>cases v<;>simp only[go_sem,bc,B9,c,cZ _ _ h,e]};have g:=KW (b:=lB G B9) (λj=>(1,[.str s,.int .i64 (j:Int)])) (λj=>(0,[.str s,.int .i64 (j:Int),.bool J])) (λj=>Z' (bY s j=45)) i s.size hd (λj _ h=>(st j h).1);refine bW apu rfl ?_;simp only[go_sem,apu,y];obtain⟨k,w⟩:∃k,fV (λj=>gj (bY s j)) i (s.size - i)=k+1:=⟨fV (λj=>gj (bY s j)) i (s.size - i) - 1,by omega⟩;unfold Ir;rw[w]at q t ⊢;have a:=(st k (by omega)).2;have m:bG (lB G B9) (0,[.str s,E ((k+1:Nat):Int),.bool J])=Z (0,[.str s,E ((vn (λj=>Z' (bY s j=45)) (k+1):Nat):Int),.bool J]):=by{unfold vn;split;{rename_i d;rw[if_pos d]at a;(have B:i≠k:=λe=>by rw[<- e,hd]at d;cases d);exact (bD a).trans (g k (by omega) (by omega))};rename_i d;rw[if_neg d]at a;exact aK a};simp only[go_sem,m]
theorem ajl{s:z}(r:s.size<=mg):∀(m i:Nat),s.size<=i+m->i<=s.size+1->bG (lB G l7) (0,[.str s,E (i:Int)])=Z (0,[E (lx (qE s m i))])\/(qE s m i=O/\∃C:Nat,bG (lB G l7) (0,[.str s,E (i:Int)])=Z (1,[.str s,E (C:Int),.bool J])):=by intro m;induction m with|zero=>{intro i H F;(have D:¬i<s.size:=by omega);refine .inr ⟨rfl,i,aK ?_⟩;simp only[go_sem,bc,l7,D]}|succ m q=>intro i H F;by_cases a:i<s.size;{have d:=wj a r;have f:i+1<s.size->IntKind.i64.wrap (((i+1:Nat):Int)+1)=((i+2:Nat):Int):=λh=>wj h r;unfold qE;rw[if_pos a];obtain⟨v,c1⟩:∃v,Z' (bY s i=34)=v:=⟨_,rfl⟩;obtain⟨w,c⟩:∃v,Z' (bY s i=92)=v:=⟨_,rfl⟩;cases v;{(have n1:¬bY s i=34:=by simpa using c1);rw[if_neg n1];cases w;{(have n2:¬bY s i=92:=by simpa using c);rw[if_neg n2];have n:bG (lB G l7) (0,[.str s,E (i:Int)])=bG (lB G l7) (0,[.str s,E ((i+1:Nat):Int)]):=bD (by simp only[go_sem,bc,l7,a,cZ _ _ a,c1,c,d]);rw[n];exact q (i+1) (by omega) (by omega)};(have A:bY s i=92:=by simpa using c);rw[if_pos A];by_cases t:i+1=s.size;{rw[if_pos (.inl t)];(have b:((i+1:Nat):Int)=(s.size:Int):=by omega);refine .inl (aK ?_);simp only[go_sem,bc,l7,a,cZ _ _ a,c1,c,d,b,lx]};(have g:i+1<s.size:=by omega);(have b:Z' (((i+1:Nat):Int)=(s.size:Int))=J:=by simp;omega);have k:=cZ s (i+1) g;have f:=f g;obtain⟨x,e⟩:∃v,Z' (bY s (i+1)=34)=v:=⟨_,rfl⟩;obtain⟨y,l⟩:∃v,Z' (bY s (i+1)=92)=v:=⟨_,rfl⟩;by_cases j:bY s (i+1)≠34/\bY s (i+1)≠92;{rw[if_pos (.inr j)];(have p:x=J:=by rw[<- e];simpa using j.1);(have o:y=J:=by rw[<- l];simpa using j.2);subst p o;refine .inl (aK ?_);simp only[go_sem,bc,l7,a,cZ _ _ a,c1,c,d,b,k,e,l,lx]};rw[if_neg (by rintro (h|h);exact t h;exact j h)];have n:bG (lB G l7) (0,[.str s,E (i:Int)])=bG (lB G l7) (0,[.str s,E ((i+2:Nat):Int)]):=bD (by cases x<;>cases y;{exact absurd ⟨by simpa using e,by simpa using l⟩ j};{simp only[go_sem,bc,l7,a,cZ _ _ a,c1,c,d,b,k,e,l,f]};{simp only[go_sem,bc,l7,a,cZ _ _ a,c1,c,d,b,k,e,f]};simp only[go_sem,bc,l7,a,cZ _ _ a,c1,c,d,b,k,e,f]);rw[n];exact q (i+2) (by omega) (by omega)};(have B:bY s i=34:=by simpa using c1);rw[if_pos B];refine .inl (aK ?_);simp only[go_sem,bc,l7,a,cZ _ _ a,c1,d,lx]};unfold qE;rw[if_neg a];refine .inr ⟨rfl,i,aK ?_⟩;simp only[go_sem,bc,l7,a]
def aoQ{s:z}{i:Nat}(b:s.size<=mg)(c:i<s.size):G 392 [.str s,E i]=Z (0,[E (lx (qE s s.size (i+1)))]):=by have a:=wj c b;refine bW ajT rfl ?_;rcases ajl b s.size (i+1) (by omega) (by omega) with h|⟨d,e,h⟩;{simp only[go_sem,ajT,a,h]};simp only[go_sem,ajT,a,h,d,lx]
def pz(t:z){a b:Nat}(h:a<=b)(c:b<=t.size):aP (.MZ I) [.str t,E (a:Int),E (b:Int)]=Z (.str (t.extract a b)):=by simp only[aP,dI,cn];rw[if_pos (by omega),if_pos (by omega)];dsimp only;rw[if_pos ⟨h,c⟩]
theorem n18:((18:Nat):Int)=18:=(rfl)
theorem GJ:(⟨[123,125,59,91,93,40,41,60,62,61,43,45,47,124,46,44,36,58].toArray⟩:z)=oW:=(rfl)
def aec{s:z}{i:Nat}(c:i<s.size)(j:s.size<=mg):bG (lB G F7) (0,[.str s,E i,E 0])=Z (if Iq (bY s i)=I then (0,[.str (s.extract i (i+1))]) else (1,[.str s,E i,E 18,.bool J])):=by have g:=wj c j;have f:aP (.MZ I) [.str s,E (i:Int),E ((i+1:Nat):Int)]=Z (.str (s.extract i (i+1))):=pz s (by omega) (by omega);have h:=pq (b:=lB G F7) (λk=>(0,[.str s,E i,E (k:Int)])) (λk=>!Z' (bY s i=bY oW k)) 18 (1,[.str s,E i,E 18,.bool J]) (0,[.str (s.extract i (i+1))]) (by intro k l;(have d:(k:Int)<18:=by omega);have m:=cZ oW k (show k<oW.size from l);(have a:IntKind.i64.wrap ((k:Int)+1)=((k+1:Nat):Int):=by rw[wrap_i64 (by omega)];omega);obtain⟨v,e⟩:∃v,Z' (bY s i=bY oW k)=v:=⟨_,rfl⟩;cases v<;>simp only[go_sem,bc,F7,d,GJ,m,cZ _ _ c,e,g,f,a]) (by simp only[go_sem,bc,F7,n18]) 18 0 rfl;rw[n0]at h;rw[h];unfold Iq;cases oP (λk=>!Z' (bY s i=bY oW k)) 0 18<;>rfl
def Aw(s:z)(i:Nat):z:=s.extract i (i+s_ s i)
def aso{s:z}{i:Nat}(r:s.size<=mg)(y:i<s.size):G 394 [.str s,E i]=Z (0,[.str (Aw s i)]):=by have l:=aec y r;(have g:IntKind.i64.wrap ((i:Int)+2)=((i+2:Nat):Int):=by simp only[mg]at r;rw[wrap_i64 (by omega)];omega);have w:(⟨([]:M UInt8).toArray⟩:z)=l8:=(rfl);have A:s.extract i i=l8:=by{apply acA;rw[mL s (by omega)];omega};have j:∀h:¬(i+2<=s.size/\Dy (s.extract i (i+2))=I),Aw s i=if Iq (bY s i)=I then s.extract i (i+1) else l8:=by{intro h;unfold Aw s_;rw[if_neg h];cases Iq (bY s i);{rw[if_neg (by simp),if_neg (by simp),dY];exact A};rw[if_pos rfl,if_pos rfl]};refine bW Ms rfl ?_;by_cases q:i+2<=s.size;{have k:aP (.MZ I) [.str s,E (i:Int),E ((i+2:Nat):Int)]=Z (.str (s.extract i (i+2))):=pz s (by omega) q;(have e:((i+2:Nat):Int)<=(s.size:Int):=by omega);have f:Dy (s.extract i (i+2))=I->Aw s i=s.extract i (i+2):=by{intro h;unfold Aw s_;rw[if_pos ⟨q,h⟩]};generalize s.extract i (i+2)=t at *;obtain⟨a,c1⟩:∃v,Z' (t=⟨[33,61].toArray⟩)=v:=⟨_,rfl⟩;obtain⟨b,m⟩:∃v,Z' (t=⟨[60,61].toArray⟩)=v:=⟨_,rfl⟩;obtain⟨c,n⟩:∃v,Z' (t=⟨[62,61].toArray⟩)=v:=⟨_,rfl⟩;obtain⟨d,o⟩:∃v,Z' (t=⟨[46,46].toArray⟩)=v:=⟨_,rfl⟩;have x:Dy t=(a ||(b ||(c ||d))):=by{rw[<- c1,<- m,<- n,<- o];rfl};rw[x]at f j;cases a;{cases b;{cases c;{cases d;{rw[j (by simp)];cases p:Iq (bY s i)<;>rw[p]at l;{simp only[go_sem,Ms,g,e,k,c1,m,n,o,l,w]};simp only[go_sem,Ms,g,e,k,c1,m,n,o,l]};rw[f rfl];simp only[go_sem,Ms,g,e,k,c1,m,n,o]};rw[f rfl];simp only[go_sem,Ms,g,e,k,c1,m,n]};rw[f rfl];simp only[go_sem,Ms,g,e,k,c1,m]};rw[f rfl];simp only[go_sem,Ms,g,e,k,c1]};(have e:¬((i+2:Nat):Int)<=(s.size:Int):=by omega);rw[j (λh=>q h.1)];cases p:Iq (bY s i)<;>rw[p]at l;{simp only[go_sem,Ms,g,e,l,w]};simp only[go_sem,Ms,g,e,l]
def NA(n:Int):M D:=[.int .u8 n]
abbrev mI(l:M Int):D:=.list 1 I (l.map NA)
theorem Ni:∀l:M Int,bytesOf (l.map NA)=Z l
 |[]=>rfl
 |n::l=>by have h:=Ni l;simp only[bz,NA,bytesOf]at h ⊢;rw[show bytesOf (l.map NA)=Z l from h];rfl
def abP(l:M Int):aP .Qt [mI l]=Z (.str (txB l)):=by simp only[aP,Ni,cV];rfl
def abz(n:Int):aP (.lu 1 I) [.int .u8 n]=Z (mI [n]):=by simp[aP,chunk,dc,D.plain,NA]
theorem Ub:aP (.lu 1 I) []=Z (mI []):=(rfl)
def adw{l:M Int}(h:l.length<=mg)(n:Int):aP (.app 1 1) [mI l,mI [n]]=Z (mI (l++[n])):=by rw[dM 1 1 I _ _ (by decide) (by simp only[mg,aj,aN,aJ]at *;omega),mI,cE]
theorem ajm{s:z}(g:s.size<=mg)(B:1<=s.size):∀(m i:Nat) (out:M Int),s.size<=i+m->out.length<=i->i<=s.size+1->∃a:Nat,bG (lB G B_) (0,[.str s,E (i:Int),mI out])=Z (0,[.str s,E (a:Int),.bool J,mI (out++Dl s (s.size - 1) m i)]):=by (have d:IntKind.i64.wrap ((s.size:Int) - 1)=((s.size - 1:Nat):Int):=by simp only[mg]at g;rw[wrap_i64 (by omega)];omega);intro m;induction m with|zero=>{intro i out x o t;(have r:¬i<s.size - 1:=by omega);refine⟨i,aK ?_⟩;simp only[go_sem,bc,B_,d,r,Dl,aG]}|succ m k=>intro i out x o t;unfold Dl;by_cases c:i<s.size - 1;{rw[if_pos c];(have j:i<s.size:=by omega);have n:=wj j g;obtain⟨w,f⟩:∃v,Z' (bY s i=92)=v:=⟨_,rfl⟩;have A:IntKind.u8.wrap (bY s i)=bY s i:=wrap_u8 (mH s i);cases w;{(have n2:¬bY s i=92:=by simpa using f);rw[if_neg n2];obtain⟨a,e⟩:=k (i+1) (out++[bY s i]) (by omega) (by rw[ay];simpa using o) (by omega);have h:=adw (l:=out) (by omega) (bY s i);refine⟨a,?_⟩;rw[aZ]at e;refine (bD ?_).trans e;simp only[go_sem,bc,B_,d,c,cZ _ _ j,f,n,abz,h]};(have q:bY s i=92:=by simpa using f);rw[if_pos q];(have b:i+1<s.size:=by omega);have p:IntKind.i64.wrap (((i+1:Nat):Int)+1)=((i+2:Nat):Int):=wj b g;have y:=cZ s (i+1) b;obtain⟨a,e⟩:=k (i+2) (out++[bY s (i+1)]) (by omega) (by rw[ay];simp;omega) (by omega);have h:=adw (l:=out) (by omega) (bY s (i+1));refine⟨a,?_⟩;rw[aZ]at e;refine (bD ?_).trans e;simp only[go_sem,bc,B_,d,c,cZ _ _ j,f,n,y,p,abz,h]};rw[if_neg c];refine⟨i,aK ?_⟩;simp only[go_sem,bc,B_,d,c,aG]
theorem asn{s:z}(k:s.size<=mg):∃b,G 393 [.str s]=Z (0,[.str (IC s),.bool b]):=by have f:(⟨([]:M UInt8).toArray⟩:z)=l8:=(rfl);unfold IC;by_cases m:s.size<2;{rw[if_pos (.inl m)];(have a:(s.size:Int)<2:=by omega);refine⟨J,bW Pu rfl ?_⟩;simp only[go_sem,Pu,a,f]};(have a:¬(s.size:Int)<2:=by omega);have d:=jh (t:=s) (by omega);have e:=aoQ (s:=s) (i:=0) k (by omega);rw[n0,bN]at e;obtain⟨v,c1⟩:∃v,Z' (bY s 0=34)=v:=⟨_,rfl⟩;cases v;{(have n1:¬bY s 0=34:=by simpa using c1);rw[if_pos (.inr (.inl n1))];refine⟨J,bW Pu rfl ?_⟩;simp only[go_sem,Pu,a,d,c1,f]};(have n:bY s 0=34:=by simpa using c1);obtain⟨w,g⟩:∃v,Z' (lx (qE s s.size 1)=(s.size:Int))=v:=⟨_,rfl⟩;have c:(qE s s.size 1≠Z s.size)↔w=J:=by{rw[<- g];cases c:qE s s.size 1 with|none=>{rw[decide_eq_false_iff_not];simp only[ne_eq,reduceCtorEq,not_false_eq_true,lx];try omega}|some j=>rw[decide_eq_false_iff_not];simp only[ne_eq,bq,lx];exact⟨λh o=>h (by omega),λh o=>h (by omega)⟩};cases w;{rw[if_pos (.inr (.inr (c.2 rfl)))];refine⟨J,bW Pu rfl ?_⟩;simp only[go_sem,Pu,a,d,c1,e,g,f]};rw[if_neg (by rintro (h|h|h);exact m h;exact h n;exact absurd (c.1 h) (by simp))];obtain⟨p,l⟩:=ajm k (by omega) s.size 1 [] (by omega) (by simp) (by omega);rw[n1]at l;refine⟨I,bW Pu rfl ?_⟩;simp only[go_sem,Pu,a,d,c1,e,g,Ub,l,au,abP,unq]
def abA(k:Int)(t:z)(p:Int):aP (.lu 3 I) [E k,.str t,E p]=Z (cF [⟨k,t,p⟩]):=by simp[aP,chunk,dc,D.plain,mK]
theorem C_:aP (.lu 3 I) []=Z (cF []):=(rfl)
def apT{l:M eS}(h:l.length<=mg)(t:eS):aP (.app 3 32) [cF l,cF [t]]=Z (cF (l++[t])):=by rw[dM 3 32 I _ _ (by decide) (by simp only[mg,aj,aN,aJ]at *;omega),cF,cE]
def Wo{s:z}(g:s.size<=mg){i f:Nat}{out:D}(e:i<s.size)(o:bY s i=35):bG (lB G yE) (0,[.str s,E i,E f,.bool I,out])=Z (0,[.str s,E (fV (λj=>!Z' (bY s j=10)) i (s.size - i):Nat),.bool J,out]):=by have a:=wj e g;(have h:Z' (bY s i=10)=J:=by rw[o];decide);have n:=tS (b:=lB G yE) (λj=>(1,[.str s,E (j:Int),out])) (λj=>(0,[.str s,E (j:Int),.bool J,out])) (λj=>!Z' (bY s j=10)) s.size (by intro j d;have a:=wj d g;obtain⟨v,c⟩:∃v,Z' (bY s j=10)=v:=⟨_,rfl⟩;cases v<;>simp only[go_sem,bc,yE,d,cZ _ _ d,c,a]) (by simp only[go_sem,bc,yE,aE]) (s.size - (i+1)) (i+1) (by omega);have l:fV (λj=>!Z' (bY s j=10)) i (s.size - i)=fV (λj=>!Z' (bY s j=10)) (i+1) (s.size - (i+1)):=by{obtain⟨k,m⟩:∃k,s.size - i=k+1:=⟨s.size - (i+1),by omega⟩;rw[m,fV,if_pos (by rw[h];rfl),show s.size - (i+1)=k by omega]};rw[l,<- n];refine bD ?_;simp only[go_sem,bc,yE,e,cZ _ _ e,h,a]
def Wp{s:z}(g:s.size<=mg){i f:Nat}{out:D}(e:i<s.size)(h:eA 48 57 (bY s i)=I):bG (lB G yF) (0,[.str s,E i,E f,.bool I,out])=Z (0,[.str s,E (fV (λj=>eA 48 57 (bY s j)) i (s.size - i):Nat),E f,.bool J,out]):=by have a:=wj e g;have m:=XE (mH s i);rw[h]at m;have p:=tS (b:=lB G yF) (λj=>(1,[.str s,E (j:Int),E f,out])) (λj=>(0,[.str s,E (j:Int),E f,.bool J,out])) (λj=>eA 48 57 (bY s j)) s.size (by intro j d;have a:=wj d g;have l:=XE (mH s j);cases c:eA 48 57 (bY s j)<;>rw[c]at l<;>simp only[go_sem,bc,yF,d,cZ _ _ d,l,a]) (by simp only[go_sem,bc,yF,aE]) (s.size - (i+1)) (i+1) (by omega);have n:fV (λj=>eA 48 57 (bY s j)) i (s.size - i)=fV (λj=>eA 48 57 (bY s j)) (i+1) (s.size - (i+1)):=by{obtain⟨k,o⟩:∃k,s.size - i=k+1:=⟨s.size - (i+1),by omega⟩;rw[o,fV,if_pos h,show s.size - (i+1)=k by omega]};rw[n,<- p];refine bD ?_;simp only[go_sem,bc,yF,e,cZ _ _ e,m,a]
def LxF(s:z)(R:Nat×M D)(p:M eS×Int):Prop:=(∃x,R=(0,[.int .i64 p.2,x,cF p.1])\/R=(1,[.int .i64 p.2,x,cF p.1]))\/(∃a,R=(2,[.str s,a,.bool J,cF p.1])/\p.2=-1)
theorem Wq{s:z}(w:s.size<=4194304):∀(m i:Nat) (out:M eS),s.size<=i+m->i<=s.size->Eu out i->∀c,(c=(0,[.str s,E (i:Int),cF out])\/c=(1,[.str s,E (i:Int),.bool J,cF out]))->
  ∃R,bG (lB G lI) c=Z R/\LxF s R (oF s m i out):=by (have w:s.size<=mg:=by simp only[mg];omega);have t:∀(i:Nat) (out:M eS),¬i<s.size->∀c,(c=(0,[.str s,E (i:Int),cF out])\/c=(1,[.str s,E (i:Int),.bool J,cF out]))->bG (lB G lI) c=Z (2,[.str s,E (i:Int),.bool J,cF out]):=by{intro i out d c n;refine aK ?_;rcases n with rfl|rfl<;>simp only[go_sem,bc,lI,d]};intro m;induction m with|zero=>{intro i out h1 h2 F c n;exact⟨_,t i out (by omega) c n,.inr ⟨_,rfl,rfl⟩⟩}|succ m ih=>intro i out h1 h2 F c n;unfold oF;by_cases d:i<s.size;{rw[if_pos d];have T:out.length<=mg:=by{have:bO mK out<=2 * i:=F;simp only[bO,mg]at *;omega};have hw:=wj d w;have q:=cZ s i d;have A:=ae9 (mH s i);have H:=XE (mH s i);have B:∀{j:Nat} {l:M eS} {E':Nat×M D} {p:M eS×Int},lB G lI c=Z (.go E')->(E'=(0,[.str s,E (j:Int),cF l])\/E'=(1,[.str s,E (j:Int),.bool J,cF l]))->i<j->j<=s.size->Eu l j->p=oF s m j l->∃R,bG (lB G lI) c=Z R/\LxF s R p:=by{intro j l E' p g1 Y g3 g4 g5 g6;obtain⟨R,r1,r2⟩:=ih j l (by omega) g4 g5 E' Y;exact⟨R,(bD g1).trans r1,g6▸r2⟩};have x:∀{k:Nat} {p:M eS×Int},lB G lI c=Z (.out (k,[E (i:Int),cF out,cF []]))->(k=0\/k=1)->p=([],(i:Int))->∃R,bG (lB G lI) c=Z R/\LxF s R p:=by{intro k p g1 Y g3;refine⟨_,aK g1,.inl ⟨cF out,?_⟩⟩;rw[g3];rcases Y with rfl|rfl;{exact .inl rfl};exact .inr rfl};obtain⟨v1,c1⟩:∃v,Z' (bY s i=32)=v:=⟨_,rfl⟩;obtain⟨v2,o⟩:∃v,Z' (bY s i=10)=v:=⟨_,rfl⟩;obtain⟨v3,r⟩:∃v,Z' (bY s i=35)=v:=⟨_,rfl⟩;obtain⟨v6,K⟩:∃v,Z' (bY s i=34)=v:=⟨_,rfl⟩;by_cases L:bY s i=32\/bY s i=10;{rw[if_pos L];refine B (E':=(0,[.str s,E ((i+1:Nat):Int),cF out])) ?_ (.inl rfl) (by omega) (by omega) (by unfold Eu at *;omega) rfl;cases v1;{cases v2;{simp only[decide_eq_false_iff_not]at c1 o;exact absurd L (by simp[c1,o])};rcases n with rfl|rfl<;>simp only[go_sem,bc,lI,d,q,c1,o,hw]};rcases n with rfl|rfl<;>simp only[go_sem,bc,lI,d,q,c1,hw]};rw[if_neg L];(obtain rfl:v1=J:=by rw[<- c1,decide_eq_false_iff_not];exact λh=>L (.inl h));(obtain rfl:v2=J:=by rw[<- o,decide_eq_false_iff_not];exact λh=>L (.inr h));by_cases C:bY s i=35;{rw[if_pos C];have f:=Wo (f:=i) (out:=cF out) w d C;(obtain rfl:v3=I:=by rw[<- r];simpa using C);have e:=jJ (λj=>!Z' (bY s j=10)) (s.size - i) i;have S:i<fV (λj=>!Z' (bY s j=10)) i (s.size - i):=by{obtain⟨k,X⟩:∃k,s.size - i=k+1:=⟨s.size - (i+1),by omega⟩;rw[X,fV,if_pos (by rw[C];decide)];have:=(jJ (λj=>!Z' (bY s j=10)) k (i+1)).1;omega};refine B (E':=(1,[.str s,E (fV (λj=>!Z' (bY s j=10)) i (s.size - i):Nat),.bool J,cF out])) ?_ (.inr rfl) S (by omega) (by unfold Eu at *;omega) rfl;rcases n with rfl|rfl<;>simp only[go_sem,bc,lI,d,q,c1,o,r,f]};rw[if_neg C];(obtain rfl:v3=J:=by rw[<- r,decide_eq_false_iff_not];exact C);cases c4:eA 97 122 (bY s i)<;>rw[c4]at A;{rw[if_neg (by simp)];cases c5:eA 48 57 (bY s i)<;>rw[c5]at H;{rw[if_neg (by simp)];by_cases Q:bY s i=34;{rw[if_pos Q];(obtain rfl:v6=I:=by rw[<- K];simpa using Q);have f:=aoQ w d;cases V:qE s s.size (i+1) with|none=>{refine x (k:=0) ?_ (.inl rfl) rfl;rcases n with rfl|rfl<;>simp only[go_sem,bc,lI,d,q,c1,o,r,K,A,H,f,V,lx,C_]}|some j=>have e:=x_ V;have N:=pz s (a:=i) (b:=j) (by omega) e.2;obtain⟨b,g⟩:=asn (s:=s.extract i j) (by rw[mL s e.2];omega);have y:=apT T ⟨3,IC (s.extract i j),i⟩;(have hj:Z' ((j:Int)<0)=J:=by simp);refine B (E':=(0,[.str s,E (j:Int),cF (out++[⟨3,IC (s.extract i j),i⟩])])) ?_ (.inl rfl) (by omega) e.2 (F.app (by omega) (aS (CO _) (by rw[mL s e.2];exact aH _))) rfl;rcases n with rfl|rfl<;>simp only[go_sem,bc,lI,d,q,c1,o,r,K,A,H,f,V,lx,hj,N,g,abA,y]};rw[if_neg Q];(obtain rfl:v6=J:=by rw[<- K,decide_eq_false_iff_not];exact Q);have f:=aso w d;have e:=Ro d;by_cases U:s_ s i=0;{rw[if_pos U];have W:Aw s i=⟨([]:M UInt8).toArray⟩:=by{show Aw s i=l8;apply acA;unfold Aw;rw[mL s (by omega)];omega};rw[W]at f;refine x (k:=1) ?_ (.inr rfl) rfl;rcases n with rfl|rfl<;>simp only[go_sem,bc,lI,d,q,c1,o,r,K,A,H,f,C_]};rw[if_neg U];(have P:(Aw s i).size=s_ s i:=by unfold Aw;rw[mL s e];omega);have W:Z' (Aw s i=⟨([]:M UInt8).toArray⟩)=J:=by{rw[decide_eq_false_iff_not];intro h;rw[h]at P;exact U P.symm};have y:=apT T ⟨4,Aw s i,i⟩;have hz:IntKind.i64.wrap ((i:Int)+((Aw s i).size:Int))=((i+s_ s i:Nat):Int):=by{rw[P];simp only[mg]at w;rw[wrap_i64 (by omega)];omega};refine B (E':=(0,[.str s,E ((i+s_ s i:Nat):Int),cF (out++[⟨4,Aw s i,i⟩])])) ?_ (.inl rfl) (by omega) e (F.app (by omega) (by rw[P];omega)) rfl;rcases n with rfl|rfl<;>simp only[go_sem,bc,lI,d,q,c1,o,r,K,A,H,f,W,abA,y,hz]};rw[if_pos rfl];have f:=Wp (f:=i) (out:=cF out) w d c5;have e:=jJ (λj=>eA 48 57 (bY s j)) (s.size - i) i;have S:i<fV (λj=>eA 48 57 (bY s j)) i (s.size - i):=by{obtain⟨k,X⟩:∃k,s.size - i=k+1:=⟨s.size - (i+1),by omega⟩;rw[X,fV,if_pos c5];have:=(jJ (λj=>eA 48 57 (bY s j)) k (i+1)).1;omega};generalize fV (λj=>eA 48 57 (bY s j)) i (s.size - i)=j at *;have N:=pz s (a:=i) (b:=j) (by omega) (by omega);have y:=apT T ⟨2,s.extract i j,i⟩;refine B (E':=(0,[.str s,E (j:Int),cF (out++[⟨2,s.extract i j,i⟩])])) ?_ (.inl rfl) S (by omega) (F.app S (by rw[mL s (by omega)];exact aH _)) rfl;rcases n with rfl|rfl<;>simp only[go_sem,bc,lI,d,q,c1,o,r,A,H,f,N,abA,y]};rw[if_pos rfl];have f:=asm w d c4;have e:=Cr d c4;have N:=pz s (a:=i) (b:=Ir s i) (by omega) (by omega);have y:=apT T ⟨1,s.extract i (Ir s i),i⟩;refine B (E':=(0,[.str s,E (Ir s i:Int),cF (out++[⟨1,s.extract i (Ir s i),i⟩])])) ?_ (.inl rfl) e.1 e.2 (F.app e.1 (by rw[mL s e.2];exact aH _)) rfl;rcases n with rfl|rfl<;>simp only[go_sem,bc,lI,d,q,c1,o,r,A,f,N,abA,y]};rw[if_neg d];exact⟨_,t i out d c n,.inr ⟨_,rfl,rfl⟩⟩
def asp{s:z}(b:s.size<=4194304):G 395 [.str s]=Z (0,[cF (kL s).1,E (kL s).2]):=by obtain⟨R,a,d⟩:=Wq b s.size 0 [] (by omega) (by omega) (by simp[Eu,bO,qp]) _ (.inl rfl);rw[n0]at a;refine bW afE rfl ?_;unfold kL;generalize oF s s.size 0 []=p at *;rcases d with ⟨x,rfl|rfl⟩|⟨e,rfl,c⟩;{simp only[go_sem,afE,C_,a]};{simp only[go_sem,afE,C_,a]};simp only[go_sem,afE,C_,a,c]
def ki(L:M eS)(i:Nat)(a:Bool)(k:Int)(t:z):Bool:=!a && (match nth L i with
 |some x=>Z' (x.ax=k) && (Z' (t=l8) ||decide (x.text=t))
 |none=>J)
def tkT(L:M eS)(i:Nat):z:=match nth L i with
 |some x=>x.text
 |none=>l8
def fM{L:M eS}{i:Nat}{a:Bool}{k:Int}{t:z}(h:ki L i a k t=I):i<L.length/\a=J:=by unfold ki at h;rw[aw]at h;refine⟨?_,by simpa using h.1⟩;split at h;{rename_i x b;exact aY b};cases h.2
abbrev cP(L:M eS)(i:Nat)(a:Bool)(o:Int):M D:=[cF L,.int .i64 (i:Int),.bool a,.int .i64 o]
theorem D1:(⟨([]:M UInt8).toArray⟩:z)=l8:=(rfl)
def alz{L:M eS}{i:Nat}{x:eS}(h:nth L i=Z x):aP (.MQ 3 0 1 I) [cF L,E (i:Int)]=Z (.list 0 J [mK x]):=by (have a:nth (L.map mK) i=Z (mK x):=by rw[aV,h];rfl);simp only[aP,cn,a];simp[mK,dc,D.plain]
def af_{L:M eS}{i:Nat}{x:eS}(h:nth L i=Z x):aP (.MQ 3 1 1 I) [cF L,E (i:Int)]=Z (.list 0 J [mK x]):=by (have a:nth (L.map mK) i=Z (mK x):=by rw[aV,h];rfl);simp only[aP,cn,a];simp[mK,dc,D.plain]
def ag5{L:M eS}{i:Nat}(h:i<L.length):aP .Zg [cF L,E (i:Int)]=Z (.bool J):=by simp only[aP,cn,aj];rw[if_pos ⟨by omega,h⟩]
section
variable {L:M eS} {i:Nat} {bad:Bool} {o:Int} (hL:L.length<=mg)
include hL
theorem ajn{k:Int}{t:z}:G 397 (cP L i bad o++[E k,.str t])=Z (0,.bool (ki L i bad k t)::cP L i bad o):=by refine bW XS rfl ?_;unfold ki;cases bad;{by_cases d:i<L.length;{obtain⟨x,e⟩:∃x,nth L i=Z x:=⟨_,dG d⟩;have g:=alz e;have m:=af_ e;have f:=ag5 d;rw[e];obtain⟨a,c1⟩:∃v,Z' (x.ax=k)=v:=⟨_,rfl⟩;obtain⟨b,j⟩:∃v,Z' (t=l8)=v:=⟨_,rfl⟩;obtain⟨c,h⟩:∃v,Z' (x.text=t)=v:=⟨_,rfl⟩;cases a;{simp only[go_sem,XS,d,g,f,od,c1,j,h,D1]};cases b;{simp only[go_sem,XS,d,g,m,f,od,c1,j,h,D1]};simp only[go_sem,XS,d,g,f,od,c1,j,h,D1]};(have l:nth L i=O:=by rw[ek];simp;omega);rw[l];simp only[go_sem,XS,d]};simp only[go_sem,XS]
def mi(L:M eS)(i:Nat)(bad:Bool)(k:Int):z×Nat×Bool:=if ki L i bad k l8=I then (tkT L i,i+1,bad) else (l8,i,I)
theorem ajo{k:Int}:G 398 (cP L i bad o++[E k])=Z (0,.str (mi L i bad k).1::cP L (mi L i bad k).2.1 (mi L i bad k).2.2 o):=by have f:=ajn (i:=i) (bad:=bad) (o:=o) hL (k:=k) (t:=l8);refine bW ajU rfl ?_;unfold mi;simp only[cP,av,au]at f ⊢;cases h:ki L i bad k l8;{rw[h]at f;simp only[go_sem,ajU,D1,f]};rw[h]at f;obtain⟨a,rfl⟩:=fM h;obtain⟨x,b⟩:∃x,nth L i=Z x:=⟨_,dG a⟩;have j:=af_ b;have g:=ag5 a;have c:=wj a hL;have e:=adm (i:=i) (by omega);(have d:tkT L i=x.text:=by unfold tkT;rw[b]);simp only[go_sem,ajU,D1,f,c,e,g,j,od,d]
theorem asr{t:z}:G 400 (cP L i bad o++[.str t])=Z (0,.bool (ki L i bad 4 t)::cP L i bad o):=by have f:=ajn (i:=i) (bad:=bad) (o:=o) hL (k:=4) (t:=t);refine bW apw rfl ?_;simp only[cP,av,au]at f ⊢;simp only[go_sem,apw,f]
def yX(L:M eS)(i:Nat)(bad:Bool)(k:Int)(t:z):Nat:=if ki L i bad k t=I then i+1 else i
theorem It{t:z}:G 401 (cP L i bad o++[.str t])=Z (0,.bool (ki L i bad 4 t)::cP L (yX L i bad 4 t) bad o):=by have f:=asr (i:=i) (bad:=bad) (o:=o) hL (t:=t);refine bW ajV rfl ?_;unfold yX;simp only[cP,av,au]at f ⊢;cases h:ki L i bad 4 t;{rw[h]at f;simp only[go_sem,ajV,f]};rw[h]at f;have a:=wj (fM h).1 hL;simp only[go_sem,ajV,f,a]
theorem aoR{t:z}:G 402 (cP L i bad o++[.str t])=Z (0,cP L (yX L i bad 4 t) (bad ||!ki L i bad 4 t) o):=by have f:=It (i:=i) (bad:=bad) (o:=o) hL (t:=t);refine bW ajW rfl ?_;simp only[cP,av,au]at f ⊢;cases h:ki L i bad 4 t;{rw[h]at f;cases bad<;>simp only[go_sem,ajW,f]};rw[h]at f;cases bad<;>simp only[go_sem,ajW,f]
theorem ast:G 413 (cP L i bad o)=Z (0,.bool (!bad && Z' (i=L.length))::cP L i bad o):=by refine bW apx rfl ?_;obtain⟨a,c1⟩:∃v,Z' (i=L.length)=v:=⟨_,rfl⟩;(have b:Z' ((i:Int)=(L.length:Int))=a:=by rw[<- c1];exact decide_eq_decide.2 (by omega));cases bad<;>cases a<;>simp only[go_sem,apx,c1,b]
end
def asq{s:z}(a:s.size<=4194304):G 396 [.str s]=Z (0,cP (kL s).1 0 (Z' (0<=(kL s).2)) 0):=by have f:=asp a;refine bW apv rfl ?_;simp only[go_sem,apv,f];rfl
def eqA:z:=⟨#[61]⟩
def zw:z:=⟨#[91]⟩
def rbA:z:=⟨#[93]⟩
def AT:z:=⟨#[47]⟩
def Nu:z:=⟨#[46,46]⟩
theorem J4:(⟨[61].toArray⟩:z)=eqA:=(rfl)
theorem qu:(⟨[91].toArray⟩:z)=zw:=(rfl)
theorem J5:(⟨[93].toArray⟩:z)=rbA:=(rfl)
theorem jY:(⟨[47].toArray⟩:z)=AT:=(rfl)
theorem pa:(⟨[46,46].toArray⟩:z)=Nu:=(rfl)
def Is(L:M eS)(i:Nat):Nat:=bO mK (L.take i)
def abS{L:M eS}{i:Nat}{x:eS}(h:nth L i=Z x):Is L (i+1)=Is L i+1+x.text.size:=by unfold Is;rw[cd _ _ _ h,kM,fW,UL];simp[bO,qp];omega
def abR(L:M eS)(i:Nat):Is L i<=bO mK L:=by have:=kM mK (L.take i) (L.drop i);rw[cp]at this;unfold Is;omega
def Me{L:M eS}{i:Nat}(h:i<L.length):Is L (i+1)=Is L i+1+(tkT L i).size:=by have a:=dG (l:=L) h;rw[abS a];unfold tkT;rw[a]
def CL{L:M eS}{i:Nat}{bad:Bool}{k:Int}(b:i<=L.length):(mi L i bad k).1.size+Is L i<=Is L (mi L i bad k).2.1/\i<=(mi L i bad k).2.1/\(mi L i bad k).2.1<=L.length/\
  ((mi L i bad k).2.2=J->(mi L i bad k).1.size+Is L i+1<=Is L (mi L i bad k).2.1):=by unfold mi;split;{rename_i h;have a:=(fM h).1;have:=Me a;exact⟨by dsimp only;omega,by dsimp only;omega,a,λ_=>by dsimp only;omega⟩};have c:l8.size=0:=rfl;exact⟨by dsimp only;omega,aH _,b,λh=>by cases h⟩
def abG{L:M eS}{i:Nat}{bad:Bool}{k:Int}{t:z}(b:i<=L.length):Is L i<=Is L (yX L i bad k t)/\i<=yX L i bad k t/\yX L i bad k t<=L.length:=by unfold yX;split;{rename_i h;have a:=(fM h).1;have:=Me a;exact⟨by omega,by omega,a⟩};exact⟨aH _,aH _,b⟩
def tA(L:M eS)(i:Nat)(a:Bool):=mi L i a 1
def tB(L:M eS)(i:Nat)(a:Bool):Nat×Bool:=(yX L (tA L i a).2.1 (tA L i a).2.2 4 eqA,(tA L i a).2.2 ||!ki L (tA L i a).2.1 (tA L i a).2.2 4 eqA)
def tC(L:M eS)(i:Nat)(a:Bool):=mi L (tB L i a).1 (tB L i a).2 3
def tD(L:M eS)(i:Nat)(a:Bool):Nat×Bool:=(yX L (tC L i a).2.1 (tC L i a).2.2 4 rbA,(tC L i a).2.2 ||!ki L (tC L i a).2.1 (tC L i a).2.2 4 rbA)
def fk(L:M eS)(i:Nat)(a:Bool):fP×Nat×Bool:=(⟨(tA L i a).1,(tC L i a).1⟩,tD L i a)
def uy{L:M eS}{i:Nat}{bad:Bool}(a:i<=L.length):dV (gT (fk L i bad).1)+Is L i<=Is L (fk L i bad).2.1/\i<=(fk L i bad).2.1/\(fk L i bad).2.1<=L.length:=by have a1:=CL (bad:=bad) (k:=1) a;have a2:=abG (bad:=(tA L i bad).2.2) (k:=4) (t:=eqA) a1.2.2.1;have a3:=CL (bad:=(tB L i bad).2) (k:=3) a2.2.2;have a4:=abG (bad:=(tC L i bad).2.2) (k:=4) (t:=rbA) a3.2.2.1;rw[HA];unfold fk tD tC tB tA at *;dsimp only at *;omega
def lV(L:M eS):Nat->Nat->Bool->M fP->M fP×Nat×Bool
 |0,i,bad,acc=>(acc,i,bad)
 |m+1,i,bad,acc=>if ki L i bad 4 zw=I then lV L m (fk L (i+1) bad).2.1 (fk L (i+1) bad).2.2 (acc++[(fk L (i+1) bad).1]) else (acc,i,bad)
theorem ac9{L:M eS}:∀{m i:Nat} {bad:Bool} {acc:M fP},i<=L.length->bO gT (lV L m i bad acc).1+Is L i<=bO gT acc+Is L (lV L m i bad acc).2.1/\i<=(lV L m i bad acc).2.1/\(lV L m i bad acc).2.1<=L.length
 |0,i,bad,acc,a=>⟨aH _,aH _,a⟩
 |m+1,i,bad,acc,a=>by unfold lV;split;{rename_i h;have b:=(fM h).1;have e:=Me b;have d:=uy (bad:=bad) (show i+1<=L.length from b);have c:=ac9 (m:=m) (bad:=(fk L (i+1) bad).2.2) (acc:=acc++[(fk L (i+1) bad).1]) d.2.2;rw[kM,fW]at c;have:bO gT []=0:=rfl;omega};exact⟨aH _,aH _,a⟩
def mC(L:M eS)(i:Nat):eh×Nat×Bool:=(⟨(mi L i J 1).1,(lV L L.length (mi L i J 1).2.1 (mi L i J 1).2.2 []).1⟩,(lV L L.length (mi L i J 1).2.1 (mi L i J 1).2.2 []).2)
def Ho{L:M eS}{i:Nat}(a:i<=L.length):dV (dq (mC L i).1)+Is L i<=Is L (mC L i).2.1/\i<=(mC L i).2.1/\(mC L i).2.1<=L.length:=by have a1:=CL (bad:=J) (k:=1) a;have a2:=ac9 (m:=L.length) (bad:=(mi L i J 1).2.2) (acc:=[]) a1.2.2.1;rw[nF];have:bO gT []=0:=rfl;unfold mC;dsimp only;omega
def oO(L:M eS):Nat->Nat->Bool->M eh->M eh×Nat×Bool
 |0,i,bad,acc=>(acc,i,bad)
 |m+1,i,bad,acc=>if bad=I then (acc,i,bad) else if ki L (mC L i).2.1 (mC L i).2.2 4 AT=I then oO L m ((mC L i).2.1+1) (mC L i).2.2 (acc++[(mC L i).1]) else (acc++[(mC L i).1],(mC L i).2)
theorem RP{L:M eS}:∀{m i:Nat} {bad:Bool} {acc:M eh},i<=L.length->bO dq (oO L m i bad acc).1+Is L i<=bO dq acc+Is L (oO L m i bad acc).2.1+1/\i<=(oO L m i bad acc).2.1/\(oO L m i bad acc).2.1<=L.length
 |0,i,bad,acc,a=>⟨by dsimp only[oO];omega,aH _,a⟩
 |m+1,i,bad,acc,a=>by have c:=Ho a;have f:bO dq []=0:=rfl;unfold oO;split;{exact⟨by dsimp only;omega,aH _,a⟩};split;{rename_i h;have b:=(fM h).1;have e:=Me b;have d:=RP (m:=m) (bad:=(mC L i).2.2) (acc:=acc++[(mC L i).1]) (show (mC L i).2.1+1<=L.length from b);rw[kM,fW]at d;omega};refine⟨?_,c.2.1,c.2.2⟩;dsimp only;rw[kM,fW];omega
def rD(L:M eS):Nat->Nat->Bool->Nat->Nat×Nat×Bool
 |0,i,bad,a=>(a,i,I)
 |m+1,i,bad,a=>if ki L i bad 4 Nu=I then (if ki L (i+1) bad 4 AT=I then rD L m (i+2) bad (a+1) else (a+1,i+1,J)) else (a,i,I)
theorem MF{L:M eS}:∀{m i:Nat} {bad:Bool} {u:Nat},i<=L.length->i<=(rD L m i bad u).2.1/\(rD L m i bad u).2.1<=L.length/\(rD L m i bad u).1+i<=u+(rD L m i bad u).2.1
 |0,i,bad,u,a=>⟨aH _,a,aH _⟩
 |m+1,i,bad,u,a=>by unfold rD;split;{rename_i h;have d:=(fM h).1;split;{rename_i c;have b:=(fM c).1;have:=MF (m:=m) (bad:=bad) (u:=u+1) (show i+2<=L.length from b);omega};exact⟨Nat.le_succ _,d,by dsimp only;omega⟩};exact⟨aH _,a,aH _⟩
def Ma(L:M eS)(i:Nat)(a:Bool):fE×Nat×Bool:=
 if ki L i a 4 AT=I then
  (if ki L (i+1) a 1 l8=I then (⟨I,0,(oO L (L.length+1) (i+1) a []).1⟩,(oO L (L.length+1) (i+1) a []).2) else (⟨I,0,[]⟩,i+1,a))
 else if (rD L (L.length+1) i a 0).2.2=I then
  (⟨J,(rD L (L.length+1) i a 0).1,(oO L (L.length+1) (rD L (L.length+1) i a 0).2.1 a []).1⟩,(oO L (L.length+1) (rD L (L.length+1) i a 0).2.1 a []).2)
 else (⟨J,(rD L (L.length+1) i a 0).1,[]⟩,(rD L (L.length+1) i a 0).2.1,a)
def rn(L:M eS)(i:Nat)(a:Bool):fE×Nat×Bool:=((Ma L i a).1,(Ma L i a).2.1,(Ma L i a).2.2 ||!gA (Ma L i a).1)
def RD{L:M eS}{i:Nat}{bad:Bool}(b:i<=L.length):dV (bT (Ma L i bad).1)<=bO mK L+1/\(Ma L i bad).2.1<=L.length:=by rw[jX];have e:bO dq []=0:=rfl;unfold Ma;split;{rename_i h;have a:=(fM h).1;split;{have d:=RP (m:=L.length+1) (bad:=bad) (acc:=[]) (show i+1<=L.length from a);have c:=abR L (oO L (L.length+1) (i+1) bad []).2.1;dsimp only;omega};exact⟨by dsimp only;omega,a⟩};have a:=MF (m:=L.length+1) (bad:=bad) (u:=0) b;split;{have d:=RP (m:=L.length+1) (bad:=bad) (acc:=[]) a.2.1;have c:=abR L (oO L (L.length+1) (rD L (L.length+1) i bad 0).2.1 bad []).2.1;dsimp only;omega};exact⟨by dsimp only;omega,a.2.1⟩
def eO(s:z):fE×Bool:=
 let p:=rn (kL s).1 0 (Z' (0<=(kL s).2))
 if p.2.2=J/\p.2.1=(kL s).1.length then (p.1,I) else (⟨J,0,[]⟩,J)
theorem Md(a:z):aP .pl [.str a]=Z (.bool J):=(rfl)
def JI(a b:z):aP (.lu 2 I) [.str a,.str b]=Z (cN [⟨a,b⟩]):=by simp[aP,chunk,dc,D.plain,gT]
def IK{l:M fP}(h:l.length<=mg)(t:fP):aP (.app 2 32) [cN l,cN [t]]=Z (cN (l++[t])):=by rw[dM 2 32 I _ _ (by decide) (by simp only[mg,aj,aN,aJ]at *;omega),cN,cE]
def Av(a:z)(b:M fP):aP (.lu 2 J) [.str a,cN b]=Z (bM [⟨a,b⟩]):=by rw[gW 2 _ rfl (by decide)];rfl
def Na{l:M eh}(h:l.length<=mg)(t:eh):aP (.app 2 40) [bM l,bM [t]]=Z (bM (l++[t])):=by rw[dM 2 40 J _ _ (by decide) (by simp only[mg,aj,aN,aJ]at *;omega),bM,cE]
section
variable {L:M eS} (hL:L.length<=mg) {a b c d nmv:D} {o:Int}
include hL
theorem Ej{i:Nat}{bad:Bool}(h:ki L i bad 4 zw=I) :
  G 401 (cP L i bad o++[.str zw])=Z (0,.bool I::cP L (i+1) bad o)/\
  G 398 (cP L (i+1) bad o++[E 1])=Z (0,.str (tA L (i+1) bad).1::cP L (tA L (i+1) bad).2.1 (tA L (i+1) bad).2.2 o)/\
  G 402 (cP L (tA L (i+1) bad).2.1 (tA L (i+1) bad).2.2 o++[.str eqA])=Z (0,cP L (tB L (i+1) bad).1 (tB L (i+1) bad).2 o)/\
  G 398 (cP L (tB L (i+1) bad).1 (tB L (i+1) bad).2 o++[E 3])=Z (0,.str (tC L (i+1) bad).1::cP L (tC L (i+1) bad).2.1 (tC L (i+1) bad).2.2 o)/\
  G 402 (cP L (tC L (i+1) bad).2.1 (tC L (i+1) bad).2.2 o++[.str rbA])=Z (0,cP L (tD L (i+1) bad).1 (tD L (i+1) bad).2 o):=by have e:=It (i:=i) (bad:=bad) (o:=o) hL (t:=zw);rw[h]at e;unfold yX at e;rw[if_pos h]at e;exact⟨e,ajo hL,aoR hL,ajo hL,aoR hL⟩
theorem Wr:∀(m i:Nat) (bad:Bool) (e:M fP),L.length<=i+m->i<=L.length->e.length<=i->
  bG (lB G ue) (1,[a,b,c,d,nmv,E (i:Int),.bool bad,E o,cN e,cF L]) =
   Z (1,[.bool J,a,b,c,d,nmv,E ((lV L m i bad e).2.1:Int),.bool (lV L m i bad e).2.2,E o,cN (lV L m i bad e).1,cF L]):=by intro m;induction m with|zero=>{intro i bad e y x w;have h:ki L i bad 4 zw=J:=by{cases h:ki L i bad 4 zw;{rfl};have:=(fM h).1;omega};have f:=It (i:=i) (bad:=bad) (o:=o) hL (t:=zw);rw[h]at f;unfold yX at f;rw[if_neg (by rw[h];simp)]at f;simp only[cP,av,au]at f;refine aK ?_;simp only[go_sem,bc,ue,qu,f,lV]}|succ m r=>intro i bad e y x w;cases h:ki L i bad 4 zw;{have f:=It (i:=i) (bad:=bad) (o:=o) hL (t:=zw);rw[h]at f;unfold yX at f;rw[if_neg (by rw[h];simp)]at f;simp only[cP,av,au]at f;unfold lV;rw[if_neg (by rw[h];simp)];refine aK ?_;simp only[go_sem,bc,ue,qu,f]};obtain⟨q,p,n,k,j⟩:=Ej (o:=o) hL h;have v:=uy (bad:=bad) (show i+1<=L.length from (fM h).1);simp only[cP,av,au]at q p n k j;have g:=IK (l:=e) (by omega) (fk L (i+1) bad).1;have s:=r (fk L (i+1) bad).2.1 (fk L (i+1) bad).2.2 (e++[(fk L (i+1) bad).1]) (by omega) v.2.2 (by rw[ay,aL];omega);unfold lV;rw[if_pos h];rw[<- s];unfold fk at g ⊢;refine bD ?_;simp only[go_sem,bc,ue,qu,J4,J5,q,p,n,k,j,JI,g]
theorem aa4{i:Nat}{bad:Bool}(A:i<=L.length):∃R,bG (lB G ue) (0,[a,b,c,d,nmv,E (i:Int),.bool bad,E o,cF L])=Z R/\
  (((lV L L.length i bad []).1=[]/\R=(0,[.bool J,a,b,c,d,nmv,E ((lV L L.length i bad []).2.1:Int),.bool (lV L L.length i bad []).2.2,E o,cF L]))\/
   R=(1,[.bool J,a,b,c,d,nmv,E ((lV L L.length i bad []).2.1:Int),.bool (lV L L.length i bad []).2.2,E o,cN (lV L L.length i bad []).1,cF L])):=by cases h:ki L i bad 4 zw;{have f:=It (i:=i) (bad:=bad) (o:=o) hL (t:=zw);rw[h]at f;unfold yX at f;rw[if_neg (by rw[h];simp)]at f;simp only[cP,av,au]at f;have e:lV L L.length i bad []=([],i,bad):=by{cases L.length with|zero=>{rfl}|succ m=>unfold lV;rw[if_neg (by rw[h];simp)]};rw[e];refine⟨_,aK (r:=(0,[.bool J,a,b,c,d,nmv,E (i:Int),.bool bad,E o,cF L])) ?_,.inl ⟨rfl,rfl⟩⟩;simp only[go_sem,bc,ue,qu,f]};obtain⟨s,q,p,n,j⟩:=Ej (o:=o) hL h;have y:=(fM h).1;have x:=uy (bad:=bad) (show i+1<=L.length from y);simp only[cP,av,au]at s q p n j;have g:aP (.app 2 32) [.list 2 I [],cN [(fk L (i+1) bad).1]]=Z (cN [(fk L (i+1) bad).1]):=IK (l:=[]) (by simp) _;obtain⟨k,w⟩:∃k,L.length=k+1:=⟨L.length - 1,by omega⟩;have v:=Wr hL (a:=a) (b:=b) (c:=c) (d:=d) (nmv:=nmv) (o:=o) k (fk L (i+1) bad).2.1 (fk L (i+1) bad).2.2 ([]++[(fk L (i+1) bad).1]) (by omega) x.2.2 (by simp;omega);have e:lV L L.length i bad []=lV L k (fk L (i+1) bad).2.1 (fk L (i+1) bad).2.2 ([]++[(fk L (i+1) bad).1]):=by{rw[w];(conv=>lhs;unfold lV);rw[if_pos h]};rw[e];refine⟨_,(bD ?_).trans v,.inr rfl⟩;unfold fk at g ⊢;simp only[go_sem,bc,ue,qu,J4,J5,s,q,p,n,j,JI,g]
theorem Ws{st:D}:∀(m i:Nat) (bad:Bool) (e:M fP),L.length<=i+m->i<=L.length->e.length<=i->
  bG (lB G uf) (1,[a,b,c,d,nmv,E (i:Int),.bool bad,E o,cN e,st,cF L]) =
   Z (1,[.bool J,a,b,c,d,nmv,E ((lV L m i bad e).2.1:Int),.bool (lV L m i bad e).2.2,E o,cN (lV L m i bad e).1,st,cF L]):=by intro m;induction m with|zero=>{intro i bad e y x w;have h:ki L i bad 4 zw=J:=by{cases h:ki L i bad 4 zw;{rfl};have:=(fM h).1;omega};have f:=It (i:=i) (bad:=bad) (o:=o) hL (t:=zw);rw[h]at f;unfold yX at f;rw[if_neg (by rw[h];simp)]at f;simp only[cP,av,au]at f;refine aK ?_;simp only[go_sem,bc,uf,qu,f,lV]}|succ m r=>intro i bad e y x w;cases h:ki L i bad 4 zw;{have f:=It (i:=i) (bad:=bad) (o:=o) hL (t:=zw);rw[h]at f;unfold yX at f;rw[if_neg (by rw[h];simp)]at f;simp only[cP,av,au]at f;unfold lV;rw[if_neg (by rw[h];simp)];refine aK ?_;simp only[go_sem,bc,uf,qu,f]};obtain⟨q,p,n,k,j⟩:=Ej (o:=o) hL h;have v:=uy (bad:=bad) (show i+1<=L.length from (fM h).1);simp only[cP,av,au]at q p n k j;have g:=IK (l:=e) (by omega) (fk L (i+1) bad).1;have s:=r (fk L (i+1) bad).2.1 (fk L (i+1) bad).2.2 (e++[(fk L (i+1) bad).1]) (by omega) v.2.2 (by rw[ay,aL];omega);unfold lV;rw[if_pos h];rw[<- s];unfold fk at g ⊢;refine bD ?_;simp only[go_sem,bc,uf,qu,J4,J5,q,p,n,k,j,JI,g]
theorem aa5{st:D}{i:Nat}{bad:Bool}(A:i<=L.length):∃R,bG (lB G uf) (0,[a,b,c,d,nmv,E (i:Int),.bool bad,E o,st,cF L])=Z R/\
  (((lV L L.length i bad []).1=[]/\R=(0,[.bool J,a,b,c,d,nmv,E ((lV L L.length i bad []).2.1:Int),.bool (lV L L.length i bad []).2.2,E o,st,cF L]))\/
   R=(1,[.bool J,a,b,c,d,nmv,E ((lV L L.length i bad []).2.1:Int),.bool (lV L L.length i bad []).2.2,E o,cN (lV L L.length i bad []).1,st,cF L])):=by cases h:ki L i bad 4 zw;{have f:=It (i:=i) (bad:=bad) (o:=o) hL (t:=zw);rw[h]at f;unfold yX at f;rw[if_neg (by rw[h];simp)]at f;simp only[cP,av,au]at f;have e:lV L L.length i bad []=([],i,bad):=by{cases L.length with|zero=>{rfl}|succ m=>unfold lV;rw[if_neg (by rw[h];simp)]};rw[e];refine⟨_,aK (r:=(0,[.bool J,a,b,c,d,nmv,E (i:Int),.bool bad,E o,st,cF L])) ?_,.inl ⟨rfl,rfl⟩⟩;simp only[go_sem,bc,uf,qu,f]};obtain⟨s,q,p,n,j⟩:=Ej (o:=o) hL h;have y:=(fM h).1;have x:=uy (bad:=bad) (show i+1<=L.length from y);simp only[cP,av,au]at s q p n j;have g:aP (.app 2 32) [.list 2 I [],cN [(fk L (i+1) bad).1]]=Z (cN [(fk L (i+1) bad).1]):=IK (l:=[]) (by simp) _;obtain⟨k,w⟩:∃k,L.length=k+1:=⟨L.length - 1,by omega⟩;have v:=Ws hL (a:=a) (b:=b) (c:=c) (d:=d) (nmv:=nmv) (o:=o) (st:=st) k (fk L (i+1) bad).2.1 (fk L (i+1) bad).2.2 ([]++[(fk L (i+1) bad).1]) (by omega) x.2.2 (by simp;omega);have e:lV L L.length i bad []=lV L k (fk L (i+1) bad).2.1 (fk L (i+1) bad).2.2 ([]++[(fk L (i+1) bad).1]):=by{rw[w];(conv=>lhs;unfold lV);rw[if_pos h]};rw[e];refine⟨_,(bD ?_).trans v,.inr rfl⟩;unfold fk at g ⊢;simp only[go_sem,bc,uf,qu,J4,J5,s,q,p,n,j,JI,g]
end
section
variable {L:M eS} (hL:L.length<=mg) {r1 u1 rt up:D} {o:Int}
include hL
theorem PD{i:Nat}:G 398 (cP L i J o++[E 1])=Z (0,.str (mi L i J 1).1::cP L (mi L i J 1).2.1 (mi L i J 1).2.2 o):=ajo hL
theorem AU{i:Nat}{bad:Bool}:G 401 (cP L i bad o++[.str AT])=Z (0,.bool (ki L i bad 4 AT)::cP L (if ki L i bad 4 AT=I then i+1 else i) bad o):=It hL
theorem Wt:∀(m i:Nat) (bad:Bool) (e:M eh),L.length+1<=i+m->i<=L.length->e.length<=i->
  bG (lB G nw) (1,[.bool I,r1,u1,rt,up,E (i:Int),.bool bad,E o,bM e,cF L]) =
   Z (1,[.bool J,r1,u1,rt,up,E ((oO L m i bad e).2.1:Int),.bool (oO L m i bad e).2.2,E o,bM (oO L m i bad e).1,cF L]):=by intro m;induction m with|zero=>{intro i bad e F r;omega}|succ m y=>intro i bad e F r K;cases bad;{have s:=PD (o:=o) hL (i:=i);have C:=Ho r;have A:=CL (bad:=J) (k:=1) r;obtain⟨R,x,H⟩:=aa5 hL (a:=r1) (b:=u1) (c:=rt) (d:=up) (nmv:=.str (mi L i J 1).1) (o:=o) (st:=bM e) (i:=(mi L i J 1).2.1) (bad:=(mi L i J 1).2.2) A.2.2.1;have g:=AU (o:=o) hL (i:=(mC L i).2.1) (bad:=(mC L i).2.2);have p:=Na (l:=e) (by omega) (mC L i).1;unfold oO;rw[if_neg (by simp)];have w:(mC L i).1=⟨(mi L i J 1).1,(lV L L.length (mi L i J 1).2.1 (mi L i J 1).2.2 []).1⟩:=rfl;have h:(mC L i).2=(lV L L.length (mi L i J 1).2.1 (mi L i J 1).2.2 []).2:=rfl;simp only[cP,av,au]at s g;rw[h]at g C;rw[h];generalize lV L L.length (mi L i J 1).2.1 (mi L i J 1).2.2 []=q at *;obtain⟨t,i2,j⟩:=q;dsimp only at *;have B:=Av (mi L i J 1).1 t;have n:aP (.lu 2 J) [.str (mi L i J 1).1,.list 2 I []]=Z (bM [⟨(mi L i J 1).1,[]⟩]):=Av _ [];rw[w]at p;rw[w];have go:∀v:Bool,ki L i2 j 4 AT=v->lB G nw (1,[.bool I,r1,u1,rt,up,E (i:Int),.bool J,E o,bM e,cF L])=Z (.go (1,[.bool v,r1,u1,rt,up,E ((if v=I then i2+1 else i2:Nat):Int),.bool j,E o,bM (e++[⟨(mi L i J 1).1,t⟩]),cF L])):=by{intro v f;rw[f]at g;rcases H with ⟨rfl,rfl⟩|rfl;{simp only[go_sem,bc,nw,jY,s,x,Md,n,p,g]};simp only[go_sem,bc,nw,jY,s,x,Md,B,p,g]};cases f:ki L i2 j 4 AT;{rw[if_neg (by simp),bD (go J f)];refine aK ?_;simp only[go_sem,bc,nw]};rw[if_pos rfl,bD (go I f),if_pos rfl];exact y (i2+1) j _ (by omega) (fM f).1 (by rw[ay,aL];omega)};unfold oO;rw[if_pos rfl];refine aK ?_;simp only[go_sem,bc,nw]
theorem OF{x:D}{i:Nat}{bad more:Bool}(w:i<=L.length):∃R,bG (lB G nw) (0,[.bool more,x,r1,u1,rt,up,E (i:Int),.bool bad,E o,cF L])=Z R/\
  (((if more=I then oO L (L.length+1) i bad [] else ([],i,bad)).1=[]/\R=(0,[.bool J,r1,u1,rt,up,E ((if more=I then oO L (L.length+1) i bad [] else ([],i,bad)).2.1:Int),.bool (if more=I then oO L (L.length+1) i bad [] else ([],i,bad)).2.2,E o,cF L]))\/
   R=(1,[.bool J,r1,u1,rt,up,E ((if more=I then oO L (L.length+1) i bad [] else ([],i,bad)).2.1:Int),.bool (if more=I then oO L (L.length+1) i bad [] else ([],i,bad)).2.2,E o,bM (if more=I then oO L (L.length+1) i bad [] else ([],i,bad)).1,cF L])):=by cases more;{refine⟨_,aK (r:=(0,[.bool J,r1,u1,rt,up,E (i:Int),.bool bad,E o,cF L])) ?_,.inl ⟨rfl,rfl⟩⟩;simp only[go_sem,bc,nw]};rw[if_pos rfl];cases bad;{have s:=PD (o:=o) hL (i:=i);have H:=Ho w;have B:=CL (bad:=J) (k:=1) w;obtain⟨R,A,N⟩:=aa4 hL (a:=r1) (b:=u1) (c:=rt) (d:=up) (nmv:=.str (mi L i J 1).1) (o:=o) (i:=(mi L i J 1).2.1) (bad:=(mi L i J 1).2.2) B.2.2.1;have g:=AU (o:=o) hL (i:=(mC L i).2.1) (bad:=(mC L i).2.2);have p:aP (.app 2 40) [.list 2 J [],bM [(mC L i).1]]=Z (bM [(mC L i).1]):=Na (l:=[]) (by simp) _;have e:oO L (L.length+1) i J []=if ki L (mC L i).2.1 (mC L i).2.2 4 AT=I then oO L L.length ((mC L i).2.1+1) (mC L i).2.2 [(mC L i).1] else ([(mC L i).1],(mC L i).2):=by{(conv=>lhs;unfold oO);rw[if_neg (by simp)];rfl};rw[e];have t:(mC L i).1=⟨(mi L i J 1).1,(lV L L.length (mi L i J 1).2.1 (mi L i J 1).2.2 []).1⟩:=rfl;have j:(mC L i).2=(lV L L.length (mi L i J 1).2.1 (mi L i J 1).2.2 []).2:=rfl;simp only[cP,av,au]at s g;clear e;rw[j]at g H;rw[j];rw[t]at p;rw[t];generalize lV L L.length (mi L i J 1).2.1 (mi L i J 1).2.2 []=q at *;obtain⟨m,i2,h⟩:=q;dsimp only at *;have F:=Av (mi L i J 1).1 m;have n:aP (.lu 2 J) [.str (mi L i J 1).1,.list 2 I []]=Z (bM [⟨(mi L i J 1).1,[]⟩]):=Av _ [];have go:∀v:Bool,ki L i2 h 4 AT=v->lB G nw (0,[.bool I,x,r1,u1,rt,up,E (i:Int),.bool J,E o,cF L])=Z (.go (1,[.bool v,r1,u1,rt,up,E ((if v=I then i2+1 else i2:Nat):Int),.bool h,E o,bM [⟨(mi L i J 1).1,m⟩],cF L])):=by{intro v f;rw[f]at g;rcases N with ⟨rfl,rfl⟩|rfl;{simp only[go_sem,bc,nw,jY,s,A,Md,n,p,g]};simp only[go_sem,bc,nw,jY,s,A,Md,F,p,g]};cases f:ki L i2 h 4 AT;{rw[if_neg (by simp)];refine⟨_,(bD (go J f)).trans (aK (r:=(1,[.bool J,r1,u1,rt,up,E (i2:Int),.bool h,E o,bM [⟨(mi L i J 1).1,m⟩],cF L])) ?_),.inr rfl⟩;simp only[go_sem,bc,nw]};rw[if_pos rfl];have K:=(fM f).1;have C:=Wt hL (r1:=r1) (u1:=u1) (rt:=rt) (up:=up) (o:=o) L.length (i2+1) h [⟨(mi L i J 1).1,m⟩] (by omega) K (by simp);have y:=go I f;rw[if_pos rfl]at y;exact⟨_,(bD y).trans C,.inr rfl⟩};have e:oO L (L.length+1) i I []=([],i,I):=by{unfold oO;rw[if_pos rfl]};rw[e];refine⟨_,aK (r:=(0,[.bool J,r1,u1,rt,up,E (i:Int),.bool I,E o,cF L])) ?_,.inl ⟨rfl,rfl⟩⟩;simp only[go_sem,bc,nw]
theorem S5{i:Nat}{bad:Bool}:G 401 (cP L i bad o++[.str Nu])=Z (0,.bool (ki L i bad 4 Nu)::cP L (if ki L i bad 4 Nu=I then i+1 else i) bad o):=It hL
theorem Wu:∀(m i:Nat) (bad:Bool) (a:Nat),L.length+1<=i+m->i<=L.length->a<=i->
  bG (lB G qc) (1,[.bool I,r1,u1,.bool J,E (a:Int),E (i:Int),.bool bad,E o,cF L]) =
   Z (0,[.bool (rD L m i bad a).2.2,.bool J,r1,u1,.bool J,E ((rD L m i bad a).1:Int),E ((rD L m i bad a).2.1:Int),.bool bad,E o,cF L]):=by intro m;induction m with|zero=>{intro i bad a g c;omega}|succ m f=>intro i bad a g c j;have b:=S5 (o:=o) hL (i:=i) (bad:=bad);simp only[cP,av,au]at b;unfold rD;cases h:ki L i bad 4 Nu;{rw[h]at b;rw[if_neg (by simp)];refine aK ?_;simp only[go_sem,bc,qc,pa,b]};rw[h]at b;rw[if_pos rfl];have k:=(fM h).1;(have e:IntKind.i64.wrap ((a:Int)+1)=((a+1:Nat):Int):=by simp only[mg]at hL;rw[wrap_i64 (by omega)];omega);have d:=AU (o:=o) hL (i:=i+1) (bad:=bad);simp only[cP,av,au]at d;cases c:ki L (i+1) bad 4 AT;{rw[c]at d;rw[if_neg (by simp)];refine (bD (s':=(1,[.bool J,r1,u1,.bool J,E ((a+1:Nat):Int),E ((i+1:Nat):Int),.bool bad,E o,cF L])) ?_).trans (aK ?_);{simp only[go_sem,bc,qc,pa,jY,b,d,e]};simp only[go_sem,bc,qc]};rw[c]at d;rw[if_pos rfl,<- f (i+2) bad (a+1) (by omega) (fM c).1 (by omega)];refine bD ?_;simp only[go_sem,bc,qc,pa,jY,b,d,e]
end
theorem uz(b:Bool):aP .pl [.bool b]=Z (.bool J):=(rfl)
section
variable {L:M eS} (hL:bO mK L<=8388608) {o:Int}
include hL
theorem uD:L.length<=mg:=by simp only[bO,mg]at *;omega
theorem aa6{r1 u1 x:D}{i:Nat}{bad:Bool}(f:i<=L.length) :
  bG (lB G qc) (0,[.bool I,x,r1,u1,.bool J,E 0,E (i:Int),.bool bad,E o,cF L]) =
   Z (0,[.bool (rD L (L.length+1) i bad 0).2.2,.bool J,r1,u1,.bool J,E ((rD L (L.length+1) i bad 0).1:Int),E ((rD L (L.length+1) i bad 0).2.1:Int),.bool bad,E o,cF L]):=by have c:=uD hL;have a:=S5 (o:=o) c (i:=i) (bad:=bad);simp only[cP,av,au]at a;unfold rD;cases h:ki L i bad 4 Nu;{rw[h]at a;rw[if_neg (by simp)];refine aK ?_;simp only[go_sem,bc,qc,pa,a];rfl};rw[h]at a;rw[if_pos rfl];have g:=(fM h).1;have e:IntKind.i64.wrap 1=1:=rfl;have b:=AU (o:=o) c (i:=i+1) (bad:=bad);simp only[cP,av,au]at b;cases d:ki L (i+1) bad 4 AT;{rw[d]at b;rw[if_neg (by simp)];refine (bD (s':=(1,[.bool J,r1,u1,.bool J,E ((0+1:Nat):Int),E ((i+1:Nat):Int),.bool bad,E o,cF L])) ?_).trans (aK ?_);{simp only[go_sem,bc,qc,pa,jY,a,b,e]};simp only[go_sem,bc,qc]};rw[d]at b;rw[if_pos rfl,<- Wu c L.length (i+2) bad (0+1) (by omega) (fM d).1 (by omega)];refine bD ?_;simp only[go_sem,bc,qc,pa,jY,a,b,e]
theorem ass{i:Nat}{bad:Bool}(r:i<=L.length):G 406 (cP L i bad o)=Z (0,bT (rn L i bad).1++cP L (rn L i bad).2.1 (rn L i bad).2.2 o):=by have j:=uD hL;have b:=AU (o:=o) j (i:=i) (bad:=bad);have A:=RD (bad:=bad) r;have a:=ae8 (p:=(Ma L i bad).1) (by simp only[mg];omega);unfold rn;have c:Ma L i bad=Ma L i bad:=rfl;(conv at c=>rhs;unfold Ma);simp only[cP,av,au]at b;cases h:ki L i bad 4 AT;{rw[h]at b c;rw[if_neg (by simp)]at c;have e:=aa6 hL (r1:=.bool J) (u1:=E 0) (x:=.bool J) (o:=o) (bad:=bad) r;have v:=MF (m:=L.length+1) (bad:=bad) (u:=0) r;obtain⟨R,d,f⟩:=OF j (r1:=.bool J) (u1:=E 0) (rt:=.bool J) (up:=E ((rD L (L.length+1) i bad 0).1:Int)) (o:=o) (x:=.bool J) (bad:=bad) (more:=(rD L (L.length+1) i bad 0).2.2) v.2.1;have s:Ma L i bad=(⟨J,(rD L (L.length+1) i bad 0).1,(if (rD L (L.length+1) i bad 0).2.2=I then oO L (L.length+1) (rD L (L.length+1) i bad 0).2.1 bad [] else ([],(rD L (L.length+1) i bad 0).2.1,bad)).1⟩,(if (rD L (L.length+1) i bad 0).2.2=I then oO L (L.length+1) (rD L (L.length+1) i bad 0).2.1 bad [] else ([],(rD L (L.length+1) i bad 0).2.1,bad)).2):=by{rw[c];split<;>rfl};clear c;rw[s]at a ⊢;generalize (if (rD L (L.length+1) i bad 0).2.2=I then oO L (L.length+1) (rD L (L.length+1) i bad 0).2.1 bad [] else ([],(rD L (L.length+1) i bad 0).2.1,bad))=q at *;obtain⟨l,i2,y⟩:=q;simp only[bT,cP,av,au]at a f ⊢;refine bW Ix rfl ?_;cases n:gA ⟨J,((rD L (L.length+1) i bad 0).1:Int),l⟩<;>rw[n]at a;{rcases f with ⟨rfl,rfl⟩|rfl;{have a:G 205 [.bool J,E ((rD L (L.length+1) i bad 0).1:Int),.list 2 J []]=_:=a;simp only[go_sem,Ix,jY,b,e,d,a,db,dX];rfl};simp only[go_sem,Ix,jY,b,e,d,uz,a,db,dX]};rcases f with ⟨rfl,rfl⟩|rfl;{have a:G 205 [.bool J,E ((rD L (L.length+1) i bad 0).1:Int),.list 2 J []]=_:=a;simp only[go_sem,Ix,jY,b,e,d,a,dr,dB];rfl};simp only[go_sem,Ix,jY,b,e,d,uz,a,dr,dB]};rw[h]at b c;rw[if_pos rfl]at c;have w:=(fM h).1;have g:=ajn (i:=i+1) (bad:=bad) (o:=o) j (k:=1) (t:=l8);have e:bG (lB G Rg) (0,[.bool (ki L (i+1) bad 1 l8),.bool J,E 0,.bool I,E 0,E ((i+1:Nat):Int),.bool bad,E o,cF L])=Z (0,[.bool (ki L (i+1) bad 1 l8),.bool J,.bool J,E 0,.bool I,E 0,E ((i+1:Nat):Int),.bool bad,E o,cF L]):=by{refine aK ?_;cases ki L (i+1) bad 1 l8<;>simp only[go_sem,bc,Rg]};obtain⟨R,d,f⟩:=OF j (r1:=.bool J) (u1:=E 0) (rt:=.bool I) (up:=E 0) (o:=o) (x:=.bool J) (bad:=bad) (more:=ki L (i+1) bad 1 l8) (show i+1<=L.length from w);have s:Ma L i bad=(⟨I,0,(if ki L (i+1) bad 1 l8=I then oO L (L.length+1) (i+1) bad [] else ([],i+1,bad)).1⟩,(if ki L (i+1) bad 1 l8=I then oO L (L.length+1) (i+1) bad [] else ([],i+1,bad)).2):=by{rw[c];split<;>rfl};clear c;rw[s]at a ⊢;generalize (if ki L (i+1) bad 1 l8=I then oO L (L.length+1) (i+1) bad [] else ([],i+1,bad))=q at *;obtain⟨l,i2,y⟩:=q;simp only[bT,cP,av,au]at a f g ⊢;refine bW Ix rfl ?_;cases n:gA ⟨I,0,l⟩<;>rw[n]at a;{rcases f with ⟨rfl,rfl⟩|rfl;{have a:G 205 [.bool I,E 0,.list 2 J []]=_:=a;simp only[go_sem,Ix,jY,D1,b,g,e,d,a,db,dX];rfl};simp only[go_sem,Ix,jY,D1,b,g,e,d,uz,a,db,dX]};rcases f with ⟨rfl,rfl⟩|rfl;{have a:G 205 [.bool I,E 0,.list 2 J []]=_:=a;simp only[go_sem,Ix,jY,D1,b,g,e,d,a,dr,dB];rfl};simp only[go_sem,Ix,jY,D1,b,g,e,d,uz,a,dr,dB]
end
def aoU{s:z}(g:s.size<=4194304):G 421 [.str s]=Z (0,bT (eO s).1++[.bool (eO s).2]):=by have c:=asq g;(have e:bO mK (kL s).1<=8388608:=by have:=LW s;omega);have b:=ass e (o:=0) (i:=0) (bad:=Z' (0<=(kL s).2)) (bI _);unfold eO;dsimp only;generalize rn (kL s).1 0 (Z' (0<=(kL s).2))=q at *;obtain⟨p,i2,f⟩:=q;have a:=ast (uD e) (i:=i2) (bad:=f) (o:=0);simp only[bT,cP,av,au]at c b a;refine bW afG rfl ?_;cases f;{by_cases h:i2=(kL s).1.length;{rw[if_pos ⟨rfl,h⟩];(have d:Z' (i2=(kL s).1.length)=I:=by simpa using h);rw[d]at a;simp only[go_sem,afG,c,b,a,bT]};rw[if_neg (λx=>h x.2)];(have d:Z' (i2=(kL s).1.length)=J:=by simpa using h);rw[d]at a;simp only[go_sem,afG,c,b,a,bT];rfl};rw[if_neg (λx=>by cases x.1)];simp only[go_sem,afG,c,b,a,bT];rfl
def fu(b:Bool)(f:cJ):M cJ:=if b=I then [f] else []
def gL(t:M aD)(n:ao)(x:aD)(a:M z)(at_:M Int):M cJ:=
 fu (!fj t n.when at_) ⟨6,a,at_⟩++(fu (!fj t n.gZ at_) ⟨7,a,at_⟩++fu (Z' (n.type.ax=5) && !iB (qR t at_ (eO n.type.path).1) x.bo) ⟨8,a,at_⟩)
def Jh(l:M z)(v x:z):iB (l++[v]) x=(iB l x ||decide (v=x)):=by unfold iB;rw[List.any_append];simp only[g_,List.any_nil,dB];congr 1;exact decide_eq_decide.2 eq_comm
section
variable {ns at_ nm ks t o:D} {V:M z} {x:z}
theorem aic{i:Nat}{v:z}(a:nth V i=Z v)(e:V.length<=mg):lB G qe (0,[ns,at_,.bool (iB (V.take i) x),E (i:Int),nm,.str x,ks,t,aI V,o])=Z (.go (1,[ns,at_,aI V,.bool (iB (V.take (i+1)) x),E ((i+1:Nat):Int),nm,.str x,ks,t,aI V,o])):=by have c:=aY a;have d:=wj c e;have f:=wJ a;rw[cd _ _ _ a,Jh];generalize iB (V.take i) x=b;cases b<;>simp only[go_sem,bc,qe,aj,c,f,d]
theorem aid{i:Nat}{v:z}(a:nth V i=Z v)(e:V.length<=mg):lB G qe (1,[ns,at_,aI V,.bool (iB (V.take i) x),E (i:Int),nm,.str x,ks,t,aI V,o])=Z (.go (1,[ns,at_,aI V,.bool (iB (V.take (i+1)) x),E ((i+1:Nat):Int),nm,.str x,ks,t,aI V,o])):=by have c:=aY a;have d:=wj c e;have f:=wJ a;rw[cd _ _ _ a,Jh];generalize iB (V.take i) x=b;cases b<;>simp only[go_sem,bc,qe,aj,c,f,d]
theorem aie{b:Bool}:lB G qe (0,[ns,at_,.bool b,E V.length,nm,.str x,ks,t,aI V,o])=Z (.out (0,[ns,at_,.bool b,E V.length,.bool J,nm,.str x,ks,t,aI V,o])):=by simp only[go_sem,bc,qe,aj,aE]
theorem aif{b:Bool}:lB G qe (1,[ns,at_,aI V,.bool b,E V.length,nm,.str x,ks,t,aI V,o])=Z (.out (1,[ns,at_,aI V,.bool b,E V.length,.bool J,nm,.str x,ks,t,aI V,o])):=by simp only[go_sem,bc,qe,aj,aE]
theorem aee(c:V.length<=mg):∃R,bG (lB G qe) (0,[ns,at_,.bool J,E 0,nm,.str x,ks,t,aI V,o])=Z R/\(R=(0,[ns,at_,.bool (iB V x),E V.length,.bool J,nm,.str x,ks,t,aI V,o])\/R=(1,[ns,at_,aI V,.bool (iB V x),E V.length,.bool J,nm,.str x,ks,t,aI V,o])):=by cases V with|nil=>{exact⟨_,aK (aie (V:=[]) (b:=J)),.inl rfl⟩}|cons v a=>have f:=aic (V:=v::a) (x:=x) (i:=0) (v:=v) (ns:=ns) (at_:=at_) (nm:=nm) (ks:=ks) (t:=t) (o:=o) rfl c;have e:=cI (b:=lB G qe) (v::a) (λi (b:Bool)=>(1,[ns,at_,aI (v::a),.bool b,E (i:Int),nm,.str x,ks,t,aI (v::a),o])) (λi=>iB ((v::a).take i) x) (1,[ns,at_,aI (v::a),.bool (iB (v::a) x),E (v::a).length,.bool J,nm,.str x,ks,t,aI (v::a),o]) (λi y d=>aid d c) (by rw[bl];exact aif) a.length 1 (by simp only[aN];omega);exact⟨_,(bD f).trans e,.inr rfl⟩
end
def ao1{t:M aD}{out:M cJ}{n:ao}{x:aD}{ns:M z}{at_:M Int}(F:bO bh t+1<=mg)(N:at_.length+dV (aA n)<=mg)(K:n.type.path.size<=4194304)(B:at_.length+dV (bT (eO n.type.path).1)<=mg)(P:out.length+3<=1073741824)(H:ns.length<=mg) :
  G 469 ([az t,bH out]++(aA n++(bh x++[aI ns,bE at_])))=Z (0,[az t,bH (out++gL t n x ns at_)]):=by have L:=ck n;(have C:at_.length<=mg:=by omega);have y:=λo:M cJ=>XG (t:=t) (out:=o) (es:=n.when) (at_:=at_) F (by omega);have A:=λo:M cJ=>XG (t:=t) (out:=o) (es:=n.gZ) (at_:=at_) F (by omega);have fa:=λ(o:M cJ) (c:Int) (h:o.length<=1073741824)=>XH (T_:=az t) (out:=o) (c:=c) (ns:=ns) (at_:=at_) h H C;have d:=aoU K;have b:=aoZ (l:=t) (at_:=at_) (p:=(eO n.type.path).1) (by omega) B;have Q:=A5 t at_ (eO n.type.path).1;simp only[bT,av,au]at d b;have lp:=λa:D=>aee (ns:=aI ns) (at_:=bE at_) (nm:=.str x.aq) (ks:=az x.ai) (t:=az t) (o:=a) (V:=qR t at_ (eO n.type.path).1) (x:=x.bo) (by omega);refine bW CJ (by rw[ak,aO];rfl) ?_;cases q:fj t n.when at_;{cases m:fj t n.gZ at_;{have k:=y out;rw[q]at k;have w:=fa out 6 (by omega);have j:=A (out++[⟨6,ns,at_⟩]);rw[m]at j;have v:=fa (out++[⟨6,ns,at_⟩]) 7 (by first|omega|(simp only[ay,aL];omega));by_cases e:n.type.ax=5;{obtain⟨R,r,g⟩:=lp (bH ((out++[⟨6,ns,at_⟩])++[⟨7,ns,at_⟩]));cases i:iB (qR t at_ (eO n.type.path).1) x.bo;{have s:=fa ((out++[⟨6,ns,at_⟩])++[⟨7,ns,at_⟩]) 8 (by first|omega|(simp only[ay,aL];omega));(have f:out++gL t n x ns at_=(((out++[⟨6,ns,at_⟩])++[⟨7,ns,at_⟩])++[⟨8,ns,at_⟩]):=by simp[gL,fu,q,m,e,i]);rw[f];rw[i]at g;rcases g with rfl|rfl<;>simp only[go_sem,CJ,ak,aO,k,w,j,v,e,d,b,r,s]};(have f:out++gL t n x ns at_=((out++[⟨6,ns,at_⟩])++[⟨7,ns,at_⟩]):=by simp[gL,fu,q,m,e,i]);rw[f];rw[i]at g;rcases g with rfl|rfl<;>simp only[go_sem,CJ,ak,aO,k,w,j,v,e,d,b,r]};(have f:out++gL t n x ns at_=((out++[⟨6,ns,at_⟩])++[⟨7,ns,at_⟩]):=by simp[gL,fu,q,m,e]);rw[f];simp only[go_sem,CJ,ak,aO,k,w,j,v,e]};have k:=y out;rw[q]at k;have w:=fa out 6 (by omega);have j:=A (out++[⟨6,ns,at_⟩]);rw[m]at j;by_cases e:n.type.ax=5;{obtain⟨R,r,g⟩:=lp (bH (out++[⟨6,ns,at_⟩]));cases i:iB (qR t at_ (eO n.type.path).1) x.bo;{have s:=fa (out++[⟨6,ns,at_⟩]) 8 (by first|omega|(simp only[ay,aL];omega));(have f:out++gL t n x ns at_=((out++[⟨6,ns,at_⟩])++[⟨8,ns,at_⟩]):=by simp[gL,fu,q,m,e,i]);rw[f];rw[i]at g;rcases g with rfl|rfl<;>simp only[go_sem,CJ,ak,aO,k,w,j,e,d,b,r,s]};(have f:out++gL t n x ns at_=(out++[⟨6,ns,at_⟩]):=by simp[gL,fu,q,m,e,i]);rw[f];rw[i]at g;rcases g with rfl|rfl<;>simp only[go_sem,CJ,ak,aO,k,w,j,e,d,b,r]};(have f:out++gL t n x ns at_=(out++[⟨6,ns,at_⟩]):=by simp[gL,fu,q,m,e]);rw[f];simp only[go_sem,CJ,ak,aO,k,w,j,e]};cases m:fj t n.gZ at_;{have k:=y out;rw[q]at k;have j:=A out;rw[m]at j;have v:=fa out 7 (by first|omega|(simp only[ay,aL];omega));by_cases e:n.type.ax=5;{obtain⟨R,r,g⟩:=lp (bH (out++[⟨7,ns,at_⟩]));cases i:iB (qR t at_ (eO n.type.path).1) x.bo;{have s:=fa (out++[⟨7,ns,at_⟩]) 8 (by first|omega|(simp only[ay,aL];omega));(have f:out++gL t n x ns at_=((out++[⟨7,ns,at_⟩])++[⟨8,ns,at_⟩]):=by simp[gL,fu,q,m,e,i]);rw[f];rw[i]at g;rcases g with rfl|rfl<;>simp only[go_sem,CJ,ak,aO,k,j,v,e,d,b,r,s]};(have f:out++gL t n x ns at_=(out++[⟨7,ns,at_⟩]):=by simp[gL,fu,q,m,e,i]);rw[f];rw[i]at g;rcases g with rfl|rfl<;>simp only[go_sem,CJ,ak,aO,k,j,v,e,d,b,r]};(have f:out++gL t n x ns at_=(out++[⟨7,ns,at_⟩]):=by simp[gL,fu,q,m,e]);rw[f];simp only[go_sem,CJ,ak,aO,k,j,v,e]};have k:=y out;rw[q]at k;have j:=A out;rw[m]at j;by_cases e:n.type.ax=5;{obtain⟨R,r,g⟩:=lp (bH out);cases i:iB (qR t at_ (eO n.type.path).1) x.bo;{have s:=fa out 8 (by first|omega|(simp only[ay,aL];omega));(have f:out++gL t n x ns at_=(out++[⟨8,ns,at_⟩]):=by simp[gL,fu,q,m,e,i]);rw[f];rw[i]at g;rcases g with rfl|rfl<;>simp only[go_sem,CJ,ak,aO,k,j,e,d,b,r,s]};(have f:out++gL t n x ns at_=out:=by simp[gL,fu,q,m,e,i]);rw[f];rw[i]at g;rcases g with rfl|rfl<;>simp only[go_sem,CJ,ak,aO,k,j,e,d,b,r]};(have f:out++gL t n x ns at_=out:=by simp[gL,fu,q,m,e]);rw[f];simp only[go_sem,CJ,ak,aO,k,j,e]
def WL{n:ao}{l:M aD}{ns at_ t o:D}(m:l.length<=mg) :
  bG (lB G Cd) (0,[az l,ns,at_,E 0,E 0]++(aA n++[t,o]))=Z (0,[az l,ns,at_,E (named l n.aq).length,E l.length,.bool J]++(aA n++[t,o])):=by have h:=cI (b:=lB G Cd) l (λk (c:Nat)=>(0,[az l,ns,at_,E (c:Int),E (k:Int)]++(aA n++[t,o]))) (λk=>(named (l.take k) n.aq).length) (0,[az l,ns,at_,E (named l n.aq).length,E l.length,.bool J]++(aA n++[t,o])) (by intro k x d;have e:=aY d;have f:=wj e m;have g:=il d;have j:=GL d n.aq;have q:(named (l.take k) n.aq).length<=k:=by{have:=eR (λx:aD=>Z' (x.aq=n.aq)) (l.take k);rw[bk]at this;unfold named;omega};rw[j,ay];have i:IntKind.i64.wrap (((named (l.take k) n.aq).length:Int)+1)=(((named (l.take k) n.aq).length+1:Nat):Int):=wi1 (n:=mg+1) (by omega) (by decide);generalize (named (l.take k) n.aq).length=c at *;by_cases a:x.aq=n.aq;{rw[if_pos a,aL];simp only[go_sem,bc,Cd,ak n,aO x,aj,e,g,a,f,i]};rw[if_neg a,aJ,dY];simp only[go_sem,bc,Cd,ak n,aO x,aj,e,g,a,f]) (by simp only[go_sem,bc,Cd,ak n,aj,aE,bl]) l.length 0 (by omega);have p:named [] n.aq=[]:=rfl;rw[br,p,aJ,n0]at h;exact h
def Xt{a:Type}{l:M a}{k j:Nat}{y:a}(h:nth (l.take k) j=Z y):nth l j=Z y/\j<k:=by rw[ek,fQ]at h;rw[ek];split at h;{exact⟨h,by assumption⟩};cases h
def WM{n:ao}{l:M aD}{ns:M z}{at_ t:D}{here:M Int}{out:M cJ}{k:Nat}{x:aD}(i:nth l k=Z x)(H:bO bh l<=mg)(C:n.unique.length<=mg)(F:out.length<=1073741824)(v:ns.length<=mg)(L:here.length<=mg) :
  bG (lB G vT) (0,[az l,aI ns,at_,E (k:Int),bE here,E 0]++(aA n++[t,bE here,bH out]))=Z (if ((l.take k).any λy=>Z' (y.aq=n.aq) && uniq n y x)=I
   then (0,[az l,aI ns,at_,E (k:Int),bE here]++(aA n++[t,bE here,bH (out++[⟨5,ns,here⟩])]))
   else (1,[az l,aI ns,at_,E (k:Int),bE here,E (k:Int),.bool J]++(aA n++[t,bE here,bH out]))):=by
 (have N:l.length<=mg:=by simp only[bO]at H;omega);have P:=aY i;have m:(l.take k).length=k:=by rw[bk];omega
 have h:=q9 (b:=lB G vT) (l.take k) (λj=>(0,[az l,aI ns,at_,E (k:Int),bE here,E (j:Int)]++(aA n++[t,bE here,bH out]))) (λy=>Z' (y.aq=n.aq) && uniq n y x)
  (1,[az l,aI ns,at_,E (k:Int),bE here,E (k:Int),.bool J]++(aA n++[t,bE here,bH out])) (0,[az l,aI ns,at_,E (k:Int),bE here]++(aA n++[t,bE here,bH (out++[⟨5,ns,here⟩])])) (by
  intro j y K;obtain⟨p,d⟩:=Xt K;have q:=wj d (by omega:k<=mg);have o:=il p;have s:=il i;have A:=cq bh (bj p);have Q:=cq bh (bj i);have w:=eF y;have B:=eF x;have f:=asI (n:=n) (a:=y) (b:=x) C (by simp only[bO]at *;omega) (by simp only[bO]at *;omega);have g:=XH (T_:=t) (out:=out) (c:=5) (ns:=ns) (at_:=here) F v L;simp only[ak n,aO,av,au]at f;by_cases e:y.aq=n.aq
  .rw[e]at f;cases r:uniq n y x
   .rw[r]at f;simp only[go_sem,bc,vT,ak n,aO,d,o,s,gq,e,f,q]
   .rw[r]at f;simp only[go_sem,bc,vT,ak n,aO,d,o,s,gq,e,f,g]
  .simp only[go_sem,bc,vT,ak n,aO,d,o,e,q]) (by
  rw[m];simp only[go_sem,bc,vT,ak n,aE])
 rw[n0]at h;exact h
abbrev FK:=M ao->M aD->M z->M Int->M cJ
def mu(r:FK)(t:M aD)(n:ao)(l:M aD)(own:M z)(at_:M Int)(k:Nat)(x:aD):M cJ:=
 if x.aq=n.aq then gL t n x own (at_++[(k:Int)])++(fu ((l.take k).any λy=>Z' (y.aq=n.aq) && uniq n y x) ⟨5,own,at_++[(k:Int)]⟩++if n.ax=2 then r n.ai x.ai own (at_++[(k:Int)]) else []) else []
def gV{a β:Type}(f:Nat->a->M β):Nat->M a->M β
 |_,[]=>[]
 |k,x::xs=>f k x++gV f (k+1) xs
def KN(r:FK)(t:M aD)(n:ao)(l:M aD)(own:M z)(at_:M Int):M cJ:=
 fu (Z' (((named l n.aq).length:Int)<n.min) && fj t n.when (at_++[-1]) ||decide (0<n.max) && Z' (n.max<((named l n.aq).length:Int))) ⟨4,own,at_⟩++gV (mu r t n l own at_) 0 l
def oA(r:FK)(t:M aD)(l:M aD)(a:M z)(at_:M Int)(c:ao):M cJ:=
 if pr l c=I then fu (!fj t c.when at_) ⟨6,a,at_⟩++r c.ai l a at_ else []
def Vt(r:FK)(t:M aD)(n:ao)(l:M aD)(a:M z)(at_:M Int):M cJ:=
 fu (Z' (0<(n.ai.filter (pr l)).length) && !fj t n.when at_) ⟨6,a,at_⟩++(fu (Z' (1<(n.ai.filter (pr l)).length)) ⟨3,a,at_⟩ ++
  (fu (Z' ((n.ai.filter (pr l)).length=0) && (n.dy && fj t n.when at_)) ⟨2,a,at_⟩++n.ai.flatMap (oA r t l a at_)))
def Vs(r:FK)(t:M aD)(n:ao)(l:M aD)(own:M z)(at_:M Int):M cJ:=match iL l n.aq with
 |some k=>match nth l k with
  |some x=>gL t n x own (at_++[(k:Int)])++r n.ai x.ai own (at_++[(k:Int)])
  |none=>[]
 |none=>if n.ax=3/\n.dy=I/\fj t n.when (at_++[-1])=I then [⟨2,own,at_⟩] else if n.ax=1/\n.df=J/\fj t n.when (at_++[-1])=I then r n.ai [] own (at_++[-1]) else []
def Vu(r:FK)(t:M aD)(l:M aD)(a:M z)(at_:M Int)(n:ao):M cJ:=
 if n.ax=5 then Vt r t n l a at_ else if mZ n.ax=I then KN r t n l (a++[n.aq]) at_ else Vs r t n l (a++[n.aq]) at_
def Bc(t:M aD):Nat->FK
 |0,_,_,_,_=>[]
 |m+1,s,l,ns,at_=>s.flatMap (Vu (Bc t m) t l ns at_)
theorem ER{a β:Type}(f:Nat->a->M β)(x:a):∀(l:M a) (k:Nat),gV f k (l++[x])=gV f k l++f (k+l.length) x
 |[],k=>by rw[au,gV,gV,gV,aG];rfl
 |y::l,k=>by rw[av,gV,gV,ER f x l (k+1),aZ,aN,show k+1+l.length=k+(l.length+1) by omega]
def QH{a β:Type}(f:Nat->a->M β){l:M a}{k:Nat}{x:a}(h:nth l k=Z x):gV f 0 (l.take (k+1))=gV f 0 (l.take k)++f k x:=by (have b:(l.take k).length=k:=by rw[bk];have:=aY h;omega);rw[cd _ _ _ h,ER,b,bN]
theorem NM{a β:Type}(f:Nat->a->M β):∀(l:M a) (k i:Nat),(gV f i (l.take k)).length<=(gV f i l).length
 |[],k,i=>by rw[List.take_nil];exact aH _
 |x::l,0,i=>bI _
 |x::l,k+1,i=>by rw[cy,gV,gV,ay,ay];have:=NM f l k (i+1);omega
def YC(r:FK)(t:M aD)(s:M ao)(l:M aD)(a:M z)(at_:M Int):Prop:=∀o:M cJ,(o++r s l a at_).length+3<=1073741824->G 467 [az t,bH o,aB s,az l,aI a,bE at_]=Z (0,[az t,bH (o++r s l a at_)])
def WN{r:FK}{t:M aD}{n:ao}{l:M aD}{own:M z}{at_:M Int}{out:M cJ}(L:bO bh t+1<=mg)(H:bO bh l<=mg)(U:at_.length+1+dV (aA n)<=mg)(P:n.type.path.size<=4194304)(N:at_.length+1+dV (bT (eO n.type.path).1)<=mg)(C:own.length<=mg)
  (Q:(out++gV (mu r t n l own at_) 0 l).length+3<=1073741824) (F:n.ax=2->∀k x,nth l k=Z x->x.aq=n.aq->YC r t n.ai x.ai own (at_++[(k:Int)])) :
  bG (lB G uh) (0,[az l,aI own,bE at_,E 0]++(aA n++[az t,bH out]))=Z (0,[az l,aI own,bE at_,E l.length,.bool J]++(aA n++[az t,bH (out++gV (mu r t n l own at_) 0 l)])):=by (have K:l.length<=mg:=by simp only[bO]at H;omega);have T:=ck n;have h:=cI (b:=lB G uh) l (λk (o:M cJ)=>(0,[az l,aI own,bE at_,.int .i64 (k:Int)]++(aA n++[az t,bH o]))) (λk=>out++gV (mu r t n l own at_) 0 (l.take k)) (0,[az l,aI own,bE at_,E l.length,.bool J]++(aA n++[az t,bH (out++gV (mu r t n l own at_) 0 l)])) (by intro k x m;have p:=aY m;have q:=wj p K;have s:=il m;have R:=NM (mu r t n l own at_) l (k+1) 0;have B:=QH (mu r t n l own at_) m;rw[B]at R;rw[B,<- aZ out];rw[ay]at Q;have c:((out++gV (mu r t n l own at_) 0 (l.take k))++mu r t n l own at_ k x).length+3<=1073741824:=by{rw[aZ,ay];omega};generalize out++gV (mu r t n l own at_) 0 (l.take k)=o at *;by_cases g:x.aq=n.aq;{have w:mu r t n l own at_ k x=gL t n x own (at_++[(k:Int)])++(fu ((l.take k).any λy=>Z' (y.aq=n.aq) && uniq n y x) ⟨5,own,at_++[(k:Int)]⟩++if n.ax=2 then r n.ai x.ai own (at_++[(k:Int)]) else []):=by{unfold mu;rw[if_pos g]};rw[w]at c ⊢;(have j:(at_++[(k:Int)]).length=at_.length+1:=by simp);have d:=afg (at_:=at_) (by omega) (k:Int);have a:=ao1 (t:=t) (out:=o) (n:=n) (x:=x) (ns:=own) (at_:=at_++[(k:Int)]) L (by rw[j];omega) P (by rw[j];omega) (by simp only[ay]at c;omega) C;have f:=WM (n:=n) (l:=l) (ns:=own) (at_:=bE at_) (t:=az t) (here:=at_++[(k:Int)]) (out:=o++gL t n x own (at_++[(k:Int)])) (k:=k) (x:=x) m H (by simp only[bO]at *;omega) (by simp only[ay]at c ⊢;omega) C (by rw[j];omega);simp only[ak n,aO,av,au]at a f;rw[g]at a;generalize gL t n x own (at_++[(k:Int)])=A at *;cases D:(l.take k).any λy=>Z' (y.aq=n.aq) && uniq n y x;{rw[D]at f c;rw[if_neg (by simp)]at f;have i:fu J ⟨5,own,at_++[(k:Int)]⟩=[]:=rfl;rw[i,au]at c ⊢;by_cases e:n.ax=2;{rw[if_pos e]at c ⊢;have v:=F e k x m g (o++A) (by rw[aZ];exact c);rw[aZ o A]at v;rw[e]at f a;simp only[go_sem,bc,uh,ak n,aO,aj,p,s,gq,g,e,d,a,f,v,q]};rw[if_neg e]at c ⊢;rw[aG];simp only[go_sem,bc,uh,ak n,aO,aj,p,s,gq,g,e,d,a,f,q]};rw[D]at f c;rw[if_pos rfl]at f;have i:fu I ⟨5,own,at_++[(k:Int)]⟩=[⟨5,own,at_++[(k:Int)]⟩]:=rfl;rw[i]at c ⊢;by_cases e:n.ax=2;{rw[if_pos e]at c ⊢;have v:=F e k x m g (o++A++[⟨5,own,at_++[(k:Int)]⟩]) (by simp only[aZ]at c ⊢;exact c);(have S:o++(A++([⟨5,own,at_++[(k:Int)]⟩]++r n.ai x.ai own (at_++[(k:Int)])))=o++A++[⟨5,own,at_++[(k:Int)]⟩]++r n.ai x.ai own (at_++[(k:Int)]):=by simp only[aZ]);rw[S];rw[e]at f a;simp only[go_sem,bc,uh,ak n,aO,aj,p,s,gq,g,e,d,a,f,v,q]};rw[if_neg e]at c ⊢;rw[aG,<- aZ o];simp only[go_sem,bc,uh,ak n,aO,aj,p,s,gq,g,e,d,a,f,q]};(have w:mu r t n l own at_ k x=[]:=by unfold mu;rw[if_neg g]);rw[w,aG];simp only[go_sem,bc,uh,ak n,aO,aj,p,s,g,q]) (by simp only[go_sem,bc,uh,ak n,aj,aE,bl]) l.length 0 (by omega);rw[br,gV,aG,n0]at h;exact h
def xz(l:M aD)(c:ao):Bool:=l.any λx=>iB ((dk c.ai).map ao.aq) x.aq
def QS(r:FK)(t:M aD)(n:ao)(l:M aD)(own:M z)(at_:M Int):M cJ:=
 if n.ax=3 then fu (Z' ((named l n.aq).length=0) && (n.dy && fj t n.when (at_++[-1]))) ⟨2,own,at_⟩
 else if n.ax=4\/n.ax=2 then fu (Z' (((named l n.aq).length:Int)<n.min) && fj t n.when (at_++[-1]) ||!Z' (n.max=0) && Z' (n.max<((named l n.aq).length:Int))) ⟨4,own,at_⟩
 else if n.ax=1/\(named l n.aq).length=0/\n.df=J/\fj t n.when (at_++[-1])=I then r n.ai [] own (at_++[-1]) else []
def pU(r:FK)(t:M aD)(n:ao)(l:M aD)(own:M z)(at_:M Int)(k:Nat)(x:aD):M cJ:=
 if x.aq=n.aq then gL t n x own (at_++[(k:Int)])++(fu (Z' (n.ax=2) && (l.take k).any λy=>Z' (y.aq=n.aq) && uniq n y x) ⟨5,own,at_++[(k:Int)]⟩++if n.ax=1\/n.ax=2 then r n.ai x.ai own (at_++[(k:Int)]) else []) else []
def xR(r:FK)(t:M aD)(n:ao)(l:M aD)(own:M z)(at_:M Int):M cJ:=QS r t n l own at_++gV (pU r t n l own at_) 0 l
def NX(r:FK)(t:M aD)(n:ao)(l:M aD)(a:M z)(at_:M Int):M cJ:=
 fu (Z' (0<(n.ai.filter (xz l)).length) && !fj t n.when at_) ⟨6,a,at_⟩++(fu (Z' (1<(n.ai.filter (xz l)).length)) ⟨3,a,at_⟩ ++
  (fu (Z' ((n.ai.filter (xz l)).length=0) && (n.dy && fj t n.when at_)) ⟨2,a,at_⟩++n.ai.flatMap λc=>if xz l c=I then fu (!fj t c.when at_) ⟨6,a,at_⟩++r c.ai l a at_ else []))
def EX(r:FK)(t:M aD)(l:M aD)(a:M z)(at_:M Int)(n:ao):M cJ:=
 if n.ax=5 then NX r t n l a at_ else xR r t n l (a++[n.aq]) at_
def NY(t:M aD):Nat->FK
 |0,_,_,_,_=>[]
 |m+1,s,l,ns,at_=>s.flatMap (EX (NY t m) t l ns at_)
def adS(l:M aD)(c:ao):pr l c=xz l c:=by rw[dS];unfold pr xz iB;simp only[fC,dv,decide_eq_true_eq];constructor;{rintro⟨d,hd,f⟩;obtain⟨k,e⟩:=cu.1 f;obtain⟨x,h,g⟩:=dw e;exact⟨x,bj h,d.aq,⟨d,hd,rfl⟩,by simpa using g⟩};rintro⟨x,a,i,⟨d,hd,rfl⟩,b⟩;refine⟨d,hd,?_⟩;unfold iL;rw[pW,fC];exact⟨x,a,by simp[b]⟩
theorem I9{a β:Type}{f:Nat->a->M β}:∀{l:M a} {k:Nat},(∀i,∀x∈l,f i x=[])->gV f k l=[]
 |[],k,h=>rfl
 |x::l,k,h=>by rw[gV,h k x (by simp),I9 λi y b=>h i y (by simp[b])];rfl
theorem vx{a β:Type}{f g:Nat->a->M β}:∀{l:M a} {k:Nat},(∀i,∀x∈l,f i x=g i x)->gV f k l=gV g k l
 |[],k,h=>rfl
 |x::l,k,h=>by rw[gV,gV,h k x (by simp),vx λi y b=>h i y (by simp[b])]
theorem By{a β:Type}{f:Nat->a->M β}{p:a->Bool}(c:∀i x,p x=J->f i x=[]):∀{l:M a} {k:Nat},(l.filter p).length<=1->gV f k l=match uZ p l k with
  |none=>[]
  |some j=>match nth l (j - k) with
   |none=>[]
   |some x=>f j x
 |[],k,h=>rfl
 |x::l,k,h=>by rw[gV,uZ];cases b:p x;{rw[c k x b,au,By c (by rw[oZ,b]at h;simpa using h),if_neg (by simp)];cases g:uZ p l (k+1) with|none=>{rfl}|some j=>obtain⟨_,n,_,_⟩:=KU g;dsimp only;rw[show j - k=(j - (k+1))+1 by omega];rfl};rw[if_pos rfl];have m:l.filter p=[]:=by{rw[oZ,b]at h;simp only[if_true,aN]at h;exact cx (by omega)};rw[I9 λi y d=>c i y (by cases e:p y;{rfl};have:y∈l.filter p:=iy.2 ⟨d,e⟩;rw[m]at this;cases this),aG];dsimp only;rw[xu];rfl
def CW:Nat->M ao->M aD->Prop
 |0,_,_=>True
 |m+1,s,l=>∀d∈dk s,(mZ d.ax=J->(named l d.aq).length<=1)/\∀x∈l,x.aq=d.aq->CW m d.ai x.ai
def JP{a b:Bool}{f:cJ}(h:a=b):fu a f=fu b f:=by rw[h]
theorem adJ{r m:FK}{t:M aD}{n:ao}{l:M aD}{own:M z}{at_:M Int}(hd:j7 n.ax=I)(K:0<=n.max)
  (F:n.ax=3->n.ai=[]) (B:n.ax=4->n.unique=[]) (C:∀o at_,r [] [] o at_=[]) (s:∀l o at_,r [] l o at_=[]) (A:mZ n.ax=J->(named l n.aq).length<=1)
  (w:∀x∈l,x.aq=n.aq->∀at_,r n.ai x.ai own at_=m n.ai x.ai own at_) (q:n.ax=1->∀at_,r n.ai [] own at_=m n.ai [] own at_) :
  (if mZ n.ax=I then KN r t n l own at_ else Vs r t n l own at_)=xR m t n l own at_:=by have D:n.ax=1\/n.ax=2\/n.ax=3\/n.ax=4:=by{have:=(ej _ _ _).1 hd;omega};(have g:∀(x:aD),(λy:aD=>Z' (y.aq=n.aq)) x=J->¬x.aq=n.aq:=λx h=>by simpa using h);have j:∀nb:z,(named l nb).length=0↔iL l nb=O:=by{intro nb;constructor;{intro h;have H:named l nb=[]:=cx h;cases b:iL l nb with|none=>{rfl}|some k=>obtain⟨x,a1,a2⟩:=dw b;have:x∈named l nb:=iy.2 ⟨bj a1,a2⟩;rw[H]at this;cases this};intro h;unfold named;rw[eZ,wD];intro x d;rw[aan h d];simp};rcases D with h|h|h|h;{(have a:mZ n.ax=J:=by rw[h];rfl);rw[if_neg (by rw[a];simp)];unfold xR Vs QS;rw[By (p:=λy:aD=>Z' (y.aq=n.aq)) (λi x d=>by unfold pU;rw[if_neg (g x d)]) (A a)];rw[h];have c:=j n.aq;unfold iL at c ⊢;cases b:uZ (λe:aD=>Z' (e.aq=n.aq)) l 0 with|none=>{have f:=c.2 b;simp only[f,aG,true_and,if_false,rF,or_self,false_and];split;{rename_i v;exact q h _};rfl}|some k=>obtain⟨x,a1,a2⟩:=dw b;(have a3:x.aq=n.aq:=by simpa using a2);(have f:¬(named l n.aq).length=0:=λe=>by rw[c.1 e]at b;cases b);simp only[a1,rH,rF,if_false,or_self,f,false_and,and_false,au];unfold pU;rw[if_pos a3,if_pos (.inl h),h];simp only[rF,decide_false,dK,fu,aQ,if_false,au];rw[w x (bj a1) a3]};{(have a:mZ n.ax=I:=by rw[h];rfl);rw[if_pos a];unfold xR KN QS;rw[if_neg (by omega),if_pos (.inr h)];congr 1;{apply JP;congr 2;rw[dS,decide_eq_true_eq,dm,decide_eq_false_iff_not];omega};refine vx λi x d=>?_;unfold mu pU;split;{rename_i v;rw[if_pos (show n.ax=1\/n.ax=2 from .inr h),w x d v];have G:Z' (n.ax=2)=I:=decide_eq_true h;rw[G,dC]};rfl};{(have a:mZ n.ax=J:=by rw[h];rfl);rw[if_neg (by rw[a];simp)];unfold xR Vs QS;rw[By (p:=λy:aD=>Z' (y.aq=n.aq)) (λi x d=>by unfold pU;rw[if_neg (g x d)]) (A a)];rw[h];have c:=j n.aq;unfold iL at c ⊢;cases b:uZ (λe:aD=>Z' (e.aq=n.aq)) l 0 with|none=>{have f:=c.2 b;simp only[f,if_true,aG,true_and,rF,if_false,false_and,decide_true,dC,fu,aw]}|some k=>obtain⟨x,a1,a2⟩:=dw b;(have a3:x.aq=n.aq:=by simpa using a2);(have f:¬(named l n.aq).length=0:=λe=>by rw[c.1 e]at b;cases b);simp only[a1,rH,if_true,f,decide_false,dK,fu,aQ,if_false,au];unfold pU;rw[if_pos a3,if_neg (by omega),h,F h,s];simp[fu]};(have a:mZ n.ax=I:=by rw[h];rfl);rw[if_pos a];unfold xR KN QS;rw[if_neg (by omega),if_pos (.inl h)];congr 1;{apply JP;congr 2;rw[dS,decide_eq_true_eq,dm,decide_eq_false_iff_not];omega};refine vx λi x d=>?_;unfold mu pU;split;{rename_i v;(have c:∀y,uniq n y x=J:=λy=>by unfold uniq;rw[B h];rfl);rw[if_neg (by omega),if_neg (by omega),h];simp[c,fu]};rfl
def Dp(r:M ao->M aD->M aD)(l:M aD)(d:ao)(c:Bool):M aD:=
 if d.ax=3 then (if (named l d.aq).isEmpty=I/\d.given=I then [⟨d.aq,d.default,[]⟩] else named l d.aq)
 else if d.ax=1\/d.ax=2 then (named l d.aq).map (λx=>⟨x.aq,x.bo,r d.ai x.ai⟩)++(if d.ax=1/\(named l d.aq).isEmpty=I/\d.df=J/\d.when.isEmpty=I/\c=J/\(r d.ai []).isEmpty=J then [⟨d.aq,⟨#[]⟩,r d.ai []⟩] else [])
 else named l d.aq
def qF:Nat->M ao->M aD->M aD
 |0,_,_=>[]
 |n+1,s,l=>((dk s).zip (sM J s)).flatMap λp=>Dp (qF n) l p.1 p.2
theorem ZC:∀l:M ao,∀c∈sM I l,c=I:=by have h:∀(n:Nat) (l:M ao),aF l<n->∀c∈sM I l,c=I:=by{intro n;induction n with|zero=>{intro l h;omega}|succ n b=>intro l h c a;cases l with|nil=>{rw[tM]at a;cases a}|cons e es=>rw[nk]at a;rcases aX.1 a with a|a;{unfold qG at a;split at a;{simpa using a};split at a;{exact b e.ai (by have:=ao.gx e es;omega) c (by simpa using a)};cases a};exact b es (by simp only[bJ]at h;omega) c a};exact λl=>h _ l (aT _)
theorem I3:∀l:M ao,(∀k∈l,k.ax=6)->∀c∈sM J l,c=I
 |[],h,c,a=>by rw[tM]at a;cases a
 |e::es,h,c,a=>by rw[nk]at a;rcases aX.1 a with a|a;{have d:=h e (by simp);unfold qG at a;rw[d,if_neg (by decide),if_pos (by decide)]at a;exact ZC _ c (by simpa using a)};exact I3 es (λk b=>h k (by simp[b])) c a
def UU{c β:Type}:∀{a:M c} {b:M β} {p:c×β},p∈a.zip b->p.1∈a/\p.2∈b:=by intro a b p h;exact⟨(List.of_mem_zip (a:=p.1) (b:=p.2) h).1,(List.of_mem_zip (a:=p.1) (b:=p.2) h).2⟩
def ZA(e:ao):(sL e).length=(qG J e).length:=by have h:=pR J [e];rw[nk,jT,tM,mJ]at h;simpa using h.symm
theorem ZB{s:M ao}(X:(s.map ao.aq).Nodup)(hd:((dk s).map ao.aq).Nodup)(hc:∀e∈s,e.ax≠6/\(e.ax=5->∀k∈e.ai,k.ax=6)) :
  ∀p∈(dk s).zip (sM J s),(p.1.when.isEmpty && !p.2)=uN s p.1.aq:=by have A:∀(es a:M ao),s=a++es->∀p∈(dk es).zip (sM J es),(p.1.when.isEmpty && !p.2)=uN s p.1.aq:=by{intro es;induction es with|nil=>{intro a h p b;rw[mJ]at b;cases b}|cons e es V=>intro a h p b;rw[jT,nk,List.zip_append (ZA e)]at b;rcases aX.1 b with b|b;{(have he:e∈s:=by rw[h];simp);(have v:nth s a.length=Z e:=by rw[h,ek];simp);by_cases m:j7 e.ax=I;{unfold sL qG at b;rw[if_pos m,if_pos m]at b;simp only[List.zip_cons_cons,List.zip_nil_right,ct]at b;subst b;have H:ew s e.aq=Z a.length:=by{unfold ew;have:=wN (p:=λy:ao=>Z' (y.aq=e.aq)) (k:=0) v (by simp) (λi x Y P=>by simp only[decide_eq_false_iff_not];intro D;rw[ek]at P v;have w:=bn.1 P;have L:=bn.1 v;obtain⟨a1,a2⟩:=w;obtain⟨b1,b2⟩:=L;have S:=(List.nodup_iff_pairwise_ne.1 X);rw[List.pairwise_iff_getElem]at S;have R:=S i a.length (by simpa using a1) (by simpa using b1) Y;simp only[List.getElem_map,a2,b2]at R;exact R D);rw[this,bN]};unfold uN;rw[H];dsimp only;rw[v];dsimp only;rw[m];simp};have t:=hc e he;have G:=UU b;have Q:e.ax=5:=by{have d:=G.1;unfold sL at d;rw[if_neg m]at d;split at d;{rename_i f;unfold pw at f;simp only[eY,decide_eq_true_eq]at f;rcases f with f|f;{exact f};exact absurd f t.1};cases d};have F:p.2=I:=by{have j:=G.2;unfold qG at j;rw[if_neg m,Q,if_pos (by decide)]at j;exact I3 e.ai (t.2 Q) p.2 (by simpa using j)};rw[F,dr,eJ];unfold uN;cases H:ew s p.1.aq with|none=>{rfl}|some k=>obtain⟨n,w,L⟩:=dw H;dsimp only;rw[w];dsimp only;(have q:n.aq=p.1.aq:=by simpa using L);cases B:j7 n.ax;{rfl};exfalso;have c:n∈s:=bj w;(have W:n≠e:=λe1=>by rw[e1]at B;exact m B);have N:n∈a\/n∈es:=by{rw[h]at c;rcases aX.1 c with c|c;{exact .inl c};rcases aU.1 c with c|c;{exact absurd c W};exact .inr c};have U:∀l:M ao,n∈l->n∈dk l:=by{intro l;induction l with|nil=>{intro r;cases r}|cons y l C=>intro r;rw[jT];rcases aU.1 r with rfl|r;{refine aX.2 (.inl ?_);unfold sL;rw[if_pos B];simp};exact aX.2 (.inr (C r))};rw[h,QF,jT,cE,cE,cD]at hd;obtain⟨_,T,d3⟩:=hd;rw[cD]at T;have o:p.1.aq∈(sL e).map ao.aq:=dH G.1;rcases N with g|g;{have K:n.aq∈(dk a).map ao.aq:=dH (U _ g);exact d3 _ K _ (aX.2 (.inl o)) q};have K:n.aq∈(dk es).map ao.aq:=dH (U _ g);exact T.2.2 _ o _ K q.symm};exact V (a++[e]) (by rw[h];simp) p b};exact A s [] rfl
theorem ZD{l:M ao}{n:ao}(h:n∈dk l):j7 n.ax=I:=by have b:∀(m:Nat) (l:M ao),aF l<m->n∈dk l->j7 n.ax=I:=by{intro m;induction m with|zero=>{intro l h;omega}|succ m c=>intro l d a;cases l with|nil=>{rw[mJ]at a;cases a}|cons e es=>rw[jT]at a;rcases aX.1 a with a|a;{unfold sL at a;split at a;{rename_i hd;rw[ct.1 a];exact hd};split at a;{exact c e.ai (by have:=ao.gx e es;omega) a};cases a};exact c es (by simp only[bJ]at d;omega) a};exact b _ l (aT _) h
theorem Cs:∀{l:M ao},(l.map ao.aq).Nodup->∀{a b:ao},a∈l->b∈l->a.aq=b.aq->a=b
 |[],_,a,b,g,_,_=>by cases g
 |x::l,e,a,b,g,h,c=>by rw[bz,cW]at e;rcases aU.1 g with rfl|d;{rcases aU.1 h with rfl|f;{rfl};exact absurd (by rw[c];exact dH f) e.1};rcases aU.1 h with rfl|f;{exact absurd (by rw[<- c];exact dH d) e.1};exact Cs e.2 d f c
def GP(x:aD):(⟨x.aq,x.bo,x.ai⟩:aD)=x:=by cases x;rfl
section
variable {ip:z->Bool} {mt:z->z->Bool}
def VS(ip:z->Bool)(mt:z->z->Bool)(s:M ao):Prop:=∃N k f deep,tZ ip mt N s k f deep=I
theorem VS.uQ{s:M ao}(h:VS ip mt s){n:ao}(a:n∈dk s):VS ip mt n.ai:=by obtain⟨N,k,f,deep,h⟩:=h;obtain⟨e,g,i,_,c⟩:=EJ _ (aT _) h n a;exact⟨e,_,_,_,c⟩
theorem VS.body{s:M ao}(h:VS ip mt s){n:ao}(c:n∈dk s):∃f,iR ip mt n f=I:=by obtain⟨N,k,f,deep,h⟩:=h;obtain⟨i,e,g,a,_⟩:=EJ _ (aT _) h n c;unfold vY at a;simp only[aw]at a;exact⟨e,a.2⟩
theorem aiq{r:M ao->M aD->Bool}{n:ao}{x:aD}:Az ip mt r n x=I↔((n.ax=3\/n.ax=4)/\x.ai=[]/\isVal ip mt n.type x.bo=I)\/(n.ax=2/\(keyOf n x).2=I/\x.bo=l8/\r (dk n.ai) x.ai=I)\/
  (n.ax≠2/\n.ax≠3/\n.ax≠4/\x.bo=l8/\(n.df=I\/x.ai≠[])/\r (dk n.ai) x.ai=I):=by have a:x.bo.size=0↔x.bo=l8:=⟨acA,λh=>by rw[h];rfl⟩;unfold Az;by_cases c:n.ax=3;{simp[c]};by_cases b:n.ax=4;{simp[b]};by_cases d:n.ax=2;{simp[d,a]};simp[d,c,b,a,kJ]
theorem CF(nr:ao->aD->Bool)(d:M ao):l_ nr d []=I:=rfl
theorem ads{s:M ao}{l:M aD}(h:Rt ip mt (dk s) l){x:aD}(d:x∈l):∃k n,ew (dk s) x.aq=Z k/\nth (dk s) k=Z n/\n∈dk s/\wW s x.aq=Z n/\n.aq=x.aq/\Rt ip mt (dk n.ai) x.ai/\∃N,Az ip mt (l_ (qn ip mt N)) n x=I:=by obtain⟨N,h⟩:=h;obtain⟨k,n,c,b,e⟩:=CE h x d;(have a:wW s x.aq=Z n:=by simp only[wW,c,b]);obtain⟨_,_,_,m,j⟩:=L0 a;obtain⟨p,o,g,f,_,i⟩:=agS ⟨N,h⟩ d;rw[c]at g;cases g;rw[b]at f;cases f;cases N with|zero=>{cases e}|succ N=>exact⟨k,n,c,b,j,a,m,i,N,e⟩
end
section
variable {ip:z->Bool} {mt:z->z->Bool}
def VT(ip:z->Bool)(mt:z->z->Bool)(s:M ao):Prop:=∃N k f deep,k≠5/\tZ ip mt N s k f deep=I
theorem VT.vs{s:M ao}(h:VT ip mt s):VS ip mt s:=by obtain⟨N,k,f,deep,_,h⟩:=h;exact⟨N,k,f,deep,h⟩
theorem VT.uQ{s:M ao}(h:VT ip mt s){n:ao}(a:n∈dk s):VT ip mt n.ai:=by obtain⟨N,k,f,deep,_,h⟩:=h;obtain⟨e,g,i,_,c⟩:=EJ _ (aT _) h n a;have:=(ej _ _ _).1 (ZD a);exact⟨e,_,_,_,by omega,c⟩
theorem VT.names{s:M ao}(h:VT ip mt s):(s.map ao.aq).Nodup/\((dk s).map ao.aq).Nodup/\∀e∈s,e.ax≠6/\(e.ax=5->∀k∈e.ai,k.ax=6):=by obtain⟨N,k,f,deep,l,h⟩:=h;have g:=sY h;refine⟨?_,g.2,λe n=>?_⟩;{cases N with|zero=>{cases h}|succ a=>unfold tZ at h;simp only[aw]at h;refine (mM _).1 (mm.2 λj x m=>?_);have:=mm.1 h.1 j x m;simp only[aw]at this;exact this.1};obtain⟨c,_,a,q⟩:=g.1 e n;have o:e.ax≠6:=λr=>by{rw[r]at c;simp at c;exact l c};refine⟨o,λp x i=>?_⟩;have:=((sY q).1 x i).1;rw[p]at this;simpa using this
theorem Nq:∀(m:Nat) (l:M aD),qF m [] l=[]
 |0,l=>rfl
 |m+1,l=>by rw[qF,mJ];rfl
theorem PW{β:Type}{g:ao->M β}:∀{a:M ao} {b:M Bool},a.length=b.length->(a.zip b).flatMap (λp=>g p.1)=a.flatMap g
 |[],b,_=>rfl
 |x::a,[],h=>by cases h
 |x::a,y::b,h=>by rw[List.zip_cons_cons,fe,fe,PW (by simpa using h)]
theorem yo{a β:Type}{f g:a->M β}:∀{l:M a},(∀x∈l,f x=g x)->l.flatMap f=l.flatMap g
 |[],h=>rfl
 |x::l,h=>by rw[fe,fe,h x (by simp),yo λy b=>h y (by simp[b])]
theorem Es{s:M ao}{l:M aD}(h:Rt ip mt (dk s) l)(g:((dk s).map ao.aq).Nodup){d:ao}(hd:d∈dk s){x:aD}(f:x∈named l d.aq):Rt ip mt (dk d.ai) x.ai/\((d.ax=3\/d.ax=4)->x.ai=[]):=by obtain⟨b,a⟩:=iy.1 f;obtain⟨k,n,v,t,o,_,m,j,N,i⟩:=ads h b;have e:n=d:=by{(have p:n.aq=d.aq:=by rw[m];simpa using a);exact Cs g o hd p};subst e;refine⟨j,λq=>?_⟩;rcases aiq.1 i with ⟨_,c,_⟩|⟨c,_⟩|⟨_,c,r,_⟩;{exact c};{omega};omega
theorem cmp_eq:∀(m:Nat) (s:M ao) (l:M aD),VT ip mt s->Rt ip mt (dk s) l->qF m s l=kl m s l
 |0,s,l,_,_=>rfl
 |m+1,s,l,o,H=>by obtain⟨n1,n2,G⟩:=o.names;have t:=ZB n1 n2 G;rw[qF,kl,<- PW (b:=sM J s) (pR J s).symm];refine yo λp D=>?_;have F:=t p D;have hd:=(UU D).1;obtain⟨d,c⟩:=p;dsimp only at F hd ⊢;have Q:=(ej _ _ _).1 (ZD hd);obtain⟨f,j⟩:=o.vs.body hd;have k:=λx a=>Es H n2 hd (x:=x) a;have v:qF m d.ai []=kl m d.ai []:=cmp_eq m d.ai [] (o.uQ hd) ⟨0,CF _ _⟩;have C:∀x∈named l d.aq,qF m d.ai x.ai=kl m d.ai x.ai:=λx a=>cmp_eq m d.ai x.ai (o.uQ hd) (k x a).1;have r:∀g:aD->aD,(∀x∈named l d.aq,g x=x)->(named l d.aq).map g=named l d.aq:=λg A=>by{have:(named l d.aq).map g=(named l d.aq).map id:=qC λx a=>A x a;rw[this,List.map_id]};unfold Dp pV;(have w:d.ax=1\/d.ax=2\/d.ax=3\/d.ax=4:=by omega);rcases w with h|h|h|h;{rw[if_neg (by omega),if_pos (.inl h),v];have a:(named l d.aq).map (λx=>(⟨x.aq,x.bo,qF m d.ai x.ai⟩:aD))=(named l d.aq).map (rO (kl m) d):=qC λx a=>by{unfold rO;rw[C x a];split;{rename_i e;rw[dR.1 e,<- cmp_eq m [] x.ai (by rw[<- dR.1 e];exact o.uQ hd) (by rw[<- dR.1 e];exact (k x a).1),Nq]};rfl};rw[a];cases P:named l d.aq with|nil=>{have t:uN s d.aq=I↔(d.when.isEmpty=I/\c=J):=by{rw[<- F];cases d.when.isEmpty<;>cases c<;>simp};have L:(if d.ax=1/\([]:M aD).isEmpty=I/\d.df=J/\d.when.isEmpty=I/\c=J/\(kl m d.ai []).isEmpty=J then [(⟨d.aq,⟨#[]⟩,kl m d.ai []⟩:aD)] else [])=Dr (kl m) (uN s d.aq) d:=by{unfold Dr;(have N:¬(d.ax=3/\d.given=I):=λq=>by omega);rw[if_neg N];by_cases i:d.df=J/\d.when.isEmpty=I/\c=J;{have n:d.ax=1/\d.df=J/\uN s d.aq=I:=⟨h,i.1,t.2 i.2⟩;rw[if_pos n];cases e:(kl m d.ai []).isEmpty;{have K:d.ax=1/\([]:M aD).isEmpty=I/\d.df=J/\d.when.isEmpty=I/\c=J/\J=J:=⟨h,rfl,i.1,i.2.1,i.2.2,rfl⟩;rw[if_pos K,if_neg dh]};rw[if_neg (λq=>by have:=q.2.2.2.2.2;cases this),if_pos rfl]};have n:¬(d.ax=1/\d.df=J/\uN s d.aq=I):=λq=>i ⟨q.2.1,t.1 q.2.2⟩;rw[if_neg n,if_neg (λq=>i ⟨q.2.2.1,q.2.2.2.1,q.2.2.2.2.1⟩)]};rw[cO,au,L];rfl}|cons y ys=>simp};{rw[if_neg (by omega),if_pos (.inr h),if_neg (by omega),aG];have a:(named l d.aq).map (λx=>(⟨x.aq,x.bo,qF m d.ai x.ai⟩:aD))=(named l d.aq).map (rO (kl m) d):=qC λx a=>by{unfold rO;rw[C x a];split;{rename_i e;rw[dR.1 e,<- cmp_eq m [] x.ai (by rw[<- dR.1 e];exact o.uQ hd) (by rw[<- dR.1 e];exact (k x a).1),Nq]};rfl};rw[a];split;{rename_i e;unfold Dr;rw[if_neg (by omega),if_neg (by omega),dR.1 e];rfl};rfl};{have B:d.ai=[]:=by{unfold iR at j;rw[if_neg (by omega),if_neg (by omega),if_pos h]at j;unfold xW at j;split at j<;>(simp only[aw,dR]at j;exact j.1.2.2.2.2.2.1)};rw[if_pos h];unfold Dr;simp only[h,true_and,rF,false_and,if_false];split;{rename_i i;rw[if_pos i.1,if_pos i.2]};rename_i i;split;{rename_i e;rw[if_neg λA=>i ⟨e,A⟩,dR.1 e]};rw[r _ λx a=>by unfold rO;rw[B,ei,if_pos rfl,<- (k x a).2 (.inl h)];exact GP x]};have B:d.ai=[]:=by{unfold iR at j;rw[if_neg (by omega),if_neg (by omega),if_neg (by omega),if_pos h]at j;unfold C9 at j;simp only[aw,dR]at j;exact j.2.2.2.2.2.2.2.1};rw[if_neg (by omega),if_neg (by omega)];split;{rename_i e;unfold Dr;rw[if_neg (by omega),if_neg (by omega),dR.1 e]};rw[r _ λx a=>by unfold rO;rw[B,ei,if_pos rfl,<- (k x a).2 (.inr h)];exact GP x]
end
abbrev PR:=u (dD×Nat)
abbrev eT:z:=⟨#[]⟩
def iV(s:z)(i:Nat)(b:Int):Bool:=Z' (i<s.size) && Z' (bY s i=b)
def bsT(f:Nat->Bool):z:=bA (((cC 256).filter f).map dT)
def U5:z:=bsT λx=>Z' (32<=x) && Z' (x<=126)
def pv(r:M (Int×Int))(x:Nat):Bool:=r.any λp=>Z' (p.1<=(x:Int)) && Z' ((x:Int)<=p.2)
def ajL(r:M (Int×Int)):z:=bsT (pv r)
def sf(s:z)(i:Nat):u ((Int×Int)×Nat):=
 if (Z' (i<s.size) && Qx (bY s i))=I then
  if iV s (i+1) 126=I then
   if (Z' (i+2<s.size) && (Qx (bY s (i+2)) && Z' (bY s i<=bY s (i+2))))=I then Z ((bY s i,bY s (i+2)),i+3) else O
  else Z ((bY s i,bY s i),i+1)
 else O
def jm(s:z):Nat->Nat->u (M (Int×Int)×Nat)
 |0,_=>O
 |f+1,i=>if iV s i 93=I then Z ([],i+1) else match sf s i with
  |some (r,j)=>(jm s f j).map λp=>(r::p.1,p.2)
  |none=>O
def O4(s:z)(i:Nat):PR:=match jm s (s.size+1) i with
 |some (r::l,k)=>Z (⟨1,ajL (r::l),[]⟩,k)
 |_=>O
def pCh(b:Int):Bool:=eA 97 122 b ||(eA 48 57 b ||decide (b=45))
def G6(b:Int):z:=bA [dT b.toNat]
def xY(alt:Nat->PR)(s:z)(i:Nat):PR:=
 if iV s i 40=I then (match alt (i+1) with
  |some (p,j)=>if iV s j 41=I then Z (p,j+1) else O
  |none=>O)
 else if iV s i 91=I then O4 s (i+1)
 else if iV s i 46=I then Z (⟨1,U5,[]⟩,i+1)
 else if (Z' (i<s.size) && pCh (bY s i))=I then Z (⟨1,G6 (bY s i),[]⟩,i+1)
 else O
def G9(s:z)(p:dD)(j:Nat):dD×Nat:=
 if iV s j 42=I then (⟨4,eT,[p]⟩,j+1)
 else if iV s j 43=I then (⟨2,eT,[p,⟨4,eT,[p]⟩]⟩,j+1)
 else if iV s j 63=I then (⟨5,eT,[p]⟩,j+1)
 else (p,j)
def tf(alt:Nat->PR)(s:z)(i:Nat):PR:=(xY alt s i).map λp=>G9 s p.1 p.2
def wg(s:z)(i:Nat):Bool:=Z' (i<s.size) && (!Z' (bY s i=124) && !Z' (bY s i=41))
def wc(alt:Nat->PR)(s:z):Nat->Nat->u (M dD×Nat)
 |0,_=>O
 |f+1,i=>if wg s i=I then match tf alt s i with
   |some (p,j)=>(wc alt s f j).map λq=>(p::q.1,q.2)
   |none=>O
  else Z ([],i)
def tw(op:Int):M dD->dD
 |[p]=>p
 |l=>⟨op,eT,l⟩
def DC(alt:Nat->PR)(s:z)(i:Nat):PR:=(wc alt s (s.size+1) i).map λq=>(tw 2 q.1,q.2)
def Da(alt:Nat->PR)(s:z):Nat->Nat->u (M dD×Nat)
 |0,_=>O
 |f+1,i=>if iV s i 124=I then match DC alt s (i+1) with
   |some (p,j)=>(Da alt s f j).map λq=>(p::q.1,q.2)
   |none=>O
  else Z ([],i)
def G8(alt:Nat->PR)(s:z)(i:Nat):PR:=match DC alt s i with
 |some (p,j)=>(Da alt s (s.size+1) j).map λq=>(tw 3 (p::q.1),q.2)
 |none=>O
def Xz(s:z):Nat->Nat->PR
 |0,_=>O
 |f+1,i=>G8 (Xz s f) s i
def Db(s:z):u dD:=if 30<s.size then O else match Xz s (s.size+1) 0 with
 |some (p,k)=>if k=s.size then Z p else O
 |none=>O
def yZ(n:Nat)(p:dD):Bool:=(Z' (p.ai.length<=n) && Z' (p.text.size<=256)) && p.ai.attach.all λq=>yZ n q.1
termination_by aF p
decreasing_by exact dD.uQ q.2
def L9(n:Nat)(p:dD):yZ n p=((Z' (p.ai.length<=n) && Z' (p.text.size<=256)) && p.ai.all (yZ n)):=by rw[yZ];congr 1;rw[dS,bF,bF];exact⟨λh x a=>h ⟨x,a⟩ (List.mem_attach _ _),λh x _=>h x.1 x.2⟩
def Ec{n:Nat}{p q:dD}(h:yZ n p=I)(a:q∈p.ai):yZ n q=I:=by rw[L9,aw,bF]at h;exact h.2 q a
def Ed{n:Nat}{p:dD}(h:yZ n p=I):p.ai.length<=n:=by rw[L9,aw,aw,decide_eq_true_eq]at h;exact h.1.1
def aeS{n:Nat}{p:dD}(h:yZ n p=I):p.text.size<=256:=by rw[L9,aw,aw,decide_eq_true_eq,decide_eq_true_eq]at h;exact h.1.2
def y_{n:Nat}{op:Int}{t:z}{l:M dD}(a:t.size<=256)(h:l.length<=n)(b:∀q∈l,yZ n q=I):yZ n ⟨op,t,l⟩=I:=by rw[L9,aw,aw,decide_eq_true_eq,decide_eq_true_eq,bF];exact⟨⟨h,a⟩,b⟩
def C0:eT.size<=256:=bI _
theorem wB{n:Nat}{op:Int}:∀{l:M dD},l.length<=n->(∀q∈l,yZ n q=I)->yZ n (tw op l)=I
 |[p],_,h=>h p (ct.2 rfl)
 |[],h,a=>y_ C0 h a
 |_::_::_,h,a=>y_ C0 h a
def Uq{n:Nat}(a:2<=n){s:z}{p:dD}(j:Nat)(h:yZ n p=I):yZ n (G9 s p j).1=I:=by unfold G9;have b:yZ n ⟨4,eT,[p]⟩=I:=y_ C0 (by simp;omega) (by simpa using h);have c:yZ n ⟨5,eT,[p]⟩=I:=y_ C0 (by simp;omega) (by simpa using h);have a:yZ n ⟨2,eT,[p,⟨4,eT,[p]⟩]⟩=I:=y_ C0 (by simpa using a) (by simp[h,b]);split;{exact b};split;{exact a};split;{exact c};exact h
def Up(s:z)(p:dD)(j:Nat):j<=(G9 s p j).2/\(j<=s.size->(G9 s p j).2<=s.size):=by unfold G9;(have a:∀b,iV s j b=I->j<s.size:=λb h=>by simp only[iV,aw,decide_eq_true_eq]at h;exact h.1);split;{rename_i h;have:=a _ h;exact⟨by simp,λ_=>this⟩};split;{rename_i h;have:=a _ h;exact⟨by simp,λ_=>this⟩};split;{rename_i h;have:=a _ h;exact⟨by simp,λ_=>this⟩};exact⟨aH _,λh=>h⟩
def Bn(f:Nat->Bool):(bsT f).size<=256:=by have:=eR f (cC 256);simp only[bsT,pf,aj,List.length_range]at this ⊢;exact this
def nu{s:z}{i:Nat}{b:Int}(h:iV s i b=I):i<s.size:=by simp only[iV,aw,decide_eq_true_eq]at h;exact h.1
def hasB(t:z)(b:Int):Bool:=(cC t.size).any λk=>Z' (bY t k=b)
def P4(t s:z)(a:M Bool):M Bool:=J::(cC s.size).map λi=>(nth a i).getD J && hasB t (bY s i)
def Dg(f:M Bool->M Bool):Nat->M Bool->M Bool
 |0,x=>x
 |n+1,x=>if dJ x (f x)=x then x else Dg f n (dJ x (f x))
def Dz{b β:Type}(l:M b)(a:β)(g:b->β):β:=match l with
 |[k]=>g k
 |_=>a
def L7{b β:Type}{l:M b}{a:β}{g:b->β}(h:l.length≠1):Dz l a g=a:=by unfold Dz;split;{exact absurd rfl h};rfl
theorem L6{b β:Type}(k:b)(a:β)(g:b->β):Dz [k] a g=g k:=(rfl)
def NK(f:dD->M Bool->M Bool)(s:z)(p:dD)(a:M Bool):M Bool:=
 if p.op=1 then P4 p.text s a
 else if p.op=2 then p.ai.foldl (λo k=>f k o) a
 else if p.op=3 then p.ai.foldl (λo k=>dJ o (f k a)) (aW (s.size+1) J)
 else if p.op=4 then Dz p.ai a λk=>Dg (f k) (s.size+2) a
 else if p.op=5 then Dz p.ai a λk=>dJ a (f k a)
 else aW (s.size+1) J
def jA(s:z):Nat->dD->M Bool->M Bool
 |0,_,a=>a
 |n+1,p,a=>NK (jA s n) s p a
noncomputable def Rn(p:dD)(s:z):Bool:=(nth (jA s (aF p+1) p (I::aW s.size J)) s.size).getD J
noncomputable def yV(t s:z):Bool:=match Db t with
 |some p=>Rn p s
 |none=>J
def kT(t:z):Bool:=(Db t).isSome
theorem J2{f:M Bool->M Bool}:∀(n:Nat) (x:M Bool),(Dg f n x).length=x.length
 |0,x=>rfl
 |n+1,x=>by simp only[Dg];split;{rfl};rw[J2 n,kA]
def Ko(t s:z)(a:M Bool):(P4 t s a).length=s.size+1:=by simp[P4]
theorem Vk{f:dD->M Bool->M Bool}{s:z}{p:dD}{a:M Bool}(i:∀k∈p.ai,∀b:M Bool,b.length=s.size+1->(f k b).length=s.size+1)(c:a.length=s.size+1):(NK f s p a).length=s.size+1:=by unfold NK;have m:∀(l:M dD) (b:M Bool),(∀k∈l,k∈p.ai)->b.length=s.size+1->(l.foldl (λo k=>f k o) b).length=s.size+1:=by{intro l;induction l with|nil=>{intro b _ h;exact h}|cons k l d=>intro b e h;exact d _ (λx g=>e x (eb _ g)) (i k (e k eo) b h)};have j:∀(l:M dD) (b:M Bool),b.length=s.size+1->(l.foldl (λo k=>dJ o (f k a)) b).length=s.size+1:=by{intro l;induction l with|nil=>{intro b h;exact h}|cons k l d=>intro b h;exact d _ (by rw[kA];exact h)};split;{exact Ko _ _ _};split;{exact m _ _ (λ_ h=>h) c};split;{exact j _ _ (by simp)};split;{unfold Dz;split;{rw[J2];exact c};exact c};split;{unfold Dz;split;{rw[kA];exact c};exact c};simp
theorem sO{s:z}:∀(n:Nat) (p:dD) (a:M Bool),a.length=s.size+1->(jA s n p a).length=s.size+1
 |0,_,_,h=>h
 |n+1,p,a,h=>Vk (λk _ b c=>sO n k b c) h
def outs:M Bool->Nat
 |[]=>0
 |b::l=>(if b then 0 else 1)+outs l
theorem L8:∀(l:M Bool),outs l<=l.length
 |[]=>aH _
 |b::l=>by have:=L8 l;cases b<;>simp[outs]<;>omega
theorem yy:∀(x y:M Bool),outs (dJ x y)<=outs x/\(dJ x y≠x->outs (dJ x y)<outs x)
 |[],y=>by cases y<;>simp[dJ,outs]
 |b::x,[]=>by simp[dJ,outs]
 |b::x,c::y=>by obtain⟨d,a⟩:=yy x y;refine⟨by cases b<;>cases c<;>simp[dJ,outs]<;>omega,λh=>?_⟩;cases b<;>cases c<;>simp_all[dJ,outs]<;>omega
theorem Jf:∀(x y:M Bool),nq x y=!Z' (dJ x y=x)
 |[],y=>by cases y<;>simp[dJ,nq]
 |b::x,[]=>by simp[dJ,nq]
 |b::x,c::y=>by have:=Jf x y;cases b<;>cases c<;>simp_all[dJ,nq]
def my{s:z}{i:Nat}{b:Int}:iV s i b=I↔i<s.size/\bY s i=b:=by simp[iV]
def TM{s:z}{i:Nat}{b:Int}(h:iV s i b=J)(a:i<s.size):¬bY s i=b:=by intro c;rw[my.2 ⟨a,c⟩]at h;cases h
def sk{s:z}{i:Nat}{c:Int}(d:s.size<=mg)(h:iV s i c=I):G 216 [.str s,E (i:Int),.bool J,.int .u8 c]=Z (0,[.bool I,.str s,E ((i+1:Nat):Int),.bool J]):=by obtain⟨a,e⟩:=my.1 h;have b:=wj a d;refine bW t216 rfl ?_;simp only[go_sem,t216,a,e,cZ _ _ a,b]
def sj{s:z}{i:Nat}{c:Int}(h:iV s i c=J):G 216 [.str s,E (i:Int),.bool J,.int .u8 c]=Z (0,[.bool J,.str s,E (i:Int),.bool J]):=by refine bW t216 rfl ?_;by_cases a:i<s.size;{have b:=TM h a;simp only[go_sem,t216,a,b,cZ _ _ a]};simp only[go_sem,t216,a]
def Mh{s:z}{i c:Int}:G 216 [.str s,E i,.bool I,.int .u8 c]=Z (0,[.bool J,.str s,E i,.bool I]):=by refine bW t216 rfl ?_;simp only[go_sem,t216]
abbrev hB(f:Nat->Bool):D:=.list 1 I ((cC 256).map λx=>[D.bool (f x)])
abbrev bL(f:Nat->Bool)(n:Nat):D:=.list 1 I (((cC n).filter f).map λx:Nat=>[D.int .u8 (x:Int)])
def Ru{a:Type}{f:Nat->a}{n x:Nat}(h:x<n):nth ((cC n).map f) x=Z (f x):=by rw[ek];simp[h]
def aaF{f:Nat->Bool}{x:Nat}(h:x<256):aP .Zg [hB f,E (x:Int)]=Z (.bool J):=jD _ _ _ _ (by simpa using h)
def ahw{f:Nat->Bool}{x:Nat}(h:x<256):aP (.MQ 1 0 1 I) [hB f,E (x:Int)]=Z (.list 0 J [[.bool (f x)]]):=by simp only[aP,cn,Ru h];simp[dc,D.plain]
def ahx{f:Nat->Bool}{x:Nat}(h:x<256):aP (.set 0) [hB f,E (x:Int),.bool I]=Z (hB λy=>f y ||decide (x=y)):=by simp only[aP,cn,Ru h];rw[if_pos ⟨by simp,λ_=>by simp[dc,D.plain]⟩];congr 2;apply List.ext_getElem (by simp);intro i c b;simp only[aj,List.length_range]at b;rw[List.getElem_set];simp only[List.getElem_map,List.getElem_range];by_cases a:x=i;{subst a;simp[nM]};simp[a]
def adR:aP (.make 1 1 I [zB J]) [E 256]=Z (hB λ_=>J):=by have:(cC 256).map (λx:Nat=>[D.bool ((λ_=>J) x)])=aW 256 [D.bool J]:=by{rw[qx];simp};simp only[hB,this];rfl
def RF:aP (.lu 1 I) []=Z (.list 1 I []):=xg 1 I
def vz(f:Nat->Bool)(n:Nat):(cC (n+1)).filter f=(cC n).filter f++(if f n=I then [n] else []):=by rw[List.range_succ,k9];congr 1;by_cases h:f n=I<;>simp[h]
def YW{f:Nat->Bool}{n:Nat}(a:n<256)(h:f n=I):aP (.app 1 1) [bL f n,.list 1 I [[.int .u8 (n:Int)]]]=Z (bL f (n+1)):=by (have b:((cC n).filter f).length<=n:=by have:=eR f (cC n);simpa using this);rw[RE _ _ _ _ _ (by simp only[aj,aN,aJ,room,maxLen];omega)];simp only[bL,vz,h,if_true,cE,bz,cO]
def akV{f:Nat->Bool}{n:Nat}(h:f n=J):bL f (n+1)=bL f n:=by simp only[bL,vz,h,aQ,if_false,aG]
theorem CX:∀(l:M Nat),bytesOf (l.map λx:Nat=>[D.int .u8 (x:Int)])=Z (l.map λx:Nat=>(x:Int))
 |[]=>rfl
 |x::l=>by simp only[bz,bytesOf,CX l,cV]
def YX{f:Nat->Bool}{n:Nat}:aP .Qt [bL f n]=Z (.str (bA (((cC n).filter f).map dT))):=by simp only[bL,aP,CX,cV,List.map_map,bA];rfl
theorem ag2{f:Nat->Bool}{n:Nat}(c:n<=256)(h:∀x,n<=x->f x=J):bA (((cC n).filter f).map dT)=bsT f:=by have:∀m,(cC (n+m)).filter f=(cC n).filter f:=by{intro m;induction m with|zero=>{rfl}|succ m b=>rw[<- ij,vz,h (n+m) (by omega),b];simp};have a:=this (256 - n);rw[show n+(256 - n)=256 by omega]at a;rw[bsT,a]
def SZ{x:Nat}(h:x<256):IntKind.u8.wrap (x:Int)=(x:Int):=wrap_u8 (by omega)
def HJ{x:Nat}(h:x<=mg):IntKind.i64.wrap (x:Int)=(x:Int):=wrap_i64 (by simp only[mg]at h;omega)
def mkU(x:Int):aP (.lu 1 I) [.int .u8 x]=Z (.list 1 I [[.int .u8 x]]):=uA .u8 x
abbrev HZ(x:Nat):Bool:=decide (32<=x) && decide (x<=126)
theorem n32:((32:Nat):Int)=32:=(rfl)
theorem n127:((127:Nat):Int)=127:=(rfl)
theorem n256:((256:Nat):Int)=256:=(rfl)
theorem bL0(f:Nat->Bool):bL f 0=.list 1 I []:=(rfl)
def aqg:bL HZ 32=.list 1 I []:=by (have:(cC 32).filter HZ=[]:=by decide);simp only[bL,this,cO]
theorem arM:G 221 []=Z (0,[.str U5]):=by refine bW t221 rfl ?_;have p:=Fc (b:=lB G FP) (λi=>(0,[E ((i:Nat):Int),bL HZ i])) (λi=>if 32<=i then O else Z (0,[])) 127 (0,[E 127,.bool J,bL HZ 127]);have c:∀m i,i+m=127->32<=i->bG (lB G FP) (0,[E ((i:Nat):Int),bL HZ i])=Z (0,[E 127,.bool J,bL HZ 127]):=by{intro m;induction m with|zero=>{intro i h _;(obtain rfl:i=127:=by omega);refine aK ?_;simp only[go_sem,bc,FP,n127]}|succ m e=>intro i h q;refine (bD ?_).trans (e (i+1) (by omega) (by omega));(have l:(i:Int)<127:=by omega);have k:=SZ (x:=i) (by omega);have j:=YW (f:=HZ) (n:=i) (by omega) (by simp[HZ];omega);have g:=wj (i:=i) (n:=127) (by omega) (by decide);simp only[go_sem,bc,FP,l,k,j,g,mkU]};have a:=c 95 32 rfl (by omega);rw[aqg,n32]at a;have d:=YX (f:=HZ) (n:=127);rw[ag2 (by decide) (λx o=>by simp[HZ];omega)]at d;simp only[go_sem,t221,a,RF,d];rfl
theorem BY{e op tx s i b:D}{a:Nat}(g:a<256):∀(m x:Nat) (f:Nat->Bool),x+m=a+1->
  bG (lB G FN) (0,[e,.int .u8 (a:Int),E (x:Int),op,tx,s,i,b,hB f])=Z (0,[e,.int .u8 (a:Int),E ((a+1:Nat):Int),.bool J,op,tx,s,i,b,hB λy=>f y ||(Z' (x<=y) && Z' (y<=a))])
 |0,x,f,h=>by (obtain rfl:x=a+1:=by omega);(have c:Z' (((a+1:Nat):Int)<=(a:Int))=J:=by simp only[decide_eq_false_iff_not];omega);have d:=HJ (x:=a) (by simp only[mg];omega);have l:(λy=>f y ||(Z' (a+1<=y) && Z' (y<=a)))=f:=by{funext y;by_cases h:a+1<=y;{(have:¬y<=a:=by omega);simp[h,this]};simp[h]};rw[l];refine aK ?_;simp only[go_sem,bc,FN,c,d]
 |m+1,x,f,h=>by refine (bD ?_).trans ((BY (e:=e) (op:=op) (tx:=tx) (s:=s) (i:=i) (b:=b) g m (x+1) (λy=>f y ||decide (x=y)) (by omega)).trans ?_);{(have c:Z' ((x:Int)<=(a:Int))=I:=by simp only[decide_eq_true_eq];omega);have d:=HJ (x:=a) (by simp only[mg];omega);have k:=wj (i:=x) (n:=256) (by omega) (by decide);simp only[go_sem,bc,FN,c,d,k,aaF (f:=f) (x:=x) (by omega),ahx (f:=f) (x:=x) (by omega)]};have j:(λy=>(λy=>f y ||decide (x=y)) y ||(Z' (x+1<=y) && Z' (y<=a)))=λy=>f y ||(Z' (x<=y) && Z' (y<=a)):=by{funext y;by_cases c:x=y;{subst c;(have:x<=a:=by omega);simp[this]};by_cases d:x<=y;{(have:x+1<=y:=by omega);simp[c,d,this]};(have:¬x+1<=y:=by omega);simp[c,d,this]};rw[j]
theorem Jt{op tx s i b:D}{f:Nat->Bool}:∀(m x:Nat),x+m=256->
  bG (lB G FO) (0,[E (x:Int),op,tx,s,i,b,hB f,bL f x])=Z (0,[E 256,.bool J,op,tx,s,i,b,hB f,bL f 256])
 |0,x,h=>by (obtain rfl:x=256:=by omega);refine aK ?_;simp only[go_sem,bc,FO,n256,ee]
 |m+1,x,h=>by refine (bD ?_).trans (Jt m (x+1) (by omega));(have g:(x:Int)<256:=by omega);have e:=aaF (f:=f) (x:=x) (by omega);have c:=ahw (f:=f) (x:=x) (by omega);have d:=wj (i:=x) (n:=256) (by omega) (by decide);have j:=SZ (x:=x) (by omega);cases a:f x with|false=>{rw[akV a];rw[a]at c;simp only[go_sem,bc,FO,g,e,c,d]}|true=>rw[a]at c;simp only[go_sem,bc,FO,g,e,c,d,j,mkU,YW (f:=f) (n:=x) (by omega) a]
def oE(a b:Nat):Z' ((a:Int)<=(b:Int))=Z' (a<=b):=by apply decide_eq_decide.2;omega
def zG(s:z)(i:Nat):∃a:Nat,a<256/\bY s i=(a:Int):=by have:=mH s i;exact⟨(bY s i).toNat,by omega,by omega⟩
def kY(e:D)(s:z)(i:Nat)(f:Nat->Bool):u (D×D)->Nat×M D
 |none=>(0,[e,.int .i64 0,.str ⟨#[]⟩,.str s,.int .i64 (i:Int),.bool J,hB f])
 |some (a,v)=>(1,[e,a,v,.bool J,.int .i64 0,.str ⟨#[]⟩,.str s,.int .i64 (i:Int),.bool J,hB f])
def ahT(f:Nat->Bool)(a:Nat)(l:M (Int×Int)):(λy:Nat=>(f y ||(Z' (a<=y) && Z' (y<=a))) ||pv l y)=λy=>f y ||pv (((a:Int),(a:Int))::l) y:=by funext y;simp only[pv,g_,iP];congr 3<;>simp
def aaU(f:Nat->Bool)(a b:Nat)(l:M (Int×Int)):(λy:Nat=>(f y ||(Z' (a<=y) && Z' (y<=b))) ||pv l y)=λy=>f y ||pv (((a:Int),(b:Int))::l) y:=by funext y;simp only[pv,g_,iP];congr 3<;>simp
def afl(e:D)(s:z)(i:Nat)(f:Nat->Bool)(r:u (M (Int×Int)×Nat))(o:Nat×M D):Prop:=match r with
 |some (l,k)=>i+1+l.length<=k/\k<=s.size/\o=(1,[e,.bool J,.int .i64 0,.str ⟨#[]⟩,.str s,.int .i64 (k:Int),.bool J,hB λy=>f y ||pv l y])
 |none=>∃k:Nat,i<=k/\k<=s.size/\o=(0,[.int .i64 0,.str ⟨#[]⟩,.str s,.int .i64 (k:Int),.bool I])
theorem V9{e:D}{s:z}(hs:s.size<=mg):∀(g i:Nat) (f:Nat->Bool) (q:u (D×D)),i<=s.size->s.size+1 - i<=g->
  ∃o,bG (lB G jc) (kY e s i f q)=Z o/\afl e s i f (jm s g i) o:=by intro g;induction g with|zero=>{intro i f q h1 m;omega}|succ g ih=>intro i f q hi hg;have nx:∀(j:Nat) (f':Nat->Bool) (d v:D) (S:Int×Int),i<j->j<=s.size->(∀l,(λy=>f' y ||pv l y)=λy=>f y ||pv (S::l) y)->lB G jc (kY e s i f q)=Z (.go (kY e s j f' (Z (d,v))))->sf s i=Z (S,j)->iV s i 93=J-> ∃o,bG (lB G jc) (kY e s i f q)=Z o/\afl e s i f (jm s (g+1) i) o:=by{intro j f' d v S hij hj hf qA W t;obtain⟨o,h1,m⟩:=ih j f' (Z (d,v)) hj (by omega);refine⟨o,(bD qA).trans h1,?_⟩;(have V:jm s (g+1) i=(jm s g j).map λp=>(S::p.1,p.2):=by simp only[jm,t,aQ,if_false,W]);rw[V];cases hr:jm s g j with|none=>{rw[hr]at m;obtain⟨k,k1,T,k3⟩:=m;exact⟨k,by omega,T,k3⟩}|some p=>obtain⟨l,k⟩:=p;rw[hr]at m;obtain⟨k1,T,k3⟩:=m;rw[hf]at k3;exact⟨by show i+1+(S::l).length<=k;rw[aN];omega,T,k3⟩};have bd:∀(k:Nat),i<=k->k<=s.size->iV s i 93=J->sf s i=O->lB G jc (kY e s i f q)=Z (.out (0,[E 0,.str ⟨#[]⟩,.str s,E (k:Int),.bool I]))-> ∃o,bG (lB G jc) (kY e s i f q)=Z o/\afl e s i f (jm s (g+1) i) o:=by{intro k k1 T t W ho;refine⟨_,aK ho,?_⟩;(have V:jm s (g+1) i=O:=by simp only[jm,t,aQ,if_false,W]);rw[V];exact⟨k,k1,T,rfl⟩};cases t:iV s i 93 with|true=>{obtain⟨F,_⟩:=my.1 t;have h:=sk hs t;refine⟨(1,[e,.bool J,E 0,.str ⟨#[]⟩,.str s,E ((i+1:Nat):Int),.bool J,hB f]),?_,?_⟩;{refine aK ?_;cases q with|none=>{simp only[go_sem,bc,kY,jc,h]}|some p=>simp only[go_sem,bc,kY,jc,h]};(have V:jm s (g+1) i=Z ([],i+1):=by simp only[jm,t,if_true]);rw[V];(have he:(λy=>f y ||pv [] y)=f:=by funext y;simp[pv]);refine⟨by simp,by omega,?_⟩;rw[he]}|false=>have h:=sj t;by_cases F:i<s.size;{obtain⟨a,ha,VE⟩:=zG s i;have r:=aov (b:=bY s i) (mH s i);have A:=cZ s i F;have B:=wj F hs;(have n:¬s.size<=i:=by omega);cases L:Qx (bY s i) with|false=>{refine bd i (aH _) hi t (by simp only[sf,L,eJ,aQ,if_false]) ?_;rw[L]at r;cases q with|none=>{simp only[go_sem,bc,kY,jc,h,oE,n,A,r]}|some p=>simp only[go_sem,bc,kY,jc,h,oE,n,A,r]}|true=>rw[L]at r;cases K:iV s (i+1) 126 with|false=>{have m:=sj K;have P:=BY (e:=e) (op:=E 0) (tx:=.str ⟨#[]⟩) (s:=.str s) (i:=E ((i+1:Nat):Int)) (b:=.bool J) ha 1 a f rfl;rw[<- VE]at P;refine nx (i+1) _ (.int .u8 (bY s i)) (E ((a+1:Nat):Int)) (bY s i,bY s i) (by omega) (by omega) (λl=>by rw[VE];exact ahT f a l) ?_ (by simp only[sf,F,L,K,decide_true,ng,if_true,aQ,if_false]) t;cases q with|none=>{simp only[go_sem,bc,kY,jc,h,oE,n,A,r,B,m,P]}|some p=>simp only[go_sem,bc,kY,jc,h,oE,n,A,r,B,m,P]}|true=>have m:=sk hs K;obtain⟨hl2,_⟩:=my.1 K;have R:∀(k:Nat),k=i+2->sf s i=O->lB G jc (kY e s i f q)=Z (.out (0,[E 0,.str ⟨#[]⟩,.str s,E (k:Int),.bool I]))->∃o,bG (lB G jc) (kY e s i f q)=Z o/\afl e s i f (jm s (g+1) i) o:=λk hk W ho=>bd k (by omega) (by omega) t W ho;by_cases C:i+1+1<s.size;{have w:=cZ s (i+1+1) C;have N:=aov (b:=bY s (i+1+1)) (mH s (i+1+1));have U:=wj C hs;(have H:¬s.size<=i+1+1:=by omega);cases Y:Qx (bY s (i+1+1)) with|false=>{rw[Y]at N;refine R (i+1+1) rfl (by simp only[sf,F,L,K,Y,decide_true,ng,if_true,dK,eJ,aQ,if_false]) ?_;cases q with|none=>{simp only[go_sem,bc,kY,jc,h,oE,n,A,r,B,m,H,w,N]}|some p=>simp only[go_sem,bc,kY,jc,h,oE,n,A,r,B,m,H,w,N]}|true=>rw[Y]at N;by_cases gk:bY s (i+1+1)<bY s i;{(have Q:¬bY s i<=bY s (i+1+1):=by omega);refine R (i+1+1) rfl (by simp only[sf,F,L,K,Y,Q,decide_true,decide_false,ng,if_true,eJ,aQ,if_false]) ?_;cases q with|none=>{simp only[go_sem,bc,kY,jc,h,oE,n,A,r,B,m,H,w,N,gk]}|some p=>simp only[go_sem,bc,kY,jc,h,oE,n,A,r,B,m,H,w,N,gk]};(have Q:bY s i<=bY s (i+1+1):=by omega);obtain⟨c,hz,X⟩:=zG s (i+1+1);have P:=BY (e:=e) (op:=E 0) (tx:=.str ⟨#[]⟩) (s:=.str s) (i:=E ((i+1+1+1:Nat):Int)) (b:=.bool J) hz (c+1 - a) a f (by omega);have wa:=HJ (x:=a) (by simp only[mg];omega);rw[<- X,<- VE]at P;refine nx (i+1+1+1) _ (.int .u8 (bY s (i+1+1))) (E ((c+1:Nat):Int)) (bY s i,bY s (i+1+1)) (by omega) (by omega) (λl=>by rw[VE,X];exact aaU f a c l) ?_ (by simp only[sf,F,L,K,Y,C,Q,decide_true,ng,if_true]) t;cases q with|none=>{simp only[go_sem,bc,kY,jc,h,oE,n,A,r,B,m,H,w,N,U,gk,P]}|some p=>simp only[go_sem,bc,kY,jc,h,oE,n,A,r,B,m,H,w,N,U,gk,P]};(have H:s.size<=i+1+1:=by omega);refine R (i+1+1) rfl (by have:¬i+2<s.size:=C;simp only[sf,F,L,K,this,decide_true,decide_false,ng,if_true,dK,aQ,if_false]) ?_;cases q with|none=>{simp only[go_sem,bc,kY,jc,h,oE,n,A,r,B,m,H]}|some p=>simp only[go_sem,bc,kY,jc,h,oE,n,A,r,B,m,H]};(have n:s.size<=i:=by omega);refine bd i (aH _) hi t (by simp only[sf,F,decide_false,dK,aQ,if_false]) ?_;cases q with|none=>{simp only[go_sem,bc,kY,jc,h,oE,n]}|some p=>simp only[go_sem,bc,kY,jc,h,oE,n]
def PA(s:z)(i c:Nat)(r:PR)(p:dD)(k:Nat)(b:Bool):Prop:=yZ 64 p=I/\i<=k/\k<=s.size/\match r with
 |some q=>b=J/\q=(p,k)/\i+c<=k
 |none=>b=I
def kW(op:Int)(t:z)(h:t.size<=256):yZ 64 ⟨op,t,[]⟩=I:=y_ h (by simp) (by simp)
theorem XA{s:z}{g i k:Nat}(h:jm s g i=Z ([],k)):k=i+1:=by cases g with|zero=>{cases h}|succ g=>simp only[jm]at h;split at h;{cases h;rfl};split at h;{obtain⟨p,_,h⟩:=aC.1 h;simp at h};cases h
theorem arL{s:z}{i:Nat}(w:s.size<=mg)(C:i<=s.size):∃p k b,G 220 [.str s,E (i:Int),.bool J]=Z (0,jz p++[.str s,.int .i64 (k:Int),.bool b])/\PA s i 0 (O4 s i) p k b:=by obtain⟨o,c,g⟩:=V9 (e:=E (i:Int)) w (s.size+1) i (λ_=>J) O (by omega) (by omega);have m:=adR;simp only[kY]at c;cases a:jm s (s.size+1) i with|none=>{rw[a]at g;obtain⟨k,j,d,rfl⟩:=g;refine⟨⟨0,eT,[]⟩,k,I,bW t220 rfl ?_,kW _ _ C0,j,d,by rw[O4,a]⟩;simp only[go_sem,t220,m,c,a_];rfl}|some q=>obtain⟨l,k⟩:=q;rw[a]at g;obtain⟨j,d,rfl⟩:=g;(have B:(λy:Nat=>(λ_=>J) y ||pv l y)=pv l:=by funext y;simp);rw[B]at c;(have v:IntKind.i64.wrap ((i:Int)+1)=((i+1:Nat):Int):=by rw[wrap_i64 (by simp only[mg]at w;omega)];omega);have h:=λtx A b=>Jt (op:=E 0) (tx:=tx) (s:=.str s) (i:=A) (b:=b) (f:=pv l) 256 0 rfl;simp only[bL0,n0]at h;have x:=YX (f:=pv l) (n:=256);cases l with|nil=>{have t:=XA a;subst t;refine⟨⟨1,bsT (pv []),[]⟩,i+1,I,bW t220 rfl ?_,kW _ _ (Bn _),by omega,d,by rw[O4,a]⟩;simp only[go_sem,t220,m,c,v,RF,h,x,a_];rfl}|cons r l=>(have t:¬(k:Int)=((i+1:Nat):Int):=by rw[aN]at j;omega);refine⟨⟨1,bsT (pv (r::l)),[]⟩,k,J,bW t220 rfl ?_,kW _ _ (Bn _),by omega,d,by rw[O4,a];exact⟨rfl,rfl,by omega⟩⟩;simp only[go_sem,t220,m,c,v,t,RF,h,x,a_];rfl
theorem Od {a c : Type} {b : a -> u (Sg a c)} (mk : Nat -> a) (n : Nat) {fin : c} (d : ∀ i, i<n -> b (mk i) = Z (.go (mk (i + 1)))) (e : b (mk n) = Z (.out fin)) : bG b (mk 0) = Z fin := by
  have h : ∀ m i, i + m = n -> bG b (mk i) = Z fin := by
    intro m
    induction m with
    | zero => intro i h; obtain rfl : i = n := by omega
              exact aK e
    | succ m f => intro i h; rw [bD (d i (by omega))]; exact f (i + 1) (by omega)
  exact h n 0 (by omega)
def SP{l:M Bool}{i:Nat}{b:Bool}(h:nth l i=Z b):aP (.el 1) [bP l,E (i:Int)]=Z (.list 0 J [[.bool b]]):=by rw[j_,aV,h];rfl
def rL{l:M Bool}{i:Nat}(h:i<l.length):aP .Zg [bP l,E (i:Int)]=Z (.bool J):=jD _ _ _ _ (by simpa using h)
def Bj{l:M Bool}{i:Nat}{b:Bool}(h:nth l i=Z b):aP (.MQ 1 0 1 I) [bP l,E (i:Int)]=Z (.list 0 J [[.bool b]]):=by simp only[aP,cn,aV,h,cV];simp[CZ,dc,D.plain]
def EA{l:M Bool}{i:Nat}{c:Bool}(h:i<l.length):aP (.set 0) [bP l,E (i:Int),.bool c]=Z (bP (l.set i c)):=by have a:nth l i=Z l[i]:=dG h;simp only[aP,cn,aV,a,cV];rw[if_pos ⟨by simp,λ_=>by simp[dc,D.plain]⟩];simp only[bP,List.map_set];rfl
def zJ{n:Nat}(h:n<=1073741824):aP (.make 1 1 I [zB J]) [E (n:Int)]=Z (bP (aW n J)):=by simp only[aP,cn];rw[if_pos ⟨by omega,by simp only[room];omega,by omega⟩];simp[bP,CZ,SK.d]
def Y6{l m:M Bool}(h:m.length=l.length):aP .Kv [bP l,bP m]=Z (bP m):=by simp only[aP,aj,h,and_self,if_true]
def lg(a:M Bool)(i:Nat):M Bool:=a.take i++aW (a.length - i) J
def ahl(a:M Bool):lg a 0=aW a.length J:=by simp[lg]
def QU(a:M Bool):lg a a.length=a:=by simp[lg]
def z8(a:M Bool)(i:Nat)(h:i<=a.length):(lg a i).length=a.length:=by simp[lg];omega
def E5(a:M Bool)(i j:Nat)(h:i<=a.length):(lg a i)[j]?=if j<i then a[j]? else if j<a.length then Z J else O:=by unfold lg;rw[zr];(have c:(a.take i).length=i:=by rw[bk];omega);rw[c];split;{rw[List.getElem?_take_of_lt (by assumption)]};rw[List.getElem?_replicate];by_cases b:j<a.length;{rw[if_pos (by omega),if_pos b]};rw[if_neg (by omega),if_neg b]
def BC{a:M Bool}{i:Nat}{b:Bool}(h:nth a i=Z b):(lg a i).set i b=lg a (i+1):=by have e:i<a.length:=aY h;rw[ek]at h;apply gu;intro j;rw[lO,E5 _ _ _ (by omega),E5 _ _ _ (by omega),z8 _ _ (by omega)];by_cases c:i=j;{subst c;rw[if_pos rfl,if_pos e,if_pos (by omega),h]};rw[if_neg c];by_cases d:j<i;{rw[if_pos d,if_pos (by omega)]};rw[if_neg d,if_neg (show ¬j<i+1 by omega)]
theorem JK:∀{a b:M Bool} {i:Nat} {x y:Bool},nth a i=Z x->nth b i=Z y->nth (dJ a b) i=Z (x ||y)
 |_::_,_::_,0,_,_,d,c=>by cases d;cases c;rfl
 |a::x,b::y,i+1,_,_,d,c=>JK (a:=x) (b:=y) d c
def Ip{n:Nat}(h:n<=mg):IntKind.i64.wrap ((n:Int)+1)=((n+1:Nat):Int):=by rw[wrap_i64 (by simp only[mg]at h;omega)];omega
def aiX{a b:M Bool}(o:a.length<=mg+1)(v:b.length=a.length):G 233 [bP a,bP b]=Z (0,[bP (dJ a b)]):=by have d:=kA a b;have m:=zJ (n:=a.length) (by simp only[mg]at o;omega);have e:=Od (b:=lB G Lr) (λi=>(0,[bP a,bP b,E (i:Int),bP (lg (dJ a b) i)])) a.length (fin:=(0,[bP a,bP b,E a.length,.bool J,bP (lg (dJ a b) a.length)])) (by intro i f;have k:IntKind.i64.wrap ((i:Int)+1)=((i+1:Nat):Int):=Ip (by omega);have h:nth a i=Z a[i]:=dG f;have g:nth b i=Z (b[i]'(by omega)):=dG (by omega);have p:=JK h g;have t:=SP h;have s:=SP g;have r:=rL (l:=lg (dJ a b) i) (i:=i) (by rw[z8 _ _ (by omega)];omega);have q:=λc=>EA (l:=lg (dJ a b) i) (i:=i) (c:=c) (by rw[z8 _ _ (by omega)];omega);have j:=BC p;generalize a[i]=x at *;generalize (b[i]'(by omega))=y at *;cases x<;>cases y<;>simp only[dX,dB]at j<;>simp only[go_sem,bc,Lr,f,k,t,s,r,q,j]) (by simp only[go_sem,bc,Lr,aE]);rw[n0,ahl,d,<- d,QU,d]at e;refine bW t233 rfl ?_;simp only[go_sem,t233,m,e]
def vm(p:Nat->Bool)(k:Nat):(cC (k+1)).any p=((cC k).any p ||p k):=by rw[List.range_succ,List.any_append];simp
def Uj{t s:z}{a:M Bool}{i:Nat}{x:Bool}(b:i<s.size)(h:nth a i=Z x):nth (P4 t s a) (i+1)=Z (x && hasB t (bY s i)):=by have:=Ru (f:=λi=>(nth a i).getD J && hasB t (bY s i)) b;rw[h]at this;exact this
def Rv{l:M Bool}{i:Nat}{c:Bool}(h:i<l.length):nth (l.set i c) i=Z c:=by rw[ek,lO];simp[h]
theorem Wc{s t:z}{a o:M Bool}{op ks:D}{i:Nat}{x:Bool}(Q:s.size<=mg)(P:t.size<=mg)(B:i<s.size)(C:nth a i=Z x)(f:nth o (i+1)=Z J) :
  ∃d:Int,bG (lB G vL) (0,[.str s,bP a,E (i:Int),E 0,op,.str t,ks,bP o])=Z (0,[.str s,bP a,E (i:Int),E d,.bool J,op,.str t,ks,bP (o.set (i+1) (x && hasB t (bY s i)))]):=by have y:=SP C;have e:=aY f;have A:IntKind.i64.wrap ((i:Int)+1)=((i+1:Nat):Int):=Ip (by omega);cases x with|false=>{have m:o.set (i+1) (J && hasB t (bY s i))=o:=by{apply gu;intro j;rw[lO];rw[ek]at f;by_cases g:i+1=j;{subst g;rw[if_pos rfl,if_pos e,f];rfl};rw[if_neg g]};rw[m];refine⟨0,aK ?_⟩;by_cases v:(0:Int)<(t.size:Int);{simp only[go_sem,bc,vL,v,y]};simp only[go_sem,bc,vL,v]}|true=>refine⟨t.size,?_⟩;have p:=Od (b:=lB G vL) (λk=>(0,[.str s,bP a,E (i:Int),E (k:Int),op,.str t,ks,bP (o.set (i+1) ((cC k).any λk=>Z' (bY t k=bY s i)))])) t.size (fin:=(0,[.str s,bP a,E (i:Int),E t.size,.bool J,op,.str t,ks,bP (o.set (i+1) (hasB t (bY s i)))])) (by intro k r;have h:IntKind.i64.wrap ((k:Int)+1)=((k+1:Nat):Int):=Ip (by omega);rw[vm];generalize (cC k).any (λk=>Z' (bY t k=bY s i))=q;(have n:i+1<(o.set (i+1) q).length:=by rw[List.length_set];exact e);have N:=rL n;have L:=Bj (Rv (l:=o) (i:=i+1) (c:=q) e);have w:=λc=>EA (l:=o.set (i+1) q) (i:=i+1) (c:=c) n;have K:=cZ t k r;have H:=cZ s i B;have F:∀c,(o.set (i+1) q).set (i+1) c=o.set (i+1) c:=λc=>List.set_set ..;simp only[F]at w;cases q<;>simp only[go_sem,bc,vL,r,A,h,y,N,L,w,K,H]) (by have:hasB t (bY s i)=(cC t.size).any λk=>Z' (bY t k=bY s i):=rfl;rw[this];simp only[go_sem,bc,vL,aE]);have m:o.set (i+1) ((cC 0).any λk=>Z' (bY t k=bY s i))=o:=by{apply gu;intro j;rw[lO];rw[ek]at f;by_cases g:i+1=j;{subst g;rw[if_pos rfl,if_pos e,f];rfl};rw[if_neg g]};rw[m,n0]at p;rw[dC];exact p
def abF{J:M Bool}{i j:Nat}(b:i<=j)(a:j<J.length):nth (lg J i) j=Z false:=by rw[ek,E5 _ _ _ (by omega),if_neg (by omega),if_pos a]
def Wd{s t:z}{a:M Bool}{op ks:D}(m:s.size<=mg)(l:t.size<=mg)(p:a.length=s.size+1) :
  bG (lB G FR) (0,[.str s,bP a,E 0,op,.str t,ks,bP (aW (s.size+1) false)])=Z (0,[.str s,bP a,E s.size,.bool false,op,.str t,ks,bP (P4 t s a)]):=by have g:=Ko t s a;have f:=Od (b:=lB G FR) (λi=>(0,[.str s,bP a,E (i:Int),op,.str t,ks,bP (lg (P4 t s a) (i+1))])) s.size (fin:=(0,[.str s,bP a,E s.size,.bool false,op,.str t,ks,bP (lg (P4 t s a) (s.size+1))])) (by intro i d;have k:IntKind.i64.wrap ((i:Int)+1)=((i+1:Nat):Int):=Ip (by omega);have h:nth a i=Z (a[i]'(by omega)):=dG (by omega);have n:=Uj (t:=t) d h;obtain⟨c,e⟩:=Wc (op:=op) (ks:=ks) m l d h (abF (J:=P4 t s a) (i:=i+1) (j:=i+1) (aH _) (by omega));rw[BC n]at e;simp only[go_sem,bc,FR,d,k,e]) (by simp only[go_sem,bc,FR,aE]);have o:lg (P4 t s a) (0+1)=aW (s.size+1) false:=by{rw[lg,g];simp[P4,ir]};rw[o,n0]at f;rw[f];congr 9;rw[<- g,QU]
def neB(x y:M Bool):Bool:=!Z' (x=y)
theorem YL:∀{x y:M Bool},x.length=y.length->(cC x.length).any (λj=>!Z' (nth x j=nth y j))=neB x y
 |[],[],_=>rfl
 |a::x,b::y,h=>by have c:=YL (x:=x) (y:=y) (by simpa using h);rw[aN,List.range_succ_eq_map,g_,List.any_map];have i:((λj=>!Z' (nth (a::x) j=nth (b::y) j)) ∘ Nat.succ)=λj=>!Z' (nth x j=nth y j):=rfl;rw[i,c];simp only[neB,eB];have g:nth (a::x) 0=Z a:=rfl;have f:nth (b::y) 0=Z b:=rfl;rw[g,f];by_cases e:a=b<;>by_cases d:x=y<;>simp[e,d]
def Ju{s op tx ks:D}{o x:M Bool}(t:o.length<=mg+1)(e:x.length=o.length) :
  bG (lB G B2) (0,[s,.bool J,E 0,op,tx,ks,bP o,bP x])=Z (0,[s,.bool (neB x o),E o.length,.bool J,op,tx,ks,bP o,bP x]):=by rw[<- YL e];have f:=Od (b:=lB G B2) (λi=>(0,[s,.bool ((cC i).any λj=>!Z' (nth x j=nth o j)),E (i:Int),op,tx,ks,bP o,bP x])) o.length (fin:=(0,[s,.bool ((cC o.length).any λj=>!Z' (nth x j=nth o j)),E o.length,.bool J,op,tx,ks,bP o,bP x])) (by intro i a;have k:IntKind.i64.wrap ((i:Int)+1)=((i+1:Nat):Int):=Ip (by omega);have h:nth o i=Z o[i]:=dG a;have g:nth x i=Z (x[i]'(by omega)):=dG (by omega);rw[vm,h,g];generalize (cC i).any (λj=>!Z' (nth x j=nth o j))=q;have r:=Bj h;have p:=Bj g;have n:=rL a;have m:=rL (l:=x) (i:=i) (by omega);generalize o[i]=c at *;generalize (x[i]'(by omega))=d at *;cases q<;>cases c<;>cases d<;>simp only[go_sem,bc,B2,a,k,r,p,n,m,bq]) (by simp only[go_sem,bc,B2,aE]);rw[n0]at f;rw[e];exact f
def NB(p:dD):(jz p).length=3:=by rw[a_];rfl
def rq(p:dD)(k:Nat)(a:Bool):aP (.has 3) [.list k a [jz p]]=Z (.bool J):=by rw[zb,NB,if_pos (aH 3)]
def ND{l:M dD}{i:Nat}{p:dD}(h:nth l i=Z p):aP (.el 3) [cK l,E (i:Int)]=Z (.list 0 J [jz p]):=by rw[j_,aV,h];rfl
def xQ{k:dD}:aP (.el 3) [cK [k],E 0]=Z (.list 0 J [jz k]):=ND (l:=[k]) (i:=0) rfl
def Hl(h:u D)(s:z)(op:Int)(t:z)(k:dD)(x:M Bool):Nat×M D:=match h with
 |none=>(0,[.str s,.int .i64 op,.str t,cK [k],bP x])
 |some a=>(1,[.str s,a,.int .i64 op,.str t,cK [k],bP x])
section
variable {s:z} {k:dD} {f:M Bool->M Bool} (hs:s.size<=mg) (hf:∀x:M Bool,x.length=s.size+1->(f x).length=s.size+1)
 (ih:∀x:M Bool,x.length=s.size+1->G 234 (jz k++[.str s,bP x])=Z (0,[bP (f x)]))
include hs hf ih
theorem Wf{t:z}:∀(m:Nat) (x:M Bool) (h:u D),outs x<m->x.length=s.size+1->
  bG (lB G oU) (Hl h s 4 t k x)=Z (0,[.str s,.bool I,E 4,.str t,cK [k],bP (Dg f m x)]):=by intro m;induction m with|zero=>{intro x h q;omega}|succ m p=>intro x h q e;have i:=ih x e;rw[a_]at i;simp only[av,au]at i;have j:=aiX (a:=x) (b:=f x) (by rw[e];omega) (by rw[hf x e,e]);have n:=kA x (f x);have g:=Ju (s:=.str s) (op:=E 4) (tx:=.str t) (ks:=cK [k]) (o:=x) (x:=dJ x (f x)) (by rw[e];omega) n;simp only[Dg];by_cases d:dJ x (f x)=x;{rw[if_pos d];(have l:neB (dJ x (f x)) x=J:=by simp[neB,d]);rw[l,d]at g;rw[d]at j;refine aK ?_;cases h with|none=>{simp only[go_sem,bc,Hl,oU,xQ,a_ k,i,j,g]}|some c=>simp only[go_sem,bc,Hl,oU,xQ,a_ k,i,j,g]};rw[if_neg d];(have l:neB (dJ x (f x)) x=I:=by simp[neB,d]);rw[l]at g;refine (bD (s':=Hl (Z (.bool J)) s 4 t k (dJ x (f x))) ?_).trans (p _ (Z (.bool J)) (by have:=(yy x (f x)).2 d;omega) (by rw[n];exact e));cases h with|none=>{simp only[go_sem,bc,Hl,oU,xQ,a_ k,i,j,g]}|some c=>simp only[go_sem,bc,Hl,oU,xQ,a_ k,i,j,g]
theorem We{t:z}{x:M Bool}(c:x.length=s.size+1) :
  bG (lB G oU) (0,[.str s,E 5,.str t,cK [k],bP x])=Z (0,[.str s,.bool I,E 5,.str t,cK [k],bP (dJ x (f x))]):=by have d:=ih x c;rw[a_]at d;simp only[av,au]at d;have i:=aiX (a:=x) (b:=f x) (by rw[c];omega) (by rw[hf x c,c]);have h:=kA x (f x);have e:=Ju (s:=.str s) (op:=E 5) (tx:=.str t) (ks:=cK [k]) (o:=x) (x:=dJ x (f x)) (by rw[c];omega) h;refine aK ?_;cases g:neB (dJ x (f x)) x<;>rw[g]at e<;>simp only[go_sem,bc,oU,xQ,a_ k,d,i,e]
end
def yp{a β:Type}(g:β->a->β)(b:β)(l:M a)(i:Nat)(x:a)(h:nth l i=Z x):(l.take (i+1)).foldl g b=g ((l.take i).foldl g b) x:=by rw[cd l i x h,List.foldl_append];rfl
theorem N9{s:z}{f:dD->M Bool->M Bool}(a:∀(k:dD) (x:M Bool),x.length=s.size+1->(f k x).length=s.size+1):∀(l:M dD) (b:M Bool),b.length=s.size+1->(l.foldl (λo k=>f k o) b).length=s.size+1
 |[],_,h=>h
 |k::l,b,h=>N9 a l _ (a k b h)
theorem BE{s:z}{g:dD->M Bool}:∀(l:M dD) (b:M Bool),b.length=s.size+1->(l.foldl (λo k=>dJ o (g k)) b).length=s.size+1
 |[],_,h=>h
 |k::l,b,h=>BE l _ (by rw[kA];exact h)
def aeL{a:Type}{l:M a}(h:l.length≠1):¬(l.length:Int)=1:=by omega
theorem aiY{s:z}(H:s.size<=mg)(n:Nat):∀(p:dD) (a:M Bool),aF p<n->yZ 64 p=I->a.length=s.size+1->G 234 (jz p++[.str s,bP a])=Z (0,[bP (jA s n p a)]):=by induction n with|zero=>{intro p a h;omega}|succ n V=>intro p a hz S A;have c:=sO (s:=s) n;have y:∀k∈p.ai,∀x:M Bool,x.length=s.size+1->G 234 (jz k++[.str s,bP x])=Z (0,[bP (jA s n k x)]):=λk y x F=>V k x (by have:=dD.uQ y;omega) (Ec S y) F;have q:=Ip H;have r:=zJ (n:=s.size+1) (by simp only[mg]at H;omega);have Y:=Ed S;have L:=Y6 (l:=aW (s.size+1) J) (m:=a) (by simpa using A);have W:=aeS S;refine bW t234 (by rw[a_];rfl) ?_;simp only[jA];unfold NK;by_cases R:p.op=1;{have d:=Wd (s:=s) (t:=p.text) (a:=a) (op:=E 1) (ks:=cK p.ai) H (by simp only[mg];omega) A;rw[if_pos R];simp only[go_sem,q,r,t234,a_ p,R,d]};rw[if_neg R];by_cases Q:p.op=2;{rw[if_pos Q];have d:=cI (b:=lB G Lt) p.ai (λi (x:M Bool)=>(0,[.str s,E (i:Int),E 2,.str p.text,cK p.ai,bP x])) (λi=>(p.ai.take i).foldl (λo k=>jA s n k o) a) (0,[.str s,E p.ai.length,.bool J,E 2,.str p.text,cK p.ai,bP (p.ai.foldl (λo k=>jA s n k o) a)]) (by intro i k e;have K:=aY e;have w:=wj (i:=i) (n:=p.ai.length) K (by simp only[mg];omega);have C:=y k (bj e) _ (N9 (f:=jA s n) c (p.ai.take i) a A);rw[a_]at C;simp only[av,au]at C;rw[yp _ _ _ _ _ e];simp only[go_sem,bc,Lt,K,ND e,rq];simp only[go_sem,a_ k,C,w]) (by rw[bl];simp only[go_sem,bc,Lt,aE]) p.ai.length 0 (by omega);rw[n0,br,zq]at d;simp only[go_sem,q,r,L,t234,a_ p,Q,d]};rw[if_neg Q];by_cases P:p.op=3;{rw[if_pos P];have d:=cI (b:=lB G Lu) p.ai (λi (x:M Bool)=>(0,[.str s,bP a,E (i:Int),E 3,.str p.text,cK p.ai,bP x])) (λi=>(p.ai.take i).foldl (λo k=>dJ o (jA s n k a)) (aW (s.size+1) J)) (0,[.str s,bP a,E p.ai.length,.bool J,E 3,.str p.text,cK p.ai,bP (p.ai.foldl (λo k=>dJ o (jA s n k a)) (aW (s.size+1) J))]) (by intro i k e;have K:=aY e;have w:=wj (i:=i) (n:=p.ai.length) K (by simp only[mg];omega);have C:=y k (bj e) a A;have U:=BE (s:=s) (g:=λk=>jA s n k a) (p.ai.take i) (aW (s.size+1) J) (by simp);have X:=aiX (a:=(p.ai.take i).foldl (λo k=>dJ o (jA s n k a)) (aW (s.size+1) J)) (b:=jA s n k a) (by rw[U];omega) (by rw[c k a A,U]);rw[a_]at C;simp only[av,au]at C;rw[yp _ _ _ _ _ e];simp only[go_sem,bc,Lu,K,ND e,rq];simp only[go_sem,a_ k,C,X,w]) (by rw[bl];simp only[go_sem,bc,Lu,aE]) p.ai.length 0 (by omega);rw[n0,br,zq]at d;simp only[go_sem,q,r,t234,a_ p,P,d]};rw[if_neg P];by_cases D:p.op=4;{rw[if_pos D];(have j:¬(4:Int)=5:=by decide);by_cases B:p.ai.length=1;{obtain⟨k,v⟩:=dd.1 B;have N:=Wf (t:=p.text) H (c k) (λx F=>y k (by rw[v];simp) x F) (s.size+2) a O (by have:=L8 a;omega) A;simp only[Hl]at N;rw[v,L6];simp only[go_sem,q,r,L,t234,a_ p,D,j,v,N]};rw[L7 B];have T:=aeL B;have d:bG (lB G oU) (0,[.str s,E 4,.str p.text,cK p.ai,bP a])=Z (1,[.str s,.bool J,E 4,.str p.text,cK p.ai,bP a]):=by{refine aK ?_;simp only[go_sem,bc,oU,T]};simp only[go_sem,q,r,L,t234,a_ p,D,j,d]};rw[if_neg D];by_cases j:p.op=5;{rw[if_pos j];by_cases B:p.ai.length=1;{obtain⟨k,v⟩:=dd.1 B;have N:=We (t:=p.text) H (c k) (λx F=>y k (by rw[v];simp) x F) A;rw[v,L6];simp only[go_sem,q,r,L,t234,a_ p,j,v,N]};rw[L7 B];have T:=aeL B;have d:bG (lB G oU) (0,[.str s,E 5,.str p.text,cK p.ai,bP a])=Z (1,[.str s,.bool J,E 5,.str p.text,cK p.ai,bP a]):=by{refine aK ?_;simp only[go_sem,bc,oU,T]};simp only[go_sem,q,r,L,t234,a_ p,j,d]};rw[if_neg j];simp only[go_sem,q,r,t234,a_ p,R,Q,P,D,j]
def arR{s:z}{p:dD}(d:s.size<=mg)(m:yZ 64 p=I):G 235 (jz p++[.str s])=Z (0,[.bool (Rn p s)]):=by have k:=Ip d;have o:=zJ (n:=s.size+1) (by simp only[mg]at d;omega);have e:=aiY d (aF p+1) p (I::aW s.size J) (aT _) m (by simp);have g:=sO (s:=s) (aF p+1) p (I::aW s.size J) (by simp);rw[a_]at e;simp only[av,au]at e;have j:=rL (l:=aW (s.size+1) J) (i:=0) (by simp);have f:=EA (l:=aW (s.size+1) J) (i:=0) (c:=I) (by simp);(have v:(aW (s.size+1) J).set 0 I=I::aW s.size J:=by rw[ir];rfl);rw[v]at f;rw[n0]at j f;have t:=rL (l:=jA s (aF p+1) p (I::aW s.size J)) (i:=s.size) (by rw[g];omega);obtain⟨b,h⟩:∃b,nth (jA s (aF p+1) p (I::aW s.size J)) s.size=Z b:=⟨_,dG (by rw[g];omega)⟩;have r:=Bj h;refine bW t235 (by rw[a_];rfl) ?_;(have q:Rn p s=b:=by rw[Rn,h];rfl);rw[q];generalize jA s (aF p+1) p (I::aW s.size J)=a at *;simp only[go_sem,t235,a_ p,k,o,j,f,e,t,r]
theorem abK(b:Int):pCh b=(eA 97 122 b ||(eA 48 57 b ||decide (b=45))):=(rfl)
def afx{s:z}{i:Nat}(h:i<s.size):aP (.MZ I) [.str s,E (i:Int),E ((i+1:Nat):Int)]=Z (.str (G6 (bY s i))):=by (have f:dI (E (i:Int))=Z i:=by simp[dI]);(have e:dI (E ((i+1:Nat):Int))=Z (i+1):=by simp only[dI];rw[if_pos (by omega)];congr 1);simp only[aP,f,e];rw[if_pos ⟨by omega,by omega⟩];congr 2;(have b:(bY s i).toNat=(s[i]?.getD 0).toNat:=by unfold bY;simp);have a:dT (bY s i).toNat=s[i]:=by{rw[b,getElem?_pos s i h,cL];simp};apply sE;(have d:(G6 (bY s i)).data=#[s[i]]:=by simp only[G6,bA,a]);rw[d,ByteArray.data_extract];apply Array.ext;{simp;omega};intro j g c;(have:j=0:=by simpa using c);subst this;simp;rfl
def apt(k:Nat)(h:k<=mg):IntKind.i64.wrap (((k+1:Nat):Int) - 1)=(k:Int):=by rw[wrap_i64 (by simp only[mg]at h;omega)];omega
def Er(f:Nat)(s:z)(i c n:Nat)(a:Bool)(r:PR):Prop:=∃j p k b,j<n/\G f [.str s,.int .i64 (i:Int),.bool a]=Z (j,jz p++[.str s,.int .i64 (k:Int),.bool b])/\PA s i c r p k b
section
variable {s:z} {alt:Nat->PR}
theorem MY(a:Int)(t:z):aP .pl [E a,.str t]=Z (.bool J):=(rfl)
theorem u_(a:Int)(t:z)(l:M dD):aP .xG [E a,.str t,cK l]=Z (.bool J):=(rfl)
theorem aqd{i d c e k:Nat}{r:PR}{p:dD}{b:Bool}(h:PA s d e r p k b)(j:i<=d)(l:i+c<=d+e):PA s i c r p k b:=by obtain⟨g,m,f,a⟩:=h;refine⟨g,by omega,f,?_⟩;cases r with|none=>{exact a}|some q=>exact⟨a.1,a.2.1,by have:=a.2.2;omega⟩
theorem arN(l:s.size<=mg){i:Nat}(m:i<s.size)(K:∀j,i<j->j<=s.size->Er 223 s j 0 2 J (alt j)):Er 222 s i 1 3 J (xY alt s i):=by have H:=wj m l;unfold xY;cases t:iV s i 40 with|true=>{have d:=sk l t;obtain⟨j,p,k,b,D,e,C⟩:=K (i+1) (by omega) (by omega);obtain⟨h,Q,v,g⟩:=C;simp only[a_,av,au]at e;rw[if_pos rfl];cases b with|true=>{have a:=λc=>Mh (s:=s) (i:=(k:Int)) (c:=c);cases w:alt (i+1) with|some q=>{rw[w]at g;cases g.1}|none=>match j,D with|0,_=>{exact⟨1,p,k,I,by decide,bW t222 rfl (by simp only[go_sem,t222,d,a,e,a_]),h,by omega,v,rfl⟩}|1,_=>exact⟨2,p,k,I,by decide,bW t222 rfl (by simp only[go_sem,t222,d,a,e,a_]),h,by omega,v,rfl⟩}|false=>cases w:alt (i+1) with|none=>{rw[w]at g;cases g}|some q=>rw[w]at g;obtain⟨_,rfl,P⟩:=g;dsimp only;cases f:iV s k 41 with|true=>{have a:=sk l f;have R:=nu f;match j,D with|0,_=>{exact⟨1,p,k+1,J,by decide,bW t222 rfl (by simp only[go_sem,t222,d,a,e,a_]),h,by omega,by omega,rfl,rfl,by omega⟩}|1,_=>exact⟨2,p,k+1,J,by decide,bW t222 rfl (by simp only[go_sem,t222,d,a,e,a_]),h,by omega,by omega,rfl,rfl,by omega⟩}|false=>have a:=sj f;match j,D with|0,_=>{exact⟨1,p,k,I,by decide,bW t222 rfl (by simp only[go_sem,t222,d,a,e,a_]),h,by omega,v,rfl⟩}|1,_=>exact⟨2,p,k,I,by decide,bW t222 rfl (by simp only[go_sem,t222,d,a,e,a_]),h,by omega,v,rfl⟩}|false=>have d:=sj t;rw[if_neg dh];cases o:iV s i 91 with|true=>{have a:=sk l o;obtain⟨p,k,b,e,C⟩:=arL (i:=i+1) l (by omega);simp only[a_,av,au]at e;rw[if_pos rfl];exact⟨0,p,k,b,by decide,bW t222 rfl (by simp only[go_sem,t222,d,a,e,a_]),aqd C (by omega) (by omega)⟩}|false=>have a:=sj o;rw[if_neg dh];cases r:iV s i 46 with|true=>{have B:=sk l r;have A:=arM;rw[if_pos rfl];exact⟨0,⟨1,U5,[]⟩,i+1,J,by decide,bW t222 rfl (by simp only[go_sem,t222,d,a,B,A,a_];rfl),kW _ _ (Bn _),by omega,by omega,rfl,rfl,by omega⟩}|false=>have B:=sj r;have A:=cZ s i m;have G:=ae9 (mH s i);have F:=XE (mH s i);have N:=afx m;have L:=apt i (by omega);rw[if_neg dh];cases n:pCh (bY s i) with|true=>{simp only[m,decide_true,ng,if_true];refine⟨0,⟨1,G6 (bY s i),[]⟩,i+1,J,by decide,bW t222 rfl ?_,kW _ _ (by rw[G6,pf];simp),by omega,by omega,rfl,rfl,by omega⟩;rw[abK]at n;generalize eA 97 122 (bY s i)=x at *;generalize eA 48 57 (bY s i)=y at *;cases x<;>cases y<;>(try simp only[fU]at n)<;>simp only[go_sem,t222,m,n,d,a,B,A,G,F,N,L,H,a_];all_goals rfl}|false=>simp only[eJ,aQ,if_false];refine⟨0,⟨0,eT,[]⟩,i,I,by decide,bW t222 rfl ?_,kW _ _ C0,by omega,by omega,rfl⟩;rw[abK]at n;generalize eA 97 122 (bY s i)=x at *;generalize eA 48 57 (bY s i)=y at *;cases x<;>cases y<;>simp only[qS,dX,fU,Bool.true_eq_false]at n;simp only[go_sem,t222,m,n,d,a,B,A,G,F,a_];rfl
end
attribute [go_sem] PF blk ahm P9 ahh rsl
section
variable (T:Nat->u KF)(cf:Cf)(mf:Mf)(a b:K)(s:St)(d:u Nat)(o:KO)(x y:u (Ex×St))
@[go_sem] theorem y1:cnd T mf (.d (.bool I)) a b s=ev T mf a s:=rfl
@[go_sem] theorem y2:cnd T mf (.d (.bool J)) a b s=ev T mf b s:=rfl
@[go_sem] theorem y3:ife (.d (.bool I)) x y=x:=rfl
@[go_sem] theorem y4:ife (.d (.bool J)) x y=y:=rfl
@[go_sem] theorem y5:gdn cf mf s d o I (.d (.bool I))=D4 cf mf s d o:=rfl
@[go_sem] theorem y6:gdn cf mf s d o J (.d (.bool J))=D4 cf mf s d o:=rfl
@[go_sem] theorem y7:gdn cf mf s d o I (.d (.bool J))=Z (s.put d .wq):=rfl
@[go_sem] theorem y8:gdn cf mf s d o J (.d (.bool I))=Z (s.put d .wq):=rfl
@[go_sem] theorem y9(w:Bool):gdn cf mf s d o w .wq=Z (s.put d .wq):=rfl
end
def qL(a:Int)(t:z)(l:M dD):aP (.lu 3 J) [E a,.str t,cK l]=Z (.list 3 J [[E a,.str t,cK l]]):=gW 3 _ rfl (by decide)
def Xo(a b:Int)(t c:z)(l m:D):aP (.lu 3 J) [E a,.str t,l,E b,.str c,m]=Z (.list 3 J [[E a,.str t,l],[E b,.str c,m]]):=by simp[aP,chunk]
def Kg{l:M dD}(h:l.length<=mg)(op:Int)(t:z)(a:M dD):aP (.app 3 48) [cK l,.list 3 J [[E op,.str t,cK a]]]=Z (cK (l++[⟨op,t,a⟩])):=by have h:=dM 3 48 J (l.map jz) [[E op,.str t,cK a]] (by decide) (by simp only[mg,aj,aN,aJ]at *;omega);rw[h];simp[cK,a_]
def P1(a:Int)(t:z)(b:M dD):D.list 3 J [[E a,.str t,cK b]]=cK [⟨a,t,b⟩]:=by simp[cK,a_]
def P2(a b:Int)(t c:z)(e d:M dD):D.list 3 J [[E a,.str t,cK e],[E b,.str c,cK d]]=cK [⟨a,t,e⟩,⟨b,c,d⟩]:=by simp[cK,a_]
def YQ{l:M dD}(h:l.length<=mg)(x:dD):aP (.app 3 48) [cK l,cK [x]]=Z (cK (l++[x])):=by have:=Kg h x.op x.text x.ai;rw[P1]at this;cases x;exact this
def akO(op:Int)(t:z)(a:M dD):aP (.app 3 48) [.list 3 J [],.list 3 J [[E op,.str t,cK a]]]=Z (cK [⟨op,t,a⟩]):=Kg (l:=[]) (by decide) op t a
def cQ(p:dD):(⟨p.op,p.text,p.ai⟩:dD)=p:=by cases p;rfl
theorem aiV(n:Nat):∀p:dD,aF p<n->yZ 64 p=I->G 224 (jz p)=Z (0,jz p):=by
 induction n with
 |zero=>intro p h;omega
 |succ n x=>
  intro p C q;have r:=Ed q;have d:∀k∈p.ai,G 224 (jz k)=Z (0,jz k):=λk d=>x k (by have:=dD.uQ d;omega) (Ec q d);refine bW t224 (by rw[a_];rfl) ?_;have v:=tR (b:=lB G BZ) p.ai (λe=>e) (λi=>(0,[E (i:Int),E p.op,.str p.text,cK p.ai,E 0,.str ⟨#[]⟩,E p.op,.str p.text]))
   (λi a=>(1,[E (i:Int),E p.op,.str p.text,cK p.ai,E 0,.str ⟨#[]⟩,E p.op,.str p.text,cK a]))
   (0,[E 0,.bool J,E p.op,.str p.text,cK p.ai,E 0,.str ⟨#[]⟩,E p.op,.str p.text])
   (λa=>(1,[E p.ai.length,.bool J,E p.op,.str p.text,cK p.ai,E 0,.str ⟨#[]⟩,E p.op,.str p.text,cK a])) (by
    intro k c;have g:=aY c;have o:=wj (i:=0) (n:=p.ai.length) g (by simp only[mg];omega);have f:=d k (bj c);have j:=ND c;rw[n0]at j;have m:IntKind.i64.wrap 1=1:=wrap_i64 (by decide);rw[a_]at f;have A:(0:Int)<p.ai.length:=by omega
    simp only[go_sem,bc,BZ,n0,A,j,rq];simp only[go_sem,a_ k,f,MY,qL,akO,cQ,m]) (by
    intro i k c D;have g:=aY c;have o:=wj (i:=i) (n:=p.ai.length) g (by simp only[mg];omega);have f:=d k (bj c);have j:=ND c;have y:=λ(op:Int) (t:z) (w:M dD)=>Kg (l:=p.ai.take i) (by rw[bk];simp only[mg];omega) op t w;rw[a_]at f;simp only[go_sem,bc,BZ,eX,g,j,rq];simp only[go_sem,a_ k,f,MY,qL,y,cQ,o]) (by
    intro h;simp only[go_sem,bc,BZ,h,n0,aJ,ee]) (by
    intro h;simp only[go_sem,bc,BZ,aE,eX])
  rw[n0]at v;simp only[go_sem,t224,a_ p,v];cases B:p.ai with|nil=>{simp only[go_sem,ei];rfl}|cons s l=>simp only[go_sem,i_,eX]
def arO{p:dD}(a:yZ 64 p=I):G 224 (jz p)=Z (0,jz p):=aiV _ p (aT _) a
section
variable {s:z} {alt:Nat->PR}
theorem V_(W:s.size<=30){i:Nat}{l:M dD}(X:l.length<=100)(S:wg s i=I)(L:Er 222 s i 1 3 J (xY alt s i)) :
  ∃(p:dD) (k:Nat) (b:Bool),lB G jP (0,[E 0,.str ⟨#[]⟩,.str s,E (i:Int),.bool J,cK l])=Z (.go (0,[E 0,.str ⟨#[]⟩,.str s,E (k:Int),.bool b,cK (l++[p])]))/\PA s i 1 (tf alt s i) p k b:=by (have K:s.size<=mg:=by simp only[mg];omega);(have N:l.length<=mg:=by simp only[mg];omega);simp only[wg,aw,decide_eq_true_eq,dm,decide_eq_false_iff_not]at S;obtain⟨d,g,f⟩:=S;have h:=cZ s i d;have fa:=λop t U=>Kg N op t U;have r:=λx=>YQ N x;obtain⟨j,p,k,b,B,e,F,Q,P,y⟩:=L;simp only[a_,av,au]at e;cases b with|true=>{have a:=λc=>Mh (s:=s) (i:=(k:Int)) (c:=c);have v:tf alt s i=O:=by{unfold tf;cases v:xY alt s i with|none=>{rfl}|some q=>rw[v]at y;cases y.1};rw[v];refine⟨p,k,I,?_,F,Q,P,rfl⟩;match j,B with|0,_=>{simp only[go_sem,d,g,f,h,e,MY,qL,fa,cQ,bc,jP,a]}|1,_=>{simp only[go_sem,d,g,f,h,e,u_,qL,fa,cQ,bc,jP,a]}|2,_=>simp only[go_sem,d,g,f,h,e,qL,fa,cQ,bc,jP,a]}|false=>cases v:xY alt s i with|none=>{rw[v]at y;cases y}|some q=>rw[v]at y;obtain⟨_,rfl,T⟩:=y;(have V:tf alt s i=Z (G9 s p k):=by rw[tf,v];rfl);have o:=Uq (n:=64) (by decide) (s:=s) k F;have A:=Up s p k;have D:=arO F;rw[a_]at D;have Y:jz ⟨4,eT,[p]⟩=[E 4,.str ⟨#[]⟩,cK [p]]:=a_ _;rw[V];unfold G9 at o A ⊢;cases c1:iV s k 42 with|true=>{have a:=sk K c1;have R:=nu c1;rw[c1]at o A;refine⟨⟨4,eT,[p]⟩,k+1,J,?_,o,by omega,by omega,rfl,rfl,by omega⟩;match j,B with|0,_=>{simp only[go_sem,d,g,f,h,e,MY,qL,r,cQ,eT,bc,jP,a,P1]}|1,_=>{simp only[go_sem,d,g,f,h,e,u_,qL,r,cQ,eT,bc,jP,a,P1]}|2,_=>simp only[go_sem,d,g,f,h,e,qL,r,cQ,eT,bc,jP,a,P1]}|false=>have a:=sj c1;rw[c1]at o A;cases C:iV s k 43 with|true=>{have m:=sk K C;have R:=nu C;rw[C]at o A;refine⟨⟨2,eT,[p,⟨4,eT,[p]⟩]⟩,k+1,J,?_,o,by omega,by omega,rfl,rfl,by omega⟩;match j,B with|0,_=>{simp only[go_sem,d,g,f,h,e,MY,qL,r,cQ,eT,bc,jP,a,m,D,P1,Xo,P2]}|1,_=>{simp only[go_sem,d,g,f,h,e,MY,u_,qL,r,cQ,eT,bc,jP,a,m,D,P1,Xo,P2]}|2,_=>simp only[go_sem,d,g,f,h,e,MY,qL,r,cQ,eT,bc,jP,a,m,D,P1,Xo,P2]}|false=>have m:=sj C;rw[C]at o A;cases H:iV s k 63 with|true=>{have w:=sk K H;have R:=nu H;rw[H]at o A;refine⟨⟨5,eT,[p]⟩,k+1,J,?_,o,by omega,by omega,rfl,rfl,by omega⟩;match j,B with|0,_=>{simp only[go_sem,d,g,f,h,e,MY,qL,r,cQ,eT,bc,jP,a,m,w,P1]}|1,_=>{simp only[go_sem,d,g,f,h,e,u_,qL,r,cQ,eT,bc,jP,a,m,w,P1]}|2,_=>simp only[go_sem,d,g,f,h,e,qL,r,cQ,eT,bc,jP,a,m,w,P1]}|false=>have w:=sj H;refine⟨p,k,J,?_,F,Q,P,rfl,rfl,T⟩;match j,B with|0,_=>{simp only[go_sem,d,g,f,h,e,MY,qL,fa,cQ,bc,jP,a,m,w]}|1,_=>{simp only[go_sem,d,g,f,h,e,u_,qL,fa,cQ,bc,jP,a,m,w]}|2,_=>simp only[go_sem,d,g,f,h,e,qL,fa,cQ,bc,jP,a,m,w]
def Lsx(l:M dD)(n:Nat):Prop:=l.length<=n/\∀q∈l,yZ 64 q=I
theorem pd{l:M dD}{n m:Nat}{p:dD}(h:Lsx l n)(b:yZ 64 p=I)(c:n+1<=m):Lsx (l++[p]) m:=by refine⟨by rw[ay];have:=h.1;simp;omega,λq a=>?_⟩;rcases aX.1 a with a|a;{exact h.2 q a};rw[ct.1 a];exact b
def RdL(i:Nat)(s:z)(l:M dD)(r:u (M dD×Nat))(a:M dD)(k:Nat)(b:Bool):Prop:=Lsx a 40/\i<=k/\k<=s.size/\match r with
 |some q=>b=J/\a=l++q.1/\k=q.2
 |none=>b=I
theorem zC{i j:Nat}{l a:M dD}{p:dD}{k:Nat}{b:Bool}{r:u (M dD×Nat)}(d:i<=j)(h:RdL j s (l++[p]) r a k b):RdL i s l (r.map λq=>(p::q.1,q.2)) a k b:=by obtain⟨n,o,m,c⟩:=h;refine⟨n,by omega,m,?_⟩;cases r with|none=>{exact c}|some q=>obtain⟨g,f,e⟩:=c;exact⟨g,by rw[f,aZ];rfl,e⟩
theorem ad7(y:s.size<=30){i0:Nat}(H:∀j,i0<j->j<=s.size->Er 223 s j 0 2 J (alt j)):∀(g i:Nat) (l:M dD),i0<=i->i<=s.size->s.size+1 - i<=g->Lsx l i->
  ∃(h:M dD) (k:Nat) (b:Bool),bG (lB G jP) (0,[E 0,.str ⟨#[]⟩,.str s,E (i:Int),.bool J,cK l])=Z (0,[.bool J,E 0,.str ⟨#[]⟩,.str s,E (k:Int),.bool b,cK h])/\RdL i s l (wc alt s g i) h k b:=by (have F:s.size<=mg:=by simp only[mg];omega);intro g;induction g with|zero=>{intro i l _ v K;omega}|succ g D=>intro i l T v K c;simp only[wc];cases d:wg s i with|false=>{simp only[aQ,if_false];refine⟨l,i,J,aK ?_,⟨by have:=c.1;omega,c.2⟩,aH _,v,rfl,by rw[aG],rfl⟩;by_cases a:i<s.size;{have w:=cZ s i a;simp only[wg,a,decide_true,dC]at d;by_cases r:bY s i=124;{simp only[go_sem,bc,jP,a,r,w]};have f:bY s i=41:=by{by_cases f:bY s i=41;{exact f};simp[r,f]at d};(have B:¬(41:Int)=124:=by decide);simp only[go_sem,bc,jP,a,f,B,w]};simp only[go_sem,bc,jP,a]}|true=>(have a:i<s.size:=by simp only[wg,aw,decide_eq_true_eq]at d;exact d.1);simp only[if_true];obtain⟨p,k,b,x,o,A,m,e⟩:=V_ y (l:=l) (by have:=c.1;omega) d (arN F a λj S Q=>H j (by omega) Q);cases t:tf alt s i with|none=>{rw[t]at e;subst e;refine⟨l++[p],k,I,(bD x).trans (aK ?_),pd (n:=30) ⟨by have:=c.1;omega,c.2⟩ o (by decide),A,m,rfl⟩;simp only[go_sem,bc,jP]}|some q=>rw[t]at e;obtain⟨rfl,rfl,R⟩:=e;obtain⟨h,C,P,N,L⟩:=D k (l++[p]) (by omega) m (by omega) (pd c o (by omega));exact⟨h,C,P,(bD x).trans N,zC (by omega) L⟩
theorem I4{k:dD}:aP (.MQ 3 0 3 J) [cK [k],E 0]=Z (.list 0 J [jz k]):=by have h:nth ([k].map jz) 0=Z (jz k):=rfl;simp only[aP,Int.toNat_zero,h,NB];simp
theorem IY{k:dD}:aP .Zg [cK [k],E 0]=Z (.bool J):=(rfl)
theorem JB{l:M dD}:Z' ((l.length:Int)=1)=Z' (l.length=1):=by apply decide_eq_decide.2;omega
theorem MH{op:Int}{l:M dD}(h:l.length≠1):tw op l=⟨op,eT,l⟩:=by unfold tw;split;{exact absurd rfl h};rfl
theorem aow(m:s.size<=30){i:Nat}(w:i<=s.size)(o:∀j,i<j->j<=s.size->Er 223 s j 0 2 J (alt j)):Er 225 s i 0 2 J (DC alt s i):=by obtain⟨f,k,b,l,h,y,x,c⟩:=ad7 m o (s.size+1) i [] (aH _) w (by omega) ⟨by simp,by simp⟩;have e:aP (.lu 3 J) []=Z (cK []):=xg 3 J;have a:PA s i 0 (DC alt s i) (tw 2 f) k b:=by{refine⟨wB (by have:=h.1;omega) h.2,y,x,?_⟩;unfold DC;cases g:wc alt s (s.size+1) i with|none=>{rw[g]at c;exact c}|some q=>rw[g]at c;obtain⟨v,t,r⟩:=c;subst t r;exact⟨v,rfl,by omega⟩};by_cases d:f.length=1;{obtain⟨p,rfl⟩:=dd.1 d;have n:tw 2 [p]=p:=rfl;rw[n]at a;refine⟨0,p,k,b,by decide,bW t225 rfl ?_,a⟩;simp only[go_sem,t225,e,l,I4,IY,a_ p]};rw[MH d]at a;refine⟨1,_,k,b,by decide,bW t225 rfl ?_,a⟩;simp only[go_sem,t225,e,l,JB,d,a_,eT]
theorem ad6(B:s.size<=30){i0:Nat}(K:∀j,i0<j->j<=s.size->Er 223 s j 0 2 J (alt j)):∀(g i:Nat) (l:M dD),i0<=i->i<=s.size->s.size+1 - i<=g->Lsx l (i+1)->
  ∃(e:M dD) (k:Nat) (b:Bool),bG (lB G uc) (0,[E 0,.str ⟨#[]⟩,.str s,E (i:Int),.bool J,cK l])=Z (0,[.bool J,E 0,.str ⟨#[]⟩,.str s,E (k:Int),.bool b,cK e])/\RdL i s l (Da alt s g i) e k b:=by (have H:s.size<=mg:=by simp only[mg];omega);intro g;induction g with|zero=>{intro i l _ A L;omega}|succ g F=>intro i l W A L a;simp only[Da];cases m:iV s i 124 with|false=>{have f:=sj m;simp only[aQ,if_false];refine⟨l,i,J,aK ?_,⟨by have:=a.1;omega,a.2⟩,aH _,A,rfl,by rw[aG],rfl⟩;simp only[go_sem,bc,uc,f]}|true=>have f:=sk H m;have V:=nu m;(have o:l.length<=mg:=by have:=a.1;simp only[mg];omega);have X:=λx=>YQ o x;have fa:=λop t C=>Kg o op t C;simp only[if_true];obtain⟨j,p,k,b,y,h,v,U,r,d⟩:=aow B (i:=i+1) (by omega) λj y S=>K j (by omega) S;simp only[a_,av,au]at h;have go:lB G uc (0,[E 0,.str ⟨#[]⟩,.str s,E (i:Int),.bool J,cK l])=Z (.go (0,[E 0,.str ⟨#[]⟩,.str s,E (k:Int),.bool b,cK (l++[p])])):=by{match j,y with|0,_=>{simp only[go_sem,bc,uc,f,h,u_,qL,fa,cQ]}|1,_=>simp only[go_sem,bc,uc,f,h,qL,fa,cQ]};cases w:DC alt s (i+1) with|none=>{rw[w]at d;subst d;have N:=λc=>Mh (s:=s) (i:=(k:Int)) (c:=c);refine⟨l++[p],k,I,(bD go).trans (aK ?_),pd (n:=32) ⟨by have:=a.1;omega,a.2⟩ v (by decide),by omega,r,rfl⟩;simp only[go_sem,bc,uc,N]}|some q=>rw[w]at d;obtain⟨rfl,rfl,T⟩:=d;obtain⟨e,D,R,Q,P⟩:=F k (l++[p]) (by omega) r (by omega) (pd a v (by omega));exact⟨e,D,R,(bD go).trans Q,zC (by omega) P⟩
theorem aiU(v:s.size<=30){i:Nat}(R:i<=s.size)(C:∀j,i<j->j<=s.size->Er 223 s j 0 2 J (alt j)):Er 223 s i 0 2 J (G8 alt s i):=by obtain⟨j,p,k,b,B,l,y,x,w,m⟩:=aow v R C;simp only[a_,av,au]at l;have L:∃(e:M dD) (a:Nat) (d:Bool),bG (lB G uc) (0,[E 0,.str ⟨#[]⟩,.str s,E (k:Int),.bool b,cK [p]])=Z (0,[.bool J,E 0,.str ⟨#[]⟩,.str s,E (a:Int),.bool d,cK e])/\PA s i 0 (G8 alt s i) (tw 3 e) a d:=by{unfold G8;cases A:DC alt s i with|none=>{rw[A]at m;subst m;have S:=λc=>Mh (s:=s) (i:=(k:Int)) (c:=c);exact⟨[p],k,I,aK (by simp only[go_sem,bc,uc,S]),y,x,w,rfl⟩}|some q=>rw[A]at m;obtain⟨rfl,rfl,U⟩:=m;obtain⟨e,a,d,f,F,V,T,r⟩:=ad6 v C (s.size+1) k [p] x w (by omega) ⟨by simp,by simpa using y⟩;refine⟨e,a,d,f,wB (by have:=F.1;omega) F.2,by omega,T,?_⟩;dsimp only;cases g:Da alt s (s.size+1) k with|none=>{rw[g]at r;exact r}|some q=>rw[g]at r;obtain⟨Q,P,N⟩:=r;subst P N;exact⟨Q,rfl,by omega⟩};obtain⟨e,a,d,f,o⟩:=L;have K:∀(t:Nat×M D) (h:eU G (t223.t) 0 [.str s,E (i:Int),.bool J]=Z t),True:=λ_ _=>trivial;by_cases n:e.length=1;{obtain⟨q,rfl⟩:=dd.1 n;have H:tw 3 [q]=q:=rfl;rw[H]at o;refine⟨0,q,a,d,by decide,bW t223 rfl ?_,o⟩;match j,B with|0,_=>{simp only[go_sem,t223,l,u_,qL,P1,cQ,f,I4,IY,a_ q]}|1,_=>simp only[go_sem,t223,l,qL,P1,cQ,f,I4,IY,a_ q]};rw[MH n]at o;refine⟨1,_,a,d,by decide,bW t223 rfl ?_,o⟩;match j,B with|0,_=>{simp only[go_sem,t223,l,u_,qL,P1,cQ,f,JB,n,a_,eT]}|1,_=>simp only[go_sem,t223,l,qL,P1,cQ,f,JB,n,a_,eT]
theorem abX(a:s.size<=30):∀(g i:Nat),i<=s.size->s.size+1 - i<=g->Er 223 s i 0 2 J (Xz s g i)
 |0,i,b,c=>by omega
 |g+1,i,b,c=>aiU a b λj e d=>abX a g j d (by omega)
end
def Ad(n:Nat):Z' ((30:Int)<(n:Int))=Z' (30<n):=by apply decide_eq_decide.2;omega
def Ue(a b:Nat):Z' ((a:Int)=(b:Int))=Z' (a=b):=by apply decide_eq_decide.2;omega
theorem aox{s:z}:∃j p,j<3/\G 226 [.str s]=Z (j,jz p++[.bool (kT s)])/\∀q,Db s=Z q->p=q/\yZ 64 p=I:=by unfold kT Db;by_cases h:30<s.size;{refine⟨0,⟨0,eT,[]⟩,by decide,bW t226 rfl ?_,λq a=>by rw[if_pos h]at a;cases a⟩;rw[if_pos h];simp only[go_sem,t226,Ad,h,a_,bp];rfl};rw[if_neg h];obtain⟨j,p,k,b,f,c,i,n,m,e⟩:=abX (s:=s) (by omega) (s.size+1) 0 (by omega) (by omega);simp only[a_,av,au,n0]at c;cases g:Xz s (s.size+1) 0 with|none=>{rw[g]at e;subst e;refine⟨0,⟨0,eT,[]⟩,by decide,bW t226 rfl ?_,λq a=>by cases a⟩;match j,f with|0,_=>{simp only[go_sem,t226,Ad,h,c,a_,bp];rfl}|1,_=>simp only[go_sem,t226,Ad,h,c,a_,bp];rfl}|some q=>rw[g]at e;obtain⟨rfl,rfl,l⟩:=e;dsimp only;by_cases d:k=s.size;{rw[if_pos d];refine⟨j+1,p,by omega,bW t226 rfl ?_,λq a=>by cases a;exact⟨rfl,i⟩⟩;match j,f with|0,_=>{simp only[go_sem,t226,Ad,h,c,d,a_,bR]}|1,_=>simp only[go_sem,t226,Ad,h,c,d,a_,bR]};rw[if_neg d];refine⟨0,⟨0,eT,[]⟩,by decide,bW t226 rfl ?_,λq a=>by cases a⟩;match j,f with|0,_=>{simp only[go_sem,t226,Ad,Ue,h,c,d,a_,bp];rfl}|1,_=>simp only[go_sem,t226,Ad,Ue,h,c,d,a_,bp];rfl
theorem aiW(s:z):G 227 [.str s]=Z (0,[.bool (kT s)]):=by obtain⟨j,p,b,a,_⟩:=aox (s:=s);simp only[a_,av,au]at a;refine bW t227 rfl ?_;match j,b with|0,_=>{simp only[go_sem,t227,a]}|1,_=>{simp only[go_sem,t227,a]}|2,_=>simp only[go_sem,t227,a]
theorem aiZ{t s:z}(g:s.size<=mg):G 236 [.str t,.str s]=Z (0,[.bool (yV t s)]):=by obtain⟨j,p,f,a,h⟩:=aox (s:=t);simp only[a_,av,au]at a;have Yp:∀b,aP .pl [.bool b]=Z (.bool J):=λb=>rfl;refine bW t236 rfl ?_;unfold yV;cases d:Db t with|none=>{(have e:kT t=J:=by rw[kT,d];rfl);rw[e]at a;match j,f with|0,_=>{simp only[go_sem,t236,a]}|1,_=>{simp only[go_sem,t236,a]}|2,_=>simp only[go_sem,t236,a]}|some q=>(have e:kT t=I:=by rw[kT,d];rfl);obtain⟨rfl,i⟩:=h q d;have c:=arR g i;simp only[a_,av,au]at c;rw[e]at a;match j,f with|0,_=>{simp only[go_sem,t236,a,c,Yp]}|1,_=>{simp only[go_sem,t236,a,c]}|2,_=>simp only[go_sem,t236,a,c,Yp]
def bC(f:Nat->Bool):M C:=(cC 256).map λx=>.d (.bool (f x))
def bV(f:Nat->Bool):M RV:=(cC 256).map λx=>.d (.bool (f x))
def eL(f:Nat->Bool)(n:Nat):M (M D):=((cC n).filter f).map λx:Nat=>[D.int .u8 (x:Int)]
def chT(f:Nat->Bool):z:=⟨(((cC 256).filter f).map dT).toArray⟩
theorem mz:((0:Nat):Int)=0:=(rfl)
theorem TK(f:Nat->Bool)(d:Nat):∀(l:M Nat) (j:Nat) (s:St),er d j (l.map λx=>RV.d (.bool (f x))) s=(l.map λx=>C.d (.bool (f x)),s)
 |[],j,s=>rfl
 |x::l,j,s=>by simp only[bz,er,TK f d l (j+1) s]
def amd(f:Nat->Bool)(d j:Nat)(s:St):er d j (bV f) s=(bC f,s):=TK f d _ j s
theorem Js(f:Nat->Bool)(i:Nat):∀(l:M Nat),C.jU i (l.map λx=>C.d (.bool (f x)))=l.map λx=>C.d (.bool (f x))
 |[]=>rfl
 |x::l=>by simp only[bz,C.jU,C.kill,Js f i l]
def ri(f:Nat->Bool)(i:Nat):C.jU i (bC f)=bC f:=Js f i _
def tH(f:Nat->Bool):(bC f).all C.cell=I:=by rw[bC,List.all_map];exact bF.2 λx _=>rfl
def sG(f:Nat->Bool):(bC f).all C.const=I:=by rw[bC,List.all_map];exact bF.2 λx _=>rfl
def oQ(f:Nat->Bool):(bC f).length=256:=by simp[bC]
def aeM{a:Type}{f:Nat->a}{n x:Nat}(h:x<n):nth ((cC n).map f) x=Z (f x):=by rw[ek];simp[h]
def ag1(f:Nat->Bool){x:Nat}(h:x<256):nth (bC f) x=Z (.d (.bool (f x))):=aeM h
def adE(f:Nat->Bool)(n:Nat):eL f (n+1)=eL f n++(if f n=I then [[D.int .u8 (n:Int)]] else []):=by simp only[eL,List.range_succ,k9,cE];congr 1;by_cases h:f n=I<;>simp[h]
def ahd(f:Nat->Bool)(n:Nat):(eL f n).length<=n:=by have:=eR f (cC n);simpa [eL] using this
theorem IU:∀(l:M Nat),bytesOf (l.map λx:Nat=>[D.int .u8 (x:Int)])=Z (l.map λx:Nat=>(x:Int))
 |[]=>rfl
 |x::l=>by simp only[bz,bytesOf,IU l,cV]
abbrev wh:M C:=[.d (.int .i64 0),.d (.str ⟨#[]⟩),.nil 3 J]
def J1(f:Nat->Bool)(i:Nat):St:=⟨[(1,.ptr 1 0),(2,.ptr 2 0),(3,.ref 5),(6,.d (.int .i64 (i:Int)))],[(1,bC f),(2,wh)],[(5,⟨eL f i,1,I,I,I,J⟩)]⟩
theorem ad_(f:Nat->Bool):ev T zx (.loop As) (J1 f 0)=Z (.exit 0,⟨[(1,.ptr 1 0),(2,.ptr 2 0),(3,.ref 5),(6,.d (E 256)),(7,.d (.bool J))],[(1,bC f),(2,wh)],[(5,⟨eL f 256,1,I,I,I,J⟩)]⟩):=by refine ani (J1 f) 256 (λh=>by cases h) ?_ ?_;{simp only[go_sem,cj,Int.reduceLT,As,J1,show ((256:Nat):Int)=256 from rfl]};intro i b;(have j:((i:Int)<256)=True:=by simp;omega);have g:IntKind.i64.wrap ((i:Int)+1)=((i+1:Nat):Int):=wi b (by decide);have m:IntKind.u8.wrap (i:Int)=(i:Int):=wrap_u8 (by omega);have a:=ag1 f b;have e:=adE f i;have n:=ahd f i;have l:((eL f i).length+1<=room)=True:=eq_true (by simp only[room];omega);have k:((eL f i).length+1<=maxLen)=True:=eq_true (by simp only[maxLen];omega);cases c:f i with|true=>{rw[c,if_pos rfl]at e;rw[c]at a;simp only[go_sem,cj,ez,xq,As,J1,j,g,m,a,b,ri,ml,l,k,e,lk]}|false=>rw[c,if_neg dh,aG]at e;rw[c]at a;simp only[go_sem,cj,As,J1,j,g,a,b,ml,e,lk]
def aoG(f:Nat->Bool):fI T 276 [.val I (bV f)]=Z ([.val I [.d (E 1),.d (.str (chT f)),.row ⟨[],3,J,I,I,J⟩]],[]):=by have b:=ad_ f;have g:eL f 0=[]:=rfl;have c:bytesOf (eL f 256)=Z (((cC 256).filter f).map λx:Nat=>(x:Int)):=IU _;have a:(((cC 256).filter f).map λx:Nat=>(x:Int)).map (λn=>dT n.toNat)=((cC 256).filter f).map dT:=by{rw[List.map_map];rfl};generalize h:(((cC 256).filter f).map λx:Nat=>(x:Int))=q at c a;(have e:(⟨(q.map λn=>dT n.toNat).toArray⟩:z)=chT f:=by rw[a];rfl);rw[Cp (f:=276) rfl rfl];simp only[J1,g,wh,show ((0:Nat):Int)=0 from rfl]at b;simp only[go_sem,eg,cj,cM,ez,xq,amd,tH,ri,b,c,e]
abbrev mgK:Nat:=33554432
abbrev nh(s:z)(i:Int)(b:Bool):A:=.box [.d (.str s),.d (.int .i64 i),.d (.bool b)]
abbrev bt(c:Int):A:=.val J [.d (.int .u8 c)]
abbrev ys(b:Bool):A:=.val J [.d (.bool b)]
def Lf{s:z}{i g k e:Int}{b a t:Bool}{op:Int}{tx:z}{c:RV}(j:(∃es,c=.d (.list 3 J es))\/∃es,c=.row ⟨es,3,J,J,I,I⟩)
  (n:fI T 275 [nh s i b,bt 40]=Z ([ys I],[nh s g b])) (m:fI T 280 [nh s g b]=Z ([.val I [.d (E op),.d (.str tx),c]],[nh s k a]))
  (l:fI T 275 [nh s k a,bt 41]=Z ([ys t],[nh s e a])):fI T 279 [nh s i b]=Z ([.val I [.d (E op),.d (.str tx),c]],[nh s e (a ||!t)]):=by (have h:(aW 256 (C.d (.bool J)))=bC λ_=>J:=by rw[bC,qx];simp);(conv at h=>lhs;reduce);rw[Cp (f:=279) rfl rfl,h];rcases j with ⟨es,rfl⟩|⟨es,rfl⟩<;>cases t<;>cases a<;>simp only[go_sem,eg,cj,Nat.reduceMul,cM,ez,tH,sG,ri,oQ,n,m,l,cM]
def YV(f:Nat->Bool){x:Nat}(h:x<256):List.take x (bC f)++[C.d (.bool I)]++List.drop (x+1) (bC f)=bC λy=>f y ||decide (x=y):=by apply List.ext_getElem;{simp[bC];omega};intro i l c;simp only[oQ]at c;(have e:∀g:Nat->Bool,(bC g)[i]'(by rw[oQ];exact c)=C.d (.bool (g i)):=λg=>by simp[bC]);rw[e];(have a:((bC f).take x).length=x:=by simp[bC];omega);by_cases k:i<x;{rw[uH (by simp[a];omega),uH (by omega),List.getElem_take,e];(have:¬x=i:=by omega);simp[this]};by_cases b:i=x;{subst b;rw[uH (by simp[a]),List.getElem_append_right (by omega)];simp[a]};rw[List.getElem_append_right (by simp[a];omega),List.getElem_drop];(have j:x+1+(i - (List.take x (bC f)++[C.d (D.bool I)]).length)=i:=by simp[a];omega);simp only[j];rw[e];(have:¬x=i:=by omega);simp[this]
def zH(f:Nat->Bool):List.drop 256 (bC f)=[]:=cS (by rw[oQ];exact aH _)
def SJ(f:Nat->Bool):List.take 256 (bC f)=bC f:=wE (by rw[oQ];exact aH _)
theorem ab_(f:Nat->Bool)(s:St):∀(l:M Nat),ig (n6 s) (l.map λx=>C.d (.bool (f x)))=Z (l.map λx=>RV.d (.bool (f x)))
 |[]=>rfl
 |x::l=>by simp only[bz,ig,n6,ab_ f s l,cV]
def apg(f:Nat->Bool)(s:St):ig (n6 s) (bC f)=Z (bV f):=ab_ f s _
theorem Pa(f:Nat->Bool):∀(l:M Nat),rowsOf (l.map λx=>C.d (.bool (f x)))=[]
 |[]=>rfl
 |x::l=>by simp only[bz,rowsOf,Pa f l]
def acj(f:Nat->Bool):rowsOf (bC f)=[]:=Pa f _
abbrev vk(x:Nat):Nat->Bool:=λy=>decide (32<=y) && decide (y<x)
def st0(c:M C)(x:Nat):St:=⟨[(0,.ptr 900 0),(2,.ptr 2 0),(3,.ptr 3 0),(5,.d (.int .i64 (x:Int)))],[(2,wh),(3,bC (vk x)),(900,c)],[]⟩
def agY{x:Nat}(h:32<=x):(λy=>vk x y ||decide (x=y))=vk (x+1):=by funext y;simp only[vk];by_cases a:32<=y;{by_cases c:y<x;{(have:y<x+1:=by omega);simp[a,c,this]};by_cases b:x=y;{subst b;simp[a]};(have:¬y<x+1:=by omega);simp[a,c,b,this]};(have:¬x=y:=by omega);simp[a,this]
theorem Wg(c:M C):ev T zx (.loop wV) (st0 c 32)=Z (.exit 1,⟨[(0,.ptr 900 0),(2,.ptr 2 0),(3,.ptr 3 0),(5,.d (E 127)),(28,.d (.bool J))],[(2,wh),(3,bC (vk 127)),(900,c)],[]⟩):=by have h:∀m x,x+m=127->32<=x->ev T zx (.loop wV) (st0 c x)=Z (.exit 1,⟨[(0,.ptr 900 0),(2,.ptr 2 0),(3,.ptr 3 0),(5,.d (E 127)),(28,.d (.bool J))],[(2,wh),(3,bC (vk 127)),(900,c)],[]⟩):=by{intro m;induction m with|zero=>{intro x f _;(obtain rfl:x=127:=by omega);rw[lf];simp only[go_sem,cj,Int.reduceLE,wV,st0,show ((127:Nat):Int)=127 from rfl]}|succ m e=>intro x f a;have l:((x:Int)<=126)=True:=eq_true (by omega);have g:IntKind.i64.wrap ((x:Int)+1)=((x+1:Nat):Int):=wi (n:=127) (by omega) (by decide);have k:(x<256)=True:=eq_true (by omega);have j:(x+1<=256)=True:=eq_true (by omega);have b:=YV (vk x) (x:=x) (by omega);rw[agY a]at b;have i:ev T zx wV (st0 c x)=Z (.norm,st0 c (x+1)):=by{simp only[go_sem,cj,ez,wV,st0,l,g,k,j,b,oQ,ml,bN,lk]};rw[lf,i];exact e (x+1) (by omega) (by omega)};exact h 95 32 rfl (by omega)
def ah2{s:z}{i a:Int}{b:Bool}(j:fI T 275 [nh s i b,bt 40]=Z ([ys J],[nh s i b]))(h:fI T 275 [nh s i b,bt 46]=Z ([ys I],[nh s a b])) :
  fI T 279 [nh s i b]=Z ([.val I [.d (E 1),.d (.str (chT (vk 127))),.row ⟨[],3,J,I,I,J⟩]],[nh s a b]):=by have c:(aW 256 (C.d (.bool J)))=bC (vk 32):=by{(have:vk 32=λ_=>J:=by funext y;simp[vk]);rw[this,bC,qx];simp};have e:=Wg [.d (.str s),.d (E a),.d (.bool b)];simp only[st0,wh,show ((32:Nat):Int)=32 from rfl]at e;have g:=aoG (vk 127);(conv at c=>lhs;reduce);rw[Cp (f:=279) rfl rfl,c];simp only[go_sem,eg,cj,Nat.reduceMul,cM,ez,tH,sG,ri,oQ,zH,SJ,apg,acj,j,h,e,g,cM]
def aa1{s:z}{i l a:Int}{b o:Bool}(j:fI T 275 [nh s i b,bt 40]=Z ([ys J],[nh s i b]))(h:fI T 275 [nh s i b,bt 46]=Z ([ys J],[nh s i b]))(g:fI T 275 [nh s i b,bt 91]=Z ([ys J],[nh s i b]))
  (e:fI T 278 [nh s i b]=Z ([.val J [.d (.int .u8 a)]],[nh s l o])) :
  fI T 279 [nh s i b]=Z ([.val I [.d (E 1),.d (.str ⟨[dT a.toNat].toArray⟩),.row ⟨[],3,J,I,I,J⟩]],[nh s l (o ||(Z' (a=95) ||decide (a=46)))]):=by have m:(aW 256 (C.d (.bool J)))=bC (vk 32):=by{(have:vk 32=λ_=>J:=by funext y;simp[vk]);rw[this,bC,qx];simp};(conv at m=>lhs;reduce);rw[Cp (f:=279) rfl rfl,m];by_cases c1:a=95;{have c:(a=95)=True:=eq_true c1;simp only[go_sem,eg,cj,cM,ez,xq,tH,sG,ri,oQ,zH,j,h,g,e,c,bytesOf,cM]};have c:(a=95)=False:=eq_false c1;by_cases n:a=46;{have k:(a=46)=True:=eq_true n;simp only[go_sem,eg,cj,cM,ez,xq,tH,sG,ri,oQ,zH,j,h,g,e,c,k,bytesOf,cM]};have k:(a=46)=False:=eq_false n;simp only[go_sem,eg,cj,cM,ez,xq,tH,sG,ri,oQ,zH,j,h,g,e,c,k,bytesOf,cM]
abbrev rC(s:z)(i:Int)(b:Bool):M C:=[.d (.str s),.d (.int .i64 i),.d (.bool b)]
def st1(c:M C)(n:Nat)(a x:Nat)(f:Nat->Bool):St:=⟨[(0,.ptr 900 0),(2,.ptr 2 0),(3,.ptr 3 0),(6,.d (.int .i64 (n:Int))),(8,.d (.int .u8 (a:Int))),(9,.d (.int .i64 (x:Int)))],[(2,wh),(3,bC f),(900,c)],[]⟩
def rg(f:Nat->Bool)(x a:Nat):Nat->Bool:=λy=>f y ||(Z' (x<=y) && Z' (y<=a))
def agE{f:Nat->Bool}{x a:Nat}(h:a<x):rg f x a=f:=by funext y;unfold rg;by_cases b:x<=y;{(have:¬y<=a:=by omega);simp[this]};simp[b]
def atl{f:Nat->Bool}{x a:Nat}(h:x<=a):rg (λy=>f y ||decide (x=y)) (x+1) a=rg f x a:=by funext y;unfold rg;by_cases b:x=y;{subst b;simp[h]};by_cases c:x<=y;{(have:x+1<=y:=by omega);simp[b,c,this]};(have:¬x+1<=y:=by omega);simp[b,c,this]
theorem Jv(c:M C)(n a:Nat)(j:a<256):∀(m x:Nat) (f:Nat->Bool),x+m=a+1->∃b:Int,ev T zx (.loop px) (st1 c n a x f)=Z (.exit 5,⟨[(0,.ptr 900 0),(2,.ptr 2 0),(3,.ptr 3 0),(6,.d (E (n:Int))),(8,.d (.int .u8 (a:Int))),(9,.d (E b)),(72,.d (.bool J))],[(2,wh),(3,bC (rg f x a)),(900,c)],[]⟩)
 |0,x,f,k=>by have h:((x:Int)<=(a:Int))=False:=eq_false (by omega);have g:IntKind.i64.wrap (a:Int)=(a:Int):=iJ (by omega);refine⟨x,?_⟩;rw[agE (by omega),lf];simp only[go_sem,cj,px,st1,h,g]
 |m+1,x,f,k=>by have h:((x:Int)<=(a:Int))=True:=eq_true (by omega);have e:IntKind.i64.wrap (a:Int)=(a:Int):=iJ (by omega);have g:IntKind.i64.wrap ((x:Int)+1)=((x+1:Nat):Int):=wi (n:=256) (by omega) (by decide);have q:(x<256)=True:=eq_true (by omega);have p:(x+1<=256)=True:=eq_true (by omega);have l:=YV f (x:=x) (by omega);obtain⟨b,i⟩:=Jv c n a j m (x+1) (λy=>f y ||decide (x=y)) (by omega);rw[atl (by omega)]at i;have o:ev T zx px (st1 c n a x f)=Z (.norm,st1 c n a (x+1) (λy=>f y ||decide (x=y))):=by{simp only[go_sem,cj,ez,px,st1,h,g,e,q,p,l,oQ,ml,bN,lk]};refine⟨b,?_⟩;rw[lf,o];exact i
def FZ(c:M C)(n a x:Nat)(f:Nat->Bool)(e:a<256)(j:x<256):∃b:Int,ev T zx (.loop px) (st1 c n a x f)=Z (.exit 5,⟨[(0,.ptr 900 0),(2,.ptr 2 0),(3,.ptr 3 0),(6,.d (E (n:Int))),(8,.d (.int .u8 (a:Int))),(9,.d (E b)),(72,.d (.bool J))],[(2,wh),(3,bC (rg f x a)),(900,c)],[]⟩):=by by_cases h:x<=a+1;{exact Jv c n a e (a+1 - x) x f (by omega)};have i:((x:Int)<=(a:Int))=False:=eq_false (by omega);have g:IntKind.i64.wrap (a:Int)=(a:Int):=iJ (by omega);refine⟨x,?_⟩;rw[agE (by omega),lf];simp only[go_sem,cj,px,st1,i,g]
def HT(s:z)(i:Int)(b:Bool)(n:Nat)(f:Nat->Bool):St:=⟨[(0,.ptr 900 0),(2,.ptr 2 0),(3,.ptr 3 0),(6,.d (.int .i64 (n:Int)))],[(2,wh),(3,bC f),(900,rC s i b)],[]⟩
theorem FA{s:z}{i B i2 i3:Int}{q b3 t:Bool}{n a z0:Nat}{f:Nat->Bool}(H:n<=mgK)(A:a<256)(F:z0<256)(v:n=0\/fI T 275 [nh s i J,bt 93]=Z ([ys J],[nh s i J]))
  (p:fI T 278 [nh s i J]=Z ([.val J [.d (.int .u8 (a:Int))]],[nh s B q]))
  (o:fI T 275 [nh s B q,bt 126]=Z ([ys t],[nh s i2 q]))
  (G:t=I->fI T 278 [nh s i2 q]=Z ([.val J [.d (.int .u8 (z0:Int))]],[nh s i3 b3])) :
  ev T zx jg (HT s i J n f)=Z (.norm,HT s (if t then i3 else i2) ((if t then b3 else q) ||(t && Z' (z0<a))) (n+1) (rg f a (if t then z0 else a))):=by have g:IntKind.i64.wrap ((n:Int)+1)=((n+1:Nat):Int):=wi (n:=mgK+1) (by omega) (by decide);have c:IntKind.i64.wrap (a:Int)=(a:Int):=iJ (by omega);have m:∀(P:Prop),(n=0->P)->(¬n=0->fI T 275 [nh s i J,bt 93]=Z ([ys J],[nh s i J])->P)->P:=λP D C=>by{by_cases h:n=0;{exact D h};rcases v with v|v;{exact absurd v h};exact C h v};cases t with|false=>{obtain⟨x,b⟩:=FZ (rC s i2 q) n a a f A A;have l:((a:Int)<(a:Int))=False:=eq_false (by omega);simp only[st1]at b;refine m _ (λk=>?_) (λk r=>?_);{subst k;simp only[show ((0:Nat):Int)=0 from rfl,bN,rG]at b g ⊢;simp only[go_sem,eg,cj,cM,ez,jg,HT,mz,p,o,l,c,b,g,rG]};have w:((n:Int)=0)=False:=eq_false (by omega);simp only[go_sem,eg,cj,cM,ez,jg,HT,p,o,r,w,l,c,b,g]}|true=>have j:=G rfl;have fin:∀(y:Bool),y=(b3 ||decide (z0<a))->∃x:Int,ev T zx (.loop px) (st1 (rC s i3 y) n z0 a f)=Z (.exit 5,⟨[(0,.ptr 900 0),(2,.ptr 2 0),(3,.ptr 3 0),(6,.d (E (n:Int))),(8,.d (.int .u8 (z0:Int))),(9,.d (E x)),(72,.d (.bool J))],[(2,wh),(3,bC (rg f a z0)),(900,rC s i3 y)],[]⟩):=λy _=>FZ _ n z0 a f F A;by_cases l:z0<a;{obtain⟨x,b⟩:=fin I (by simp[l]);have e:((z0:Int)<(a:Int))=True:=eq_true (by omega);simp only[st1]at b;simp only[l,decide_true,ng,dX,if_true];refine m _ (λk=>?_) (λk r=>?_);{subst k;simp only[show ((0:Nat):Int)=0 from rfl,bN,rG]at b g ⊢;simp only[go_sem,eg,cj,cM,ez,jg,HT,mz,p,o,j,e,c,b,g,rG]};have w:((n:Int)=0)=False:=eq_false (by omega);simp only[go_sem,eg,cj,cM,ez,jg,HT,p,o,j,r,w,e,c,b,g]};obtain⟨x,b⟩:=fin b3 (by simp[l]);have e:((z0:Int)<(a:Int))=False:=eq_false (by omega);simp only[st1]at b;simp only[l,decide_false,eJ,dB,if_true];refine m _ (λk=>?_) (λk r=>?_);{subst k;simp only[show ((0:Nat):Int)=0 from rfl,bN,rG]at b g ⊢;simp only[go_sem,eg,cj,cM,ez,jg,HT,mz,p,o,j,e,c,b,g,rG]};have w:((n:Int)=0)=False:=eq_false (by omega);simp only[go_sem,eg,cj,cM,ez,jg,HT,p,o,j,r,w,e,c,b,g]
def Jq{s:z}{i:Int}{n:Nat}{f:Nat->Bool}:ev T zx (.loop jg) (HT s i I n f)=Z (.exit 3,⟨[(0,.ptr 900 0),(2,.ptr 2 0),(3,.ptr 3 0),(6,.d (E (n:Int))),(51,.d (.bool J))],[(2,wh),(3,bC f),(900,rC s i I)],[]⟩):=by rw[lf];simp only[go_sem,eg,cj,cM,jg,HT]
def V1{s:z}{i a:Int}{n:Nat}{f:Nat->Bool}(e:n≠0)(b:fI T 275 [nh s i J,bt 93]=Z ([ys I],[nh s a J])) :
  ev T zx (.loop jg) (HT s i J n f)=Z (.exit 3,⟨[(0,.ptr 900 0),(2,.ptr 2 0),(3,.ptr 3 0),(6,.d (E (n:Int))),(51,.d (.bool J))],[(2,wh),(3,bC f),(900,rC s a J)],[]⟩):=by have c:((n:Int)=0)=False:=eq_false (by omega);rw[lf];simp only[go_sem,eg,cj,cM,ez,jg,HT,b,c]
def aa0{s:z}{i a k:Int}{b g:Bool}{n:Int}{f:Nat->Bool}(m:fI T 275 [nh s i b,bt 40]=Z ([ys J],[nh s i b]))(l:fI T 275 [nh s i b,bt 46]=Z ([ys J],[nh s i b]))(j:fI T 275 [nh s i b,bt 91]=Z ([ys I],[nh s a b]))
  (e:ev T zx (.loop jg) (HT s a b 0 λ_=>J)=Z (.exit 3,⟨[(0,.ptr 900 0),(2,.ptr 2 0),(3,.ptr 3 0),(6,.d (E n)),(51,.d (.bool J))],[(2,wh),(3,bC f),(900,rC s k g)],[]⟩)) :
  fI T 279 [nh s i b]=Z ([.val I [.d (E 1),.d (.str (chT f)),.row ⟨[],3,J,I,I,J⟩]],[nh s k g]):=by (have c:(aW 256 (C.d (.bool J)))=bC λ_=>J:=by rw[bC,qx];simp);have h:=aoG f;simp only[HT,mz]at e;(conv at c=>lhs;reduce);rw[Cp (f:=279) rfl rfl,c];simp only[go_sem,eg,cj,Nat.reduceMul,cM,ez,tH,sG,ri,oQ,zH,SJ,apg,acj,m,l,j,e,h,cM]
def nB{s:z}{i:Nat}{c:Int}{b:Bool}(e:s.size<=mg)(h:iV s i c=I):G 275 [.str s,E (i:Int),.bool b,.int .u8 c]=Z (0,[.bool I,.str s,E ((i+1:Nat):Int),.bool b]):=by obtain⟨a,f⟩:=my.1 h;have d:=wj a e;refine bW t275 rfl ?_;simp only[go_sem,t275,a,f,cZ _ _ a,d]
def n5{s:z}{i:Nat}{c:Int}{b:Bool}(h:iV s i c=J):G 275 [.str s,E (i:Int),.bool b,.int .u8 c]=Z (0,[.bool J,.str s,E (i:Int),.bool b]):=by refine bW t275 rfl ?_;by_cases a:i<s.size;{have d:=TM h a;simp only[go_sem,t275,a,d,cZ _ _ a]};simp only[go_sem,t275,a]
def aoH(b:Int):G 277 [.int .u8 b]=Z (0,[.bool (Qx b)]):=by refine bW t277 rfl ?_;unfold Qx;cases f:eA 97 122 b<;>cases e:eA 48 57 b<;>simp only[go_sem,t277,ae_,afa,f,e];by_cases d:b=95;{simp only[go_sem,d]};by_cases c:b=45;{simp only[go_sem,c]};by_cases a:b=46;{simp only[go_sem,a]};simp only[go_sem,d,c,a]
def Cw(s:z)(i:Nat):Bool:=Z' (i<s.size) && Qx (bY s i)
def Mi{s:z}{i:Nat}{b:Bool}(f:s.size<=mg)(h:Cw s i=I):G 278 [.str s,E (i:Int),.bool b]=Z (0,[.int .u8 (bY s i),.str s,E ((i+1:Nat):Int),.bool b]):=by simp only[Cw,aw,decide_eq_true_eq]at h;obtain⟨a,g⟩:=h;have e:=wj a f;have c:=aoH (bY s i);have k:=cZ s i a;have j:=apt i (by omega);(have d:¬s.size<=i:=by omega);rw[g]at c;refine bW t278 rfl ?_;simp only[go_sem,t278,oE,d,c,k,j,e]
def Hb{s:z}{i:Nat}{b:Bool}(h:Cw s i=J):G 278 [.str s,E (i:Int),.bool b]=Z (0,[.int .u8 0,.str s,E (i:Int),.bool I]):=by refine bW t278 rfl ?_;by_cases c:i<s.size;{simp only[Cw,c,decide_true,dC]at h;have d:=aoH (bY s i);have e:=cZ s i c;(have a:¬s.size<=i:=by omega);rw[h]at d;simp only[go_sem,t278,oE,a,d,e]};(have a:s.size<=i:=by omega);simp only[go_sem,t278,oE,a]
theorem ai_(n:Nat):∀p:dD,aF p<n->yZ 64 p=I->G 281 (jz p)=Z (0,jz p):=by induction n with|zero=>{intro p h;omega}|succ n r=>intro p x e;have f:=Ed e;have d:∀k∈p.ai,G 281 (jz k)=Z (0,jz k):=λk d=>r k (by have:=dD.uQ d;omega) (Ec e d);refine bW t281 (by rw[a_];rfl) ?_;have g:=cI (b:=lB G LJ) p.ai (λi (a:M dD)=>(0,[cK p.ai,E p.ai.length,E (i:Int),E p.op,.str p.text,cK p.ai,E 0,.str ⟨#[]⟩,cK a])) (λi=>p.ai.take i) (0,[cK p.ai,E p.ai.length,E p.ai.length,.bool J,E p.op,.str p.text,cK p.ai,E 0,.str ⟨#[]⟩,cK p.ai]) (by intro i k c;have j:=aY c;have s:=wj (i:=i) (n:=p.ai.length) j (by simp only[mg];omega);have m:=d k (bj c);have w:=ND c;have v:=λ(op:Int) (t:z) (q:M dD)=>Kg (l:=p.ai.take i) (by rw[bk];simp only[mg];omega) op t q;rw[a_]at m;rw[cd _ _ _ c];simp only[go_sem,bc,LJ,j,w,rq];simp only[go_sem,a_ k,m,MY,qL,v,cQ,s]) (by rw[bl];simp only[go_sem,bc,LJ,aE]) p.ai.length 0 (by omega);have o:aP (.lu 3 J) []=Z (cK []):=xg 3 J;rw[n0,br]at g;simp only[go_sem,t281,a_ p,o,g]
def ar9{p:dD}(a:yZ 64 p=I):G 281 (jz p)=Z (0,jz p):=ai_ _ p (aT _) a
def vW{s:z}{i d:Nat}{c:Int}{b t:Bool}(h:G 275 [.str s,E (i:Int),.bool b,.int .u8 c]=Z (0,[.bool t,.str s,E (d:Int),.bool b])):fI T 275 [nh s i b,bt c]=Z ([ys t],[nh s d b]):=by obtain⟨a,r,v,j,g,f,e⟩:=En T o0 275 _ rfl _ _ _ h;cases j;cases g;cases f;exact e
def LZ{s:z}{i c:Nat}{a:Int}{b e:Bool}(h:G 278 [.str s,E (i:Int),.bool b]=Z (0,[.int .u8 a,.str s,E (c:Int),.bool e])):fI T 278 [nh s i b]=Z ([.val J [.d (.int .u8 a)]],[nh s c e]):=by obtain⟨l,r,v,k,j,g,f⟩:=En T o0 278 _ rfl _ _ _ h;cases k;cases j;cases g;exact f
def abt{s:z}{i k:Nat}{p:dD}{b a:Bool}(h:G 280 [.str s,E (i:Int),.bool b]=Z (0,jz p++[.str s,E (k:Int),.bool a])) :
  fI T 280 [nh s i b]=Z ([.val I [.d (E p.op),.d (.str p.text),.d (.list 3 J (p.ai.map jz))]],[nh s k a]):=by rw[a_]at h;obtain⟨j,r,v,g,f,e,c⟩:=En T o0 280 _ rfl _ _ _ h;cases g;cases f;cases e;exact c
def abu{s:z}{i k:Nat}{p:dD}{b a:Bool}(h:G 280 [.str s,E (i:Int),.bool b]=Z (1,jz p++[.str s,E (k:Int),.bool a])) :
  fI T 280 [nh s i b]=Z ([.val I [.d (E p.op),.d (.str p.text),.row ⟨p.ai.map jz,3,J,J,I,I⟩]],[nh s k a]):=by rw[a_]at h;obtain⟨j,r,v,g,f,e,c⟩:=En T o0 280 _ rfl _ _ _ h;cases g;cases f;cases e;exact c
def aap{s:z}{i k:Nat}{p:dD}{b a:Bool}(h:fI T 279 [nh s i b]=Z ([.val I [.d (E p.op),.d (.str p.text),.d (.list 3 J (p.ai.map jz))]],[nh s k a])) :
  G 279 [.str s,E (i:Int),.bool b]=Z (0,jz p++[.str s,E (k:Int),.bool a]):=by rw[a_];exact yf (i:=279) (sg:=⟨279,[.box [.d,.d,.d]],_⟩) (v:=([.val I [.d,.d,.d]],[.box [.d,.d,.d]])) rfl rfl h rfl rfl
def aaq{s:z}{i k:Nat}{p:dD}{b a:Bool}(h:fI T 279 [nh s i b]=Z ([.val I [.d (E p.op),.d (.str p.text),.row ⟨p.ai.map jz,3,J,J,I,I⟩]],[nh s k a])) :
  G 279 [.str s,E (i:Int),.bool b]=Z (1,jz p++[.str s,E (k:Int),.bool a]):=by rw[a_];exact yf (i:=279) (sg:=⟨279,[.box [.d,.d,.d]],_⟩) (v:=([.val I [.d,.d,.row 3 J J I I]],[.box [.d,.d,.d]])) rfl rfl h rfl rfl
def BF{s:z}{i k:Nat}{t:z}{op:Int}{b a:Bool}(h:fI T 279 [nh s i b]=Z ([.val I [.d (E op),.d (.str t),.row ⟨[],3,J,I,I,J⟩]],[nh s k a])) :
  G 279 [.str s,E (i:Int),.bool b]=Z (2,jz ⟨op,t,[]⟩++[.str s,E (k:Int),.bool a]):=by rw[a_];exact yf (i:=279) (sg:=⟨279,[.box [.d,.d,.d]],_⟩) (v:=([.val I [.d,.d,.row 3 J I I J]],[.box [.d,.d,.d]])) rfl rfl h rfl rfl
theorem Ze(f:Nat->Bool):chT f=bsT f:=(rfl)
def any_eq:chT (vk 127)=U5:=by rw[Ze,U5];congr 1;funext x;simp only[vk];congr 1;apply decide_eq_decide.2;omega
def ame(f:Nat->Bool)(a b:Nat)(l:M (Int×Int)):(λy:Nat=>rg f a b y ||pv l y)=λy=>f y ||pv (((a:Int),(b:Int))::l) y:=aaU f a b l
def eC(s:z)(k:Nat)(b:Bool)(n:Int)(f:Nat->Bool):u (Ex×St):=Z (.exit 3,⟨[(0,.ptr 900 0),(2,.ptr 2 0),(3,.ptr 3 0),(6,.d (.int .i64 n)),(51,.d (.bool J))],[(2,wh),(3,bC f),(900,rC s k b)],[]⟩)
theorem Wh{s:z}(hs:s.size<=30):∀(g i n:Nat) (f:Nat->Bool),i<=s.size->s.size+1 - i<=g->n<=i->(n=0->iV s i 93=J)->
  ∃(k:Nat) (b:Bool) (v:Nat->Bool) (C:Int),ev T zx (.loop jg) (HT s i J n f)=eC s k b C v/\i<=k/\k<=s.size/\(match jm s g i with
   |some q=>b=J/\k=q.2/\v=λy=>f y ||pv q.1 y
   |none=>b=I):=by
 have A:s.size<=mg:=by simp only[mg];omega
 intro g
 induction g with
 |zero=>intro i n f h1 h2;omega
 |succ g ih=>
  intro i n f hi hg hn h0;cases x:iV s i 93 with
  |true=>
   have Y:=nu x;have e:=V1 (f:=f) (n:=n) (λh=>by rw[h0 h]at x;cases x) (vW (nB (b:=J) A x));refine⟨i+1,J,f,n,e,by omega,by omega,?_⟩;have:jm s (g+1) i=Z ([],i+1):=by simp only[jm,x,if_true]
   rw[this];exact⟨rfl,rfl,by funext y;simp[pv]⟩
  |false=>
   have F:n=0\/fI T 275 [nh s i J,bt 93]=Z ([ys J],[nh s i J]):=.inr (vW (n5 x));have m:n<=mgK:=by simp only[mgK];omega
   have t:∀(k a c:Nat),i<=k->k<=s.size->sf s i=O->ev T zx jg (HT s i J n f)=Z (.norm,HT s k I (n+1) (rg f a c))->
     ∃(k:Nat) (b:Bool) (v:Nat->Bool) (C:Int),ev T zx (.loop jg) (HT s i J n f)=eC s k b C v/\i<=k/\k<=s.size/\(match jm s (g+1) i with
      |some q=>b=J/\k=q.2/\v=λy=>f y ||pv q.1 y
      |none=>b=I):=by
    intro k a c W R r j;have hx:=Jq (s:=s) (i:=(k:Int)) (n:=n+1) (f:=rg f a c);refine⟨k,I,rg f a c,((n+1:Nat):Int),?_,W,R,?_⟩
    .rw[lf,j];exact hx
    .have:jm s (g+1) i=O:=by simp only[jm,x,aQ,if_false,r]
     rw[this]
   have KY:∀(k a c:Nat) (N:Int×Int),i<k->k<=s.size->sf s i=Z (N,k)->N=((a:Int),(c:Int))->ev T zx jg (HT s i J n f)=Z (.norm,HT s k J (n+1) (rg f a c))->
     ∃(k:Nat) (b:Bool) (v:Nat->Bool) (C:Int),ev T zx (.loop jg) (HT s i J n f)=eC s k b C v/\i<=k/\k<=s.size/\(match jm s (g+1) i with
      |some q=>b=J/\k=q.2/\v=λy=>f y ||pv q.1 y
      |none=>b=I):=by
    intro k a c N W R r rT j;obtain⟨k',b',v,C,e1,e2,e3,Q⟩:=ih k (n+1) (rg f a c) R (by omega) (by omega) (λh=>by omega);refine⟨k',b',v,C,?_,by omega,e3,?_⟩
    .rw[lf,j];exact e1
    .have:jm s (g+1) i=(jm s g k).map λp=>(N::p.1,p.2):=by simp only[jm,x,aQ,if_false,r]
     rw[this];cases X:jm s g k with
     |none=>rw[X]at Q;exact Q
     |some q=>
      rw[X]at Q;obtain⟨h5,h6,h7⟩:=Q;refine⟨h5,h6,?_⟩;rw[h7,rT];exact ame f a c q.1
   cases P:Cw s i with
   |false=>
    have r:sf s i=O:=by have d:(Z' (i<s.size) && Qx (bY s i))=J:=P;simp only[sf,d,aQ,if_false]
    have B:=LZ (Hb (b:=J) P);cases l:iV s i 126 with
    |false=>
     have j:=FA (a:=0) (z0:=0) (f:=f) (i3:=0) (b3:=J) m (by decide) (by decide) F B (vW (n5 (b:=I) l)) (λh=>by cases h);exact t i 0 0 (aH _) hi r (by simpa using j)
    |true=>
     have Y:=nu l;cases w:Cw s (i+1) with
     |false=>
      have j:=FA (a:=0) (z0:=0) (f:=f) m (by decide) (by decide) F B (vW (nB (b:=I) A l)) (λ_=>LZ (Hb (b:=I) w));exact t (i+1) 0 0 (by omega) (by omega) r (by simpa using j)
     |true=>
      obtain⟨c,S,o⟩:=zG s (i+1);have K:=LZ (Mi (b:=I) A w);rw[o]at K;have V:i+1<s.size:=by simp only[Cw,aw,decide_eq_true_eq]at w;exact w.1
      have j:=FA (a:=0) (z0:=c) (f:=f) m (by decide) S F B (vW (nB (b:=I) A l)) (λ_=>K);exact t (i+1+1) 0 c (by omega) (by omega) r (by simpa using j)
   |true=>
    obtain⟨a,U,L⟩:=zG s i;have B:=LZ (Mi (b:=J) A P);rw[L]at B;have d:(Z' (i<s.size) && Qx (bY s i))=I:=P;have Y:i<s.size:=by simp only[aw,decide_eq_true_eq]at d;exact d.1
    cases l:iV s (i+1) 126 with
    |false=>
     have j:=FA (a:=a) (z0:=0) (f:=f) (i3:=0) (b3:=J) m U (by decide) F B (vW (n5 (b:=J) l)) (λh=>by cases h);exact KY (i+1) a a (bY s i,bY s i) (by omega) (by omega) (by simp only[sf,d,l,if_true,aQ,if_false]) (by rw[L]) (by simpa using j)
    |true=>
     have V:=nu l;cases w:Cw s (i+1+1) with
     |false=>
      have r:sf s i=O:=by have G:(Z' (i+2<s.size) && Qx (bY s (i+2)))=J:=w;simp only[sf,d,l,if_true,<- iW,G,dK,aQ,if_false]
      have j:=FA (a:=a) (z0:=0) (f:=f) m U (by decide) F B (vW (nB (b:=J) A l)) (λ_=>LZ (Hb (b:=J) w));exact t (i+1+1) a 0 (by omega) (by omega) r (by simpa using j)
     |true=>
      obtain⟨c,S,o⟩:=zG s (i+1+1);have K:=LZ (Mi (b:=J) A w);rw[o]at K;have G:(Z' (i+2<s.size) && Qx (bY s (i+2)))=I:=w;have atx:i+1+1<s.size:=by simp only[aw,decide_eq_true_eq]at G;exact G.1
      have j:=FA (a:=a) (z0:=c) (f:=f) m U S F B (vW (nB (b:=J) A l)) (λ_=>K);by_cases H:c<a
      .have D:¬bY s i<=bY s (i+2):=by rw[L,o];omega
       have r:sf s i=O:=by simp only[sf,d,l,if_true,<- iW,G,dC,D,decide_false,aQ,if_false]
       exact t (i+1+1+1) a c (by omega) (by omega) r (by simpa [H] using j)
      .have D:bY s i<=bY s (i+2):=by rw[L,o];omega
       exact KY (i+1+1+1) a c (bY s i,bY s (i+2)) (by omega) (by omega) (by simp only[sf,d,l,if_true,<- iW,G,dC,D,decide_true]) (by rw[L,o]) (by simpa [H] using j)
def ixB(t:z)(c:Int):Int:=Lib.indexByte t.data.toList c.toNat.toUInt8
def agD(t:z)(c:Int):G 9002 [.str t,.int .u8 c]=Z (0,[E (ixB t c)]):=
 yf (i:=9002) (sg:=⟨9002,[.val J [.d],.val J [.d]],[([.val J [.d]],[])]⟩) (v:=([.val J [.d]],[])) (j:=0) (r:=([.val J [.d (E (ixB t c))]],[])) (ws:=[.str t,.int .u8 c]) rfl rfl ((abr T rfl [.val J [.d (.str t)],.val J [.d (.int .u8 c)]]).trans rfl) rfl rfl
theorem aaZ:∀(l:M UInt8) (c:UInt8),-1<=Lib.indexByte l c
 |[],c=>by simp[Lib.indexByte]
 |b::l,c=>by have a:=aaZ l c;simp only[Lib.indexByte];split;{omega};split<;>omega
theorem agr:∀(l:M UInt8) (c:UInt8),Z' (0<=Lib.indexByte l c)=l.any λx=>x ==c
 |[],c=>by simp[Lib.indexByte]
 |b::l,c=>by have e:=agr l c;have a:Lib.indexByte (b::l) c=if (b ==c)=I then 0 else if (Lib.indexByte l c == -1)=I then -1 else Lib.indexByte l c+1:=rfl;rw[g_,<- e];have g:=aaZ l c;by_cases h:(b ==c)=I;{rw[h,qS,decide_eq_true_eq,a,if_pos h];exact Int.le_refl 0};rw[dQ.2 h,fU];apply decide_eq_decide.2;rw[a,if_neg h];split;{rename_i d;rw[beq_iff_eq]at d;omega};rename_i d;(have f:¬Lib.indexByte l c=-1:=by simpa using d);omega
def TN(t:z){s:z}{i:Nat}:Z' (0<=ixB t (bY s i))=hasB t (bY s i):=by rw[ixB,agr,dS,fC,hasB,fC];have g:∀k,bY t k=(((t.data.toList)[k]?.getD 0).toNat:Int):=λk=>by{unfold bY;congr 2;simp only[Array.getElem?_toList];rfl};(have j:(bY s i).toNat.toUInt8=s[i]?.getD 0:=by unfold bY;simp);have f:bY s i=((s[i]?.getD 0).toNat:Int):=rfl;rw[j];constructor;{rintro⟨x,h,a⟩;obtain⟨k,c,d⟩:=List.getElem_of_mem h;refine⟨k,?_,?_⟩;{rw[zt];simpa using c};rw[decide_eq_true_eq,g,f,kF c,d];rw[beq_iff_eq]at a;rw[a];rfl};rintro⟨k,c,b⟩;rw[zt]at c;(have e:k<t.data.toList.length:=by simpa using c);rw[decide_eq_true_eq,g,f,kF e]at b;refine⟨_,List.getElem_mem e,?_⟩;rw[beq_iff_eq];simp only[cL]at b;exact UInt8.toNat_inj.1 (by omega)
theorem Bk:∀(l:M Bool),nN (l.map CZ)=Z l
 |[]=>rfl
 |b::l=>by have:=Bk l;simp only[bz,CZ,nN,this,cV]
def Qr{a b:M Bool}(h:b.length=a.length)(c:0<b.length):aP .jnl [bP a,bP b]=Z (bP (dJ a b)):=by simp only[aP,Bk,aj,h];rw[if_pos ⟨trivial,trivial,trivial,trivial,λd=>by rw[List.map_eq_nil_iff]at d;rw[d]at c;exact absurd c (by simp)⟩];rfl
def Qq(a b:M Bool):aP .jnb [bP a,bP b]=Z (.bool (nq a b)):=by simp only[aP,Bk]
theorem Wj{s t:z}{a:M Bool}{op ks:D}(w:s.size<=mg)(y:a.length=s.size+1) :
  bG (lB G B4) (0,[.str s,bP a,E 0,op,.str t,ks,bP (aW (s.size+1) J)])=Z (0,[.str s,bP a,E s.size,.bool J,op,.str t,ks,bP (P4 t s a)]):=by have j:=Ko t s a;have h:=Od (b:=lB G B4) (λi=>(0,[.str s,bP a,E (i:Int),op,.str t,ks,bP (lg (P4 t s a) (i+1))])) s.size (fin:=(0,[.str s,bP a,E s.size,.bool J,op,.str t,ks,bP (lg (P4 t s a) (s.size+1))])) (by intro i e;have g:IntKind.i64.wrap ((i:Int)+1)=((i+1:Nat):Int):=Ip (by omega);have k:nth a i=Z (a[i]'(by omega)):=dG (by omega);have o:=Uj (t:=t) e k;have n:=SP k;(have d:i+1<(lg (P4 t s a) (i+1)).length:=by rw[z8 _ _ (by omega)];omega);have m:=rL d;have l:=λc=>EA (c:=c) d;have f:=BC o;have v:=cZ s i e;have r:=agD t (bY s i);have q:=TN t (s:=s) (i:=i);generalize (a[i]'(by omega))=x at *;cases x with|false=>{rw[dK]at f;simp only[go_sem,bc,B4,e,g,n,m,l,f]}|true=>rw[dC]at f;simp only[go_sem,bc,B4,e,g,n,m,l,f,v,r,q]) (by simp only[go_sem,bc,B4,aE]);have p:lg (P4 t s a) (0+1)=aW (s.size+1) J:=by{rw[lg,j];simp[P4,ir]};rw[p,n0]at h;rw[h];congr 9;rw[<- j,QU]
section
variable {s:z} {k:dD} {f:M Bool->M Bool} (hf:∀x:M Bool,x.length=s.size+1->(f x).length=s.size+1)
 (ih:∀x:M Bool,x.length=s.size+1->G 308 (jz k++[.str s,bP x])=Z (0,[bP (f x)]))
include hf ih
theorem Wl{t:z}:∀(m:Nat) (x:M Bool) (h:Nat) (c:D),h<2->outs x<m->x.length=s.size+1->
  bG (lB G vM) (h,[.str s,c,E 4,.str t,cK [k],bP x])=Z (0,[.str s,.bool J,E 4,.str t,cK [k],bP (Dg f m x)]):=by intro m;induction m with|zero=>{intro x h c o r;omega}|succ m p=>intro x h c o r j;have g:=ih x j;rw[a_]at g;simp only[av,au]at g;have n:=hf x j;have i:=Qr (a:=x) (b:=f x) (by rw[n,j]) (by omega);have e:=Qq x (f x);have q:=kA x (f x);have l:=Jf x (f x);simp only[Dg];by_cases d:dJ x (f x)=x;{rw[if_pos d];rw[decide_eq_true d,dr]at l;rw[l]at e;rw[d]at i;refine aK ?_;match h,o with|0,_=>{simp only[go_sem,bc,vM,xQ,a_ k,g,i,e]}|1,_=>simp only[go_sem,bc,vM,xQ,a_ k,g,i,e]};rw[if_neg d];rw[decide_eq_false d,db]at l;rw[l]at e;refine (bD (s':=(1,[.str s,.bool I,E 4,.str t,cK [k],bP (dJ x (f x))])) ?_).trans (p _ 1 (.bool I) (by decide) (by have:=(yy x (f x)).2 d;omega) (by rw[q];exact j));match h,o with|0,_=>{simp only[go_sem,bc,vM,xQ,a_ k,g,i,e]}|1,_=>simp only[go_sem,bc,vM,xQ,a_ k,g,i,e]
theorem Wk{t:ByteArray}{x:M Bool}{z:D}(c:x.length=s.size+1) :
  bG (lB G vM) (0,[.str s,z,E 5,.str t,cK [k],bP x])=Z (0,[.str s,.bool J,E 5,.str t,cK [k],bP (dJ x (f x))]):=by have e:=ih x c;rw[a_]at e;simp only[av,au]at e;have d:=hf x c;have i:=Qr (a:=x) (b:=f x) (by rw[d,c]) (by omega);have g:=Qq x (f x);refine aK ?_;cases h:nq x (f x)<;>rw[h]at g<;>simp only[go_sem,bc,vM,xQ,a_ k,e,i,g]
end
def Hn(h:u D)(s:z)(l:M dD)(i:Nat)(x:M Bool):Nat×M D:=match h with
 |none=>(0,[.str s,cK l,.int .i64 l.length,.int .i64 (i:Int),bP x])
 |some a=>(1,[.str s,cK l,.int .i64 l.length,.int .i64 (i:Int),a,bP x])
def N7(h:u D)(s:z)(l:M dD)(x:M Bool):Nat×M D:=match h with
 |none=>(0,[.str s,cK l,.int .i64 l.length,.int .i64 l.length,.bool J,bP x])
 |some a=>(1,[.str s,cK l,.int .i64 l.length,.int .i64 l.length,.bool J,a,bP x])
theorem Jw{s:z}{l:M dD}{f:dD->M Bool->M Bool}(p:l.length<=mg)(q:∀(k:dD) (x:M Bool),x.length=s.size+1->(f k x).length=s.size+1)
  (j:∀k∈l,∀x:M Bool,x.length=s.size+1->G 308 (jz k++[.str s,bP x])=Z (0,[bP (f k x)])):∀(m i:Nat) (x:M Bool) (h:u D),i+m=l.length->x.length=s.size+1->
  ∃g,bG (lB G B5) (Hn h s l i x)=Z (N7 g s l ((l.drop i).foldl (λo k=>f k o) x))
 |0,i,x,h,t,c=>by (obtain rfl:i=l.length:=by omega);refine⟨h,aK ?_⟩;rw[eI,zq];cases h with|none=>{simp only[go_sem,bc,B5,Hn,N7,aE]}|some a=>simp only[go_sem,bc,B5,Hn,N7,aE]
 |m+1,i,x,h,t,c=>by have d:nth l i=Z (l[i]'(by omega)):=dG (by omega);(have e:i<l.length:=by omega);have n:=wj e p;have b:=j _ (bj d) x c;have r:=ND d;obtain⟨g,v⟩:=Jw p q j m (i+1) (f (l[i]'(by omega)) x) (Z (h.getD (bP x))) (by omega) (q _ x c);refine⟨g,(bD (s':=Hn (Z (h.getD (bP x))) s l (i+1) (f (l[i]'(by omega)) x)) ?_).trans (v.trans ?_)⟩;{generalize (l[i]'(by omega))=k at *;rw[a_]at b;simp only[av,au]at b;cases h with|none=>{simp only[go_sem,bc,B5,Hn,e,r,rq];simp only[go_sem,a_ k,b,n]}|some a=>simp only[go_sem,bc,B5,Hn,e,r,rq];simp only[go_sem,a_ k,b,n]};rw[fJ l i _ d,List.foldl_cons]
theorem ajc{s:ByteArray}(P:s.size<=mg)(n:Nat):∀(p:dD) (a:M Bool),aF p<n->yZ 64 p=I->a.length=s.size+1->G 308 (jz p++[.str s,bP a])=Z (0,[bP (jA s n p a)]):=by induction n with|zero=>{intro p a h;omega}|succ n V=>intro p a hz S r;have c:=sO (s:=s) n;have w:∀k∈p.ai,∀x:M Bool,x.length=s.size+1->G 308 (jz k++[.str s,bP x])=Z (0,[bP (jA s n k x)]):=λk w x D=>V k x (by have:=dD.uQ w;omega) (Ec S w) D;have e:=Ip P;have j:=zJ (n:=s.size+1) (by simp only[mg]at P;omega);have xC:=Ed S;have A:=Y6 (l:=aW (s.size+1) J) (m:=a) (by simpa using r);refine bW t308 (by rw[a_];rfl) ?_;simp only[jA];unfold NK;by_cases H:p.op=1;{have d:=Wj (s:=s) (t:=p.text) (a:=a) (op:=E 1) (ks:=cK p.ai) P r;rw[if_pos H];simp only[go_sem,e,j,t308,a_ p,H,d]};rw[if_neg H];by_cases C:p.op=2;{rw[if_pos C];obtain⟨W,d⟩:=Jw (s:=s) (l:=p.ai) (f:=jA s n) (by simp only[mg];omega) c w p.ai.length 0 a O (by omega) r;rw[bQ]at d;simp only[Hn,n0]at d;cases W with|none=>{simp only[N7]at d;simp only[go_sem,e,j,A,t308,a_ p,C,d]}|some z=>simp only[N7]at d;simp only[go_sem,e,j,A,t308,a_ p,C,d]};rw[if_neg C];by_cases F:p.op=3;{rw[if_pos F];have d:=cI (b:=lB G LL) p.ai (λi (x:M Bool)=>(0,[.str s,bP a,cK p.ai,E p.ai.length,E (i:Int),bP x])) (λi=>(p.ai.take i).foldl (λo k=>dJ o (jA s n k a)) (aW (s.size+1) J)) (0,[.str s,bP a,cK p.ai,E p.ai.length,E p.ai.length,.bool J,bP (p.ai.foldl (λo k=>dJ o (jA s n k a)) (aW (s.size+1) J))]) (by intro i k K;have T:=aY K;have N:=wj (i:=i) (n:=p.ai.length) T (by simp only[mg];omega);have R:=w k (bj K) a r;have U:=BE (s:=s) (g:=λk=>jA s n k a) (p.ai.take i) (aW (s.size+1) J) (by simp);have Y:=Qr (a:=(p.ai.take i).foldl (λo k=>dJ o (jA s n k a)) (aW (s.size+1) J)) (b:=jA s n k a) (by rw[c k a r,U]) (by rw[c k a r];omega);have X:=Qq ((p.ai.take i).foldl (λo k=>dJ o (jA s n k a)) (aW (s.size+1) J)) (jA s n k a);rw[a_]at R;simp only[av,au]at R;rw[yp _ _ _ _ _ K];simp only[go_sem,bc,LL,T,ND K,rq];simp only[go_sem,a_ k,R,Y,X,N]) (by rw[bl];simp only[go_sem,bc,LL,aE]) p.ai.length 0 (by omega);rw[n0,br,zq]at d;simp only[go_sem,e,j,t308,a_ p,F,d]};rw[if_neg F];by_cases B:p.op=4;{rw[if_pos B];(have q:¬(4:Int)=5:=by decide);by_cases y:p.ai.length=1;{obtain⟨k,v⟩:=dd.1 y;have L:=Wl (t:=p.text) (c k) (λx D=>w k (by rw[v];simp) x D) (s.size+2) a 0 (.bool J) (by decide) (by have:=L8 a;omega) r;rw[v,L6];simp only[go_sem,e,j,A,t308,a_ p,B,q,v,L]};rw[L7 y];have Q:=aeL y;simp only[go_sem,e,j,A,t308,a_ p,B,q,Q]};rw[if_neg B];by_cases q:p.op=5;{rw[if_pos q];by_cases y:p.ai.length=1;{obtain⟨k,v⟩:=dd.1 y;have L:=Wk (t:=p.text) (z:=.bool J) (c k) (λx D=>w k (by rw[v];simp) x D) r;rw[v,L6];simp only[go_sem,e,j,A,t308,a_ p,q,v,L]};rw[L7 y];have Q:=aeL y;simp only[go_sem,e,j,A,t308,a_ p,q,Q]};rw[if_neg q];simp only[go_sem,e,j,t308,a_ p,H,C,F,B,q]
def asb{s:z}{p:dD}(d:s.size<=mg)(m:yZ 64 p=I):G 309 (jz p++[.str s])=Z (0,[.bool (Rn p s)]):=by have k:=Ip d;have o:=zJ (n:=s.size+1) (by simp only[mg]at d;omega);have e:=ajc d (aF p+1) p (I::aW s.size J) (aT _) m (by simp);have g:=sO (s:=s) (aF p+1) p (I::aW s.size J) (by simp);rw[a_]at e;simp only[av,au]at e;have j:=rL (l:=aW (s.size+1) J) (i:=0) (by simp);have f:=EA (l:=aW (s.size+1) J) (i:=0) (c:=I) (by simp);(have v:(aW (s.size+1) J).set 0 I=I::aW s.size J:=by rw[ir];rfl);rw[v]at f;rw[n0]at j f;have t:=rL (l:=jA s (aF p+1) p (I::aW s.size J)) (i:=s.size) (by rw[g];omega);obtain⟨b,h⟩:∃b,nth (jA s (aF p+1) p (I::aW s.size J)) s.size=Z b:=⟨_,dG (by rw[g];omega)⟩;have r:=Bj h;refine bW t309 (by rw[a_];rfl) ?_;(have q:Rn p s=b:=by rw[Rn,h];rfl);rw[q];generalize jA s (aF p+1) p (I::aW s.size J)=a at *;simp only[go_sem,t309,a_ p,k,o,j,f,e,t,r]
section
variable {s:z} {alt:Nat->PR}
theorem ar8(vD:s.size<=30){i:Nat}(F:i<s.size)(hA:∀j,i<j->j<=s.size->Er 280 s j 0 2 J (alt j)):Er 279 s i 1 3 J (xY alt s i):=by
 have D:s.size<=mg:=by simp only[mg];omega
 unfold xY;cases H:iV s i 40 with
 |true=>
  have t:=vW (nB (b:=J) D H);obtain⟨j,p,k,b,W,P,V,p2,p3,B⟩:=hA (i+1) (by omega) (by omega);rw[if_pos rfl];cases o:iV s k 41 with
  |true=>
   have g:=vW (nB (b:=b) D o);have hk:=nu o;have G:PA s i 1 (match alt (i+1) with
     |some (p,j)=>if iV s j 41=I then Z (p,j+1) else O
     |none=>O) p (k+1) b:=by
    refine⟨V,by omega,by omega,?_⟩;cases e:alt (i+1) with
    |none=>rw[e]at B;exact B
    |some q=>
     rw[e]at B;obtain⟨Q,rfl,p5⟩:=B;simp only[o,if_true];exact⟨Q,trivial,by omega⟩
   match j,W with|0,_=>{have:=Lf (.inl ⟨_,rfl⟩) t (abt P) g;rw[dr,dB]at this;exact⟨0,p,k+1,b,by decide,aap this,G⟩}|1,_=>have:=Lf (.inr ⟨_,rfl⟩) t (abu P) g;rw[dr,dB]at this;exact⟨1,p,k+1,b,by decide,aaq this,G⟩
  |false=>
   have g:=vW (n5 (b:=b) o);have G:PA s i 1 (match alt (i+1) with
     |some (p,j)=>if iV s j 41=I then Z (p,j+1) else O
     |none=>O) p k I:=by
    refine⟨V,by omega,p3,?_⟩;cases e:alt (i+1) with
    |none=>rfl
    |some q=>
     rw[e]at B;obtain⟨Q,rfl,p5⟩:=B;simp only[o,aQ,if_false]
   match j,W with|0,_=>{have:=Lf (.inl ⟨_,rfl⟩) t (abt P) g;rw[db,dX]at this;exact⟨0,p,k,I,by decide,aap this,G⟩}|1,_=>have:=Lf (.inr ⟨_,rfl⟩) t (abu P) g;rw[db,dX]at this;exact⟨1,p,k,I,by decide,aaq this,G⟩
 |false=>have t:=vW (n5 (b:=J) H);rw[if_neg dh];cases m:iV s i 46 with|true=>{have g:=vW (nB (b:=J) D m);have v:iV s i 91=J:=by{rw[dQ];intro h;have a1:=(my.1 h).2;have a2:=(my.1 m).2;omega};have:=ah2 t g;rw[any_eq]at this;rw[v,if_neg dh,if_pos rfl];exact⟨2,⟨1,U5,[]⟩,i+1,J,by decide,BF this,kW _ _ (Bn _),by omega,by omega,rfl,rfl,by omega⟩}|false=>have g:=vW (n5 (b:=J) m);cases v:iV s i 91 with|true=>{have K:=vW (nB (b:=J) D v);rw[if_pos rfl];cases N:iV s (i+1) 93 with|false=>{obtain⟨k,b,Y,n',e1,e2,e3,R⟩:=Wh vD (s.size+1) (i+1) 0 (λ_=>J) (by omega) (by omega) (by omega) (λ_=>N);have:=aa0 t g K e1;refine⟨2,⟨1,chT Y,[]⟩,k,b,by decide,BF this,kW _ _ (Bn _),by omega,e3,?_⟩;unfold O4;cases e:jm s (s.size+1) (i+1) with|none=>{rw[e]at R;exact R}|some q=>obtain⟨l,k0⟩:=q;rw[e]at R;obtain⟨Q,X,h7⟩:=R;dsimp only at X;subst Q X;cases l with|nil=>{exfalso;simp only[jm,N,aQ,if_false]at e;split at e;{obtain⟨p,_,h⟩:=aC.1 e;simp at h};cases e}|cons r l=>have hf:chT Y=ajL (r::l):=by{rw[Ze,ajL,h7];congr 1};rw[hf];exact⟨rfl,rfl,by omega⟩}|true=>obtain⟨hl3,U⟩:=my.1 N;have w:Cw s (i+1)=J:=by{simp only[Cw,U];rw[Bool.and_eq_false_iff];exact .inr (by decide)};have ht:iV s (i+1) 126=J:=by{rw[dQ];intro h;have a1:=(my.1 h).2;omega};have he:=FA (a:=0) (z0:=0) (f:=λ_=>J) (i3:=0) (b3:=J) (n:=0) (by decide) (by decide) (by decide) (.inl rfl) (LZ (Hb (b:=J) w)) (vW (n5 (b:=I) ht)) (λh=>by cases h);have hx:=Jq (s:=s) (i:=((i+1:Nat):Int)) (n:=1) (f:=rg (λ_=>J) 0 0);have hl:ev T zx (.loop jg) (HT s ((i+1:Nat):Int) J 0 λ_=>J)=Z (.exit 3,⟨[(0,.ptr 900 0),(2,.ptr 2 0),(3,.ptr 3 0),(6,.d (E ((1:Nat):Int))),(51,.d (.bool J))],[(2,wh),(3,bC (rg (λ_=>J) 0 0)),(900,rC s ((i+1:Nat):Int) I)],[]⟩):=by{rw[lf,he];exact hx};have:=aa0 t g K hl;refine⟨2,⟨1,chT _,[]⟩,i+1,I,by decide,BF this,kW _ _ (Bn _),by omega,by omega,?_⟩;(have e:jm s (s.size+1) (i+1)=Z ([],i+1+1):=by simp only[jm,N,if_true]);(have:O4 s (i+1)=O:=by rw[O4,e]);rw[this]}|false=>have K:=vW (n5 (b:=J) v);rw[if_neg dh,if_neg dh];cases w:Cw s i with|false=>{have:=aa1 t g K (LZ (Hb (b:=J) w));have S:(Z' (i<s.size) && pCh (bY s i))=J:=by{simp only[Cw,F,decide_true,dC,Qx]at w;simp only[F,decide_true,dC,pCh];generalize eA 97 122 (bY s i)=x at *;generalize eA 48 57 (bY s i)=y at *;generalize Z' (bY s i=45)=c at *;cases x<;>cases y<;>cases c<;>simp_all};rw[S,if_neg dh];exact⟨2,⟨1,_,[]⟩,i,I,by decide,BF this,kW _ _ (by decide),by omega,by omega,rfl⟩}|true=>have:=aa1 t g K (LZ (Mi (b:=J) D w));(have L:¬bY s i=46:=λh=>by rw[my.2 ⟨F,h⟩]at m;cases m);have e1:([dT (bY s i).toNat].toArray:Array UInt8)=(G6 (bY s i)).data:=rfl;(have C:(G6 (bY s i)).size<=256:=by rw[G6,pf];simp);have S:(Z' (i<s.size) && pCh (bY s i))=!Z' (bY s i=95):=by{simp only[Cw,F,decide_true,dC,Qx]at w;simp only[F,decide_true,dC,pCh];by_cases A:bY s i=95;{rw[A];decide};simp only[A,L,decide_false,fU,dB]at w;rw[w];simp[A]};rw[S];by_cases A:bY s i=95;{rw[decide_eq_true A,qS,dX]at this;rw[decide_eq_true A,dr,if_neg dh];exact⟨2,⟨1,G6 (bY s i),[]⟩,i+1,I,by decide,BF this,kW _ _ C,by omega,by omega,rfl⟩};rw[decide_eq_false A,decide_eq_false L,dB,dB]at this;rw[decide_eq_false A,db,if_pos rfl];exact⟨2,⟨1,G6 (bY s i),[]⟩,i+1,J,by decide,BF this,kW _ _ C,by omega,by omega,rfl,rfl,by omega⟩
theorem ar_(C:s.size<=30){i:Nat}(t:Er 279 s i 1 3 J (xY alt s i)):Er 282 s i 1 4 J (tf alt s i):=by (have r:s.size<=mg:=by simp only[mg];omega);obtain⟨j,p,k,b,l,c,v,F,x,h⟩:=t;simp only[a_,av,au]at c;have g:=ar9 v;rw[a_]at g;have B:=Uq (n:=64) (by decide) (s:=s) k v;have A:=Up s p k;have a:PA s i 1 (tf alt s i) (G9 s p k).1 (G9 s p k).2 b:=by{refine⟨B,by omega,A.2 x,?_⟩;unfold tf;cases w:xY alt s i with|none=>{rw[w]at h;exact h}|some q=>rw[w]at h;obtain⟨y,rfl,D⟩:=h;exact⟨y,rfl,by omega⟩};unfold G9 at a;cases c1:iV s k 42 with|true=>{have d:=nB (b:=b) r c1;rw[c1,if_pos rfl]at a;match j,l with|0,_=>{exact⟨0,_,_,b,by decide,bW t282 rfl (by simp only[go_sem,c,u_,qL,P1,cQ,eT,t282,d,a_]),a⟩}|1,_=>{exact⟨0,_,_,b,by decide,bW t282 rfl (by simp only[go_sem,c,qL,P1,cQ,eT,t282,d,a_]),a⟩}|2,_=>exact⟨3,_,_,b,by decide,bW t282 rfl (by simp only[go_sem,c,MY,qL,P1,cQ,eT,t282,d,a_]),a⟩}|false=>have d:=n5 (b:=b) c1;rw[c1,if_neg dh]at a;cases o:iV s k 43 with|true=>{have e:=nB (b:=b) r o;rw[o,if_pos rfl]at a;match j,l with|0,_=>{exact⟨0,_,_,b,by decide,bW t282 rfl (by simp only[go_sem,c,u_,qL,Xo,P1,P2,g,cQ,eT,t282,d,e,a_]),a⟩}|1,_=>{exact⟨0,_,_,b,by decide,bW t282 rfl (by simp only[go_sem,c,u_,qL,Xo,P1,P2,g,cQ,eT,t282,d,e,a_]),a⟩}|2,_=>exact⟨0,_,_,b,by decide,bW t282 rfl (by simp only[go_sem,c,u_,qL,Xo,P1,P2,g,cQ,eT,t282,d,e,a_]),a⟩}|false=>have e:=n5 (b:=b) o;rw[o,if_neg dh]at a;cases m:iV s k 63 with|true=>{have f:=nB (b:=b) r m;rw[m,if_pos rfl]at a;match j,l with|0,_=>{exact⟨0,_,_,b,by decide,bW t282 rfl (by simp only[go_sem,c,u_,qL,P1,cQ,eT,t282,d,e,f,a_]),a⟩}|1,_=>{exact⟨0,_,_,b,by decide,bW t282 rfl (by simp only[go_sem,c,qL,P1,cQ,eT,t282,d,e,f,a_]),a⟩}|2,_=>exact⟨3,_,_,b,by decide,bW t282 rfl (by simp only[go_sem,c,MY,qL,P1,cQ,eT,t282,d,e,f,a_]),a⟩}|false=>have f:=n5 (b:=b) m;rw[m,if_neg dh]at a;match j,l with|0,_=>{exact⟨1,_,_,b,by decide,bW t282 rfl (by simp only[go_sem,c,t282,d,e,f,a_]),a⟩}|1,_=>{exact⟨2,_,_,b,by decide,bW t282 rfl (by simp only[go_sem,c,t282,d,e,f,a_]),a⟩}|2,_=>exact⟨3,_,_,b,by decide,bW t282 rfl (by simp only[go_sem,c,t282,d,e,f,a_]),a⟩
end
section
variable {s:z} {alt:Nat->PR}
theorem Wi(r:s.size<=30){i:Nat}{l:M dD}(v:l.length<=100)(h:wg s i=I)(g:Er 282 s i 1 4 J (tf alt s i)) :
  ∃(p:dD) (k:Nat) (b:Bool),lB G nX (0,[E 0,.str ⟨#[]⟩,.str s,E (i:Int),.bool J,cK l])=Z (.go (0,[E 0,.str ⟨#[]⟩,.str s,E (k:Int),.bool b,cK (l++[p])]))/\PA s i 1 (tf alt s i) p k b:=by (have m:l.length<=mg:=by simp only[mg];omega);simp only[wg,aw,decide_eq_true_eq,dm,decide_eq_false_iff_not]at h;obtain⟨a,e,d⟩:=h;have f:=cZ s i a;have fa:=λop t n=>Kg m op t n;obtain⟨j,p,k,b,o,c,q⟩:=g;simp only[a_,av,au]at c;refine⟨p,k,b,?_,q⟩;match j,o with|0,_=>{simp only[go_sem,a,e,d,f,c,qL,fa,cQ,bc,nX]}|1,_=>{simp only[go_sem,a,e,d,f,c,u_,qL,fa,cQ,bc,nX]}|2,_=>{simp only[go_sem,a,e,d,f,c,qL,fa,cQ,bc,nX]}|3,_=>simp only[go_sem,a,e,d,f,c,MY,qL,fa,cQ,bc,nX]
theorem aeb(m:s.size<=30){i0:Nat}(F:∀j,i0<j->j<=s.size->Er 280 s j 0 2 J (alt j)):∀(g i:Nat) (l:M dD),i0<=i->i<=s.size->s.size+1 - i<=g->Lsx l i->
  ∃(h:M dD) (k:Nat) (b:Bool),bG (lB G nX) (0,[E 0,.str ⟨#[]⟩,.str s,E (i:Int),.bool J,cK l])=Z (0,[.bool J,E 0,.str ⟨#[]⟩,.str s,E (k:Int),.bool b,cK h])/\RdL i s l (wc alt s g i) h k b:=by (have R:s.size<=mg:=by simp only[mg];omega);intro g;induction g with|zero=>{intro i l _ w H;omega}|succ g D=>intro i l T w H c;simp only[wc];cases d:wg s i with|false=>{simp only[aQ,if_false];refine⟨l,i,J,aK ?_,⟨by have:=c.1;omega,c.2⟩,aH _,w,rfl,by rw[aG],rfl⟩;by_cases a:i<s.size;{have x:=cZ s i a;simp only[wg,a,decide_true,dC]at d;by_cases t:bY s i=124;{simp only[go_sem,bc,nX,a,t,x]};have f:bY s i=41:=by{by_cases f:bY s i=41;{exact f};simp[t,f]at d};(have B:¬(41:Int)=124:=by decide);simp only[go_sem,bc,nX,a,f,B,x]};simp only[go_sem,bc,nX,a]}|true=>(have a:i<s.size:=by simp only[wg,aw,decide_eq_true_eq]at d;exact d.1);simp only[if_true];obtain⟨p,k,b,y,r,A,o,e⟩:=Wi m (l:=l) (by have:=c.1;omega) d (ar_ m (ar8 m a λj S P=>F j (by omega) P));cases v:tf alt s i with|none=>{rw[v]at e;subst e;refine⟨l++[p],k,I,(bD y).trans (aK ?_),pd (n:=30) ⟨by have:=c.1;omega,c.2⟩ r (by decide),A,o,rfl⟩;simp only[go_sem,bc,nX]}|some q=>rw[v]at e;obtain⟨rfl,rfl,Q⟩:=e;obtain⟨h,C,N,L,K⟩:=D k (l++[p]) (by omega) o (by omega) (pd c r (by omega));exact⟨h,C,N,(bD y).trans L,zC (by omega) K⟩
theorem aoI(m:s.size<=30){i:Nat}(w:i<=s.size)(o:∀j,i<j->j<=s.size->Er 280 s j 0 2 J (alt j)):Er 283 s i 0 2 J (DC alt s i):=by obtain⟨f,k,b,l,h,y,x,c⟩:=aeb m o (s.size+1) i [] (aH _) w (by omega) ⟨by simp,by simp⟩;have e:aP (.lu 3 J) []=Z (cK []):=xg 3 J;have a:PA s i 0 (DC alt s i) (tw 2 f) k b:=by{refine⟨wB (by have:=h.1;omega) h.2,y,x,?_⟩;unfold DC;cases g:wc alt s (s.size+1) i with|none=>{rw[g]at c;exact c}|some q=>rw[g]at c;obtain⟨v,t,r⟩:=c;subst t r;exact⟨v,rfl,by omega⟩};by_cases d:f.length=1;{obtain⟨p,rfl⟩:=dd.1 d;have n:tw 2 [p]=p:=rfl;rw[n]at a;refine⟨0,p,k,b,by decide,bW t283 rfl ?_,a⟩;simp only[go_sem,t283,e,l,I4,IY,a_ p]};rw[MH d]at a;refine⟨1,_,k,b,by decide,bW t283 rfl ?_,a⟩;simp only[go_sem,t283,e,l,JB,d,a_,eT]
theorem aja{i:Nat}(c:i<=s.size):Er 283 s i 0 2 I O:=by have a:aP (.lu 3 J) []=Z (cK []):=xg 3 J;have b:bG (lB G nX) (0,[E 0,.str ⟨#[]⟩,.str s,E (i:Int),.bool I,cK []])=Z (0,[.bool J,E 0,.str ⟨#[]⟩,.str s,E (i:Int),.bool I,cK []]):=by{refine aK ?_;simp only[go_sem,bc,nX]};refine⟨1,⟨2,eT,[]⟩,i,I,by decide,bW t283 rfl ?_,y_ C0 (by simp) (by simp),aH _,c,rfl⟩;simp only[go_sem,t283,n0,a,b,a_,eT]
theorem OE(H:s.size<=30):∀(g i:Nat) (l:M dD),i<=s.size->s.size+1 - i<=g->Lsx l (i+2)->
  ∃(a:M dD) (k:Nat),bG (lB G oV) (0,[E 0,.str ⟨#[]⟩,.str s,E (i:Int),.bool I,cK l])=Z (0,[.bool J,E 0,.str ⟨#[]⟩,.str s,E (k:Int),.bool I,cK a])/\Lsx a 40/\i<=k/\k<=s.size:=by (have y:s.size<=mg:=by simp only[mg];omega);intro g;induction g with|zero=>{intro i l m B;omega}|succ g x=>intro i l m B c;cases h:iV s i 124 with|false=>{have d:=n5 (b:=I) h;exact⟨l,i,aK (by simp only[go_sem,bc,oV,d]),⟨by have:=c.1;omega,c.2⟩,aH _,m⟩}|true=>have d:=nB (b:=I) y h;have L:=nu h;(have n:l.length<=mg:=by have:=c.1;simp only[mg];omega);have fa:=λop t v=>Kg n op t v;obtain⟨j,p,k,b,A,f,r,K,q,o⟩:=aja (s:=s) (i:=i+1) (by omega);simp only[a_,av,au]at f;have e:b=I:=o;subst e;have go:lB G oV (0,[E 0,.str ⟨#[]⟩,.str s,E (i:Int),.bool I,cK l])=Z (.go (0,[E 0,.str ⟨#[]⟩,.str s,E (k:Int),.bool I,cK (l++[p])])):=by{match j,A with|0,_=>{simp only[go_sem,bc,oV,d,f,u_,qL,fa,cQ]}|1,_=>simp only[go_sem,bc,oV,d,f,qL,fa,cQ]};obtain⟨a,w,F,D,N,C⟩:=x k (l++[p]) q (by omega) (pd c r (by omega));exact⟨a,w,(bD go).trans F,D,by omega,C⟩
theorem aea(o:s.size<=30){i0:Nat}(K:∀j,i0<j->j<=s.size->Er 280 s j 0 2 J (alt j)):∀(g i:Nat) (l:M dD),i0<=i->i<=s.size->s.size+1 - i<=g->Lsx l (i+1)->
  ∃(a:M dD) (k:Nat) (b:Bool),bG (lB G oV) (0,[E 0,.str ⟨#[]⟩,.str s,E (i:Int),.bool J,cK l])=Z (0,[.bool J,E 0,.str ⟨#[]⟩,.str s,E (k:Int),.bool b,cK a])/\RdL i s l (Da alt s g i) a k b:=by (have H:s.size<=mg:=by simp only[mg];omega);intro g;induction g with|zero=>{intro i l _ B L;omega}|succ g F=>intro i l V B L c;simp only[Da];cases m:iV s i 124 with|false=>{have e:=n5 (b:=J) m;simp only[aQ,if_false];refine⟨l,i,J,aK ?_,⟨by have:=c.1;omega,c.2⟩,aH _,B,rfl,by rw[aG],rfl⟩;simp only[go_sem,bc,oV,e]}|true=>have e:=nB (b:=J) H m;have U:=nu m;(have r:l.length<=mg:=by have:=c.1;simp only[mg];omega);have W:=λx=>YQ r x;have fa:=λop t D=>Kg r op t D;simp only[if_true];obtain⟨j,p,k,b,A,h,w,T,v,d⟩:=aoI o (i:=i+1) (by omega) λj A R=>K j (by omega) R;simp only[a_,av,au]at h;have go:lB G oV (0,[E 0,.str ⟨#[]⟩,.str s,E (i:Int),.bool J,cK l])=Z (.go (0,[E 0,.str ⟨#[]⟩,.str s,E (k:Int),.bool b,cK (l++[p])])):=by{match j,A with|0,_=>{simp only[go_sem,bc,oV,e,h,u_,qL,fa,cQ]}|1,_=>simp only[go_sem,bc,oV,e,h,qL,fa,cQ]};cases y:DC alt s (i+1) with|none=>{rw[y]at d;subst d;obtain⟨a,f,P,n,C,N⟩:=OE o (s.size+1) k (l++[p]) v (by omega) (pd c w (by omega));exact⟨a,f,I,(bD go).trans P,n,by omega,N,rfl⟩}|some q=>rw[y]at d;obtain⟨rfl,rfl,S⟩:=d;obtain⟨a,f,Q,n,C⟩:=F k (l++[p]) (by omega) v (by omega) (pd c w (by omega));exact⟨a,f,Q,(bD go).trans n,zC (by omega) C⟩
theorem ai9(v:s.size<=30){i:Nat}(R:i<=s.size)(C:∀j,i<j->j<=s.size->Er 280 s j 0 2 J (alt j)):Er 280 s i 0 2 J (G8 alt s i):=by obtain⟨j,p,k,b,B,g,y,F,x,m⟩:=aoI v R C;simp only[a_,av,au]at g;have L:∃(c:M dD) (a:Nat) (e:Bool),bG (lB G oV) (0,[E 0,.str ⟨#[]⟩,.str s,E (k:Int),.bool b,cK [p]])=Z (0,[.bool J,E 0,.str ⟨#[]⟩,.str s,E (a:Int),.bool e,cK c])/\PA s i 0 (G8 alt s i) (tw 3 c) a e:=by{unfold G8;cases A:DC alt s i with|none=>{rw[A]at m;subst m;obtain⟨c,a,d,l,S,w⟩:=OE v (s.size+1) k [p] x (by omega) ⟨by simp,by simpa using y⟩;exact⟨c,a,I,d,wB (by have:=l.1;omega) l.2,by omega,w,rfl⟩}|some q=>rw[A]at m;obtain⟨rfl,rfl,T⟩:=m;obtain⟨c,a,e,d,l,S,w,r⟩:=aea v C (s.size+1) k [p] F x (by omega) ⟨by simp,by simpa using y⟩;refine⟨c,a,e,d,wB (by have:=l.1;omega) l.2,by omega,w,?_⟩;dsimp only;cases f:Da alt s (s.size+1) k with|none=>{rw[f]at r;exact r}|some q=>rw[f]at r;obtain⟨Q,P,N⟩:=r;subst P N;exact⟨Q,rfl,by omega⟩};obtain⟨c,a,e,d,o⟩:=L;have K:∀(t:Nat×M D) (h:eU G (t280.t) 0 [.str s,E (i:Int),.bool J]=Z t),True:=λ_ _=>trivial;by_cases n:c.length=1;{obtain⟨q,rfl⟩:=dd.1 n;have H:tw 3 [q]=q:=rfl;rw[H]at o;refine⟨0,q,a,e,by decide,bW t280 rfl ?_,o⟩;match j,B with|0,_=>{simp only[go_sem,t280,g,u_,qL,P1,cQ,d,I4,IY,a_ q]}|1,_=>simp only[go_sem,t280,g,qL,P1,cQ,d,I4,IY,a_ q]};rw[MH n]at o;refine⟨1,_,a,e,by decide,bW t280 rfl ?_,o⟩;match j,B with|0,_=>{simp only[go_sem,t280,g,u_,qL,P1,cQ,d,JB,n,a_,eT]}|1,_=>simp only[go_sem,t280,g,qL,P1,cQ,d,JB,n,a_,eT]
theorem ab2(a:s.size<=30):∀(g i:Nat),i<=s.size->s.size+1 - i<=g->Er 280 s i 0 2 J (Xz s g i)
 |0,i,b,c=>by omega
 |g+1,i,b,c=>ai9 a b λj e d=>ab2 a g j d (by omega)
end
theorem aoJ{s:z}:∃j p,j<3/\G 284 [.str s]=Z (j,jz p++[.bool (kT s)])/\∀q,Db s=Z q->p=q/\yZ 64 p=I:=by unfold kT Db;by_cases h:30<s.size;{refine⟨0,⟨0,eT,[]⟩,by decide,bW t284 rfl ?_,λq a=>by rw[if_pos h]at a;cases a⟩;rw[if_pos h];simp only[go_sem,t284,Ad,h,a_,bp];rfl};rw[if_neg h];obtain⟨j,p,k,b,f,c,i,n,m,e⟩:=ab2 (s:=s) (by omega) (s.size+1) 0 (by omega) (by omega);simp only[a_,av,au,n0]at c;cases g:Xz s (s.size+1) 0 with|none=>{rw[g]at e;subst e;refine⟨0,⟨0,eT,[]⟩,by decide,bW t284 rfl ?_,λq a=>by cases a⟩;match j,f with|0,_=>{simp only[go_sem,t284,Ad,h,c,a_,bp];rfl}|1,_=>simp only[go_sem,t284,Ad,h,c,a_,bp];rfl}|some q=>rw[g]at e;obtain⟨rfl,rfl,l⟩:=e;dsimp only;by_cases d:k=s.size;{rw[if_pos d];refine⟨j+1,p,by omega,bW t284 rfl ?_,λq a=>by cases a;exact⟨rfl,i⟩⟩;match j,f with|0,_=>{simp only[go_sem,t284,Ad,h,c,d,a_,bR]}|1,_=>simp only[go_sem,t284,Ad,h,c,d,a_,bR]};rw[if_neg d];refine⟨0,⟨0,eT,[]⟩,by decide,bW t284 rfl ?_,λq a=>by cases a⟩;match j,f with|0,_=>{simp only[go_sem,t284,Ad,Ue,h,c,d,a_,bp];rfl}|1,_=>simp only[go_sem,t284,Ad,Ue,h,c,d,a_,bp];rfl
theorem ajb(s:z):G 285 [.str s]=Z (0,[.bool (kT s)]):=by obtain⟨j,p,b,a,_⟩:=aoJ (s:=s);simp only[a_,av,au]at a;refine bW t285 rfl ?_;match j,b with|0,_=>{simp only[go_sem,t285,a]}|1,_=>{simp only[go_sem,t285,a]}|2,_=>simp only[go_sem,t285,a]
theorem ajd{t s:z}(g:s.size<=mg):G 310 [.str t,.str s]=Z (0,[.bool (yV t s)]):=by obtain⟨j,p,f,a,h⟩:=aoJ (s:=t);simp only[a_,av,au]at a;have Yp:∀b,aP .pl [.bool b]=Z (.bool J):=λb=>rfl;refine bW t310 rfl ?_;unfold yV;cases d:Db t with|none=>{(have e:kT t=J:=by rw[kT,d];rfl);rw[e]at a;match j,f with|0,_=>{simp only[go_sem,t310,a]}|1,_=>{simp only[go_sem,t310,a]}|2,_=>simp only[go_sem,t310,a]}|some q=>(have e:kT t=I:=by rw[kT,d];rfl);obtain⟨rfl,i⟩:=h q d;have c:=asb g i;simp only[a_,av,au]at c;rw[e]at a;match j,f with|0,_=>{simp only[go_sem,t310,a,c,Yp]}|1,_=>{simp only[go_sem,t310,a,c]}|2,_=>simp only[go_sem,t310,a,c,Yp]
def gv(c:Bool)(r:u D):u D:=if c=I then r else Z (.bool J)
def gw(c:Bool)(x:D):D:=if c=I then x else .bool J
@[congr] theorem alQ{c a r b}(h:c=a)(d:a=I->r=b):gv c r=gv a b:=by unfold gv;simp_all
theorem km r:gv J r=Z (.bool J):=(rfl)
def dN c x:gv c (Z x)=Z (gw c x):=by cases c<;>rfl
theorem gE x:gw I x=x:=(rfl)
theorem kZ x:gw J x=.bool J:=(rfl)
def dO c b:gw c (.bool b)=.bool (c && b):=by cases c<;>rfl
def dP G ρ c o es t:ogT (Z c) G o es t ρ=opT (gv c (poT o (jq ρ es))) G t ρ:=by cases c<;>rfl
def alM G ρ c a b:Ye (Z c) G a b ρ=if c=I then Ye (Z I) G a b ρ else Ye (Z J) G a b ρ:=by cases c<;>rfl
def aiI k a b:aP (.bin .eql) [.int k a,.int k b]=Z (.bool (Z' (a=b))):=by rw[AK];rfl
def aiN k a b:aP (.bin .neq) [.int k a,.int k b]=Z (.bool (!Z' (a=b))):=by rw[AK];rfl
def aiM k a b:aP (.bin .lss) [.int k a,.int k b]=Z (.bool (Z' (a<b))):=by rw[AK];rfl
def aiL k a b:aP (.bin .leq) [.int k a,.int k b]=Z (.bool (Z' (a<=b))):=by rw[AK];rfl
def aiK k a b:aP (.bin .gtr) [.int k a,.int k b]=Z (.bool (Z' (b<a))):=by rw[AK];rfl
def aiJ k a b:aP (.bin .geq) [.int k a,.int k b]=Z (.bool (Z' (b<=a))):=by rw[AK];rfl
def aiG k a b:aP (.bin .add) [.int k a,.int k b]=Z (.int k (k.wrap (a+b))):=by rw[AK];rfl
def aiQ k a b:aP (.bin .sub) [.int k a,.int k b]=Z (.int k (k.wrap (a - b))):=by rw[AK];rfl
def aiP a b:aP (.bin .eql) [.str a,.str b]=Z (.bool (Z' (a=b))):=by rw[abO];rfl
def aiO a b:aP (.bin .neq) [.str a,.str b]=Z (.bool (!Z' (a=b))):=by rw[abO];rfl
theorem aiH a b:aP (.Yd .neq) [.bool a,.bool b]=Z (.bool (!Z' (a=b))):=(rfl)
attribute [go_sem 2000] aiI aiN aiM aiL aiK aiJ aiG aiQ aiP aiO aiH
def bq1 a b:(a ||(!a && b))=(a ||b):=by cases a<;>rfl
def bq2 a b:(!a ||(a && b))=(!a ||b):=by cases a<;>rfl
theorem arB k n:aP .pl [.int k n]=Z (.bool J):=(rfl)
theorem arA b:aP .pl [.bool b]=Z (.bool J):=(rfl)
attribute [go_sem] arB arA
theorem Yp(n:Int):aP .pl [E n]=Z (.bool J):=(rfl)
def ahe{l:M aD}{i:Nat}{y:aD}(h:nth l i=Z y):aP (.el 3) [az l,E (i:Int)]=Z (.list 0 J [bh y]):=by rw[j_,aV,h];rfl
def ah5{l:M aD}{y:aD}(a:bO bh l<=mg)(h:y∈l):y.ai.length<=mg/\bO bh y.ai<=mg:=by have a1:=cq bh h;rw[eF]at a1;refine⟨?_,by omega⟩;simp only[bO]at a1 a;omega
end Go.Proofs.YtbnmicpicjmgiaaGreatDoor
