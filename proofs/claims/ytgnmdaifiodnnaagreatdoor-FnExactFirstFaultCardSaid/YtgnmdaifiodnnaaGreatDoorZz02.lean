/- Part of the proof. Condition: none. -/
import Derived.Attr
import Derived.Test.YtgnmdaifiodnnaaGreatDoorZz01
set_option linter.all false
open Array renaming toList_map->mI,replicate->qv,getElem?_eq_none->wH
open Bool renaming and_eq_true->aw,false_eq_true->aL,not_eq_true'->cx,not_false->dh,false_ne_true->dr,not_true->dv,true_and->dw,or_eq_true->dE,or_false->dF,false_and->dH,eq_false_iff->dS,or_true->dZ,and_false->eo,and_true->fF,false_or->fV,and_assoc->iV,and_self->kF,true_or->qS,true->I,false->J
open Int renaming toNat_natCast->cn
open List renaming length_map->aj,nil_append->av,cons_append->ax,length_append->az,append_nil->aH,length_nil->aK,length_cons->aN,mem_cons->aU,mem_append->aZ,replicate->a_,map_cons->bc,append_assoc->bh,take_length->bq,getElem?_eq_some_iff->br,take_zero->bB,all_eq_true->bG,mem_singleton->bO,drop_zero->cj,take_append_drop->ck,map_nil->cA,eq_nil_of_length_eq_zero->cD,nodup_append->cI,all_cons->cK,take_succ_cons->cT,nodup_cons->cU,length_eq_one_iff->dm,mem_map->dx,mem_cons_of_mem->dO,mem_cons_self->dV,getElem?_append_left->eH,drop_length->eI,getElem?_take->fq,ext_getElem?->gq,mem_filter->gF,drop_succ_cons->iq,replicate_succ->ir,length_drop->jK,drop_eq_getElem_cons->kc,length_pos_iff->kK,filter_cons->kN,filter_filter->nO,take_left->oc,getElem?_drop->sw,size_toArray->tH,getElem?_eq_none->xP,drop_drop->zo
open List.cons renaming injEq->cr
open Nat renaming le_refl->aI,le_trans->aV,zero_add->bF,lt_of_lt_of_le->bZ,add_zero->dG,lt_or_ge->ed,mul_le_mul_right->eK,blt->eP,add_assoc->gC,mul_le_mul->gD,blt_eq->jO,ble->jX
open Ne renaming symm->ow
open Option renaming map_eq_some_iff->ay,map_some->aX,isSome_some->bT,isSome_iff_exists->cB,getD_none->cE,getD_some->cJ,bind_some->dR,toList->o8,some->Z,none->O
open Option.some renaming injEq->ao,inj->fQ
open Prod.mk renaming injEq->aP
open UInt8 renaming ofNat->dW
open Decidable renaming decide->Z'
namespace Go.Proofs.YtgnmdaifiodnnaaGreatDoor
section
open Go.RowKit
theorem sc:∀(a:M Nat) (s:St) (q:Nat),look (iu s a).rw q=if q∈a then O else look s.rw q
 |[],s,q=>by simp[iu]
 |r::a,s,q=>by simp only[iu,sc a,St.dP,fO,aU];by_cases h:q∈a;{simp[h]};by_cases b:r=q;{simp[b]};simp[h,b,ow b]
theorem vA:∀(a:M Nat) (s:St),(iu s a).sl=s.sl/\(iu s a).bx=s.bx
 |[],s=>⟨rfl,rfl⟩
 |r::a,s=>by simp only[iu];exact vA a (s.dP r)
theorem qg:∀(a:M Nat) (s:St) (q:Nat),look (gj s a).bx q=if q∈a then O else look s.bx q
 |[],s,q=>by simp[gj]
 |r::a,s,q=>by simp only[gj,qg a,fO,aU];by_cases h:q∈a;{simp[h]};by_cases b:r=q;{simp[b]};simp[h,b,ow b]
theorem pn:∀(a:M Nat) (s:St),(gj s a).sl=s.sl/\(gj s a).rw=s.rw
 |[],s=>⟨rfl,rfl⟩
 |r::a,s=>by simp only[gj];exact pn a _
def Bc.weaken{e c:Gh}{a i:Own->Prop}{w f:World}(h:Bc e a w f)(q:∀g,a (e.ω g)->i (c.ω g))(o:∀g,c.h g<=e.h g):Bc c i w f:=
 ⟨h.os,h.tape,h.output,h.size,λg p l=>h.block g p (λm=>l (q g m)),λg j n=>h.cell g j (bZ n (o g)),h.jq⟩
def iF{P:Program}{F:FuncId}{fn:Func}(d:P.funcs[F]?=Z fn)(e:fn.body.isSome=I)(c:(fn.name == "runtime.NumGoroutine")=J)(args:Array Value)(w:World):(callFunc F args).run P w=.ok (.enter F args) w:=by (have a:¬fn.name = "runtime.NumGoroutine":=by simpa using c);(have b:¬fn.body=O:=by cases h:fn.body<;>simp_all);simp[callFunc,d,a,b]
theorem yi{s:St}:∀(f:M C) {as:M A},wC s f=Z as->∀b∈cN f,∃k,look s.bx b=Z k
 |[],_,_,b,d=>by simp[cN]at d
 |c::f,as,h,b,d=>by simp only[wC]at h;split at h;{rename_i a e;simp only[ay]at h;obtain⟨o,h,_⟩:=h;by_cases l:∃g,c=.ptr g 0;{obtain⟨g,rfl⟩:=l;simp only[cN,aU]at d;rcases d with rfl|d;{simp only[RW]at e;split at e;{rename_i k j;exact⟨k,j⟩};cases e};exact yi f h b d};have i:cN (c::f)=cN f:=by{unfold RW at e;split at e;{rename_i g;exact absurd ⟨g,rfl⟩ l};simp only[ay]at e;obtain⟨n,m,_⟩:=e;have CX:=AL m;cases c<;>simp_all[cN,C.cells,C.cell]};rw[i]at d;exact yi f h b d};cases h
section
variable {P:Program} {γ:Gh} {h0:Nat->Nat} {io:M Nat} {w0:World} {s s':St} {f:Fm} {w:World} {N:Nat} {ty:TypeId} {pos:String} {aft:Array Edge} {gd:u (Nat×Bool)} {K:Fm->World->Prop}
 {cf:Nat->M A->u (M A×M A)} {mf:Nat->Bool->M D->Int->u (M D×Int)}
theorem TQ(hi:Inv γ h0 io w0 s f w){F0:FuncId}{op0:Op}{V:M Value->Array Value}{gn:Nat}{k:M C}{vs:M Value}(hcr:fi γ w k vs){m:u Nat}(y:(execOp (fr f N).eval ⟨m,op0,ty,pos,aft,gd⟩).run P w=.ok (.enter F0 (V vs)) w)
  (mm:∀a r o,cf gn a=Z (r,o)->∀(w:World) (h:Nat->Nat) (vs:M Value) (F:M Nat),w0.heap.size<=w.heap.size->(∀g,g<w0.heap.size->g∉io->w.heap[g]?=w0.heap[g]?)->(∀g∈F,w0.heap.size<=g\/g∈io)->J3 P F0 a r o w h vs F V) (B:nW cf s m gn k=Z s') (h:∀γ' t G,Inv γ' h0 io w0 s' t G->Tr m (qU s k) γ w γ' G f t->K t G) :
  xz P N ⟨m,op0,ty,pos,aft,gd⟩ f w K:=by
 simp only[nW]at B;split at B;{cases B}
 .rename_i cas Vr;split at B
  .rename_i ju;simp only[aw]at ju;obtain⟨⟨Of,Ib⟩,apR⟩:=ju;rw[uw]at Of Ib;split at B;{cases B}
   .rename_i Q outs QL;split at B
    .rename_i ag6;simp only[ao]at B;obtain⟨DB,iS,bS,slS,mS,gS,wS,e1,e2,e3⟩:=hi.zg (il k);(have X:∀r∈dz s k,r∉il k:=by{intro r y p;have:=bG.1 apR r y;simp[p]at this});obtain⟨F,rA,dA,lA,pA⟩:=Es iS bS slS mS e2 gS e3 k hcr Vr (λr y=>y) X Of Ib;(have ltF:∀g∈F,g<w.heap.size:=λg n=>by{rcases lA g n with ⟨r,_,i⟩|⟨b,_,i,_⟩<;>exact (iS.own g (by rw[i];simp)).1});have ioF:∀g∈F,w0.heap.size<=g\/g∈io:=λg n=>by{rcases lA g n with ⟨r,_,i⟩|⟨b,_,i,_⟩<;>exact (iS.own g (by rw[i];simp)).2}
     have sQ:=mm _ _ _ QL w DB.h vs F hi.size hi.frame ioF rA dA ltF iS.fN;unfold xz Oper.wp;rw[y,Oper.upon_enter];refine Calls.mono sQ λe G hp=>?_;obtain⟨v,us,F1,F2,h',rfl,K5,rU,rh,Jg,Vo,qx⟩:=hp;have key:∀(L:Gh) (S:St),Inv L h0 io w0 S f w->L.β=γ.β->(∀g,γ.h g<=L.h g)->(∀g,L.h g<=DB.h g)->(∀g∈F,(∃r∈dz s k,L.ω g=.row r)\/∃b∈cN k,L.ω g=.box b/\g=L.β b)->(∀g,(∃r∈dz s k,L.ω g=.row r)->∃r∈dz s k,γ.ω g=.row r)->(∀g,(∃b∈cN k,L.ω g=.box b)->∃b∈cN k,γ.ω g=.box b)->S.bx=s.bx-> ((Q.all A.closed=I/\outs.all A.closed=I)\/∀g,g<w.heap.size->g∉F->DB.h g<=L.h g)-> ∃t,(fr f N).put m v=fr t N/\K t G\/(iL (m.getD 0) 0 Q (l6 (gj (iu S (dz s k)) (cN k)) k outs)).2.put m (match (iL (m.getD 0) 0 Q (l6 (gj (iu S (dz s k)) (cN k)) k outs)).1 with|[c]=>c|l=>.tw l)≠s':=by
      intro L S iX bX mX mX2 lX aqo aqn ebx R;by_cases W:(iL (m.getD 0) 0 Q (l6 (gj (iu S (dz s k)) (cN k)) k outs)).2.put m (match (iL (m.getD 0) 0 Q (l6 (gj (iu S (dz s k)) (cN k)) k outs)).1 with|[c]=>c|l=>.tw l)=s'
      .have i1:Inv L h0 io w0 (gj (iu S (dz s k)) (cN k)) f w:=iX.sub
        (λd c p=>by rw[(pn _ _).1,(vA _ _).1]at p;exact p)
        (λd c p=>by
         rw[qg,(vA _ _).2]at p
         split at p
         .cases p
         .exact p)
        (λd c p=>by
         rw[(pn _ _).2,sc]at p
         split at p
         .cases p
         .exact p)
       obtain⟨va,Y,i2,b2,AO,m2,k2,n2,o2,x2,f2⟩:=i1.after (mv:=dz s k) (bs:=cN k) qx mX2 (λg n=>by rcases lX g n with i|⟨b,x,i,_⟩;{exact .inl i};exact .inr ⟨b,x,i⟩) (λr y=>by rw[(pn _ _).2,sc,if_pos y]) (λb x=>by rw[qg,if_pos x]) (λg n b x=>by rcases lX g n with ⟨r,_,i⟩|⟨b',mJ,i,H⟩;{rw[i]at x;cases x};have j:=pA b' mJ;rw[bS,<- bX,<- H]at j;exact (rh.ptr g j).1);have heq:∀g∈F1++F2,Y.h g=h' g:=λg n=>n2 g (Vo g n).1;(have hle:(Q.all A.closed=I/\outs.all A.closed=I)\/∀g,h' g<=Y.h g:=by{rcases R with R|R;{exact .inl R};refine .inr λg=>?_;rcases ed g w.heap.size with i|i;{by_cases H:g∈F;{rw[n2 g (.inr H)];exact aI _};rw[k2 g i H,qx.hold g i H];exact R g i H};rw[n2 g (.inl i)];exact aI _});have aak:kg Y.h G outs (ft cas vs) F2:=rh.re (λg n=>heq g (by simp[n])) (hle.imp (λh=>h.2) id);have ado:kg Y.h G Q us F1:=rU.re (λg n=>heq g (by simp[n])) (hle.imp (λh=>h.1) id);(have afy:∀g∈F1++F2,(Y.ω g=.free\/Y.ω g=.fK\/Value.pointer (Z ⟨g,0,O⟩)∈ft cas vs)/\g<G.heap.size/\(w0.heap.size<=g\/g∈io):=by{intro g n;obtain⟨i,H⟩:=Vo g n;rcases i with i|i;{exact⟨.inl (f2 g i),H,.inl (aV hi.size i)⟩};rcases lX g i with j|⟨b,x,j,h4⟩;{have ho:=o2 g i j;exact⟨.inr (.inl ho),H,(i2.own g (by rw[ho];simp)).2⟩};have ho:=x2 g b j;refine⟨.inr (.inr ?_),H,(i2.own g (by rw[ho];simp)).2⟩;have h5:=pA b x;rw[bS,<- bX,<- h4]at h5;exact h5});rw[cI]at Jg;obtain⟨Ag,Oe,xE⟩:=Jg;obtain⟨n9,i3,b3,j,o3⟩:=CL k (s':=s) i2 (by rw[b2,bX];exact hcr.mG) Vr aak Oe (λg n=>afy g (by simp[n])) (λb x=>by obtain⟨XR,hbl⟩:=yi k Vr b x;obtain⟨T,us',_,_,k3⟩:=iX.bx b XR (by rw[ebx];exact hbl);rw[b2];exact x2 _ b k3);obtain⟨PU,i4,c4,b4,h4,_⟩:=AM (d:=m.getD 0) Q 0 i3 (by rw[j];exact ado) Ag (λg n=>by obtain⟨U,k2',k3⟩:=afy g (by simp[n]);have iG:g∉F2:=λh=>xE g n g h rfl;refine⟨?_,k2',k3⟩;rw[o3 g iG];rcases U with U|U|U;{exact .inl U};{exact .inr U};exact absurd (aak.ptr g U).2 iG) (λa ha=>by have hs:=bG.1 ag6 a ha;cases a with|val ag vs=>{exact⟨ag,vs,rfl,by simpa [A.short] using hs⟩}|box vs=>simp[A.short]at hs);(have Tf:CR PU G (match (iL (m.getD 0) 0 Q (l6 (gj (iu S (dz s k)) (cN k)) k outs)).1 with|[c]=>c|l=>.tw l) v:=by{generalize (iL (m.getD 0) 0 Q (l6 (gj (iu S (dz s k)) (cN k)) k outs)).1=l at c4;have p:=c4.length;rcases K5 with rfl|⟨iG,rfl⟩;{cases l with|nil=>{simp at p}|cons c l=>cases l with|nil=>{exact BH c4}|cons c' l=>simp at p};split;{rename_i c;simp at p;exact absurd p iG};simp only[CR];exact⟨us,rfl,c4⟩});(have htr:∀t:Fm,FOk m f t->Tr m (qU s k) γ w PU G f t:=λt hfo=>by{refine⟨va.weaken (λg n=>?_) mX,λb _=>by rw[b4,b3,b2,bX],λg=>by rw[h4,j];exact aV (mX g) (m2 g),hfo⟩;simp only[qU];rcases n with ⟨r,y,h5⟩|⟨b,x,h5⟩;{obtain⟨r',MM,h6⟩:=aqo g ⟨r,y,h5⟩;exact⟨r',by simp[MM],.inr h6⟩};obtain⟨b',mJ,h6⟩:=aqn g ⟨b,x,h5⟩;exact⟨b',by simp[mJ],.inl h6⟩});cases m with|none=>{refine⟨f,.inl ⟨rfl,h PU f G ?_ (htr _ .skip)⟩⟩;rw[<- W];exact i4}|some d=>refine⟨Iu f d v,.inl ⟨rT f N d v,h PU _ G ?_ (htr _ .put)⟩⟩;rw[<- W];exact i4.put d _ v Tf
      exact⟨f,.inr W⟩
     (have lG:∀g∈F,(∃r∈dz s k,γ.ω g=.row r)\/∃b∈cN k,γ.ω g=.box b/\g=γ.β b:=by{intro g n;rcases lA g n with ⟨r,y,i⟩|⟨b,x,i,H⟩;{rcases wS g with j|j|j|⟨q,hq,j⟩;{exact .inl ⟨r,y,j.symm.trans i⟩};{rw[i]at j;cases j};{rw[i]at j;cases j};rw[i]at j;cases j;exact absurd hq (X r y)};rcases wS g with j|j|j|⟨q,hq,j⟩;{exact .inr ⟨b,x,j.symm.trans i,by rw[<- bS];exact H⟩};{rw[i]at j;cases j};{rw[i]at j;cases j};rw[i]at j;cases j});(have fin:∃t,(fr f N).put m v=fr t N/\K t G:=by{by_cases R:(Q.all A.closed && outs.all A.closed)=I;{rw[if_pos R]at B;rw[aw]at R;obtain⟨t,i|i⟩:=key γ s hi rfl (λ_=>aI _) mS lG (λ_ h=>h) (λ_ h=>h) rfl (.inl R);{exact⟨t,i⟩};exact absurd B i};rw[if_neg R]at B;obtain⟨t,i|i⟩:=key DB (eM s (il k)) iS bS mS (λ_=>aI _) lA (λg ⟨r,y,i⟩=>by rcases wS g with j|j|j|⟨q,hq,j⟩;{exact⟨r,y,j.symm.trans i⟩};{rw[i]at j;cases j};{rw[i]at j;cases j};rw[i]at j;cases j;exact absurd hq (X r y)) (λg ⟨b,x,i⟩=>by rcases wS g with j|j|j|⟨q,hq,j⟩;{exact⟨b,x,j.symm.trans i⟩};{rw[i]at j;cases j};{rw[i]at j;cases j};rw[i]at j;cases j) e2 (.inr λ_ _ _=>aI _);{exact⟨t,i⟩};exact absurd B i});exact fin
    cases B
  cases B
theorem ahF(k:Inv γ h0 io w0 s f w){j:FuncId}{fn:Func}(m:P.funcs[j]?=Z fn)(t:fn.body.isSome=I)(n:(fn.name == "runtime.NumGoroutine")=J){as:Array Operand}{c:M KX}{ts:Array TypeId}{e:Nat}(q:GP N as.toList c=I)
  (p:∀a r o,cf e a=Z (r,o)->yd w0 io P j a r o) {dst:u Nat} (l:ml cf mf s dst (.call e c)=Z s') (h:∀b g d,Inv b h0 io w0 s' g d->Tr dst (gm s dst (.call e c)) γ w b d f g->K g d) :
  xz P N ⟨dst,.call {callee:=.value (.func j),args:=as,argTypes:=ts },ty,pos,aft,gd⟩ f w K:=by simp only[ml]at l;(have i:as.map (fr f N).eval=(as.toList.map (fr f N).eval).toArray:=by apply Array.ext';rw[mI]);exact TQ (V:=List.toArray) k (AA k _ _ q) (zn (ρ:=(fr f N).eval) (dst:=dst) (ty:=ty) (pos:=pos) (aft:=aft) (gd:=gd) (w:=w) (ts:=ts) (iF m t n) rfl i) p l h
theorem YK(F:Nat):∀(a:M Nat),fi γ w (a.map λb=>.ptr b 0) (a.map λb=>Value.pointer (Z ⟨γ.β b,0,O⟩))
 |[]=>by simp only[cA,fi]
 |b::a=>by simp only[bc,fi];exact⟨_,_,rfl,by simp only[CR],YK F a⟩
theorem amA(m:Inv γ h0 io w0 s f w){t:FuncId}{fn:Func}(B:P.funcs[t]?=Z fn)(S:fn.body.isSome=I)(C:(fn.name == "runtime.NumGoroutine")=J){x y:Operand}{kx l:KX}{ts:Array TypeId}{k:Bool}{g F:Nat}(Q:lS N x kx=I)(L:lS N y l=I)
  (H:∀a r o,yh k (cf g) a=Z (r,o)->afg w0 io P t F a r o) {dst:u Nat} (c:ml cf mf s dst (.MI k g F kx l)=Z s') (h:∀d p i,Inv d h0 io w0 s' p i->Tr dst (gm s dst (.MI k g F kx l)) γ w d i f p->K p i) :
  xz P N ⟨dst,.call {callee:=.value (.func t),args:=#[x,y],argTypes:=ts },ty,pos,aft,gd⟩ f w K:=by simp only[ml]at c;have G:=cZ m Q;have j:=cZ m L;split at c;{rename_i T q v;split at c;{rename_i R;subst R;rw[v]at j;simp only[CR]at j;have n:fi γ w (gG s kx::q.map λb=>.ptr b 0) ((fr f N).eval x::q.map λb=>Value.pointer (Z ⟨γ.β b,0,O⟩)):=by{simp only[fi];exact⟨_,_,rfl,G,YK 0 q⟩};refine TQ (V:=agq T) m n (zn (ρ:=(fr f N).eval) (dst:=dst) (ty:=ty) (pos:=pos) (aft:=aft) (gd:=gd) (w:=w) (ts:=ts) (iF B S C) rfl ?_) (λa r o e=>H a r o e) c (by simpa only [gm,v] using h);simp only[agq,List.map_toArray,bc,cA,j]};cases c};cases c
theorem acI{s:St}:∀(d:M C) {as:M A},wC s d=Z as->as.all A.isVal=I->dz s d=[]/\cN d=[]
 |[],_,_,_=>⟨rfl,rfl⟩
 |c::d,as,h,g=>by simp only[wC]at h;split at h;{rename_i a b;simp only[ay]at h;obtain⟨n,h,rfl⟩:=h;rw[cK,aw]at g;obtain⟨m,l⟩:=acI d h g.2;by_cases i:∃e,c=.ptr e 0;{obtain⟨e,rfl⟩:=i;simp only[RW]at b;split at b;{simp only[ay]at b;obtain⟨j,_,rfl⟩:=b;exact absurd g.1 (by simp[A.isVal])};cases b};unfold RW at b;split at b;{rename_i e;exact absurd ⟨e,rfl⟩ i};simp only[ay]at b;obtain⟨j,k,_⟩:=b;have CX:=AL k;cases c<;>simp_all[cN,C.cells,C.cell,dz,oH]};cases h
theorem BM{b:Nat}:∀(vs:M RV) (j:Nat) (s:St),C.jS b (er (b+500) j vs s).1=(er (b+500) j vs s).1
 |[],j,s=>by simp[er,C.jS]
 | .d x::vs,j,s=>by simp only[er,C.jS,C.kill,BM vs (j+1) s]
 | .row x::vs,j,s=>by (have h:vm (b+500) j≠b:=by unfold vm;omega);simp only[er,C.jS,C.kill,BM vs (j+1),if_neg h]
theorem amz(p:Inv γ h0 io w0 s f w){F0:FuncId}{fn:Func}(yr:P.funcs[F0]?=Z fn)(Fc:fn.body.isSome=I)(uR:(fn.name == "runtime.NumGoroutine")=J){as:Array Operand}{C:M KX}{ts:Array TypeId}{gn:Nat}(R:GP N as.toList C=I)
  (mm:∀a r o,cf gn a=Z (r,o)->yd w0 io P F0 a r o) {dst:u Nat} (j:ml cf mf s dst (.cbx gn C)=Z s') (h:∀m X k,Inv m h0 io w0 s' X k->Tr dst dst.toList γ w m k f X->K X k) :
  xz P N ⟨dst,.call {callee:=.value (.func F0),args:=as,argTypes:=ts },ty,pos,aft,gd⟩ f w K:=by simp only[ml]at j;split at j;{rename_i b cas Vr;split at j;{rename_i Fq;split at j;{rename_i n QL;simp only[ao]at j;generalize Dm:C.map (gG s)=cs at *;(have W:fi γ w cs (as.toList.map (fr f N).eval):=by rw[<- Dm];exact AA p _ _ R);generalize Ie:as.toList.map (fr f N).eval=vs at *;obtain⟨DB,L,bS,G,H,gS,wS,e1,e2,e3⟩:=p.zg (il cs);obtain⟨l,q⟩:=acI cs Vr Fq;obtain⟨F,rA,dA,lA,pA⟩:=Es L bS G H e2 gS e3 cs W Vr (λr i=>i) (by rw[l];simp) (by rw[l];simp) (by rw[q];simp);have hF:F=[]:=by{cases F with|nil=>{rfl}|cons g F=>rcases lA g (by simp) with ⟨r,i,_⟩|⟨b,hb,_⟩;{rw[l]at i;cases i};rw[q]at hb;cases hb};subst hF;have sQ:=mm _ _ _ QL w DB.h vs [] p.size p.frame (λ_ h=>by cases h) rA dA (λ_ h=>by cases h) L.fN;(have aha:as.map (fr f N).eval=vs.toArray:=by rw[<- Ie];apply Array.ext';rw[mI]);have i:=zn (ρ:=(fr f N).eval) (dst:=Z b) (ty:=ty) (pos:=pos) (aft:=aft) (gd:=gd) (w:=w) (ts:=ts) (iF yr Fc uR) rfl aha;unfold xz Oper.wp;rw[i,Oper.upon_enter];refine Calls.mono sQ λe k hp=>?_;obtain⟨v,us,F1,F2,h',rfl,K5,rU,rh,Jg,Vo,qx⟩:=hp;obtain⟨va,B,i2,b2,AO,m2,k2,n2,o2,x2,f2⟩:=L.after (mv:=[]) (bs:=[]) qx (λ_=>aI _) (λ_ h=>by cases h) (λ_ h=>by cases h) (λ_ h=>by cases h) (λ_ h=>by cases h);simp only[kg]at rh;obtain⟨_,rfl⟩:=rh;rw[aH]at Jg Vo;have S:∀g,h' g<=B.h g:=λg=>by{rcases ed g w.heap.size with c|c;{rw[k2 g c (by simp),qx.hold g c (by simp)];exact aI _};rw[n2 g (.inl c)];exact aI _};have t:kg B.h k [.box n] us F1:=rU.re (λg V=>n2 g (Vo g V).1) (.inr S);have KN:∀g∈F1,(B.ω g=.free\/B.ω g=.fK)/\g<k.heap.size/\(w0.heap.size<=g\/g∈io):=λg V=>by{obtain⟨c,h2⟩:=Vo g V;rcases c with c|c;{exact⟨.inl (f2 g c),h2,.inl (aV p.size c)⟩};cases c};simp only[kg,AR]at t;obtain⟨v0,us',Fa,Fb,rfl,rfl,⟨g,T,ws,F',rfl,hB,DZ,rfl,Y⟩,rfl,rfl⟩:=t;rw[aH]at Jg KN;obtain⟨U,ju⟩:=cU.1 Jg;have hv:v=.pointer (Z ⟨g,0,O⟩):=by{rcases K5 with c|⟨c,_⟩;{simpa using c.symm};simp at c};subst hv;obtain⟨n9,i3,c3,b3,h3,o3,s3⟩:=nk (d:=b+500) n 0 i2 Y ju (λy Q=>KN y (by simp[Q]));have gg:=KN g (by simp);obtain⟨PU,i4,j4,k4,l4,m4,w4⟩:=i3.J6 (b:=b) hB (by rw[o3 g U];exact gg.1) gg.2.2 (by rw[h3];exact DZ) c3;rw[BM]at i4;have i5:=i4.put b (.ptr b 0) (.pointer (Z ⟨g,0,O⟩)) (by simp only[CR,j4]);refine⟨Iu f b (.pointer (Z ⟨g,0,O⟩)),rT f N b _,h PU _ k ?_ ⟨va.weaken (λy Q=>?_) H,λx R=>?_,λy=>?_,.put⟩⟩;{rw[<- j];exact i5};{rcases Q with ⟨r,i,_⟩|⟨r,i,_⟩<;>cases i};{rw[k4 x (λe=>R (by rw[e])),b3,b2,bS]};rw[l4,h3];exact aV (H y) (m2 y)};cases j};cases j};cases j
end
end
section
open Go.RowKit
section
variable {P:Program} {γ:Gh} {h0:Nat->Nat} {io:M Nat} {w0:World} {s s':St} {f:Fm} {w:World} {N:Nat} {ty:TypeId} {pos:String} {aft:Array Edge} {gd:u (Nat×Bool)} {K:Fm->World->Prop}
 {cf:Nat->M A->u (M A×M A)} {mf:Nat->Bool->M D->Int->u (M D×Int)}
theorem amB(Q:Inv γ h0 io w0 s f w){T T' p:TypeId}{k:Nat}{x y:Operand}{a b:KX}{d:Nat}(hU:P.underlying T=Z (.slice p))(hS:qn P p=Z k)(hx:lS N x a=I)(hy:lS N y b=I)(B:ml cf mf s (Z d) (.IT k a b)=Z s')
  (h:∀U f' w',Inv U h0 io w0 s' f' w'->Tr (Z d) (gm s (Z d) (.IT k a b)) γ w U w' f f'->K f' w') :
  xz P N ⟨Z d,.call {callee:=.builtin .copy,args:=#[x,y],argTypes:=#[T,T'] },ty,pos,aft,gd⟩ f w K:=by
 have Y:=cZ Q hx;have L:=cZ Q hy;simp only[ml]at B;split at B
 .rename_i d0 r k' wU es QM V hyb;cases QM;rw[V]at Y;rw[hyb]at L;simp only[CR,Rp]at Y L;obtain⟨F,⟨A2,m,c2,y1,y2,y3,y4,y5,y6,y7,y8⟩,jv⟩:=L;split at B
  .rename_i row hl;split at B
   .rename_i hc;obtain⟨rfl,rfl,rfl,hrf,Tg,vb,hle⟩:=hc;simp only[ao]at B;subst B;obtain⟨n9,A,n,c,i2,b2,AO,W,o2,l2,q1,q2,q3,q4,q5,q6,q7,q8⟩:=Q.AD hl;have ri:(fr f N).eval x=.slice A n c:=Y.1.trans q1;(have hrX:r∈gm s (Z d) (.IT row.k a b):=by simp[gm,V,rowsOf]);(have uR:n=m:=by omega);subst uR;have Fc:IntKind.i64.wrap (n:Int)=(n:Int):=iI (by simp only[maxLen]at q4;omega);(have nR:∀{w':World},(Builtin.copy_ #[T,T'] ty #[(fr f N).eval x,(fr f N).eval y]).run P w=.ok (.int .i64 n) w'->(execOp (fr f N).eval ⟨Z d,.call {callee:=.builtin .copy,args:=#[x,y],argTypes:=#[T,T'] },ty,pos,aft,gd⟩).run P w=.ok (.value (.int .i64 n)) w':=by{intro w' hr;simp[execOp,resolve,invoke,builtin,hr]});have qz:goInt n=.int .i64 (n:Int):=rfl;rcases y8 with ⟨y8,rfl⟩|⟨K3,bb,oo,t,G2,rfl,rfl,C,a3'⟩
    .have HP:es=[]:=cD (by omega);have hre:row.es=[]:=cD (by omega);subst y8;refine Cq (nR (w':=w) ?_) ?_;{rw[ri,y1];cases A<;>cases A2<;>simp[Builtin.copy_,run_underlying hU,run_sizeOf hS,Builtin.lenOf,Builtin.firstCells,loadCells,loadCellsFrom,storeCells,goInt]}
     .have e1:s.setRow r {row with es:=es }=s.setRow r row:=by rw[HP,<- hre]
      have i3:Inv γ h0 io w0 (s.setRow r row) f w:={Q with
       rw:=λq e H=>by
        simp only[St.setRow,look]at H;by_cases hq:r=q
        .subst hq;simp at H;subst H;exact Q.rw r row hl
        .rw[if_neg hq,fO]at H
         split at H
         .cases H
         .exact Q.rw q e H }
      (have e2:es.length=0:=by rw[HP];rfl);refine h γ _ w ?_ ⟨Bc.refl _ _ _,λ_ _=>rfl,λ_=>aI _,.put⟩;rw[e1,e2];exact i3.put d _ _ (jC rfl)
    .have hG2:G2=[]:=C.plain (y5 rfl);subst hG2;rcases q8 with ⟨rfl,rfl⟩|⟨g,o,xs,G,rfl,a2,a3,a4,a5,a6,a7,a8,a9,xA,a11,a12⟩;{omega};obtain⟨rfl,S,vs,hB,MN⟩:=xA vb;have hG:G=[]:=a6.plain (q7 hrf);subst hG;have X:γ.h g=0:=a9 Tg;(have hl2:t.length=n * row.k:=by rw[g_.length es C y7,y2]);have hck:n * row.k<=c * row.k:=eK _ q3;have ag4:=C.vR;have hf:=run_firstCells_some (P:=P) w row.k n ⟨bb,oo,O⟩ n c2 t hl2 (λj v hv=>by rw[rK];exact a3' j v hv);have nY:=nK (P:=P) (o:=0) t 0 w vs hB (by omega) ag4;simp only[dG]at nY;refine Cq (nR (w':=jD w g (.cells (eE vs 0 t).toArray S (0,0))) ?_) ?_;{rw[ri,y1];simp[Builtin.copy_,run_underlying hU,run_sizeOf hS,Builtin.lenOf,hf,nY,goInt]};have nC:=Yi.jD w g (eE vs 0 t).toArray S;have va:Bc γ (λo=>∃i∈gm s (Z d) (.IT row.k a b),o=.box i\/o=.row i) w _:=od Q nC ⟨r,hrX,.inr a3⟩ (λj hj=>by rw[X]at hj;omega);have h5:=i2.Yl (od i2 nC (M:=λo=>o=.fK) a4 (λj hj=>by rw[W,X]at hj;omega)) (by simp) (λb R=>by cases R) (λr hr=>by cases hr);(have ag7:eE vs 0 t=t++vs.drop t.length:=by simp[eE]);have jm:jZ (jD w g (.cells (eE vs 0 t).toArray S (0,0))) g 0 t:=by{have h7:=(hB.mN S (eE vs 0 t)).W0;intro j l hu;refine h7 j l ?_;rw[ag7,eH (br.1 hu).1];exact hu}
     have MM:g_ (jD w g (.cells (eE vs 0 t).toArray S (0,0))) es t []:=C.ez _ (λbe R=>by simp at R);obtain⟨PU,h6,h7,h8,h9,_,_⟩:=h5.wM (r:=r) (x:={row with es:=es }) (n:=n) (c:=c) (g:=g) (o:=0) y2 q3 q4 q5 y7 (λ_=>y5 rfl)
      (by rw[iD];exact a2) (.inl a4) (i2.own g (by rw[a4];simp)).2 ⟨by rw[iD];omega,nC.fz⟩ MM jm (by rw[W,X];omega) (λ_=>by rw[W,X]) (λ_=>⟨rfl,S,_,hB.mN S _,by rw[zh (by omega)];exact MN⟩)
      (λbe R=>by simp at R) (λ_=>⟨by simp,λbe R=>by simp at R⟩) (by rw[AO];exact q1)
     (have e6:(s.dP r).setRow r {row with es:=es }=s.setRow r {row with es:=es }:=by{(have:sy (sy s.rw r) r=sy s.rw r:=by simp[sy,nO]);simp[St.setRow,St.dP,this]});rw[e6]at h6;refine h PU _ _ ?_ ⟨va,λ_ _=>by rw[h8,b2],λe=>by have:=h9 e;rw[W]at this;exact this,.put⟩;rw[<- y2];exact h6.put d _ _ (jC Fc)
   cases B
  cases B
 cases B
end
end
section
open Go.RowKit
def P6(P:Program)(F:FuncId):Prop:=
 ∀(w:World) (g:Nat) (T:TypeId) (a es:M Bool) (c:Nat) (b o m f:Nat) (rest:M Value),nt w g T (a.map Value.bool++rest)->jZ w b o (es.map Value.bool)->b≠g->es.length=a.length->a.length<=maxLen->
  Calls P F #[.slice (Z ⟨g,0,O⟩) a.length c,.slice (Z ⟨b,o,O⟩) es.length f] w λe d=>e=.returned (.bool (nB a es))/\d=jD w g (.cells ((dN a es).map Value.bool++rest).toArray T (0,0))
def ajX(P:Program)(F:FuncId)(ins:Bool):Prop:=
 ∀(w:World) (A:u Addr) (n c a b m:Nat) (k:Value) (xs h:M Value),n<=c->c<=maxLen->a<=b->b<=n->(n+m) * 56<=room->xs.length=n * 3->h.length=m * 3->(∀v∈xs++h,one v=I)->
  ((A=O/\c=0)\/∃g T vs,A=Z ⟨g,0,O⟩/\nt w g T vs/\vs.length=c * 3/\vs.take (n * 3)=xs)->
  (if ins=I then a=b/\0<m/\∃q l T d,k=.slice (Z ⟨q,0,O⟩) m l/\nt w q T d/\d.length=l * 3/\d.take (m * 3)=h/\m<=l/\∀g,A=Z ⟨g,0,O⟩->q≠g else a<b/\m=0/\k=.int .i64 b)->
  Calls P F #[.slice A n c,.int .i64 a,k] w λe i=>∃f j o d,e=.returned (.slice (Z ⟨f,0,O⟩) (n - (b - a)+m) j)/\n - (b - a)+m<=j/\j<=maxLen/\nt i f o d/\d.length=j * 3/\
   d.take ((n - (b - a)+m) * 3)=xs.take (a * 3)++h++xs.drop (b * 3)/\((A=Z ⟨f,0,O⟩/\Yi f w i)\/(f=w.heap.size/\i.heap.size=w.heap.size+1/\J2 w.heap.size w i))
def Ye(P:Program)(C:FuncId)(d:Bool):Prop:=
 ∀(b:World) (io:M Nat) (F:FuncId) (fn:Func) (c:M A->u (M A×M A)),P.funcs[F]?=Z fn->fn.body.isSome=I->(fn.name == "runtime.NumGoroutine")=J->(∀a r o,c a=Z (r,o)->yd b io P F a r o)->∀a r o,yh d c a=Z (r,o)->afg b io P C F a r o
def Yk(P:Program)(num:Nat->FuncId):Prop:=
 (num 9004≠1000000->P6 P (num 9004))/\(∀ins:Bool,num (if ins=I then 9006 else 9005)≠1000000->ajX P (num (if ins=I then 9006 else 9005)) ins)/\∀a:Bool,num (if a=I then 9007 else 9008)≠1000000->Ye P (num (if a=I then 9007 else 9008)) a
def Cts(b:World)(c:M Nat)(P:Program)(num:Nat->FuncId)(d:Nat->M A->u (M A×M A)):Prop:=
 (∀g a r o,d g a=Z (r,o)->yd b c P (num g) a r o)/\Yk P num
section
variable {P:Program} {γ:Gh} {h0:Nat->Nat} {io:M Nat} {w0:World} {s s':St} {f:Fm} {w:World} {N:Nat} {ty:TypeId} {pos:String} {aft:Array Edge} {gd:u (Nat×Bool)} {K:Fm->World->Prop}
 {cf:Nat->M A->u (M A×M A)} {mf:Nat->Bool->M D->Int->u (M D×Int)}
def Gh.iQ(γ:Gh)(q i:Nat):Gh:=⟨γ.h,γ.β,λr=>if r=i then γ.sl q else γ.sl r,λg=>if γ.ω g=.row q then .row i else γ.ω g⟩
mutual
theorem CR.iQ(γ:Gh)(w:World)(q i:Nat):∀(c:C) {v:Value},CR γ w c v->CR (γ.iQ q i) w (c.iQ q i) v
 | .d x,v,h=>by simp only[CR,C.iQ,Gh.iQ]at h ⊢;exact h
 | .nil k t,v,h=>by simp only[CR,C.iQ]at h ⊢;exact h
 | .ref r,v,h=>by simp only[CR]at h;simp only[C.iQ];split;{rename_i e;subst e;simp only[CR,Gh.iQ,if_true];exact h};split;{simp only[CR]};rename_i p l;simp only[CR,Gh.iQ,if_neg l];exact h
 | .ptr b o,v,h=>by simp only[CR,C.iQ,Gh.iQ]at h ⊢;exact h
 | .pG r k a o,v,h=>by simp only[CR]at h;simp only[C.iQ];split;{rename_i e;subst e;simp only[CR,Gh.iQ,if_true];exact h};split;{simp only[CR]};rename_i p l;simp only[CR,Gh.iQ,if_neg l];exact h
 | .vi cs,v,h=>by simp only[CR,C.iQ,Gh.iQ]at h ⊢;exact h
 | .agg cs,v,h=>by simp only[CR,C.iQ]at h ⊢;obtain⟨vs,j,g⟩:=h;exact⟨vs,j,fi.iQ γ w q i cs g⟩
 | .tw cs,v,h=>by simp only[CR,C.iQ]at h ⊢;obtain⟨vs,j,g⟩:=h;exact⟨vs,j,fi.iQ γ w q i cs g⟩
 | .fn F y,v,h=>by simp only[CR,C.iQ,Gh.iQ]at h ⊢;exact h
 | .wD,v,h=>by simp only[CR,C.iQ]at h ⊢;exact h
 | .any,v,h=>by simp only[CR,C.iQ]
theorem fi.iQ(γ:Gh)(w:World)(q i:Nat):∀(cs:List C) {vs:List Value},fi γ w cs vs->fi (γ.iQ q i) w (C.Cx q i cs) vs
 |[],vs,h=>by simp only[fi,C.Cx]at h ⊢;exact h
 |c::cs,vs,h=>by simp only[fi,C.Cx]at h ⊢;obtain⟨v,n,j,g,m⟩:=h;exact⟨v,n,j,CR.iQ γ w q i c g,fi.iQ γ w q i cs m⟩
end
theorem W2(q i:Nat)(l:M (Nat×C))(d:Nat):look (abH q i l) d=(look l d).map (C.iQ q i):=by induction l with|nil=>{rfl}|cons p l a=>obtain⟨k,x⟩:=p;unfold abH at a ⊢;simp only[bc,look,a];split<;>rfl
theorem W1(q i:Nat)(l:M (Nat×M C))(d:Nat):look (abG q i l) d=(look l d).map (C.Cx q i):=by induction l with|nil=>{rfl}|cons p l a=>obtain⟨k,x⟩:=p;unfold abG at a ⊢;simp only[bc,look,a];split<;>rfl
theorem Inv.iQ(j:Inv γ h0 io w0 s f w){q i:Nat}{row:Row}(B:look s.rw q=Z row):Inv (γ.iQ q i) h0 io w0 (s.iQ q i row) f w:={j with
 sl:=λd c h=>by simp only[St.iQ,W2,ay]at h;obtain⟨t,l,rfl⟩:=h;exact CR.iQ γ w q i t (j.sl d t l)
 bx:=λb G h=>by simp only[St.iQ,W1,ay]at h;obtain⟨p,l,rfl⟩:=h;obtain⟨T,vs,n,m,C⟩:=j.bx b p l;exact⟨T,vs,n,fi.iQ γ w q i p m,by simp[Gh.iQ,C]⟩
 rw:=λr x h=>by simp only[St.iQ,look]at h;by_cases o:i=r;{subst o;simp only[if_true,ao]at h;subst h;obtain⟨F,l,n,m⟩:=j.rw q row B;exact⟨F,by simp only[Gh.iQ,if_true];exact l,n,λg a=>by simp[Gh.iQ,m g a]⟩};rw[if_neg o,fO,if_neg o,fO]at h;split at h;{cases h};rename_i y;obtain⟨F,l,n,m⟩:=j.rw r x h;exact⟨F,by simp only[Gh.iQ,if_neg (ow o)];exact l,n,λg a=>by simp[Gh.iQ,m g a,ow y]⟩
 own:=λg a=>j.own g (λe=>a (by simp[Gh.iQ,e]))
 nQ:=λg b a=>j.nQ g b (by
  simp only[Gh.iQ]at a
  split at a
  .cases a
  .exact a) }
theorem afS(g:Inv γ h0 io w0 s f w){op:Op}{x:Operand}{y:KX}{d:Nat}(p:op=.assign x\/op=.move x)(n:lS N x y=I)(a:ml cf mf s (Z d) (.TO y)=Z s')
  (h:∀b j e,Inv b h0 io w0 s' j e->Tr (Z d) (gm s (Z d) (.TO y)) γ w b e f j->K j e):xz P N ⟨Z d,op,ty,pos,aft,gd⟩ f w K:=by have c:=cZ g n;have l:(execOp (fr f N).eval ⟨Z d,op,ty,pos,aft,gd⟩).run P w=.ok (.value ((fr f N).eval x)) w:=by{rcases p with rfl|rfl;{exact fp rfl};exact ew rfl};refine cF l ?_;simp only[ml]at a;split at a;{rename_i q k;rw[k]at c;split at a;{rename_i row o;simp only[ao]at a;subst a;have m:=g.iQ (i:=vm d 0) o;exact h _ _ _ (m.put d (.ref (vm d 0)) _ (by simp only[CR]at c ⊢;simpa [Gh.iQ] using c)) ⟨Bc.refl _ _ _,λ_ _=>rfl,λ_=>aI _,.put⟩};cases a};rename_i k;simp only[ao]at a;subst a;exact h _ _ _ (g.put d _ _ c) ⟨Bc.refl _ _ _,λ_ _=>rfl,λ_=>aI _,.put⟩
theorem Bi:∀(es:M (M D)) {c:M Bool} {d:M Value} {G:Fp},lg es=Z c->g_ w es d G->d=c.map Value.bool/\G=[]/\c.length=es.length
 |[],c,d,G,h,a=>by simp only[lg,ao]at h;subst h;simp only[g_]at a;simp[a.1,a.2]
 |e::es,c,d,G,h,a=>by match e,h with|[.bool b],h=>{simp only[lg,ay]at h;obtain⟨l,j,rfl⟩:=h;simp only[g_,fR,Rp]at a;obtain⟨v1,v2,o,n,rfl,rfl,⟨v,k,m,G2,rfl,rfl,⟨rfl,rfl⟩,rfl,rfl⟩,i⟩:=a;obtain⟨rfl,rfl,g⟩:=Bi es j i;simp[g]}|[],h=>{simp[lg]at h}|[.int _ _],h=>{simp[lg]at h}|[.str _],h=>{simp[lg]at h}|[.list _ _ _],h=>{simp[lg]at h}|_::_::_,h=>simp[lg]at h
theorem JO:∀(a:M Bool),g_ w (a.map λb=>[D.bool b]) (a.map Value.bool) []
 |[]=>by simp[g_]
 |b::a=>by simp only[bc,g_,fR,Rp];exact⟨[.bool b],_,[],[],rfl,rfl,⟨.bool b,[],[],[],rfl,rfl,⟨rfl,rfl⟩,rfl,rfl⟩,JO a⟩
theorem kz:∀(a es:M Bool),(dN a es).length=a.length
 |[],es=>by cases es<;>simp[dN]
 |b::a,[]=>by simp[dN]
 |b::a,e::es=>by simp[dN,kz a es]
theorem ahj(W:Inv γ h0 io w0 s f w){r:Nat}{c:C}{v:Value}{es:M (M D)}(k:CR γ w c v)(a:Jk s r c=Z es)(U:es≠[]) :
  ∃b o n j d G,v=.slice (Z ⟨b,o,O⟩) n j/\n=es.length/\g_ w es d G/\jZ w b o d/\∀g,γ.ω g=.row r->γ.h g=0->b≠g:=by have hl:0<es.length:=kK.2 U;unfold Jk at a;split at a;{rename_i fl Y;simp only[ao]at a;subst a;simp only[CR,Rp]at k;obtain⟨F,⟨A,n,j,m,l,S,R,Q,L,H,i⟩,T⟩:=k;rcases i with ⟨i,_⟩|⟨_,b,o,d,G,rfl,rfl,a2,a3⟩;{omega};refine⟨b,o,n,j,d,G,m,l,a2,a3,λg _ p e=>?_⟩;have:=T (b,o+n * 1) (by simp);simp only at this;rw[e,p]at this;omega};{rename_i q;split at a;{rename_i row x;split at a;{rename_i V;simp only[ao]at a;subst a;simp only[CR]at k;obtain⟨F,X,_,B⟩:=W.rw q row x;obtain⟨A,n,j,m,l,S,R,Q,L,H,i⟩:=X;rcases i with ⟨_,i,_⟩|⟨b,o,d,G,rfl,a2,a3,a4,a5,a6,a7,a8,a9,y⟩;{omega};have t:γ.ω b=.row q:=B b (by cases hd:row.deep with|true=>{rw[(a9 hd).1];simp}|false=>rw[(y hd).1];simp);refine⟨b,o,n,j,d,G,k.1.trans m,l,a4,a5,λg p _ e=>?_⟩;rw[e,p]at t;simp only[Own.row.injEq]at t;exact V.2 t.symm};cases a};cases a};cases a
theorem aqd(Q:Inv γ h0 io w0 s f w){F0:FuncId}{fn:Func}(yr:P.funcs[F0]?=Z fn)(Fc:fn.body.isSome=I)(uR:(fn.name == "runtime.NumGoroutine")=J)(v:P6 P F0){ts:Array TypeId}{x y:Operand}{a b:KX}{d:Nat}(hx:lS N x a=I)(C:lS N y b=I)(q:ml cf mf s (Z d) (.jn a b)=Z s')
  (h:∀B f' W,Inv B h0 io w0 s' f' W->Tr (Z d) (gm s (Z d) (.jn a b)) γ w B W f f'->K f' W) :
  xz P N ⟨Z d,.call {callee:=.value (.func F0),args:=#[x,y],argTypes:=ts },ty,pos,aft,gd⟩ f w K:=by
 have Y:=cZ Q hx;have hpy:=cZ Q C;simp only[ml]at q;split at q
 .rename_i d0 r QM F;cases QM;rw[F]at Y;simp only[CR]at Y;split at q
  .rename_i row es hl HP;split at q
   .rename_i hc;obtain⟨hk,hrf,Tg,vb,hle⟩:=hc;split at q
    .rename_i p t hbs Dm;split at q
     .rename_i iG;simp only[ao]at q;subst q;obtain⟨n9,A,n,c,i2,b2,AO,X,o2,l2,q1,q2,q3,q4,q5,q6,q7,q8⟩:=Q.AD hl;have ri:(fr f N).eval x=.slice A n c:=Y.1.trans q1;(have hrX:r∈gm s (Z d) (.jn a b):=by simp[gm,F,rowsOf]);have K2:0<es.length:=kK.2 iG;rcases q8 with ⟨rfl,rfl⟩|⟨g,o,xs,G,rfl,a2,a3,a4,a5,a6,a7,a8,a9,xA,a11,a12⟩;{omega};obtain⟨rfl,T,vs,hB,MN⟩:=xA vb;have V:γ.h g=0:=a9 Tg;obtain⟨rfl,rfl,hbl⟩:=Bi _ hbs a6;obtain⟨bb,oo,n2,cc,Sa,G2,y1,y2,y3,y4,y5⟩:=ahj Q hpy HP iG;obtain⟨rfl,rfl,vK⟩:=Bi _ Dm y3;(have hlc:t.length=p.length:=by omega);(have H:n=p.length:=by omega);(have adm:vs=p.map Value.bool++vs.drop p.length:=by{have:vs.take p.length=p.map Value.bool:=by{apply gq;intro j;rw[fq];by_cases v:j<p.length;{rw[if_pos v];have h7:=a7 j (Value.bool p[j]) (by simp[v]);rw[bF,hB.cell]at h7;rw[h7];simp[v]};rw[if_neg v,xP (by simp;omega)]};conv=>lhs;rw[<- ck p.length vs,this]});have U:=hB;rw[adm]at U;have sQ:=v w g T p t c bb oo n2 cc (vs.drop p.length) U y4 (y5 g a3 V) hlc (by omega);(have apZ:(fr f N).eval x=.slice (Z ⟨g,0,O⟩) p.length c:=by rw[ri,H]);(have ap0:(fr f N).eval y=.slice (Z ⟨bb,oo,O⟩) t.length cc:=by rw[y1,y2,vK]);refine yY (zn (iF yr Fc uR) rfl (by simp[apZ,ap0])) sQ λe W hp=>?_;obtain⟨rfl,rfl⟩:=hp;refine⟨_,rfl,?_⟩;have nC:=Yi.jD w g ((dN p t).map Value.bool++vs.drop p.length).toArray T;have va:Bc γ (λo=>∃i∈gm s (Z d) (.jn a b),o=.box i\/o=.row i) w _:=od Q nC ⟨r,hrX,.inr a3⟩ (λj v=>by rw[V]at v;omega);have h5:=i2.Yl (od i2 nC (M:=λo=>o=.fK) a4 (λj v=>by rw[X,V]at v;omega)) (by simp) (λb R=>by cases R) (λr hr=>by cases hr);have S:=hB.mN T ((dN p t).map Value.bool++vs.drop p.length);(have jm:jZ (jD w g (.cells ((dN p t).map Value.bool++vs.drop p.length).toArray T (0,0))) g 0 ((dN p t).map Value.bool):=by{intro j m hu;refine S.W0 j m ?_;rw[eH (br.1 hu).1];exact hu});have L:=kz p t;have apX:((dN p t).map Value.bool++vs.drop p.length).length=c * row.k:=by{simp only[az,aj,L,jK];rw[hk]at MN ⊢;omega}
      obtain⟨PU,h6,h7,h8,h9,_,_⟩:=h5.wM (r:=r) (x:={row with es:=(dN p t).map λb=>[D.bool b] }) (n:=n) (c:=c) (g:=g) (o:=0) (by simp only[aj,L];exact H) q3 q4 q5
       (λy C=>by obtain⟨l,_,rfl⟩:=dx.1 C;simp[hk]) (λ_ y C l hz=>by obtain⟨m,_,rfl⟩:=dx.1 C;simp at hz;subst hz;rfl)
       (by rw[iD];exact a2) (.inl a4) (i2.own g (by rw[a4];simp)).2 ⟨by rw[iD];omega,nC.fz⟩ (JO _) jm (by rw[X,V];omega) (λ_=>by rw[X,V]) (λ_=>⟨rfl,T,_,S,apX⟩)
       (λbe R=>by simp at R) (λ_=>⟨by simp,λbe R=>by simp at R⟩) (by rw[AO];exact q1)
      (have e6:(s.dP r).setRow r {row with es:=(dN p t).map λb=>[D.bool b] }=s.setRow r {row with es:=(dN p t).map λb=>[D.bool b] }:=by{(have:sy (sy s.rw r) r=sy s.rw r:=by simp[sy,nO]);simp[St.setRow,St.dP,this]});rw[e6]at h6;exact h PU _ _ (h6.put d _ _ jG) ⟨va,λ_ _=>by rw[h8,b2],λl=>by have:=h9 l;rw[X]at this;exact this,.put⟩
     cases q
    cases q
   cases q
  cases q
 cases q
end
end
section
open Go.RowKit
def noD(a:M Nat)(l:Array Bool):Prop:=∀m∈a,l.getD m J=J
def Cons(a:M (M Nat×(World->Prop)))(l:Array Bool)(w:World):Prop:=∀p∈a,noD p.1 l->p.2 w
theorem Z1{l:Array Bool}{i m:Nat}(h:(l.setIfInBounds i I).getD m J=J):l.getD m J=J:=by cases a:l.getD m J with|false=>{rfl}|true=>rw[getD_set_true a]at h;cases h
def ad5{a:M Nat}{l:Array Bool}{i:Nat}(h:noD a (l.setIfInBounds i I)):noD a l:=λm b=>Z1 (h m b)
def Av{a:M Nat}{l:Array Bool}{i:Nat}(h:noD a l)(c:i∉a):noD a (l.setIfInBounds i I):=λm b=>by rw[getD_set_ne J (by intro e;subst e;exact c b)];exact h m b
def Cons.set{a:M (M Nat×(World->Prop))}{l:Array Bool}{w:World}(h:Cons a l w)(i:Nat):Cons a (l.setIfInBounds i I) w:=λp c e=>h p c (ad5 e)
def Cons.aoS{a:M (M Nat×(World->Prop))}{l:Array Bool}{w:World}{i:Nat}(h:Cons a (l.setIfInBounds i I) w)(f:∀p∈a,i∉p.1):Cons a l w:=λp c e=>h p c (Av e (f p c))
section
variable {P:Program} {ops:Array Oper} {Q:Exit->Act->World->Prop} {md:Region.Mode}
def sv(P:Program)(md:Region.Mode)(ops:Array Oper)(Q:Exit->Act->World->Prop)(c:M (M Nat×(World->Prop))):Nat->Array Bool->Act->World->Prop
 |0,listed,a,w=>Region.ready md ops listed=[]/\Q .normal a w
 |fuel+1,listed,a,w=>
  (Region.ready md ops listed=[]->Q .normal a w)/\
  ∀i∈Region.ready md ops listed,wpOp P ops Q i (λd b=>Cons c (listed.setIfInBounds i I) b/\sv P md ops Q c fuel (listed.setIfInBounds i I) d b) a w
theorem HG{f:M (M Nat×(World->Prop))}:∀(fuel:Nat) (listed:Array Bool) (a:Act) (w:World),sv P md ops Q f fuel listed a w->wpAny P md ops Q fuel listed a w
 |0,_,_,_,h=>h
 |fuel+1,_,_,_,h=>⟨h.1,λi c=>wpOp_mono (λe b d=>HG fuel _ e b d.2) (h.2 i c)⟩
def okD(md:Region.Mode)(ops:Array Oper)(i:Nat)(a:M Nat):Bool:=a.all λj=>match ops[j]? with
 |some o=>o.after.any λe=>Region.binds md e && (e.on ==i ||a.contains e.on)
 |none=>J
theorem abc{i:Nat}{d:M Nat}(h:okD md ops i d=I){listed:Array Bool}(p:listed.getD i J=J)(l:noD d listed){j:Nat}(n:j∈Region.ready md ops listed):j∉d:=by intro m;have f:=bG.1 h j m;obtain⟨_,o,k,g⟩:=mem_ready.1 n;rw[k]at f;obtain⟨e,q,b⟩:=Array.any_eq_true'.1 f;simp only[aw,dE,beq_iff_eq,List.contains_iff_mem]at b;have a:=g e q b.1;rcases b.2 with c|c;{rw[c,p]at a;cases a};rw[l _ c]at a;cases a
theorem aoQ{x:M (M Nat×(World->Prop))}{i:Nat}{q:Oper}{v:Value}{V:World->Prop}{X G:M Nat}(hi:ops[i]?=Z q)(L:∀(j:Nat) (o:Oper) K b,ops[j]?=Z o->o.op≠.select K b)
  (hQ:∀c a w,Q (.panic c) (a.put q.dst v) w->Q (.panic c) a w) (hD:okD md ops i X=I) (Oa:∀m∈G,m∈X) (hid:i∉G) (hCi:∀p∈x,i∉p.1) :
  ∀(f:Nat) (d:Array Bool) (a:Act) (w:World),
   (∀j n,ops[j]?=Z n->j≠i->d.getD j I=J->(∀e∈n.after,Region.binds md e=I->e.on≠i)->q.apart ops n=I)->
   i∈Region.ready md ops d->noD X d->YieldsIf P ops V q v a->V w->Cons x d w->
   sv P md ops Q ((G,V)::x) f (d.setIfInBounds i I) (a.put q.dst v) w->sv P md ops Q x (f+1) d a w:=by intro f;have l:∀(f:Nat) (d:Array Bool) (a:Act) (w:World),sv P md ops Q ((G,V)::x) f d a w->sv P md ops Q x f d a w:=by{intro f;induction f with|zero=>{intro d a w h;exact h}|succ f Y=>intro d a w h;exact⟨h.1,λj t=>wpOp_mono (λa' A y=>⟨λp hp=>y.1 p (by simp[hp]),Y _ a' A y.2⟩) (h.2 j t)⟩};induction f with|zero=>{intro d a w _ r U T hV hC H;refine⟨λh=>(by rw[h]at r;cases r),λj t=>?_⟩;by_cases g:j=i;{subst g;exact T.wpOp hi hV ⟨hC.set j,l _ _ _ _ H⟩};have:=ready_mono t g;rw[H.1]at this;cases this}|succ f Y=>intro d a w Od r U T hV hC H;refine⟨λh=>(by rw[h]at r;cases r),λj t=>?_⟩;by_cases g:j=i;{subst g;exact T.wpOp hi hV ⟨hC.set j,l _ _ _ _ H⟩};have W:=H.2 j (ready_mono t g);obtain⟨N,n,s,jR⟩:=mem_ready.1 t;have R:d.getD i J=J:=by{have h0:=(mem_ready.1 r).1;rcases ed i d.size with y|y;{simp[y]at h0 ⊢;exact h0};simp[wH y]at h0};have D:=abc hD R U t;have apS:∀e∈n.after,Region.binds md e=I->e.on≠i:=λe he hb heq=>by{have W:=jR e he hb;rw[heq,R]at W;cases W};have h2:=wpOp_putIf (S:=V) s (Od j n s g N apS) (λK b=>L i q K b hi) (λK b=>L j n K b s) hQ T W;have agW:∀k ok,ops[k]?=Z ok->k≠i->(d.setIfInBounds j I).getD k I=J-> (∀e∈ok.after,Region.binds md e=I->e.on≠i)->q.apart ops ok=I:=λk ok hk hki B hno=>by{refine Od k ok hk hki ?_ hno;by_cases C:j=k;{subst C;exact N};rw[getD_set_ne I C]at B;exact B};refine wpOp_mono (λa' A h3=>?_) h2;obtain⟨h3,h4,h5⟩:=h3;have F:Cons x (d.setIfInBounds j I) A:=by{rw[Array.setIfInBounds_comm _ _ (ow g)]at h4;exact Cons.aoS (i:=i) (λp hp=>h4 p (by simp[hp])) hCi};have hnj:noD X (d.setIfInBounds j I):=Av U D;have hV':V A:=h4 (G,V) (by simp) (Av (Av (λm hm=>U m (Oa m hm)) hid) (λhm=>D (Oa j hm)));refine⟨F,Y (d.setIfInBounds j I) a' A agW (ready_mono r (ow g)) hnj h3 hV' F ?_⟩;rw[Array.setIfInBounds_comm _ _ g];exact h5
end
section
variable {P:Program} {N:Nat} {Kn:Fm->World->Prop} {Ke:Nat->Fm->World->Prop} {Kr:Fm->World->Prop} {f:Fm} {w:World} {ops:Array Oper}
structure Ent where
 i:Nat
 q:Bool
 al:List Nat
 dn:List Nat
inductive ET where
 |nil
 |op (e:Ent) (t:ET)
 |alt (e:Ent) (t r:ET)
def ET.len:ET->Nat
 | .nil=>0
 | .op _ t=>t.len+1
 | .alt _ t _=>t.len+1
def ET.fj(p:Ent->Bool):ET->Bool
 | .nil=>I
 | .op e t=>p e && t.fj p
 | .alt e t r=>p e && t.fj p && r.fj p
def ET.Ob:ET->M Nat
 | .nil=>[]
 | .op e _=>[e.i]
 | .alt e _ r=>e.i::r.Ob
def Kh(ops:Array Oper):Bool->ET->Array Bool->Bool
 |top,.nil,listed=>top && (Region.ready .any ops listed).isEmpty
 |top,.op e s,listed=>(if e.q then top && (Region.ready .any ops listed).contains e.i && Region.free .any ops listed e.i && okD .any ops e.i e.al && e.al.all (λm=>!listed.getD m J) && e.dn.all e.al.contains && !e.dn.contains e.i && s.fj (λa=>!a.q ||!e.dn.contains a.i) else !top ||Region.ready .any ops listed ==[e.i]) && Kh ops I s (listed.setIfInBounds e.i I)
 |top,.alt e s r,listed=>(!top ||Region.ready .any ops listed ==e.i::r.Ob) && !e.q && s.len+1 ==r.len && Kh ops I s (listed.setIfInBounds e.i I) && Kh ops J r listed
def Dv(P:Program)(N:Nat)(ops:Array Oper)(Kn:Fm->World->Prop):M (M Nat×(World->Prop))->ET->Array Bool->Fm->World->Prop
 |_,.nil,_,f,w=>Kn f w
 |b,.op e s,l,f,w=>if e.q then
   ∃o v a V,ops[e.i]?=Z o/\YieldsIf P ops V o v (fr f N)/\(fr f N).put o.dst v=fr a N/\V w/\Dv P N ops Kn ((e.dn,V)::b) s (l.setIfInBounds e.i I) a w
  else wpOp P ops (pst N Kn (λ_ _ _=>False) (λ_ _=>False)) e.i (λd c=>Cons b (l.setIfInBounds e.i I) c/\∃a,d=fr a N/\Dv P N ops Kn b s (l.setIfInBounds e.i I) a c) (fr f N) w
 |b,.alt e s r,l,f,w=>wpOp P ops (pst N Kn (λ_ _ _=>False) (λ_ _=>False)) e.i (λd c=>Cons b (l.setIfInBounds e.i I) c/\∃a,d=fr a N/\Dv P N ops Kn b s (l.setIfInBounds e.i I) a c) (fr f N) w/\Dv P N ops Kn b r l f w
theorem zV(H:Region.noSelect ops=I):∀(s:ET) (d:M (M Nat×(World->Prop))) (listed:Array Bool) (f:Fm) (w:World) (k:Bool),Kh ops k s listed=I->(∀p∈d,s.fj (λe=>!e.q ||!p.1.contains e.i)=I)->Cons d listed w->Dv P N ops Kn d s listed f w->
  (k=I->sv P .any ops (pst N Kn (λ_ _ _=>False) (λ_ _=>False)) d s.len listed (fr f N) w)/\
  (k=J->∀j∈s.Ob,∃n,s.len=n+1/\wpOp P ops (pst N Kn (λ_ _ _=>False) (λ_ _=>False)) j (λF t=>Cons d (listed.setIfInBounds j I) t/\sv P .any ops (pst N Kn (λ_ _ _=>False) (λ_ _=>False)) d n (listed.setIfInBounds j I) F t) (fr f N) w)
 | .nil,d,listed,f,w,k,B,_,_,h=>by simp only[Kh,aw]at B;refine⟨λ_=>?_,λC=>(by rw[C]at B;cases B.1)⟩;(have U:Region.ready .any ops listed=[]:=by simpa using B.2);exact⟨U,f,rfl,h⟩
 | .op e s,d,listed,f,w,k,B,K,S,h=>by simp only[Kh,aw]at B;obtain⟨A,T⟩:=B;have l:∀p∈d,(!e.q ||!p.1.contains e.i)=I/\s.fj (λe=>!e.q ||!p.1.contains e.i)=I:=λp x=>by{have:=K p x;simpa only [ET.fj,aw] using this};simp only[Dv]at h;cases heq:e.q with|true=>{rw[heq]at h A;simp only[if_true,aw,cx]at h A;obtain⟨⟨⟨⟨⟨⟨⟨C,U⟩,k1⟩,k2⟩,k3⟩,k4⟩,k5⟩,k6⟩:=A;refine⟨λ_=>?_,λG=>(by rw[C]at G;cases G)⟩;obtain⟨o,v,Q,V,ho,hy,x,hV,hd⟩:=h;(have Oa:∀m∈e.dn,m∈e.al:=λm W=>by simpa using bG.1 k4 m W);(have apO:noD e.al listed:=λm W=>by simpa using bG.1 k3 m W);refine aoQ ho (Region.noSelect_spec H) (λc a w K=>K.elim) k2 Oa (by simpa using k5) (λp D=>by have:=(l p D).1;simpa [heq] using this) s.len listed (fr f N) w (Region.free_spec ho k1) (by simpa using U) apO hy hV S ?_;rw[x];refine (zV H s _ _ Q w I T (λp D=>?_) (λp D hn=>?_) hd).1 rfl;{rcases aU.1 D with rfl|D;{exact k6};exact (l p D).2};rcases aU.1 D with rfl|D;{exact hV};exact (S.set e.i) p D hn}|false=>rw[heq]at h A;simp only[aL,if_false,dE,cx,beq_iff_eq]at h A;have step:wpOp P ops (pst N Kn (λ_ _ _=>False) (λ_ _=>False)) e.i (λF t=>Cons d (listed.setIfInBounds e.i I) t/\sv P .any ops (pst N Kn (λ_ _ _=>False) (λ_ _=>False)) d s.len (listed.setIfInBounds e.i I) F t) (fr f N) w:=by{refine wpOp_mono ?_ h;rintro F t ⟨y,Q,rfl,hd⟩;exact⟨y,(zV H s d _ Q t I T (λp x=>(l p x).2) y hd).1 rfl⟩};refine⟨λC=>⟨λL=>?_,λj g=>?_⟩,λ_ j g=>?_⟩;{rcases A with b|b;{rw[C]at b;cases b};rw[b]at L;cases L};{rcases A with b|b;{rw[C]at b;cases b};rw[b]at g;simp only[bO]at g;subst g;exact step};simp only[ET.Ob,bO]at g;subst g;exact⟨s.len,rfl,step⟩
 | .alt e s r,d,listed,f,w,k,B,K,S,h=>by simp only[Kh,aw,dE,cx,beq_iff_eq]at B;obtain⟨⟨⟨⟨A,T⟩,MK⟩,Y⟩,X⟩:=B;have l:∀p∈d,s.fj (λe=>!e.q ||!p.1.contains e.i)=I/\r.fj (λe=>!e.q ||!p.1.contains e.i)=I:=λp x=>by{have:=K p x;simp only[ET.fj,aw]at this;exact⟨this.1.2,this.2⟩};simp only[Dv]at h;have R:∀j∈e.i::r.Ob,wpOp P ops (pst N Kn (λ_ _ _=>False) (λ_ _=>False)) j (λF t=>Cons d (listed.setIfInBounds j I) t/\sv P .any ops (pst N Kn (λ_ _ _=>False) (λ_ _=>False)) d s.len (listed.setIfInBounds j I) F t) (fr f N) w:=by{intro j g;rcases aU.1 g with rfl|g;{refine wpOp_mono ?_ h.1;rintro F t ⟨y,Q,rfl,hd⟩;exact⟨y,(zV H s d _ Q t I Y (λp x=>(l p x).1) y hd).1 rfl⟩};obtain⟨n,hn,hw⟩:=(zV H r d listed f w J X (λp x=>(l p x).2) S h.2).2 rfl j g;(have:n=s.len:=by omega);subst this;exact hw};refine⟨λC=>⟨λL=>?_,λj g=>?_⟩,λ_ j g=>⟨s.len,rfl,R j g⟩⟩;{rcases A with b|b;{rw[C]at b;cases b};rw[b]at L;cases L};rcases A with b|b;{rw[C]at b;cases b};rw[b]at g;exact R j g
theorem afc{id:Nat}{l:M Oper}(s:ET)(k:P.follows .mixedOrders=I)(i:Region.noSelect l.toArray=I)(j:s.len=l.toArray.size)
  (m:Kh l.toArray I s (qv l.toArray.size J)=I) (h:Dv P N l.toArray Kn [] s (qv l.toArray.size J) f w.drew):W P N (.region id l.toArray I) Kn Ke Kr f w:=by have g:=(zV i s [] _ f w.drew I m (λp d=>by simp at d) (λp d=>by simp at d) h).1 rfl;rw[j]at g;unfold W;refine wp_mono (wp_region_any k (HG _ _ _ _ g)) ?_;intro e a w b;cases e with|normal=>{exact b}|exit id=>{obtain⟨_,_,h⟩:=b;exact h.elim}|ret=>{obtain⟨_,_,h⟩:=b;exact h.elim}|goto l=>{exact b.elim}|panic c=>{exact b.elim}|outgrown=>exact b.elim
variable {Cl:M (M Nat×(World->Prop))} {s:ET} {e:Ent} {lst:Array Bool} {o:Oper}
theorem aoU(h:Kn f w):Dv P N ops Kn Cl .nil lst f w:=h
theorem asg(d:e.q=J)(g:ops[e.i]?=Z o)(j:qT N ops f o.guard)(h:xz P N o f w (λb a=>Cons Cl (lst.setIfInBounds e.i I) a/\Dv P N ops Kn Cl s (lst.setIfInBounds e.i I) b a)):Dv P N ops Kn Cl (.op e s) lst f w:=by simp only[Dv,d,aL,if_false,wpOp,g];rw[if_pos (show Region.wanted o _=I from j)];exact .inl (h.ajC λb a c=>⟨c.1,b,rfl,c.2⟩)
theorem aoT{t:ET}(d:ops[e.i]?=Z o)(g:qT N ops f o.guard)(h:xz P N o f w (λb a=>Cons Cl (lst.setIfInBounds e.i I) a/\Dv P N ops Kn Cl s (lst.setIfInBounds e.i I) b a))(j:Dv P N ops Kn Cl t lst f w):Dv P N ops Kn Cl (.alt e s t) lst f w:=by refine⟨?_,j⟩;simp only[wpOp,d];rw[if_pos (show Region.wanted o _=I from g)];exact .inl (h.ajC λb a c=>⟨c.1,b,rfl,c.2⟩)
theorem v_q(b:e.q=I)(c:ops[e.i]?=Z o){d:Nat}(hd:o.dst=Z d)(g:qT N ops f o.guard){v:Value}(V:World->Prop)(a:∀w,V w->(execOp (fr f N).eval o).run P w=.ok (.value v) w)(j:V w)
  (h:Dv P N ops Kn ((e.dn,V)::Cl) s (lst.setIfInBounds e.i I) (Iu f d v) w):Dv P N ops Kn Cl (.op e s) lst f w:=by simp only[Dv,b,if_true];refine⟨_,v,_,V,c,.inl ⟨g,a⟩,?_,j,h⟩;rw[hd];exact rT f N d v
variable {d:Nat} {op:Op} {ty:TypeId} {pos:String} {aft:Array Edge} {gd:u (Nat×Bool)}
theorem ajG(a:e.q=I)(b:ops[e.i]?=Z ⟨Z d,op,ty,pos,aft,gd⟩)(c:jP N ops f gd)
  (h:Dv P N ops Kn ((e.dn,λ_=>True)::Cl) s (lst.setIfInBounds e.i I) (Iu f d undef) w):Dv P N ops Kn Cl (.op e s) lst f w:=by simp only[Dv,a,if_true];exact⟨_,undef,_,λ_=>True,b,.inr ⟨c,rfl⟩,rT f N d _,trivial,h⟩
theorem afb(a:e.q=J)(b:ops[e.i]?=Z ⟨Z d,op,ty,pos,aft,gd⟩)(c:jP N ops f gd)(g:Cons Cl (lst.setIfInBounds e.i I) w)
  (h:Dv P N ops Kn Cl s (lst.setIfInBounds e.i I) (Iu f d undef) w):Dv P N ops Kn Cl (.op e s) lst f w:=by simp only[Dv,a,aL,if_false,wpOp,b];rw[if_neg (c.to _ _ _ _ _)];exact⟨g,_,rT f N d _,h⟩
theorem ajF{t:ET}(a:ops[e.i]?=Z ⟨Z d,op,ty,pos,aft,gd⟩)(b:jP N ops f gd)(c:Cons Cl (lst.setIfInBounds e.i I) w)
  (h:Dv P N ops Kn Cl s (lst.setIfInBounds e.i I) (Iu f d undef) w) (g:Dv P N ops Kn Cl t lst f w):Dv P N ops Kn Cl (.alt e s t) lst f w:=by refine⟨?_,g⟩;simp only[wpOp,a];rw[if_neg (b.to _ _ _ _ _)];exact⟨c,_,rT f N d _,h⟩
end
end
section
open Go.RowKit
section
variable (P:Program) (N:Nat) (num:Nat->FuncId)
def SI(T:TypeId):u (TypeId×TypeInfo×Value):=
 match P.underlying T with
 |some (.slice b)=>match P.info? b with
  |some i=>match i.zero with
   |some a=>Z (b,i,a)
   |none=>O
  |none=>O
 |_=>O
def mF(F:FuncId):Bool:=
 match P.funcs[F]? with
 |some fn=>fn.body.isSome && !(fn.name == "runtime.NumGoroutine")
 |none=>J
def okN:Op->u Tmp->KO->Bool
 | .alloc T,Z _,.alloc h=>(match u0 P T with
   |some d=>LW d h
   |none=>J)
 | .box _ x,Z _,.box y=>lS N x y
 | .buildSlice T n j,Z _,.uX k _ ys=>(match P.underlying T with
   |some (.slice e)=>qn P e ==Z k && (n ==0 ||(u0 P e).isSome) && GO N 0 j.toList ys && n ==j.size && jX (n * k) 16777216
   |_=>J)
 | .makeSlice T a b,Z _,.make k f m h y=>lS N a y && lS N b y && (match SI P T with
   |some (_,i,d)=>i.size ==k && i.bytes ==f && eP 0 k && GQ d.cells.toList h && h.length ==k && (!m ||db h)
   |none=>J)
 | .store T x v,O,.st n a b=>qn P T ==Z n && lS N x a && lS N v b
 | .call c,Z _,.app k f _ a b=>(match c.callee,c.args.toList,c.argTypes.toList with
   | .builtin .append,[x,y],[T,o]=>T ==o && lS N x a && lS N y b && (match SI P T with
    |some (_,i,d)=>i.size ==k && i.bytes ==f && d.cells.size ==k && eP 0 k
    |none=>J)
   |_,_,_=>J)
 | .call c,_,.call g xs=>(match c.callee with
   | .value (.func F)=>F ==num g && mF P F && GP N c.args.toList xs
   |_=>J)
 | .call c,_,.cbx g xs=>(match c.callee with
   | .value (.func F)=>F ==num g && mF P F && GP N c.args.toList xs
   |_=>J)
 | .assign x,Z _,.TO y=>lS N x y
 | .move x,Z _,.TO y=>lS N x y
 | .call c,Z _,.jn a b=>(match c.callee,c.args.toList with
   | .value (.func F),[x,y]=>F ==num 9004 && !(num 9004 ==1000000) && mF P F && lS N x a && lS N y b
   |_,_=>J)
 | .call c,Z _,.IT k a b=>(match c.callee,c.args.toList,c.argTypes.toList with
   | .builtin .copy,[x,y],[T,_]=>lS N x a && lS N y b && (match P.underlying T with
    |some (.slice e)=>qn P e ==Z k
    |_=>J)
   |_,_,_=>J)
 | .call c,_,.MI l g G a b=>(match c.callee,c.args.toList with
   | .value (.func F),[x,y]=>F ==num (if l=I then 9007 else 9008) && !(num (if l=I then 9007 else 9008) ==1000000) && mF P F && (G ==num g && mF P G) && lS N x a && lS N y b
   |_,_=>J)
 |_,_,_=>J
def Rf(a:Array Oper):u (Nat×Bool)->u (Nat×Bool)->Bool
 |none,O=>I
 |some (j,want),Z (g,b)=>want ==b && (match a[j]? with
   |some o=>o.dst ==Z g && eP g N
   |none=>J)
 |_,_=>J
def okI(a:Array Oper)(o:Oper)(i:KI):Bool:=
 o.dst ==i.dst && (match i.dst with
  |some d=>eP d N && eP d 900
  |none=>I) && Rf N a o.guard i.gd && (if i.op.qk then i.dst.isSome && Ay P N o.op i.op else okN P N num o.op i.dst i.op)
def Xb(a:Array Oper):M Oper->M KI->Bool
 |[],[]=>I
 |o::os,i::is=>okI P N num a o i && Xb a os is
 |_,_=>J
def KD.A8(x:KD):Ent:=⟨x.j,x.q,x.al,x.dn⟩
def KT.A8:KT->ET
 | .nil=>.nil
 | .op x t=>.op x.A8 t.A8
 | .alt x t r=>.alt x.A8 t.A8 r.A8
def Re(a:Array Oper):KT->Bool
 | .nil=>I
 | .op ⟨j,q,_,_,i⟩ is=>(match a[j]? with
   |some o=>okI P N num a o i && (!q ||i.op.qk) && (i.gd.isNone ||i.dst.isSome)
   |none=>J) && Re a is
 | .alt ⟨j,q,_,_,i⟩ is r=>(match a[j]? with
   |some o=>okI P N num a o i && !q && (i.gd.isNone ||i.dst.isSome)
   |none=>J) && Re a is && Re a r
def vl:K->Code->Bool
 | .skip,.skip=>I
 | .Uf [] _,.skip=>I
 | .Uf is _,.region _ ops J=>Xb P N num ops ops.toList is
 | .Zh is _,.region _ ops I=>Re P N num ops is && Region.noSelect ops && is.A8.len ==ops.size && Kh ops I is.A8 (qv ops.size J)
 | .seq a b,.seq c d=>vl a c && vl b d
 | .cond x a b,.cond y c d=>lS N y x && vl a c && vl b d
 | .block i a,.block j c=>i ==j && vl a c
 | .loop a,.loop c=>vl a c
 | .exit i,.exit j=>i ==j
 | .ret,.ret=>I
 | .share _ a,c=>vl a c
 | .DN _ a,c=>vl a c
 | .seq a (.DN _ .skip),c=>vl a c
 |_,_=>J
end
def Nw{P:Program}{T:TypeId}{b:TypeId}{i:TypeInfo}{a:Value}(h:SI P T=Z (b,i,a)):P.underlying T=Z (.slice b)/\P.info? b=Z i/\i.zero=Z a:=by unfold SI at h;split at h;{rename_i j d;split at h;{rename_i g e;split at h;{rename_i f c;simp only[ao,aP]at h;obtain⟨rfl,rfl,rfl⟩:=h;exact⟨d,e,c⟩};cases h};cases h};cases h
section
variable {P:Program} {γ:Gh} {h0:Nat->Nat} {io:M Nat} {w0:World} {s s':St} {f:Fm} {w:World} {N:Nat} {num:Nat->FuncId} {K':Fm->World->Prop}
 {cf:Nat->M A->u (M A×M A)} {mf:Nat->Bool->M D->Int->u (M D×Int)}
theorem wh(X:Cts w0 io P num cf)(vk:∀g ag ds q uP q',mf g ag ds q=Z (uP,q')->Ej w0 io P (num g) ag ds q uP q')(B:Inv γ h0 io w0 s f w){op:Op}{K:u Tmp}{uU:KO}{ty:TypeId}{pos:String}{aft:Array Edge}{gd:u (Nat×Bool)}(m:okN P N num op K uU=I)(C:ml cf mf s K uU=Z s')
  (h:∀W f' w',Inv W h0 io w0 s' f' w'->Tr K (gm s K uU) γ w W w' f f'->K' f' w'):xz P N ⟨K,op,ty,pos,aft,gd⟩ f w K':=by unfold okN at m;split at m;{split at m;{rename_i j Y;exact ad2 B Y m C (by simpa only [gm,o8] using h)};cases m};{exact amy B m C (by simpa only [gm,o8] using h)};{split at m;{rename_i l S;simp only[aw,dE,beq_iff_eq]at m;obtain⟨⟨⟨⟨n,v⟩,p⟩,Q⟩,h5⟩:=m;exact ad3 B S n v p Q h5 C (by simpa only [gm,o8,List.singleton_append] using h)};cases m};{simp only[aw]at m;obtain⟨⟨n,v⟩,p⟩:=m;split at p;{rename_i l i j HO;obtain⟨S,hI,Y⟩:=Nw HO;simp only[aw,beq_iff_eq,jO,dE,cx]at p;obtain⟨⟨⟨⟨⟨k1,k2⟩,k3⟩,k4⟩,k5⟩,k6⟩:=p;exact ahG B S hI Y k1 k2 k3 k4 k5 (λhf=>by rcases k6 with h|h<;>simp_all) n v C (by simpa only [gm,o8] using h)};cases p};{simp only[aw,beq_iff_eq]at m;obtain⟨⟨n,v⟩,p⟩:=m;exact aqe B n v p C h};{rename_i c d k by_ fl a b;split at m;{rename_i x y T T' t H MK;simp only[aw,beq_iff_eq]at m;obtain⟨⟨⟨rfl,n⟩,v⟩,p⟩:=m;obtain⟨L,args,V⟩:=c;simp only at t H MK;subst t;(have U:args=#[x,y]:=by rw[<- H]);(have et:V=#[T,T]:=by rw[<- MK]);subst U et;split at p;{rename_i l i j HO;obtain⟨S,hI,Y⟩:=Nw HO;simp only[aw,beq_iff_eq,jO]at p;obtain⟨⟨⟨k1,k2⟩,k3⟩,k4⟩:=p;exact amx B S hI Y k1 k2 k3 k4 n v C h};cases p};cases m};{rename_i c g xs;split at m;{rename_i F t;simp only[aw,beq_iff_eq]at m;obtain⟨⟨rfl,n⟩,v⟩:=m;obtain⟨L,args,V⟩:=c;simp only at t;subst t;unfold mF at n;split at n;{rename_i fn R;simp only[aw,cx]at n;exact ahF B R n.1 n.2 v (X.1 g) C h};cases n};cases m};{rename_i c g xs;split at m;{rename_i F t;simp only[aw,beq_iff_eq]at m;obtain⟨⟨rfl,n⟩,v⟩:=m;obtain⟨L,args,V⟩:=c;simp only at t;subst t;unfold mF at n;split at n;{rename_i fn R;simp only[aw,cx]at n;exact amz B R n.1 n.2 v (X.1 g) C h};cases n};cases m};{exact afS B (.inl rfl) m C h};{exact afS B (.inr rfl) m C h};{rename_i c d a b;split at m;{rename_i F x y t H;simp only[aw,beq_iff_eq,cx,beq_eq_false_iff_ne]at m;obtain⟨⟨⟨⟨rfl,hn⟩,n⟩,v⟩,p⟩:=m;obtain⟨L,args,V⟩:=c;simp only at t H;subst t;(have U:args=#[x,y]:=by rw[<- H]);subst U;unfold mF at n;split at n;{rename_i fn R;simp only[aw,cx]at n;exact aqd B R n.1 n.2 (X.2.1 hn) v p C h};cases n};cases m};{rename_i c d k a b;split at m;{rename_i x y T T' t H MK;simp only[aw]at m;obtain⟨⟨n,v⟩,p⟩:=m;obtain⟨L,args,V⟩:=c;simp only at t H MK;subst t;(have U:args=#[x,y]:=by rw[<- H]);(have et:V=#[T,T']:=by rw[<- MK]);subst U et;split at p;{rename_i l S;simp only[beq_iff_eq]at p;exact amB B S p n v C h};cases p};cases m};{rename_i c nd g G a b;split at m;{rename_i F x y t H;simp only[aw,beq_iff_eq,cx,beq_eq_false_iff_ne]at m;obtain⟨⟨⟨⟨⟨rfl,hn⟩,n⟩,hG,Q⟩,v⟩,p⟩:=m;subst hG;obtain⟨L,args,V⟩:=c;simp only at t H;subst t;(have U:args=#[x,y]:=by rw[<- H]);subst U;unfold mF at n;split at n;{rename_i fn R;simp only[aw,cx]at n;unfold mF at Q;split at Q;{rename_i fn' apH;simp only[aw,cx]at Q;exact amA B R n.1 n.2 v p (λa r o e=>X.2.2.2 nd hn w0 io (num g) fn' (cf g) apH Q.1 Q.2 (λa r o e=>X.1 g a r o e) a r o e) C h};cases Q};cases n};cases m};cases m
theorem q_{a:Array Oper}(p:Inv γ h0 io w0 s f w){j g:Nat}{want:Bool}(c:Rf N a (Z (j,want)) (Z (g,want))=I):(∀b,s.get g=.d (.bool b)->b=want->qT N a f (Z (j,want)))/\(∀b,s.get g=.d (.bool b)->b≠want->jP N a f (Z (j,want)))/\(s.get g=.wD->jP N a f (Z (j,want))):=by simp only[Rf,aw]at c;obtain⟨_,c⟩:=c;split at c;{rename_i o n;simp only[aw,beq_iff_eq]at c;(have i:(a[j]?).bind (·.dst)=Z g:=by rw[n];exact c.1);have e:=p.get g;refine⟨λb k l=>?_,λb k l=>?_,λm=>?_⟩;{rw[k]at e;have h:=tN e;subst l;exact wy h i c.2};{rw[k]at e;have h:=tN e;(have:b=!want:=by cases b<;>cases want<;>simp_all);rw[this]at h;exact wx h i c.2};rw[m]at e;simp only[CR]at e;exact wu e i c.2};cases c
def zC(a:Nat->Nat)(h0:Nat->Nat)(io:M Nat)(w0:World)(s:St)(f:Fm)(w:World):Prop:=∃γ,Inv γ h0 io w0 s f w/\∀b,900<=b->γ.β b=a b
variable {β0:Nat->Nat}
theorem zC.ez(h:zC β0 h0 io w0 s f w)(b:oy):zC β0 h0 io w0 (s.ez b) f w:=by obtain⟨γ,e,g⟩:=h;exact⟨γ,e.sub (λd c a=>s6 _ _ d c a) (λd c a=>s6 _ _ d c a) (λd c a=>s6 _ _ d c a),g⟩
theorem Bx{d:u Nat}{o:KO}(a:DW cf mf s d o=Z s'):(o.qk=I/\∃c,jl s o=Z c/\s'=s.put d c)\/(o.qk=J/\ml cf mf s d o=Z s'):=by unfold DW at a;split at a;{rename_i b;simp only[ay]at a;obtain⟨c,g,e⟩:=a;exact .inl ⟨b,c,g,e.symm⟩};rename_i b;exact .inr ⟨by simpa using b,a⟩
theorem td(r:Cts w0 io P num cf)(p:∀g Y X q U W,mf g Y X q=Z (U,W)->Ej w0 io P (num g) Y X q U W){a:Array Oper}{Kn:Fm->World->Prop}:∀(os:M Oper) (m:M KI) {s s':St} {f:Fm} {w:World},Xb P N num a os m=I->nh cf mf m s=Z s'->zC β0 h0 io w0 s f w->(∀S K,zC β0 h0 io w0 s' S K->Kn S K)->Ls P N a Kn os f w
 |[],[],s,s',f,w,_,k,l,n=>by simp only[nh,ao]at k;subst k;exact fH (n f w l)
 |[],_::_,_,_,_,_,h,_,_,_=>by simp[Xb]at h
 |_::_,[],_,_,_,_,h,_,_,_=>by simp[Xb]at h
 |⟨dst,op,ty,pos,aft,gd⟩::os,⟨d,uU,QW⟩::m,s,s',f,w,h,k,⟨γ,l,G⟩,n=>by simp only[Xb,aw,okI,beq_iff_eq]at h;obtain⟨⟨⟨⟨rfl,hd⟩,t⟩,B⟩,C⟩:=h;simp only[nh]at k;split at k;{rename_i V i;have go:qT N a f gd->DW cf mf s dst uU=Z V->Ls P N a Kn (⟨dst,op,ty,pos,aft,gd⟩::os) f w:=by{intro F i;refine dK F ?_;rcases Bx i with ⟨Q,c,hc,rfl⟩|⟨Q,hn⟩;{simp only[Q,if_true,aw]at B;obtain⟨d,rfl⟩:=cB.1 B.1;obtain⟨v,k1,k2⟩:=ql (dst:=Z d) (ty:=ty) (pos:=pos) (aft:=aft) (gd:=gd) l B.2 hc;exact cF (k2 w (λ_=>sG.refl _ _ _)) (td r p os m C k ⟨γ,l.put d c v k1,G⟩ n)};simp only[Q,aL,if_false]at B;refine wh r p l B hn λH S K i' tr=>td r p os m C k ⟨H,i',λb mJ=>?_⟩ n;rw[tr.β b (λe=>by rw[e]at hd;simp at hd;omega)];exact G b mJ};have skip:jP N a f gd->V=s.put dst .wD->Ls P N a Kn (⟨dst,op,ty,pos,aft,gd⟩::os) f w:=by{intro F e;subst e;cases dst with|none=>{exact adK F (td r p os m C k ⟨γ,l,G⟩ n)}|some d=>exact Ci F (td r p os m C k ⟨γ,l.put d .wD undef (by simp only[CR]),G⟩ n)};simp only[wR]at i;cases QW with|none=>{cases gd with|none=>{exact go wn i}|some x=>simp[Rf]at t}|some x=>obtain⟨g,o⟩:=x;cases gd with|none=>{simp[Rf]at t}|some y=>obtain⟨j,A3⟩:=y;(have L:A3=o:=by simp[Rf]at t;exact t.1);subst L;obtain⟨g1,g2,g3⟩:=q_ l t;simp only at i;split at i;{rename_i b Je;split at i;{rename_i T;exact go (g1 b Je T) i};rename_i T;simp only[ao]at i;exact skip (g2 b Je T) i.symm};{rename_i R;simp only[ao]at i;exact skip (g3 R) i.symm};cases i};cases k
theorem Inv.drew(a:Inv γ h0 io w0 s f w):Inv γ h0 io w0 s f w.drew:=
 a.Yl (M:=λ_=>False) ⟨rfl,rfl,rfl,aI _,λ_ _ _=>rfl,λ_ _ _=>rfl,λ_ h=>h⟩ (λh=>h) (λ_ h=>h.elim) (λ_ h=>h.elim)
def Sq(a:Gh)(e:u Nat)(c d:World):Prop:=(∀g j,j<a.h g->d.cell? ⟨g,j,O⟩=c.cell? ⟨g,j,O⟩)/\∀b,e=Z b->d.heap[a.β b]?=c.heap[a.β b]?
def St.only(s:St)(a:u Nat):St:=⟨s.sl,jo s.bx a.toList,[]⟩
theorem ZI{d:KO}{c:C}{g:u Nat}(i:d.QS=I)(e:rk s d=Z g)(a:jl s d=Z c):jl (s.only g) d=Z c:=by cases d<;>simp[KO.QS]at i;rotate_left;{simp[rk]at e};rename_i n x;(have k:gG (s.only g) x=gG s x:=by cases x<;>rfl);simp only[rk]at e;simp only[jl,k]at a ⊢;split at e;{rename_i b o j;cases e;rw[j]at a ⊢;simp only at a ⊢;have:look (s.only (Z b)).bx b=look s.bx b:=by{simp only[St.only,o8,jo];cases h:look s.bx b<;>simp[look]};rw[this];exact a};{rename_i l j;rw[j]at a ⊢;exact a};cases e
theorem Jw{a:u Nat}{b:Nat}{d:M C}(h:look (s.only a).bx b=Z d):a=Z b/\look s.bx b=Z d:=by cases a with|none=>{simp[St.only,jo,look]at h}|some g=>simp only[St.only,o8,jo]at h;cases c:look s.bx g with|none=>{rw[c]at h;simp[look]at h}|some i=>rw[c]at h;simp only[look]at h;split at h;{rename_i e;subst e;exact⟨rfl,by rw[c];exact h⟩};cases h
def Tk(j:M (M Nat×(World->Prop)))(i:M (M Nat×Nat))(lst:Array Bool)(γ:Gh)(s:St)(w:World):Prop:=
 ∀p∈j,(∃m∈p.1,lst.getD m J=I)\/∃a c d,(∀e,Sq a d c e->p.2 e)/\Sq a d c w/\(∀g,a.h g<=γ.h g)/\∀b,d=Z b->γ.β b=a.β b/\(look s.bx b).isSome=I/\(p.1,b)∈i
theorem Tk.cons{a:M (M Nat×(World->Prop))}{i:M (M Nat×Nat)}{lst:Array Bool}(h:Tk a i lst γ s w):Cons a lst w:=by intro p j l;rcases h p j with ⟨m,n,e⟩|⟨c,g,r,q,o,_⟩;{rw[l m n]at e;cases e};exact q w o
theorem Tk.quiet{B:M (M Nat×(World->Prop))}{x:M (M Nat×Nat)}{lst:Array Bool}(h:Tk B x lst γ s w)(i:Nat)(y:M Nat)(g:u Nat)(d:u Nat)(c:C)(V:World->Prop)(H:∀t,Sq γ g w t->V t)(G:∀b,g=Z b->(look s.bx b).isSome=I) :
  Tk ((y,V)::B) (qp y x g) (lst.setIfInBounds i I) γ (s.put d c) w:=by (have r:(s.put d c).bx=s.bx:=by cases d<;>rfl);intro p o;rw[r];rcases aU.1 o with rfl|o;{refine .inr ⟨γ,w,g,H,⟨λ_ _ _=>rfl,λ_ _=>rfl⟩,λ_=>aI _,λb a=>⟨rfl,G b a,?_⟩⟩;subst a;simp[qp]};rcases h p o with ⟨m,F,e⟩|⟨j,l,n,Q,L,K,q⟩;{exact .inl ⟨m,F,getD_set_true e⟩};refine .inr ⟨j,l,n,Q,L,K,λb a=>⟨(q b a).1,(q b a).2.1,?_⟩⟩;have:=(q b a).2.2;cases g<;>simp[qp,this]
theorem Tk.OK{R:M (M Nat×(World->Prop))}{q:M (M Nat×Nat)}{lst:Array Bool}(h:Tk R q lst γ s w){j:Nat}(Y:j<lst.size)(hi:Inv γ h0 io w0 s f w){c:Gh}{C:World}{f':Fm}{F:St}{n:u Nat}{X:M Nat}(o:Tr n X γ w c C f f')
  (B:∀p∈kC j q,(p.2∉X/\(look F.bx p.2).isSome=I)/\¬n=Z p.2):Tk R (kC j q) (lst.setIfInBounds j I) c F C:=by intro p V;rcases h p V with ⟨m,W,e⟩|⟨x,y,G,h1,L,K,t⟩;{exact .inl ⟨m,W,getD_set_true e⟩};by_cases l:j∈p.1;{refine .inl ⟨j,l,?_⟩;simp[Array.getD,Y]};have r:∀b,G=Z b->(p.1,b)∈kC j q:=λb a=>by{simp only[kC,gF];exact⟨(t b a).2.2,by simpa using l⟩};refine .inr ⟨x,y,G,h1,⟨λg H Q=>(o.Yl.cell g H (bZ Q (K g))).trans (L.1 g H Q),λb a=>?_⟩,λg=>aV (K g) (o.h g),λb a=>⟨?_,(B _ (r b a)).1.2,r b a⟩⟩;{obtain⟨cs,Dm⟩:=cB.1 (t b a).2.1;obtain⟨T,vs,U,k2,S⟩:=hi.bx b cs Dm;rw[<- L.2 b a,<- (t b a).1];refine o.Yl.block _ U.lt ?_;rw[S];rintro⟨i,CY,e|e⟩;{cases e;exact (B _ (r b a)).1.1 CY};cases e};rw[o.β b (B _ (r b a)).2];exact (t b a).1
theorem pQ(mm:Cts w0 io P num cf)(vk:∀g ag ds q uP q',mf g ag ds q=Z (uP,q')->Ej w0 io P (num g) ag ds q uP q'){ops:Array Oper}{Kn:Fm->World->Prop} :
  ∀(t:KT) {kp:oy} {Cl:M (M Nat×(World->Prop))} {lst:Array Bool} {tk:M (M Nat×Nat)} {γ:Gh} {s s':St} {f:Fm} {w:World},Re P N num ops t=I->ib cf mf kp t tk s=Z s'->lst.size=ops.size->Tk Cl tk lst γ s w->Inv γ h0 io w0 s f w->(∀b,900<=b->γ.β b=β0 b)->
   (∀T V C,s'=T.ez kp->zC β0 h0 io w0 T V C->Kn V C)->Dv P N ops Kn Cl t.A8 lst f w
 | .nil,kp,Cl,lst,tk,γ,s,s',f,w,_,i,_,_,m,K,hk=>by simp only[ib,ao]at i;exact aoU (hk s f w i.symm ⟨γ,m,K⟩)
 | .op ⟨j,qt,al,Q,⟨d,l,S⟩⟩ t,kp,Cl,lst,tk,γ,s,s',f,w,h,i,lW,ht,m,K,hk=>by
  simp only[Re,aw]at h;obtain⟨h,vO⟩:=h;(have VD:(lst.setIfInBounds j I).size=ops.size:=by simpa using lW);split at h
  .rename_i o ho;have hjl:j<lst.size:=by rw[lW];exact (Array.getElem?_eq_some_iff.1 ho).1
   obtain⟨dst,op,ty,pos,aft,gd⟩:=o;simp only[aw,okI,beq_iff_eq,dE,cx,Option.isNone_iff_eq_none]at h;obtain⟨⟨⟨⟨⟨hdd,hd⟩,G⟩,L⟩,hqp⟩,hgd⟩:=h;subst hdd;cases qt with
   |true=>
    have hpu:l.qk=I:=by simpa using hqp
    simp only[hpu,if_true,aw]at L;obtain⟨d,rfl⟩:=cB.1 L.1;simp only[ib,if_true]at i;have go:∀c qb,jl s l=Z c->rk s l=Z qb->ib cf mf kp t (qp Q tk qb) (s.put (Z d) c)=Z s'->qT N ops f gd->Dv P N ops Kn Cl (.op (KD.A8 ⟨j,I,al,Q,⟨Z d,l,S⟩⟩) t.A8) lst f w:=by
     intro c qb R W i U;cases hld:l.QS with
     |true=>
      have Jf:Inv γ h0 io w0 (s.only qb) f w:=m.sub (λ_ _ h=>h) (λd c hl=>(Jw hl).2) (λd c hl=>by simp[St.only,look]at hl);obtain⟨v,k1,k2⟩:=ql (dst:=Z d) (ty:=ty) (pos:=pos) (aft:=aft) (gd:=gd) Jf L.2 (ZI hld W R);have alf:∀b,qb=Z b->(look s.bx b).isSome=I:=λb K=>by{subst K;cases l<;>simp[KO.QS]at hld;rotate_left;{simp[rk]at W};rename_i n x;simp only[rk]at W;split at W;{rename_i b' o hx;cases W;simp only[jl,hx]at R;cases hl:look s.bx b with|none=>{rw[hl]at R;cases R}|some cs=>rfl};{cases W};cases W}
      exact v_q rfl ho rfl U (Sq γ qb w) (λC hs=>k2 C (λ_=>⟨hs.1,λb cs hl=>hs.2 b (Jw hl).1,λr x hl=>by simp[St.only,look]at hl⟩)) ⟨λ_ _ _=>rfl,λ_ _=>rfl⟩
       (pQ mm vk t vO i VD (ht.quiet j Q qb (Z d) c _ (λ_ h=>h) alf) (m.put d c v k1) K hk)
     |false=>
      have eqb:qb=O:=by{cases l<;>simp[KO.QS]at hld<;>simpa [rk] using W.symm}
      subst eqb;obtain⟨v,k1,k2⟩:=ql (dst:=Z d) (ty:=ty) (pos:=pos) (aft:=aft) (gd:=gd) m L.2 R;exact v_q rfl ho rfl U (λ_=>True) (λC _=>k2 C (λh=>by rw[hld]at h;cases h)) trivial
       (pQ mm vk t vO i VD (ht.quiet j Q O (Z d) c _ (λ_ _=>trivial) (λb K=>by cases K)) (m.put d c v k1) K hk)
    (have skip:ib cf mf kp t tk (s.put (Z d) .wD)=Z s'->jP N ops f gd->Dv P N ops Kn Cl (.op (KD.A8 ⟨j,I,al,Q,⟨Z d,l,S⟩⟩) t.A8) lst f w:=by{intro i U;exact ajG rfl ho U (pQ mm vk t vO i VD (ht.quiet j Q O (Z d) .wD _ (λ_ _=>trivial) (λb K=>by cases K)) (m.put d .wD undef (by simp only[CR])) K hk)});cases S with|none=>{cases gd with|some x=>{simp[Rf]at G}|none=>simp only at i;split at i;{rename_i c b R W;exact go c b R W i wn};cases i}|some x=>obtain⟨g,F⟩:=x;cases gd with|none=>{simp[Rf]at G}|some y=>obtain⟨j',A3⟩:=y;(have X:A3=F:=by simp[Rf]at G;exact G.1);subst X;obtain⟨g1,g2,g3⟩:=q_ m G;simp only at i;split at i;{rename_i b Je;split at i;{rename_i KS;split at i;{rename_i c b' R W;exact go c b' R W i (g1 b Je KS)};cases i};rename_i KS;exact skip i (g2 b Je KS)};{rename_i hgu;exact skip i (g3 hgu)};cases i
   |false=>simp only[ib,nM,aL,if_false]at i;split at i;{rename_i T k;split at i;{rename_i jR;have QR:∀p∈kC j tk,(p.2∉gm s dst l/\(look T.bx p.2).isSome=I)/\¬dst=Z p.2:=λp hp=>by{have:=bG.1 jR p hp;simpa using this};(have next:∀H V C,Inv H h0 io w0 T V C->Tr dst (gm s dst l) γ w H C f V->Cons Cl (lst.setIfInBounds j I) C/\Dv P N ops Kn Cl t.A8 (lst.setIfInBounds j I) V C:=by{intro H V C i' tr;have Y:=ht.OK hjl m tr QR;refine⟨Y.cons,pQ mm vk t vO i VD Y i' (λb mJ=>?_) hk⟩;rw[tr.β b (λe=>by rw[e]at hd;simp at hd;omega)];exact K b mJ});have go:qT N ops f gd->DW cf mf s dst l=Z T->Dv P N ops Kn Cl (.op (KD.A8 ⟨j,J,al,Q,⟨dst,l,S⟩⟩) t.A8) lst f w:=by{intro U k;refine asg rfl ho U ?_;rcases Bx k with ⟨hp,c,R,rfl⟩|⟨hp,hn⟩;{simp only[hp,if_true,aw]at L;obtain⟨d,rfl⟩:=cB.1 L.1;obtain⟨v,k1,k2⟩:=ql (dst:=Z d) (ty:=ty) (pos:=pos) (aft:=aft) (gd:=gd) m L.2 R;exact cF (k2 w (λ_=>sG.refl _ _ _)) (next γ _ w (m.put d c v k1) ⟨Bc.refl _ _ _,λ_ _=>rfl,λ_=>aI _,.put⟩)};simp only[hp,aL,if_false]at L;exact wh mm vk m L hn next};have skip:jP N ops f gd->dst.isSome=I->T=s.put dst .wD->Dv P N ops Kn Cl (.op (KD.A8 ⟨j,J,al,Q,⟨dst,l,S⟩⟩) t.A8) lst f w:=by{intro U B e;subst e;obtain⟨d,rfl⟩:=cB.1 B;(have nx:=next γ _ w (m.put d .wD undef (by simp only[CR])) ⟨Bc.refl _ _ _,λ_ _=>rfl,λ_=>aI _,.put⟩);exact afb rfl ho U nx.1 nx.2};simp only[wR]at k;cases S with|none=>{cases gd with|none=>{exact go wn k}|some x=>simp[Rf]at G}|some x=>obtain⟨g,F⟩:=x;(have B:dst.isSome=I:=by rcases hgd with h|h;cases h;exact h);cases gd with|none=>{simp[Rf]at G}|some y=>obtain⟨j',A3⟩:=y;(have X:A3=F:=by simp[Rf]at G;exact G.1);subst X;obtain⟨g1,g2,g3⟩:=q_ m G;simp only at k;split at k;{rename_i b Je;split at k;{rename_i KS;exact go (g1 b Je KS) k};rename_i KS;simp only[ao]at k;exact skip (g2 b Je KS) B k.symm};{rename_i hgu;simp only[ao]at k;exact skip (g3 hgu) B k.symm};cases k};cases i};cases i
  cases h
 | .alt ⟨j,qt,al,Q,⟨d,l,S⟩⟩ t r,kp,Cl,lst,tk,γ,s,s',f,w,h,i,lW,ht,m,K,hk=>by simp only[Re,aw]at h;obtain⟨⟨h,vO⟩,hr⟩:=h;(have VD:(lst.setIfInBounds j I).size=ops.size:=by simpa using lW);have hee:nM cf mf ⟨j,qt,al,Q,⟨d,l,S⟩⟩ tk s (ib cf mf kp t)=Z s'/\ib cf mf kp r tk s=Z s':=by{simp only[ib,both]at i;split at i;{rename_i a b ha mJ;split at i;{rename_i hab;subst hab;cases i;exact⟨ha,mJ⟩};cases i};cases i};obtain⟨i,her⟩:=hee;split at h;{rename_i o ho;(have hjl:j<lst.size:=by rw[lW];exact (Array.getElem?_eq_some_iff.1 ho).1);obtain⟨dst,op,ty,pos,aft,gd⟩:=o;simp only[aw,okI,beq_iff_eq,cx,Option.isNone_iff_eq_none,dE]at h;obtain⟨⟨⟨⟨⟨hdd,hd⟩,G⟩,L⟩,hqp⟩,hgd⟩:=h;subst hdd;simp only[nM]at i;split at i;{rename_i T k;split at i;{rename_i jR;have QR:∀p∈kC j tk,(p.2∉gm s dst l/\(look T.bx p.2).isSome=I)/\¬dst=Z p.2:=λp hp=>by{have:=bG.1 jR p hp;simpa using this};(have next:∀H V C,Inv H h0 io w0 T V C->Tr dst (gm s dst l) γ w H C f V->Cons Cl (lst.setIfInBounds j I) C/\Dv P N ops Kn Cl t.A8 (lst.setIfInBounds j I) V C:=by{intro H V C i' tr;have Y:=ht.OK hjl m tr QR;refine⟨Y.cons,pQ mm vk t vO i VD Y i' (λb mJ=>?_) hk⟩;rw[tr.β b (λe=>by rw[e]at hd;simp at hd;omega)];exact K b mJ});have rest:=pQ mm vk r hr her lW ht m K hk;have go:qT N ops f gd->DW cf mf s dst l=Z T->Dv P N ops Kn Cl (.alt (KD.A8 ⟨j,qt,al,Q,⟨dst,l,S⟩⟩) t.A8 r.A8) lst f w:=by{intro U k;refine aoT (e:=KD.A8 ⟨j,qt,al,Q,⟨dst,l,S⟩⟩) ho U ?_ rest;rcases Bx k with ⟨hp,c,R,rfl⟩|⟨hp,hn⟩;{simp only[hp,if_true,aw]at L;obtain⟨d,rfl⟩:=cB.1 L.1;obtain⟨v,k1,k2⟩:=ql (dst:=Z d) (ty:=ty) (pos:=pos) (aft:=aft) (gd:=gd) m L.2 R;exact cF (k2 w (λ_=>sG.refl _ _ _)) (next γ _ w (m.put d c v k1) ⟨Bc.refl _ _ _,λ_ _=>rfl,λ_=>aI _,.put⟩)};simp only[hp,aL,if_false]at L;exact wh mm vk m L hn next};have skip:jP N ops f gd->dst.isSome=I->T=s.put dst .wD->Dv P N ops Kn Cl (.alt (KD.A8 ⟨j,qt,al,Q,⟨dst,l,S⟩⟩) t.A8 r.A8) lst f w:=by{intro U B e;subst e;obtain⟨d,rfl⟩:=cB.1 B;(have nx:=next γ _ w (m.put d .wD undef (by simp only[CR])) ⟨Bc.refl _ _ _,λ_ _=>rfl,λ_=>aI _,.put⟩);exact ajF (e:=KD.A8 ⟨j,qt,al,Q,⟨Z d,l,S⟩⟩) ho U nx.1 nx.2 rest};simp only[wR]at k;cases S with|none=>{cases gd with|none=>{exact go wn k}|some x=>simp[Rf]at G}|some x=>obtain⟨g,F⟩:=x;(have B:dst.isSome=I:=by rcases hgd with h|h;cases h;exact h);cases gd with|none=>{simp[Rf]at G}|some y=>obtain⟨j',A3⟩:=y;(have X:A3=F:=by simp[Rf]at G;exact G.1);subst X;obtain⟨g1,g2,g3⟩:=q_ m G;simp only at k;split at k;{rename_i b Je;split at k;{rename_i KS;exact go (g1 b Je KS) k};rename_i KS;simp only[ao]at k;exact skip (g2 b Je KS) B k.symm};{rename_i hgu;simp only[ao]at k;exact skip (g3 hgu) B k.symm};cases k};cases i};cases i};cases h
theorem gy(G:P.follows .mixedOrders=I)(F:Cts w0 io P num cf)(C:∀g ag ds q uP q',mf g ag ds q=Z (uP,q')->Ej w0 io P (num g) ag ds q uP q')(n:Nat):∀(k:K) (c:Code) {s:St} {f:Fm} {w:World} {e:Ex} {s':St},vl P N num k c=I->jj cf mf n k s=Z (e,s')->zC β0 h0 io w0 s f w->
  W P N c (λf w=>e=.norm/\zC β0 h0 io w0 s' f w) (λi f w=>e=.exit i/\zC β0 h0 io w0 s' f w) (λf w=>e=.ret/\zC β0 h0 io w0 s' f w) f w
 | .skip,c,s,f,w,e,s',v,h,B=>by cases c<;>simp[vl]at v;simp only[jj,ao,aP]at h;obtain⟨rfl,rfl⟩:=h;exact qu ⟨rfl,B⟩
 | .Uf Y kp,c,s,f,w,e,s',v,h,B=>by cases c with|region id ops draw=>{cases draw with|true=>{simp[vl]at v}|false=>simp only[vl]at v;simp only[jj]at h;split at h;{rename_i S H;simp only[ao,aP]at h;obtain⟨rfl,rfl⟩:=h;have hl:=td (Kn:=λf w=>Ex.norm=.norm/\zC β0 h0 io w0 (S.ez kp) f w) F C ops.toList Y v H B (λf' w' X=>⟨rfl,X.ez kp⟩);obtain⟨l⟩:=ops;exact dd (l:=l) hl};cases h}|skip=>{cases Y with|nil=>{simp only[jj,nh,ao,aP]at h;obtain⟨rfl,rfl⟩:=h;exact qu ⟨rfl,B.ez kp⟩}|cons i Y=>simp[vl]at v}|_=>simp[vl]at v
 | .Zh Y kp,c,s,f,w,e,s',v,h,⟨γ,B,Q⟩=>by cases c with|region id ops draw=>{cases draw with|false=>{simp[vl]at v}|true=>simp only[vl,aw,beq_iff_eq]at v;obtain⟨⟨⟨H,h2⟩,h3⟩,h4⟩:=v;simp only[jj]at h;split at h;{rename_i S h5;simp only[ao,aP]at h;obtain⟨rfl,rfl⟩:=h;have hd:=pQ (P:=P) (N:=N) (num:=num) (ops:=ops) (β0:=β0) (Kn:=λf w=>Ex.norm=.norm/\zC β0 h0 io w0 S f w) (Cl:=[]) (lst:=qv ops.size J) (tk:=[]) F C Y H h5 (by simp) (λp hp=>by simp at hp) B.drew Q (λs2 f' w' e X=>⟨rfl,by rw[e];exact X.ez kp⟩);obtain⟨l⟩:=ops;exact afc (l:=l) Y.A8 G h2 h3 h4 hd};cases h}|_=>simp[vl]at v
 | .seq a b,c,s,f,w,e,s',v,h,B=>by cases c with|seq R cb=>{simp only[vl,aw]at v;simp only[jj]at h;refine fh ?_;split at h;{rename_i S H;refine su (gy G F C n a R v.1 H B) (λf w o=>gy G F C n b cb v.2 h o.2) (λi f w o=>?_) (λf w o=>?_);{cases o.1};cases o.1};rename_i T;refine su (gy G F C n a R v.1 h B) (λf w o=>?_) (λi f w o=>o) (λf w o=>o);obtain⟨rfl,_⟩:=o;exact absurd h (T s')}|_=>obtain⟨d,Q,v⟩:∃d,b=.DN d .skip/\vl P N num a _=I:=by{cases b with|DN d V=>{cases V with|skip=>{exact⟨d,rfl,by simpa [vl] using v⟩}|_=>simp[vl]at v}|_=>simp[vl]at v};subst Q;simp only[jj]at h;split at h;{rename_i S H;split at h;{rename_i s2 h2;cases h;refine su (gy G F C n a _ v H B) (λf w o=>⟨rfl,?_⟩) (λi f w o=>by cases o.1) (λf w o=>by cases o.1);obtain⟨γ,i2,b2⟩:=o.2;obtain⟨L,i',V,_⟩:=i2.sI h2;exact⟨L,i',λb mJ=>by rw[V];exact b2 b mJ⟩};cases h};rename_i T;refine su (gy G F C n a _ v h B) (λf w o=>?_) (λi f w o=>o) (λf w o=>o);obtain⟨rfl,_⟩:=o;exact absurd h (T s')
 | .cond x a b,c,s,f,w,e,s',v,h,B=>by cases c with|cond y R cb=>{simp only[vl,aw]at v;obtain⟨⟨H,h2⟩,h3⟩:=v;simp only[jj]at h;obtain⟨γ,X,Q⟩:=B;have hv:=cZ X H;split at h;{rename_i t ht;rw[ht]at hv;have hv:=tN hv;cases t with|true=>{exact uH hv (gy G F C n a R h2 (by simpa using h) ⟨γ,X,Q⟩)}|false=>exact sr hv (gy G F C n b cb h3 (by simpa using h) ⟨γ,X,Q⟩)};cases h}|_=>simp[vl]at v
 | .block i a,c,s,f,w,e,s',v,h,B=>by cases c with|block j R=>{simp only[vl,aw,beq_iff_eq]at v;obtain⟨rfl,v⟩:=v;simp only[jj]at h;refine pE ?_;split at h;{rename_i i' S H;refine su (gy G F C n a R v H B) (λf w o=>by cases o.1) (λq f w o=>?_) (λf w o=>by cases o.1);obtain⟨e1,o⟩:=o;cases e1;split at h;{rename_i U;simp only[ao,aP]at h;obtain⟨rfl,rfl⟩:=h;rw[if_pos U];exact⟨rfl,o⟩};rename_i U;simp only[ao,aP]at h;obtain⟨rfl,rfl⟩:=h;rw[if_neg U];exact⟨rfl,o⟩};rename_i T;refine su (gy G F C n a R v h B) (λf w o=>o) (λq f w o=>?_) (λf w o=>o);obtain⟨rfl,_⟩:=o;exact absurd h (T q s')}|_=>simp[vl]at v
 | .loop a,c,s,f,w,e,s',v,h,B=>by cases c with|loop R=>{simp only[vl]at v;simp only[jj]at h;refine HF (λm f w=>∃s,zC β0 h0 io w0 s f w/\iter (jj cf mf n a) m s=Z (e,s')) n ⟨s,B,h⟩ ?_;rintro m f w ⟨s,B,h⟩;cases m with|zero=>{simp[iter]at h}|succ m=>simp only[iter]at h;split at h;{rename_i S H;refine su (gy G F C n a R v H B) (λf w o=>⟨m,by omega,S,o.2,h⟩) (λi f w o=>by cases o.1) (λf w o=>by cases o.1)};rename_i T;refine su (gy G F C n a R v h B) (λf w o=>?_) (λi f w o=>o) (λf w o=>o);obtain⟨rfl,_⟩:=o;exact absurd h (T s')}|_=>simp[vl]at v
 | .exit i,c,s,f,w,e,s',v,h,B=>by cases c<;>simp[vl]at v;subst v;simp only[jj,ao,aP]at h;obtain⟨rfl,rfl⟩:=h;exact HE ⟨rfl,B⟩
 | .ret,c,s,f,w,e,s',v,h,B=>by cases c<;>simp[vl]at v;simp only[jj,ao,aP]at h;obtain⟨rfl,rfl⟩:=h;exact wE ⟨rfl,B⟩
 | .share r a,c,s,f,w,e,s',v,h,⟨γ,B,Q⟩=>by have vM:vl P N num a c=I:=by{cases c<;>simpa [vl] using v};simp only[jj]at h;obtain⟨L,i',V,_⟩:=B.zg [r];exact gy G F C n a c vM h ⟨L,i',λb mJ=>by rw[V];exact Q b mJ⟩
 | .DN d a,c,s,f,w,e,s',v,h,⟨γ,B,Q⟩=>by have vM:vl P N num a c=I:=by{cases c<;>simpa [vl] using v};simp only[jj]at h;split at h;{rename_i S VC;obtain⟨L,i',V,_⟩:=B.sI VC;exact gy G F C n a c vM h ⟨L,i',λb mJ=>by rw[V];exact Q b mJ⟩};cases h
end
end
section
open Go.RowKit
def LV(P:Program)(N:Nat):ResultVar->KR->Bool
 | .tmp t,.t d=>t ==d && eP t N
 | .tmp t,.b d=>t ==d && eP t N
 | .cell a T,.c d n=>a ==d && eP a N && (if n=0 then J7 P T ==Z J else J7 P T ==Z I && qn P T ==Z n)
 |_,_=>J
def GN(P:Program)(N:Nat):M ResultVar->M KR->Bool
 |[],[]=>I
 |r::rs,k::a=>LV P N r k && GN P N rs a
 |_,_=>J
def okF(P:Program)(num:Nat->FuncId)(f:Nat)(a:KF):Bool:=
 match P.funcs[num f]? with
 |some fn=>match fn.body with
  |some c=>vl P fn.ntmps num a.body c && jX a.np fn.ntmps && GN P fn.ntmps fn.results.toList a.res
  |none=>J
 |none=>J
def sn(tmps:Array Value):ResultVar->Sem Value
 | .tmp t=>pure (tmps.getD t undef)
 | .cell a t=>do loadVar t (<- asAddr (tmps.getD a undef))
section
variable {P:Program} {γ:Gh} {h0:Nat->Nat} {io:M Nat} {w0:World} {s s':St} {f:Fm} {w:World} {N:Nat} {num:Nat->FuncId}
theorem abI(m:Inv γ h0 io w0 s f w){G:ResultVar}{kr:KR}{a:A}{l:M Nat}(k:LV P N G kr=I)(j:G9 s kr=Z (a,l)) :
  ∃i F,(sn (fr f N).tmps G).run P w=.ok i w/\AR γ.h w a i F/\(∀g∈F,∃r∈l,γ.ω g=.row r)/\(l.Nodup->F.Nodup):=by cases G with|tmp t=>{cases kr with|c d n=>{simp[LV]at k}|b d=>{simp[G9]at j}|t d=>simp only[LV,aw,beq_iff_eq]at k;obtain⟨rfl,L⟩:=k;(have D:t<N:=by simpa using L);simp only[G9,ay,aP]at j;obtain⟨vs,X,rfl,rfl⟩:=j;obtain⟨k1,k2,k3⟩:=(m.get t).cells (Uy X);obtain⟨F,x,q,p⟩:=zm m _ k1 X;refine⟨f t,F,by simp[sn,fr,D],?_,q,p⟩;simp only[AR];refine⟨_,x,λR=>?_,λR=>by rw[k2 R]⟩;obtain⟨us,e⟩:=k3 R;rw[e];simp[Value.cells]}|cell a0 T=>cases kr with|t d=>{simp[LV]at k}|b d=>{simp[LV]at k}|c d n=>simp only[LV,aw,beq_iff_eq]at k;obtain⟨⟨rfl,L⟩,y⟩:=k;(have D:a0<N:=by simpa using L);simp only[G9]at j;split at j;{rename_i b hb;have B:=m.get a0;rw[hb]at B;simp only[CR]at B;split at j;{rename_i cs hl;obtain⟨T',vs,h1,C,h3⟩:=m.bx b cs hl;have S:jZ w (γ.β b) 0 vs:=h1.W0;split at j;{rename_i Q;subst Q;simp only[if_true,beq_iff_eq]at y;split at j;{rename_i c;simp only[ay,aP]at j;obtain⟨Y,H,rfl,rfl⟩:=j;obtain⟨F,x,q,p⟩:=zm m _ C H;have W:=C.length;obtain⟨v,rfl⟩:=dm.1 W;have U:=S 0 v rfl;simp only[bF]at U;refine⟨v,F,?_,?_,q,p⟩;{simp[sn,fr,D,B,asAddr,loadVar,tm y,load,Sem.run,U]};simp only[AR];exact⟨[v],x,λh=>by simp at h,λ_=>rfl⟩};cases j};rename_i Q;simp only[if_neg Q,aw,beq_iff_eq]at y;split at j;{rename_i vK;simp only[ay,aP]at j;obtain⟨Y,H,rfl,rfl⟩:=j;obtain⟨F,x,q,p⟩:=zm m _ C H;have W:=C.length;have V:=run_loadCellsFrom (P:=P) (w:=w) (b:=γ.β b) (o:=0) vs 0 #[] (by simpa using S);(have K:vs.length=n:=by omega);rw[K]at V;refine⟨.agg vs.toArray,F,?_,?_,q,p⟩;{simp[sn,fr,D,B,asAddr,loadVar,tm y.1,run_sizeOf y.2,loadCells,V]};simp only[AR];exact⟨vs,x,λ_=>rfl,λh=>by simp at h⟩};cases j};cases j};cases j
theorem JM(t:Inv γ h0 io w0 s f w):∀(d:M ResultVar) (i:M KR) {as:M A} {l:M Nat},GN P N d i=I->yb s i=Z (as,l)->
  ∃k F,(d.mapM (sn (fr f N).tmps)).run P w=.ok k w/\kg γ.h w as k F/\(∀g∈F,∃r∈l,γ.ω g=.row r)/\(l.Nodup->F.Nodup)
 |[],[],as,l,_,j=>by simp only[yb,ao,aP]at j;obtain⟨rfl,rfl⟩:=j;exact⟨[],[],by simp,by simp[kg],λ_ h=>by simp at h,λ_=>by simp⟩
 |[],_::_,_,_,h,_=>by simp[GN]at h
 |_::_,[],_,_,h,_=>by simp[GN]at h
 |U::d,kr::i,as,l,h,j=>by simp only[GN,aw]at h;simp only[yb]at j;split at j;{rename_i a W T;simp only[ay]at j;obtain⟨⟨X,V⟩,S,x⟩:=j;simp only[aP]at x;obtain⟨rfl,rfl⟩:=x;obtain⟨c,B,K,G,y1,C⟩:=abI t h.1 T;obtain⟨k,y,H,D,y2,z2⟩:=JM t d i h.2 S;refine⟨c::k,B++y,by simp[K,H],?_,λg n=>?_,λp=>?_⟩;{simp only[kg];exact⟨c,k,B,y,rfl,rfl,G,D⟩};{rcases aZ.1 n with n|n;{obtain⟨r,m,o⟩:=y1 g n;exact⟨r,by simp[m],o⟩};obtain⟨r,m,o⟩:=y2 g n;exact⟨r,by simp[m],o⟩};rw[cI]at p;rw[cI];refine⟨C p.1,z2 p.2.1,?_⟩;intro a R b Q e;subst e;obtain⟨r,m,o⟩:=y1 a R;obtain⟨q,L,v⟩:=y2 a Q;rw[o]at v;cases v;exact p.2.2 r m r L rfl};cases j
theorem Q3(l:Inv γ h0 io w0 s f w){e:M ResultVar}{i:M KR}{args q outs:M A}(c:GN P N e i=I)(a:yR i args s=Z (q,outs)) :
  ∃k F,(e.mapM (sn (fr f N).tmps)).run P w=.ok k w/\kg γ.h w q k F/\(∀g∈F,γ.ω g≠.free)/\F.Nodup/\outs=[]/\args.all A.isVal=I:=by unfold yR at a;split at a;{rename_i d;split at a;{rename_i B;split at a;{rename_i b G;split at a;{rename_i Q D;split at a;{rename_i v;simp only[ay,aP]at a;obtain⟨vs,R,rfl,rfl⟩:=a;match e,c with|[.tmp t],c=>{simp only[GN,LV,aw,beq_iff_eq]at c;obtain⟨⟨rfl,C⟩,_⟩:=c;(have L:t<N:=by simpa using C);have n:=l.get t;rw[G]at n;simp only[CR]at n;obtain⟨T,k,K,H,o⟩:=l.bx b Q D;obtain⟨F,y,p,x⟩:=zm l _ H R;rw[uw]at v;refine⟨[f t],γ.β b::F,by simp[sn,fr,L],?_,?_,?_,rfl,B⟩;{simp only[kg,AR];exact⟨_,[],γ.β b::F,[],rfl,by simp,⟨_,T,k,F,n,K,l.nQ _ _ o,rfl,y⟩,rfl,rfl⟩};{intro g j;rcases aU.1 j with rfl|j;{rw[o];simp};obtain⟨r,_,m⟩:=p g j;rw[m];simp};refine cU.2 ⟨λj=>?_,x v⟩;obtain⟨r,_,m⟩:=p _ j;rw[o]at m;cases m}|[],c=>{simp[GN]at c}|[.cell _ _],c=>{simp[GN,LV]at c}|_::_::_,c=>simp[GN]at c};cases a};cases a};cases a};cases a};cases a
theorem OS:∀{args:M A} {vs:M Value},args.all A.isVal=I->ft args vs=[]
 |[],_,_=>by simp[ft]
 | .val _ _::as,[],_=>by simp[ft]
 | .val _ _::as,v::vs,h=>by rw[cK,aw]at h;simp only[ft];exact OS h.2
 | .box _::_,_,h=>by simp[A.isVal]at h
theorem Ct(x:Inv γ h0 io w0 s f w){w1:World}{h1:Nat->Nat}:∀(as:M A) {vs:M Value} {L:M Nat} (p:Nat) {outs:M A} {l:M Nat},wo s p as=Z (outs,l)->kg h1 w1 as vs L->(∀i H g,as[i]?=Z (.box H)->vs[i]?=Z (.pointer (Z ⟨g,0,O⟩))->γ.β (900+(p+i))=g)->
  ∃F,kg γ.h w outs (ft as vs) F/\(∀g∈F,(∃r∈l,γ.ω g=.row r)\/∃i,p<=i/\γ.ω g=.box (900+i))/\(l.Nodup->F.Nodup)
 |[],vs,L,p,outs,l,j,k,_=>by simp only[wo,ao,aP]at j;obtain⟨rfl,rfl⟩:=j;exact⟨[],by simp[kg,ft],λ_ h=>by simp at h,λ_=>by simp⟩
 | .val ag H::as,vs,L,p,outs,l,j,k,K=>by simp only[kg]at k;obtain⟨v,fu,F1,F2,rfl,rfl,_,k⟩:=k;simp only[wo,Xe,ay]at j;obtain⟨⟨l',r'⟩,U,B⟩:=j;simp only[av,aP]at B;obtain⟨rfl,rfl⟩:=B;obtain⟨F,R,o,Q⟩:=Ct x as (p+1) U k (λi S g c d=>by rw[show p+1+i=p+(i+1) from by omega];exact K (i+1) S g (by simpa using c) (by simpa using d));refine⟨F,by simpa only [ft] using R,λg m=>?_,Q⟩;rcases o g m with h|⟨i,c,d⟩;{exact .inl h};exact .inr ⟨i,by omega,d⟩
 | .box H::as,vs,L,p,outs,l,j,k,K=>by simp only[kg,AR]at k;obtain⟨v,fu,F1,F2,rfl,rfl,⟨G,T0,us0,F0',rfl,_⟩,k⟩:=k;simp only[wo,Xe]at j;split at j;{rename_i l1 r1 D;split at D;{rename_i XR hl;simp only[ay,aP]at D;obtain⟨rs,rU,rfl,rfl⟩:=D;simp only[ay]at j;obtain⟨⟨l',r'⟩,U,B⟩:=j;simp only[aP]at B;obtain⟨rfl,rfl⟩:=B;have y:=K 0 H G rfl rfl;rw[dG]at y;obtain⟨T,us,X,k2,n⟩:=x.bx (900+p) XR hl;obtain⟨W,y1,y2,y3⟩:=zm x _ k2 rU;obtain⟨F,R,o,Q⟩:=Ct x as (p+1) U k (λi S g c d=>by rw[show p+1+i=p+(i+1) from by omega];exact K (i+1) S g (by simpa using c) (by simpa using d));rw[y]at X n;refine⟨(G::W)++F,?_,λg m=>?_,λC=>?_⟩;{simp only[ft,ax,av,kg];refine⟨_,_,G::W,F,rfl,rfl,?_,R⟩;simp only[AR];exact⟨G,T,us,W,rfl,X,x.nQ _ _ n,rfl,y1⟩};{rcases aZ.1 m with m|m;{rcases aU.1 m with rfl|m;{exact .inr ⟨p,aI _,n⟩};obtain⟨r,t,c⟩:=y2 g m;exact .inl ⟨r,by simp[t],c⟩};rcases o g m with ⟨r,t,c⟩|⟨i,c,d⟩;{exact .inl ⟨r,by simp[t],c⟩};exact .inr ⟨i,by omega,d⟩};rw[cI]at C;rw[cI];refine⟨cU.2 ⟨λhm=>?_,y3 C.1⟩,Q C.2.1,?_⟩;{obtain⟨r,_,c⟩:=y2 _ hm;rw[n]at c;cases c};intro a V b Y e;subst e;rcases aU.1 V with rfl|V;{rcases o _ Y with ⟨r,_,c⟩|⟨i,c,d⟩;{rw[n]at c;cases c};rw[n]at d;simp only[Own.box.injEq]at d;omega};obtain⟨r,t,c⟩:=y2 a V;rcases o a Y with ⟨q,hq,d⟩|⟨i,_,d⟩;{rw[c]at d;cases d;exact C.2.2 r t r hq rfl};rw[c]at d;cases d};cases D};cases j
theorem C6{fn:Func}{a:M Value}(h:(fn.results.toList.mapM (sn (fr f N).tmps)).run P w=.ok a w):∃v,(results fn (fr f N).tmps).run P w=.ok v w/\UK a v:=by
 have c:(fn.results.mapM (sn (fr f N).tmps)).run P w=.ok a.toArray w:=by{rw[Array.mapM_eq_mapM_toList];simp[h]}
 have e:results fn (fr f N).tmps=(do
   let vs <- fn.results.mapM (sn (fr f N).tmps)
   pure (if h:vs.size=1 then vs[0] else .tuple vs)):=by
  unfold results
  congr 1
 rw[e];simp only[Sem.run_bind,c,Result.andThen_ok,Sem.run_pure];by_cases b:a.length=1;{obtain⟨v,rfl⟩:=dm.1 b;exact⟨v,by simp,.inl rfl⟩};exact⟨.tuple a.toArray,by simp[b],.inr ⟨b,rfl⟩⟩
end
theorem Vj{P:Program}{num:Nat->FuncId}{cf:Nat->M A->u (M A×M A)}{mf:Nat->Bool->M D->Int->u (M D×Int)}(hm:P.follows .mixedOrders=I)(hj:Yk P num)(mm:∀g a r o,cf g a=Z (r,o)->pK P (num g) a r o)(vk:∀g X W q T U,mf g X W q=Z (T,U)->P7 P (num g) X W q T U){n f:Nat}{V:KF}(L:okF P num f V=I){args rs outs:M A}(p:Iq cf mf n V args=Z (rs,outs)):pK P (num f) args rs outs:=by
  unfold Iq at p;split at p
  .rename_i hnp;unfold okF at L;split at L
   .rename_i fn yr;split at L
    .rename_i c hc;simp only[aw]at L;obtain⟨⟨R,alk⟩,Q⟩:=L;intro w h vs F hL C ju gf fN;have MN:vs.length=args.length:=by{clear R alk Q p hnp ju gf hL;induction args generalizing vs F with|nil=>{simp only[kg]at C;simp[C.1]}|cons a as ih=>simp only[kg]at C;obtain⟨v,fu,G,Y,rfl,rfl,_,C⟩:=C;simp[ih _ _ C]}
     refine enter (N:=fn.ntmps) yr hc rfl (by simp only[tH,MN,hnp];exact alk) ?_;have i0:Inv ⟨h,λ_=>0,λ_=>undef,λg=>if g∈F then .fK else .free⟩ h F w ⟨[],[],[]⟩ (λi=>vs.toArray.getD i undef) w:={
      sl:=λd c hl=>by simp[look]at hl
      bx:=λd c hl=>by simp[look]at hl
      rw:=λd c hl=>by simp[look]at hl
      own:=λg k=>by
       by_cases hF:g∈F
       .exact⟨gf g hF,.inr hF⟩
       .simp[hF]at k
      nQ:=λg b k=>by dsimp only at k;split at k<;>cases k
      fN:=fN,os:=rfl,tape:=rfl,output:=rfl,size:=aI _,frame:=λ_ _ _=>rfl,cell:=λ_ _ _ _=>rfl,mono:=λ_ _=>aI _,hold:=λ_ _ _=>rfl,jq:=λ_ h=>h }
     obtain⟨oZ,i1,e1,p1,x1⟩:=vD args 0 i0 C ju (λg k=>⟨.inr (by simp[k]),gf g k,.inr k⟩) (λi v hv=>by rw[bF];have:=(br.1 hv);obtain⟨hil,hiv⟩:=this;simp[hil,hiv]);(have fin:∀(s:St) y m,leave V args s=Z (rs,outs)->zC oZ.β h F w s y m->∃v,(results fn (fr y fn.ntmps).tmps).run P m=.ok v m/\∃v' S G Y h',Ending.returned v=.returned v'/\UK S v'/\kg h' m rs S G/\kg h' m outs (ft args vs) Y/\(G++Y).Nodup/\(∀g∈G++Y,(w.heap.size<=g\/g∈F)/\g<m.heap.size)/\ye h F w m h':=by{intro s y m t ⟨γ,j,hb⟩;unfold leave at t;split at t;{rename_i G_ l outs' l' hr1 hr2;split at t;{rename_i hn;rw[uw]at hn;simp only[ao,aP]at t;obtain⟨rfl,rfl⟩:=t;obtain⟨S,G,k1,k2,k3,k4⟩:=JM j fn.results.toList V.res Q hr1;obtain⟨Y,y1,y2,y3⟩:=Ct j args 0 hr2 C (λi cs g B K=>by rw[hb _ (by omega)];exact x1 i cs g B K);obtain⟨v,z1,z2⟩:=C6 k1;rw[cI]at hn;refine⟨v,z1,v,S,G,Y,γ.h,rfl,z2,k2,y1,?_,λg k=>?_,⟨j.os,j.tape,j.output,j.size,j.frame,j.cell,j.mono,j.hold,j.fN,j.jq⟩⟩;{rw[cI];refine⟨k4 hn.1,y3 hn.2.1,?_⟩;intro a ha b mJ e;subst e;obtain⟨r,hr,B⟩:=k3 a ha;rcases y2 a mJ with ⟨q,hq,K⟩|⟨i,_,K⟩;{rw[B]at K;cases K;exact hn.2.2 r hr r hq rfl};rw[B]at K;cases K};have iG:γ.ω g≠.free:=by{rcases aZ.1 k with k|k;{obtain⟨r,_,B⟩:=k3 g k;rw[B];simp};rcases y2 g k with ⟨r,_,B⟩|⟨i,_,B⟩<;>rw[B]<;>simp};exact⟨(j.own g iG).2,(j.own g iG).1⟩};cases t};obtain⟨S,G,k1,k2,k3,k4,rfl,k5⟩:=Q3 j Q t;obtain⟨v,z1,z2⟩:=C6 k1;refine⟨v,z1,v,S,G,[],γ.h,rfl,z2,k2,?_,by rw[aH];exact k4,λg k=>?_,⟨j.os,j.tape,j.output,j.size,j.frame,j.cell,j.mono,j.hold,j.fN,j.jq⟩⟩;{rw[OS k5];simp[kg]};rw[aH]at k;exact⟨(j.own g (k3 g k)).2,(j.own g (k3 g k)).1⟩});split at p;{rename_i s H;refine su (gy (β0:=oZ.β) hm ⟨λg a r o p=>(mm g a r o p).at_ hL,hj⟩ (λg X W q T U p=>(vk g X W q T U p).at_ hL) n V.body c R H ⟨oZ,i1,λ_ _=>rfl⟩) (λy m x=>fin s y m p x.2) (λi y m x=>by cases x.1) (λy m x=>by cases x.1)};{rename_i s H;refine su (gy (β0:=oZ.β) hm ⟨λg a r o p=>(mm g a r o p).at_ hL,hj⟩ (λg X W q T U p=>(vk g X W q T U p).at_ hL) n V.body c R H ⟨oZ,i1,λ_ _=>rfl⟩) (λy m x=>by cases x.1) (λi y m x=>by cases x.1) (λy m x=>fin s y m p x.2)};cases p
    cases L
   cases L
  cases p
def OkK(P:Program)(num:Nat->FuncId)(f:Nat)(a:KF):Prop:=
 (a.np≠999->okF P num f a=I)/\(a.np=999->∀args b outs,XT f args=Z (b,outs)->pK P (num f) args b outs)
def OkK.of{P:Program}{num:Nat->FuncId}{f:Nat}{a:KF}(h:okF P num f a=I)(c:eP a.np 999=I):OkK P num f a:=
 ⟨λ_=>h,λe=>by rw[e]at c;cases c⟩
def OkK.ext{P:Program}{num:Nat->FuncId}{f:Nat}{b:K}{r:M KR}(h:∀args a outs,XT f args=Z (a,outs)->pK P (num f) args a outs):OkK P num f ⟨999,b,r⟩:=
 ⟨λe=>absurd rfl e,λ_=>h⟩
theorem Bw{P:Program}{num:Nat->FuncId}{T:Nat->u KF}(k:P.follows .mixedOrders=I)(l:Yk P num)(j:∀f d,T f=Z d->OkK P num f d) :
  ∀(n f:Nat) (args c outs:M A),CU T n f args=Z (c,outs)->pK P (num f) args c outs
 |0,f,args,c,outs,b=>by simp[CU]at b
 |n+1,f,args,c,outs,b=>by simp only[CU]at b;split at b;{cases b};rename_i d e;split at b;{rename_i i;exact (j f d e).2 i args c outs b};rename_i i;exact Vj k l (λg a r o=>Bw k l j n g a r o) (λg t s q m p h=>by cases h) ((j f d e).1 i) b
end
section
open Go.RowKit
inductive MC where
 |lst
 |ep (i o:Nat)
 |hd (i o:Nat)
 |sub (i o n:Nat)
 |non
def MC.aa_:MC->MC
 | .sub _ _ _=>.non
 |c=>c
structure MS where
 s:St
 sp:List (Nat×MC)
 es:List (List D)
def MS.spx(m:MS):KX->u MC
 | .s d=>look m.sp d
 | .k _=>O
def MS.put(m:MS)(d:Nat)(c:C):MS:=⟨m.s.put (Z d) c,sy m.sp d,m.es⟩
def MS.Rn(m:MS)(d:Nat)(c:MC):MS:=⟨m.s.put (Z d) .any,(d,c)::sy m.sp d,m.es⟩
def MS.set(m:MS)(i o:Nat)(a:M D):MS:=⟨m.s,m.sp,match nth m.es i with
 |some e=>m.es.set i (nS e o a)
 |none=>m.es⟩
def MS.aa_(m:MS):MS:=⟨m.s,m.sp.map λp=>(p.1,p.2.aa_),m.es⟩
def MS.ez(m:MS)(a:oy):MS:=⟨m.s.ez a,jo m.sp a.s,m.es⟩
def MS.at_(m:MS)(i o:Nat):u D:=match nth m.es i with
 |some e=>nth e o
 |none=>O
def abi:M C->u (M A)
 |[]=>Z []
 | .d x::cs=>if D.plain x then (abi cs).map (.val J [.d x]::·) else O
 |_=>O
section
variable (cf:Nat->M A->u (M A×M A)) (mf:Nat->Bool->M D->Int->u (M D×Int)) (own:Bool) (k:Nat)
def U9(m:MS)(d f:Nat)(a:M KX):u MS:=
 match abi (a.map (gG m.s)) with
 |some as=>match cf f as with
  |some ([.val J [.d r]],[])=>if D.plain r then Z (m.put d (.d r)) else O
  |_=>O
 |none=>O
def U8(m:MS)(d f:Nat)(c:MC)(y:C):u MS:=
 match c,y with
 | .hd i o,.d (.int .i64 q)=>match m.at_ i o with
  |some (.list k g es)=>match mf f J [.list k g es] q with
   |some ([b],a)=>Z ((m.set i o [b]).put d (.d (.int .i64 a)))
   |_=>O
  |_=>O
 | .sub i o n,.d (.int .i64 q)=>match nth m.es i with
  |some e=>match mf f I ((e.drop o).take n) q with
   |some (xs,a)=>if o+n<=e.length/\xs.length=n then Z ((m.set i o xs).put d (.d (.int .i64 a))) else O
   |none=>O
  |none=>O
 |_,_=>O
def Qx(m:MS)(d:Nat):KO->u MS
 | .mv x=>match m.spx x with
  |some c=>Z (m.Rn d c)
  |none=>Z (m.put d (gG m.s x))
 | .len x=>match m.spx x with
  |some .lst=>Z (m.put d (.d (.int .i64 m.es.length)))
  |_=>O
 | .ia a x y=>match m.spx x,gG m.s y with
  |some .lst,.d (.int .i64 n)=>if a=k/\0<=n/\n.toNat<m.es.length then Z (m.Rn d (.ep n.toNat 0)) else O
  |_,_=>O
 | .fa o x=>match m.spx x with
  |some (.ep i p)=>Z (m.Rn d (.ep i (p+o)))
  |_=>O
 | .ld n x=>match m.spx x with
  |some (.ep i o)=>if n=0 then (match m.at_ i o with
    |some (.list _ _ _)=>Z (m.Rn d (.hd i o))
    |_=>O) else (match nth m.es i with
    |some e=>if o+n<=e.length then Z (m.Rn d (.sub i o n)) else O
    |none=>O)
  |_=>O
 | .call f xs=>match xs with
  |[x,y]=>(match m.spx x with
   |some c=>U8 mf m d f c (gG m.s y)
   |none=>U9 cf m d f xs)
  |_=>U9 cf m d f xs
 |op=>if op.qk then (jl m.s op).map (m.put d) else O
def apn(m:MS):KO->u MS
 | .st n x y=>match m.spx x,gG m.s y with
  |some (.ep i o),.d v=>match m.at_ i o with
   |some c=>if n=1/\own=I/\D.plain c=I/\D.plain v=I then Z (m.set i o [v]).aa_ else O
   |none=>O
  |_,_=>O
 |_=>O
def ac5(m:MS)(i:KI):u MS:=
 match i.gd with
 |some _=>O
 |none=>match i.dst with
  |some d=>Qx cf mf k m d i.op
  |none=>apn own m i.op
def H9:M KI->MS->u MS
 |[],m=>Z m
 |i::is,m=>match ac5 cf mf own k m i with
  |some a=>H9 is a
  |none=>O
def iterM(f:MS->u (Ex×MS)):Nat->MS->u (Ex×MS)
 |0,_=>O
 |n+1,s=>match f s with
  |some (.norm,a)=>iterM f n a
  |r=>r
def lC(n:Nat):K->MS->u (Ex×MS)
 | .skip,m=>Z (.norm,m)
 | .Uf ops f,m=>match H9 cf mf own k ops m with
  |some e=>Z (.norm,e.ez f)
  |none=>O
 | .seq a b,m=>match lC n a m with
  |some (.norm,e)=>lC n b e
  |r=>r
 | .cond c a b,m=>match gG m.s c with
  | .d (.bool t)=>if t then lC n a m else lC n b m
  |_=>O
 | .block id a,m=>match lC n a m with
  |some (.exit i,e)=>if i=id then Z (.norm,e) else Z (.exit i,e)
  |r=>r
 | .loop a,m=>iterM (lC n a) n m
 | .exit id,m=>Z (.exit id,m)
 | .ret,m=>Z (.ret,m)
 |_,_=>O
end
def Xf(r:Nat):u (Ex×MS)->u (M (M D)×Int)
 |some (.norm,m)=>(match m.s.get r with
  | .d (.int .i64 q)=>Z (m.es,q)
  |_=>O)
 |some (.ret,m)=>(match m.s.get r with
  | .d (.int .i64 q)=>Z (m.es,q)
  |_=>O)
 |_=>O
noncomputable def SL(T:Nat->u KF):Nat->Nat->Bool->M D->Int->u (M D×Int)
 |0,_,_,_,_=>O
 |n+1,f,h,cells,q=>match T f with
  |some ⟨2,body,[.t r]⟩=>
   if h then (match body with
    | .seq (.Uf (⟨Z b,.box (.s 0),O⟩::is) e) i=>
     (match H9 (CU T n) (SL T n) J cells.length is (MS.Rn ⟨⟨[(1,.d (.int .i64 q))],[],[]⟩,[],[cells]⟩ b (.ep 0 0)) with
     |some m=>(match Xf r (lC (CU T n) (SL T n) J cells.length n i (m.ez e)) with
      |some ([Bl],a)=>Z (Bl,a)
      |_=>O)
     |none=>O)
    |_=>O)
   else (match cells with
    |[.list k g es]=>(match Xf r (lC (CU T n) (SL T n) I k n body ⟨⟨[(1,.d (.int .i64 q))],[],[]⟩,[(0,.lst)],es⟩) with
     |some (c,a)=>Z ([.list k g c],a)
     |none=>O)
    |_=>O)
  |_=>O
theorem uO.length{w:World}:∀(a:M D) {vs:M Value} {b:M Fp},uO w a vs b->vs.length=a.length/\b.length=a.length
 |[],_,_,h=>by simp only[uO]at h;simp[h.1,h.2]
 |d::a,_,_,h=>by simp only[uO]at h;obtain⟨v,g,F,e,rfl,rfl,f,c⟩:=h;simp[uO.length a c]
theorem uO.append{w:World}:∀(a:M D) {es:M D} {vs c:M Value} {e Gs:M Fp},uO w a vs e->uO w es c Gs->uO w (a++es) (vs++c) (e++Gs)
 |[],_,_,_,_,_,h,b=>by simp only[uO]at h;obtain⟨rfl,rfl⟩:=h;simpa using b
 |d::a,_,_,_,_,_,h,b=>by simp only[uO]at h;obtain⟨v,j,F,i,rfl,rfl,g,f⟩:=h;simp only[ax,uO];exact⟨v,_,F,_,rfl,rfl,g,uO.append a f b⟩
theorem uO.drop{w:World}:∀(a:M D) {vs:M Value} {b:M Fp} (n:Nat),uO w a vs b->uO w (a.drop n) (vs.drop n) (b.drop n)
 |_,_,_,0,h=>by simpa using h
 |[],_,_,n+1,h=>by simp only[uO]at h;simp[uO,h.1,h.2]
 |d::a,_,_,n+1,h=>by simp only[uO]at h;obtain⟨v,g,F,e,rfl,rfl,f,c⟩:=h;simpa using uO.drop a n c
theorem uO.take{w:World}:∀(a:M D) {vs:M Value} {b:M Fp} (n:Nat),uO w a vs b->uO w (a.take n) (vs.take n) (b.take n)
 |_,_,_,0,h=>by simp[uO]
 |[],_,_,n+1,h=>by simp only[uO]at h;simp[uO,h.1,h.2]
 |d::a,_,_,n+1,h=>by simp only[uO]at h;obtain⟨v,g,F,f,rfl,rfl,e,c⟩:=h;simp only[cT,uO];exact⟨v,_,F,_,rfl,rfl,e,uO.take a n c⟩
theorem uO.ez{w f:World}:∀(a:M D) {vs:M Value} {e:M Fp},uO w a vs e->(∀F∈e,∀b∈F,f.heap[b.1]?=w.heap[b.1]?)->uO f a vs e
 |[],_,_,h,_=>by simpa only [uO] using h
 |d::a,_,_,h,g=>by simp only[uO]at h ⊢;obtain⟨v,n,F,c,rfl,rfl,m,l⟩:=h;exact⟨v,n,F,c,rfl,rfl,m.ez d (λb i j _=>World.cell?_of_block (w:=w) (g F (by simp) b i)),uO.ez a l (λG k=>g G (by simp[k]))⟩
end
section
open Go.RowKit
structure Tree where
 g:Nat
 p:Nat
 k:Nat
 n:Nat
 Fs:List Fp
 hv:List Value
 pl:List Bool
 ro:Bool
end
section
open Go.RowKit
section
variable {P:Program} {N:Nat} {t:Tree} {own:Bool} {h:Nat->Nat} {F:M Nat} {w0:World} {m:MS} {f:Fm} {w w':World}
variable {num:Nat->FuncId} {cf:Nat->M A->u (M A×M A)} {mf:Nat->Bool->M D->Int->u (M D×Int)} {K':Fm->World->Prop} {d:Nat} {ty:TypeId} {pos:String} {aft:Array Edge} {gd:u (Nat×Bool)} {m':MS}
end
end
section
open Go.RowKit
end
section
open Go.RowKit
end
abbrev Cf:=Nat->M A->u (M A×M A)
abbrev Mf:=Nat->Bool->M D->Int->u (M D×Int)
inductive Qu where
 |c (f:Nat) (a:List A) (r:List A×List A)
 |m (f:Nat) (g:Bool) (ds:List D) (q:Int) (r:List D×Int)
def Qu.ok(i:Cf)(e:Mf):Qu->Prop
 | .c f a r=>i f a=Z r
 | .m f g h q r=>e f g h q=Z r
abbrev Eh:=M Qu
def Told(b:Cf)(a:Mf)(L:Eh):Prop:=∀t∈L,t.ok b a
def Told.nil{c:Cf}{a:Mf}:Told c a []:=λ_ h=>by simp at h
def Told.left{e:Cf}{c:Mf}{L a:Eh}(h:Told e c (L++a)):Told e c L:=λt f=>h t (by simp[f])
def Told.right{e:Cf}{c:Mf}{L a:Eh}(h:Told e c (L++a)):Told e c a:=λt f=>h t (by simp[f])
def Told.append{f:Cf}{e:Mf}{L a:Eh}(h:Told f e L)(g:Told f e a):Told f e (L++a):=λt c=>by rcases aZ.1 c with c|c;{exact h t c};exact g t c
section
variable {cf:Cf} {mf:Mf}
theorem M0{f:Nat}{i:Bool}:∀{es:M (M D)} {a:M A} {r:M A×M A},vt (cf f) i es a=Z r->∃L,Told cf mf L/\∀(j:Cf) (l:Mf),Told j l L->vt (j f) i es a=Z r
 |[],a,r,h=>⟨[],Told.nil,λ_ _ _=>h⟩
 |e::es,a,r,h=>by simp only[vt]at h;split at h;{rename_i b outs n;split at h;{rename_i o;cases b with|true=>{refine⟨[.c f (.val i (e.map .d)::a) ([.val J [.d (.bool I)]],outs)],λt g=>by simp at g;subst g;exact n,λj l k=>?_⟩;have m:j f (.val i (e.map .d)::a)=Z ([.val J [.d (.bool I)]],outs):=k (.c f (.val i (e.map .d)::a) ([.val J [.d (.bool I)]],outs)) (by simp);simp only[vt,m];rw[if_pos o];exact h}|false=>obtain⟨L,m,q⟩:=M0 (r:=r) h;refine⟨.c f (.val i (e.map .d)::a) ([.val J [.d (.bool J)]],outs)::L,λt g=>?_,λj l k=>?_⟩;{rcases aU.1 g with rfl|g;{exact n};exact m t g};have p:j f (.val i (e.map .d)::a)=Z ([.val J [.d (.bool J)]],outs):=k (.c f (.val i (e.map .d)::a) ([.val J [.d (.bool J)]],outs)) (by simp);simp only[vt,p];rw[if_pos o];exact q j l λt g=>k t (by simp[g])};cases h};cases h
theorem Yn{f:Nat}{c:Bool}{as:M A}{r:M A×M A}(h:yh c (cf f) as=Z r):∃L,Told cf mf L/\∀(b:Cf) (e:Mf),Told b e L->yh c (b f) as=Z r:=by unfold yh at h;split at h;{rename_i k m es l;by_cases d:k=(if c=I then 3 else 1)/\l.all (λa=>!a.isVal)=I;{rw[if_pos d]at h;obtain⟨L,i,g⟩:=M0 (mf:=mf) h;exact⟨L,i,λb e j=>by simp only[yh];rw[if_pos d];exact g b e j⟩};rw[if_neg d]at h;cases h};cases h
theorem ac7{s n:St}{d:u Nat}{o:KO}(a:ml cf mf s d o=Z n):∃L,Told cf mf L/\∀(e:Cf) (g:Mf),Told e g L->ml e g s d o=Z n:=by cases o with|call f p=>{simp only[ml,nW]at a;split at a;{cases a};rename_i as has;split at a;{rename_i k;split at a;{cases a};rename_i m outs i;refine⟨[.c f as (m,outs)],λt j=>by simp at j;subst j;exact i,λe g h=>?_⟩;have l:e f as=Z (m,outs):=h (.c f as (m,outs)) (by simp);simp only[ml,nW,has,k,if_true,l];exact a};cases a}|cbx f p=>{simp only[ml]at a;split at a;{rename_i b as has;split at a;{rename_i k;split at a;{rename_i vs i;refine⟨[.c f as ([.box vs],[])],λt j=>by simp at j;subst j;exact i,λe g h=>?_⟩;have l:e f as=Z ([.box vs],[]):=h (.c f as ([.box vs],[])) (by simp);simp only[ml,has,k,if_true,l];exact a};cases a};cases a};cases a}|MI w f F x y=>{simp only[ml]at a;split at a;{rename_i B A q;split at a;{rename_i r;simp only[nW]at a;split at a;{cases a};rename_i as has;split at a;{rename_i k;split at a;{cases a};rename_i m outs i;obtain⟨L,l,v⟩:=Yn (mf:=mf) i;refine⟨L,l,λe g h=>?_⟩;simp only[ml,q,if_pos r,nW,has,k,if_true,v e g h];exact a};cases a};cases a};cases a}|_=>exact⟨[],Told.nil,λe g _=>a⟩
theorem SM{s f:St}{d:u Nat}{o:KO}(c:DW cf mf s d o=Z f):∃L,Told cf mf L/\∀(b:Cf) (a:Mf),Told b a L->DW b a s d o=Z f:=by unfold DW at c;split at c;{rename_i e;exact⟨[],Told.nil,λb a _=>by simp only[DW,e,if_true];exact c⟩};rename_i e;obtain⟨L,i,g⟩:=ac7 c;exact⟨L,i,λb a h=>by simp only[DW,e];exact g b a h⟩
theorem Kz{s d:St}{i:KI}(a:wR cf mf s i=Z d):∃L,Told cf mf L/\∀(c:Cf) (b:Mf),Told c b L->wR c b s i=Z d:=by unfold wR at a ⊢;split at a;{exact SM a};split at a;{split at a;{obtain⟨L,e,f⟩:=SM a;exact⟨L,e,λc b h=>by simp_all⟩};exact⟨[],Told.nil,λc b _=>by simp_all⟩};{exact⟨[],Told.nil,λc b _=>by simp_all⟩};cases a
theorem I7:∀(f:M KI) {s e:St},nh cf mf f s=Z e->∃L,Told cf mf L/\∀(d:Cf) (c:Mf),Told d c L->nh d c f s=Z e
 |[],s,e,b=>⟨[],Told.nil,λd c _=>b⟩
 |i::f,s,e,b=>by simp only[nh]at b;split at b;{rename_i l g;obtain⟨L,a1,a2⟩:=Kz g;obtain⟨a,k,j⟩:=I7 f b;exact⟨L++a,a1.append k,λd c h=>by simp only[nh,a2 d c h.left,j d c h.right]⟩};cases b
theorem oA:∀(l:KT) {o:oy} {m:M (M Nat×Nat)} {s n:St},ib cf mf o l m s=Z n->∃L,Told cf mf L/\∀(k:Cf) (f:Mf),Told k f L->ib k f o l m s=Z n
 | .nil,o,m,s,n,e=>⟨[],Told.nil,λk f _=>e⟩
 | .op ⟨j,q,X,V,i⟩ l,o,m,s,n,e=>by simp only[ib]at e;cases q with|true=>{simp only[if_true]at e;split at e;{rename_i p;split at e;{rename_i c b A B;obtain⟨L,a1,a2⟩:=oA l e;exact⟨L,a1,λk f h=>by simp only[ib,if_true,p,A,B];exact a2 k f h⟩};cases e};rename_i g K p;split at e;{rename_i b N;split at e;{rename_i H;split at e;{rename_i c W A B;obtain⟨L,a1,a2⟩:=oA l e;exact⟨L,a1,λk f h=>by simp only[ib,if_true,p,N,H,A,B];exact a2 k f h⟩};cases e};rename_i H;obtain⟨L,a1,a2⟩:=oA l e;exact⟨L,a1,λk f h=>by simp only[ib,if_true,p,N,H,if_false];exact a2 k f h⟩};{rename_i v;obtain⟨L,a1,a2⟩:=oA l e;exact⟨L,a1,λk f h=>by simp only[ib,if_true,p,v];exact a2 k f h⟩};cases e}|false=>simp only[nM,aL,if_false]at e;split at e;{rename_i P D;split at e;{rename_i t;obtain⟨L,a1,a2⟩:=Kz D;obtain⟨d,G,F⟩:=oA l e;exact⟨L++d,a1.append G,λk f h=>by simp only[ib,nM,aL,if_false,a2 k f h.left,t,if_true];exact F k f h.right⟩};cases e};cases e
 | .alt x l r,o,m,s,n,e=>by have y:nM cf mf x m s (ib cf mf o l)=Z n/\ib cf mf o r m s=Z n:=by{simp only[ib,both]at e;split at e;{rename_i a b U T;split at e;{rename_i C;subst C;cases e;exact⟨U,T⟩};cases e};cases e};obtain⟨e,w⟩:=y;obtain⟨R,S,Q⟩:=oA r w;simp only[nM]at e;split at e;{rename_i P D;split at e;{rename_i t;obtain⟨L,a1,a2⟩:=Kz D;obtain⟨d,G,F⟩:=oA l e;refine⟨(L++d)++R,(a1.append G).append S,λk f h=>?_⟩;simp only[ib,nM,a2 k f h.left.left,t,if_true,F k f h.left.right,Q k f h.right,both]};cases e};cases e
theorem kq:∀(k:K) {n:Nat} {s:St} {r:Ex×St},jj cf mf n k s=Z r->∃L,Told cf mf L/\∀(l:Cf) (j:Mf) (o:Nat),Told l j L->n<=o->jj l j o k s=Z r
 | .skip,n,s,r,g=>⟨[],Told.nil,λl j o _ _=>by simpa [jj] using g⟩
 | .Uf is H,n,s,r,g=>by simp only[jj]at g;split at g;{rename_i y q;obtain⟨L,a1,a2⟩:=I7 is q;exact⟨L,a1,λl j o h _=>by simp only[jj,a2 l j h];exact g⟩};cases g
 | .Zh is H,n,s,r,g=>by simp only[jj]at g;split at g;{rename_i y q;obtain⟨L,a1,a2⟩:=oA is q;exact⟨L,a1,λl j o h _=>by simp only[jj,a2 l j h];exact g⟩};cases g
 | .seq a b,n,s,r,g=>by simp only[jj]at g;split at g;{rename_i y q;obtain⟨L,a1,a2⟩:=kq a q;obtain⟨f,F,D⟩:=kq b g;exact⟨L++f,a1.append F,λl j o h p=>by simp only[jj,a2 l j o h.left p];exact D l j o h.right p⟩};rename_i B;obtain⟨L,a1,a2⟩:=kq a g;refine⟨L,a1,λl j o h p=>?_⟩;simp only[jj,a2 l j o h p];obtain⟨e,w⟩:=r;cases e with|norm=>{exact absurd g (B w)}|_=>rfl
 | .cond x a b,n,s,r,g=>by simp only[jj]at g;split at g;{rename_i t G;cases t with|true=>{simp only[if_true]at g;obtain⟨L,a1,a2⟩:=kq a g;exact⟨L,a1,λl j o h p=>by simp only[jj,G,if_true];exact a2 l j o h p⟩}|false=>simp only[aL,if_false]at g;obtain⟨L,a1,a2⟩:=kq b g;exact⟨L,a1,λl j o h p=>by simp only[jj,G,aL,if_false];exact a2 l j o h p⟩};cases g
 | .block i a,n,s,r,g=>by simp only[jj]at g;split at g;{rename_i S y q;obtain⟨L,a1,a2⟩:=kq a q;exact⟨L,a1,λl j o h p=>by simp only[jj,a2 l j o h p];exact g⟩};rename_i B;obtain⟨L,a1,a2⟩:=kq a g;refine⟨L,a1,λl j o h p=>?_⟩;simp only[jj,a2 l j o h p];obtain⟨e,w⟩:=r;cases e with|exit i=>{exact absurd g (B i w)}|_=>rfl
 | .loop a,n,s,r,g=>by simp only[jj]at g;have go:∀(m:Nat) (s:St),iter (jj cf mf n a) m s=Z r->∃L,Told cf mf L/\∀(l:Cf) (j:Mf) (o v:Nat),Told l j L->n<=o->m<=v->iter (jj l j o a) v s=Z r:=by{intro m;induction m with|zero=>{intro s h;simp[iter]at h}|succ m N=>intro s h;simp only[iter]at h;split at h;{rename_i y q;obtain⟨L,a1,a2⟩:=kq a q;obtain⟨f,F,D⟩:=N y h;refine⟨L++f,a1.append F,λl j o v C p P=>?_⟩;obtain⟨A,rfl⟩:∃c,v=c+1:=⟨v - 1,by omega⟩;simp only[iter,a2 l j o C.left p];exact D l j o A C.right p (by omega)};rename_i B;obtain⟨L,a1,a2⟩:=kq a h;refine⟨L,a1,λl j o v C p P=>?_⟩;obtain⟨A,rfl⟩:∃c,v=c+1:=⟨v - 1,by omega⟩;simp only[iter,a2 l j o C p];obtain⟨e,w⟩:=r;cases e with|norm=>{exact absurd h (B w)}|_=>rfl};obtain⟨L,a1,a2⟩:=go n s g;exact⟨L,a1,λl j o h p=>by simp only[jj];exact a2 l j o o h p p⟩
 | .exit i,n,s,r,g=>⟨[],Told.nil,λl j o _ _=>by simpa [jj] using g⟩
 | .ret,n,s,r,g=>⟨[],Told.nil,λl j o _ _=>by simpa [jj] using g⟩
 | .share R a,n,s,r,g=>by simp only[jj]at g;obtain⟨L,a1,a2⟩:=kq a g;exact⟨L,a1,λl j o h p=>by simp only[jj];exact a2 l j o h p⟩
 | .DN d a,n,s,r,g=>by simp only[jj]at g;split at g;{rename_i Q hd;obtain⟨L,a1,a2⟩:=kq a g;exact⟨L,a1,λl j o h p=>by simp only[jj,hd];exact a2 l j o h p⟩};cases g
theorem abV{n:Nat}{e:KF}{args:M A}{r:M A×M A}(a:Iq cf mf n e args=Z r):∃L,Told cf mf L/\∀(d:Cf) (c:Mf) (b:Nat),Told d c L->n<=b->Iq d c b e args=Z r:=by unfold Iq at a;split at a;{rename_i i;split at a;{rename_i s g;obtain⟨L,a1,a2⟩:=kq e.body g;exact⟨L,a1,λd c b h f=>by simp only[Iq,i,if_true,a2 d c b h f];exact a⟩};{rename_i s g;obtain⟨L,a1,a2⟩:=kq e.body g;exact⟨L,a1,λd c b h f=>by simp only[Iq,i,if_true,a2 d c b h f];exact a⟩};cases a};cases a
end
section
variable {cf:Cf} {mf:Mf} {own:Bool} {k:Nat}
theorem z6{m g:MS}{d f:Nat}{e:M KX}(a:U9 cf m d f e=Z g):∃L,Told cf mf L/\∀(b:Cf) (j:Mf),Told b j L->U9 b m d f e=Z g:=by simp only[U9]at a;split at a;{rename_i as has;split at a;{rename_i r l;refine⟨[.c f as ([.val J [.d r]],[])],λt i=>by simp at i;subst i;exact l,λb j h=>?_⟩;have n:b f as=_:=h (.c f as ([.val J [.d r]],[])) (by simp);simp only[U9,has,n];exact a};cases a};cases a
theorem ZC{m A:MS}{d f:Nat}{c:MC}{y:C}(a:U8 mf m d f c y=Z A):∃L,Told cf mf L/\∀(s:Cf) (b:Mf),Told s b L->U8 b m d f c y=Z A:=by unfold U8 at a;split at a;{rename_i i o q;split at a;{rename_i k r es v;split at a;{rename_i x g l;refine⟨[.m f J [.list k r es] q ([x],g)],λt j=>by simp at j;subst j;exact l,λs b h=>?_⟩;have p:b f J [.list k r es] q=_:=h (.m f J [.list k r es] q ([x],g)) (by simp);simp only[U8,v,p];exact a};cases a};cases a};{rename_i i o n q;split at a;{rename_i e v;split at a;{rename_i w g l;refine⟨[.m f I ((e.drop o).take n) q (w,g)],λt j=>by simp at j;subst j;exact l,λs b h=>?_⟩;have p:b f I ((e.drop o).take n) q=_:=h (.m f I ((e.drop o).take n) q (w,g)) (by simp);simp only[U8,v,p];exact a};cases a};cases a};cases a
theorem ZA{m i:MS}{d:Nat}{o:KO}(b:Qx cf mf k m d o=Z i):∃L,Told cf mf L/\∀(g:Cf) (e:Mf),Told g e L->Qx g e k m d o=Z i:=by cases o with|call f h=>{rcases h with _|⟨x,_|⟨y,_|⟨a,h⟩⟩⟩;{simp only[Qx]at b ⊢;exact z6 b};{simp only[Qx]at b ⊢;exact z6 b};{simp only[Qx]at b ⊢;cases j:m.spx x with|none=>{rw[j]at b;exact z6 b}|some c=>rw[j]at b;exact ZC b};simp only[Qx]at b ⊢;exact z6 b}|_=>exact⟨[],Told.nil,λg e _=>b⟩
theorem ZB{m e:MS}{i:KI}(a:ac5 cf mf own k m i=Z e):∃L,Told cf mf L/\∀(c:Cf) (b:Mf),Told c b L->ac5 c b own k m i=Z e:=by obtain⟨d,o,g⟩:=i;cases g with|some g=>{simp[ac5]at a}|none=>cases d with|some d=>{exact ZA a}|none=>exact⟨[],Told.nil,λc b _=>a⟩
theorem EP:∀(f:M KI) {m e:MS},H9 cf mf own k f m=Z e->∃L,Told cf mf L/\∀(d:Cf) (c:Mf),Told d c L->H9 d c own k f m=Z e
 |[],m,e,b=>⟨[],Told.nil,λd c _=>b⟩
 |i::f,m,e,b=>by simp only[H9]at b;split at b;{rename_i n g;obtain⟨L,a1,a2⟩:=ZB g;obtain⟨a,l,j⟩:=EP f b;exact⟨L++a,a1.append l,λd c h=>by simp only[H9,a2 d c h.left,j d c h.right]⟩};cases b
theorem lL:∀(c:K) {n:Nat} {s:MS} {r:Ex×MS},lC cf mf own k n c s=Z r->∃L,Told cf mf L/\∀(p:Cf) (o:Mf) (l:Nat),Told p o L->n<=l->lC p o own k l c s=Z r
 | .skip,n,s,r,j=>⟨[],Told.nil,λp o l _ _=>by simpa [lC] using j⟩
 | .Uf is N,n,s,r,j=>by simp only[lC]at j;split at j;{rename_i C w;obtain⟨L,a1,a2⟩:=EP is w;exact⟨L,a1,λp o l h _=>by simp only[lC,a2 p o h];exact j⟩};cases j
 | .Zh is N,n,s,r,j=>by simp[lC]at j
 | .seq a b,n,s,r,j=>by simp only[lC]at j;split at j;{rename_i C w;obtain⟨L,a1,a2⟩:=lL a w;obtain⟨g,G,F⟩:=lL b j;exact⟨L++g,a1.append G,λp o l h q=>by simp only[lC,a2 p o l h.left q];exact F p o l h.right q⟩};rename_i B;obtain⟨L,a1,a2⟩:=lL a j;refine⟨L,a1,λp o l h q=>?_⟩;simp only[lC,a2 p o l h q];obtain⟨e,y⟩:=r;cases e with|norm=>{exact absurd j (B y)}|_=>rfl
 | .cond x a b,n,s,r,j=>by simp only[lC]at j;split at j;{rename_i t H;cases t with|true=>{simp only[if_true]at j;obtain⟨L,a1,a2⟩:=lL a j;exact⟨L,a1,λp o l h q=>by simp only[lC,H,if_true];exact a2 p o l h q⟩}|false=>simp only[aL,if_false]at j;obtain⟨L,a1,a2⟩:=lL b j;exact⟨L,a1,λp o l h q=>by simp only[lC,H,aL,if_false];exact a2 p o l h q⟩};cases j
 | .block i a,n,s,r,j=>by simp only[lC]at j;split at j;{rename_i S C w;obtain⟨L,a1,a2⟩:=lL a w;exact⟨L,a1,λp o l h q=>by simp only[lC,a2 p o l h q];exact j⟩};rename_i B;obtain⟨L,a1,a2⟩:=lL a j;refine⟨L,a1,λp o l h q=>?_⟩;simp only[lC,a2 p o l h q];obtain⟨e,y⟩:=r;cases e with|exit i=>{exact absurd j (B i y)}|_=>rfl
 | .loop a,n,s,r,j=>by simp only[lC]at j;have go:∀(m:Nat) (s:MS),iterM (lC cf mf own k n a) m s=Z r->∃L,Told cf mf L/\∀(p:Cf) (o:Mf) (l v:Nat),Told p o L->n<=l->m<=v->iterM (lC p o own k l a) v s=Z r:=by{intro m;induction m with|zero=>{intro s h;simp[iterM]at h}|succ m P=>intro s h;simp only[iterM]at h;split at h;{rename_i C w;obtain⟨L,a1,a2⟩:=lL a w;obtain⟨g,G,F⟩:=P C h;refine⟨L++g,a1.append G,λp o l v D q Q=>?_⟩;obtain⟨A,rfl⟩:∃f,v=f+1:=⟨v - 1,by omega⟩;simp only[iterM,a2 p o l D.left q];exact F p o l A D.right q (by omega)};rename_i B;obtain⟨L,a1,a2⟩:=lL a h;refine⟨L,a1,λp o l v D q Q=>?_⟩;obtain⟨A,rfl⟩:∃f,v=f+1:=⟨v - 1,by omega⟩;simp only[iterM,a2 p o l D q];obtain⟨e,y⟩:=r;cases e with|norm=>{exact absurd h (B y)}|_=>rfl};obtain⟨L,a1,a2⟩:=go n s j;exact⟨L,a1,λp o l h q=>by simp only[lC];exact a2 p o l l h q q⟩
 | .exit i,n,s,r,j=>⟨[],Told.nil,λp o l _ _=>by simpa [lC] using j⟩
 | .ret,n,s,r,j=>⟨[],Told.nil,λp o l _ _=>by simpa [lC] using j⟩
 | .share R a,n,s,r,j=>by simp[lC]at j
 | .DN d a,n,s,r,j=>by simp[lC]at j
end
def ajW{a:Type}(g:Nat->u a):Prop:=∀n m r,g n=Z r->n<=m->g m=Z r
open Classical in
noncomputable def lm{a:Type}(g:Nat->u a):u a:=if h:∃r n,g n=Z r then Z (Classical.choose h) else O
def LO{b:Type}{g:Nat->u b}(c:ajW g)(r:b):lm g=Z r↔∃n,g n=Z r:=by unfold lm;split;{rename_i h;obtain⟨k,d⟩:=Classical.choose_spec h;constructor;{intro e;simp only[ao]at e;exact⟨k,e▸d⟩};rintro⟨n,a⟩;have i:=c _ (max n k) _ d (by omega);have f:=c _ (max n k) _ a (by omega);rw[i]at f;exact f};rename_i h;constructor;{intro e;cases e};rintro⟨n,a⟩;exact absurd ⟨r,n,a⟩ h
def amn{a:Type}{g:Nat->u a}(c:ajW g){o:u a}(e:∀r n,g n=Z r->o=Z r)(d:∀r,o=Z r->∃n,g n=Z r):lm g=o:=by apply Option.ext;intro r;rw[LO c];exact⟨λ⟨n,b⟩=>e r n b,d r⟩
section
variable (T:Nat->u KF)
theorem zZ:∀(n b f:Nat) (a:M A) (r:M A×M A),CU T n f a=Z r->n<=b->CU T b f a=Z r
 |0,_,_,_,_,h,_=>by simp[CU]at h
 |n+1,b,f,a,r,h,k=>by obtain⟨m,rfl⟩:∃m,b=m+1:=⟨b - 1,by omega⟩;simp only[CU]at h ⊢;split at h;{cases h};rename_i j i;split at h;{rename_i d;rw[if_pos d];exact h};rename_i d;rw[if_neg d];obtain⟨L,a1,a2⟩:=abV h;refine a2 (CU T m) _ m (λt e=>?_) (by omega);have:=a1 t e;cases t with|c f a r=>{exact zZ n m _ _ _ this (by omega)}|m f g l q r=>cases this
noncomputable def fK:Cf:=λf a=>lm λn=>CU T n f a
theorem w_(f:Nat)(a:M A)(r:M A×M A):fK T f a=Z r↔∃n,CU T n f a=Z r:=LO (λn m r h b=>zZ T n m f a r h b) r
def abd(cells:M D):u (M (M D)×Int)->u (M D×Int)
 |some ([Bl],a)=>Z (Bl,a)
 |_=>O
def abe(k:Nat)(c:Bool):u (M (M D)×Int)->u (M D×Int)
 |some (b,a)=>Z ([.list k c b],a)
 |none=>O
def runM(g:Bool->Nat->M KI->MS->u MS)(h:Bool->Nat->K->MS->u (Ex×MS))(c:KF)(f:Bool)(cells:M D)(q:Int):u (M D×Int):=
 match c with
 |⟨2,body,[.t r]⟩=>
   if f then (match body with
    | .seq (.Uf (⟨Z b,.box (.s 0),O⟩::is) a) i=>
     (match g J cells.length is (MS.Rn ⟨⟨[(1,.d (.int .i64 q))],[],[]⟩,[],[cells]⟩ b (.ep 0 0)) with
     |some m=>abd cells (Xf r (h J cells.length i (m.ez a)))
     |none=>O)
    |_=>O)
   else (match cells with
    |[.list k e es]=>abe k e (Xf r (h I k body ⟨⟨[(1,.d (.int .i64 q))],[],[]⟩,[(0,.lst)],es⟩))
    |_=>O)
 |_=>O
theorem ac6(n f:Nat)(b:Bool)(cells:M D)(q:Int):SL T (n+1) f b cells q=match T f with
  |some a=>runM (λown k=>H9 (CU T n) (SL T n) own k) (λown k=>lC (CU T n) (SL T n) own k n) a b cells q
  |none=>O:=by
 simp only[SL];cases g:T f with
 |none=>rfl
 |some a=>
  dsimp only;unfold runM;rcases a with ⟨d,body,c⟩;dsimp only;split
  .split
   .split
    .split
     .rename_i m e;simp only[abd]
      split<;>simp_all
     .simp_all
    .simp_all
   .split
    .simp only[abe]
     split<;>simp_all
    .simp_all
  .simp_all
end
theorem Gz{a:Type}:∀(l:M (Nat×a)) {f:Nat} {x:a},look l f=Z x->(f,x)∈l
 |[],_,_,h=>by simp[look]at h
 |(k,y)::l,f,x,h=>by simp only[look]at h;split at h;{rename_i e;cases h;simp[e]};exact dO _ (Gz l h)
section
variable (T:Nat->u KF)
theorem abW{o:Cf}{l:Mf}{n:Nat}{w:KF}{y:Bool}{cells:M D}{q:Int}{r:M D×Int}(c:runM (λown k=>H9 o l own k) (λown k=>lC o l own k n) w y cells q=Z r) :
  ∃L,Told o l L/\∀(g:Cf) (f:Mf) (j:Nat),Told g f L->n<=j->runM (λown k=>H9 g f own k) (λown k=>lC g f own k j) w y cells q=Z r:=by unfold runM at c;split at c;{rename_i body F;split at c;{rename_i v;split at c;{rename_i b C B A;split at c;{rename_i m x;dsimp only at x c;obtain⟨L,a1,a2⟩:=EP C x;cases i:lC o l J cells.length n A (m.ez B) with|none=>{rw[i]at c;simp[Xf,abd]at c}|some e=>obtain⟨a,t,s⟩:=lL A i;refine⟨L++a,a1.append t,λg f j h p=>?_⟩;simp only[runM,v,if_true,a2 g f h.left,s g f j h.right p];rw[i]at c;exact c};cases c};cases c};rename_i v;split at c;{rename_i k G es;dsimp only at c;cases i:lC o l I k n body ⟨⟨[(1,.d (.int .i64 q))],[],[]⟩,[(0,.lst)],es⟩ with|none=>{rw[i]at c;simp[Xf,abe]at c}|some e=>obtain⟨a,t,s⟩:=lL body i;refine⟨a,t,λg f j h p=>?_⟩;simp only[runM,v,s g f j h p];rw[i]at c;simp only[aL,if_false];exact c};cases c};cases c
theorem EO:∀(n b f:Nat) (e:Bool) (d:M D) (q:Int) (r:M D×Int),SL T n f e d q=Z r->n<=b->SL T b f e d q=Z r
 |0,_,_,_,_,_,_,h,_=>by simp[SL]at h
 |n+1,b,f,e,d,q,r,h,j=>by obtain⟨m,rfl⟩:∃m,b=m+1:=⟨b - 1,by omega⟩;rw[ac6]at h ⊢;split at h;{obtain⟨L,a1,a2⟩:=abW h;refine a2 (CU T m) (SL T m) m (λt i=>?_) (by omega);have:=a1 t i;cases t with|c f a r=>{exact zZ T n m _ _ _ this (by omega)}|m f g d q r=>exact EO n m _ _ _ _ _ this (by omega)};cases h
noncomputable def aml:Mf:=λf b a q=>lm λn=>SL T n f b a q
theorem aaX(f:Nat)(b:Bool)(a:M D)(q:Int)(r:M D×Int):aml T f b a q=Z r↔∃n,SL T n f b a q=Z r:=LO (λn m r h c=>EO T n m f b a q r h c) r
theorem Pv:∀(L:Eh),Told (fK T) (aml T) L->∃n,∀m,n<=m->Told (CU T m) (SL T m) L
 |[],_=>⟨0,λm _ t i=>by simp at i⟩
 |t::L,h=>by obtain⟨n,k⟩:=Pv L (λt i=>h t (by simp[i]));have l:=h t (by simp);cases t with|c f a r=>{obtain⟨m,j⟩:=(w_ T _ _ _).1 l;refine⟨max n m,λb o d e=>?_⟩;rcases aU.1 e with rfl|e;{exact zZ T m b _ _ _ j (by omega)};exact k b (by omega) d e}|m f g p q r=>obtain⟨m,j⟩:=(aaX T _ _ _ _ _).1 l;refine⟨max n m,λb o d e=>?_⟩;rcases aU.1 e with rfl|e;{exact EO T m b _ _ _ _ _ j (by omega)};exact k b (by omega) d e
abbrev zz:Mf:=λ_ _ _ _=>O
noncomputable def ev(a:Mf)(k:K)(s:St):u (Ex×St):=lm λn=>jj (fK T) a n k s
theorem nA(a:Mf)(k:K)(s:St):∀n m r,jj (fK T) a n k s=Z r->n<=m->jj (fK T) a m k s=Z r:=λn m r h b=>by obtain⟨L,a1,a2⟩:=kq k h;exact a2 _ _ m a1 b
theorem kv(a:Mf)(k:K)(s:St)(r:Ex×St):ev T a k s=Z r↔∃n,jj (fK T) a n k s=Z r:=LO (nA T a k s) r
section
variable (mf:Mf)
theorem ER{k:K}{s:St}{o:u (Ex×St)}(b:∀r n,jj (fK T) mf n k s=Z r->o=Z r)(a:∀r,o=Z r->∃n,jj (fK T) mf n k s=Z r):ev T mf k s=o:=amn (nA T mf k s) b a
theorem vF{k:K}{s:St}{o:u (Ex×St)}(h:∀n,jj (fK T) mf n k s=o):ev T mf k s=o:=
 ER T mf (λr n e=>by rw[<- h n];exact e) (λr e=>⟨0,by rw[h 0];exact e⟩)
theorem SP(s:St):ev T mf .skip s=Z (.norm,s):=vF T mf λn=>by simp[jj]
theorem ZM(s:St):ev T mf .ret s=Z (.ret,s):=vF T mf λn=>by simp[jj]
theorem SN(i:Nat)(s:St):ev T mf (.exit i) s=Z (.exit i,s):=vF T mf λn=>by simp[jj]
def nrm(a:oy):u St->u (Ex×St)
 |some s=>Z (.norm,s.ez a)
 |none=>O
theorem ZL(a:M KI)(b:oy)(s:St):ev T mf (.Uf a b) s=nrm b (nh (fK T) mf a s):=vF T mf λn=>by simp only[jj,nrm];split<;>simp_all
def PN:u St->u (Ex×St)
 |some s=>Z (.norm,s)
 |none=>O
theorem ZK(a:KT)(b:oy)(s:St):ev T mf (.Zh a b) s=PN (ib (fK T) mf b a [] s):=vF T mf λn=>by simp only[jj,PN];split<;>simp_all
def Pq(g:St->u (Ex×St)):u (Ex×St)->u (Ex×St)
 |some (.norm,s)=>g s
 |some (.exit i,s)=>Z (.exit i,s)
 |some (.ret,s)=>Z (.ret,s)
 |none=>O
theorem DV{c:Cf}(n:Nat)(a b:K)(s:St):jj c mf n (.seq a b) s=Pq (jj c mf n b) (jj c mf n a s):=by simp only[jj,Pq];split;{rename_i h;simp only[h]};rename_i h;split;{rename_i d e;exact absurd e (h d)};{simp_all};{simp_all};simp_all
theorem ZN(a b:K)(s:St):ev T mf (.seq a b) s=Pq (ev T mf b) (ev T mf a s):=by apply ER;{intro r n h;rw[DV]at h;cases c:jj (fK T) mf n a s with|none=>{rw[c]at h;simp[Pq]at h}|some x=>rw[(kv T mf a s x).2 ⟨n,c⟩];rw[c]at h;rcases x with ⟨_|i|_,d⟩;{exact (kv T mf b d r).2 ⟨n,h⟩};{exact h};exact h};intro r h;cases c:ev T mf a s with|none=>{rw[c]at h;simp[Pq]at h}|some x=>obtain⟨n,e⟩:=(kv T mf a s x).1 c;rw[c]at h;rcases x with ⟨_|i|_,d⟩;{obtain⟨m,f⟩:=(kv T mf b d r).1 h;refine⟨max n m,?_⟩;rw[DV,nA T mf a s n (max n m) _ e (by omega)];exact nA T mf b d m (max n m) _ f (by omega)};{exact⟨n,by rw[DV,e];exact h⟩};exact⟨n,by rw[DV,e];exact h⟩
theorem lk(a:K)(s:St):ev T mf (.loop a) s=Pq (ev T mf (.loop a)) (ev T mf a s):=by have one:∀(f:Cf) n m s,iter (jj f mf n a) (m+1) s=Pq (iter (jj f mf n a) m) (jj f mf n a s):=by{intro f n m s;simp only[iter,Pq];split;{rename_i h;simp only[h]};rename_i h;split;{rename_i c o;exact absurd o (h c)};{simp_all};{simp_all};simp_all};apply ER;{intro r n h;simp only[jj]at h;cases n with|zero=>{simp[iter]at h}|succ n=>rw[one]at h;cases d:jj (fK T) mf (n+1) a s with|none=>{rw[d]at h;simp[Pq]at h}|some x=>rw[(kv T mf a s x).2 ⟨n+1,d⟩];rw[d]at h;rcases x with ⟨_|i|_,c⟩;{refine (kv T mf (.loop a) c r).2 ⟨n+1,?_⟩;simp only[Pq]at h;have:jj (fK T) mf (n+1) (.loop a) c=Z r:=by{simp only[jj];have go:∀(m:Nat) (s:St),iter (jj (fK T) mf (n+1) a) m s=Z r->iter (jj (fK T) mf (n+1) a) (m+1) s=Z r:=by{intro m;induction m with|zero=>{intro s h;simp[iter]at h}|succ m g=>intro s h;rw[one]at h ⊢;cases e:jj (fK T) mf (n+1) a s with|none=>{rw[e]at h;simp[Pq]at h}|some x=>rw[e]at h;rcases x with ⟨_|i|_,c⟩;{exact g c h};{exact h};exact h};exact go n c h};exact this};{exact h};exact h};intro r h;cases d:ev T mf a s with|none=>{rw[d]at h;simp[Pq]at h}|some x=>obtain⟨n,j⟩:=(kv T mf a s x).1 d;rw[d]at h;rcases x with ⟨_|i|_,c⟩;{obtain⟨m,l⟩:=(kv T mf (.loop a) c r).1 h;refine⟨max n m+1,?_⟩;have k:=nA T mf (.loop a) c m (max n m) _ l (by omega);simp only[jj]at k ⊢;rw[one,nA T mf a s n (max n m+1) _ j (by omega)];simp only[Pq];have go:∀(b:Nat) (s:St),iter (jj (fK T) mf (max n m) a) b s=Z r->iter (jj (fK T) mf (max n m+1) a) b s=Z r:=by{intro b;induction b with|zero=>{intro s h;simp[iter]at h}|succ b g=>intro s h;rw[one]at h ⊢;cases e:jj (fK T) mf (max n m) a s with|none=>{rw[e]at h;simp[Pq]at h}|some x=>rw[e]at h;rw[nA T mf a s (max n m) (max n m+1) x e (by omega)];rcases x with ⟨_|i|_,c⟩;{exact g c h};{exact h};exact h};exact go _ _ k};{refine⟨n+1,?_⟩;simp only[jj];rw[one,nA T mf a s n (n+1) _ j (by omega)];exact h};refine⟨n+1,?_⟩;simp only[jj];rw[one,nA T mf a s n (n+1) _ j (by omega)];exact h
def ife(c:C)(x y:u (Ex×St)):u (Ex×St):=
 match c with
 | .d (.bool t)=>if t then x else y
 |_=>O
theorem EN{d:Cf}(n:Nat)(c:KX)(a b:K)(s:St):jj d mf n (.cond c a b) s=ife (gG s c) (jj d mf n a s) (jj d mf n b s):=by simp only[jj,ife];cases gG s c<;>rfl
theorem KB(c:KX)(a b:K)(s:St):ev T mf (.cond c a b) s=ife (gG s c) (ev T mf a s) (ev T mf b s):=by apply ER;{intro r n h;rw[EN]at h;unfold ife at h ⊢;split at h;{split at h;{rename_i d;simp only[d,if_true];exact (kv T mf _ _ _).2 ⟨n,h⟩};rename_i d;simp only[d];exact (kv T mf _ _ _).2 ⟨n,h⟩};cases h};intro r h;unfold ife at h;split at h;{rename_i t f;cases t with|true=>{obtain⟨n,e⟩:=(kv T mf _ _ _).1 h;exact⟨n,by rw[EN,f];exact e⟩}|false=>obtain⟨n,e⟩:=(kv T mf _ _ _).1 h;exact⟨n,by rw[EN,f];exact e⟩};cases h
def blk(id:Nat):u (Ex×St)->u (Ex×St)
 |some (.norm,s)=>Z (.norm,s)
 |some (.exit i,s)=>if i=id then Z (.norm,s) else Z (.exit i,s)
 |some (.ret,s)=>Z (.ret,s)
 |none=>O
theorem I5{b:Cf}(n:Nat)(i:Nat)(a:K)(s:St):jj b mf n (.block i a) s=blk i (jj b mf n a s):=by simp only[jj,blk];split;{simp_all};rename_i h;split;{simp_all};{rename_i j c d;exact absurd d (h j c)};{simp_all};simp_all
theorem NJ(i:Nat)(a:K)(s:St):ev T mf (.block i a) s=blk i (ev T mf a s):=by apply ER;{intro r n h;rw[I5]at h;cases b:jj (fK T) mf n a s with|none=>{rw[b]at h;simp[blk]at h}|some x=>rw[(kv T mf a s x).2 ⟨n,b⟩];rw[b]at h;exact h};intro r h;cases b:ev T mf a s with|none=>{rw[b]at h;simp[blk]at h}|some x=>obtain⟨n,c⟩:=(kv T mf a s x).1 b;rw[b]at h;exact⟨n,by rw[I5,c];exact h⟩
theorem NK(q:Nat)(a:K)(s:St):ev T mf (.share q a) s=ev T mf a (eM s [q]):=by apply ER;{intro r n h;simp only[jj]at h;exact (kv T mf _ _ _).2 ⟨n,h⟩};intro r h;obtain⟨n,b⟩:=(kv T mf _ _ _).1 h;exact⟨n,by simp only[jj];exact b⟩
theorem ZJ(d:Nat)(a:K)(s:St):ev T mf (.DN d a) s=(sI s d).bind (ev T mf a):=by have b:∀n,jj (fK T) mf n (.DN d a) s=(sI s d).bind (jj (fK T) mf n a):=by{intro n;simp only[jj];cases sI s d<;>rfl};apply ER;{intro r n h;rw[b]at h;cases hd:sI s d with|none=>{rw[hd]at h;simp at h}|some c=>rw[hd]at h;exact (kv T mf _ _ _).2 ⟨n,h⟩};intro r h;cases hd:sI s d with|none=>{rw[hd]at h;simp at h}|some c=>rw[hd]at h;obtain⟨n,e⟩:=(kv T mf _ _ _).1 h;exact⟨n,by rw[b,hd];exact e⟩
def fin(a:KF)(args:M A):u (Ex×St)->u (M A×M A)
 |some (.norm,s)=>leave a args s
 |some (.ret,s)=>leave a args s
 |_=>O
noncomputable def run(a:KF)(args:M A):u (M A×M A):=if args.length=a.np then fin a args (ev T mf a.body (lU 0 args ⟨[],[],[]⟩)) else O
theorem O5(b:Cf)(n:Nat)(a:KF)(args:M A):Iq b mf n a args=if args.length=a.np then fin a args (jj b mf n a.body (lU 0 args ⟨[],[],[]⟩)) else O:=by simp only[Iq];split;{simp only[fin];split<;>simp_all};rfl
theorem acA{d:Cf}{i:Mf}{L:Eh}(h:Told d zz L):Told d i L:=λt e=>by have b:=h t e;cases t with|c f a r=>{exact b}|m f g j q r=>cases b
theorem afa{d:Cf}{mf:Mf}{L:Eh}(h:Told d zz L)(i:∀f a r,d f a=Z r->fK T f a=Z r):Told (fK T) mf L:=λt e=>by have b:=h t e;cases t with|c f a r=>{exact i f a r b}|m f g j q r=>cases b
theorem aaY{f:Nat}{b:K}{r:M KR}(c:T f=Z ⟨999,b,r⟩)(args:M A):fK T f args=XT f args:=by apply Option.ext;intro r;rw[w_];constructor;{rintro⟨n,a⟩;cases n with|zero=>{simp[CU]at a}|succ n=>simpa only [CU,c,if_true] using a};intro h;exact⟨1,by simpa only [CU,c,if_true] using h⟩
theorem TJ{f:Nat}{e:KF}(o:T f=Z e)(i:e.np≠999)(args:M A):fK T f args=run T zz e args:=by apply Option.ext;intro r;rw[w_];constructor;{rintro⟨n,b⟩;cases n with|zero=>{simp[CU]at b}|succ n=>simp only[CU,o,if_neg i]at b;rw[O5]at b;unfold run;split at b;{rename_i j;rw[if_pos j];cases d:jj (CU T n) zz n e.body (lU 0 args ⟨[],[],[]⟩) with|none=>{rw[d]at b;simp[fin]at b}|some x=>obtain⟨L,a1,a2⟩:=kq _ d;have k:=a2 (fK T) zz n (afa T a1 (λf a r h=>(w_ T f a r).2 ⟨n,h⟩)) (by omega);rw[(kv T zz _ _ _).2 ⟨n,k⟩,<- d];exact b};cases b};intro h;unfold run at h;split at h;{rename_i j;cases d:ev T zz e.body (lU 0 args ⟨[],[],[]⟩) with|none=>{rw[d]at h;simp[fin]at h}|some x=>obtain⟨n,b⟩:=(kv T zz _ _ _).1 d;obtain⟨L,a1,a2⟩:=kq _ b;obtain⟨m,p⟩:=Pv T L (acA a1);refine⟨max n m+1,?_⟩;simp only[CU,o,if_neg i];rw[O5,if_pos j,a2 (CU T (max n m)) zz (max n m) (λt l=>?_) (by omega),<- d];{exact h};have s:=a1 t l;have k:=p (max n m) (by omega) t l;cases t with|c f a r=>{exact k}|m f g v q r=>cases s};cases h
end
variable (own:Bool) (k:Nat)
end
inductive SK where
 |int (k:IntKind) (n:Int)
 |bool (b:Bool)
 |str (s:ByteArray)
 |nil (k:Nat) (fl:Bool)
 deriving DecidableEq
def SK.d:SK->D
 | .int k n=>.int k n
 | .bool b=>.bool b
 | .str s=>.str s
 | .nil k a=>.list k a []
inductive SE where
 |v (i:Nat)
 |k (x:SK)
 |c (i j:Nat)
 deriving DecidableEq
def elC:D->u (M D)
 | .list _ _ [cs]=>Z cs
 |_=>O
def SE.d(a:M D):SE->u D
 | .v i=>nth a i
 | .k x=>Z x.d
 | .c i j=>match nth a i with
  |some x=>match elC x with
   |some e=>nth e j
   |none=>O
  |none=>O
abbrev Gs:=M (SE×Bool)
def jI(a:M D):Gs->u Bool
 |[]=>Z I
 |(g,w)::gs=>match g.d a with
  |some (.bool b)=>if b=w then jI a gs else Z J
  |_=>O
inductive SB where
 |d (e:SE)
 |nil (k:Nat) (fl:Bool)
 |ref (r:Nat)
 |any
 deriving DecidableEq
inductive SC where
 |b (x:SB)
 |agg (xs:List SB)
 |tw (xs:List (SB ⊕ List SB))
 |ptr (b o:Nat)
 |pG (r k:Nat) (i:SE) (o:Nat)
 |vi (i o:Nat)
 |fn (F:Nat) (bs:List Nat)
 |any
 deriving DecidableEq
structure SG where
 gs:Gs
 c:SC
 deriving DecidableEq
structure SR where
 e:SE
 k:Nat
 fl:Bool
 deep:Bool
 app:Bool
 fz:Bool
 deriving DecidableEq
structure SS where
 sl:List (Nat×SG)
 bx:List (Nat×List SB)
 rw:List (Nat×SR)
 deriving DecidableEq
section
variable (ρ:M D)
def lb:SB->C->Prop
 | .d e,c=>∃x,e.d ρ=Z x/\c=.d x
 | .nil k a,c=>c=.nil k a
 | .ref r,c=>c=.ref r
 | .any,_=>True
def eR:M SB->M C->Prop
 |[],cs=>cs=[]
 |x::xs,cs=>∃c a,cs=c::a/\lb ρ x c/\eR xs a
def vp:M (SB ⊕ M SB)->M C->Prop
 |[],cs=>cs=[]
 | .inl x::xs,cs=>∃c a,cs=c::a/\lb ρ x c/\vp xs a
 | .inr l::xs,cs=>∃b a,cs=.agg b::a/\eR ρ l b/\vp xs a
def lf:SC->C->Prop
 | .b x,c=>lb ρ x c
 | .agg xs,c=>∃a,c=.agg a/\eR ρ xs a
 | .tw xs,c=>∃a,c=.tw a/\vp ρ xs a
 | .ptr b o,c=>c=.ptr b o
 | .pG r k i o,c=>∃n,i.d ρ=Z (.int .i64 n)/\c=.pG r k n.toNat o
 | .vi i o,c=>∃x a,nth ρ i=Z x/\elC x=Z a/\c=.vi (a.drop o)
 | .fn F e,c=>c=.fn F e
 | .any,_=>True
def tF(g:SG)(c:C):Prop:=∃b,jI ρ g.gs=Z b/\(b=I->lf ρ g.c c)/\(b=J->c=.wD)
def SRr(x:SR)(y:Row):Prop:=∃es,x.e.d ρ=Z (.list x.k x.fl es)/\y=⟨es,x.k,x.fl,x.deep,x.app,x.fz⟩
structure Rel (S:SS) (s:St):Prop where
 sl:∀d g,look S.sl d=some g->tF ρ g (s.get d)
 bx:∀b xs,look S.bx b=some xs->∃cs,look s.bx b=some cs/\eR ρ xs cs
 rw:∀r x,look S.rw r=some x->∃y,look s.rw r=some y/\SRr ρ x y
end
theorem D3{a:Type}:∀{l m:M a} {i:Nat} {x:a},nth l i=Z x->nth (l++m) i=Z x
 |_::_,_,0,_,h=>by simpa [nth] using h
 |_::l,m,i+1,x,h=>by simp only[ax,nth]at h ⊢;exact D3 h
 |[],_,_,_,h=>by simp[nth]at h
theorem kt{a:Type}:∀(l:M a) (x:a) (m:M a),nth (l++x::m) l.length=Z x
 |[],_,_=>rfl
 |_::l,x,m=>kt l x m
section
variable {ρ:M D} (τ:M D)
theorem SE.mono{e:SE}{x:D}(h:e.d ρ=Z x):e.d (ρ++τ)=Z x:=by cases e with|v i=>{exact D3 h}|k y=>{exact h}|c i j=>simp only[SE.d]at h ⊢;split at h;{rename_i y a;rw[D3 a];exact h};cases h
theorem kS:∀{c:Gs} {b:Bool},jI ρ c=Z b->jI (ρ++τ) c=Z b
 |[],_,h=>h
 |(g,w)::c,b,h=>by simp only[jI]at h ⊢;split at h;{rename_i t d;rw[SE.mono τ d];simp only;split at h;{rename_i a;rw[if_pos a];exact kS h};rename_i a;rw[if_neg a];exact h};cases h
theorem lb.mono:∀{x:SB} {c:C},lb ρ x c->lb (ρ++τ) x c
 | .d e,_,⟨x,b,a⟩=>⟨x,SE.mono τ b,a⟩
 | .nil _ _,_,h=>h
 | .ref _,_,h=>h
 | .any,_,_=>trivial
theorem eR.mono:∀{a:M SB} {b:M C},eR ρ a b->eR (ρ++τ) a b
 |[],_,h=>h
 |_::_,_,⟨c,d,g,f,e⟩=>⟨c,d,g,lb.mono τ f,eR.mono e⟩
theorem vp.mono:∀{f:M (SB ⊕ M SB)} {g:M C},vp ρ f g->vp (ρ++τ) f g
 |[],_,h=>h
 | .inl _::_,_,⟨c,a,e,d,b⟩=>⟨c,a,e,lb.mono τ d,vp.mono b⟩
 | .inr _::_,_,⟨c,a,e,d,b⟩=>⟨c,a,e,eR.mono τ d,vp.mono b⟩
theorem lf.mono:∀{x:SC} {c:C},lf ρ x c->lf (ρ++τ) x c
 | .b _,_,h=>lb.mono τ h
 | .agg _,_,⟨cs,d,a⟩=>⟨cs,d,eR.mono τ a⟩
 | .tw _,_,⟨cs,d,a⟩=>⟨cs,d,vp.mono τ a⟩
 | .ptr _ _,_,h=>h
 | .pG _ _ _ _,_,⟨n,d,a⟩=>⟨n,SE.mono τ d,a⟩
 | .vi _ _,_,⟨x,cs,d,a,e⟩=>⟨x,cs,D3 d,a,e⟩
 | .fn _ _,_,h=>h
 | .any,_,_=>trivial
theorem tF.mono{g:SG}{c:C}:tF ρ g c->tF (ρ++τ) g c
 |⟨b,e,d,a⟩=>⟨b,kS τ e,λh=>(d h).mono τ,a⟩
theorem SRr.mono{x:SR}{y:Row}:SRr ρ x y->SRr (ρ++τ) x y
 |⟨es,c,a⟩=>⟨es,SE.mono τ c,a⟩
theorem Rel.mono{S:SS}{s:St}(h:Rel ρ S s):Rel (ρ++τ) S s:=
 ⟨λd g a=>(h.sl d g a).mono τ,λb f a=>(h.bx b f a).imp λ_ e=>⟨e.1,e.2.mono τ⟩,λr x a=>(h.rw r x a).imp λ_ c=>⟨c.1,c.2.mono τ⟩⟩
end
def SB.kill(i:Nat):SB->SB
 | .ref r=>if r=i then .any else .ref r
 |x=>x
def SC.kill(i:Nat):SC->SC
 | .b x=>.b (x.kill i)
 | .agg xs=>.agg (xs.map (SB.kill i))
 | .tw xs=>.tw (xs.map λ| .inl x=>.inl (x.kill i) | .inr l=>.inr (l.map (SB.kill i)))
 | .ptr q o=>if q=i then .any else .ptr q o
 | .pG r k a o=>if r=i then .any else .pG r k a o
 | .fn F c=>if c.contains i then .any else .fn F c
 |x=>x
def SS.kill(S:SS)(i:Nat):SS:=⟨S.sl.map λp=>(p.1,⟨p.2.gs,p.2.c.kill i⟩),S.bx.map λp=>(p.1,p.2.map (SB.kill i)),S.rw⟩
def SS.put(S:SS)(a:u Nat)(g:SG):SS:=
 match a with
 |some d=>{S with sl:=(d,g)::S.sl }
 |none=>S
def SS.gA(S:SS)(b:Nat)(a:M SB):SS:={S with bx:=(b,a)::sy S.bx b }
def SS.setRow(S:SS)(r:Nat)(x:SR):SS:={S with rw:=(r,x)::sy S.rw r }
def SS.dP(S:SS)(r:Nat):SS:={S with rw:=sy S.rw r }
def SS.j8(S:SS)(b:Nat)(a:M SB):SS:=(S.kill b).gA b a
def SS.newRow(S:SS)(r:Nat)(x:SR):SS:=(S.kill r).setRow r x
def SS.ez(S:SS)(a:oy):SS:=⟨jo S.sl a.s,jo S.bx a.b,jo S.rw a.r⟩
section
variable {ρ:M D}
theorem lb.kill(i:Nat):∀{x:SB} {c:C},lb ρ x c->lb ρ (x.kill i) (c.kill i)
 | .d e,_,⟨x,b,a⟩=>by subst a;exact⟨x,b,rfl⟩
 | .nil _ _,_,h=>by simp only[lb]at h;subst h;rfl
 | .ref r,_,h=>by simp only[lb]at h;subst h;simp only[SB.kill,C.kill];split;{trivial};rfl
 | .any,_,_=>trivial
theorem eR.kill(i:Nat):∀{a:M SB} {b:M C},eR ρ a b->eR ρ (a.map (SB.kill i)) (C.jS i b)
 |[],_,h=>by simp only[eR]at h;subst h;rfl
 |_::_,_,⟨c,g,f,e,d⟩=>by subst f;exact⟨_,_,rfl,e.kill i,eR.kill i d⟩
theorem vp.kill(i:Nat):∀{e:M (SB ⊕ M SB)} {f:M C},vp ρ e f->vp ρ (e.map λ| .inl x=>.inl (x.kill i) | .inr l=>.inr (l.map (SB.kill i))) (C.jS i f)
 |[],_,h=>by simp only[vp]at h;subst h;rfl
 | .inl _::_,_,⟨c,g,d,b,a⟩=>by subst d;exact⟨_,_,rfl,b.kill i,vp.kill i a⟩
 | .inr _::_,_,⟨j,g,d,b,a⟩=>by subst d;exact⟨_,_,rfl,b.kill i,vp.kill i a⟩
theorem lf.kill(i:Nat):∀{x:SC} {c:C},lf ρ x c->lf ρ (x.kill i) (c.kill i)
 | .b _,_,h=>lb.kill i h
 | .agg _,_,⟨cs,e,d⟩=>by subst e;exact⟨_,rfl,d.kill i⟩
 | .tw _,_,⟨cs,e,d⟩=>by subst e;exact⟨_,rfl,d.kill i⟩
 | .ptr b o,_,h=>by simp only[lf]at h;subst h;simp only[SC.kill,C.kill];split;{trivial};rfl
 | .pG r k a o,_,⟨n,e,d⟩=>by subst d;simp only[SC.kill,C.kill];split;{trivial};exact⟨n,e,rfl⟩
 | .vi _ _,_,⟨x,cs,e,d,f⟩=>by subst f;exact⟨x,cs,e,d,rfl⟩
 | .fn F g,_,h=>by simp only[lf]at h;subst h;simp only[SC.kill,C.kill];split;{trivial};rfl
 | .any,_,_=>trivial
theorem pH{a β:Type}(f:a->β)(l:M (Nat×a))(d:Nat):look (l.map λp=>(p.1,f p.2)) d=(look l d).map f:=by induction l with|nil=>{rfl}|cons p l b=>obtain⟨k,x⟩:=p;simp only[bc,look,b];split<;>rfl
theorem Z2(s:St)(i d:Nat):(s.kill i).get d=(s.get d).kill i:=by simp only[St.get,St.kill,yT];cases look s.sl d<;>rfl
variable {S:SS} {s:St}
theorem Rel.kill(h:Rel ρ S s)(i:Nat):Rel ρ (S.kill i) (s.kill i) where
 sl d g a:=by simp only[SS.kill]at a;rw[pH (λg:SG=>(⟨g.gs,g.c.kill i⟩:SG)),ay]at a;obtain⟨o,l,rfl⟩:=a;obtain⟨b,j,f,n⟩:=h.sl d o l;rw[Z2];exact⟨b,j,λe=>(f e).kill i,λe=>by rw[n e];rfl⟩
 bx b m a:=by simp only[SS.kill]at a;rw[pH (λm:M SB=>m.map (SB.kill i)),ay]at a;obtain⟨p,l,rfl⟩:=a;obtain⟨q,j,f⟩:=h.bx b p l;exact⟨_,by simp only[St.kill,yS,j];rfl,f.kill i⟩
 rw r x a:=h.rw r x a
theorem adb(s:St)(d e:Nat)(c:C):(s.put (Z d) c).get e=if d=e then c else s.get e:=by simp only[St.get,St.put,look];split<;>rfl
theorem Rel.put(h:Rel ρ S s)(a:u Nat){g:SG}{c:C}(j:tF ρ g c):Rel ρ (S.put a g) (s.put a c):=by
 cases a with
 |none=>exact h
 |some d=>exact {
   sl:=λe l f=>by simp only[SS.put,look]at f;rw[adb];split at f;{rename_i i;cases f;rw[if_pos i];exact j};rename_i i;rw[if_neg i];exact h.sl e l f
   bx:=h.bx
   rw:=h.rw }
theorem tF.nil{c:SC}{x:C}(h:lf ρ c x):tF ρ ⟨[],c⟩ x:=⟨I,rfl,λ_=>h,λh=>by cases h⟩
theorem Rel.gA(h:Rel ρ S s)(b:Nat){i:M SB}{f:M C}(j:eR ρ i f):Rel ρ (S.gA b i) (s.gA b f) where
 sl d g a:=h.sl d g a
 bx e ys a:=by simp only[SS.gA,look,St.gA,fO]at a ⊢;split at a;{rename_i c;cases a;exact⟨f,by rw[if_pos c],j⟩};rename_i c;rw[if_neg c,if_neg c];exact h.bx e ys a
 rw r x a:=h.rw r x a
theorem Rel.setRow(h:Rel ρ S s)(r:Nat){x:SR}{y:Row}(i:SRr ρ x y):Rel ρ (S.setRow r x) (s.setRow r y) where
 sl d g c:=h.sl d g c
 bx e ys c:=h.bx e ys c
 rw q a c:=by simp only[SS.setRow,look,St.setRow,fO]at c ⊢;split at c;{rename_i f;cases c;exact⟨y,by rw[if_pos f],i⟩};rename_i f;rw[if_neg f,if_neg f];exact h.rw q a c
theorem Rel.dP(h:Rel ρ S s)(r:Nat):Rel ρ (S.dP r) (s.dP r) where
 sl d g c:=h.sl d g c
 bx e ys c:=h.bx e ys c
 rw q a c:=by simp only[SS.dP,St.dP,fO]at c ⊢;split at c;{cases c};rename_i f;rw[if_neg f];exact h.rw q a c
theorem Rel.j8(h:Rel ρ S s)(b:Nat){a:M SB}{c:M C}(e:eR ρ a c):Rel ρ (S.j8 b a) (s.j8 b c):=(h.kill b).gA b e
theorem Rel.newRow(h:Rel ρ S s)(r:Nat){x:SR}{y:Row}(a:SRr ρ x y):Rel ρ (S.newRow r x) (s.newRow r y):=(h.kill r).setRow r a
theorem jw{b:Type}(l:M (Nat×b)):∀(a:M Nat) {e:Nat} {x:b},look (jo l a) e=Z x->look l e=Z x/\e∈a
 |[],_,_,h=>by simp[jo,look]at h
 |d::a,e,x,h=>by unfold jo at h;cases hd:look l d with|none=>{rw[hd]at h;have:=jw l a h;exact⟨this.1,dO _ this.2⟩}|some y=>rw[hd]at h;simp only[look]at h;split at h;{rename_i c;subst c;cases h;exact⟨hd,dV⟩};have:=jw l a h;exact⟨this.1,dO _ this.2⟩
theorem sW{f:Type}(l:M (Nat×f)):∀(a:M Nat) {e:Nat} {x:f},look l e=Z x->e∈a->look (jo l a) e=Z x
 |[],_,_,_,h=>by cases h
 |d::a,e,x,h,g=>by unfold jo;by_cases hd:d=e;{subst hd;rw[h];simp[look]};have b:e∈a:=by{rcases aU.1 g with c|c;{exact absurd c.symm hd};exact c};cases look l d with|none=>{exact sW l a h b}|some y=>simp only[look,if_neg hd];exact sW l a h b
theorem Fy(s:St)(a:oy){d:Nat}(h:d∈a.s):(s.ez a).get d=s.get d:=by simp only[St.get,St.ez];cases b:look s.sl d with|some x=>{rw[sW _ _ b h]}|none=>cases c:look (jo s.sl a.s) d with|none=>{rfl}|some x=>rw[(jw _ _ c).1]at b;cases b
theorem Rel.ez(h:Rel ρ S s)(f:oy):Rel ρ (S.ez f) (s.ez f) where
 sl d g a:=by obtain⟨e,c⟩:=jw _ _ a;rw[Fy s f c];exact h.sl d g e
 bx b xs a:=by obtain⟨e,c⟩:=jw _ _ a;obtain⟨l,j,i⟩:=h.bx b xs e;exact⟨l,sW _ _ j c,i⟩
 rw r x a:=by obtain⟨e,c⟩:=jw _ _ a;obtain⟨y,j,i⟩:=h.rw r x e;exact⟨y,sW _ _ j c,i⟩
end
inductive PO where
 |cel (o:Nat)
 |has (n:Nat)
 |bin (op:BinOp)
 |XU (op:BinOp)
 |not
 |neg
 |conv (k:IntKind)
 |len
 |sln
 |min
 |max
 |six
 |el (k:Nat)
 |UW
 |IY (k o n:Nat) (deep:Bool)
 |ite
 |MQ (hi:Bool)
 |AO (k:Nat) (hi:Bool)
 |PI
 |lD (k:Nat) (fl:Bool)
 |make (k by_:Nat) (fl:Bool) (zs:List SK)
 |app (k by_:Nat)
 |set (o:Nat)
 |cut (hi:Bool)
 |IT
 |jnl
 |jnb
 |lst (k:Nat) (fl:Bool)
 |tru
 |pl
 |xK
 deriving DecidableEq
def dI:D->u Nat
 | .int .i64 n=>if 0<=n then Z n.toNat else O
 |_=>O
def chunk(k:Nat):Nat->M D->u (M (M D))
 |0,[]=>Z []
 |0,_=>O
 |m+1,xs=>if k<=xs.length then (chunk k m (xs.drop k)).map (xs.take k::·) else O
def asD:u C->u D
 |some (.d x)=>Z x
 |_=>O
def aS:PO->M D->u D
 | .cel o,[x]=>match elC x with
  |some l=>nth l o
  |none=>O
 | .has n,[x]=>match elC x with
  |some l=>if n<=l.length then Z (.bool J) else O
  |none=>O
 | .bin op,[x,y]=>asD (UR op (.d x) (.d y))
 | .XU op,[.bool a,.bool b]=>YD op a b
 | .not,[.bool b]=>Z (.bool (!b))
 | .neg,[.int k a]=>Z (.int k (k.wrap (-a)))
 | .conv k,[.int _ a]=>Z (.int k (k.wrap a))
 | .len,[.list _ _ es]=>Z (.int .i64 es.length)
 | .sln,[.str t]=>Z (.int .i64 t.size)
 | .min,[.int .i64 a,.int .i64 b]=>Z (.int .i64 (if b<a then b else a))
 | .max,[.int .i64 a,.int .i64 b]=>Z (.int .i64 (if a<b then b else a))
 | .six,[.str t,.int .i64 n]=>if 0<=n/\n.toNat<t.size then Z (.int .u8 (bY t n.toNat)) else O
 | .el k,[.list f _ es,.int .i64 n]=>if 0<=n/\f=k then (nth es n.toNat).map λe=>.list 0 J [e] else O
 | .UW,[.list _ _ es,.int .i64 n]=>if 0<=n/\n.toNat<es.length then Z (.bool J) else O
 | .IY k o n deep,[.list f _ es,.int .i64 i]=>match nth es i.toNat with
  |some e=>if f=k/\o+n<=k/\o+n<=e.length/\(db ((e.drop o).take n) ||!deep)=I then Z (.list 0 J [e]) else O
  |none=>O
 | .ite,[.bool b,x,y]=>Z (if b then x else y)
 | .MQ J,[.str t,h]=>match dI h with
  |some a=>if a<=t.size then Z (.str (t.extract a t.size)) else O
  |none=>O
 | .MQ I,[.str t,h,p]=>match dI h,dI p with
  |some a,Z b=>if a<=b/\b<=t.size then Z (.str (t.extract a b)) else O
  |_,_=>O
 | .AO k J,[.list f c es,h]=>match dI h with
  |some a=>if f=k/\a<=es.length then Z (.list f c (es.drop a)) else O
  |none=>O
 | .AO k I,[.list f c es,h,p]=>match dI h,dI p with
  |some a,Z b=>if f=k/\a<=b/\b<=es.length then Z (.list f c ((es.take b).drop a)) else O
  |_,_=>O
 | .PI,[.list 1 _ es]=>(bytesOf es).map λj=>.str ⟨(j.map λn=>dW n.toNat).toArray⟩
 | .lD k c,j=>if j.length % k=0 then match chunk k (j.length / k) j with
   |some es=>if c=I->es.all db=I then Z (.list k c es) else O
   |none=>O
  else O
 | .make k m c w,[.int .i64 n]=>if 0<=n/\n.toNat * m<=room/\n<=4611686018427387904 then Z (.list k c (a_ n.toNat (w.map SK.d))) else O
 | .app k m,[.list B v es,.list A C g]=>if B=k/\A=k/\v=C/\(es.length+g.length) * m<=room/\es.length+g.length<=maxLen then Z (.list k v (es++g)) else O
 | .set o,.list k c es::.int .i64 i::r=>match nth es i.toNat with
  |some e=>if o+r.length<=k/\(c=I->db r=I) then Z (.list k c (es.set i.toNat (nS e o r))) else O
  |none=>O
 | .cut J,[.list k c es,h]=>match dI h with
  |some a=>if a<=es.length then Z (.list k c (es.drop a)) else O
  |none=>O
 | .cut I,[.list k c es,h,p]=>match dI h,dI p with
  |some a,Z b=>if a<=b/\b<=es.length then Z (.list k c ((es.take b).drop a)) else O
  |_,_=>O
 | .IT,[.list k c es,.list f q g]=>if f=k/\q=I/\c=I/\g.length=es.length then Z (.list k c g) else O
 | .jnl,[.list k c es,.list f _ g]=>if k=1/\f=1/\c=I/\g.length=es.length/\g≠[] then (match lg es,lg g with
   |some s,Z l=>Z (.list 1 I ((dN s l).map λb=>[D.bool b]))
   |_,_=>O) else O
 | .jnb,[.list _ _ es,.list _ _ g]=>match lg es,lg g with
   |some s,Z l=>Z (.bool (nB s l))
   |_,_=>O
 | .lst k c,[.list f q es]=>if f=k/\q=c then Z (.list k c es) else O
 | .tru,[.bool b]=>Z (.bool b)
 | .pl,j=>if db j=I then Z (.bool J) else O
 | .xK,j=>if db j=I then O else Z (.bool J)
 |_,_=>O
def jk(a:M D):M SE->u (M D)
 |[]=>Z []
 |e::es=>match e.d a with
  |some x=>(jk a es).map (x::·)
  |none=>O
abbrev Bs:=M (PO×M SE)
def lF(a:M D):Bs->u (M D)
 |[]=>Z a
 |(o,es)::c=>match jk a es with
  |some b=>match aS o b with
   |some x=>lF (a++[x]) c
   |none=>O
  |none=>O
def gx(S:SS)(a:Gs):KX->u SC
 | .s d=>match look S.sl d with
  |some g=>if g.gs.all (λp=>Z' (p∈a)) then Z g.c else O
  |none=>O
 | .k (.d (.int k n))=>Z (.b (.d (.k (.int k n))))
 | .k (.d (.bool b))=>Z (.b (.d (.k (.bool b))))
 | .k (.d (.str t))=>Z (.b (.d (.k (.str t))))
 | .k (.nil k e)=>Z (.b (.nil k e))
 | .k .any=>Z .any
 |_=>O
def sD:u SC->u SE
 |some (.b (.d e))=>Z e
 |_=>O
section
variable {ρ:M D} {S:SS} {s:St} {gs:Gs}
theorem nX:∀{gs:Gs},jI ρ gs=Z I->∀p∈gs,p.1.d ρ=Z (.bool p.2)
 |[],_,_,a=>by cases a
 |(g,w)::gs,h,p,a=>by simp only[jI]at h;split at h;{rename_i b e;split at h;{rename_i c;subst c;rcases aU.1 a with rfl|a;{exact e};exact nX h p a};cases h};cases h
theorem Ja:∀{gs:Gs},(∀p∈gs,p.1.d ρ=Z (.bool p.2))->jI ρ gs=Z I
 |[],_=>rfl
 |(g,w)::gs,h=>by have a:=h (g,w) (by simp);simp only at a;simp only[jI,a,if_true];exact Ja λp b=>h p (by simp[b])
theorem QG{gs a:Gs}(h:jI ρ gs=Z I)(b:a.all (λp=>Z' (p∈gs))=I):jI ρ a=Z I:=
 Ja λp c=>nX h p (by simpa using bG.1 b p c)
theorem dc(h:Rel ρ S s)(j:jI ρ gs=Z I){x:KX}{c:SC}(a:gx S gs x=Z c):lf ρ c (gG s x):=by unfold gx at a;split at a;{rename_i d;split at a;{rename_i g i;split at a;{rename_i f;cases a;obtain⟨b,e,k,_⟩:=h.sl d g i;rw[QG j f]at e;cases e;exact k rfl};cases a};cases a};{cases a;exact⟨_,rfl,rfl⟩};{cases a;exact⟨_,rfl,rfl⟩};{cases a;exact⟨_,rfl,rfl⟩};{cases a;rfl};{cases a;trivial};cases a
theorem mc(h:Rel ρ S s)(b:jI ρ gs=Z I){x:KX}{e:SE}(a:sD (gx S gs x)=Z e):∃y,e.d ρ=Z y/\gG s x=.d y:=by unfold sD at a;split at a;{rename_i f c;cases a;exact dc h b c};cases a
theorem ga{e:SE}{a:M D}(h:jk ρ [e]=Z a):∃x,e.d ρ=Z x/\a=[x]:=by simp only[jk]at h;split at h;{rename_i x b;simp only[aX,ao]at h;exact⟨x,b,h.symm⟩};cases h
theorem eD{e:SE}{es:M SE}{a:M D}(h:jk ρ (e::es)=Z a):∃x ys,e.d ρ=Z x/\jk ρ es=Z ys/\a=x::ys:=by simp only[jk]at h;split at h;{rename_i x b;simp only[ay]at h;obtain⟨ys,f,c⟩:=h;exact⟨x,ys,b,f,c.symm⟩};cases h
theorem fE{o:PO}{es:M SE}{b:M D}(h:lF ρ [(o,es)]=Z b):∃a x,jk ρ es=Z a/\aS o a=Z x/\b=ρ++[x]:=by simp only[lF]at h;split at h;{rename_i a d;split at h;{rename_i x c;cases h;exact⟨a,x,d,c,rfl⟩};cases h};cases h
theorem oL:∀{c:Bs} {ρ a:M D},lF ρ c=Z a->∃b,a=ρ++b
 |[],ρ,a,h=>by cases h;exact⟨[],by simp⟩
 |(o,es)::c,ρ,a,h=>by simp only[lF]at h;split at h;{split at h;{rename_i x e;obtain⟨b,d⟩:=oL h;exact⟨x::b,by rw[d];simp⟩};cases h};cases h
end
def SC.cells:SC->u (M SB)
 | .b x=>Z [x]
 | .agg xs=>Z xs
 |_=>O
def SB.cell:SB->Bool
 | .any=>J
 |_=>I
def aeR{a:Type}(l:M a)(o:Nat)(n:M a):M a:=l.take o++n++l.drop (o+n.length)
def vz:C->u SB
 | .d (.int k n)=>Z (.d (.k (.int k n)))
 | .d (.bool b)=>Z (.d (.k (.bool b)))
 | .d (.str t)=>Z (.d (.k (.str t)))
 | .nil k a=>Z (.nil k a)
 |_=>O
def Eb(S:SS)(d:Gs)(a:M SB):M (Nat×Nat×KX)->u (M SB)
 |[]=>Z a
 |(o,n,x)::e=>match gx S d x with
  |some c=>match c.cells with
   |some b=>if b.length=n/\o+n<=a.length/\b.all SB.cell=I then Eb S d (aeR a o b) e else O
   |none=>O
  |none=>O
def DJ(i o:Nat):Nat->M SB
 |0=>[]
 |n+1=>.d (.c i o)::DJ i (o+1) n
def vN(n:Nat):SC:=.b (.d (.v n))
def OR(n:Nat)(o:PO):M (u SE)->u (Bs×SC)
 |[Z a]=>Z ([(o,[a])],vN n)
 |[Z a,Z b]=>Z ([(o,[a,b])],vN n)
 |[Z a,Z b,Z c]=>Z ([(o,[a,b,c])],vN n)
 |_=>O
def Bj(S:SS)(a:Gs):u KX->u SE
 |none=>Z (.k (.int .i64 0))
 |some x=>sD (gx S a x)
def Ub(S:SS)(a:Gs):M KX->u (M Nat)
 |[]=>Z []
 |x::xs=>match gx S a x with
  |some (.ptr b 0)=>(Ub S a xs).map (b::·)
  |_=>O
def aeY(S:SS)(a:Gs)(n:Nat):KO->u (Bs×SC)
 | .mv x=>(gx S a x).map λc=>([],c)
 | .pick c x y=>match sD (gx S a c) with
  |some e=>if (e,I)∈a then (gx S a x).map λc=>([],c) else if (e,J)∈a then (gx S a y).map λc=>([],c)
   else OR n .ite [Z e,sD (gx S ((e,I)::a) x),sD (gx S ((e,J)::a) y)]
  |none=>O
 | .build t w=>match gN vz t with
  |some s=>(Eb S a s w).map λl=>([],.agg l)
  |none=>O
 | .ld m x=>match gx S a x with
  |some (.ptr b o)=>match look S.bx b with
   |some f=>if m=0 then (nth f o).map λy=>([],.b y) else if o+m<=f.length then Z ([],.agg ((f.drop o).take m)) else O
   |none=>O
  |some (.vi i o)=>if m=0 then Z ([(.cel o,[.v i])],vN n) else Z ([(.has (o+m),[.v i])],.agg (DJ i o m))
  |some (.pG r k i o)=>match look S.rw r with
   |some row=>if row.k=k then (if m=0 then Z ([(.IY k o 1 row.deep,[row.e,i]),(.cel o,[.v n])],vN (n+1)) else Z ([(.IY k o m row.deep,[row.e,i])],.agg (DJ n o m))) else O
   |none=>O
  |_=>O
 | .fa o x=>match gx S a x with
  |some (.ptr b p)=>Z ([],.ptr b (p+o))
  |some (.vi i p)=>Z ([],.vi i (p+o))
  |some (.pG r k i p)=>Z ([],.pG r k i (p+o))
  |_=>O
 | .ia k x i=>match gx S a x,sD (gx S a i) with
  |some (.b (.d e)),Z j=>Z ([(.el k,[e,j])],.vi n 0)
  |some (.b (.ref r)),Z j=>match look S.rw r with
   |some row=>if row.k=k then Z ([(.UW,[row.e,j])],.pG r k j 0) else O
   |none=>O
  |_,_=>O
 | .six x i=>OR n .six [sD (gx S a x),sD (gx S a i)]
 | .bin op x y=>OR n (.bin op) [sD (gx S a x),sD (gx S a y)]
 | .XU op x y=>OR n (.XU op) [sD (gx S a x),sD (gx S a y)]
 | .not x=>OR n .not [sD (gx S a x)]
 | .neg x=>OR n .neg [sD (gx S a x)]
 | .conv k x=>OR n (.conv k) [sD (gx S a x)]
 | .len x=>match gx S a x with
  |some (.b (.d e))=>Z ([(.len,[e])],vN n)
  |some (.b (.nil _ _))=>Z ([],.b (.d (.k (.int .i64 0))))
  |some (.b (.ref r))=>match look S.rw r with
   |some row=>Z ([(.len,[row.e])],vN n)
   |none=>O
  |_=>O
 | .sln x=>OR n .sln [sD (gx S a x)]
 | .min x y=>OR n .min [sD (gx S a x),sD (gx S a y)]
 | .max x y=>OR n .max [sD (gx S a x),sD (gx S a y)]
 | .ext x i=>match gx S a x with
  |some (.tw f)=>match nth f i with
   |some (.inl y)=>Z ([],.b y)
   |some (.inr l)=>Z ([],.agg l)
   |none=>O
  |_=>O
 | .slc x q=>OR n (.cut I) [sD (gx S a x),Z (.k (.int .i64 0)),sD (gx S a q)]
 | .MQ x g q=>match q with
  |none=>OR n (.MQ J) [sD (gx S a x),Bj S a g]
  |some h=>OR n (.MQ I) [sD (gx S a x),Bj S a g,sD (gx S a h)]
 | .AO k x g q=>match q with
  |none=>OR n (.AO k J) [sD (gx S a x),Bj S a g]
  |some h=>OR n (.AO k I) [sD (gx S a x),Bj S a g,sD (gx S a h)]
 | .nck x=>match gx S a x with
  |some (.ptr b o)=>Z ([],.ptr b o)
  |some (.vi i o)=>Z ([],.vi i o)
  |some (.pG r k i o)=>Z ([],.pG r k i o)
  |_=>O
 | .PI x=>match gx S a x with
  |some (.b (.ref r))=>match look S.rw r with
   |some row=>if row.k=1 then Z ([(.PI,[row.e])],vN n) else O
   |none=>O
  |_=>O
 | .fld o x=>match gx S a x with
  |some (.agg f)=>(nth f o).map λy=>([],.b y)
  |_=>O
 | .mkf F f=>(Ub S a f).map λA=>([],.fn F A)
 |_=>O
section
variable {ρ iZ:M D} {S:SS} {s:St} {gs:Gs} {bs:Bs} {c:SC}
theorem eR.nth:∀{xs:M SB} {b:M C} {i:Nat} {x:SB},eR ρ xs b->nth xs i=Z x->∃c,nth b i=Z c/\lb ρ x c
 |_::_,_,0,_,⟨c,_,a,e,_⟩,h=>by cases h;subst a;exact⟨c,rfl,e⟩
 |_::xs,_,i+1,_,⟨_,b,a,_,d⟩,h=>by subst a;exact eR.nth (xs:=xs) (i:=i) d h
 |[],_,_,_,_,h=>by cases h
theorem eR.len:∀{a:M SB} {b:M C},eR ρ a b->b.length=a.length
 |[],_,h=>by simp only[eR]at h;subst h;rfl
 |_::_,_,⟨_,_,e,_,d⟩=>by subst e;simp[eR.len d]
theorem eR.drop:∀(n:Nat) {a:M SB} {b:M C},eR ρ a b->eR ρ (a.drop n) (b.drop n)
 |0,_,_,h=>h
 |_+1,[],_,h=>by simp only[eR]at h;subst h;rfl
 |n+1,_::_,_,⟨_,_,e,_,d⟩=>by subst e;exact eR.drop n d
theorem eR.take:∀(n:Nat) {a:M SB} {b:M C},eR ρ a b->eR ρ (a.take n) (b.take n)
 |0,_,_,_=>rfl
 |_+1,[],_,h=>by simp only[eR]at h;subst h;rfl
 |n+1,_::_,_,⟨c,_,f,e,d⟩=>by subst f;exact⟨c,_,rfl,e,eR.take n d⟩
theorem eR.app:∀{b ys:M SB} {e d:M C},eR ρ b e->eR ρ ys d->eR ρ (b++ys) (e++d)
 |[],_,_,_,h,a=>by simp only[eR]at h;subst h;exact a
 |_::_,_,_,_,⟨c,_,i,g,f⟩,a=>by subst i;exact⟨c,_,rfl,g,eR.app f a⟩
theorem eR.spl(o:Nat){a ys:M SB}{e d:M C}(h:eR ρ a e)(b:eR ρ ys d):eR ρ (aeR a o ys) (nS e o d):=by unfold aeR nS;rw[b.len];exact ((h.take o).app b).app (h.drop _)
theorem lb.cell{x:SB}{c:C}(h:lb ρ x c)(a:x.cell=I):c.cell=I:=by cases x with|d e=>{obtain⟨y,_,rfl⟩:=h;rfl}|nil k b=>{simp only[lb]at h;subst h;rfl}|ref r=>{simp only[lb]at h;subst h;rfl}|any=>cases a
theorem eR.cell:∀{a:M SB} {b:M C},eR ρ a b->a.all SB.cell=I->b.all C.cell=I
 |[],_,h,_=>by simp only[eR]at h;subst h;rfl
 |_::_,_,⟨_,_,f,e,d⟩,h=>by subst f;simp only[cK,aw]at h ⊢;exact⟨e.cell h.1,eR.cell d h.2⟩
theorem lf.cells{x:SC}{c:C}{a:M SB}(h:lf ρ x c)(d:x.cells=Z a)(e:a.all SB.cell=I):eR ρ a c.cells:=by cases x with|b y=>{cases d;simp only[cK,List.all_nil,fF]at e;refine⟨c,[],?_,h,rfl⟩;have:=lb.cell h e;cases c<;>simp_all[C.cell,C.cells]}|agg ys=>{cases d;obtain⟨g,rfl,f⟩:=h;exact f}|_=>cases d
theorem Qh{a:C}{x:SB}(h:vz a=Z x):lb ρ x a:=by unfold vz at h;split at h<;>first|(cases h;exact⟨_,rfl,rfl⟩)|(cases h;rfl)|cases h
theorem yj:∀{b:M C} {d:M SB},gN vz b=Z d->eR ρ d b
 |[],_,h=>by simp only[gN,ao]at h;subst h;rfl
 |a::b,d,h=>by simp only[gN]at h;split at h;{rename_i y e;simp only[ay]at h;obtain⟨ys,f,rfl⟩:=h;exact⟨a,b,rfl,Qh e,yj f⟩};cases h
theorem Db(h:Rel ρ S s)(k:jI ρ gs=Z I):∀(e:M (Nat×Nat×KX)) {d l:M SB} {b:M C},Eb S gs d e=Z l->eR ρ d b->∃f,CV b (e.map λp=>(p.1,p.2.1,(gG s p.2.2).cells))=Z f/\eR ρ l f
 |[],d,l,b,a,g=>by cases a;exact⟨b,rfl,g⟩
 |(o,n,x)::e,d,l,b,a,g=>by simp only[Eb]at a;split at a;{rename_i c r;split at a;{rename_i ys q;split at a;{rename_i j;obtain⟨j,w,m⟩:=j;have i:=(dc h k r).cells q m;obtain⟨f,v,t⟩:=Db h k e a (g.spl o i);refine⟨f,?_,t⟩;simp only[bc,CV];rw[if_pos ⟨by rw[i.len,j],by rw[g.len];exact w,i.cell m⟩];exact v};cases a};cases a};cases a
theorem vx{i:Nat}{x:D}{a:M D}(b:nth ρ i=Z x)(f:elC x=Z a):∀(n o:Nat),o+n<=a.length->eR ρ (DJ i o n) (((a.drop o).take n).map .d)
 |0,o,_=>rfl
 |n+1,o,h=>by (have e:o<a.length:=by omega);rw[kc e,cT,bc];exact⟨_,_,rfl,⟨a[o],by simp only[SE.d,b,f,ek];simp[e],rfl⟩,vx b f n (o+1) (by omega)⟩
theorem iC{n:Nat}{o:PO}{l:M (u SE)}(h:OR n o l=Z (bs,c))(e:n=ρ.length)(f:lF ρ bs=Z iZ):∃es a x,l=es.map Z/\jk ρ es=Z a/\aS o a=Z x/\iZ=ρ++[x]/\lf iZ c (.d x):=by have fin:∀{es:M SE},bs=[(o,es)]->c=vN n->l=es.map Z->∃es a x,l=es.map Z/\jk ρ es=Z a/\aS o a=Z x/\iZ=ρ++[x]/\lf iZ c (.d x):=by{intro es m k j;subst m k;obtain⟨a,x,i,g,b⟩:=fE f;refine⟨es,a,x,j,i,g,b,?_⟩;subst b e;exact⟨x,kt ρ x [],rfl⟩};unfold OR at h;split at h;{simp only[ao,aP]at h;exact fin h.1.symm h.2.symm rfl};{simp only[ao,aP]at h;exact fin h.1.symm h.2.symm rfl};{simp only[ao,aP]at h;exact fin h.1.symm h.2.symm rfl};cases h
theorem opD(h:Rel ρ S s)(g:jI ρ gs=Z I):∀(b:M KX) {es:M SE} {ys:M D},b.map (λx=>sD (gx S gs x))=es.map Z->jk ρ es=Z ys->b.map (gG s)=ys.map .d
 |[],es,ys,a,f=>by (have:es=[]:=by simpa using a.symm);subst this;cases f;rfl
 |x::b,[],ys,a,f=>by simp at a
 |x::b,e::es,ys,a,f=>by simp only[bc,cr]at a;obtain⟨y,m,l,k,rfl⟩:=eD f;obtain⟨n,i,j⟩:=mc h g a.1;rw[l]at i;cases i;simp only[bc,j,opD h g b a.2 k]
theorem ad9(h:Rel ρ S s)(g:jI ρ gs=Z I){x:KX}{es:M SE}{e:M D}(f:[sD (gx S gs x)]=es.map Z)(i:jk ρ es=Z e):∃a,e=[a]/\gG s x=.d a:=by have:=opD h g [x] f i;rcases e with _|⟨a,_|⟨b,l⟩⟩;{simp at this};{simp_all};simp at this
theorem acC(h:Rel ρ S s)(g:jI ρ gs=Z I){x y:KX}{es:M SE}{e:M D}(f:[sD (gx S gs x),sD (gx S gs y)]=es.map Z)(i:jk ρ es=Z e):∃a b,e=[a,b]/\gG s x=.d a/\gG s y=.d b:=by have:=opD h g [x,y] f i;rcases e with _|⟨a,_|⟨b,_|⟨c,l⟩⟩⟩;{simp at this};{simp at this};{simp_all};simp at this
theorem Xs(h:Rel ρ S s)(l:jI ρ gs=Z I){lo:u KX}{e:SE}{x:D}{a:Nat}(f:Bj S gs lo=Z e)(g:e.d ρ=Z x)(hd:dI x=Z a):∀b,(lo=O->b=0)->Cs s lo b=Z a:=by intro b j;cases lo with|none=>{simp only[Bj,ao]at f;subst f;cases g;simp only[SK.d,dI]at hd;simp only[Cs,j rfl];simpa using hd}|some y=>obtain⟨v,i,n⟩:=mc h l f;rw[g]at i;cases i;simp only[Cs,n];cases x with|int k m=>{cases k<;>simp_all[dI]}|_=>simp[dI]at hd
theorem lj{es:M SE}{a:M D}(h:jk ρ es=Z a):a.length=es.length:=by induction es generalizing a with|nil=>{cases h;rfl}|cons e es b=>obtain⟨x,ys,_,d,rfl⟩:=eD h;simp[b d]
theorem OW(h:Rel ρ S s)(f:jI ρ gs=Z I):∀{d:M KX} {l:M Nat},Ub S gs d=Z l->GZ (d.map (gG s))=Z l
 |[],l,a=>by cases a;rfl
 |x::d,l,a=>by simp only[Ub]at a;split at a;{rename_i b g;obtain⟨j,i,rfl⟩:=ay.1 a;have e:=dc h f g;simp only[lf]at e;rw[bc,e];simp only[GZ,OW h f i,aX]};cases a
theorem Ht(h:Rel ρ S s)(G:jI ρ gs=Z I){n:Nat}(T:n=ρ.length){o:KO}(g:aeY S gs n o=Z (bs,c))(H:lF ρ bs=Z iZ):∃v,jl s o=Z v/\lf iZ c v:=by unfold aeY at g;split at g;{simp only[ay,aP]at g;obtain⟨c',A,rfl,rfl⟩:=g;cases H;exact⟨_,rfl,dc h G A⟩};{split at g;{rename_i e he;obtain⟨cv,L,V⟩:=mc h G he;split at g;{rename_i X;have:=nX G _ X;rw[L]at this;cases this;simp only[ay,aP]at g;obtain⟨c',A,rfl,rfl⟩:=g;cases H;exact⟨_,by simp only[jl,V,if_true],dc h G A⟩};split at g;{rename_i X;have:=nX G _ X;rw[L]at this;cases this;simp only[ay,aP]at g;obtain⟨c',A,rfl,rfl⟩:=g;cases H;exact⟨_,by simp only[jl,V,aL,if_false],dc h G A⟩};obtain⟨es,Q,x,A,F,w,P,B⟩:=iC g T H;rcases es with _|⟨e0,_|⟨e1,_|⟨e2,_|⟨e3,l⟩⟩⟩⟩<;>simp at A;obtain⟨rfl,K,hy⟩:=A;obtain⟨c0,ys,Y,g2,rfl⟩:=eD F;obtain⟨a,zs,g3,g4,rfl⟩:=eD g2;obtain⟨b,g5,rfl⟩:=ga g4;rw[Y]at L;cases L;cases cv with|bool t=>{simp only[aS,ao]at w;cases t with|true=>{(have hg':jI ρ ((e,I)::gs)=Z I:=by simp only[jI,Y,if_true];exact G);obtain⟨a',N,W⟩:=mc h hg' K;rw[g3]at N;cases N;refine⟨_,by simp only[jl,V,if_true];rfl,?_⟩;rw[W];simp only[if_true]at w;rw[w];exact B}|false=>(have hg':jI ρ ((e,J)::gs)=Z I:=by simp only[jI,Y,if_true];exact G);obtain⟨b',N,W⟩:=mc h hg' hy;rw[g5]at N;cases N;refine⟨_,by simp only[jl,V];rfl,?_⟩;simp only[aL,if_false]at w ⊢;rw[W,w];exact B}|int k m=>{simp[aS]at w}|str t=>{simp[aS]at w}|list k fl es=>simp[aS]at w};cases g};{split at g;{rename_i zs' hz;simp only[ay,aP]at g;obtain⟨l,A,rfl,rfl⟩:=g;cases H;obtain⟨kh,F,w⟩:=Db h G _ A (yj hz);exact⟨_,by simp only[jl,F,aX],⟨kh,rfl,w⟩⟩};cases g};{rename_i m x;split at g;{rename_i b o K;have R:=dc h G K;simp only[lf]at R;split at g;{rename_i ys hl;obtain⟨cs,A,F⟩:=h.bx b ys hl;split at g;{rename_i X;simp only[ay,aP]at g;obtain⟨y,w,rfl,rfl⟩:=g;cases H;obtain⟨cv,P,B⟩:=F.nth w;exact⟨cv,by simp only[jl,R,A,if_pos X,P],B⟩};rename_i X;split at g;{rename_i hle;simp only[ao,aP]at g;obtain⟨rfl,rfl⟩:=g;cases H;exact⟨_,by simp only[jl,R,A,if_neg X];rw[if_pos (by rw[F.len];exact hle)],⟨_,rfl,(F.drop o).take m⟩⟩};cases g};cases g};{rename_i i o K;obtain⟨el,cs,A,F,w⟩:=dc h G K;split at g;{rename_i X;simp only[ao,aP]at g;obtain⟨rfl,rfl⟩:=g;obtain⟨Q,y,P,B,rfl⟩:=fE H;obtain⟨a,L,rfl⟩:=ga P;simp only[SE.d,A,ao]at L;subst L;simp only[aS,F]at B;refine⟨.d y,?_,⟨y,by subst T;exact kt ρ y [],rfl⟩⟩;simp only[jl,w,if_pos X];rw[ek,sw,dG,<- ek,B];rfl};rename_i X;simp only[ao,aP]at g;obtain⟨rfl,rfl⟩:=g;obtain⟨Q,y,P,B,rfl⟩:=fE H;obtain⟨a,L,rfl⟩:=ga P;simp only[SE.d,A,ao]at L;subst L;simp only[aS,F]at B;split at B;{rename_i hle;refine⟨_,?_,⟨_,rfl,(vx A F m o hle).mono _⟩⟩;simp only[jl,w,if_neg X];rw[if_pos (by rw[jK];omega)]};cases B};{rename_i r k i o K;obtain⟨iv,A,F⟩:=dc h G K;split at g;{rename_i row hl;obtain⟨y,w,es,P,rfl⟩:=h.rw r row hl;split at g;{rename_i hk;subst hk;have key:∀{q:Nat} {el:D},aS (.IY row.k o q row.deep) [.list row.k row.fl es,.int .i64 iv]=Z el->∃e,nth es iv.toNat=Z e/\o+q<=row.k/\o+q<=e.length/\(db ((e.drop o).take q) ||!row.deep)=I/\el=.list 0 J [e]:=by{intro q el he;simp only[aS]at he;split at he;{rename_i e iG;split at he;{rename_i U;cases he;exact⟨e,iG,U.2.1,U.2.2.1,U.2.2.2,rfl⟩};cases he};cases he};split at g;{rename_i X;simp only[ao,aP]at g;obtain⟨rfl,rfl⟩:=g;simp only[lF]at H;split at H;{rename_i Q HQ;split at H;{rename_i el HO;obtain⟨f,zs,N,W,rfl⟩:=eD HQ;obtain⟨z2,q3,rfl⟩:=ga W;rw[P]at N;cases N;rw[A]at q3;cases q3;obtain⟨e,e1,e2,e3,e4,rfl⟩:=key HO;split at H;{rename_i Sa apY;split at H;{rename_i v hv;cases H;obtain⟨w0,w1,rfl⟩:=ga apY;simp only[SE.d,T,kt,ao]at w1;subst w1;simp only[aS,elC]at hv;refine⟨.d v,?_,⟨v,by subst T;have:=kt (ρ++[.list 0 J [e]]) v [];simpa [SE.d] using this,rfl⟩⟩;subst X;simp only[jl,F,w,e1];rw[if_pos ⟨trivial,by simpa using e2,by simpa using e4⟩,if_pos trivial,hv];rfl};cases H};cases H};cases H};cases H};rename_i X;simp only[ao,aP]at g;obtain⟨rfl,rfl⟩:=g;obtain⟨Q,el,HQ,HO,rfl⟩:=fE H;obtain⟨f,zs,N,W,rfl⟩:=eD HQ;obtain⟨z2,q3,rfl⟩:=ga W;rw[P]at N;cases N;rw[A]at q3;cases q3;obtain⟨e,e1,e2,e3,e4,rfl⟩:=key HO;(have agZ:Max.max m 1=m:=by omega);refine⟨_,?_,⟨_,rfl,vx (x:=.list 0 J [e]) (by rw[T];exact kt ρ _ []) rfl m o e3⟩⟩;simp only[jl,F,w,e1,agZ];rw[if_pos ⟨trivial,e2,e4⟩,if_neg X]};cases g};cases g};cases g};{split at g;{rename_i b p K;simp only[ao,aP]at g;obtain⟨rfl,rfl⟩:=g;cases H;have R:=dc h G K;simp only[lf]at R;exact⟨_,by simp only[jl,R],rfl⟩};{rename_i i p K;simp only[ao,aP]at g;obtain⟨rfl,rfl⟩:=g;cases H;obtain⟨x,cs,A,F,w⟩:=dc h G K;exact⟨_,by simp only[jl,w];rfl,x,cs,A,F,by rw[zo]⟩};{rename_i r k i p K;simp only[ao,aP]at g;obtain⟨rfl,rfl⟩:=g;cases H;obtain⟨iv,A,F⟩:=dc h G K;exact⟨_,by simp only[jl,F],iv,A,rfl⟩};cases g};{split at g;{rename_i e j K hj;simp only[ao,aP]at g;obtain⟨rfl,rfl⟩:=g;obtain⟨Q,y,P,B,rfl⟩:=fE H;obtain⟨a,zs,L,V,rfl⟩:=eD P;obtain⟨b,h8,rfl⟩:=ga V;obtain⟨a',h9,wW⟩:=dc h G K;obtain⟨b',Ad,yq⟩:=mc h G hj;rw[L]at h9;cases h9;rw[h8]at Ad;cases Ad;cases a with|list k' fl es=>{cases b with|int kk m=>{(cases kk<;>first|(simp[aS]at B;done)|skip);simp only[aS]at B;split at B;{rename_i U;simp only[ay]at B;obtain⟨el,N,rfl⟩:=B;exact⟨_,by simp only[jl,wW,yq];rw[if_pos U,N];rfl,_,_,by rw[T];exact kt ρ _ [],rfl,rfl⟩};cases B}|_=>simp[aS]at B}|_=>cases b<;>simp[aS]at B};{rename_i r j K hj;split at g;{rename_i row hl;obtain⟨y,A,es,F,rfl⟩:=h.rw r row hl;split at g;{rename_i hk;simp only[ao,aP]at g;obtain⟨rfl,rfl⟩:=g;obtain⟨Q,y,P,B,rfl⟩:=fE H;obtain⟨a,zs,L,V,rfl⟩:=eD P;obtain⟨b,h8,rfl⟩:=ga V;obtain⟨b',Ad,yq⟩:=mc h G hj;rw[F]at L;cases L;rw[h8]at Ad;cases Ad;have R:=dc h G K;simp only[lf,lb]at R;cases b with|int kk m=>{(cases kk<;>first|(simp[aS]at B;done)|skip);simp only[aS]at B;split at B;{rename_i U;exact⟨_,by simp only[jl,R,yq,A];rw[if_pos ⟨U.1,U.2,hk⟩],m,SE.mono _ h8,rfl⟩};cases B}|_=>simp[aS]at B};cases g};cases g};cases g};{obtain⟨es,Q,y,A,F,w,rfl,B⟩:=iC g T H;obtain⟨a,b,rfl,L,V⟩:=acC h G A F;refine⟨_,?_,B⟩;simp only[jl,L,V];(cases a<;>cases b<;>first|(simp[aS]at w;done)|skip);rename_i t k m;(cases k<;>first|(simp[aS]at w;done)|skip);simp only[aS]at w;split at w;{rename_i U;cases w;simp only;rw[if_pos U]};cases w};{obtain⟨es,Q,y,A,F,w,rfl,B⟩:=iC g T H;obtain⟨a,b,rfl,L,V⟩:=acC h G A F;refine⟨_,?_,B⟩;simp only[jl,L,V];simp only[aS]at w;unfold asD at w;split at w;{rename_i f hz;cases w;exact hz};cases w};{obtain⟨es,Q,y,A,F,w,rfl,B⟩:=iC g T H;obtain⟨a,b,rfl,L,V⟩:=acC h G A F;refine⟨_,?_,B⟩;simp only[jl,L,V];(cases a<;>cases b<;>first|(simp[aS]at w;done)|skip);simp only[aS]at w;simp only[w,aX]};{obtain⟨es,Q,y,A,F,w,rfl,B⟩:=iC g T H;obtain⟨a,rfl,L⟩:=ad9 h G A F;refine⟨_,?_,B⟩;simp only[jl,L];(cases a<;>first|(simp[aS]at w;done)|skip);simp only[aS,ao]at w;simp only[w]};{obtain⟨es,Q,y,A,F,w,rfl,B⟩:=iC g T H;obtain⟨a,rfl,L⟩:=ad9 h G A F;refine⟨_,?_,B⟩;simp only[jl,L];(cases a<;>first|(simp[aS]at w;done)|skip);simp only[aS,ao]at w;simp only[w]};{obtain⟨es,Q,y,A,F,w,rfl,B⟩:=iC g T H;obtain⟨a,rfl,L⟩:=ad9 h G A F;refine⟨_,?_,B⟩;simp only[jl,L];(cases a<;>first|(simp[aS]at w;done)|skip);simp only[aS,ao]at w;simp only[w]};{split at g;{rename_i e K;simp only[ao,aP]at g;obtain⟨rfl,rfl⟩:=g;obtain⟨Q,y,P,B,rfl⟩:=fE H;obtain⟨a,L,rfl⟩:=ga P;obtain⟨a',h9,wW⟩:=dc h G K;rw[L]at h9;cases h9;refine⟨.d y,?_,y,by subst T;exact kt ρ y [],rfl⟩;simp only[jl,wW];(cases a<;>first|(simp[aS]at B;done)|skip);simp only[aS,ao]at B;simp only[B]};{rename_i k fl K;simp only[ao,aP]at g;obtain⟨rfl,rfl⟩:=g;cases H;have R:=dc h G K;simp only[lf,lb]at R;exact⟨_,by simp only[jl,R];rfl,_,rfl,rfl⟩};{rename_i r K;split at g;{rename_i row hl;obtain⟨y,A,es,F,rfl⟩:=h.rw r row hl;simp only[ao,aP]at g;obtain⟨rfl,rfl⟩:=g;obtain⟨Q,y,P,B,rfl⟩:=fE H;obtain⟨a,L,rfl⟩:=ga P;rw[F]at L;cases L;have R:=dc h G K;simp only[lf,lb]at R;simp only[aS,ao]at B;exact⟨.d y,by simp only[jl,R,A,<- B],y,by subst T;exact kt ρ y [],rfl⟩};cases g};cases g};{obtain⟨es,Q,y,A,F,w,rfl,B⟩:=iC g T H;obtain⟨a,rfl,L⟩:=ad9 h G A F;refine⟨_,?_,B⟩;simp only[jl,L];(cases a<;>first|(simp[aS]at w;done)|skip);simp only[aS,ao]at w;simp only[w]};{obtain⟨es,Q,y,A,F,w,rfl,B⟩:=iC g T H;obtain⟨a,b,rfl,L,V⟩:=acC h G A F;refine⟨_,?_,B⟩;simp only[jl,L,V];(cases a<;>cases b<;>first|(simp[aS]at w;done)|skip);rename_i k1 a k2 b;(cases k1<;>cases k2<;>first|(simp[aS]at w;done)|skip);simp only[aS,ao]at w;simp only[w]};{obtain⟨es,Q,y,A,F,w,rfl,B⟩:=iC g T H;obtain⟨a,b,rfl,L,V⟩:=acC h G A F;refine⟨_,?_,B⟩;simp only[jl,L,V];(cases a<;>cases b<;>first|(simp[aS]at w;done)|skip);rename_i k1 a k2 b;(cases k1<;>cases k2<;>first|(simp[aS]at w;done)|skip);simp only[aS,ao]at w;simp only[w]};{split at g;{rename_i ys K;obtain⟨cs,A,F⟩:=dc h G K;have key:∀{ys:M (SB ⊕ M SB)} {cs:M C} (i:Nat),vp ρ ys cs->(∀y,nth ys i=Z (.inl y)->∃c,nth cs i=Z c/\lb ρ y c)/\(∀l,nth ys i=Z (.inr l)->∃ds,nth cs i=Z (.agg ds)/\eR ρ l ds):=by{intro ys;induction ys with|nil=>{intro cs i _;exact⟨λ_ h=>by simp[nth]at h,λ_ h=>by simp[nth]at h⟩}|cons y ys ih=>intro cs i R;cases y with|inl y=>{obtain⟨c,kh,rfl,Y,g2⟩:=R;cases i with|zero=>{exact⟨λf hz=>by cases hz;exact⟨c,rfl,Y⟩,λl hl=>by cases hl⟩}|succ i=>exact ih i g2}|inr l=>obtain⟨ds,kh,rfl,Y,g2⟩:=R;cases i with|zero=>{exact⟨λf hz=>(by cases hz),λl hl=>by cases hl;exact⟨ds,rfl,Y⟩⟩}|succ i=>exact ih i g2};split at g;{rename_i y hy;simp only[ao,aP]at g;obtain⟨rfl,rfl⟩:=g;cases H;obtain⟨cv,w,P⟩:=(key _ F).1 y hy;exact⟨cv,by simp only[jl,A,w],P⟩};{rename_i l hy;simp only[ao,aP]at g;obtain⟨rfl,rfl⟩:=g;cases H;obtain⟨ds,w,P⟩:=(key _ F).2 l hy;exact⟨_,by simp only[jl,A,w],⟨ds,rfl,P⟩⟩};cases g};cases g};{obtain⟨es,Q,y,A,F,w,rfl,B⟩:=iC g T H;rcases es with _|⟨e0,_|⟨e1,_|⟨e2,_|⟨e3,l⟩⟩⟩⟩<;>simp at A;obtain⟨K,rfl,hy⟩:=A;obtain⟨a,ys,Y,g2,rfl⟩:=eD F;obtain⟨f,zs,g3,g4,rfl⟩:=eD g2;obtain⟨b,g5,rfl⟩:=ga g4;cases g3;obtain⟨a',N,W⟩:=mc h G K;obtain⟨b',q3,q4⟩:=mc h G hy;rw[Y]at N;cases N;rw[g5]at q3;cases q3;refine⟨_,?_,B⟩;(cases a<;>first|(simp[aS]at w;done)|skip);(cases b<;>first|(simp[aS,dI,SK.d]at w;done)|skip);rename_i k m;(cases k<;>first|(simp[aS,dI,SK.d]at w;done)|skip);simp only[aS,dI,SK.d,Int.le_refl,if_true,Int.toNat_zero]at w;split at w;{rename_i a b ha mJ;cases ha;split at mJ;{rename_i X;cases mJ;split at w;{rename_i U;cases w;simp only[jl,W,q4];rw[if_pos ⟨X,U.2⟩,cj]};cases w};cases mJ};cases w};{split at g;{obtain⟨es,Q,y,A,F,w,rfl,B⟩:=iC g T H;rcases es with _|⟨e0,_|⟨e1,_|⟨e2,l⟩⟩⟩<;>simp at A;obtain⟨K,hy⟩:=A;obtain⟨a,ys,Y,g2,rfl⟩:=eD F;obtain⟨f,g3,rfl⟩:=ga g2;obtain⟨a',N,W⟩:=mc h G K;rw[Y]at N;cases N;refine⟨_,?_,B⟩;(cases a<;>first|(simp[aS]at w;done)|skip);simp only[aS]at w;split at w;{rename_i a ha;have Vw:=Xs h G hy g3 ha 0 (λ_=>rfl);split at w;{rename_i U;cases w;simp only[jl,W,Vw];simp only[Cs];rw[if_pos ⟨U,aI _⟩]};cases w};cases w};obtain⟨es,Q,y,A,F,w,rfl,B⟩:=iC g T H;rcases es with _|⟨e0,_|⟨e1,_|⟨e2,_|⟨e3,l⟩⟩⟩⟩<;>simp at A;obtain⟨K,hy,hz⟩:=A;obtain⟨a,ys,Y,g2,rfl⟩:=eD F;obtain⟨f,zs,g3,g4,rfl⟩:=eD g2;obtain⟨b,g5,rfl⟩:=ga g4;obtain⟨a',N,W⟩:=mc h G K;rw[Y]at N;cases N;refine⟨_,?_,B⟩;(cases a<;>first|(simp[aS]at w;done)|skip);simp only[aS]at w;split at w;{rename_i a b ha mJ;have Vw:=Xs h G hy g3 ha 0 (λ_=>rfl);split at w;{rename_i U;cases w;have hhi:=λf=>Xs (lo:=Z _) h G hz g5 mJ f (λh=>by cases h);simp only[jl,W,Vw,hhi];rw[if_pos U]};cases w};cases w};{split at g;{obtain⟨es,Q,y,A,F,w,rfl,B⟩:=iC g T H;rcases es with _|⟨e0,_|⟨e1,_|⟨e2,l⟩⟩⟩<;>simp at A;obtain⟨K,hy⟩:=A;obtain⟨a,ys,Y,g2,rfl⟩:=eD F;obtain⟨f,g3,rfl⟩:=ga g2;obtain⟨a',N,W⟩:=mc h G K;rw[Y]at N;cases N;refine⟨_,?_,B⟩;(cases a<;>first|(simp[aS]at w;done)|skip);simp only[aS]at w;split at w;{rename_i a ha;have Vw:=Xs h G hy g3 ha 0 (λ_=>rfl);split at w;{rename_i U;cases w;simp only[jl,W,Vw];simp only[Cs];rw[if_pos ⟨U.1,U.2,aI _⟩,bq]};cases w};cases w};obtain⟨es,Q,y,A,F,w,rfl,B⟩:=iC g T H;rcases es with _|⟨e0,_|⟨e1,_|⟨e2,_|⟨e3,l⟩⟩⟩⟩<;>simp at A;obtain⟨K,hy,hz⟩:=A;obtain⟨a,ys,Y,g2,rfl⟩:=eD F;obtain⟨f,zs,g3,g4,rfl⟩:=eD g2;obtain⟨b,g5,rfl⟩:=ga g4;obtain⟨a',N,W⟩:=mc h G K;rw[Y]at N;cases N;refine⟨_,?_,B⟩;(cases a<;>first|(simp[aS]at w;done)|skip);simp only[aS]at w;split at w;{rename_i a b ha mJ;have Vw:=Xs h G hy g3 ha 0 (λ_=>rfl);split at w;{rename_i U;cases w;have hhi:=λf=>Xs (lo:=Z _) h G hz g5 mJ f (λh=>by cases h);simp only[jl,W,Vw,hhi];rw[if_pos U]};cases w};cases w};{split at g;{rename_i b p K;simp only[ao,aP]at g;obtain⟨rfl,rfl⟩:=g;cases H;have R:=dc h G K;simp only[lf]at R;exact⟨_,by simp only[jl,R],rfl⟩};{rename_i i p K;simp only[ao,aP]at g;obtain⟨rfl,rfl⟩:=g;cases H;obtain⟨x,cs,A,F,w⟩:=dc h G K;exact⟨_,by simp only[jl,w],x,cs,A,F,rfl⟩};{rename_i r k i p K;simp only[ao,aP]at g;obtain⟨rfl,rfl⟩:=g;cases H;obtain⟨iv,A,F⟩:=dc h G K;exact⟨_,by simp only[jl,F],iv,A,rfl⟩};cases g};{split at g;{rename_i r K;split at g;{rename_i row hl;obtain⟨y,A,es,F,rfl⟩:=h.rw r row hl;split at g;{rename_i hk;simp only[ao,aP]at g;obtain⟨rfl,rfl⟩:=g;obtain⟨Q,y,P,B,rfl⟩:=fE H;obtain⟨a,L,rfl⟩:=ga P;rw[F]at L;cases L;have R:=dc h G K;simp only[lf,lb]at R;rw[hk]at B;simp only[aS]at B;refine⟨.d y,?_,y,by subst T;exact kt ρ y [],rfl⟩;simp only[jl,R,A];rw[if_pos hk];rw[ay]at B ⊢;obtain⟨zs,z1,z2⟩:=B;exact⟨zs,z1,by rw[z2]⟩};cases g};cases g};cases g};{split at g;{rename_i Q K;obtain⟨y,A,F⟩:=ay.1 g;simp only[aP]at F;obtain⟨rfl,rfl⟩:=F;cases H;obtain⟨cs,w,P⟩:=dc h G K;obtain⟨c,B,L⟩:=P.nth A;exact⟨c,by simp only[jl,w,B],L⟩};cases g};{obtain⟨l,A,F⟩:=ay.1 g;simp only[aP]at F;obtain⟨rfl,rfl⟩:=F;cases H;exact⟨_,by simp only[jl,OW h G A,aX],rfl⟩};cases g
end
def qo(S:SS):M SB->u (M SE×M SE×Bool×SS)
 |[]=>Z ([],[],I,S)
 | .d e::xs=>match e with
  | .k (.nil _ _)=>O
  | .k x=>(qo S xs).map λp=>(.k x::p.1,p.2.1,p.2.2.1,p.2.2.2)
  |e=>(qo S xs).map λp=>(e::p.1,e::p.2.1,p.2.2.1,p.2.2.2)
 | .nil k a::xs=>(qo S xs).map λp=>(.k (.nil k a)::p.1,p.2.1,p.2.2.1,p.2.2.2)
 | .ref r::xs=>match look S.rw r with
  |some x=>(qo (S.dP r) xs).map λp=>(x.e::p.1,p.2.1,x.deep && !x.fz && p.2.2.1,p.2.2.2)
  |none=>O
 | .any::_=>O
def rB(k:Nat):SS->M SC->u (M SE×M SE×Bool×SS)
 |S,[]=>Z ([],[],I,S)
 |S,c::cs=>match c.cells with
  |some a=>if a.all SB.cell=I then (match qo S a with
   |some p=>if p.1.length=k then (rB k p.2.2.2 cs).map λq=>(p.1++q.1,p.2.1++q.2.1,p.2.2.1 && q.2.2.1,q.2.2.2) else O
   |none=>O) else O
  |none=>O
def Bf(a:M D):M SC->M C->Prop
 |[],cs=>cs=[]
 |x::xs,cs=>∃c b,cs=c::b/\lf a x c/\Bf a xs b
section
variable {ρ iZ:M D} {S:SS} {s:St} {gs:Gs}
theorem qY:∀{es fs:M SE} {b ys:M D},jk ρ es=Z b->jk ρ fs=Z ys->jk ρ (es++fs)=Z (b++ys)
 |[],_,_,_,h,a=>by cases h;exact a
 |e::es,_,_,_,h,a=>by obtain⟨x,ys,d,c,rfl⟩:=eD h;simp only[ax,jk,d,qY c a,aX]
theorem I6:∀{es fs:M SE} {c a:M D},jk ρ es=Z c->jk ρ (es++fs)=Z a->∃ys,a=c++ys/\jk ρ fs=Z ys
 |[],_,_,a,h,b=>by cases h;exact⟨a,rfl,b⟩
 |e::es,_,_,_,h,b=>by obtain⟨x,ys,k,j,rfl⟩:=eD h;obtain⟨m,l,d,i,rfl⟩:=eD (es:=es++_) b;rw[k]at d;cases d;obtain⟨f,rfl,g⟩:=I6 j i;exact⟨f,rfl,g⟩
theorem zY(a:M D):∀{es:M SE} {b:M D},jk ρ es=Z b->jk (ρ++a) es=Z b
 |[],_,h=>by cases h;rfl
 |e::es,_,h=>by obtain⟨x,ys,d,c,rfl⟩:=eD h;simp only[jk,SE.mono a d,zY a c,aX]
theorem oK(x:D)(a:M D):db (x::a)=(x.plain && db a):=rfl
theorem za(a ys:M D):db (a++ys)=(db a && db ys):=List.all_append
theorem SJ:∀{B:M SB} {U:M C} {S A:SS} {s:St} {es pl:M SE} {q:Bool},Rel ρ S s->eR ρ B U->qo S B=Z (es,pl,q,A)->
  ∃m l g,HN s U=Z (m,q && db l,g)/\jk ρ es=Z m/\jk ρ pl=Z l/\Rel ρ A g:=by intro B;induction B with|nil=>{intro U S A s es pl q h R f;simp only[eR]at R;subst R;simp only[qo,ao,aP]at f;obtain⟨rfl,rfl,rfl,rfl⟩:=f;exact⟨[],[],s,rfl,rfl,rfl,h⟩}|cons x B Q=>intro U S A s es pl q h R f;obtain⟨c,X,rfl,N,T⟩:=R;have w:∀{e:SE},x=.d e->(qo S B).map (λp=>(e::p.1,e::p.2.1,p.2.2.1,p.2.2.2))=Z (es,pl,q,A)->∃m l g,HN s (c::X)=Z (m,q && db l,g)/\jk ρ es=Z m/\jk ρ pl=Z l/\Rel ρ A g:=by{intro e he sC;subst he;obtain⟨⟨a1,a2,a3,a4⟩,F,o⟩:=ay.1 sC;simp only[aP]at o;obtain⟨rfl,rfl,rfl,rfl⟩:=o;obtain⟨y,P,rfl⟩:=N;obtain⟨m,l,g,L,K,H,G⟩:=Q h T F;refine⟨y::m,y::l,g,?_,by simp only[jk,P,K,aX],by simp only[jk,P,H,aX],G⟩;simp only[HN,L,aX,oK,ao,aP,true_and,and_true];cases D.plain y<;>simp};cases x with|d e=>{cases e with|v i=>{exact w rfl f}|c i j=>{exact w rfl f}|k a=>have V:∀{y:D},a.d=y->D.plain y=I->(qo S B).map (λp=>(SE.k a::p.1,p.2.1,p.2.2.1,p.2.2.2))=Z (es,pl,q,A)->∃m l g,HN s (c::X)=Z (m,q && db l,g)/\jk ρ es=Z m/\jk ρ pl=Z l/\Rel ρ A g:=by{intro y P hp f;obtain⟨⟨a1,a2,a3,a4⟩,F,o⟩:=ay.1 f;simp only[aP]at o;obtain⟨rfl,rfl,rfl,rfl⟩:=o;obtain⟨y',W,rfl⟩:=N;simp only[SE.d,ao]at W;rw[P]at W;subst W;obtain⟨m,l,g,L,K,H,G⟩:=Q h T F;exact⟨y::m,l,g,by simp only[HN,L,aX,hp,dw],by simp only[jk,SE.d,P,K,aX],H,G⟩};cases a with|nil k Y=>{cases f}|int k n=>{exact V rfl rfl f}|bool b=>{exact V rfl rfl f}|str t=>exact V rfl rfl f}|nil k Y=>{obtain⟨⟨a1,a2,a3,a4⟩,F,o⟩:=ay.1 f;simp only[aP]at o;obtain⟨rfl,rfl,rfl,rfl⟩:=o;simp only[lb]at N;subst N;obtain⟨m,l,g,L,K,H,G⟩:=Q h T F;exact⟨D.list k Y []::m,l,g,by simp only[HN,L,aX],by simp only[jk,SE.d,SK.d,K,aX],H,G⟩}|ref r=>{simp only[qo]at f;split at f;{rename_i row hl;obtain⟨⟨a1,a2,a3,a4⟩,F,o⟩:=ay.1 f;simp only[aP]at o;obtain⟨rfl,rfl,rfl,rfl⟩:=o;simp only[lb]at N;subst N;obtain⟨y,q1,mj,q2,rfl⟩:=h.rw r row hl;obtain⟨m,l,g,L,K,H,G⟩:=Q (h.dP r) T F;exact⟨D.list row.k row.fl mj::m,l,g,by simp only[HN,q1,L,aX,iV],by simp only[jk,q2,K,aX],H,G⟩};cases f}|any=>cases f
theorem I1:∀{i:M C} {s j:St} {f:M D} {g:Bool},HN s i=Z (f,g,j)->db f=I->g=I:=by intro i;induction i with|nil=>{intro s j f g h _;simp only[HN,ao,aP]at h;exact h.2.1.symm}|cons c i l=>intro s j f g h b;cases c with|d x=>{obtain⟨⟨a1,a2,a3⟩,e,a⟩:=ay.1 h;simp only[aP]at a;obtain⟨rfl,rfl,rfl⟩:=a;rw[oK,aw]at b;rw[b.1,l e b.2];rfl}|nil k m=>{obtain⟨⟨a1,a2,a3⟩,e,a⟩:=ay.1 h;simp only[aP]at a;obtain⟨rfl,rfl,rfl⟩:=a;rw[oK,aw]at b;exact l e b.2}|ref r=>{simp only[HN]at h;split at h;{obtain⟨⟨a1,a2,a3⟩,e,a⟩:=ay.1 h;simp only[aP]at a;obtain⟨rfl,rfl,rfl⟩:=a;rw[oK,aw]at b;exact absurd b.1 (by simp[D.plain])};cases h}|ptr _ _=>{cases h}|pG _ _ _ _=>{cases h}|vi _=>{cases h}|agg _=>{cases h}|tw _=>{cases h}|fn _ _=>{cases h}|wD=>{cases h}|any=>cases h
theorem Zo{k:Nat}{fl:Bool}:∀{e:M SC} {vs:M C} {S q:SS} {s:St} {es pl:M SE} {o:Bool} {n:M D} {i:M (M D)},Rel ρ S s->Bf ρ e vs->rB k S e=Z (es,pl,o,q)->
  jk ρ es=Z n->chunk k e.length n=Z i->(fl=I->i.all db=I)->∃l j,EH k fl s vs=Z (i,o && db l,j)/\jk ρ pl=Z l/\Rel ρ q j:=by intro e;induction e with|nil=>{intro vs S q s es pl o n i h m a F g f;simp only[Bf]at m;subst m;simp only[rB,ao,aP]at a;obtain⟨rfl,rfl,rfl,rfl⟩:=a;cases F;cases g;exact⟨[],s,rfl,rfl,h⟩}|cons c e T=>intro vs S q s es pl o n i h m a F g f;obtain⟨v,fu,rfl,y,x⟩:=m;simp only[rB]at a;split at a;{rename_i xs U;split at a;{rename_i L;split at a;{rename_i p W;obtain⟨p1,p2,R,p4⟩:=p;simp only at a;split at a;{rename_i X;obtain⟨⟨a1,a2,a3,a4⟩,Y,H⟩:=ay.1 a;simp only[aP]at H;obtain⟨rfl,rfl,rfl,rfl⟩:=H;obtain⟨b,w,s1,g1,K,g3,g4⟩:=SJ h (y.cells U L) W;(have r:b.length=k:=by rw[lj K,X]);have A:=I6 K F;obtain⟨d,rfl,B⟩:=A;simp only[aN,chunk,az,r]at g;rw[if_pos (by omega)]at g;obtain⟨apm,G,rfl⟩:=ay.1 g;(have V:(b++d).take k=b:=by rw[<- r];exact oc);(have hd:(b++d).drop k=d:=by rw[<- r];exact List.drop_left);rw[hd]at G;rw[V]at f ⊢;simp only[cK,aw]at f;obtain⟨l,j,Q,P,N⟩:=T g4 x Y B G (λt=>(f t).2);refine⟨w++l,j,?_,qY g3 P,N⟩;simp only[EH,g1];rw[if_pos ⟨r,λt=>(f t).1⟩,Q];simp only[aX,za,ao,aP,true_and,and_true];cases R<;>cases a3<;>simp};cases a};cases a};cases a};cases a
end
def ai3:D->u SK
 | .int k n=>Z (.int k n)
 | .bool b=>Z (.bool b)
 | .str t=>Z (.str t)
 | .list k a []=>Z (.nil k a)
 |_=>O
def SB.iQ(q i:Nat):SB->SB
 | .ref r=>if r=q then .ref i else if r=i then .any else .ref r
 |x=>x
def SC.iQ(q i:Nat):SC->SC
 | .b x=>.b (x.iQ q i)
 | .agg xs=>.agg (xs.map (SB.iQ q i))
 | .tw xs=>.tw (xs.map λ| .inl x=>.inl (x.iQ q i) | .inr l=>.inr (l.map (SB.iQ q i)))
 | .pG r k a o=>if r=q then .pG i k a o else if r=i then .any else .pG r k a o
 |x=>x
def SS.iQ(S:SS)(q i:Nat)(row:SR):SS:=⟨S.sl.map λp=>(p.1,⟨p.2.gs,p.2.c.iQ q i⟩),S.bx.map λp=>(p.1,p.2.map (SB.iQ q i)),(i,row)::sy (sy S.rw q) i⟩
def Hu(S:SS)(a:Gs):M KX->u (M SC)
 |[]=>Z []
 |x::xs=>match gx S a x with
  |some c=>(Hu S a xs).map (c::·)
  |none=>O
def aea(hint:M Nat)(d:Nat)(a b:Bool)(pl:M SE):Bs×Bool:=
 if a=I then ([],I) else if b=J then ([],J) else match pl with
  |[]=>([],I)
  |pl=>if hint.contains (1000 * d+pl.length) then ([(.xK,pl)],J) else ([(.pl,pl)],I)
def RG(S:SS)(k:Nat)(a:Bool):SC->u (SE×Bool×SS)
 | .b (.d e)=>Z (e,a,S)
 | .b (.nil _ _)=>Z (.k (.nil k a),I,S)
 | .b (.ref q)=>match look S.rw q with
  |some row=>if row.k=k/\row.fl=a then Z (row.e,(row.deep && !row.fz) ||a,S.dP q) else O
  |none=>O
 |_=>O
def SR.share(r:SR):SR:={r with fz:=I,deep:=r.fl }
def oY(S:SS):M Nat->u SS
 |[]=>Z S
 |r::rs=>match look S.rw r with
  |some x=>oY (S.setRow r x.share) rs
  |none=>O
def tt(hint:M Nat)(S:SS)(f:Gs)(n:Nat)(d:u Nat):KO->u (Bs×SS)
 | .alloc l=>match d,gN vz l with
  |some b,Z g=>Z ([],(S.j8 b g).put d ⟨[],.ptr b 0⟩)
  |_,_=>O
 | .box x=>match d,gx S f x with
  |some b,Z c=>match c.cells with
   |some g=>if g.all SB.cell=I then Z ([],(S.j8 b (g.map (SB.kill b))).put d ⟨[],.ptr b 0⟩) else O
   |none=>O
  |_,_=>O
 | .uX k a g=>match d,Hu S f g with
  |some r,Z cs=>match rB k S cs with
   |some p=>if 0<k then (match aea hint r a p.2.2.1 p.2.1 with
    |(s,deep)=>Z (s++[(.lD k a,p.1)],(p.2.2.2.newRow r ⟨.v (n+s.length),k,a,deep,I,J⟩).put d ⟨[],.b (.ref r)⟩)) else O
   |none=>O
  |_,_=>O
 | .make k h a l x=>match d,sD (gx S f x),gN ai3 l with
  |some r,Z e,Z w=>Z ([(.make k h a w,[e])],(S.newRow r ⟨.v n,k,a,I,I,J⟩).put d ⟨[],.b (.ref r)⟩)
  |_,_,_=>O
 | .st m x y=>match gx S f x,gx S f y with
  |some (.ptr b o),Z c=>match look S.bx b,c.cells with
   |some g,Z ys=>if ys.all SB.cell=I/\ys.length=m/\o+m<=g.length then Z ([],S.gA b (aeR g o ys)) else O
   |_,_=>O
  |some (.pG r k i o),Z c=>match c.cells with
   |some ys=>match qo S ys with
    |some p=>match look p.2.2.2.rw r with
     |some row=>if ys.all SB.cell=I/\row.k=k/\row.fz=J/\row.app=I/\p.1.length=m/\o+m<=k then
       Z (if row.fl ||!row.deep then ([(.set o,row.e::i::p.1)],p.2.2.2.setRow r ⟨.v n,row.k,row.fl,row.deep,row.app,row.fz⟩)
        else ([(.pl,if p.2.2.1 then p.2.1 else [row.e]),(.set o,row.e::i::p.1)],p.2.2.2.setRow r ⟨.v (n+1),row.k,row.fl,row.deep,row.app,row.fz⟩)) else O
     |none=>O
    |none=>O
   |none=>O
  |_,_=>O
 | .app k h a x y=>match d,gx S f y with
  |some d0,Z c=>match RG S k a c with
   |some p=>match gx S f x with
    |some (.b (.nil A t))=>if A=k/\t=a then Z ([(.app k h,[.k (.nil k a),p.1])],(p.2.2.newRow d0 ⟨.v n,k,a,p.2.1,I,J⟩).put d ⟨[],.b (.ref d0)⟩) else O
    |some (.b (.ref r))=>match look p.2.2.rw r with
     |some row=>if row.k=k/\row.fl=a/\row.app=I then Z ([(.app k h,[row.e,p.1])],(p.2.2.newRow r ⟨.v n,row.k,row.fl,row.deep && p.2.1,row.app,row.fz⟩).put d ⟨[],.b (.ref r)⟩) else O
     |none=>O
    |_=>O
   |none=>O
  |_,_=>O
 | .IT k x y=>match d,gx S f x,sD (gx S f y) with
  |some _,Z (.b (.ref r)),Z e=>match look S.rw r with
   |some row=>if row.k=k/\row.fl=I/\row.fz=J/\row.app=I then Z ([(.IT,[row.e,e]),(.len,[.v n])],(S.setRow r ⟨.v n,row.k,row.fl,row.deep,row.app,row.fz⟩).put d ⟨[],vN (n+1)⟩) else O
   |none=>O
  |_,_,_=>O
 | .TO x=>match d,gx S f x with
  |some d0,Z (.b (.ref q))=>match look S.rw q with
   |some row=>Z ([],(S.iQ q (vm d0 0) row).put d ⟨[],.b (.ref (vm d0 0))⟩)
   |none=>O
  |some _,Z (.b (.nil k a))=>Z ([],S.put d ⟨[],.b (.nil k a)⟩)
  |some _,Z (.b (.d e))=>Z ([],S.put d ⟨[],.b (.d e)⟩)
  |_,_=>O
 | .jn x y=>match d,gx S f x,gx S f y with
  |some _,Z (.b (.ref r)),Z c=>match look S.rw r with
   |some row=>if row.k=1/\row.fl=I/\row.fz=J/\row.app=I then (match c with
    | .b (.d e)=>Z ([(.jnl,[row.e,e]),(.jnb,[row.e,e])],(S.setRow r ⟨.v n,row.k,row.fl,row.deep,row.app,row.fz⟩).put d ⟨[],vN (n+1)⟩)
    | .b (.ref q)=>match look S.rw q with
     |some j=>if j.k=1/\q≠r then Z ([(.jnl,[row.e,j.e]),(.jnb,[row.e,j.e])],(S.setRow r ⟨.v n,row.k,row.fl,row.deep,row.app,row.fz⟩).put d ⟨[],vN (n+1)⟩) else O
     |none=>O
    |_=>O) else O
   |none=>O
  |_,_,_=>O
 |_=>O
section
variable {ρ iZ:M D} {S S':SS} {s:St} {gs:Gs} {bs:Bs} {cf:Nat->M A->u (M A×M A)} {mf:Nat->Bool->M D->Int->u (M D×Int)} {hint:M Nat} {n:Nat} {d:u Nat}
theorem wA:∀{bs cs:Bs} {ρ iZ:M D},lF ρ (bs++cs)=Z iZ->∃a,lF ρ bs=Z a/\lF a cs=Z iZ
 |[],_,ρ,_,h=>⟨ρ,rfl,h⟩
 |(o,es)::bs,cs,ρ,iZ,h=>by simp only[ax,lF]at h ⊢;split at h;{rename_i e g;split at h;{rename_i x f;obtain⟨a,c,b⟩:=wA h;exact⟨a,c,b⟩};cases h};cases h
theorem tj:∀{bs:Bs} {ρ iZ:M D},lF ρ bs=Z iZ->iZ.length=ρ.length+bs.length
 |[],ρ,_,h=>by cases h;rfl
 |(o,es)::bs,ρ,iZ,h=>by simp only[lF]at h;split at h;{split at h;{have:=tj h;simp only[az,aN,aK]at this ⊢;omega};cases h};cases h
theorem Bf.mono(a:M D):∀{c:M SC} {vs:M C},Bf ρ c vs->Bf (ρ++a) c vs
 |[],_,h=>h
 |_::_,_,⟨v,vs,g,f,e⟩=>⟨v,vs,g,f.mono a,e.mono a⟩
theorem xq(h:Rel ρ S s)(f:jI ρ gs=Z I):∀{b:M KX} {e:M SC},Hu S gs b=Z e->Bf ρ e (b.map (gG s))
 |[],_,h=>by cases h;rfl
 |x::b,_,a=>by simp only[Hu]at a;split at a;{rename_i c g;obtain⟨e,i,rfl⟩:=ay.1 a;exact⟨_,_,rfl,dc h f g,xq h f i⟩};cases a
theorem ry(g:n=ρ.length){x:D}{k:Nat}{e:Bool}{es:M (M D)}(f:x=.list k e es){a b c:Bool}:SRr (ρ++[x]) ⟨.v n,k,e,a,b,c⟩ ⟨es,k,e,a,b,c⟩:=by subst g f;exact⟨es,kt ρ _ [],rfl⟩
theorem tF.ref{r:Nat}:tF ρ ⟨[],.b (.ref r)⟩ (.ref r):=tF.nil (by simp only[lf,lb])
theorem tF.ptr{b o:Nat}:tF ρ ⟨[],.ptr b o⟩ (.ptr b o):=tF.nil (by simp only[lf])
theorem tF.new(a:n=ρ.length){x:D}:tF (ρ++[x]) ⟨[],vN n⟩ (.d x):=by subst a;exact tF.nil ⟨x,kt ρ _ [],rfl⟩
theorem Kl{a:C}{x:SB}(h:vz a=Z x):a.const=I:=by unfold vz at h;split at h<;>first|rfl|cases h
theorem zP:∀{b:M C} {c:M SB},gN vz b=Z c->b.all C.const=I
 |[],_,_=>rfl
 |a::b,c,h=>by simp only[gN]at h;split at h;{rename_i y e;obtain⟨ys,f,rfl⟩:=ay.1 h;simp only[cK,Kl e,zP f,kF]};cases h
theorem RD(h:Rel ρ S s){c:M C}(a:tt hint S gs n d (.alloc c)=Z (bs,S'))(g:lF ρ bs=Z iZ):∃e,ml cf mf s d (.alloc c)=Z e/\Rel iZ S' e:=by simp only[tt]at a;split at a;{rename_i b i f;simp only[ao,aP]at a;obtain⟨rfl,rfl⟩:=a;cases g;exact⟨_,by simp only[ml,zP f,if_true],(h.j8 b (yj f)).put _ tF.ptr⟩};cases a
theorem ab6(h:Rel ρ S s)(j:jI ρ gs=Z I){x:KX}(a:tt hint S gs n d (.box x)=Z (bs,S'))(l:lF ρ bs=Z iZ):∃f,ml cf mf s d (.box x)=Z f/\Rel iZ S' f:=by simp only[tt]at a;split at a;{rename_i b c i;split at a;{rename_i m k;split at a;{rename_i e;simp only[ao,aP]at a;obtain⟨rfl,rfl⟩:=a;cases l;have g:=(dc h j i).cells k e;exact⟨_,by simp only[ml,g.cell e,if_true],(h.j8 b (g.kill b)).put _ tF.ptr⟩};cases a};cases a};cases a
theorem Da{k:Nat}:∀{b:M SC} {S S':SS} {es pl:M SE} {i:Bool},rB k S b=Z (es,pl,i,S')->es.length=k * b.length
 |[],_,_,_,_,_,h=>by simp only[rB,ao,aP]at h;obtain⟨rfl,_⟩:=h;rfl
 |c::b,_,_,_,_,_,a=>by simp only[rB]at a;split at a;{split at a;{split at a;{split at a;{rename_i f;obtain⟨⟨a1,a2,a3,a4⟩,g,e⟩:=ay.1 a;simp only[aP]at e;obtain⟨rfl,_⟩:=e;rw[az,f,Da g,aN,Nat.mul_succ,Nat.add_comm]};cases a};cases a};cases a};cases a
theorem EI{k:Nat}{e:Bool}:∀{g:M C} {s i:St} {es:M (M D)} {f:Bool},EH k e s g=Z (es,f,i)->e=I->f=I
 |[],_,_,_,_,h,_=>by simp only[EH,ao,aP]at h;exact h.2.1.symm
 |c::g,_,_,_,_,h,a=>by simp only[EH]at h;split at h;{rename_i q o p l;split at h;{rename_i j;obtain⟨⟨a1,a2,a3⟩,m,b⟩:=ay.1 h;simp only[aP]at b;obtain⟨rfl,rfl,rfl⟩:=b;rw[EI m a,I1 l (j.2 a)];rfl};cases h};cases h
theorem aeb{r:Nat}{i j deep:Bool}{pl:M SE}{k f:M D}(a:aea hint r i j pl=(bs,deep))(l:lF ρ bs=Z iZ)(c:jk (ρ++f) pl=Z k):deep=(i ||(j && db k)):=by unfold aea at a;split at a;{rename_i e;cases a;simp[e]};rename_i e;(have e:i=J:=by simpa using e);subst e;split at a;{rename_i hd;cases a;simp[hd]};rename_i hd;(have hd:j=I:=by simpa using hd);subst hd;split at a;{cases a;cases c;rfl};split at a;{cases a;obtain⟨m,x,h,b,rfl⟩:=fE l;rw[zY f h]at c;cases c;simp only[aS]at b;split at b;{cases b};rename_i g;simpa using g};cases a;obtain⟨m,x,h,b,rfl⟩:=fE l;rw[zY f h]at c;cases c;simp only[aS]at b;split at b;{rename_i g;simpa using g};cases b
theorem RE(h:Rel ρ S s)(K:jI ρ gs=Z I)(G:n=ρ.length){k:Nat}{fl:Bool}{j:M KX}(a:tt hint S gs n d (.uX k fl j)=Z (bs,S'))(N:lF ρ bs=Z iZ):∃e,ml cf mf s d (.uX k fl j)=Z e/\Rel iZ S' e:=by simp only[tt]at a;split at a;{rename_i r R B;split at a;{rename_i p l;obtain⟨es,pl,v,X⟩:=p;simp only at a;split at a;{rename_i m;generalize F:aea hint r fl v pl=q at a;obtain⟨T,deep⟩:=q;simp only[ao,aP]at a;obtain⟨rfl,rfl⟩:=a;obtain⟨W,g,y⟩:=wA N;obtain⟨V,x,t,b,rfl⟩:=fE y;obtain⟨i,rfl⟩:=oL g;have H:=tj g;have C:=xq h K B;simp only[aS]at b;split at b;{split at b;{rename_i Y o;split at b;{rename_i L;cases b;(have c:V.length=k * R.length:=by rw[lj t,Da l]);rw[c,Nat.mul_div_cancel_left _ m]at o;obtain⟨w,e,f,Q,P⟩:=Zo (fl:=fl) (h.mono i) (C.mono i) l t o L;have hd:=aeb F g Q;have U:(v && db w)=deep:=by{cases fl with|true=>{rw[EI f rfl,hd];rfl}|false=>rw[hd,fV]};rw[U]at f;refine⟨_,by simp only[ml,f];rw[if_pos m],((P.mono [_]).newRow r (ry (by rw[G,H]) rfl)).put _ tF.ref⟩};cases b};cases b};cases b};cases a};cases a};cases a
theorem pJ:∀{rs:M Nat} {S S':SS} {s:St},Rel ρ S s->oY S rs=Z S'->Rel ρ S' (eM s rs)
 |[],S,S',s,h,a=>by cases a;exact h
 |r::rs,S,S',s,h,a=>by simp only[oY]at a;split at a;{rename_i x b;obtain⟨y,e,es,c,rfl⟩:=h.rw r x b;simp only[eM,e];exact pJ (h.setRow r (x:=x.share) (y:=Row.share _) ⟨es,c,rfl⟩) a};cases a
theorem ab1:∀{b:M D} {c:M SK},gN ai3 b=Z c->c.map SK.d=b
 |[],_,h=>by cases h;rfl
 |a::b,c,h=>by simp only[gN]at h;split at h;{rename_i y e;obtain⟨ys,f,rfl⟩:=ay.1 h;rw[bc,ab1 f];unfold ai3 at e;split at e<;>cases e<;>rfl};cases h
theorem U_{k c:Nat}{g:Bool}{f:M SK}{e:M D}{x:D}(h:aS (.make k c g f) e=Z x):∃m,e=[.int .i64 m]/\(0<=m/\m.toNat * c<=room/\m<=4611686018427387904)/\x=.list k g (a_ m.toNat (f.map SK.d)):=by rcases e with _|⟨a,_|⟨b,l⟩⟩;{simp[aS]at h};{cases a with|int i m=>{(cases i<;>simp only[aS]at h<;>try cases h);split at h;{rename_i j;cases h;exact⟨m,rfl,j,rfl⟩};cases h}|_=>simp[aS]at h};simp[aS]at h
theorem NI{k e:Nat}{g:M D}{x:D}(h:aS (.app k e) g=Z x):∃i es f,g=[.list k i es,.list k i f]/\(es.length+f.length) * e<=room/\es.length+f.length<=maxLen/\x=.list k i (es++f):=by rcases g with _|⟨a,_|⟨b,_|⟨c,l⟩⟩⟩;{simp[aS]at h};{cases a<;>simp[aS]at h};{(cases a<;>cases b<;>simp only[aS]at h<;>try cases h);split at h;{rename_i j;obtain⟨rfl,rfl,rfl,o,m⟩:=j;cases h;exact⟨_,_,_,rfl,o,m,rfl⟩};cases h};cases a<;>cases b<;>simp[aS]at h
theorem ZH{o:Nat}{g:M D}{x:D}(h:aS (.set o) g=Z x):∃k c es i f e,g=.list k c es::.int .i64 i::f/\nth es i.toNat=Z e/\o+f.length<=k/\(c=I->db f=I)/\x=.list k c (es.set i.toNat (nS e o f)):=by rcases g with _|⟨a,_|⟨b,l⟩⟩;{simp[aS]at h};{cases a<;>simp[aS]at h};cases a with|list k c es=>{cases b with|int m i=>{(cases m<;>simp only[aS]at h<;>try cases h);split at h;{rename_i e p;split at h;{rename_i j;cases h;exact⟨_,_,_,_,_,_,rfl,p,j.1,j.2,rfl⟩};cases h};cases h}|_=>simp[aS]at h}|_=>simp[aS]at h
theorem ZD{e:M D}{x:D}(h:aS .IT e=Z x):∃k es f,e=[.list k I es,.list k I f]/\f.length=es.length/\x=.list k I f:=by rcases e with _|⟨a,_|⟨b,_|⟨c,l⟩⟩⟩;{simp[aS]at h};{cases a<;>simp[aS]at h};{(cases a<;>cases b<;>simp only[aS]at h<;>try cases h);split at h;{rename_i g;obtain⟨rfl,rfl,rfl,i⟩:=g;cases h;exact⟨_,_,_,rfl,i,rfl⟩};cases h};cases a<;>cases b<;>simp[aS]at h
theorem ZF{f:M D}{x:D}(h:aS .jnl f=Z x):∃es i e bs g,f=[.list 1 I es,.list 1 i e]/\e.length=es.length/\e≠[]/\lg es=Z bs/\lg e=Z g/\x=.list 1 I ((dN bs g).map λb=>[D.bool b]):=by rcases f with _|⟨a,_|⟨b,_|⟨c,l⟩⟩⟩;{simp[aS]at h};{cases a<;>simp[aS]at h};{(cases a<;>cases b<;>simp only[aS]at h<;>try cases h);split at h;{rename_i j;obtain⟨rfl,rfl,rfl,o,m⟩:=j;split at h;{rename_i bs g k p;cases h;exact⟨_,_,_,_,_,rfl,o,m,k,p,rfl⟩};cases h};cases h};cases a<;>cases b<;>simp[aS]at h
theorem ZE{e:M D}{x:D}(h:aS .jnb e=Z x):∃k o es j i g bs f,e=[.list k o es,.list j i g]/\lg es=Z bs/\lg g=Z f/\x=.bool (nB bs f):=by rcases e with _|⟨a,_|⟨b,_|⟨c,l⟩⟩⟩;{simp[aS]at h};{cases a<;>simp[aS]at h};{(cases a<;>cases b<;>simp only[aS]at h<;>try cases h);split at h;{rename_i bs f m p;cases h;exact⟨_,_,_,_,_,_,_,_,rfl,m,p,rfl⟩};cases h};cases a<;>cases b<;>simp[aS]at h
theorem ZG{c:M D}{x:D}(h:aS .len c=Z x):∃k e es,c=[.list k e es]/\x=.int .i64 es.length:=by rcases c with _|⟨a,_|⟨b,l⟩⟩;{simp[aS]at h};{cases a<;>simp only[aS]at h<;>cases h;exact⟨_,_,_,rfl,rfl⟩};cases a<;>simp[aS]at h
theorem Xu(h:Rel ρ S s)(t:jI ρ gs=Z I)(p:n=ρ.length){k c:Nat}{j:Bool}{f:M D}{x:KX}(b:tt hint S gs n d (.make k c j f x)=Z (bs,S'))(w:lF ρ bs=Z iZ):∃g,ml cf mf s d (.make k c j f x)=Z g/\Rel iZ S' g:=by simp only[tt]at b;split at b;{rename_i r e H o l;simp only[ao,aP]at b;obtain⟨rfl,rfl⟩:=b;obtain⟨L,G,F,C,rfl⟩:=fE w;obtain⟨a,B,rfl⟩:=ga F;obtain⟨K,i,y⟩:=mc h t o;rw[B]at i;cases i;obtain⟨m,q,v,rfl⟩:=U_ C;cases q;refine⟨_,by simp only[ml,y];rw[if_pos v],((h.mono [_]).newRow r (ry p (by rw[ab1 l]))).put _ tF.ref⟩};cases b
theorem lf.Bl{x:SC}{c:C}{a:M SB}(h:lf ρ x c)(e:x.cells=Z a)(b:a.all SB.cell=I):eR ρ a c.cells/\c.cells.all C.cell=I:=⟨h.cells e b,(h.cells e b).cell b⟩
theorem aeX(h:Rel ρ S s)(G:jI ρ gs=Z I)(hn:n=ρ.length){m:Nat}{x y:KX}(g:tt hint S gs n d (.st m x y)=Z (bs,S'))(Y:lF ρ bs=Z iZ):∃s',ml cf mf s d (.st m x y)=Z s'/\Rel iZ S' s':=by
 simp only[tt]at g
 split at g
 .rename_i b o c T R
  split at g
  .rename_i j ys U X
   split at g
   .rename_i V;obtain⟨Q,F,C⟩:=V;simp only[ao,aP]at g;obtain⟨rfl,rfl⟩:=g;cases Y;have q:=dc h G T;simp only[lf]at q;obtain⟨cs,g1,g2⟩:=h.bx b j U;obtain⟨H,g4⟩:=(dc h G R).Bl X Q;refine⟨_,by simp only[ml,q,g1];rw[if_pos ⟨g4,by rw[H.len,F],by rw[g2.len];exact C⟩],h.gA b (g2.spl o H)⟩
   .cases g
  .cases g
 .rename_i r k i o c T R;obtain⟨iv,hi,q⟩:=dc h G T
  split at g
  .rename_i ys X
   split at g
   .rename_i p hp;obtain⟨es,pl,dp,S1⟩:=p;simp only at g
    split at g
    .rename_i row U
     split at g
     .rename_i V;obtain⟨Q,F,C,k4,k5,k6⟩:=V;obtain⟨H,g4⟩:=(dc h G R).Bl X Q;obtain⟨ds,ps,s1,P,N,q3,L⟩:=SJ h H hp;obtain⟨f,w1,Qw,w2,rfl⟩:=L.rw r row U;have l:∀{σ:M D} {j:M D} {v:D},jk (ρ++σ) (row.e::i::es)=Z j->aS (.set o) j=Z v->∃e,nth Qw iv.toNat=Z e/\o+ds.length<=row.k/\(row.fl=I->db ds=I)/\v=.list row.k row.fl (Qw.set iv.toNat (nS e o ds)):=by
       intro σ j v w t;obtain⟨a,X7,j1,j2,rfl⟩:=eD w;obtain⟨b,zs',j3,j4,rfl⟩:=eD j2;rw[SE.mono σ w2]at j1;cases j1;rw[SE.mono σ hi]at j3;cases j3;rw[zY σ N]at j4;cases j4;obtain⟨k',wU,mj,i',uP,e,t1,t2,t3,t4,rfl⟩:=ZH t;simp only[cr,D.list.injEq,D.int.injEq,true_and]at t1;obtain⟨⟨rfl,rfl,rfl⟩,rfl,rfl⟩:=t1;exact⟨e,t2,t3,t4,rfl⟩
      split at g
      .rename_i W;simp only[ao,aP]at g;obtain⟨rfl,rfl⟩:=g;obtain⟨XO,v,w,t,rfl⟩:=fE Y;obtain⟨e,t1,t2,t3,rfl⟩:=l (σ:=[]) (by simpa using w) t;refine⟨_,by
        simp only[ml,q,P,w1,t1];rw[if_pos ⟨F,C,k4,by rw[lj N,k5],k6,t3,by
         cases xF:row.fl with
         |true=>rw[I1 P (t3 xF)];rfl
         |false=>rw[xF,fV]at W;rw[W,dZ]⟩],?_⟩
       exact (L.mono [_]).setRow r (ry hn rfl)
      .rename_i W;simp only[ao,aP]at g;obtain⟨rfl,rfl⟩:=g;obtain⟨X9,BF,iM⟩:=wA (bs:=[_]) (cs:=[_]) Y;obtain⟨xs1,v1,B,K,rfl⟩:=fE BF;obtain⟨XO,v,w,t,rfl⟩:=fE iM;obtain⟨e,t1,t2,t3,rfl⟩:=l w t;cases XY:dp with
       |false=>
        rw[XY,if_neg (by simp)]at B;simp only[jk,w2]at B;cases B;simp[aS,db,D.plain]at K
       |true=>
       rw[XY,if_pos rfl,q3]at B;cases B;simp only[aS]at K
       split at K
       .rename_i PM;refine⟨_,by
         simp only[ml,q,P,w1,t1];rw[if_pos ⟨F,C,k4,by rw[lj N,k5],k6,t3,by
          rw[PM,XY];rfl⟩],?_⟩
        exact (L.mono [_] |>.mono [_]).setRow r (ry (by rw[hn];simp) rfl)
       .cases K
     .cases g
    .cases g
   .cases g
  .cases g
 .cases g
theorem Xv(h:Rel ρ S s){k:Nat}{i:Bool}{c:SC}{v:C}{e:SE}{l:Bool}{m:SS}(f:lf ρ c v)(b:RG S k i c=Z (e,l,m)):∃x j,e.d ρ=Z x/\Rel ρ m j/\∀es,x=.list k i es->oQ s k i v=Z (es,l,j):=by unfold RG at b;split at b;{cases b;obtain⟨x,t,rfl⟩:=f;refine⟨x,s,t,h,?_⟩;rintro es rfl;simp[oQ]};{cases b;simp only[lf,lb]at f;subst f;refine⟨_,s,rfl,h,?_⟩;intro es g;cases g;simp[oQ]};{split at b;{rename_i row q;split at b;{rename_i r;obtain⟨rfl,rfl⟩:=r;cases b;simp only[lf,lb]at f;subst f;obtain⟨a,p,w,o,rfl⟩:=h.rw _ row q;refine⟨_,_,o,h.dP _,?_⟩;intro es g;cases g;simp[oQ,p]};cases b};cases b};cases b
theorem ab5(h:Rel ρ S s)(F:jI ρ gs=Z I)(R:n=ρ.length){k l:Nat}{m:Bool}{x y:KX}(g:tt hint S gs n d (.app k l m x y)=Z (bs,S'))(T:lF ρ bs=Z iZ):∃N,ml cf mf s d (.app k l m x y)=Z N/\Rel iZ S' N:=by simp only[tt]at g;split at g;{rename_i d0 c X;split at g;{rename_i p Y;obtain⟨e,dp,S1⟩:=p;simp only at g;obtain⟨v,s1,Q,q,P⟩:=Xv h (dc h F X) Y;split at g;{rename_i k' wU B;have i:=dc h F B;simp only[lf,lb]at i;split at g;{rename_i C;obtain⟨rfl,rfl⟩:=C;simp only[ao,aP]at g;obtain⟨rfl,rfl⟩:=g;obtain⟨XO,V,H,G,rfl⟩:=fE T;obtain⟨a,X7,o,K,rfl⟩:=eD H;obtain⟨b,j,rfl⟩:=ga K;rw[Q]at j;cases j;simp only[SE.d,SK.d,ao]at o;subst o;obtain⟨m,es,w,t1,t2,t3,rfl⟩:=NI G;simp only[cr,D.list.injEq,true_and,and_true]at t1;obtain⟨⟨rfl,rfl⟩,rfl⟩:=t1;have t:=P w rfl;simp only[aK,bF]at t2 t3;refine⟨_,by simp only[ml,t,i];rw[if_pos ⟨trivial,trivial,t2,t3⟩],?_⟩;exact ((q.mono [_]).newRow d0 (ry R (by simp))).put _ tF.ref};cases g};{rename_i r B;have i:=dc h F B;simp only[lf,lb]at i;split at g;{rename_i row hl;split at g;{rename_i C;obtain⟨rfl,rfl,W⟩:=C;simp only[ao,aP]at g;obtain⟨rfl,rfl⟩:=g;obtain⟨XO,V,H,G,rfl⟩:=fE T;obtain⟨a,X7,o,K,rfl⟩:=eD H;obtain⟨b,j,rfl⟩:=ga K;rw[Q]at j;cases j;obtain⟨m,es,w,t1,t2,t3,rfl⟩:=NI G;simp only[cr,and_true]at t1;obtain⟨rfl,rfl⟩:=t1;obtain⟨f,U,Qw,L,rfl⟩:=q.rw r row hl;rw[o]at L;cases L;have t:=P w rfl;refine⟨_,by simp only[ml,t,i,U];rw[if_pos ⟨trivial,trivial,W,t2,t3⟩],?_⟩;exact ((q.mono [_]).newRow r (ry R rfl)).put _ tF.ref};cases g};cases g};cases g};cases g};cases g
theorem ab7(h:Rel ρ S s)(q:jI ρ gs=Z I)(i:n=ρ.length){k:Nat}{x y:KX}(g:tt hint S gs n d (.IT k x y)=Z (bs,S'))(U:lF ρ bs=Z iZ):∃j,ml cf mf s d (.IT k x y)=Z j/\Rel iZ S' j:=by simp only[tt]at g;split at g;{rename_i d0 r e Q P;have p:=dc h q Q;simp only[lf,lb]at p;obtain⟨v,L,K⟩:=mc h q P;split at g;{rename_i row R;obtain⟨f,B,Qw,w,rfl⟩:=h.rw r row R;split at g;{rename_i T;obtain⟨m,H,F,C⟩:=T;simp only[ao,aP]at g;obtain⟨rfl,rfl⟩:=g;obtain⟨X9,BF,N⟩:=wA (bs:=[_]) (cs:=[_]) U;obtain⟨t,v1,f1,Y,rfl⟩:=fE BF;obtain⟨XO,v',W,V,rfl⟩:=fE N;obtain⟨a,X7,t1,t2,rfl⟩:=eD f1;obtain⟨b,t3,rfl⟩:=ga t2;rw[w]at t1;cases t1;rw[L]at t3;cases t3;obtain⟨k',es,mj,o,i2,rfl⟩:=ZD Y;simp only[cr,D.list.injEq,and_true]at o;obtain⟨⟨i3,i4,rfl⟩,rfl⟩:=o;obtain⟨c,c1,rfl⟩:=ga W;obtain⟨G,X,es2,l,rfl⟩:=ZG V;simp only[SE.d,i,kt,ao]at c1;subst c1;simp only[cr,D.list.injEq,and_true]at l;obtain⟨rfl,rfl,rfl⟩:=l;refine⟨_,by simp only[ml,p,K,B];rw[if_pos ⟨m,by rw[<- i3,m],trivial,H,F,C,i2⟩],?_⟩;refine Rel.put ?_ _ (tF.new (by rw[i];simp));exact ((h.mono [_]).setRow r (ry i (by rw[i3,i4]))).mono [_]};cases g};cases g};cases g
theorem aeW(h:Rel ρ S s)(W:jI ρ gs=Z I)(V:n=ρ.length){x y:KX}(g:tt hint S gs n d (.jn x y)=Z (bs,S'))(t:lF ρ bs=Z iZ):∃m,ml cf mf s d (.jn x y)=Z m/\Rel iZ S' m:=by simp only[tt]at g;split at g;{rename_i d0 r c hx hy;have U:=dc h W hx;simp only[lf,lb]at U;have i:=dc h W hy;split at g;{rename_i row hl;obtain⟨f,Y,Qw,K,rfl⟩:=h.rw r row hl;split at g;{rename_i hk;obtain⟨R,Q,k3,k4⟩:=hk;have o:∀{e:SE} {v:D},e.d ρ=Z v->(∀l j,v=.list 1 l j->Jk s r (gG s y)=Z j)->lF ρ [(.jnl,[row.e,e]),(.jnb,[row.e,e])]=Z iZ->S'=(S.setRow r ⟨.v n,row.k,row.fl,row.deep,row.app,row.fz⟩).put (Z d0) ⟨[],vN (n+1)⟩->∃m,ml cf mf s (Z d0) (.jn x y)=Z m/\Rel iZ S' m:=by{rintro e v p H t rfl;obtain⟨X9,BF,iM⟩:=wA (bs:=[_]) (cs:=[_]) t;obtain⟨X,v1,f1,f2,rfl⟩:=fE BF;obtain⟨XO,v',h1,h2,rfl⟩:=fE iM;obtain⟨a,X7,t1,t2,rfl⟩:=eD f1;obtain⟨b,t3,rfl⟩:=ga t2;rw[K]at t1;cases t1;rw[p]at t3;cases t3;obtain⟨es,l,j,bs,cs,T,i2,i3,i4,i5,rfl⟩:=ZF f2;simp only[cr,D.list.injEq,and_true]at T;obtain⟨⟨_,_,rfl⟩,rfl⟩:=T;obtain⟨a,X7,t1,t2,rfl⟩:=eD h1;obtain⟨b,t3,rfl⟩:=ga t2;rw[SE.mono _ K]at t1;cases t1;rw[SE.mono _ p]at t3;cases t3;obtain⟨_,_,es2,_,_,asm,bs',kh,P,N,L,rfl⟩:=ZE h2;simp only[cr,D.list.injEq,and_true]at P;obtain⟨⟨_,_,rfl⟩,⟨_,_,rfl⟩⟩:=P;rw[i4]at N;cases N;rw[i5]at L;cases L;refine⟨_,by simp only[ml,U,H l j rfl,Y];rw[if_pos ⟨R,Q,k3,k4,i2⟩];simp only[i4,i5];rw[if_pos i3],?_⟩;refine Rel.put ?_ _ (tF.new (by rw[V];simp));exact ((h.mono [_]).setRow r (ry V (by rw[R,Q]))).mono [_]};split at g;{rename_i e;simp only[ao,aP]at g;obtain⟨rfl,F⟩:=g;obtain⟨v,p,j2⟩:=i;exact o p (λl j C=>by rw[j2,C];rfl) t F.symm};{rename_i q;split at g;{rename_i G Fj;split at g;{rename_i hq;simp only[ao,aP]at g;obtain⟨rfl,F⟩:=g;simp only[lf,lb]at i;obtain⟨z',B,apm,w,rfl⟩:=h.rw q G Fj;refine o w (λl j C=>?_) t F.symm;(injection C with e1 e2 e3);subst e3;simp only[i,Jk,B];rw[if_pos hq]};cases g};cases g};cases g};cases g};cases g};cases g
theorem lb.iQ(q i:Nat):∀{x:SB} {c:C},lb ρ x c->lb ρ (x.iQ q i) (c.iQ q i)
 | .d e,_,⟨x,b,a⟩=>by subst a;exact⟨x,b,rfl⟩
 | .nil _ _,_,h=>by simp only[lb]at h;subst h;rfl
 | .ref r,_,h=>by simp only[lb]at h;subst h;simp only[SB.iQ,C.iQ];split;{rfl};split;{trivial};rfl
 | .any,_,_=>trivial
theorem eR.iQ(q i:Nat):∀{a:M SB} {b:M C},eR ρ a b->eR ρ (a.map (SB.iQ q i)) (C.Cx q i b)
 |[],_,h=>by simp only[eR]at h;subst h;rfl
 |_::_,_,⟨c,j,g,f,e⟩=>by subst g;exact⟨_,_,rfl,f.iQ q i,eR.iQ q i e⟩
theorem vp.iQ(q i:Nat):∀{f:M (SB ⊕ M SB)} {g:M C},vp ρ f g->vp ρ (f.map λ| .inl x=>.inl (x.iQ q i) | .inr l=>.inr (l.map (SB.iQ q i))) (C.Cx q i g)
 |[],_,h=>by simp only[vp]at h;subst h;rfl
 | .inl _::_,_,⟨c,j,e,b,a⟩=>by subst e;exact⟨_,_,rfl,b.iQ q i,vp.iQ q i a⟩
 | .inr _::_,_,⟨k,j,e,b,a⟩=>by subst e;exact⟨_,_,rfl,b.iQ q i,vp.iQ q i a⟩
theorem lf.iQ(q i:Nat):∀{x:SC} {c:C},lf ρ x c->lf ρ (x.iQ q i) (c.iQ q i)
 | .b _,_,h=>lb.iQ q i h
 | .agg _,_,⟨cs,e,f⟩=>by subst e;exact⟨_,rfl,f.iQ q i⟩
 | .tw _,_,⟨cs,e,f⟩=>by subst e;exact⟨_,rfl,f.iQ q i⟩
 | .ptr b o,_,h=>by simp only[lf]at h;subst h;rfl
 | .pG r k a o,_,⟨n,e,f⟩=>by subst f;simp only[SC.iQ,C.iQ];split;{exact⟨n,e,rfl⟩};split;{trivial};exact⟨n,e,rfl⟩
 | .vi _ _,_,⟨x,cs,e,f,g⟩=>by subst g;exact⟨x,cs,e,f,rfl⟩
 | .fn F bs,_,h=>by simp only[lf]at h;subst h;rfl
 | .any,_,_=>trivial
theorem Rel.iQ(h:Rel ρ S s)(q i:Nat){row:SR}{y:Row}(p:SRr ρ row y):Rel ρ (S.iQ q i row) (s.iQ q i y) where
 sl d g a:=by simp only[SS.iQ]at a;rw[pH (λg:SG=>(⟨g.gs,g.c.iQ q i⟩:SG)),ay]at a;obtain⟨w,e,rfl⟩:=a;obtain⟨b,m,l,t⟩:=h.sl d w e;have:(s.iQ q i y).get d=(s.get d).iQ q i:=by{simp only[St.get,St.iQ,abH];rw[pH (C.iQ q i)];cases look s.sl d<;>rfl};rw[this];exact⟨b,m,λj=>(l j).iQ q i,λj=>by rw[t j];rfl⟩
 bx b o a:=by simp only[SS.iQ]at a;rw[pH (λo:M SB=>o.map (SB.iQ q i)),ay]at a;obtain⟨F,e,rfl⟩:=a;obtain⟨B,m,l⟩:=h.bx b F e;refine⟨C.Cx q i B,?_,l.iQ q i⟩;simp only[St.iQ,abG];rw[pH (C.Cx q i),m];rfl
 rw r x a:=by simp only[SS.iQ,look,fO]at a;simp only[St.iQ,look,fO];split at a;{rename_i f;cases a;exact⟨y,by rw[if_pos f],p⟩};rename_i f;rw[if_neg f];split at a;{cases a};rename_i e;rw[if_neg f,if_neg e];exact h.rw r x a
theorem ab8(h:Rel ρ S s)(f:jI ρ gs=Z I){x:KX}(a:tt hint S gs n d (.TO x)=Z (bs,S'))(g:lF ρ bs=Z iZ):∃i,ml cf mf s d (.TO x)=Z i/\Rel iZ S' i:=by simp only[tt]at a;split at a;{rename_i d0 q b;have c:=dc h f b;simp only[lf,lb]at c;split at a;{rename_i row p;simp only[ao,aP]at a;obtain⟨rfl,rfl⟩:=a;cases g;obtain⟨y,l,j⟩:=h.rw q row p;exact⟨_,by simp only[ml,c,l],(h.iQ q (vm d0 0) j).put _ tF.ref⟩};cases a};{rename_i d0 k r b;have c:=dc h f b;simp only[lf,lb]at c;simp only[ao,aP]at a;obtain⟨rfl,rfl⟩:=a;cases g;exact⟨s.put (Z d0) (.nil k r),by simp only[ml,c],h.put _ (tF.nil (by simp only[lf,lb]))⟩};{rename_i d0 e b;obtain⟨v,o,m⟩:=dc h f b;simp only[ao,aP]at a;obtain⟨rfl,rfl⟩:=a;cases g;exact⟨_,by simp only[ml,m],h.put _ (tF.nil ⟨v,o,rfl⟩)⟩};cases a
theorem RF(h:Rel ρ S s)(e:jI ρ gs=Z I)(f:n=ρ.length){o:KO}(a:tt hint S gs n d o=Z (bs,S'))(c:lF ρ bs=Z iZ):o.qk=J/\∃g,ml cf mf s d o=Z g/\Rel iZ S' g:=by cases o with|alloc j=>{exact⟨rfl,RD h a c⟩}|box x=>{exact⟨rfl,ab6 h e a c⟩}|uX k i l=>{exact⟨rfl,RE h e f a c⟩}|make k b i j x=>{exact⟨rfl,Xu h e f a c⟩}|st m x y=>{exact⟨rfl,aeX h e f a c⟩}|app k b i x y=>{exact⟨rfl,ab5 h e f a c⟩}|IT k x y=>{exact⟨rfl,ab7 h e f a c⟩}|jn x y=>{exact⟨rfl,aeW h e f a c⟩}|TO x=>{exact⟨rfl,ab8 h e a c⟩}|_=>cases a
end
section
open Go.RowKit
inductive Ty where
 |int
 |bool
 |str
 |byte
 |list (t:Nat)
def Ty.plain:Ty->Bool
 | .list _=>J
 |_=>I
def lay:Nat->M Ty
 |0=>[.str]
 |1=>[.str,.list 0,.int,.bool]
 |2=>[.str,.str,.list 2]
 |3=>[.int,.str,.str,.list 3]
 |4=>[.int,.int,.list 3]
 |5=>[.list 2,.list 4]
 |6=>[.int,.int]
 |7=>[.int,.list 6,.list 0,.str,.str]
 |8=>[.str,.str]
 |9=>[.str,.list 8]
 |10=>[.bool,.int,.list 9]
 |11=>[.int,.int,.str,.bool,.int,.list 9,.list 11]
 |12=>[.int,.str,.int,.list 6,.list 0,.str,.str,.list 0,.list 0,.str,.bool,.bool,.bool,.bool,.int,.int,.list 11,.list 11,.list 12]
 |13=>[.list 2,.int,.int]
 |14=>[.bool,.int,.int,.str,.list 2]
 |15=>[.list 12,.list 2,.list 2,.int,.list 13,.bool,.int,.int,.str,.list 2]
 |16=>[.byte]
 |17=>[.int]
 |18=>[.int,.list 0,.list 17]
 |_=>[]
abbrev kw(t:Nat):Nat:=(lay t).length
abbrev flT(t:Nat):Bool:=(lay t).all Ty.plain
mutual
def Ok(B:Nat):Ty->D->Prop
 | .int,.int k n=>k=.i64/\-9223372036854775808<=n/\n<=9223372036854775807
 | .bool,.bool _=>True
 | .str,.str s=>s.size<=maxLen
 | .byte,.int k n=>k=.u8/\0<=n/\n<=255
 | .list t,.list k f es=>k=kw t/\f=flT t/\es.length<=B/\gY B t es
 |_,_=>False
def gE(B:Nat):List Ty->List D->Prop
 |[],[]=>True
 |t::ts,d::a=>Ok B t d/\gE B ts a
 |_,_=>False
def gY(B:Nat)(t:Nat):List (List D)->Prop
 |[]=>True
 |e::es=>gE B (lay t) e/\gY B t es
end
section
variable {B:Nat}
theorem Ok.mK{d:D}(h:Ok B .int d):∃n,d=.int .i64 n/\-9223372036854775808<=n/\n<=9223372036854775807:=by cases d<;>simp only[Ok]at h;obtain⟨rfl,h⟩:=h;exact⟨_,rfl,h⟩
theorem Ok.pN{d:D}(h:Ok B .bool d):∃b,d=.bool b:=by cases d<;>simp only[Ok]at h;exact⟨_,rfl⟩
theorem Ok.lx{d:D}(h:Ok B .str d):∃s,d=.str s/\s.size<=maxLen:=by cases d<;>simp only[Ok]at h;exact⟨_,rfl,h⟩
theorem Ok.YM{d:D}(h:Ok B .byte d):∃n,d=.int .u8 n/\0<=n/\n<=255:=by cases d<;>simp only[Ok]at h;obtain⟨rfl,h⟩:=h;exact⟨_,rfl,h⟩
theorem Ok.iw{t:Nat}{d:D}(h:Ok B (.list t) d):∃es,d=.list (kw t) (flT t) es/\es.length<=B/\gY B t es:=by cases d<;>simp only[Ok]at h;obtain⟨rfl,rfl,h⟩:=h;exact⟨_,rfl,h⟩
theorem gE.lr{a:M D}(h:gE B [] a):a=[]:=by cases a with|nil=>{rfl}|cons d a=>simp[gE]at h
theorem gE.cons_inv{t:Ty}{ts:M Ty}{a:M D}(h:gE B (t::ts) a):∃x b,a=x::b/\Ok B t x/\gE B ts b:=by cases a with|nil=>{simp[gE]at h}|cons d a=>simp only[gE]at h;exact⟨d,a,rfl,h⟩
theorem gY.mem{t:Nat}:∀{es:M (M D)},gY B t es->∀e∈es,gE B (lay t) e
 |[],_,e,h=>by simp at h
 |x::es,a,e,h=>by simp only[gY]at a;rcases aU.1 h with rfl|h;{exact a.1};exact gY.mem a.2 e h
theorem dL{a:Type}{l:M a}{i:Nat}(h:i<l.length):nth l i=Z l[i]:=by rw[ek];simp[h]
theorem gE.length{ts:M Ty}:∀{a:M D},gE B ts a->a.length=ts.length:=by induction ts with|nil=>{intro a h;rw[h.lr];rfl}|cons t ts b=>intro a h;obtain⟨x,d,rfl,_,c⟩:=h.cons_inv;simp[b c]
mutual
theorem Ok.mono{B c:Nat}(a:B<=c):∀(t:Ty) (d:D),Ok B t d->Ok c t d
 | .int,.int _ _,h=>by simpa only [Ok] using h
 | .bool,.bool _,_=>by simp only[Ok]
 | .str,.str _,h=>by simpa only [Ok] using h
 | .byte,.int _ _,h=>by simpa only [Ok] using h
 | .list t,.list k f es,h=>by simp only[Ok]at h ⊢;exact⟨h.1,h.2.1,aV h.2.2.1 a,gY.mono a t es h.2.2.2⟩
 | .int,.bool _,h | .int,.str _,h | .int,.list _ _ _,h | .bool,.int _ _,h | .bool,.str _,h | .bool,.list _ _ _,h | .str,.int _ _,h | .str,.bool _,h | .str,.list _ _ _,h | .list _,.int _ _,h | .list _,.bool _,h | .list _,.str _,h | .byte,.bool _,h | .byte,.str _,h | .byte,.list _ _ _,h=>by simp only[Ok]at h
theorem gE.mono{B c:Nat}(a:B<=c):∀(g:List Ty) (i:List D),gE B g i->gE c g i
 |[],[],_=>by simp only[gE]
 |t::g,d::i,h=>by simp only[gE]at h ⊢;exact⟨Ok.mono a t d h.1,gE.mono a g i h.2⟩
 |[],_::_,h|_::_,[],h=>by simp only[gE]at h
theorem gY.mono{B c:Nat}(a:B<=c)(t:Nat):∀(es:List (List D)),gY B t es->gY c t es
 |[],h=>by simp only[gY]
 |e::es,h=>by simp only[gY]at h ⊢;exact⟨gE.mono a (lay t) e h.1,gY.mono a t es h.2⟩
end
end
mutual
def D.sz:D->Nat
 | .str s=>s.size
 | .list _ _ es=>es.length+qN es
 |_=>0
def eu:List D->Nat
 |[]=>0
 |d::a=>d.sz+eu a
def qN:List (List D)->Nat
 |[]=>0
 |e::es=>eu e+qN es
end
mutual
theorem Ok.small{B a:Nat}:∀(t:Ty) (d:D),Ok B t d->d.sz<=a->Ok a t d
 | .int,.int _ _,h,_=>by simpa only [Ok] using h
 | .bool,.bool _,_,_=>by simp only[Ok]
 | .str,.str _,h,_=>by simpa only [Ok] using h
 | .byte,.int _ _,h,_=>by simpa only [Ok] using h
 | .list t,.list k f es,h,c=>by simp only[Ok]at h ⊢;simp only[D.sz]at c;exact⟨h.1,h.2.1,by omega,gY.small t es h.2.2.2 (by omega)⟩
 | .int,.bool _,h,_ | .int,.str _,h,_ | .int,.list _ _ _,h,_ | .bool,.int _ _,h,_ | .bool,.str _,h,_ | .bool,.list _ _ _,h,_ | .str,.int _ _,h,_ | .str,.bool _,h,_ | .str,.list _ _ _,h,_ | .list _,.int _ _,h,_ | .list _,.bool _,h,_ | .list _,.str _,h,_ | .byte,.bool _,h,_ | .byte,.str _,h,_ | .byte,.list _ _ _,h,_=>by simp only[Ok]at h
theorem gE.small{B a:Nat}:∀(i:List Ty) (g:List D),gE B i g->eu g<=a->gE a i g
 |[],[],_,_=>by simp only[gE]
 |t::i,d::g,h,c=>by simp only[gE]at h ⊢;simp only[eu]at c;exact⟨Ok.small t d h.1 (by omega),gE.small i g h.2 (by omega)⟩
 |[],_::_,h,_|_::_,[],h,_=>by simp only[gE]at h
theorem gY.small{B a:Nat}(t:Nat):∀(es:List (List D)),gY B t es->qN es<=a->gY a t es
 |[],h,_=>by simp only[gY]
 |e::es,h,c=>by simp only[gY]at h ⊢;simp only[qN]at c;exact⟨gE.small (lay t) e h.1 (by omega),gY.small t es h.2 (by omega)⟩
end
abbrev aqm(k:Nat)(a:Bool)(es:M (M D)):Row:=⟨es,k,a,I,I,J⟩
def own:D->RV
 | .list k a es=>.row (aqm k a es)
 |d=>.d d
def akw:Nat->Nat->z->z
 |0,_,out=>out
 |f+1,n,out=>if n=0 then out else akw f (n / 10) (⟨#[dW (48+n % 10)]⟩++out)
def amr(k:Int):z:=if k<=0 then ⟨#[109,48]⟩ else ⟨#[109]⟩++akw 20 k.toNat ⟨#[]⟩
def amq(q:Int):Bool:=Z' (q % 3=0)
mutual
def D.mn:D->Nat
 | .list _ _ es=>mnE es
 |_=>1
def mnC:List D->Nat
 |[]=>0
 |d::a=>d.mn+mnC a
def mnE:List (List D)->Nat
 |[]=>0
 |e::es=>mnC e+mnE es
end
mutual
def D.mk:D->Int->D
 | .int k _,q=>.int k q
 | .bool _,q=>.bool (amq q)
 | .str _,q=>.str (amr q)
 | .list k a es,q=>.list k a (mkE es q)
def mkC:List D->Int->List D
 |[],_=>[]
 |d::c,q=>d.mk q::mkC c (q+d.mn)
def mkE:List (List D)->Int->List (List D)
 |[],_=>[]
 |e::es,q=>mkC e q::mkE es (q+mnC e)
end
theorem zi:∀(a b:M (M D)),qN (a++b)=qN a+qN b
 |[],b=>by simp[qN]
 |e::a,b=>by simp[qN,zi a b,gC]
theorem cd{a:Type}:∀(es:M a) (i:Nat) (e:a),nth es i=Z e->es.take (i+1)=es.take i++[e]
 |[],_,_,h=>by simp[nth]at h
 |x::es,0,e,h=>by simp only[nth,ao]at h;simp[h]
 |x::es,i+1,e,h=>by simp only[nth]at h;simp[cd es i e h]
theorem EY{c:Type}:∀(es:M c) (a:c) (b:M c) (i:Nat) (e:c),nth es i=Z e->(es.take i++a::b).set i e=es.take (i+1)++b
 |[],_,_,_,_,h=>by simp[nth]at h
 |x::es,a,b,0,e,h=>by simp only[nth,ao]at h;subst h;simp
 |x::es,a,b,i+1,e,h=>by simp only[nth]at h;simp[EY es a b i e h]
def ZS{b:Type}{es:M b}{a:b}{i:Nat}{e:b}(h:nth es i=Z e):(es.take i++a_ (es.length - i) a).set i e=es.take (i+1)++a_ (es.length - (i+1)) a:=by (have c:i<es.length:=by rw[ek]at h;exact (br.1 h).1);rw[show es.length - i=(es.length - (i+1))+1 by omega,ir,EY es a _ i e h]
end
section
variable {cf:Cf} {mf:Mf}
@[go_sem] theorem aoR (g:St->u (Ex×St)) (s:St):Pq g (Z (.norm,s))=g s:=rfl
@[go_sem] theorem amD (a:oy) (s:St):nrm a (Z s)=Z (.norm,s.ez a):=rfl
def Q4(a:M KR)(args:M A)(s:St):u (M A×M A):=
 match yb s a,wo s 0 args with
 |some (rs,l),Z (outs,b)=>if k8 (l++b) then Z (rs,outs) else O
 |_,_=>yR a args s
def agH(a:M KR)(args:M A):u (Ex×St)->u (M A×M A)
 |some (.norm,s)=>Q4 a args s
 |some (.ret,s)=>Q4 a args s
 |_=>O
theorem Cj{T:Nat->u KF}{f b:Nat}{body:K}{a:M KR}(e:T f=Z ⟨b,body,a⟩){args:M A}(c:(args.length ==b && eP b 999)=I) :
  fK T f args=agH a args (ev T zz body (lU 0 args ⟨[],[],[]⟩)):=by rw[aw,beq_iff_eq,jO]at c;have d:=c.1;rw[TJ T e (by simp only;omega)];simp only[run,d,if_true];generalize ev T zz body (lU 0 args ⟨[],[],[]⟩)=x;rcases x with _|⟨_|_|_,s⟩<;>rfl
theorem TL{T:Nat->u KF}{body:K}(st:Nat->St){n:Nat}{e:Ex}{s:St}(c:e≠.norm)(b:ev T mf body (st n)=Z (e,s))(a:∀i,i<n->ev T mf body (st i)=Z (.norm,st (i+1))) :
  ∀m i,i+m=n->ev T mf (.loop body) (st i)=Z (e,s)
 |0,i,h=>by rw[lk,show i=n by omega,b];cases e with|norm=>{exact absurd rfl c}|exit j=>{rfl}|ret=>rfl
 |m+1,i,h=>by rw[lk,a i (by omega)];exact TL st c b a m (i+1) (by omega)
theorem amo{T:Nat->u KF}{body:K}(st:Nat->St)(n:Nat){e:Ex}{s:St}(c:e≠.norm)(b:ev T mf body (st n)=Z (e,s))(a:∀i,i<n->ev T mf body (st i)=Z (.norm,st (i+1))):ev T mf (.loop body) (st 0)=Z (e,s):=
 TL st c b a n 0 (by omega)
@[go_sem] theorem ajS (c:Bool) (a:M RV):A.short (.val c a)=Z' (a.length<=30):=by simp only[A.short];by_cases h:a.length<=30;{simp only[h,decide_true];exact Nat.ble_eq_true_of_le h};simp only[h,decide_false];cases b:jX a.length 30 with|false=>{rfl}|true=>exact absurd (Nat.le_of_ble_eq_true b) h
@[go_sem] theorem ajQ (s:St):nh cf mf [] s=Z s:=rfl
@[go_sem] theorem agE (i:KI) (a:M KI) (s:St):nh cf mf (i::a) s=(wR cf mf s i).bind (nh cf mf a):=by simp only[nh];cases wR cf mf s i<;>rfl
@[go_sem] theorem akQ (s:St) (d:u Nat) (o:KO):wR cf mf s ⟨d,o,O⟩=DW cf mf s d o:=rfl
def gdn(cf:Cf)(mf:Mf)(s:St)(d:u Nat)(o:KO)(w:Bool):C->u St
 | .d (.bool b)=>if b=w then DW cf mf s d o else Z (s.put d .wD)
 | .wD=>Z (s.put d .wD)
 |_=>O
@[go_sem] theorem akR (s:St) (d:u Nat) (o:KO) (g:Nat) (w:Bool):wR cf mf s ⟨d,o,Z (g,w)⟩=gdn cf mf s d o w (s.get g):=by simp only[wR,gdn];cases s.get g<;>rfl
def rsl(s:St)(d:u Nat)(a:M C):u (M A×M A)->u St
 |none=>O
 |some (rs,outs)=>if rs.all A.short then
   let g:=if rs.all A.closed && outs.all A.closed then s else eM s (il a)
   let f:=gj (iu g (dz s a)) (cN a)
   let e:=l6 f a outs
   let (l,b):=iL (d.getD 0) 0 rs e
   Z (b.put d (match l with|[c]=>c|l=>.tw l))
   else O
def agC(cf:Cf)(s:St)(d:u Nat)(f:Nat)(a:M C):u (M A)->u St
 |some as=>if k8 (dz s a) && k8 (cN a) && (dz s a).all (λr=>!(il a).contains r) then rsl s d a (cf f as) else O
 |none=>O
@[go_sem] theorem ajP (s:St) (d:u Nat) (f:Nat) (a:M C):nW cf s d f a=agC cf s d f a (wC s a):=by simp only[nW,agC];cases wC s a with|none=>{rfl}|some as=>dsimp only;split;{cases cf f as with|none=>{rfl}|some r=>rfl};rfl
end
theorem aqg{a:Type}(x:a)(l:M a):nth (x::l) 0=Z x:=rfl
theorem aqi{a:Type}(x:a)(l:M a)(i:Nat):nth (x::l) (i+1)=nth l i:=rfl
def aqh{a:Type}(i:Nat):nth ([]:M a) i=O:=by cases i<;>rfl
attribute [go_sem] ZN KB NJ ZL ZK ZM SN SP NK ZJ
attribute [go_sem] sI Q4 yR A.isVal yb G9 wo Xe
attribute [go_sem] Cs DW jl ml gG KO.qk KO.QS rk gm qp kC
attribute [go_sem] St.get St.put St.gA St.setRow St.dP St.j8 St.newRow St.kill St.ez jo look sy Tu Tt vm aqg aqi aqh
attribute [go_sem] C.iQ C.Cx abH abG St.iQ lg Jk C.kill C.jS C.cells C.const C.cell C.isAgg HN EH db D.plain YE ai2 YF YD UR mY j_ gN RW wC rowsOf oH dz il cN RV.closed A.closed Row.share eM er l6 iL k8 iu nS gj CV AN qU afm YO YA Bu lU oQ
attribute [go_sem] aN aK bc cA cK List.all_nil kN List.filter_nil aH av ax cT bB iq cj List.drop_nil List.take_nil List.contains_cons List.contains_nil List.headD_cons
attribute [go_sem] aX Option.map_none cJ cE bT Option.toList_some dR
attribute [go_sem] Option.some_beq_some Option.none_beq_some
attribute [go_sem] if_true if_false fF dw eo dH dv dh dZ qS dF fV and_true true_and and_false false_and
attribute [go_sem] bF dG aL ite_true ite_false decide_true decide_false cn Bool.true_eq_false beq_self_eq_true bne_self_eq_false imp_self false_imp_iff true_imp_iff
def wi{i n:Nat}(h:i<n)(a:n<=maxLen):IntKind.i64.wrap ((i:Int)+1)=((i+1:Nat):Int):=by rw[iI (by simp[maxLen]at a;omega)];omega
theorem gE.drop{B:Nat}:∀(o:Nat) (a:M Ty) (b:M D),gE B a b->gE B (a.drop o) (b.drop o)
 |0,_,_,h=>by simpa using h
 |o+1,[],[],h=>by simpa using h
 |o+1,t::a,d::b,h=>by simp only[gE]at h;simpa using gE.drop o a b h.2
 |_,[],_::_,h|_,_::_,[],h=>by simp only[gE]at h
theorem gE.take{B:Nat}:∀(o:Nat) (a:M Ty) (b:M D),gE B a b->gE B (a.take o) (b.take o)
 |0,_,_,_=>by simp[gE]
 |o+1,[],[],h=>by simpa using h
 |o+1,t::a,d::b,h=>by simp only[gE]at h;simp only[cT,gE];exact⟨h.1,gE.take o a b h.2⟩
 |_,[],_::_,h|_,_::_,[],h=>by simp only[gE]at h
def gE.sub{B:Nat}(o m:Nat){a:M Ty}{b:M D}(h:gE B a b):gE B ((a.drop o).take m) ((b.drop o).take m):=gE.take m _ _ (gE.drop o _ _ h)
theorem fM{a:Type}:∀(es:M a) (i:Nat) (e:a),nth es i=Z e->es.drop i=e::es.drop (i+1)
 |[],_,_,h=>by simp[nth]at h
 |x::es,0,e,h=>by simp only[nth,ao]at h;simp[h]
 |x::es,i+1,e,h=>by simp only[nth]at h;simp[fM es i e h]
section
variable {T:Nat->u KF} {cf:Cf} {mf:Mf}
noncomputable def cnd(T:Nat->u KF)(mf:Mf)(c:C)(a b:K)(s:St):u (Ex×St):=ife c (ev T mf a s) (ev T mf b s)
theorem agF(c:KX)(a b:K)(s:St):ev T mf (.cond c a b) s=cnd T mf (gG s c) a b s:=KB T mf c a b s
end
attribute [go_sem 2000] agF
attribute [go_sem] Nat.max_def ite_self
def bj{a:Type}{l:M a}{i:Nat}{x:a}(h:nth l i=Z x):i<l.length:=by rw[ek]at h;exact (br.1 h).1
inductive Sg (σ ρ:Type) where
 |go (s:σ)
 |out (r:ρ)
def jA{c a b:Type}(step:Nat->a->c->Sg a b):Nat->a->M c->Sg a b
 |_,s,[]=>.go s
 |i,s,e::es=>match step i s e with
  | .go d=>jA step (i+1) d es
  | .out r=>.out r
def allI{a:Type}(p:Nat->a->Bool):Nat->M a->Bool
 |_,[]=>I
 |i,e::es=>p i e && allI p (i+1) es
theorem zF{a:Type}(p:a->Bool):∀(i:Nat) (es:M a),allI (λ_=>p) i es=es.all p
 |_,[]=>rfl
 |i,e::es=>by simp[allI,zF p (i+1) es]
def u7{a:Type}(p:a->Bool):M a->Nat->u Nat
 |[],_=>O
 |e::es,k=>if p e then Z k else u7 p es (k+1)
def As{a β:Type}{f:a->β}{es:M a}{i:Nat}{e:a}(h:nth es i=Z e):(es.take (i+1)).map f=(es.take i).map f++[f e]:=by rw[cd es i e h];simp
theorem KJ{a:Type}{p:a->Bool}:∀{es:M a} {k j:Nat},u7 p es k=Z j->∃e,k<=j/\nth es (j - k)=Z e/\p e=I
 |[],k,j,h=>by simp[u7]at h
 |e::es,k,j,h=>by simp only[u7]at h;split at h;{rename_i b;obtain rfl:=fQ h;exact⟨e,aI _,by simp[nth],b⟩};obtain⟨x,f,d,c⟩:=KJ h;refine⟨x,by omega,?_,c⟩;rw[show j - k=(j - (k+1))+1 by omega];exact d
def dy{a:Type}{p:a->Bool}{es:M a}{j:Nat}(h:u7 p es 0=Z j):∃e,nth es j=Z e/\p e=I:=by obtain⟨e,_,c,b⟩:=KJ h;exact⟨e,by simpa using c,b⟩
def lE:u Nat->Int
 |none=>-1
 |some j=>(j:Int)
inductive Be {σ ρ:Type} (b:σ->Option (Sg σ ρ)):σ->ρ->Prop
 |out {s:σ} {r:ρ} (h:b s=some (.out r)):Be b s r
 |go {s s':σ} {r:ρ} (h:b s=some (.go s')) (h':Be b s' r):Be b s r
open Classical in
noncomputable def bJ{a c:Type}(b:a->u (Sg a c))(s:a):u c:=if h:∃r,Be b s r then Z h.choose else O
def QC{a c:Type}{b:a->u (Sg a c)}{s:a}{r:c}(h:bJ b s=Z r):Be b s r:=by unfold bJ at h;split at h;{rename_i d;rw[<- fQ h];exact d.choose_spec};cases h
theorem Be.zx{a c:Type}{b:a->u (Sg a c)}{s:a}{r e:c}(h:Be b s r)(f:Be b s e):r=e:=by induction h with|out h=>{cases f with|out g=>{rw[h]at g;cases g;rfl}|go g _=>rw[h]at g;cases g}|go h _ i=>cases f with|out g=>{rw[h]at g;cases g}|go g j=>rw[h]at g;cases g;exact i j
def zf{a c:Type}{b:a->u (Sg a c)}{s:a}{r:c}(h:Be b s r):bJ b s=Z r:=by unfold bJ;have d:∃r,Be b s r:=⟨r,h⟩;rw[dif_pos d,d.choose_spec.zx h]
def aO{a c:Type}{b:a->u (Sg a c)}{s:a}{r:c}(h:b s=Z (.out r)):bJ b s=Z r:=zf (.out h)
theorem bE{c e:Type}{b:c->u (Sg c e)}{s s':c}(h:b s=Z (.go s')):bJ b s=bJ b s':=by by_cases d:∃r,Be b s' r;{obtain⟨r,a⟩:=d;rw[zf a,zf (.go h a)]};have f:¬∃r,Be b s r:=λ⟨r,a⟩=>by{cases a with|out g=>{rw[h]at g;cases g}|go g i=>rw[h]at g;cases g;exact d ⟨r,i⟩};unfold bJ;rw[dif_neg d,dif_neg f]
theorem aY{a β:Type}(f:a->β):∀(l:M a) (i:Nat),nth (l.map f) i=(nth l i).map f
 |[],_=>rfl
 |_::_,0=>rfl
 |_::l,i+1=>aY f l i
def wrap_i64{a:Int}(h:-9223372036854775808<=a/\a<=9223372036854775807):IntKind.i64.wrap a=a:=iI (by omega)
def wrap_u8{a:Int}(h:0<=a/\a<=255):IntKind.u8.wrap a=a:=by simp[IntKind.wrap,IntKind.bits,IntKind.signed];omega
def ai1{c:Type}{b:Nat}{a t:M c}(d:b<=65536)(h:a.length+t.length<=2147483648):((a.length+t.length) * b<=room/\a.length+t.length<=maxLen)=True:=by refine eq_true ⟨aV (gD h d) (by decide),aV h (by decide)⟩
def PT{a b c:Type}(mk:a->b):Sg a c->Sg b c
 | .go t=>.go (mk t)
 | .out r=>.out r
def sgF{b a:Type}(fin:b->a):Sg b a->a
 | .go t=>fin t
 | .out r=>r
theorem Tc{o c g j:Type}{b:g->u (Sg g j)}{es:M o}(mk:Nat->c->g)(step:Nat->c->o->Sg c j)(fin:c->j)(a:Nat->c->Prop)
  (p:∀i e t,nth es i=Z e->a i t->b (mk i t)=Z (PT (mk (i+1)) (step i t e))/\∀d,step i t e=.go d->a (i+1) d)
  (q:∀t,a es.length t->b (mk es.length t)=Z (.out (fin t))) :
  ∀m i t,i+m=es.length->a i t->bJ b (mk i t)=Z (sgF fin (jA step i t (es.drop i)))
 |0,i,t,h,n=>by (obtain rfl:i=es.length:=by omega);rw[aO (q t n),eI];rfl
 |m+1,i,t,h,n=>by have a1:=dL (l:=es) (i:=i) (by omega);obtain⟨f,s⟩:=p i _ t a1 n;rw[fM es i _ a1];simp only[jA];cases k:step i t es[i]with|go d=>{rw[k]at f;rw[bE f];exact Tc mk step fin a p q m (i+1) d (by omega) (s d k)}|out r=>rw[k]at f;rw[aO f];rfl
def Ab{g c d f:Type}{b:d->u (Sg d f)}(es:M g)(mk:Nat->c->d)(step:Nat->c->g->Sg c f)(fin:c->f)(a:Nat->c->Prop)(t:c)(m:a 0 t)
  (k:∀i e t,nth es i=Z e->a i t->b (mk i t)=Z (PT (mk (i+1)) (step i t e))/\∀j,step i t e=.go j->a (i+1) j)
  (l:∀t,a es.length t->b (mk es.length t)=Z (.out (fin t))):bJ b (mk 0 t)=Z (sgF fin (jA step 0 t es)):=by have h:=Tc mk step fin a k l es.length 0 t (by omega) m;rwa [cj]at h
theorem qZ{k f j:Type}{b:f->u (Sg f j)}(es:M k)(mk:Nat->f)(p:Nat->k->Bool)(a g:j)
  (n:∀i e,nth es i=Z e->b (mk i)=Z (if p i e=I then .go (mk (i+1)) else .out g))
  (o:b (mk es.length)=Z (.out a)):∀m i,i+m=es.length->bJ b (mk i)=Z (if allI p i (es.drop i)=I then a else g)
 |0,i,h=>by (obtain rfl:i=es.length:=by omega);rw[aO o,eI];rfl
 |m+1,i,h=>by have a1:=dL (l:=es) (i:=i) (by omega);have d:=n i _ a1;(have q:allI p i (es.drop i)=(p i (es[i]'(by omega)) && allI p (i+1) (es.drop (i+1))):=by rw[fM es i _ a1];rfl);rw[q];by_cases c:p i (es[i]'(by omega))=I;{rw[if_pos c]at d;rw[bE d,c,dw];exact qZ es mk p a g n o m (i+1) (by omega)};rw[if_neg c]at d;rw[aO d,dS.2 c,dH,if_neg dr]
def ig{g c f:Type}{b:c->u (Sg c f)}(es:M g)(mk:Nat->c)(p:g->Bool)(a d:f)
  (j:∀i e,nth es i=Z e->b (mk i)=Z (if p e=I then .go (mk (i+1)) else .out d))
  (k:b (mk es.length)=Z (.out a)):bJ b (mk 0)=Z (if es.all p=I then a else d):=by have h:=qZ es mk (λ_=>p) a d j k es.length 0 (by omega);rwa [cj,zF]at h
theorem Tb{g d f:Type}{b:d->u (Sg d f)}(es:M g)(mk:Nat->d)(p:g->Bool)(none_:f)(k:Nat->g->f)
  (n:∀i e,nth es i=Z e->b (mk i)=Z (if p e=I then .out (k i e) else .go (mk (i+1))))
  (o:b (mk es.length)=Z (.out none_)):∀m i,i+m=es.length->bJ b (mk i)=Z (match u7 p (es.drop i) i with|none=>none_|some j=>match nth es j with|some e=>k j e|none=>none_)
 |0,i,h=>by (obtain rfl:i=es.length:=by omega);rw[aO o,eI];rfl
 |m+1,i,h=>by have a1:=dL (l:=es) (i:=i) (by omega);have c:=n i _ a1;rw[fM es i _ a1];simp only[u7];by_cases a:p (es[i]'(by omega))=I;{rw[if_pos a]at c;rw[aO c,if_pos a];simp only[a1]};rw[if_neg a]at c;rw[bE c,if_neg a];exact Tb es mk p none_ k n o m (i+1) (by omega)
def vI{d a c:Type}{b:a->u (Sg a c)}(es:M d)(mk:Nat->a)(p:d->Bool)(none_:c)(f:Nat->d->c)
  (g:∀i e,nth es i=Z e->b (mk i)=Z (if p e=I then .out (f i e) else .go (mk (i+1))))
  (k:b (mk es.length)=Z (.out none_)):bJ b (mk 0)=Z (match u7 p es 0 with|none=>none_|some j=>match nth es j with|some e=>f j e|none=>none_):=by have h:=Tb es mk p none_ f g k es.length 0 (by omega);rwa [cj]at h
theorem cO{k c a d:Type}{b:a->u (Sg a d)}(es:M k)(mk:Nat->c->a)(f:Nat->c)(fin:d)
  (g:∀i e,nth es i=Z e->b (mk i (f i))=Z (.go (mk (i+1) (f (i+1)))))
  (j:b (mk es.length (f es.length))=Z (.out fin)):∀m i,i+m=es.length->bJ b (mk i (f i))=Z fin
 |0,i,h=>by (obtain rfl:i=es.length:=by omega);exact aO j
 |m+1,i,h=>by have a1:=dL (l:=es) (i:=i) (by omega);rw[bE (g i _ a1)];exact cO es mk f fin g j m (i+1) (by omega)
def nr{β:Type}(i:Nat):M β->Int ⊕ (Int×M β)
 |[]=>.inl i
 |x::t=>.inr (i,x::t)
inductive ST where
 |nil
 |cons (a b:ST)
 |op (gs:Gs) (o:PO) (es:List SE) (t:ST)
 |gd (gs:Gs) (a b:ST)
 |call (i:Nat) (es:List SE) (ts:ST)
 |leaf (j:Nat) (es:List SE)
 |map (f:List Nat) (t:ST)
 |seq (t ts:ST)
 |loop (h:Nat) (es:List SE) (bs:ST)
 |both (a b:ST)
 deriving DecidableEq
abbrev Gf:=Nat->M D->u (Nat×M D)
def E8:u (Nat×M D)->u (Sg (Nat×M D) (Nat×M D))
 |some (j,σ)=>Z (if j % 2=0 then .go (j / 2,σ) else .out (j / 2,σ))
 |none=>O
open Classical in
noncomputable def II{c:Type}:u c->u c->u c
 |some a,Z b=>if a=b then Z a else O
 |_,_=>O
def YI{c:Type}{a b:u c}{r:c}(h:II a b=Z r):a=Z r/\b=Z r:=by unfold II at h;split at h;{split at h;{rename_i d;cases h;subst d;exact⟨rfl,rfl⟩};cases h};cases h
def Qc{b:Type}(a:b):II (Z a) (Z a)=Z a:=by simp[II]
noncomputable def eY(G:Gf):ST->Nat->M D->u (Nat×M D)
 | .nil,_,_=>O
 | .cons a _,0,ρ=>eY G a 0 ρ
 | .cons _ b,j+1,ρ=>eY G b j ρ
 | .op gs o es t,_,ρ=>match jI ρ gs with
  |some I=>match jk ρ es with
   |some d=>match aS o d with
    |some x=>eY G t 0 (ρ++[x])
    |none=>O
   |none=>O
  |some J=>eY G t 0 (ρ++[.bool J])
  |none=>O
 | .gd gs a b,_,ρ=>match jI ρ gs with
  |some I=>eY G a 0 ρ
  |some J=>eY G b 0 ρ
  |none=>O
 | .call i es e,_,ρ=>match jk ρ es with
  |some d=>match G i d with
   |some (j,ws)=>eY G e j (ρ++ws)
   |none=>O
  |none=>O
 | .leaf j es,_,ρ=>match jk ρ es with
  |some d=>Z (j,d)
  |none=>O
 | .map f t,_,ρ=>match eY G t 0 ρ with
  |some (j,c)=>(nth f j).map (·,c)
  |none=>O
 | .seq t e,_,ρ=>match eY G t 0 ρ with
  |some (j,c)=>eY G e j c
  |none=>O
 | .loop h es g,_,ρ=>match jk ρ es with
  |some c=>bJ (λp=>E8 (eY G g p.1 p.2)) (h,c)
  |none=>O
 | .both a b,_,ρ=>II (eY G a 0 ρ) (eY G b 0 ρ)
def Qe(c:Nat):SB->SB×M SE
 | .d e=>(.d (.v c),[e])
 |x=>(x,[])
def xR:Nat->M SB->M SB×M SE
 |_,[]=>([],[])
 |c,x::xs=>match Qe c x with
  |(y,es)=>match xR (c+es.length) xs with
   |(ys,fs)=>(y::ys,es++fs)
def Kc:Nat->M (SB ⊕ M SB)->M (SB ⊕ M SB)×M SE
 |_,[]=>([],[])
 |c,.inl x::xs=>match Qe c x with
  |(y,es)=>match Kc (c+es.length) xs with
   |(ys,fs)=>(.inl y::ys,es++fs)
 |c,.inr x::xs=>match xR c x with
  |(y,es)=>match Kc (c+es.length) xs with
   |(ys,fs)=>(.inr y::ys,es++fs)
def US(c:Nat):SC->SC×M SE
 | .b x=>match Qe c x with
  |(y,es)=>(.b y,es)
 | .agg xs=>match xR c xs with
  |(ys,es)=>(.agg ys,es)
 | .tw xs=>match Kc c xs with
  |(ys,es)=>(.tw ys,es)
 | .ptr b o=>(.ptr b o,[])
 | .pG r k i o=>(.pG r k (.v c) o,[i])
 | .vi i o=>(.vi c o,[.v i])
 | .fn F a=>(.fn F a,[])
 | .any=>(.any,[])
def CQ(a:Gs):Nat->M (Nat×SG)->M (Nat×SG)×M SE
 |_,[]=>([],[])
 |c,(d,g)::l=>if g.gs.all (λp=>Z' (p∈a)) then (match US c g.c with
   |(y,es)=>match CQ a (c+es.length) l with
    |(ys,fs)=>((d,⟨[],y⟩)::ys,es++fs))
  else match CQ a c l with
   |(ys,fs)=>((d,⟨[],.any⟩)::ys,fs)
def IN:Nat->M (Nat×M SB)->M (Nat×M SB)×M SE
 |_,[]=>([],[])
 |c,(d,x)::l=>match xR c x with
  |(y,es)=>match IN (c+es.length) l with
   |(ys,fs)=>((d,y)::ys,es++fs)
def IP:Nat->M (Nat×SR)->M (Nat×SR)×M SE
 |_,[]=>([],[])
 |c,(d,x)::l=>match IP (c+1) l with
   |(ys,fs)=>((d,{x with e:=.v c })::ys,x.e::fs)
def alw(d:Nat):M Nat->M Nat
 |[]=>[d]
 |e::l=>if d<e then d::e::l else if d=e then e::l else e::alw d l
def Ts{a:Type}:M (Nat×a)->M Nat
 |[]=>[]
 |(d,_)::l=>alw d (Ts l)
def SS.keys(S:SS):oy:=⟨Ts S.sl,Ts S.bx,Ts S.rw⟩
def UT(a:Gs)(S:SS):SS×M SE:=
 match CQ a 0 (S.ez S.keys).sl with
 |(sl,es)=>match IN es.length (S.ez S.keys).bx with
  |(bx,fs)=>match IP (es.length+fs.length) (S.ez S.keys).rw with
   |(rw,gs)=>(⟨sl,bx,rw⟩,es++(fs++gs))
section
variable {ρ:M D}
theorem LS{a:Type}:∀(l:M a) (x:a) (m:M a),nth (l++([x]++m)) l.length=Z x:=λl x m=>kt l x m
theorem Kb{c:Nat}{x y:SB}{es:M SE}{v:C}{h:M D}(f:Qe c x=(y,es))(g:lb ρ x v)(j:jk ρ es=Z h){b σ1:M D}(m:b.length=c):lb (b++(h++σ1)) y v:=by subst m;cases x with|d e=>{cases f;obtain⟨a,l,rfl⟩:=g;obtain⟨w,i,rfl⟩:=ga j;rw[l]at i;cases i;exact⟨a,LS _ _ _,rfl⟩}|nil k n=>{cases f;exact g}|ref r=>{cases f;exact g}|any=>cases f;trivial
theorem ng:∀{es fs:M SE} {c:M D},jk ρ (es++fs)=Z c->∃b a,jk ρ es=Z b/\jk ρ fs=Z a/\c=b++a
 |[],_,c,h=>⟨[],c,rfl,h,rfl⟩
 |e::es,_,_,h=>by obtain⟨x,ys,i,g,rfl⟩:=eD (es:=es++_) h;obtain⟨b,a,f,d,rfl⟩:=ng g;exact⟨x::b,a,by simp only[jk,i,f,aX],d,rfl⟩
theorem zN:∀{b:M SB} {c:Nat} {ys:M SB} {es:M SE} {vs:M C} {e σ0 σ1:M D},xR c b=(ys,es)->eR ρ b vs->jk ρ es=Z e->σ0.length=c->eR (σ0++(e++σ1)) ys vs
 |[],_,_,_,_,_,_,_,a,i,g,f=>by cases a;exact i
 |x::b,c,ys,es,vs,e,σ0,σ1,a,⟨v,p,j,o,n⟩,g,f=>by subst j;simp only[xR]at a;generalize m:Qe c x=q at a;obtain⟨y,s⟩:=q;simp only at a;generalize l:xR (c+s.length) b=q at a;obtain⟨t,fs⟩:=q;cases a;obtain⟨r,d,h,k,rfl⟩:=ng g;refine⟨v,p,rfl,?_,?_⟩;{have:=Kb m o h f (σ1:=d++σ1);simpa only [bh] using this};have:=zN l n k (σ0:=σ0++r) (σ1:=σ1) (by rw[az,f,lj h]);simpa only [bh] using this
theorem Kd:∀{d:M (SB ⊕ M SB)} {c:Nat} {ys:M (SB ⊕ M SB)} {es:M SE} {vs:M C} {g σ0 σ1:M D},Kc c d=(ys,es)->vp ρ d vs->jk ρ es=Z g->σ0.length=c->vp (σ0++(g++σ1)) ys vs
 |[],_,_,_,_,_,_,_,a,s,h,e=>by cases a;exact s
 | .inl x::d,c,ys,es,vs,g,σ0,σ1,a,⟨v,o,i,n,m⟩,h,e=>by subst i;simp only[Kc]at a;generalize l:Qe c x=q at a;obtain⟨y,r⟩:=q;simp only at a;generalize k:Kc (c+r.length) d=q at a;obtain⟨t,fs⟩:=q;cases a;obtain⟨p,b,f,j,rfl⟩:=ng h;refine⟨v,o,rfl,?_,?_⟩;{have:=Kb l n f e (σ1:=b++σ1);simpa only [bh] using this};have:=Kd k m j (σ0:=σ0++p) (σ1:=σ1) (by rw[az,e,lj f]);simpa only [bh] using this
 | .inr x::d,c,ys,es,vs,g,σ0,σ1,a,⟨v,o,i,n,m⟩,h,e=>by subst i;simp only[Kc]at a;generalize l:xR c x=q at a;obtain⟨y,r⟩:=q;simp only at a;generalize k:Kc (c+r.length) d=q at a;obtain⟨t,fs⟩:=q;cases a;obtain⟨p,b,f,j,rfl⟩:=ng h;refine⟨v,o,rfl,?_,?_⟩;{have:=zN l n f e (σ1:=b++σ1);simpa only [bh] using this};have:=Kd k m j (σ0:=σ0++p) (σ1:=σ1) (by rw[az,e,lj f]);simpa only [bh] using this
theorem acZ{c:Nat}{x y:SC}{es:M SE}{v:C}{t:M D}(a:US c x=(y,es))(f:lf ρ x v)(j:jk ρ es=Z t){h σ1:M D}(l:h.length=c):lf (h++(t++σ1)) y v:=by cases x with|b x=>{simp only[US]at a;generalize e:Qe c x=q at a;obtain⟨A,B⟩:=q;cases a;exact Kb e f j l}|agg s=>{simp only[US]at a;generalize e:xR c s=q at a;obtain⟨A,B⟩:=q;cases a;obtain⟨m,rfl,g⟩:=f;exact⟨m,rfl,zN e g j l⟩}|tw s=>{simp only[US]at a;generalize e:Kc c s=q at a;obtain⟨A,B⟩:=q;cases a;obtain⟨m,rfl,g⟩:=f;exact⟨m,rfl,Kd e g j l⟩}|ptr b o=>{cases a;exact f}|pG r k i o=>{cases a;subst l;obtain⟨n,g,rfl⟩:=f;obtain⟨w,p,rfl⟩:=ga j;rw[g]at p;cases p;exact⟨n,LS _ _ _,rfl⟩}|vi i o=>{cases a;subst l;obtain⟨x,m,g,p,rfl⟩:=f;obtain⟨w,e,rfl⟩:=ga j;rw[SE.d,g]at e;cases e;exact⟨x,m,LS _ _ _,p,rfl⟩}|fn F G=>{cases a;exact f}|any=>cases a;trivial
theorem Eu{f:Gs}(n:jI ρ f=Z I):∀{l:M (Nat×SG)} {c:Nat} {m:M (Nat×SG)} {es:M SE} {k σ0 σ1:M D},CQ f c l=(m,es)->jk ρ es=Z k->σ0.length=c->
  ∀d g,look m d=Z g->∃e,look l d=Z e/\∀v,tF ρ e v->tF (σ0++(k++σ1)) g v
 |[],_,_,_,_,_,_,a,o,i=>by cases a;intro d g h;cases h
 |(d0,e)::l,c,m,es,k,σ0,σ1,a,o,i=>by intro d g h;simp only[CQ]at a;split at a;{rename_i x;generalize B:US c e.c=q at a;obtain⟨y,G⟩:=q;simp only at a;generalize p:CQ f (c+G.length) l=q at a;obtain⟨F,fs⟩:=q;cases a;obtain⟨C,j,t,A,rfl⟩:=ng o;simp only[look]at h ⊢;split at h;{rename_i hd;cases h;refine⟨e,by rw[if_pos hd],λv s=>?_⟩;obtain⟨b,r,w,H⟩:=s;rw[QG n x]at r;cases r;have:=acZ B (w rfl) t i (σ1:=j++σ1);exact tF.nil (by simpa only [bh] using this)};rename_i hd;rw[if_neg hd];have:=Eu n p A (σ0:=σ0++C) (σ1:=σ1) (by rw[az,i,lj t]) d g h;simpa only [bh] using this};generalize p:CQ f c l=q at a;obtain⟨F,fs⟩:=q;cases a;simp only[look]at h ⊢;split at h;{rename_i hd;cases h;exact⟨e,by rw[if_pos hd],λv s=>tF.nil trivial⟩};rename_i hd;rw[if_neg hd];exact Eu n p o i d g h
theorem M_:∀{l:M (Nat×M SB)} {c:Nat} {i:M (Nat×M SB)} {es:M SE} {f σ0 σ1:M D},IN c l=(i,es)->jk ρ es=Z f->σ0.length=c->
  ∀d g,look i d=Z g->∃b,look l d=Z b/\∀v,eR ρ b v->eR (σ0++(f++σ1)) g v
 |[],_,_,_,_,_,_,a,k,j=>by cases a;intro d g h;cases h
 |(d0,b)::l,c,i,es,f,σ0,σ1,a,k,j=>by intro d g h;simp only[IN]at a;generalize r:xR c b=q at a;obtain⟨y,t⟩:=q;simp only at a;generalize p:IN (c+t.length) l=q at a;obtain⟨w,fs⟩:=q;cases a;obtain⟨s,e,m,o,rfl⟩:=ng k;simp only[look]at h ⊢;split at h;{rename_i hd;cases h;refine⟨b,by rw[if_pos hd],λv n=>?_⟩;have:=zN r n m j (σ1:=e++σ1);simpa only [bh] using this};rename_i hd;rw[if_neg hd];have:=M_ p o (σ0:=σ0++s) (σ1:=σ1) (by rw[az,j,lj m]) d g h;simpa only [bh] using this
theorem Na:∀{l:M (Nat×SR)} {c:Nat} {i:M (Nat×SR)} {es:M SE} {f σ0 σ1:M D},IP c l=(i,es)->jk ρ es=Z f->σ0.length=c->
  ∀d g,look i d=Z g->∃b,look l d=Z b/\∀v,SRr ρ b v->SRr (σ0++(f++σ1)) g v
 |[],_,_,_,_,_,_,a,m,j=>by cases a;intro d g h;cases h
 |(d0,b)::l,c,i,es,f,σ0,σ1,a,m,j=>by intro d g h;simp only[IP]at a;generalize r:IP (c+1) l=q at a;obtain⟨t,fs⟩:=q;cases a;obtain⟨x,e,p,o,rfl⟩:=eD m;simp only[look]at h ⊢;split at h;{rename_i hd;cases h;refine⟨b,by rw[if_pos hd],λv n=>?_⟩;obtain⟨s,k,rfl⟩:=n;rw[p]at k;cases k;subst j;exact⟨s,kt σ0 _ (e++σ1),rfl⟩};rename_i hd;rw[if_neg hd];have:=Na r o (σ0:=σ0++[x]) (σ1:=σ1) (by rw[az,j];rfl) d g h;simpa only [bh,ax,av] using this
theorem Rel.ash{S:SS}{s:St}(h:Rel ρ S s)(e:oy):Rel ρ (S.ez e) s:=
 ⟨λd g a=>h.sl d g (jw _ _ a).1,λb c a=>h.bx b c (jw _ _ a).1,λr x a=>h.rw r x (jw _ _ a).1⟩
theorem So{S y:SS}{s:St}{n:Gs}{es:M SE}{v:M D}(h:Rel ρ S s)(F:jI ρ n=Z I)(a:UT n S=(y,es))(G:jk ρ es=Z v):Rel v y s:=by have h:=h.ash S.keys;unfold UT at a;generalize L:CQ n 0 (S.ez S.keys).sl=q at a;obtain⟨sl,A⟩:=q;simp only at a;generalize K:IN A.length (S.ez S.keys).bx=q at a;obtain⟨bx,p⟩:=q;simp only at a;generalize H:IP (A.length+p.length) (S.ez S.keys).rw=q at a;obtain⟨C,Q⟩:=q;cases a;obtain⟨σ1,R,o,P,rfl⟩:=ng G;obtain⟨e,c,w,N,rfl⟩:=ng P;refine⟨λd g j=>?_,λb B j=>?_,λr x j=>?_⟩;{obtain⟨k,i,f⟩:=Eu F L o (σ0:=[]) (σ1:=e++c) rfl d g j;exact f _ (h.sl d k i)};{obtain⟨k,i,f⟩:=M_ K w (σ0:=σ1) (σ1:=c) (lj o) b B j;obtain⟨t,m,l⟩:=h.bx b k i;exact⟨t,m,f _ l⟩};obtain⟨k,i,f⟩:=Na H N (σ0:=σ1++e) (σ1:=[]) (by rw[az,lj o,lj w]) r x j;obtain⟨t,m,l⟩:=h.rw r k i;refine⟨t,m,?_⟩;have:=f _ l;simpa only [bh,aH] using this
end
end Go.Proofs.YtgnmdaifiodnnaaGreatDoor
