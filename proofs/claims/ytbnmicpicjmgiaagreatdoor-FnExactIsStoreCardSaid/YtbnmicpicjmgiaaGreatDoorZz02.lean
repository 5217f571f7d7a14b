/- Part of the proof. Condition: none. -/
import Derived.Attr
import Derived.Test.YtbnmicpicjmgiaaGreatDoorZz01
set_option linter.all false
open Array renaming replicate->qw,getElem?_eq_none->wC
open Bool renaming and_eq_true->aw,false_eq_true->aQ,not_false->db,false_ne_true->dh,not_eq_true'->dm,not_true->dr,or_false->dB,true_and->dC,false_and->dK,eq_false_iff->dQ,or_true->dX,and_false->eJ,or_eq_true->eY,and_true->fT,false_or->fU,and_assoc->iW,true_or->qS,true->I,false->J
open Int renaming toNat_natCast->cn
open List renaming nil_append->au,cons_append->av,length_append->ay,append_nil->aG,length_nil->aJ,length_cons->aN,mem_cons->aU,replicate->aW,mem_append->aX,append_assoc->aZ,take_length->bl,getElem?_eq_some_iff->bn,take_zero->br,map_cons->bz,all_eq_true->bF,drop_zero->bQ,take_append_drop->cp,take_succ_cons->cy,range->cC,nodup_append->cD,map_nil->cO,nodup_cons->cW,length_eq_one_iff->dd,all_cons->dt,mem_map->dv,mem_cons_of_mem->eb,mem_cons_self->eo,getElem?_append_left->eH,drop_length->eI,drop_succ_cons->eW,getElem?_take->fQ,ext_getElem?->gu,replicate_succ->ir,drop_eq_getElem_cons->kg,length_pos_iff->kJ,length_drop->kO,take_left->n9,filter_cons->oZ,getElem?_eq_none->xM,drop_drop->zn
open Nat renaming le_refl->aH,le_trans->aS,zero_add->bN,lt_of_lt_of_le->bZ,add_zero->dY,lt_or_ge->dZ,blt->eP,mul_le_mul->gD,beq->gH,add_assoc->ij,ble->jZ,blt_eq->xo
open Ne renaming symm->ov
open Option renaming map_eq_some_iff->aC,isSome_some->bR,isSome_iff_exists->cu,getD_none->cz,getD_some->cL,map_some->cV,bind_some->fY,toList->Ba,some->Z,none->O
open Option.some renaming injEq->bq,inj->hO
open Prod.mk renaming injEq->cH
open UInt8 renaming ofNat->dT
open Decidable renaming decide->Z'
namespace Go.Proofs.YtbnmicpicjmgiaaGreatDoor
section
open Go.RowKit
def Qk(P:Program)(F:FuncId):Prop:=
 ∀(w:World) (g:Nat) (T:TypeId) (a es:M Bool) (c:Nat) (b o m f:Nat) (rest:M Value),mP w g T (a.map Value.bool++rest)->j5 w b o (es.map Value.bool)->b≠g->es.length=a.length->a.length<=maxLen->
  Calls P F #[.slice (Z ⟨g,0,O⟩) a.length c,.slice (Z ⟨b,o,O⟩) es.length f] w λe d=>e=.returned (.bool (nq a es))/\d=ji w g (.cells ((dJ a es).map Value.bool++rest).toArray T (0,0))
def akG(P:Program)(F:FuncId)(ins:Bool):Prop:=
 ∀(w:World) (A:u Addr) (n c a b m:Nat) (k:Value) (xs h:M Value),n<=c->c<=maxLen->a<=b->b<=n->(n+m) * 56<=room->xs.length=n * 3->h.length=m * 3->(∀v∈xs++h,one v=I)->
  ((A=O/\c=0)\/∃g T vs,A=Z ⟨g,0,O⟩/\mP w g T vs/\vs.length=c * 3/\vs.take (n * 3)=xs)->
  (if ins=I then a=b/\0<m/\∃q l T d,k=.slice (Z ⟨q,0,O⟩) m l/\mP w q T d/\d.length=l * 3/\d.take (m * 3)=h/\m<=l/\∀g,A=Z ⟨g,0,O⟩->q≠g else a<b/\m=0/\k=.int .i64 b)->
  Calls P F #[.slice A n c,.int .i64 a,k] w λe i=>∃f j o d,e=.returned (.slice (Z ⟨f,0,O⟩) (n - (b - a)+m) j)/\n - (b - a)+m<=j/\j<=maxLen/\mP i f o d/\d.length=j * 3/\
   d.take ((n - (b - a)+m) * 3)=xs.take (a * 3)++h++xs.drop (b * 3)/\((A=Z ⟨f,0,O⟩/\YE f w i)\/(f=w.heap.size/\i.heap.size=w.heap.size+1/\J_ w.heap.size w i))
def YA(P:Program)(C:FuncId)(d:Bool):Prop:=
 ∀(b:World) (io:M Nat) (F:FuncId) (fn:Func) (c:M A->u (M A×M A)),P.funcs[F]?=Z fn->fn.body.isSome=I->(fn.name == "runtime.NumGoroutine")=J->(∀a r o,c a=Z (r,o)->yd b io P F a r o)->∀a r o,yj d c a=Z (r,o)->afX b io P C F a r o
def YG(P:Program)(num:Nat->FuncId):Prop:=
 (num 9004≠1000000->Qk P (num 9004))/\(∀ins:Bool,num (if ins=I then 9006 else 9005)≠1000000->akG P (num (if ins=I then 9006 else 9005)) ins)/\∀a:Bool,num (if a=I then 9007 else 9008)≠1000000->YA P (num (if a=I then 9007 else 9008)) a
def Cts(b:World)(c:M Nat)(P:Program)(num:Nat->FuncId)(d:Nat->M A->u (M A×M A)):Prop:=
 (∀g a r o,d g a=Z (r,o)->yd b c P (num g) a r o)/\YG P num
section
variable {P:Program} {γ:Gh} {h0:Nat->Nat} {io:M Nat} {w0:World} {s s':St} {f:Fm} {w:World} {N:Nat} {ty:TypeId} {pos:String} {aft:Array Edge} {gd:u (Nat×Bool)} {K:Fm->World->Prop}
 {cf:Nat->M A->u (M A×M A)} {mf:Nat->Bool->M D->Int->u (M D×Int)}
def Gh.iT(γ:Gh)(q i:Nat):Gh:=⟨γ.h,γ.β,λr=>if r=i then γ.sl q else γ.sl r,λg=>if γ.ω g=.row q then .row i else γ.ω g⟩
mutual
theorem CR.iT(γ:Gh)(w:World)(q i:Nat):∀(c:C) {v:Value},CR γ w c v->CR (γ.iT q i) w (c.iT q i) v
 | .d x,v,h=>by simp only[CR,C.iT,Gh.iT]at h ⊢;exact h
 | .nil k t,v,h=>by simp only[CR,C.iT]at h ⊢;exact h
 | .ref r,v,h=>by simp only[CR]at h;simp only[C.iT];split;{rename_i e;subst e;simp only[CR,Gh.iT,if_true];exact h};split;{simp only[CR]};rename_i p l;simp only[CR,Gh.iT,if_neg l];exact h
 | .ptr b o,v,h=>by simp only[CR,C.iT,Gh.iT]at h ⊢;exact h
 | .pG r k a o,v,h=>by simp only[CR]at h;simp only[C.iT];split;{rename_i e;subst e;simp only[CR,Gh.iT,if_true];exact h};split;{simp only[CR]};rename_i p l;simp only[CR,Gh.iT,if_neg l];exact h
 | .vc cs,v,h=>by simp only[CR,C.iT,Gh.iT]at h ⊢;exact h
 | .agg cs,v,h=>by simp only[CR,C.iT]at h ⊢;obtain⟨vs,j,g⟩:=h;exact⟨vs,j,gY.iT γ w q i cs g⟩
 | .tv cs,v,h=>by simp only[CR,C.iT]at h ⊢;obtain⟨vs,j,g⟩:=h;exact⟨vs,j,gY.iT γ w q i cs g⟩
 | .fn F y,v,h=>by simp only[CR,C.iT,Gh.iT]at h ⊢;exact h
 | .wq,v,h=>by simp only[CR,C.iT]at h ⊢;exact h
 | .any,v,h=>by simp only[CR,C.iT]
theorem gY.iT(γ:Gh)(w:World)(q i:Nat):∀(cs:List C) {vs:List Value},gY γ w cs vs->gY (γ.iT q i) w (C.CC q i cs) vs
 |[],vs,h=>by simp only[gY,C.CC]at h ⊢;exact h
 |c::cs,vs,h=>by simp only[gY,C.CC]at h ⊢;obtain⟨v,n,j,g,m⟩:=h;exact⟨v,n,j,CR.iT γ w q i c g,gY.iT γ w q i cs m⟩
end
theorem Xj q i l d:look (acf q i l) d=(look l d).map (C.iT q i):=by induction l with|nil=>{rfl}|cons p l a=>unfold acf at a ⊢;simp[look,a];split<;>rfl
theorem Xi q i l d:look (ace q i l) d=(look l d).map (C.CC q i):=by induction l with|nil=>{rfl}|cons p l a=>unfold ace at a ⊢;simp[look,a];split<;>rfl
theorem Inv.iT(j:Inv γ h0 io w0 s f w){q i row}(B:look s.rw q=Z row):Inv (γ.iT q i) h0 io w0 (s.iT q i row) f w:={j with
 sl:=λd c h=>by simp[St.iT,Xj]at h;obtain⟨t,l,rfl⟩:=h;exact CR.iT γ w q i t (j.sl d t l)
 bx:=λb G h=>by simp[St.iT,Xi]at h;obtain⟨p,l,rfl⟩:=h;obtain⟨T,vs,n,m,C⟩:=j.bx b p l;exact⟨T,vs,n,gY.iT γ w q i p m,by simp[Gh.iT,C]⟩
 rw:=λr x h=>by simp[St.iT,look]at h;by_cases o:i=r;{subst o;simp at h;subst h;obtain⟨F,l,n,m⟩:=j.rw q row B;exact⟨F,by simp[Gh.iT];exact l,n,λg a=>by simp[Gh.iT,m g a]⟩};rw[if_neg o,fL,if_neg o,fL]at h;split at h;{cases h};rename_i y;obtain⟨F,l,n,m⟩:=j.rw r x h;exact⟨F,by simp[Gh.iT,if_neg (ov o)];exact l,n,λg a=>by simp[Gh.iT,m g a,ov y]⟩
 own:=λg a=>j.own g (λe=>a (by simp[Gh.iT,e]))
 nJ:=λg b a=>j.nJ g b (by
  simp[Gh.iT]at a
  split at a
  .cases a
  .exact a) }
theorem agv(g:Inv γ h0 io w0 s f w){op x y d}(p:op=.assign x\/op=.move x)(m:lN N x y=I)(a:nG cf mf s (Z d) (.Xp y)=Z s')
  (h:∀b j e,Inv b h0 io w0 s' j e->Tr (Z d) (gr s (Z d) (.Xp y)) γ w b e f j->K j e):xv P N ⟨Z d,op,ty,pos,aft,gd⟩ f w K:=by have c:=cU g m;have k:(execOp (fr f N).eval ⟨Z d,op,ty,pos,aft,gd⟩).run P w=.ok (.value ((fr f N).eval x)) w:=by{rcases p with rfl|rfl;{exact fp rfl};exact eu rfl};refine cA k ?_;simp[nG]at a;split at a;{rename_i q n;rw[n]at c;split at a;{rename_i row o;cases a;have l:=g.iT (i:=vg d 0) o;exact h _ _ _ (l.put d (.ref (vg d 0)) _ (by simp[CR]at c ⊢;simpa [Gh.iT] using c)) ⟨Bg.refl _ _ _,λ_ _=>rfl,λ_=>aH _,.put⟩};cases a};cases a;exact h _ _ _ (g.put d _ _ c) ⟨Bg.refl _ _ _,λ_ _=>rfl,λ_=>aH _,.put⟩
theorem Bl:∀(es) {c xs G},nN es=Z c->iQ w es xs G->xs=c.map Value.bool/\G=[]/\c.length=es.length
 |[],c,xs,G,h,a=>by cases h;simp[iQ]at a;simp[a.1,a.2]
 |e::es,c,xs,G,h,a=>by match e,h with|[.bool b],h=>simp[nN]at h;obtain⟨k,g,rfl⟩:=h;obtain⟨v1,v2,n,m,rfl,rfl,⟨v,j,l,G2,rfl,rfl,⟨rfl,rfl⟩,rfl,rfl⟩,d⟩:=a;obtain⟨rfl,rfl,i⟩:=Bl es g d;simp_all
theorem JU:∀(a:M Bool),iQ w (a.map λb=>[D.bool b]) (a.map Value.bool) []
 |[]=>by simp[iQ]
 |b::a=>by simp;exact⟨[.bool b],_,[],[],rfl,rfl,⟨.bool b,[],[],[],rfl,rfl,⟨rfl,rfl⟩,rfl,rfl⟩,JU a⟩
theorem kA:∀a es,(dJ a es).length=a.length
 |[],es=>by cases es<;>simp[dJ]
 |b::a,[]=>by simp[dJ]
 |b::a,e::es=>by simp[dJ,kA a es]
theorem ah0(V:Inv γ h0 io w0 s f w){r c v es}(p:CR γ w c v)(a:Jr s r c=Z es)(T:es≠[]):
  ∃b o n j d G,v=.slice (Z ⟨b,o,O⟩) n j/\n=es.length/\iQ w es d G/\j5 w b o d/\∀g,γ.ω g=.row r->γ.h g=0->b≠g:=by have X:0<es.length:=kJ.2 T;unfold Jr at a;split at a;{cases a;obtain⟨F,⟨A,n,j,l,k,R,Q,L,H,C,i⟩,S⟩:=p;rcases i with ⟨i,_⟩|⟨_,b,o,d,G,rfl,rfl,a2,a3⟩;{omega};refine⟨b,o,n,j,d,G,l,k,a2,a3,λg _ m e=>?_⟩;have:=S (b,o+n * 1) (by simp);rw[e,m]at this;omega};{rename_i q;split at a;{rename_i row x;split at a;{rename_i U;cases a;simp[CR]at p;obtain⟨F,W,_,B⟩:=V.rw q row x;obtain⟨A,n,j,l,k,R,Q,L,H,C,i⟩:=W;rcases i with ⟨_,i,_⟩|⟨b,o,d,G,rfl,a2,a3,a4,a5,a6,a7,Y,a9,y⟩;{omega};have t:γ.ω b=.row q:=B b (by cases hd:row.deep with|true=>{rw[(a9 hd).1];simp}|false=>rw[(y hd).1];simp);refine⟨b,o,n,j,d,G,p.1.trans l,k,a4,a5,λg m _ e=>?_⟩;rw[e,m]at t;simp at t;exact U.2 t.symm};cases a};cases a};cases a
theorem ari(L:Inv γ h0 io w0 s f w){F0 fn}(Ah:P.funcs[F0]?=Z fn)(Fj:fn.body.isSome=I)(uO:(fn.name == "runtime.NumGoroutine")=J)(v:Qk P F0){ts x y a b d}(hx:lN N x a=I)(C:lN N y b=I)(q:nG cf mf s (Z d) (.jn a b)=Z s')
  (h:∀B f' V,Inv B h0 io w0 s' f' V->Tr (Z d) (gr s (Z d) (.jn a b)) γ w B V f f'->K f' V) :
  xv P N ⟨Z d,.call {callee:=.value (.func F0),args:=#[x,y],argTypes:=ts },ty,pos,aft,gd⟩ f w K:=by
 have X:=cU L hx;have hpy:=cU L C;simp only[nG]at q;split at q
 .rename_i d0 r Q6 F;cases Q6;rw[F]at X;simp[CR]at X;split at q
  .rename_i row es hl HS;split at q
   .rename_i hc;obtain⟨hk,hrf,VJ,u6,hle⟩:=hc;split at q
    .rename_i p t hbs Du;split at q
     .rename_i iH;cases q;obtain⟨n7,A,n,c,i2,b2,AS,W,o2,l2,q1,q2,q3,q4,q5,q6,q7,q8⟩:=L.AF hl;have rh:(fr f N).eval x=.slice A n c:=X.1.trans q1;(have hrX:r∈gr s (Z d) (.jn a b):=by simp[gr,F,rowsOf]);have K9:0<es.length:=kJ.2 iH;rcases q8 with ⟨rfl,rfl⟩|⟨g,o,xs,G,rfl,a2,a3,a4,a5,a6,a7,a8,a9,xw,a11,a12⟩;{omega};obtain⟨rfl,T,vs,hB,MW⟩:=xw u6;have U:γ.h g=0:=a9 VJ;obtain⟨rfl,rfl,hbl⟩:=Bl _ hbs a6;obtain⟨bb,oo,n2,cc,Sv,G2,y1,y2,y3,y4,y5⟩:=ah0 L hpy HS iH;obtain⟨rfl,rfl,vE⟩:=Bl _ Du y3;(have hlc:t.length=p.length:=by omega);(have H:n=p.length:=by omega);(have adW:vs=p.map Value.bool++vs.drop p.length:=by{have:vs.take p.length=p.map Value.bool:=by{apply gu;intro j;rw[fQ];by_cases v:j<p.length;{rw[if_pos v];have h7:=a7 j (Value.bool p[j]) (by simp);rw[bN,hB.cell]at h7;rw[h7];simp[v]};rw[if_neg v,xM (by simp;omega)]};conv=>lhs;rw[<- cp p.length vs,this]});have S:=hB;rw[adW]at S;have sQ:=v w g T p t c bb oo n2 cc (vs.drop p.length) S y4 (y5 g a3 U) hlc (by omega);(have aq2:(fr f N).eval x=.slice (Z ⟨g,0,O⟩) p.length c:=by rw[rh,H]);(have aq3:(fr f N).eval y=.slice (Z ⟨bb,oo,O⟩) t.length cc:=by rw[y1,y2,vE]);refine yY (zm (iG Ah Fj uO) rfl (by simp[aq2,aq3])) sQ λe V hp=>?_;obtain⟨rfl,rfl⟩:=hp;refine⟨_,rfl,?_⟩;have Y:=YE.ji w g ((dJ p t).map Value.bool++vs.drop p.length).toArray T;have u5:Bg γ (λo=>∃i∈gr s (Z d) (.jn a b),o=.box i\/o=.row i) w _:=n_ L Y ⟨r,hrX,.inr a3⟩ (λj v=>by rw[U]at v;omega);have h5:=i2.YI (n_ i2 Y (M:=λo=>o=.fI) a4 (λj v=>by rw[W,U]at v;omega)) (by simp) (λb Q=>by cases Q) (λr hr=>by cases hr);have R:=hB.mF T ((dJ p t).map Value.bool++vs.drop p.length);(have jj:j5 (ji w g (.cells ((dJ p t).map Value.bool++vs.drop p.length).toArray T (0,0))) g 0 ((dJ p t).map Value.bool):=by{intro j m hu;refine R.Xh j m ?_;rw[eH (bn.1 hu).1];exact hu});have hjl:=kA p t;have aq0:((dJ p t).map Value.bool++vs.drop p.length).length=c * row.k:=by{simp;rw[hk]at MW ⊢;omega}
      obtain⟨Qb,h6,h7,h8,h9,_,_⟩:=h5.wH (r:=r) (x:={row with es:=(dJ p t).map λb=>[D.bool b] }) (n:=n) (c:=c) (g:=g) (o:=0) (by simp[hjl];exact H) q3 q4 q5
       (λy C=>by obtain⟨l,_,rfl⟩:=dv.1 C;simp[hk]) (λ_ y C l hz=>by obtain⟨m,_,rfl⟩:=dv.1 C;simp at hz;subst hz;rfl)
       (by rw[iF];exact a2) (.inl a4) (i2.own g (by rw[a4];simp)).2 ⟨by rw[iF];omega,Y.fz⟩ (JU _) jj (by rw[W,U];omega) (λ_=>by rw[W,U]) (λ_=>⟨rfl,T,_,R,aq0⟩)
       (λbe Q=>by simp at Q) (λ_=>⟨by simp,λbe Q=>by simp at Q⟩) (by rw[AS];exact q1)
      (have e6:(s.dL r).setRow r {row with es:=(dJ p t).map λb=>[D.bool b] }=s.setRow r {row with es:=(dJ p t).map λb=>[D.bool b] }:=by{(have:sy (sy s.rw r) r=sy s.rw r:=by simp[sy]);simp[St.setRow,St.dL,this]});rw[e6]at h6;exact h Qb _ _ (h6.put d _ _ jI) ⟨u5,λ_ _=>by rw[h8,b2],λl=>by have:=h9 l;rw[W]at this;exact this,.put⟩
     cases q
    cases q
   cases q
  cases q
 cases q
end
end
section
open Go.RowKit
section
variable {P:Program} {γ:Gh} {h0:Nat->Nat} {io:M Nat} {w0:World} {s s':St} {f:Fm} {w:World} {N:Nat} {ty:TypeId} {pos:String} {aft:Array Edge} {gd:u (Nat×Bool)} {K:Fm->World->Prop}
 {cf:Nat->M A->u (M A×M A)} {mf:Nat->Bool->M D->Int->u (M D×Int)}
theorem XL{w:World}{g:Nat}{T:TypeId}{vs:M Value}(h:mP w g T vs):ji w g (.cells vs.toArray T (0,0))=w:=by unfold ji;have e:w.heap.setIfInBounds g (.cells vs.toArray T (0,0))=w.heap:=by{apply Array.ext_getElem?;intro k;rw[Array.getElem?_setIfInBounds];split;{rename_i a;subst a;rw[if_pos h.lt];exact h.symm};rfl};rw[e]
end
end
section
open Go.RowKit
def noD(a:M Nat)(l:Array Bool):Prop:=∀m∈a,l.getD m J=J
def Cons(a:M (M Nat×(World->Prop)))(l:Array Bool)(w:World):Prop:=∀p∈a,noD p.1 l->p.2 w
theorem aas{l:Array Bool}{i m}(h:(l.setIfInBounds i I).getD m J=J):l.getD m J=J:=by cases a:l.getD m J with|false=>{rfl}|true=>rw[getD_set_true a]at h;cases h
def aeK{a l i}(h:noD a (l.setIfInBounds i I)):noD a l:=λm b=>aas (h m b)
def Ax{a l i}(h:noD a l)(c:i∉a):noD a (l.setIfInBounds i I):=λm b=>by rw[getD_set_ne J (by intro e;subst e;exact c b)];exact h m b
def Cons.set{a l w}(h:Cons a l w)i:Cons a (l.setIfInBounds i I) w:=λp c e=>h p c (aeK e)
def Cons.ap2{a l w i}(h:Cons a (l.setIfInBounds i I) w)(f:∀p∈a,i∉p.1):Cons a l w:=λp c e=>h p c (Ax e (f p c))
section
variable {P:Program} {ops:Array Oper} {Q:Exit->Act->World->Prop} {md:Region.Mode}
def sw(P:Program)(md:Region.Mode)(ops:Array Oper)(Q:Exit->Act->World->Prop)(c:M (M Nat×(World->Prop))):Nat->Array Bool->Act->World->Prop
 |0,listed,a,w=>Region.ready md ops listed=[]/\Q .normal a w
 |fuel+1,listed,a,w=>
  (Region.ready md ops listed=[]->Q .normal a w)/\
  ∀i∈Region.ready md ops listed,wpOp P ops Q i (λd b=>Cons c (listed.setIfInBounds i I) b/\sw P md ops Q c fuel (listed.setIfInBounds i I) d b) a w
theorem HI{j}:∀c b a w,sw P md ops Q j c b a w->wpAny P md ops Q c b a w
 |0,_,_,_,h=>h
 |c+1,_,_,_,h=>⟨h.1,λi e=>wpOp_mono (λg d f=>HI c _ g d f.2) (h.2 i e)⟩
def okD(md:Region.Mode)(ops:Array Oper)(i:Nat)(a:M Nat):Bool:=a.all λj=>match ops[j]? with
 |some o=>o.after.any λe=>Region.binds md e && (e.on ==i ||a.contains e.on)
 |none=>J
theorem abH{i d}(h:okD md ops i d=I){listed}(p:listed.getD i J=J)(l:noD d listed){j}(n:j∈Region.ready md ops listed):j∉d:=by intro m;have f:=bF.1 h j m;obtain⟨_,o,k,g⟩:=mem_ready.1 n;rw[k]at f;obtain⟨e,q,b⟩:=Array.any_eq_true'.1 f;simp at b;have a:=g e q b.1;rcases b.2 with c|c;{rw[c,p]at a;cases a};rw[l _ c]at a;cases a
theorem ap0{x i q v V X G}(hi:ops[i]?=Z q)(L:∀(j:Nat) (o) K b,ops[j]?=Z o->o.op≠.select K b)
  (hQ:∀c a w,Q (.panic c) (a.put q.dst v) w->Q (.panic c) a w) (hD:okD md ops i X=I) (Oj:∀m∈G,m∈X) (hid:i∉G) (hCi:∀p∈x,i∉p.1) :
  ∀f d a w,
   (∀j n,ops[j]?=Z n->j≠i->d.getD j I=J->(∀e∈n.after,Region.binds md e=I->e.on≠i)->q.apart ops n=I)->
   i∈Region.ready md ops d->noD X d->YieldsIf P ops V q v a->V w->Cons x d w->
   sw P md ops Q ((G,V)::x) f (d.setIfInBounds i I) (a.put q.dst v) w->sw P md ops Q x (f+1) d a w:=by intro f;have l:∀f d a w,sw P md ops Q ((G,V)::x) f d a w->sw P md ops Q x f d a w:=by{intro f;induction f with|zero=>{intro d a w h;exact h}|succ f Y=>intro d a w h;exact⟨h.1,λj t=>wpOp_mono (λa' A y=>⟨λp hp=>y.1 p (by simp[hp]),Y _ a' A y.2⟩) (h.2 j t)⟩};induction f with|zero=>{intro d a w _ r U T hV hC H;refine⟨λh=>(by rw[h]at r;cases r),λj t=>?_⟩;by_cases g:j=i;{subst g;exact T.wpOp hi hV ⟨hC.set j,l _ _ _ _ H⟩};have:=ready_mono t g;rw[H.1]at this;cases this}|succ f Y=>intro d a w On r U T hV hC H;refine⟨λh=>(by rw[h]at r;cases r),λj t=>?_⟩;by_cases g:j=i;{subst g;exact T.wpOp hi hV ⟨hC.set j,l _ _ _ _ H⟩};have W:=H.2 j (ready_mono t g);obtain⟨R,n,s,ko⟩:=mem_ready.1 t;have N:d.getD i J=J:=by{have h0:=(mem_ready.1 r).1;rcases dZ i d.size with y|y;{simp[y]at h0 ⊢;exact h0};simp[wC y]at h0};have D:=abH hD N U t;have aqW:∀e∈n.after,Region.binds md e=I->e.on≠i:=λe he hb heq=>by{have W:=ko e he hb;rw[heq,N]at W;cases W};have h2:=wpOp_putIf (S:=V) s (On j n s g R aqW) (λK b=>L i q K b hi) (λK b=>L j n K b s) hQ T W;have ahB:∀k ok,ops[k]?=Z ok->k≠i->(d.setIfInBounds j I).getD k I=J-> (∀e∈ok.after,Region.binds md e=I->e.on≠i)->q.apart ops ok=I:=λk ok hk hki B hno=>by{refine On k ok hk hki ?_ hno;by_cases C:j=k;{subst C;exact R};rw[getD_set_ne I C]at B;exact B};refine wpOp_mono (λa' A h3=>?_) h2;obtain⟨h3,h4,h5⟩:=h3;have F:Cons x (d.setIfInBounds j I) A:=by{rw[Array.setIfInBounds_comm _ _ (ov g)]at h4;exact Cons.ap2 (i:=i) (λp hp=>h4 p (by simp[hp])) hCi};have hnj:noD X (d.setIfInBounds j I):=Ax U D;have hV':V A:=h4 (G,V) (by simp) (Ax (Ax (λm hm=>U m (Oj m hm)) hid) (λhm=>D (Oj j hm)));refine⟨F,Y (d.setIfInBounds j I) a' A ahB (ready_mono r (ov g)) hnj h3 hV' F ?_⟩;rw[Array.setIfInBounds_comm _ _ g];exact h5
end
section
variable {P:Program} {N:Nat} {Kn:Fm->World->Prop} {Ke:Nat->Fm->World->Prop} {Kr:Fm->World->Prop} {f:Fm} {w:World} {ops:Array Oper}
structure Ent where
 i:Nat
 q:Bool
 al:List Nat
 dn:List Nat
inductive ET where
 |nil
 |op (e:Ent) (t:ET)
 |alt (e:Ent) (t r:ET)
def ET.len:ET->Nat
 | .nil=>0
 | .op _ t=>t.len+1
 | .alt _ t _=>t.len+1
def ET.fj(p:Ent->Bool):ET->Bool
 | .nil=>I
 | .op e t=>p e && t.fj p
 | .alt e t r=>p e && t.fj p && r.fj p
def ET.Ol:ET->M Nat
 | .nil=>[]
 | .op e _=>[e.i]
 | .alt e _ r=>e.i::r.Ol
def Kp(ops:Array Oper):Bool->ET->Array Bool->Bool
 |top,.nil,listed=>top && (Region.ready .any ops listed).isEmpty
 |top,.op e s,listed=>(if e.q then top && (Region.ready .any ops listed).contains e.i && Region.free .any ops listed e.i && okD .any ops e.i e.al && e.al.all (λm=>!listed.getD m J) && e.dn.all e.al.contains && !e.dn.contains e.i && s.fj (λa=>!a.q ||!e.dn.contains a.i) else !top ||Region.ready .any ops listed ==[e.i]) && Kp ops I s (listed.setIfInBounds e.i I)
 |top,.alt e s r,listed=>(!top ||Region.ready .any ops listed ==e.i::r.Ol) && !e.q && s.len+1 ==r.len && Kp ops I s (listed.setIfInBounds e.i I) && Kp ops J r listed
def Dv(P:Program)(N:Nat)(ops:Array Oper)(Kn:Fm->World->Prop):M (M Nat×(World->Prop))->ET->Array Bool->Fm->World->Prop
 |_,.nil,_,f,w=>Kn f w
 |b,.op e s,l,f,w=>if e.q then
   ∃o v a V,ops[e.i]?=Z o/\YieldsIf P ops V o v (fr f N)/\(fr f N).put o.dst v=fr a N/\V w/\Dv P N ops Kn ((e.dn,V)::b) s (l.setIfInBounds e.i I) a w
  else wpOp P ops (pst N Kn (λ_ _ _=>False) (λ_ _=>False)) e.i (λd c=>Cons b (l.setIfInBounds e.i I) c/\∃a,d=fr a N/\Dv P N ops Kn b s (l.setIfInBounds e.i I) a c) (fr f N) w
 |b,.alt e s r,l,f,w=>wpOp P ops (pst N Kn (λ_ _ _=>False) (λ_ _=>False)) e.i (λd c=>Cons b (l.setIfInBounds e.i I) c/\∃a,d=fr a N/\Dv P N ops Kn b s (l.setIfInBounds e.i I) a c) (fr f N) w/\Dv P N ops Kn b r l f w
theorem zU(K:Region.noSelect ops=I):∀s g b f w l,Kp ops l s b=I->(∀p∈g,s.fj (λe=>!e.q ||!p.1.contains e.i)=I)->Cons g b w->Dv P N ops Kn g s b f w->
  (l=I->sw P .any ops (pst N Kn (λ_ _ _=>False) (λ_ _=>False)) g s.len b (fr f N) w)/\
  (l=J->∀j∈s.Ol,∃n,s.len=n+1/\wpOp P ops (pst N Kn (λ_ _ _=>False) (λ_ _=>False)) j (λG x=>Cons g (b.setIfInBounds j I) x/\sw P .any ops (pst N Kn (λ_ _ _=>False) (λ_ _=>False)) g n (b.setIfInBounds j I) G x) (fr f N) w)
 | .nil,g,b,f,w,l,C,_,_,h=>by simp[Kp]at C;refine⟨λ_=>?_,λD=>(by rw[D]at C;cases C.1)⟩;(have W:Region.ready .any ops b=[]:=by simpa using C.2);exact⟨W,f,rfl,h⟩
 | .op e s,g,b,f,w,l,C,L,T,h=>by simp only[Kp,aw]at C;obtain⟨B,U⟩:=C;have t:∀p∈g,(!e.q ||!p.1.contains e.i)=I/\s.fj (λe=>!e.q ||!p.1.contains e.i)=I:=λp y=>by{have:=L p y;simpa only [ET.fj,aw] using this};simp only[Dv]at h;cases heq:e.q with|true=>{rw[heq]at h B;simp only[if_true,aw]at h B;obtain⟨⟨⟨⟨⟨⟨⟨D,W⟩,k1⟩,k2⟩,k3⟩,k4⟩,k5⟩,k6⟩:=B;refine⟨λ_=>?_,λH=>(by rw[D]at H;cases H)⟩;obtain⟨o,v,R,V,ho,hy,y,hV,hd⟩:=h;(have Oj:∀m∈e.dn,m∈e.al:=λm X=>by simpa using bF.1 k4 m X);(have aqT:noD e.al b:=λm X=>by simpa using bF.1 k3 m X);refine ap0 ho (Region.noSelect_spec K) (λc a w L=>L.elim) k2 Oj (by simpa using k5) (λp F=>by have:=(t p F).1;simpa [heq] using this) s.len b (fr f N) w (Region.free_spec ho k1) (by simpa using W) aqT hy hV T ?_;rw[y];refine (zU K s _ _ R w I U (λp F=>?_) (λp F hn=>?_) hd).1 rfl;{rcases aU.1 F with rfl|F;{exact k6};exact (t p F).2};rcases aU.1 F with rfl|F;{exact hV};exact (T.set e.i) p F hn}|false=>rw[heq]at h B;simp at h B;have step:wpOp P ops (pst N Kn (λ_ _ _=>False) (λ_ _=>False)) e.i (λG x=>Cons g (b.setIfInBounds e.i I) x/\sw P .any ops (pst N Kn (λ_ _ _=>False) (λ_ _=>False)) g s.len (b.setIfInBounds e.i I) G x) (fr f N) w:=by{refine wpOp_mono ?_ h;rintro G x ⟨A,R,rfl,hd⟩;exact⟨A,(zU K s g _ R x I U (λp y=>(t p y).2) A hd).1 rfl⟩};refine⟨λD=>⟨λQ=>?_,λj k=>?_⟩,λ_ j k=>?_⟩;{rcases B with d|d;{rw[D]at d;cases d};rw[d]at Q;cases Q};{rcases B with d|d;{rw[D]at d;cases d};rw[d]at k;simp at k;subst k;exact step};simp[ET.Ol]at k;subst k;exact⟨s.len,rfl,step⟩
 | .alt e s r,g,b,f,w,l,C,L,T,h=>by simp[Kp,beq_iff_eq]at C;obtain⟨⟨⟨⟨B,U⟩,MT⟩,hc4⟩,Y⟩:=C;have t:∀p∈g,s.fj (λe=>!e.q ||!p.1.contains e.i)=I/\r.fj (λe=>!e.q ||!p.1.contains e.i)=I:=λp y=>by{have:=L p y;simp only[ET.fj,aw]at this;exact⟨this.1.2,this.2⟩};simp[Dv]at h;have S:∀j∈e.i::r.Ol,wpOp P ops (pst N Kn (λ_ _ _=>False) (λ_ _=>False)) j (λG x=>Cons g (b.setIfInBounds j I) x/\sw P .any ops (pst N Kn (λ_ _ _=>False) (λ_ _=>False)) g s.len (b.setIfInBounds j I) G x) (fr f N) w:=by{intro j k;rcases aU.1 k with rfl|k;{refine wpOp_mono ?_ h.1;rintro G x ⟨A,R,rfl,hd⟩;exact⟨A,(zU K s g _ R x I hc4 (λp y=>(t p y).1) A hd).1 rfl⟩};obtain⟨n,hn,hw⟩:=(zU K r g b f w J Y (λp y=>(t p y).2) T h.2).2 rfl j k;(have:n=s.len:=by omega);subst this;exact hw};refine⟨λD=>⟨λQ=>?_,λj k=>?_⟩,λ_ j k=>⟨s.len,rfl,S j k⟩⟩;{rcases B with d|d;{rw[D]at d;cases d};rw[d]at Q;cases Q};rcases B with d|d;{rw[D]at d;cases d};rw[d]at k;exact S j k
theorem afT{id}{l:M Oper}s(k:P.follows .mixedOrders=I)(i:Region.noSelect l.toArray=I)(j:s.len=l.toArray.size)
  (m:Kp l.toArray I s (qw l.toArray.size J)=I) (h:Dv P N l.toArray Kn [] s (qw l.toArray.size J) f w.drew):W P N (.region id l.toArray I) Kn Ke Kr f w:=by have g:=(zU i s [] _ f w.drew I m (λp d=>by simp at d) (λp d=>by simp at d) h).1 rfl;rw[j]at g;unfold W;refine wp_mono (wp_region_any k (HI _ _ _ _ g)) ?_;intro e a w b;cases e with|normal=>{exact b}|exit id=>{obtain⟨_,_,h⟩:=b;exact h.elim}|ret=>{obtain⟨_,_,h⟩:=b;exact h.elim}|goto l=>{exact b.elim}|panic c=>{exact b.elim}|outgrown=>exact b.elim
variable {Cl:M (M Nat×(World->Prop))} {s:ET} {e:Ent} {lst:Array Bool} {o:Oper}
theorem ap4(h:Kn f w):Dv P N ops Kn Cl .nil lst f w:=h
theorem ato(d:e.q=J)(g:ops[e.i]?=Z o)(j:qU N ops f o.guard)(h:xv P N o f w (λb a=>Cons Cl (lst.setIfInBounds e.i I) a/\Dv P N ops Kn Cl s (lst.setIfInBounds e.i I) b a)):Dv P N ops Kn Cl (.op e s) lst f w:=by simp[Dv,d,wpOp,g];rw[if_pos (show Region.wanted o _=I from j)];exact .inl (h.akl λb a c=>⟨c.1,b,rfl,c.2⟩)
theorem ap3{t}(d:ops[e.i]?=Z o)(g:qU N ops f o.guard)(h:xv P N o f w (λb a=>Cons Cl (lst.setIfInBounds e.i I) a/\Dv P N ops Kn Cl s (lst.setIfInBounds e.i I) b a))(j:Dv P N ops Kn Cl t lst f w):Dv P N ops Kn Cl (.alt e s t) lst f w:=by refine⟨?_,j⟩;simp[wpOp,d];rw[if_pos (show Region.wanted o _=I from g)];exact .inl (h.akl λb a c=>⟨c.1,b,rfl,c.2⟩)
theorem v_q(b:e.q=I)(c:ops[e.i]?=Z o){d:Nat}(hd:o.dst=Z d)(g:qU N ops f o.guard){v}V(a:∀w,V w->(execOp (fr f N).eval o).run P w=.ok (.value v) w)(j:V w)
  (h:Dv P N ops Kn ((e.dn,V)::Cl) s (lst.setIfInBounds e.i I) (ID f d v) w):Dv P N ops Kn Cl (.op e s) lst f w:=by simp only[Dv,b];refine⟨_,v,_,V,c,.inl ⟨g,a⟩,?_,j,h⟩;rw[hd];exact rR f N d v
variable {d:Nat} {op:Op} {ty:TypeId} {pos:String} {aft:Array Edge} {gd:u (Nat×Bool)}
theorem akp(a:e.q=I)(b:ops[e.i]?=Z ⟨Z d,op,ty,pos,aft,gd⟩)(c:jS N ops f gd)
  (h:Dv P N ops Kn ((e.dn,λ_=>True)::Cl) s (lst.setIfInBounds e.i I) (ID f d undef) w):Dv P N ops Kn Cl (.op e s) lst f w:=by simp only[Dv,a];exact⟨_,undef,_,λ_=>True,b,.inr ⟨c,rfl⟩,rR f N d _,trivial,h⟩
theorem afS(a:e.q=J)(b:ops[e.i]?=Z ⟨Z d,op,ty,pos,aft,gd⟩)(c:jS N ops f gd)(g:Cons Cl (lst.setIfInBounds e.i I) w)
  (h:Dv P N ops Kn Cl s (lst.setIfInBounds e.i I) (ID f d undef) w):Dv P N ops Kn Cl (.op e s) lst f w:=by simp[Dv,a,wpOp,b];rw[if_neg (c.to _ _ _ _ _)];exact⟨g,_,rR f N d _,h⟩
theorem ako{t}(a:ops[e.i]?=Z ⟨Z d,op,ty,pos,aft,gd⟩)(b:jS N ops f gd)(c:Cons Cl (lst.setIfInBounds e.i I) w)
  (h:Dv P N ops Kn Cl s (lst.setIfInBounds e.i I) (ID f d undef) w) (g:Dv P N ops Kn Cl t lst f w):Dv P N ops Kn Cl (.alt e s t) lst f w:=by refine⟨?_,g⟩;simp[wpOp,a];rw[if_neg (b.to _ _ _ _ _)];exact⟨c,_,rR f N d _,h⟩
end
end
section
open Go.RowKit
section
variable (P:Program) (N:Nat) (num:Nat->FuncId)
def Tb(T:TypeId):u (TypeId×TypeInfo×Value):=
 match P.underlying T with
 |some (.slice b)=>match P.info? b with
  |some i=>match i.zero with
   |some a=>Z (b,i,a)
   |none=>O
  |none=>O
 |_=>O
def mA(F:FuncId):Bool:=
 match P.funcs[F]? with
 |some fn=>fn.body.isSome && !(fn.name == "runtime.NumGoroutine")
 |none=>J
def okN:Op->u Tmp->KO->Bool
 | .alloc T,Z _,.alloc h=>(match uW P T with
   |some d=>L5 d h
   |none=>J)
 | .box _ x,Z _,.box y=>lN N x y
 | .buildSlice T n j,Z _,.vX k _ ys=>(match P.underlying T with
   |some (.slice e)=>qo P e ==Z k && (n ==0 ||(uW P e).isSome) && GX N 0 j.toList ys && n ==j.size && jZ (n * k) 16777216
   |_=>J)
 | .makeSlice T a b,Z _,.make k f m h y=>lN N a y && lN N b y && (match Tb P T with
   |some (_,i,d)=>i.size ==k && i.bytes ==f && eP 0 k && GZ d.cells.toList h && h.length ==k && (!m ||dc h)
   |none=>J)
 | .store T x v,O,.st n a b=>qo P T ==Z n && lN N x a && lN N v b
 | .call c,Z _,.app k f _ a b=>(match c.callee,c.args.toList,c.argTypes.toList with
   | .builtin .append,[x,y],[T,o]=>T ==o && lN N x a && lN N y b && (match Tb P T with
    |some (_,i,d)=>i.size ==k && i.bytes ==f && d.cells.size ==k && eP 0 k
    |none=>J)
   |_,_,_=>J)
 | .call c,_,.call g xs=>(match c.callee with
   | .value (.func F)=>F ==num g && mA P F && GY N c.args.toList xs
   |_=>J)
 | .call c,_,.cbx g xs=>(match c.callee with
   | .value (.func F)=>F ==num g && mA P F && GY N c.args.toList xs
   |_=>J)
 | .assign x,Z _,.Xp y=>lN N x y
 | .move x,Z _,.Xp y=>lN N x y
 | .call c,Z _,.jn a b=>(match c.callee,c.args.toList with
   | .value (.func F),[x,y]=>F ==num 9004 && !(num 9004 ==1000000) && mA P F && lN N x a && lN N y b
   |_,_=>J)
 | .call c,Z _,.Kv k a b=>(match c.callee,c.args.toList,c.argTypes.toList with
   | .builtin .copy,[x,y],[T,_]=>lN N x a && lN N y b && (match P.underlying T with
    |some (.slice e)=>qo P e ==Z k
    |_=>J)
   |_,_,_=>J)
 | .call c,_,.MP l g G a b=>(match c.callee,c.args.toList with
   | .value (.func F),[x,y]=>F ==num (if l=I then 9007 else 9008) && !(num (if l=I then 9007 else 9008) ==1000000) && mA P F && (G ==num g && mA P G) && lN N x a && lN N y b
   |_,_=>J)
 |_,_,_=>J
def Rz(a:Array Oper):u (Nat×Bool)->u (Nat×Bool)->Bool
 |none,O=>I
 |some (j,want),Z (g,b)=>want ==b && (match a[j]? with
   |some o=>o.dst ==Z g && eP g N
   |none=>J)
 |_,_=>J
def okI(a:Array Oper)(o:Oper)(i:KI):Bool:=
 o.dst ==i.dst && (match i.dst with
  |some d=>eP d N && eP d 900
  |none=>I) && Rz N a o.guard i.gd && (if i.op.ql then i.dst.isSome && AA P N o.op i.op else okN P N num o.op i.dst i.op)
def Xu(a:Array Oper):M Oper->M KI->Bool
 |[],[]=>I
 |o::os,i::is=>okI P N num a o i && Xu a os is
 |_,_=>J
def KD.Bb(x:KD):Ent:=⟨x.j,x.q,x.al,x.dn⟩
def KT.Bb:KT->ET
 | .nil=>.nil
 | .op x t=>.op x.Bb t.Bb
 | .alt x t r=>.alt x.Bb t.Bb r.Bb
def Ry(a:Array Oper):KT->Bool
 | .nil=>I
 | .op ⟨j,q,_,_,i⟩ is=>(match a[j]? with
   |some o=>okI P N num a o i && (!q ||i.op.ql) && (i.gd.isNone ||i.dst.isSome)
   |none=>J) && Ry a is
 | .alt ⟨j,q,_,_,i⟩ is r=>(match a[j]? with
   |some o=>okI P N num a o i && !q && (i.gd.isNone ||i.dst.isSome)
   |none=>J) && Ry a is && Ry a r
def vf:K->Code->Bool
 | .skip,.skip=>I
 | .Uz [] _,.skip=>I
 | .Uz is _,.region _ ops J=>Xu P N num ops ops.toList is
 | .ZH is _,.region _ ops I=>Ry P N num ops is && Region.noSelect ops && is.Bb.len ==ops.size && Kp ops I is.Bb (qw ops.size J)
 | .seq a b,.seq c d=>vf a c && vf b d
 | .cond x a b,.cond y c d=>lN N y x && vf a c && vf b d
 | .block i a,.block j c=>i ==j && vf a c
 | .loop a,.loop c=>vf a c
 | .exit i,.exit j=>i ==j
 | .ret,.ret=>I
 | .share _ a,c=>vf a c
 | .DV _ a,c=>vf a c
 | .seq a (.DV _ .skip),c=>vf a c
 |_,_=>J
end
def NG{P T b i a}(h:Tb P T=Z (b,i,a)):P.underlying T=Z (.slice b)/\P.info? b=Z i/\i.zero=Z a:=by unfold Tb at h;split at h;{rename_i j d;split at h;{rename_i g e;split at h;{rename_i f c;cases h;exact⟨d,e,c⟩};cases h};cases h};cases h
section
variable {P:Program} {γ:Gh} {h0:Nat->Nat} {io:M Nat} {w0:World} {s s':St} {f:Fm} {w:World} {N:Nat} {num:Nat->FuncId} {K':Fm->World->Prop}
 {cf:Nat->M A->u (M A×M A)} {mf:Nat->Bool->M D->Int->u (M D×Int)}
theorem vZ(W:Cts w0 io P num cf)(ve:∀g ag ds q uL q',mf g ag ds q=Z (uL,q')->Eo w0 io P (num g) ag ds q uL q')(B:Inv γ h0 io w0 s f w){op dst uR ty pos aft gd}(m:okN P N num op dst uR=I)(C:nG cf mf s dst uR=Z s')
  (h:∀V f' w',Inv V h0 io w0 s' f' w'->Tr dst (gr s dst uR) γ w V w' f f'->K' f' w'):xv P N ⟨dst,op,ty,pos,aft,gd⟩ f w K':=by unfold okN at m;split at m;{split at m;{rename_i j X;exact aeH B X m C (by simpa only [gr,Ba] using h)};cases m};{exact ans B m C (by simpa only [gr,Ba] using h)};{split at m;{rename_i l Q;simp only[aw,eY,beq_iff_eq]at m;obtain⟨⟨⟨⟨n,v⟩,p⟩,L⟩,h5⟩:=m;exact aeI B Q n v p L h5 C (by simpa only [gr,Ba,List.singleton_append] using h)};cases m};{simp at m;obtain⟨⟨n,v⟩,p⟩:=m;split at p;{rename_i l i j HR;obtain⟨Q,hI,X⟩:=NG HR;simp at p;obtain⟨⟨⟨⟨⟨k1,k2⟩,k3⟩,k4⟩,k5⟩,k6⟩:=p;exact ais B Q hI X k1 k2 k3 k4 k5 (λhf=>by rcases k6 with h|h<;>simp_all) n v C (by simpa only [gr,Ba] using h)};cases p};{simp at m;obtain⟨⟨n,v⟩,p⟩:=m;exact arj B n v p C h};{rename_i c d k by_ fl a b;split at m;{rename_i x y T T' t H Y;simp at m;obtain⟨⟨⟨rfl,n⟩,v⟩,p⟩:=m;obtain⟨K,args,S⟩:=c;simp only at t H Y;subst t;(have R:args=#[x,y]:=by rw[<- H]);(have et:S=#[T,T]:=by rw[<- Y]);subst R et;split at p;{rename_i l i j HR;obtain⟨Q,hI,X⟩:=NG HR;simp at p;obtain⟨⟨⟨k1,k2⟩,k3⟩,k4⟩:=p;exact anr B Q hI X k1 k2 k3 k4 n v C h};cases p};cases m};{rename_i c g xs;split at m;{rename_i F t;simp at m;obtain⟨⟨rfl,n⟩,v⟩:=m;obtain⟨K,args,S⟩:=c;simp only at t;subst t;unfold mA at n;split at n;{rename_i fn U;simp only[aw,dm]at n;exact air B U n.1 n.2 v (W.1 g) C h};cases n};cases m};{rename_i c g xs;split at m;{rename_i F t;simp at m;obtain⟨⟨rfl,n⟩,v⟩:=m;obtain⟨K,args,S⟩:=c;simp only at t;subst t;unfold mA at n;split at n;{rename_i fn U;simp only[aw,dm]at n;exact ant B U n.1 n.2 v (W.1 g) C h};cases n};cases m};{exact agv B (.inl rfl) m C h};{exact agv B (.inr rfl) m C h};{rename_i c d a b;split at m;{rename_i F x y t H;simp at m;obtain⟨⟨⟨⟨rfl,hn⟩,n⟩,v⟩,p⟩:=m;obtain⟨K,args,S⟩:=c;simp only at t H;subst t;(have R:args=#[x,y]:=by rw[<- H]);subst R;unfold mA at n;split at n;{rename_i fn U;simp only[aw,dm]at n;exact ari B U n.1 n.2 (W.2.1 hn) v p C h};cases n};cases m};{rename_i c d k a b;split at m;{rename_i x y T T' t H Y;simp at m;obtain⟨⟨n,v⟩,p⟩:=m;obtain⟨K,args,S⟩:=c;simp only at t H Y;subst t;(have R:args=#[x,y]:=by rw[<- H]);(have et:S=#[T,T']:=by rw[<- Y]);subst R et;split at p;{rename_i l Q;simp at p;exact anv B Q p n v C h};cases p};cases m};{rename_i c nd g G a b;split at m;{rename_i F x y t H;simp at m;obtain⟨⟨⟨⟨⟨rfl,hn⟩,n⟩,hG,L⟩,v⟩,p⟩:=m;subst hG;obtain⟨K,args,S⟩:=c;simp only at t H;subst t;(have R:args=#[x,y]:=by rw[<- H]);subst R;unfold mA at n;split at n;{rename_i fn U;simp only[aw,dm]at n;unfold mA at L;split at L;{rename_i fn' aqN;simp only[aw,dm]at L;exact anu B U n.1 n.2 v p (λa r o e=>W.2.2.2 nd hn w0 io (num g) fn' (cf g) aqN L.1 L.2 (λa r o e=>W.1 g a r o e) a r o e) C h};cases L};cases n};cases m};cases m
theorem q_{ops}(n:Inv γ h0 io w0 s f w){j g want}(a:Rz N ops (Z (j,want)) (Z (g,want))=I):(∀b,s.get g=.d (.bool b)->b=want->qU N ops f (Z (j,want)))/\(∀b,s.get g=.d (.bool b)->b≠want->jS N ops f (Z (j,want)))/\(s.get g=.wq->jS N ops f (Z (j,want))):=by simp only[Rz,aw]at a;obtain⟨_,a⟩:=a;split at a;{rename_i o m;simp only[aw,beq_iff_eq]at a;(have h:(ops[j]?).bind (·.dst)=Z g:=by rw[m];exact a.1);have c:=n.get g;refine⟨λb i k=>?_,λb i k=>?_,λl=>?_⟩;{rw[i]at c;have e:=tK c;subst k;exact wy e h a.2};{rw[i]at c;have e:=tK c;(have:b=!want:=by cases b<;>simp_all);rw[this]at e;exact wx e h a.2};rw[l]at c;simp[CR]at c;exact wu c h a.2};cases a
def zz(a:Nat->Nat)(h0:Nat->Nat)(io:M Nat)(w0:World)(s:St)(f:Fm)(w:World):Prop:=∃γ,Inv γ h0 io w0 s f w/\∀b,900<=b->γ.β b=a b
variable {β0:Nat->Nat}
theorem zz.ey(h:zz β0 h0 io w0 s f w)b:zz β0 h0 io w0 (s.ey b) f w:=by obtain⟨γ,e,g⟩:=h;exact⟨γ,e.sub (λd c a=>s6 _ _ d c a) (λd c a=>s6 _ _ d c a) (λd c a=>s6 _ _ d c a),g⟩
theorem BA{d o}(a:D4 cf mf s d o=Z s'):(o.ql=I/\∃c,jw s o=Z c/\s'=s.put d c)\/(o.ql=J/\nG cf mf s d o=Z s'):=by unfold D4 at a;split at a;simp at a;obtain⟨c,e,b⟩:=a;simp_all;simp_all
theorem td(o:Cts w0 io P num cf)(n:∀g W V q S U,mf g W V q=Z (S,U)->Eo w0 io P (num g) W V q S U){ops Kn}:∀(os) (is) {s s' f w},Xu P N num ops os is=I->nP cf mf is s=Z s'->zz β0 h0 io w0 s f w->(∀Q G,zz β0 h0 io w0 s' Q G->Kn Q G)->Ls P N ops Kn os f w
 |[],[],s,s',f,w,_,i,k,l=>by cases i;exact fF (l f w k)
 |[],_::_,_,_,_,_,h,_,_,_=>by simp[Xu]at h
 |_::_,[],_,_,_,_,h,_,_,_=>by simp[Xu]at h
 |⟨dst,op,ty,pos,aft,gd⟩::os,⟨d,Y,Re⟩::is,s,s',f,w,h,i,⟨γ,k,C⟩,l=>by simp[Xu,okI]at h;obtain⟨⟨⟨⟨rfl,hd⟩,p⟩,r⟩,t⟩:=h;simp[nP]at i;split at i;{rename_i T a;have go:qU N ops f gd->D4 cf mf s dst Y=Z T->Ls P N ops Kn (⟨dst,op,ty,pos,aft,gd⟩::os) f w:=by{intro B a;refine dF B ?_;rcases BA a with ⟨K,c,hc,rfl⟩|⟨K,hn⟩;{simp[K,aw]at r;obtain⟨d,rfl⟩:=cu.1 r.1;obtain⟨v,k1,k2⟩:=qm (dst:=Z d) (ty:=ty) (pos:=pos) (aft:=aft) (gd:=gd) k r.2 hc;exact cA (k2 w (λ_=>qT.refl _ _ _)) (td o n os is t i ⟨γ,k.put d c v k1,C⟩ l)};simp[K,if_false]at r;refine vZ o n k r hn λF Q G i' tr=>td o n os is t i ⟨F,i',λb mD=>?_⟩ l;rw[tr.β b (λe=>by rw[e]at hd;simp at hd;omega)];exact C b mD};have skip:jS N ops f gd->T=s.put dst .wq->Ls P N ops Kn (⟨dst,op,ty,pos,aft,gd⟩::os) f w:=by{intro B e;subst e;cases dst with|none=>{exact aeh B (td o n os is t i ⟨γ,k,C⟩ l)}|some d=>exact Co B (td o n os is t i ⟨γ,k.put d .wq undef (by simp[CR]),C⟩ l)};simp[wL]at a;cases Re with|none=>{cases gd with|none=>{exact go wn a}|some x=>simp[Rz]at p}|some x=>obtain⟨g,m⟩:=x;cases gd with|none=>{simp[Rz]at p}|some y=>obtain⟨j,A6⟩:=y;(have H:A6=m:=by simp[Rz]at p;exact p.1);subst H;obtain⟨g1,g2,g3⟩:=q_ k p;simp only at a;split at a;{rename_i b X;split at a;{rename_i R;exact go (g1 b X R) a};rename_i R;simp at a;exact skip (g2 b X R) a.symm};{rename_i L;simp at a;exact skip (g3 L) a.symm};cases a};cases i
theorem Inv.drew(a:Inv γ h0 io w0 s f w):Inv γ h0 io w0 s f w.drew:=
 a.YI (M:=λ_=>False) ⟨rfl,rfl,rfl,aH _,λ_ _ _=>rfl,λ_ _ _=>rfl,λ_ h=>h⟩ (λh=>h) (λ_ h=>h.elim) (λ_ h=>h.elim)
def Sq(a:Gh)(e:u Nat)(c d:World):Prop:=(∀g j,j<a.h g->d.cell? ⟨g,j,O⟩=c.cell? ⟨g,j,O⟩)/\∀b,e=Z b->d.heap[a.β b]?=c.heap[a.β b]?
def St.only(s:St)(a:u Nat):St:=⟨s.sl,jk s.bx a.toList,[]⟩
theorem Z9{d c g}(i:d.Rb=I)(e:rj s d=Z g)(a:jw s d=Z c):jw (s.only g) d=Z c:=by cases d<;>simp[KO.Rb]at i;rotate_left;{simp[rj]at e};rename_i n x;(have k:gF (s.only g) x=gF s x:=by cases x<;>rfl);simp[rj]at e;simp[jw,k]at a ⊢;split at e;{rename_i b o j;cases e;rw[j]at a ⊢;simp only at a ⊢;have:look (s.only (Z b)).bx b=look s.bx b:=by{simp[St.only,jk];cases h:look s.bx b<;>simp[look]};rw[this];exact a};{rename_i l j;rw[j]at a ⊢;exact a};cases e
theorem JD{a b cs}(h:look (s.only a).bx b=Z cs):a=Z b/\look s.bx b=Z cs:=by cases a with|none=>{simp[St.only,jk,look]at h}|some d=>simp[St.only,jk]at h;cases c:look s.bx d with|none=>{rw[c]at h;simp[look]at h}|some e=>rw[c]at h;simp only[look]at h;simp_all
def Tk(j:M (M Nat×(World->Prop)))(i:M (M Nat×Nat))(lst:Array Bool)(γ:Gh)(s:St)(w:World):Prop:=
 ∀p∈j,(∃m∈p.1,lst.getD m J=I)\/∃a c d,(∀e,Sq a d c e->p.2 e)/\Sq a d c w/\(∀g,a.h g<=γ.h g)/\∀b,d=Z b->γ.β b=a.β b/\(look s.bx b).isSome=I/\(p.1,b)∈i
theorem Tk.cons{a i lst}(h:Tk a i lst γ s w):Cons a lst w:=by intro p j l;rcases h p j with ⟨m,n,e⟩|⟨c,g,r,q,o,_⟩;{rw[l m n]at e;cases e};exact q w o
theorem Tk.quiet{B x lst}(h:Tk B x lst γ s w)i y g d c V(G:∀t,Sq γ g w t->V t)(F:∀b,g=Z b->(look s.bx b).isSome=I):
  Tk ((y,V)::B) (qq y x g) (lst.setIfInBounds i I) γ (s.put d c) w:=by (have r:(s.put d c).bx=s.bx:=by cases d<;>rfl);intro p o;rw[r];rcases aU.1 o with rfl|o;{refine .inr ⟨γ,w,g,G,⟨λ_ _ _=>rfl,λ_ _=>rfl⟩,λ_=>aH _,λb a=>⟨rfl,F b a,?_⟩⟩;subst a;simp[qq]};rcases h p o with ⟨m,C,e⟩|⟨j,l,n,L,K,H,q⟩;{exact .inl ⟨m,C,getD_set_true e⟩};refine .inr ⟨j,l,n,L,K,H,λb a=>⟨(q b a).1,(q b a).2.1,?_⟩⟩;have:=(q b a).2.2;cases g<;>simp[qq,this]
theorem Tk.OT{Q o lst}(h:Tk Q o lst γ s w){j}(W:j<lst.size)(Y:Inv γ h0 io w0 s f w){c B f' C dst X}(n:Tr dst X γ w c B f f')
  (y:∀p∈kC j o,(p.2∉X/\(look C.bx p.2).isSome=I)/\¬dst=Z p.2):Tk Q (kC j o) (lst.setIfInBounds j I) c C B:=by intro p U;rcases h p U with ⟨m,V,e⟩|⟨t,x,F,h1,K,H,r⟩;{exact .inl ⟨m,V,getD_set_true e⟩};by_cases l:j∈p.1;{refine .inl ⟨j,l,?_⟩;simp[W]};have q:∀b,F=Z b->(p.1,b)∈kC j o:=λb a=>by{simp[kC];exact⟨(r b a).2.2,by simpa using l⟩};refine .inr ⟨t,x,F,h1,⟨λg G L=>(n.YI.cell g G (bZ L (H g))).trans (K.1 g G L),λb a=>?_⟩,λg=>aS (H g) (n.h g),λb a=>⟨?_,(y _ (q b a)).1.2,q b a⟩⟩;{obtain⟨cs,Du⟩:=cu.1 (r b a).2.1;obtain⟨T,vs,S,k2,R⟩:=Y.bx b cs Du;rw[<- K.2 b a,<- (r b a).1];refine n.YI.block _ S.lt ?_;rw[R];rintro⟨i,C5,e|e⟩;{cases e;exact (y _ (q b a)).1.1 C5};cases e};rw[n.β b (y _ (q b a)).2];exact (r b a).1
theorem pS(mh:Cts w0 io P num cf)(ve:∀g ag ds q uL q',mf g ag ds q=Z (uL,q')->Eo w0 io P (num g) ag ds q uL q'){ops Kn}:
  ∀(is) {kp Cl lst tk γ s s' f w},Ry P N num ops is=I->iw cf mf kp is tk s=Z s'->lst.size=ops.size->Tk Cl tk lst γ s w->Inv γ h0 io w0 s f w->(∀b,900<=b->γ.β b=β0 b)->
   (∀S U B,s'=S.ey kp->zz β0 h0 io w0 S U B->Kn U B)->Dv P N ops Kn Cl is.Bb lst f w
 | .nil,kp,Cl,lst,tk,γ,s,s',f,w,_,i,_,_,m,H,hk=>by simp only[iw,bq]at i;exact ap4 (hk s f w i.symm ⟨γ,m,H⟩)
 | .op ⟨j,qt,al,L,⟨d,l,R⟩⟩ is,kp,Cl,lst,tk,γ,s,s',f,w,h,i,lS,ht,m,H,hk=>by
  simp only[Ry,aw]at h;obtain⟨h,vH⟩:=h;(have VU:(lst.setIfInBounds j I).size=ops.size:=by simpa using lS);split at h
  .rename_i o ho;have hjl:j<lst.size:=by rw[lS];exact (Array.getElem?_eq_some_iff.1 ho).1
   obtain⟨dst,op,ty,pos,aft,gd⟩:=o;simp only[aw,okI,beq_iff_eq,eY,dm,Option.isNone_iff_eq_none]at h;obtain⟨⟨⟨⟨⟨hdd,hd⟩,F⟩,K⟩,hqp⟩,hgd⟩:=h;subst hdd;cases qt with
   |true=>
    have hpu:l.ql=I:=by simpa using hqp
    simp only[hpu,if_true,aw]at K;obtain⟨d,rfl⟩:=cu.1 K.1;simp only[iw,if_true]at i;have go:∀c qb,jw s l=Z c->rj s l=Z qb->iw cf mf kp is (qq L tk qb) (s.put (Z d) c)=Z s'->qU N ops f gd->Dv P N ops Kn Cl (.op (KD.Bb ⟨j,I,al,L,⟨Z d,l,R⟩⟩) is.Bb) lst f w:=by
     intro c qb Q V i T;cases hld:l.Rb with
     |true=>
      have Jl:Inv γ h0 io w0 (s.only qb) f w:=m.sub (λ_ _ h=>h) (λd c hl=>(JD hl).2) (λd c hl=>by simp[St.only,look]at hl);obtain⟨v,k1,k2⟩:=qm (dst:=Z d) (ty:=ty) (pos:=pos) (aft:=aft) (gd:=gd) Jl K.2 (Z9 hld V Q);have al1:∀b,qb=Z b->(look s.bx b).isSome=I:=λb H=>by{subst H;cases l<;>simp[KO.Rb]at hld;rotate_left;{simp[rj]at V};rename_i n x;simp only[rj]at V;split at V;{rename_i b' o hx;cases V;simp only[jw,hx]at Q;cases hl:look s.bx b with|none=>{rw[hl]at Q;cases Q}|some cs=>rfl};{cases V};cases V}
      exact v_q rfl ho rfl T (Sq γ qb w) (λB hs=>k2 B (λ_=>⟨hs.1,λb cs hl=>hs.2 b (JD hl).1,λr x hl=>by simp[St.only,look]at hl⟩)) ⟨λ_ _ _=>rfl,λ_ _=>rfl⟩
       (pS mh ve is vH i VU (ht.quiet j L qb (Z d) c _ (λ_ h=>h) al1) (m.put d c v k1) H hk)
     |false=>
      have eqb:qb=O:=by{cases l<;>simp[KO.Rb]at hld<;>simpa [rj] using V.symm}
      subst eqb;obtain⟨v,k1,k2⟩:=qm (dst:=Z d) (ty:=ty) (pos:=pos) (aft:=aft) (gd:=gd) m K.2 Q;exact v_q rfl ho rfl T (λ_=>True) (λB _=>k2 B (λh=>by rw[hld]at h;cases h)) trivial
       (pS mh ve is vH i VU (ht.quiet j L O (Z d) c _ (λ_ _=>trivial) (λb H=>by cases H)) (m.put d c v k1) H hk)
    (have skip:iw cf mf kp is tk (s.put (Z d) .wq)=Z s'->jS N ops f gd->Dv P N ops Kn Cl (.op (KD.Bb ⟨j,I,al,L,⟨Z d,l,R⟩⟩) is.Bb) lst f w:=by{exact λi T=>akp rfl ho T (pS mh ve is vH i VU (ht.quiet j L O (Z d) .wq _ (λ_ _=>trivial) (λb H=>by cases H)) (m.put d .wq undef (by simp only[CR])) H hk)});cases R with|none=>{cases gd with|some x=>{simp[Rz]at F}|none=>simp only at i;split at i;{rename_i c b Q V;exact go c b Q V i wn};cases i}|some x=>obtain⟨g,C⟩:=x;cases gd with|none=>{simp[Rz]at F}|some y=>obtain⟨j',A6⟩:=y;(have W:A6=C:=by simp[Rz]at F;exact F.1);subst W;obtain⟨g1,g2,g3⟩:=q_ m F;simp only at i;split at i;{rename_i b Jk;split at i;{rename_i K2;split at i;{rename_i c b' Q V;exact go c b' Q V i (g1 b Jk K2)};cases i};rename_i K2;exact skip i (g2 b Jk K2)};{rename_i hgu;exact skip i (g3 hgu)};cases i
   |false=>simp only[iw,nE,aQ,if_false]at i;split at i;{rename_i S k;split at i;{rename_i ko;have Ra:∀p∈kC j tk,(p.2∉gr s dst l/\(look S.bx p.2).isSome=I)/\¬dst=Z p.2:=λp Y=>by{have:=bF.1 ko p Y;simpa using this};(have next:∀G U B,Inv G h0 io w0 S U B->Tr dst (gr s dst l) γ w G B f U->Cons Cl (lst.setIfInBounds j I) B/\Dv P N ops Kn Cl is.Bb (lst.setIfInBounds j I) U B:=by{intro G U B i' tr;have X:=ht.OT hjl m tr Ra;refine⟨X.cons,pS mh ve is vH i VU X i' (λb mD=>?_) hk⟩;rw[tr.β b (λe=>by rw[e]at hd;simp at hd;omega)];exact H b mD});have go:qU N ops f gd->D4 cf mf s dst l=Z S->Dv P N ops Kn Cl (.op (KD.Bb ⟨j,J,al,L,⟨dst,l,R⟩⟩) is.Bb) lst f w:=by{intro T k;refine ato rfl ho T ?_;rcases BA k with ⟨Y,c,Q,rfl⟩|⟨Y,hn⟩;{simp only[Y,if_true,aw]at K;obtain⟨d,rfl⟩:=cu.1 K.1;obtain⟨v,k1,k2⟩:=qm (dst:=Z d) (ty:=ty) (pos:=pos) (aft:=aft) (gd:=gd) m K.2 Q;exact cA (k2 w (λ_=>qT.refl _ _ _)) (next γ _ w (m.put d c v k1) ⟨Bg.refl _ _ _,λ_ _=>rfl,λ_=>aH _,.put⟩)};simp only[Y,aQ,if_false]at K;exact vZ mh ve m K hn next};have skip:jS N ops f gd->dst.isSome=I->S=s.put dst .wq->Dv P N ops Kn Cl (.op (KD.Bb ⟨j,J,al,L,⟨dst,l,R⟩⟩) is.Bb) lst f w:=by{intro T t e;subst e;obtain⟨d,rfl⟩:=cu.1 t;(have nx:=next γ _ w (m.put d .wq undef (by simp only[CR])) ⟨Bg.refl _ _ _,λ_ _=>rfl,λ_=>aH _,.put⟩);exact afS rfl ho T nx.1 nx.2};simp only[wL]at k;cases R with|none=>{cases gd with|none=>{exact go wn k}|some x=>simp[Rz]at F}|some x=>obtain⟨g,C⟩:=x;(have t:dst.isSome=I:=by rcases hgd with h|h;cases h;exact h);cases gd with|none=>{simp[Rz]at F}|some y=>obtain⟨j',A6⟩:=y;(have W:A6=C:=by simp[Rz]at F;exact F.1);subst W;obtain⟨g1,g2,g3⟩:=q_ m F;simp only at k;split at k;{rename_i b Jk;split at k;{rename_i K2;exact go (g1 b Jk K2) k};rename_i K2;simp at k;exact skip (g2 b Jk K2) t k.symm};{rename_i hgu;simp at k;exact skip (g3 hgu) t k.symm};cases k};cases i};cases i
  cases h
 | .alt ⟨j,qt,al,L,⟨d,l,R⟩⟩ is r,kp,Cl,lst,tk,γ,s,s',f,w,h,i,lS,ht,m,H,hk=>by simp only[Ry,aw]at h;obtain⟨⟨h,vH⟩,hr⟩:=h;(have VU:(lst.setIfInBounds j I).size=ops.size:=by simpa using lS);have hee:nE cf mf ⟨j,qt,al,L,⟨d,l,R⟩⟩ tk s (iw cf mf kp is)=Z s'/\iw cf mf kp r tk s=Z s':=by{simp only[iw,both]at i;split at i;{rename_i a b ha mD;split at i;{rename_i hab;subst hab;cases i;exact⟨ha,mD⟩};cases i};cases i};obtain⟨i,her⟩:=hee;split at h;{rename_i o ho;(have hjl:j<lst.size:=by rw[lS];exact (Array.getElem?_eq_some_iff.1 ho).1);obtain⟨dst,op,ty,pos,aft,gd⟩:=o;simp only[aw,okI,beq_iff_eq,dm,Option.isNone_iff_eq_none,eY]at h;obtain⟨⟨⟨⟨⟨hdd,hd⟩,F⟩,K⟩,hqp⟩,hgd⟩:=h;subst hdd;simp only[nE]at i;split at i;{rename_i S k;split at i;{rename_i ko;have Ra:∀p∈kC j tk,(p.2∉gr s dst l/\(look S.bx p.2).isSome=I)/\¬dst=Z p.2:=λp Y=>by{have:=bF.1 ko p Y;simpa using this};(have next:∀G U B,Inv G h0 io w0 S U B->Tr dst (gr s dst l) γ w G B f U->Cons Cl (lst.setIfInBounds j I) B/\Dv P N ops Kn Cl is.Bb (lst.setIfInBounds j I) U B:=by{intro G U B i' tr;have X:=ht.OT hjl m tr Ra;refine⟨X.cons,pS mh ve is vH i VU X i' (λb mD=>?_) hk⟩;rw[tr.β b (λe=>by rw[e]at hd;simp at hd;omega)];exact H b mD});have rest:=pS mh ve r hr her lS ht m H hk;have go:qU N ops f gd->D4 cf mf s dst l=Z S->Dv P N ops Kn Cl (.alt (KD.Bb ⟨j,qt,al,L,⟨dst,l,R⟩⟩) is.Bb r.Bb) lst f w:=by{intro T k;refine ap3 (e:=KD.Bb ⟨j,qt,al,L,⟨dst,l,R⟩⟩) ho T ?_ rest;rcases BA k with ⟨Y,c,Q,rfl⟩|⟨Y,hn⟩;{simp only[Y,if_true,aw]at K;obtain⟨d,rfl⟩:=cu.1 K.1;obtain⟨v,k1,k2⟩:=qm (dst:=Z d) (ty:=ty) (pos:=pos) (aft:=aft) (gd:=gd) m K.2 Q;exact cA (k2 w (λ_=>qT.refl _ _ _)) (next γ _ w (m.put d c v k1) ⟨Bg.refl _ _ _,λ_ _=>rfl,λ_=>aH _,.put⟩)};simp only[Y,aQ,if_false]at K;exact vZ mh ve m K hn next};have skip:jS N ops f gd->dst.isSome=I->S=s.put dst .wq->Dv P N ops Kn Cl (.alt (KD.Bb ⟨j,qt,al,L,⟨dst,l,R⟩⟩) is.Bb r.Bb) lst f w:=by{intro T t e;subst e;obtain⟨d,rfl⟩:=cu.1 t;(have nx:=next γ _ w (m.put d .wq undef (by simp only[CR])) ⟨Bg.refl _ _ _,λ_ _=>rfl,λ_=>aH _,.put⟩);exact ako (e:=KD.Bb ⟨j,qt,al,L,⟨Z d,l,R⟩⟩) ho T nx.1 nx.2 rest};simp only[wL]at k;cases R with|none=>{cases gd with|none=>{exact go wn k}|some x=>simp[Rz]at F}|some x=>obtain⟨g,C⟩:=x;(have t:dst.isSome=I:=by rcases hgd with h|h;cases h;exact h);cases gd with|none=>{simp[Rz]at F}|some y=>obtain⟨j',A6⟩:=y;(have W:A6=C:=by simp[Rz]at F;exact F.1);subst W;obtain⟨g1,g2,g3⟩:=q_ m F;simp only at k;split at k;{rename_i b Jk;split at k;{rename_i K2;exact go (g1 b Jk K2) k};rename_i K2;simp at k;exact skip (g2 b Jk K2) t k.symm};{rename_i hgu;simp at k;exact skip (g3 hgu) t k.symm};cases k};cases i};cases i};cases h
theorem gz(G:P.follows .mixedOrders=I)(F:Cts w0 io P num cf)(C:∀g ag ds q uL q',mf g ag ds q=Z (uL,q')->Eo w0 io P (num g) ag ds q uL q')n:∀(k) (c) {s f w e s'},vf P N num k c=I->jG cf mf n k s=Z (e,s')->zz β0 h0 io w0 s f w->
  W P N c (λf w=>e=.norm/\zz β0 h0 io w0 s' f w) (λi f w=>e=.exit i/\zz β0 h0 io w0 s' f w) (λf w=>e=.ret/\zz β0 h0 io w0 s' f w) f w
 | .skip,c,s,f,w,e,s',v,h,B=>by cases c<;>simp[vf]at v;cases h;exact qv ⟨rfl,B⟩
 | .Uz X kp,c,s,f,w,e,s',v,h,B=>by cases c with|region id ops draw=>{cases draw with|true=>{simp[vf]at v}|false=>simp only[vf]at v;simp only[jG]at h;split at h;{rename_i R H;cases h;have hl:=td (Kn:=λf w=>Ex.norm=.norm/\zz β0 h0 io w0 (R.ey kp) f w) F C ops.toList X v H B (λf' w' V=>⟨rfl,V.ey kp⟩);obtain⟨l⟩:=ops;exact cY (l:=l) hl};cases h}|skip=>{cases X with|nil=>{cases h;exact qv ⟨rfl,B.ey kp⟩}|cons i X=>simp[vf]at v}|_=>simp[vf]at v
 | .ZH X kp,c,s,f,w,e,s',v,h,⟨γ,B,L⟩=>by cases c with|region id ops draw=>{cases draw with|false=>{simp[vf]at v}|true=>simp only[vf,aw,beq_iff_eq]at v;obtain⟨⟨⟨H,h2⟩,h3⟩,h4⟩:=v;simp only[jG]at h;split at h;{rename_i R h5;simp at h;obtain⟨rfl,rfl⟩:=h;have hd:=pS (P:=P) (N:=N) (num:=num) (ops:=ops) (β0:=β0) (Kn:=λf w=>Ex.norm=.norm/\zz β0 h0 io w0 R f w) (Cl:=[]) (lst:=qw ops.size J) (tk:=[]) F C X H h5 (by simp) (λp hp=>by simp at hp) B.drew L (λs2 f' w' e V=>⟨rfl,by rw[e];exact V.ey kp⟩);obtain⟨l⟩:=ops;exact afT (l:=l) X.Bb G h2 h3 h4 hd};cases h}|_=>simp[vf]at v
 | .seq a b,c,s,f,w,e,s',v,h,B=>by cases c with|seq Q cb=>{simp only[vf,aw]at v;simp only[jG]at h;refine fi ?_;split at h;{rename_i R H;refine sv (gz G F C n a Q v.1 H B) (λf w o=>gz G F C n b cb v.2 h o.2) (λi f w o=>?_) (λf w o=>?_);{cases o.1};cases o.1};rename_i S;refine sv (gz G F C n a Q v.1 h B) (λf w o=>?_) (λi f w o=>o) (λf w o=>o);obtain⟨rfl,_⟩:=o;exact absurd h (S s')}|_=>obtain⟨d,L,v⟩:∃d,b=.DV d .skip/\vf P N num a _=I:=by{cases b with|DV d U=>{cases U with|skip=>{exact⟨d,rfl,by simpa [vf] using v⟩}|_=>simp[vf]at v}|_=>simp[vf]at v};subst L;simp only[jG]at h;split at h;{rename_i R H;split at h;{rename_i s2 h2;cases h;refine sv (gz G F C n a _ v H B) (λf w o=>⟨rfl,?_⟩) (λi f w o=>by cases o.1) (λf w o=>by cases o.1);obtain⟨γ,i2,b2⟩:=o.2;obtain⟨K,Y,U,_⟩:=i2.sI h2;exact⟨K,Y,λb mD=>by rw[U];exact b2 b mD⟩};cases h};rename_i S;refine sv (gz G F C n a _ v h B) (λf w o=>?_) (λi f w o=>o) (λf w o=>o);obtain⟨rfl,_⟩:=o;exact absurd h (S s')
 | .cond x a b,c,s,f,w,e,s',v,h,B=>by cases c with|cond y Q cb=>{simp only[vf,aw]at v;obtain⟨⟨H,h2⟩,h3⟩:=v;simp only[jG]at h;obtain⟨γ,V,L⟩:=B;have hv:=cU V H;split at h;{rename_i t ht;rw[ht]at hv;have hv:=tK hv;cases t with|true=>{exact uE hv (gz G F C n a Q h2 (by simpa using h) ⟨γ,V,L⟩)}|false=>exact su hv (gz G F C n b cb h3 (by simpa using h) ⟨γ,V,L⟩)};cases h}|_=>simp[vf]at v
 | .block i a,c,s,f,w,e,s',v,h,B=>by cases c with|block j Q=>{simp only[vf,aw,beq_iff_eq]at v;obtain⟨rfl,v⟩:=v;simp only[jG]at h;refine pE ?_;split at h;{rename_i Y R H;refine sv (gz G F C n a Q v H B) (λf w o=>by cases o.1) (λq f w o=>?_) (λf w o=>by cases o.1);obtain⟨e1,o⟩:=o;cases e1;split at h;{rename_i T;cases h;rw[if_pos T];exact⟨rfl,o⟩};rename_i T;cases h;rw[if_neg T];exact⟨rfl,o⟩};rename_i S;refine sv (gz G F C n a Q v h B) (λf w o=>o) (λq f w o=>?_) (λf w o=>o);obtain⟨rfl,_⟩:=o;exact absurd h (S q s')}|_=>simp[vf]at v
 | .loop a,c,s,f,w,e,s',v,h,B=>by cases c with|loop Q=>{simp only[vf]at v;simp only[jG]at h;refine HH (λm f w=>∃s,zz β0 h0 io w0 s f w/\iter (jG cf mf n a) m s=Z (e,s')) n ⟨s,B,h⟩ ?_;rintro m f w ⟨s,B,h⟩;cases m with|zero=>{simp[iter]at h}|succ m=>simp only[iter]at h;split at h;{rename_i R H;refine sv (gz G F C n a Q v H B) (λf w o=>⟨m,by omega,R,o.2,h⟩) (λi f w o=>by cases o.1) (λf w o=>by cases o.1)};rename_i S;refine sv (gz G F C n a Q v h B) (λf w o=>?_) (λi f w o=>o) (λf w o=>o);obtain⟨rfl,_⟩:=o;exact absurd h (S s')}|_=>simp[vf]at v
 | .exit i,c,s,f,w,e,s',v,h,B=>by cases c<;>simp[vf]at v;subst v;cases h;exact HG ⟨rfl,B⟩
 | .ret,c,s,f,w,e,s',v,h,B=>by cases c<;>simp[vf]at v;cases h;exact wv ⟨rfl,B⟩
 | .share r a,c,s,f,w,e,s',v,h,⟨γ,B,L⟩=>by have vG:vf P N num a c=I:=by{cases c<;>simpa [vf] using v};simp only[jG]at h;obtain⟨K,Y,U,_⟩:=B.zf [r];exact gz G F C n a c vG h ⟨K,Y,λb mD=>by rw[U];exact L b mD⟩
 | .DV d a,c,s,f,w,e,s',v,h,⟨γ,B,L⟩=>by have vG:vf P N num a c=I:=by{cases c<;>simpa [vf] using v};simp only[jG]at h;split at h;{rename_i R VR;obtain⟨K,Y,U,_⟩:=B.sI VR;exact gz G F C n a c vG h ⟨K,Y,λb mD=>by rw[U];exact L b mD⟩};cases h
end
end
section
open Go.RowKit
def O1(P:Program)(N:Nat):ResultVar->KR->Bool
 | .tmp t,.t d=>t ==d && eP t N
 | .tmp t,.b d=>t ==d && eP t N
 | .cell a T,.c d n=>a ==d && eP a N && (if n=0 then Kf P T ==Z J else Kf P T ==Z I && qo P T ==Z n)
 |_,_=>J
def L4(P:Program)(N:Nat):M ResultVar->M KR->Bool
 |[],[]=>I
 |r::rs,k::a=>O1 P N r k && L4 P N rs a
 |_,_=>J
def okF(P:Program)(num:Nat->FuncId)(f:Nat)(a:KF):Bool:=
 match P.funcs[num f]? with
 |some fn=>match fn.body with
  |some c=>vf P fn.ntmps num a.body c && jZ a.np fn.ntmps && L4 P fn.ntmps fn.results.toList a.res
  |none=>J
 |none=>J
def sn(tmps:Array Value):ResultVar->Sem Value
 | .tmp t=>pure (tmps.getD t undef)
 | .cell a t=>do loadVar t (<- asAddr (tmps.getD a undef))
section
variable {P:Program} {γ:Gh} {h0:Nat->Nat} {io:M Nat} {w0:World} {s s':St} {f:Fm} {w:World} {N:Nat} {num:Nat->FuncId}
theorem acg(m:Inv γ h0 io w0 s f w){D kr a l}(k:O1 P N D kr=I)(j:Hd s kr=Z (a,l)):
  ∃i F,(sn (fr f N).tmps D).run P w=.ok i w/\AR γ.h w a i F/\(∀g∈F,∃r∈l,γ.ω g=.row r)/\(l.Nodup->F.Nodup):=by cases D with|tmp t=>{cases kr with|c d n=>{simp[O1]at k}|b d=>{simp[Hd]at j}|t d=>simp[O1,beq_iff_eq]at k;obtain⟨rfl,K⟩:=k;(have C:t<N:=by simpa using K);simp[Hd,cH]at j;obtain⟨vs,W,rfl,rfl⟩:=j;obtain⟨k1,k2,Y⟩:=(m.get t).cells (US W);obtain⟨F,x,q,p⟩:=zk m _ k1 W;refine⟨f t,F,by simp[sn,fr,C],?_,q,p⟩;simp[AR];refine⟨_,x,λQ=>?_,λQ=>by rw[k2 Q]⟩;obtain⟨us,e⟩:=Y Q;rw[e];simp[Value.cells]}|cell a0 T=>cases kr with|t d=>{simp[O1]at k}|b d=>{simp[O1]at k}|c d n=>simp[O1,beq_iff_eq]at k;obtain⟨⟨rfl,K⟩,y⟩:=k;(have C:a0<N:=by simpa using K);simp[Hd]at j;split at j;{rename_i b hb;have A:=m.get a0;rw[hb]at A;simp[CR]at A;split at j;{rename_i cs hl;obtain⟨T',vs,h1,B,h3⟩:=m.bx b cs hl;have R:j5 w (γ.β b) 0 vs:=h1.Xh;split at j;{rename_i L;subst L;simp at y;split at j;{rename_i c;simp at j;obtain⟨X,G,rfl,rfl⟩:=j;obtain⟨F,x,q,p⟩:=zk m _ B G;have V:=B.length;obtain⟨v,rfl⟩:=dd.1 V;have S:=R 0 v rfl;simp at S;refine⟨v,F,?_,?_,q,p⟩;{simp[sn,fr,C,A,asAddr,loadVar,tm y,S]};simp only[AR];exact⟨[v],x,λh=>by simp at h,λ_=>rfl⟩};cases j};rename_i L;simp[if_neg L,beq_iff_eq]at y;split at j;{rename_i vE;simp at j;obtain⟨X,G,rfl,rfl⟩:=j;obtain⟨F,x,q,p⟩:=zk m _ B G;have V:=B.length;have U:=run_loadCellsFrom (P:=P) (w:=w) (b:=γ.β b) (o:=0) vs 0 #[] (by simpa using R);(have H:vs.length=n:=by omega);rw[H]at U;refine⟨.agg vs.toArray,F,?_,?_,q,p⟩;{simp[sn,fr,C,A,asAddr,loadVar,tm y.1,run_sizeOf y.2,loadCells,U]};simp only[AR];exact⟨vs,x,λ_=>rfl,λh=>by simp at h⟩};cases j};cases j};cases j
theorem JS(t:Inv γ h0 io w0 s f w):∀(d) (i) {as l},L4 P N d i=I->AO s i=Z (as,l)->
  ∃k F,(d.mapM (sn (fr f N).tmps)).run P w=.ok k w/\ly γ.h w as k F/\(∀g∈F,∃r∈l,γ.ω g=.row r)/\(l.Nodup->F.Nodup)
 |[],[],as,l,_,j=>by cases j;exact⟨[],[],by simp,by simp[ly],λ_ h=>by simp at h,λ_=>by simp⟩
 |[],_::_,_,_,h,_=>by simp[L4]at h
 |_::_,[],_,_,h,_=>by simp[L4]at h
 |T::d,kr::i,as,l,h,j=>by simp[L4]at h;simp[AO]at j;split at j;{rename_i a V S;simp only[aC]at j;obtain⟨⟨W,U⟩,R,Q⟩:=j;cases Q;obtain⟨c,y,G,C,y1,A⟩:=acg t h.1 S;obtain⟨k,x,D,B,y2,z2⟩:=JS t d i h.2 R;refine⟨c::k,y++x,by simp[G,D],?_,λg n=>?_,λp=>?_⟩;{simp;exact⟨c,k,y,x,rfl,rfl,C,B⟩};{rcases aX.1 n with n|n;{obtain⟨r,m,o⟩:=y1 g n;exact⟨r,by simp[m],o⟩};obtain⟨r,m,o⟩:=y2 g n;exact⟨r,by simp[m],o⟩};rw[cD]at p;rw[cD];refine⟨A p.1,z2 p.2.1,?_⟩;intro a L b K e;subst e;obtain⟨r,m,o⟩:=y1 a L;obtain⟨q,H,v⟩:=y2 a K;rw[o]at v;cases v;exact p.2.2 r m r H rfl};cases j
theorem Rk(k:Inv γ h0 io w0 s f w){c e args rs outs}(d:L4 P N c e=I)(a:yS e args s=Z (rs,outs)):
  ∃j F,(c.mapM (sn (fr f N).tmps)).run P w=.ok j w/\ly γ.h w rs j F/\(∀g∈F,γ.ω g≠.free)/\F.Nodup/\outs=[]/\args.all A.isVal=I:=by unfold yS at a;split at a;{split at a;{rename_i x;split at a;{rename_i b C;split at a;{rename_i K B;split at a;{rename_i p;simp at a;obtain⟨vs,L,rfl,rfl⟩:=a;match c,d with|[.tmp t],d=>{simp only[L4,O1,aw,beq_iff_eq]at d;obtain⟨⟨rfl,y⟩,_⟩:=d;(have H:t<N:=by simpa using y);have m:=k.get t;rw[C]at m;simp[CR]at m;obtain⟨T,j,G,D,n⟩:=k.bx b K B;obtain⟨F,v,o,q⟩:=zk k _ D L;rw[uu]at p;refine⟨[f t],γ.β b::F,by simp[sn,fr,H],?_,?_,?_,rfl,x⟩;{simp only[ly];exact⟨_,[],γ.β b::F,[],rfl,by simp,⟨_,T,j,F,m,G,k.nJ _ _ n,rfl,v⟩,rfl,rfl⟩};{intro g i;rcases aU.1 i with rfl|i;{rw[n];simp};obtain⟨r,_,l⟩:=o g i;rw[l];simp};refine cW.2 ⟨λi=>?_,q p⟩;obtain⟨r,_,l⟩:=o _ i;rw[n]at l;cases l}|_::_::_,d=>simp[L4]at d};cases a};cases a};cases a};cases a};cases a
theorem O3:∀{args vs},args.all A.isVal=I->fx args vs=[]
 |[],_,_=>by simp[fx]
 | .val _ _::as,[],_=>by simp[fx]
 | .val _ _::as,v::vs,h=>by rw[dt,aw]at h;simp[fx];exact O3 h.2
 | .box _::_,_,h=>by simp[A.isVal]at h
theorem Cy(x:Inv γ h0 io w0 s f w){Y h1}:∀(as) {vs K} (p) {outs l},xX s p as=Z (outs,l)->ly h1 Y as vs K->(∀i G g,as[i]?=Z (.box G)->vs[i]?=Z (.pointer (Z ⟨g,0,O⟩))->γ.β (900+(p+i))=g)->
  ∃F,ly γ.h w outs (fx as vs) F/\(∀g∈F,(∃r∈l,γ.ω g=.row r)\/∃i,p<=i/\γ.ω g=.box (900+i))/\(l.Nodup->F.Nodup)
 |[],vs,K,p,outs,l,j,m,_=>by cases j;exact⟨[],by simp[ly,fx],λ_ h=>by simp at h,λ_=>by simp⟩
 | .val ag G::as,vs,K,p,outs,l,j,m,H=>by obtain⟨v,fq,F1,F2,rfl,rfl,_,m⟩:=m;simp only[xX,Xx,aC]at j;obtain⟨⟨l',r'⟩,S,C⟩:=j;simp at C;obtain⟨rfl,rfl⟩:=C;obtain⟨F,Q,o,L⟩:=Cy x as (p+1) S m (λi R g c d=>by rw[show p+1+i=p+(i+1) from by omega];exact H (i+1) R g (by simpa using c) (by simpa using d));refine⟨F,by simpa only [fx] using Q,λg k=>?_,L⟩;rcases o g k with h|⟨i,c,d⟩;{exact .inl h};exact .inr ⟨i,by omega,d⟩
 | .box G::as,vs,K,p,outs,l,j,m,H=>by obtain⟨v,fq,F1,F2,rfl,rfl,⟨D,T0,us0,F0',rfl,_⟩,m⟩:=m;simp[xX,Xx]at j;split at j;{rename_i l1 r1 B;split at B;{rename_i Yb hl;simp at B;obtain⟨rs,rT,rfl,rfl⟩:=B;simp only[aC]at j;obtain⟨⟨l',r'⟩,S,C⟩:=j;cases C;have y:=H 0 G D rfl rfl;rw[dY]at y;obtain⟨T,us,W,k2,n⟩:=x.bx (900+p) Yb hl;obtain⟨V,y1,y2,y3⟩:=zk x _ k2 rT;obtain⟨F,Q,o,L⟩:=Cy x as (p+1) S m (λi R g c d=>by rw[show p+1+i=p+(i+1) from by omega];exact H (i+1) R g (by simpa using c) (by simpa using d));rw[y]at W n;refine⟨(D::V)++F,?_,λg k=>?_,λA=>?_⟩;{simp;refine⟨_,_,D::V,F,rfl,rfl,?_,Q⟩;simp only[AR];exact⟨D,T,us,V,rfl,W,x.nJ _ _ n,rfl,y1⟩};{rcases aX.1 k with k|k;{rcases aU.1 k with rfl|k;{exact .inr ⟨p,aH _,n⟩};obtain⟨r,t,c⟩:=y2 g k;exact .inl ⟨r,by simp[t],c⟩};rcases o g k with ⟨r,t,c⟩|⟨i,c,d⟩;{exact .inl ⟨r,by simp[t],c⟩};exact .inr ⟨i,by omega,d⟩};rw[cD]at A;rw[cD];refine⟨cW.2 ⟨λhm=>?_,y3 A.1⟩,L A.2.1,?_⟩;{obtain⟨r,_,c⟩:=y2 _ hm;rw[n]at c;cases c};intro a U b X e;subst e;rcases aU.1 U with rfl|U;{rcases o _ X with ⟨r,_,c⟩|⟨i,c,d⟩;{rw[n]at c;cases c};rw[n]at d;simp at d;omega};obtain⟨r,t,c⟩:=y2 a U;rcases o a X with ⟨q,hq,d⟩|⟨i,_,d⟩;{rw[c]at d;cases d;exact A.2.2 r t r hq rfl};rw[c]at d;cases d};cases B};cases j
theorem Dc{fn us}(h:(fn.results.toList.mapM (sn (fr f N).tmps)).run P w=.ok us w):∃v,(results fn (fr f N).tmps).run P w=.ok v w/\U3 us v:=by
 have b:(fn.results.mapM (sn (fr f N).tmps)).run P w=.ok us.toArray w:=by{rw[Array.mapM_eq_mapM_toList];simp[h]}
 have e:results fn (fr f N).tmps=(do
   let vs <- fn.results.mapM (sn (fr f N).tmps)
   pure (if h:vs.size=1 then vs[0] else .tuple vs)):=by
  unfold results
  congr 1
 rw[e];simp only[Sem.run_bind,b,Sem.run_pure];by_cases a:us.length=1;{obtain⟨v,rfl⟩:=dd.1 a;exact⟨v,by simp,.inl rfl⟩};exact⟨.tuple us.toArray,by simp[a],.inr ⟨a,rfl⟩⟩
end
theorem VA{P num cf mf}(hm:P.follows .mixedOrders=I)(hj:YG P num)(mh:∀g a r o,cf g a=Z (r,o)->pL P (num g) a r o)(ve:∀g V U q R S,mf g V U q=Z (R,S)->Ql P (num g) V U q R S){n f T}(H:okF P num f T=I){args rs outs}(p:Iv cf mf n T args=Z (rs,outs)):pL P (num f) args rs outs:=by
  unfold Iv at p;split at p
  .rename_i hnp;unfold okF at H;split at H
   .rename_i fn Ah;split at H
    .rename_i c hc;simp[aw]at H;obtain⟨⟨L,al6⟩,K⟩:=H;intro w h vs F hL D jy gk fK;have MW:vs.length=args.length:=by{clear L al6 K p hnp jy gk hL;induction args generalizing vs F with|nil=>{simp[ly]at D;simp[D.1]}|cons a as ih=>obtain⟨v,fq,B,W,rfl,rfl,_,D⟩:=D;simp[ih _ _ D]}
     refine enter (N:=fn.ntmps) Ah hc rfl (by simp[MW,hnp];exact al6) ?_;have i0:Inv ⟨h,λ_=>0,λ_=>undef,λg=>if g∈F then .fI else .free⟩ h F w ⟨[],[],[]⟩ (λi=>vs.toArray.getD i undef) w:={
      sl:=λd c hl=>by simp[look]at hl
      bx:=λd c hl=>by simp[look]at hl
      rw:=λd c hl=>by simp[look]at hl
      own:=λg k=>by
       by_cases hF:g∈F
       .exact⟨gk g hF,.inr hF⟩
       .simp[hF]at k
      nJ:=λg b k=>by dsimp only at k;split at k<;>cases k
      fK:=fK,os:=rfl,tape:=rfl,output:=rfl,size:=aH _,frame:=λ_ _ _=>rfl,cell:=λ_ _ _ _=>rfl,mono:=λ_ _=>aH _,hold:=λ_ _ _=>rfl,jl:=λ_ h=>h }
     obtain⟨X,i1,e1,p1,x1⟩:=vw args 0 i0 D jy (λg k=>⟨.inr (by simp[k]),gk g k,.inr k⟩) (λi v hv=>by rw[bN];have:=(bn.1 hv);obtain⟨hil,hiv⟩:=this;simp[hil,hiv]);(have fin:∀s y m,leave T args s=Z (rs,outs)->zz X.β h F w s y m->∃v,(results fn (fr y fn.ntmps).tmps).run P m=.ok v m/\∃v' Q B W h',Ending.returned v=.returned v'/\U3 Q v'/\ly h' m rs Q B/\ly h' m outs (fx args vs) W/\(B++W).Nodup/\(∀g∈B++W,(w.heap.size<=g\/g∈F)/\g<m.heap.size)/\ye h F w m h':=by{intro s y m t ⟨γ,j,hb⟩;unfold leave at t;split at t;{rename_i He l outs' l' hr1 hr2;split at t;{rename_i hn;rw[uu]at hn;cases t;obtain⟨Q,B,k1,k2,Y,k4⟩:=JS j fn.results.toList T.res K hr1;obtain⟨W,y1,y2,y3⟩:=Cy j args 0 hr2 D (λi cs g A G=>by rw[hb _ (by omega)];exact x1 i cs g A G);obtain⟨v,z1,z2⟩:=Dc k1;rw[cD]at hn;refine⟨v,z1,v,Q,B,W,γ.h,rfl,z2,k2,y1,?_,λg k=>?_,⟨j.os,j.tape,j.output,j.size,j.frame,j.cell,j.mono,j.hold,j.fK,j.jl⟩⟩;{rw[cD];refine⟨k4 hn.1,y3 hn.2.1,?_⟩;intro a ha b mD e;subst e;obtain⟨r,hr,A⟩:=Y a ha;rcases y2 a mD with ⟨q,hq,G⟩|⟨i,_,G⟩;{rw[A]at G;cases G;exact hn.2.2 r hr r hq rfl};rw[A]at G;cases G};have iH:γ.ω g≠.free:=by{rcases aX.1 k with k|k;{obtain⟨r,_,A⟩:=Y g k;rw[A];simp};rcases y2 g k with ⟨r,_,A⟩|⟨i,_,A⟩<;>rw[A]<;>simp};exact⟨(j.own g iH).2,(j.own g iH).1⟩};cases t};obtain⟨Q,B,k1,k2,Y,k4,rfl,k5⟩:=Rk j K t;obtain⟨v,z1,z2⟩:=Dc k1;refine⟨v,z1,v,Q,B,[],γ.h,rfl,z2,k2,?_,by rw[aG];exact k4,λg k=>?_,⟨j.os,j.tape,j.output,j.size,j.frame,j.cell,j.mono,j.hold,j.fK,j.jl⟩⟩;{rw[O3 k5];simp[ly]};rw[aG]at k;exact⟨(j.own g (Y g k)).2,(j.own g (Y g k)).1⟩});split at p;{rename_i s C;refine sv (gz (β0:=X.β) hm ⟨λg a r o p=>(mh g a r o p).at_ hL,hj⟩ (λg V U q R S p=>(ve g V U q R S p).at_ hL) n T.body c L C ⟨X,i1,λ_ _=>rfl⟩) (λy m x=>fin s y m p x.2) (λi y m x=>by cases x.1) (λy m x=>by cases x.1)};{rename_i s C;refine sv (gz (β0:=X.β) hm ⟨λg a r o p=>(mh g a r o p).at_ hL,hj⟩ (λg V U q R S p=>(ve g V U q R S p).at_ hL) n T.body c L C ⟨X,i1,λ_ _=>rfl⟩) (λy m x=>by cases x.1) (λi y m x=>by cases x.1) (λy m x=>fin s y m p x.2)};cases p
    cases H
   cases H
  cases p
def OkK(P:Program)(num:Nat->FuncId)(f:Nat)(a:KF):Prop:=
 (a.np≠999->okF P num f a=I)/\(a.np=999->∀args b outs,XT f args=Z (b,outs)->pL P (num f) args b outs)
def OkK.of{P num f a}(h:okF P num f a=I)(c:eP a.np 999=I):OkK P num f a:=
 ⟨λ_=>h,λe=>by rw[e]at c;cases c⟩
def OkK.ext{P num f b r}(h:∀args a outs,XT f args=Z (a,outs)->pL P (num f) args a outs):OkK P num f ⟨999,b,r⟩:=
 ⟨λe=>absurd rfl e,λ_=>h⟩
theorem Bz{P num T}(k:P.follows .mixedOrders=I)(l:YG P num)(j:∀f d,T f=Z d->OkK P num f d):
  ∀n f args c outs,C1 T n f args=Z (c,outs)->pL P (num f) args c outs
 |0,f,args,c,outs,b=>by simp[C1]at b
 |n+1,f,args,c,outs,b=>by simp[C1]at b;split at b;{cases b};rename_i d e;split at b;{rename_i i;exact (j f d e).2 i args c outs b};rename_i i;exact VA k l (λg a r o=>Bz k l j n g a r o) (λg t s q m p h=>by cases h) ((j f d e).1 i) b
end
section
open Go.RowKit
inductive MC where
 |lst
 |ep (i o:Nat)
 |hd (i o:Nat)
 |sub (i o n:Nat)
 |non
def MC.abE:MC->MC
 | .sub _ _ _=>.non
 |c=>c
structure MS where
 s:St
 sp:List (Nat×MC)
 es:List (List D)
def MS.spx(m:MS):KX->u MC
 | .s d=>look m.sp d
 | .k _=>O
def MS.put(m:MS)(d:Nat)(c:C):MS:=⟨m.s.put (Z d) c,sy m.sp d,m.es⟩
def MS.RG(m:MS)(d:Nat)(c:MC):MS:=⟨m.s.put (Z d) .any,(d,c)::sy m.sp d,m.es⟩
def MS.set(m:MS)(i o:Nat)(a:M D):MS:=⟨m.s,m.sp,match nth m.es i with
 |some e=>m.es.set i (nM e o a)
 |none=>m.es⟩
def MS.abE(m:MS):MS:=⟨m.s,m.sp.map λp=>(p.1,p.2.abE),m.es⟩
def MS.ey(m:MS)(a:zA):MS:=⟨m.s.ey a,jk m.sp a.s,m.es⟩
def MS.at_(m:MS)(i o:Nat):u D:=match nth m.es i with
 |some e=>nth e o
 |none=>O
def abN:M C->u (M A)
 |[]=>Z []
 | .d x::cs=>if D.plain x then (abN cs).map (.val J [.d x]::·) else O
 |_=>O
section
variable (cf:Nat->M A->u (M A×M A)) (mf:Nat->Bool->M D->Int->u (M D×Int)) (own:Bool) (k:Nat)
def Vp(m:MS)(d f:Nat)(a:M KX):u MS:=
 match abN (a.map (gF m.s)) with
 |some as=>match cf f as with
  |some ([.val J [.d r]],[])=>if D.plain r then Z (m.put d (.d r)) else O
  |_=>O
 |none=>O
def Vo(m:MS)(d f:Nat)(c:MC)(y:C):u MS:=
 match c,y with
 | .hd i o,.d (.int .i64 q)=>match m.at_ i o with
  |some (.list k g es)=>match mf f J [.list k g es] q with
   |some ([b],a)=>Z ((m.set i o [b]).put d (.d (.int .i64 a)))
   |_=>O
  |_=>O
 | .sub i o n,.d (.int .i64 q)=>match nth m.es i with
  |some e=>match mf f I ((e.drop o).take n) q with
   |some (xs,a)=>if o+n<=e.length/\xs.length=n then Z ((m.set i o xs).put d (.d (.int .i64 a))) else O
   |none=>O
  |none=>O
 |_,_=>O
def QR(m:MS)(d:Nat):KO->u MS
 | .mv x=>match m.spx x with
  |some c=>Z (m.RG d c)
  |none=>Z (m.put d (gF m.s x))
 | .len x=>match m.spx x with
  |some .lst=>Z (m.put d (.d (.int .i64 m.es.length)))
  |_=>O
 | .ia a x y=>match m.spx x,gF m.s y with
  |some .lst,.d (.int .i64 n)=>if a=k/\0<=n/\n.toNat<m.es.length then Z (m.RG d (.ep n.toNat 0)) else O
  |_,_=>O
 | .fa o x=>match m.spx x with
  |some (.ep i p)=>Z (m.RG d (.ep i (p+o)))
  |_=>O
 | .ld n x=>match m.spx x with
  |some (.ep i o)=>if n=0 then (match m.at_ i o with
    |some (.list _ _ _)=>Z (m.RG d (.hd i o))
    |_=>O) else (match nth m.es i with
    |some e=>if o+n<=e.length then Z (m.RG d (.sub i o n)) else O
    |none=>O)
  |_=>O
 | .call f xs=>match xs with
  |[x,y]=>(match m.spx x with
   |some c=>Vo mf m d f c (gF m.s y)
   |none=>Vp cf m d f xs)
  |_=>Vp cf m d f xs
 |op=>if op.ql then (jw m.s op).map (m.put d) else O
def aqx(m:MS):KO->u MS
 | .st n x y=>match m.spx x,gF m.s y with
  |some (.ep i o),.d v=>match m.at_ i o with
   |some c=>if n=1/\own=I/\D.plain c=I/\D.plain v=I then Z (m.set i o [v]).abE else O
   |none=>O
  |_,_=>O
 |_=>O
def adG(m:MS)(i:KI):u MS:=
 match i.gd with
 |some _=>O
 |none=>match i.dst with
  |some d=>QR cf mf k m d i.op
  |none=>aqx own m i.op
def Ic:M KI->MS->u MS
 |[],m=>Z m
 |i::is,m=>match adG cf mf own k m i with
  |some a=>Ic is a
  |none=>O
def iterM(f:MS->u (Ex×MS)):Nat->MS->u (Ex×MS)
 |0,_=>O
 |n+1,s=>match f s with
  |some (.norm,a)=>iterM f n a
  |r=>r
def lr(n:Nat):K->MS->u (Ex×MS)
 | .skip,m=>Z (.norm,m)
 | .Uz ops f,m=>match Ic cf mf own k ops m with
  |some e=>Z (.norm,e.ey f)
  |none=>O
 | .seq a b,m=>match lr n a m with
  |some (.norm,e)=>lr n b e
  |r=>r
 | .cond c a b,m=>match gF m.s c with
  | .d (.bool t)=>if t then lr n a m else lr n b m
  |_=>O
 | .block id a,m=>match lr n a m with
  |some (.exit i,e)=>if i=id then Z (.norm,e) else Z (.exit i,e)
  |r=>r
 | .loop a,m=>iterM (lr n a) n m
 | .exit id,m=>Z (.exit id,m)
 | .ret,m=>Z (.ret,m)
 |_,_=>O
end
def Xy(r:Nat):u (Ex×MS)->u (M (M D)×Int)
 |some (.norm,m)=>(match m.s.get r with
  | .d (.int .i64 q)=>Z (m.es,q)
  |_=>O)
 |some (.ret,m)=>(match m.s.get r with
  | .d (.int .i64 q)=>Z (m.es,q)
  |_=>O)
 |_=>O
noncomputable def Te(T:Nat->u KF):Nat->Nat->Bool->M D->Int->u (M D×Int)
 |0,_,_,_,_=>O
 |n+1,f,h,cells,q=>match T f with
  |some ⟨2,body,[.t r]⟩=>
   if h then (match body with
    | .seq (.Uz (⟨Z b,.box (.s 0),O⟩::is) e) i=>
     (match Ic (C1 T n) (Te T n) J cells.length is (MS.RG ⟨⟨[(1,.d (.int .i64 q))],[],[]⟩,[],[cells]⟩ b (.ep 0 0)) with
     |some m=>(match Xy r (lr (C1 T n) (Te T n) J cells.length n i (m.ey e)) with
      |some ([Bo],a)=>Z (Bo,a)
      |_=>O)
     |none=>O)
    |_=>O)
   else (match cells with
    |[.list k g es]=>(match Xy r (lr (C1 T n) (Te T n) I k n body ⟨⟨[(1,.d (.int .i64 q))],[],[]⟩,[(0,.lst)],es⟩) with
     |some (c,a)=>Z ([.list k g c],a)
     |none=>O)
    |_=>O)
  |_=>O
theorem uK.length{w:World}:∀(a:M D) {vs:M Value} {b:M Fp},uK w a vs b->vs.length=a.length/\b.length=a.length
 |[],_,_,h=>by simp only[uK]at h;simp[h.1,h.2]
 |d::a,_,_,h=>by simp only[uK]at h;obtain⟨v,g,F,e,rfl,rfl,f,c⟩:=h;simp[uK.length a c]
theorem uK.append{w:World}:∀(a:M D) {es:M D} {vs c:M Value} {e Gs:M Fp},uK w a vs e->uK w es c Gs->uK w (a++es) (vs++c) (e++Gs)
 |[],_,_,_,_,_,h,b=>by simp only[uK]at h;obtain⟨rfl,rfl⟩:=h;simpa using b
 |d::a,_,_,_,_,_,h,b=>by simp only[uK]at h;obtain⟨v,j,F,i,rfl,rfl,g,f⟩:=h;simp only[av,uK];exact⟨v,_,F,_,rfl,rfl,g,uK.append a f b⟩
theorem uK.drop{w:World}:∀(a:M D) {vs:M Value} {b:M Fp} (n:Nat),uK w a vs b->uK w (a.drop n) (vs.drop n) (b.drop n)
 |_,_,_,0,h=>by simpa using h
 |[],_,_,n+1,h=>by simp only[uK]at h;simp[uK,h.1,h.2]
 |d::a,_,_,n+1,h=>by simp only[uK]at h;obtain⟨v,g,F,e,rfl,rfl,f,c⟩:=h;simpa using uK.drop a n c
theorem uK.take{w:World}:∀(a:M D) {vs:M Value} {b:M Fp} (n:Nat),uK w a vs b->uK w (a.take n) (vs.take n) (b.take n)
 |_,_,_,0,h=>by simp[uK]
 |[],_,_,n+1,h=>by simp only[uK]at h;simp[uK,h.1,h.2]
 |d::a,_,_,n+1,h=>by simp only[uK]at h;obtain⟨v,g,F,f,rfl,rfl,e,c⟩:=h;simp only[cy,uK];exact⟨v,_,F,_,rfl,rfl,e,uK.take a n c⟩
theorem uK.ey{w f:World}:∀(a:M D) {vs:M Value} {e:M Fp},uK w a vs e->(∀F∈e,∀b∈F,f.heap[b.1]?=w.heap[b.1]?)->uK f a vs e
 |[],_,_,h,_=>by simpa only [uK] using h
 |d::a,_,_,h,g=>by simp only[uK]at h ⊢;obtain⟨v,n,F,c,rfl,rfl,m,l⟩:=h;exact⟨v,n,F,c,rfl,rfl,m.ey d (λb i j _=>World.cell?_of_block (w:=w) (g F (by simp) b i)),uK.ey a l (λG k=>g G (by simp[k]))⟩
end
section
open Go.RowKit
structure Tree where
 g:Nat
 p:Nat
 k:Nat
 n:Nat
 Fs:List Fp
 hv:List Value
 pl:List Bool
 ro:Bool
end
abbrev Cf:=Nat->M A->u (M A×M A)
abbrev Mf:=Nat->Bool->M D->Int->u (M D×Int)
inductive Qu where
 |c (f:Nat) (a:List A) (r:List A×List A)
 |m (f:Nat) (g:Bool) (ds:List D) (q:Int) (r:List D×Int)
def Qu.ok(i:Cf)(e:Mf):Qu->Prop
 | .c f a r=>i f a=Z r
 | .m f g h q r=>e f g h q=Z r
abbrev akB:=M Qu
def Told(b:Cf)(a:Mf)(L:akB):Prop:=∀t∈L,t.ok b a
def Told.nil{c a}:Told c a []:=λ_ h=>by simp at h
def Told.left{e c L a}(h:Told e c (L++a)):Told e c L:=λt f=>h t (by simp[f])
def Told.right{e c L a}(h:Told e c (L++a)):Told e c a:=λt f=>h t (by simp[f])
def Told.append{f e L a}(h:Told f e L)(g:Told f e a):Told f e (L++a):=λt c=>by rcases aX.1 c with c|c;{exact h t c};exact g t c
section
variable {cf:Cf} {mf:Mf}
theorem M_{f i}:∀{es a r},vl (cf f) i es a=Z r->∃L,Told cf mf L/\∀j l,Told j l L->vl (j f) i es a=Z r
 |[],a,r,h=>⟨[],Told.nil,λ_ _ _=>h⟩
 |e::es,a,r,h=>by simp only[vl]at h;split at h;{rename_i b outs n;split at h;{rename_i o;cases b with|true=>{refine⟨[.c f (.val i (e.map .d)::a) ([.val J [.d (.bool I)]],outs)],λt g=>by simp at g;subst g;exact n,λj l k=>?_⟩;have m:j f (.val i (e.map .d)::a)=Z ([.val J [.d (.bool I)]],outs):=k (.c f (.val i (e.map .d)::a) ([.val J [.d (.bool I)]],outs)) (by simp);simp only[vl,m];rw[if_pos o];exact h}|false=>obtain⟨L,m,q⟩:=M_ (r:=r) h;refine⟨.c f (.val i (e.map .d)::a) ([.val J [.d (.bool J)]],outs)::L,λt g=>?_,λj l k=>?_⟩;{rcases aU.1 g with rfl|g;{exact n};exact m t g};have p:j f (.val i (e.map .d)::a)=Z ([.val J [.d (.bool J)]],outs):=k (.c f (.val i (e.map .d)::a) ([.val J [.d (.bool J)]],outs)) (by simp);simp only[vl,p];rw[if_pos o];exact q j l λt g=>k t (by simp[g])};cases h};cases h
theorem YK{f c as r}(h:yj c (cf f) as=Z r):∃L,Told cf mf L/\∀b d,Told b d L->yj c (b f) as=Z r:=by unfold yj at h;split at h;{rename_i k m es l;by_cases e:k=(if c=I then 3 else 1)/\l.all (λa=>!a.isVal)=I;{rw[if_pos e]at h;obtain⟨L,i,g⟩:=M_ (mf:=mf) h;exact⟨L,i,λb d j=>by simp only[yj];rw[if_pos e];exact g b d j⟩};simp_all};cases h
theorem adI{s n:St}{d:u Nat}{o:KO}(a:nG cf mf s d o=Z n):∃L,Told cf mf L/\∀(e:Cf) (g:Mf),Told e g L->nG e g s d o=Z n:=by cases o with|call f p=>{simp only[nG,nS]at a;split at a;{cases a};rename_i as has;split at a;{rename_i k;split at a;{cases a};rename_i m outs i;refine⟨[.c f as (m,outs)],λt j=>by simp at j;subst j;exact i,λe g h=>?_⟩;have l:e f as=Z (m,outs):=h (.c f as (m,outs)) (by simp);simp only[nG,nS,has,k,if_true,l];exact a};cases a}|cbx f p=>{simp only[nG]at a;split at a;{rename_i b as has;split at a;{rename_i k;split at a;{rename_i vs i;refine⟨[.c f as ([.box vs],[])],λt j=>by simp at j;subst j;exact i,λe g h=>?_⟩;have l:e f as=Z ([.box vs],[]):=h (.c f as ([.box vs],[])) (by simp);simp only[nG,has,k,if_true,l];exact a};cases a};cases a};cases a}|MP w f F x y=>{simp only[nG]at a;split at a;{rename_i B A q;split at a;{rename_i r;simp only[nS]at a;split at a;{cases a};rename_i as has;split at a;{rename_i k;split at a;{cases a};rename_i m outs i;obtain⟨L,l,v⟩:=YK (mf:=mf) i;refine⟨L,l,λe g h=>?_⟩;simp only[nG,q,if_pos r,nS,has,k,if_true,v e g h];exact a};cases a};cases a};cases a}|_=>exact⟨[],Told.nil,λe g _=>a⟩
theorem Tf{s f d o}(c:D4 cf mf s d o=Z f):∃L,Told cf mf L/\∀b a,Told b a L->D4 b a s d o=Z f:=by unfold D4 at c;split at c;{rename_i e;exact⟨[],Told.nil,λb a _=>by simp only[D4,e];exact c⟩};rename_i e;obtain⟨L,i,g⟩:=adI c;exact⟨L,i,λb a h=>by simp[D4,e];exact g b a h⟩
theorem KK{s d i}(a:wL cf mf s i=Z d):∃L,Told cf mf L/\∀c b,Told c b L->wL c b s i=Z d:=by unfold wL at a ⊢;split at a;{exact Tf a};split at a;{split at a;{obtain⟨L,e,f⟩:=Tf a;exact⟨L,e,λc b h=>by simp_all⟩};exact⟨[],Told.nil,λc b _=>by simp_all⟩};{exact⟨[],Told.nil,λc b _=>by simp_all⟩};cases a
theorem Jb:∀(is) {s e},nP cf mf is s=Z e->∃L,Told cf mf L/\∀d c,Told d c L->nP d c is s=Z e
 |[],s,e,b=>⟨[],Told.nil,λd c _=>b⟩
 |i::is,s,e,b=>by simp[nP]at b;split at b;{rename_i k f;obtain⟨L,a1,a2⟩:=KK f;obtain⟨a,j,g⟩:=Jb is b;exact⟨L++a,a1.append j,λd c h=>by simp[nP,a2 d c h.left,g d c h.right]⟩};cases b
theorem oz:∀(is) {n l s m},iw cf mf n is l s=Z m->∃L,Told cf mf L/\∀k f,Told k f L->iw k f n is l s=Z m
 | .nil,n,l,s,m,e=>⟨[],Told.nil,λk f _=>e⟩
 | .op ⟨j,q,W,U,i⟩ is,n,l,s,m,e=>by simp[iw]at e;cases q with|true=>{simp at e;split at e;{rename_i o;split at e;{rename_i c b y A;obtain⟨L,a1,a2⟩:=oz is e;exact⟨L,a1,λk f h=>by simp[iw,o,y,A];exact a2 k f h⟩};cases e};rename_i g H o;split at e;{rename_i b K;split at e;{rename_i G;split at e;{rename_i c V y A;obtain⟨L,a1,a2⟩:=oz is e;exact⟨L,a1,λk f h=>by simp[iw,o,K,G,y,A];exact a2 k f h⟩};cases e};rename_i G;obtain⟨L,a1,a2⟩:=oz is e;exact⟨L,a1,λk f h=>by simp[iw,o,K,G];exact a2 k f h⟩};{rename_i t;obtain⟨L,a1,a2⟩:=oz is e;exact⟨L,a1,λk f h=>by simp[iw,o,t];exact a2 k f h⟩};cases e}|false=>simp[nE,if_false]at e;split at e;{rename_i N C;split at e;{rename_i p;obtain⟨L,a1,a2⟩:=KK C;obtain⟨d,F,D⟩:=oz is e;exact⟨L++d,a1.append F,λk f h=>by simp only[iw,nE,a2 k f h.left,p];exact D k f h.right⟩};cases e};cases e
 | .alt x is r,n,l,s,m,e=>by have w:nE cf mf x l s (iw cf mf n is)=Z m/\iw cf mf n r l s=Z m:=by{simp[iw,both]at e;split at e;{rename_i a b T S;split at e;{rename_i B;subst B;cases e;exact⟨T,S⟩};cases e};cases e};obtain⟨e,v⟩:=w;obtain⟨R,Q,P⟩:=oz r v;simp[nE]at e;split at e;{rename_i N C;split at e;{rename_i p;obtain⟨L,a1,a2⟩:=KK C;obtain⟨d,F,D⟩:=oz is e;refine⟨(L++d)++R,(a1.append F).append Q,λk f h=>?_⟩;simp only[iw,nE,a2 k f h.left.left,p,if_true,D k f h.left.right,P k f h.right,both]};cases e};cases e
theorem kq:∀(k) {n s r},jG cf mf n k s=Z r->∃L,Told cf mf L/\∀l j o,Told l j L->n<=o->jG l j o k s=Z r
 | .skip,n,s,r,g=>⟨[],Told.nil,λl j o _ _=>by simpa [jG] using g⟩
 | .Uz is H,n,s,r,g=>by simp[jG]at g;split at g;{rename_i y q;obtain⟨L,a1,a2⟩:=Jb is q;exact⟨L,a1,λl j o h _=>by simp only[jG,a2 l j h];exact g⟩};cases g
 | .ZH is H,n,s,r,g=>by simp[jG]at g;split at g;{rename_i y q;obtain⟨L,a1,a2⟩:=oz is q;exact⟨L,a1,λl j o h _=>by simp only[jG,a2 l j h];exact g⟩};cases g
 | .seq a b,n,s,r,g=>by simp[jG]at g;split at g;{rename_i y q;obtain⟨L,a1,a2⟩:=kq a q;obtain⟨f,F,D⟩:=kq b g;exact⟨L++f,a1.append F,λl j o h p=>by simp[jG,a2 l j o h.left p];exact D l j o h.right p⟩};rename_i B;obtain⟨L,a1,a2⟩:=kq a g;refine⟨L,a1,λl j o h p=>?_⟩;simp[jG,a2 l j o h p];obtain⟨e,w⟩:=r;cases e with|norm=>{exact absurd g (B w)}|_=>rfl
 | .cond x a b,n,s,r,g=>by simp[jG]at g;split at g;{rename_i t G;cases t with|true=>{simp at g;obtain⟨L,a1,a2⟩:=kq a g;exact⟨L,a1,λl j o h p=>by simp[jG,G,if_true];exact a2 l j o h p⟩}|false=>simp at g;obtain⟨L,a1,a2⟩:=kq b g;exact⟨L,a1,λl j o h p=>by simp[jG,G,aQ,if_false];exact a2 l j o h p⟩};cases g
 | .block i a,n,s,r,g=>by simp[jG]at g;split at g;{rename_i R y q;obtain⟨L,a1,a2⟩:=kq a q;exact⟨L,a1,λl j o h p=>by simp[jG,a2 l j o h p];exact g⟩};rename_i B;obtain⟨L,a1,a2⟩:=kq a g;refine⟨L,a1,λl j o h p=>?_⟩;simp[jG,a2 l j o h p];obtain⟨e,w⟩:=r;cases e with|exit i=>{exact absurd g (B i w)}|_=>rfl
 | .loop a,n,s,r,g=>by simp[jG]at g;have go:∀m s,iter (jG cf mf n a) m s=Z r->∃L,Told cf mf L/\∀l j o v,Told l j L->n<=o->m<=v->iter (jG l j o a) v s=Z r:=by{intro m;induction m with|zero=>{intro s h;simp[iter]at h}|succ m K=>intro s h;simp[iter]at h;split at h;{rename_i y q;obtain⟨L,a1,a2⟩:=kq a q;obtain⟨f,F,D⟩:=K y h;refine⟨L++f,a1.append F,λl j o v C p N=>?_⟩;obtain⟨A,rfl⟩:∃c,v=c+1:=⟨v - 1,by omega⟩;simp[iter,a2 l j o C.left p];exact D l j o A C.right p (by omega)};rename_i B;obtain⟨L,a1,a2⟩:=kq a h;refine⟨L,a1,λl j o v C p N=>?_⟩;obtain⟨A,rfl⟩:∃c,v=c+1:=⟨v - 1,by omega⟩;simp[iter,a2 l j o C p];obtain⟨e,w⟩:=r;cases e with|norm=>{exact absurd h (B w)}|_=>rfl};obtain⟨L,a1,a2⟩:=go n s g;exact⟨L,a1,λl j o h p=>by simp[jG];exact a2 l j o o h p p⟩
 | .exit i,n,s,r,g=>⟨[],Told.nil,λl j o _ _=>by simpa [jG] using g⟩
 | .ret,n,s,r,g=>⟨[],Told.nil,λl j o _ _=>by simpa [jG] using g⟩
 | .share Q a,n,s,r,g=>by simp[jG]at g;obtain⟨L,a1,a2⟩:=kq a g;exact⟨L,a1,λl j o h p=>by simp[jG];exact a2 l j o h p⟩
 | .DV d a,n,s,r,g=>by simp[jG]at g;split at g;{rename_i P hd;obtain⟨L,a1,a2⟩:=kq a g;exact⟨L,a1,λl j o h p=>by simp[jG,hd];exact a2 l j o h p⟩};cases g
theorem acv{n e args r}(a:Iv cf mf n e args=Z r):∃L,Told cf mf L/\∀d c b,Told d c L->n<=b->Iv d c b e args=Z r:=by unfold Iv at a;split at a;{rename_i i;split at a;{rename_i s g;obtain⟨L,a1,a2⟩:=kq e.body g;exact⟨L,a1,λd c b h f=>by simp[Iv,i,a2 d c b h f];exact a⟩};{rename_i s g;obtain⟨L,a1,a2⟩:=kq e.body g;exact⟨L,a1,λd c b h f=>by simp[Iv,i,a2 d c b h f];exact a⟩};cases a};cases a
end
section
variable {cf:Cf} {mf:Mf} {own:Bool} {k:Nat}
theorem z6{m e d f xs}(a:Vp cf m d f xs=Z e):∃L,Told cf mf L/\∀b i,Told b i L->Vp b m d f xs=Z e:=by simp[Vp]at a;split at a;{rename_i as has;split at a;{rename_i r j;refine⟨[.c f as ([.val J [.d r]],[])],λt g=>by simp at g;subst g;exact j,λb i h=>?_⟩;have l:b f as=_:=h (.c f as ([.val J [.d r]],[])) (by simp);simp only[Vp,has,l];exact a};cases a};cases a
theorem Z3{m A d f c y}(a:Vo mf m d f c y=Z A):∃L,Told cf mf L/\∀s b,Told s b L->Vo b m d f c y=Z A:=by unfold Vo at a;split at a;{rename_i i o q;split at a;{rename_i k r es v;split at a;{rename_i x g l;refine⟨[.m f J [.list k r es] q ([x],g)],λt j=>by simp at j;subst j;exact l,λs b h=>?_⟩;have p:b f J [.list k r es] q=_:=h (.m f J [.list k r es] q ([x],g)) (by simp);simp only[Vo,v,p];exact a};cases a};cases a};{rename_i i o n q;split at a;{rename_i e v;split at a;{rename_i w g l;refine⟨[.m f I ((e.drop o).take n) q (w,g)],λt j=>by simp at j;subst j;exact l,λs b h=>?_⟩;have p:b f I ((e.drop o).take n) q=_:=h (.m f I ((e.drop o).take n) q (w,g)) (by simp);simp only[Vo,v,p];exact a};cases a};cases a};cases a
theorem Z1{m i d o}(b:QR cf mf k m d o=Z i):∃L,Told cf mf L/\∀g e,Told g e L->QR g e k m d o=Z i:=by cases o with|call f h=>{rcases h with _|⟨x,_|⟨y,_|⟨a,h⟩⟩⟩;{simp[QR]at b ⊢;exact z6 b};{simp[QR]at b ⊢;exact z6 b};{simp[QR]at b ⊢;cases j:m.spx x with|none=>{rw[j]at b;exact z6 b}|some c=>rw[j]at b;exact Z3 b};simp[QR]at b ⊢;exact z6 b}|_=>exact⟨[],Told.nil,λg e _=>b⟩
theorem Z2{m e i}(a:adG cf mf own k m i=Z e):∃L,Told cf mf L/\∀c b,Told c b L->adG c b own k m i=Z e:=by obtain⟨d,o,g⟩:=i;cases g with|some g=>{simp[adG]at a}|none=>cases d with|some d=>{exact Z1 a}|none=>exact⟨[],Told.nil,λc b _=>a⟩
theorem EV:∀(is) {m e},Ic cf mf own k is m=Z e->∃L,Told cf mf L/\∀d c,Told d c L->Ic d c own k is m=Z e
 |[],m,e,b=>⟨[],Told.nil,λd c _=>b⟩
 |i::is,m,e,b=>by simp[Ic]at b;split at b;{rename_i l f;obtain⟨L,a1,a2⟩:=Z2 f;obtain⟨a,j,g⟩:=EV is b;exact⟨L++a,a1.append j,λd c h=>by simp[Ic,a2 d c h.left,g d c h.right]⟩};cases b
theorem lF:∀(c) {n s r},lr cf mf own k n c s=Z r->∃L,Told cf mf L/\∀p o l,Told p o L->n<=l->lr p o own k l c s=Z r
 | .skip,n,s,r,j=>⟨[],Told.nil,λp o l _ _=>by simpa [lr] using j⟩
 | .Uz is K,n,s,r,j=>by simp[lr]at j;split at j;{rename_i C w;obtain⟨L,a1,a2⟩:=EV is w;exact⟨L,a1,λp o l h _=>by simp only[lr,a2 p o h];exact j⟩};cases j
 | .ZH is K,n,s,r,j=>by simp[lr]at j
 | .seq a b,n,s,r,j=>by simp[lr]at j;split at j;{rename_i C w;obtain⟨L,a1,a2⟩:=lF a w;obtain⟨g,G,F⟩:=lF b j;exact⟨L++g,a1.append G,λp o l h q=>by simp[lr,a2 p o l h.left q];exact F p o l h.right q⟩};rename_i B;obtain⟨L,a1,a2⟩:=lF a j;refine⟨L,a1,λp o l h q=>?_⟩;simp[lr,a2 p o l h q];obtain⟨e,y⟩:=r;cases e with|norm=>{exact absurd j (B y)}|_=>rfl
 | .cond x a b,n,s,r,j=>by simp[lr]at j;split at j;{rename_i t H;cases t with|true=>{simp at j;obtain⟨L,a1,a2⟩:=lF a j;exact⟨L,a1,λp o l h q=>by simp[lr,H,if_true];exact a2 p o l h q⟩}|false=>simp at j;obtain⟨L,a1,a2⟩:=lF b j;exact⟨L,a1,λp o l h q=>by simp[lr,H,aQ,if_false];exact a2 p o l h q⟩};cases j
 | .block i a,n,s,r,j=>by simp[lr]at j;split at j;{rename_i R C w;obtain⟨L,a1,a2⟩:=lF a w;exact⟨L,a1,λp o l h q=>by simp[lr,a2 p o l h q];exact j⟩};rename_i B;obtain⟨L,a1,a2⟩:=lF a j;refine⟨L,a1,λp o l h q=>?_⟩;simp[lr,a2 p o l h q];obtain⟨e,y⟩:=r;cases e with|exit i=>{exact absurd j (B i y)}|_=>rfl
 | .loop a,n,s,r,j=>by simp[lr]at j;have go:∀m s,iterM (lr cf mf own k n a) m s=Z r->∃L,Told cf mf L/\∀p o l v,Told p o L->n<=l->m<=v->iterM (lr p o own k l a) v s=Z r:=by{intro m;induction m with|zero=>{intro s h;simp[iterM]at h}|succ m N=>intro s h;simp[iterM]at h;split at h;{rename_i C w;obtain⟨L,a1,a2⟩:=lF a w;obtain⟨g,G,F⟩:=N C h;refine⟨L++g,a1.append G,λp o l v D q P=>?_⟩;obtain⟨A,rfl⟩:∃f,v=f+1:=⟨v - 1,by omega⟩;simp[iterM,a2 p o l D.left q];exact F p o l A D.right q (by omega)};rename_i B;obtain⟨L,a1,a2⟩:=lF a h;refine⟨L,a1,λp o l v D q P=>?_⟩;obtain⟨A,rfl⟩:∃f,v=f+1:=⟨v - 1,by omega⟩;simp[iterM,a2 p o l D q];obtain⟨e,y⟩:=r;cases e with|norm=>{exact absurd h (B y)}|_=>rfl};obtain⟨L,a1,a2⟩:=go n s j;exact⟨L,a1,λp o l h q=>by simp[lr];exact a2 p o l l h q q⟩
 | .exit i,n,s,r,j=>⟨[],Told.nil,λp o l _ _=>by simpa [lr] using j⟩
 | .ret,n,s,r,j=>⟨[],Told.nil,λp o l _ _=>by simpa [lr] using j⟩
 | .share Q a,n,s,r,j=>by simp[lr]at j
 | .DV d a,n,s,r,j=>by simp[lr]at j
end
def akF{a:Type}(g:Nat->u a):Prop:=∀n m r,g n=Z r->n<=m->g m=Z r
open Classical in
noncomputable def lm{a:Type}(g:Nat->u a):u a:=if h:∃r n,g n=Z r then Z (Classical.choose h) else O
def LX{d:Type}{g}(a:akF g)(r:d):lm g=Z r↔∃n,g n=Z r:=by unfold lm;split;{rename_i h;obtain⟨k,b⟩:=Classical.choose_spec h;constructor;{intro e;simp at e;exact⟨k,e▸b⟩};rintro⟨n,f⟩;have i:=a _ (max n k) _ b (by omega);have c:=a _ (max n k) _ f (by omega);rw[i]at c;exact c};simp_all
def anh{a:Type}{g}(b:akF g){o:u a}(d:∀r n,g n=Z r->o=Z r)(c:∀r,o=Z r->∃n,g n=Z r):lm g=o:=by apply Option.ext;intro r;rw[LX b];grind
section
variable (T:Nat->u KF)
theorem zZ:∀n b f a r,C1 T n f a=Z r->n<=b->C1 T b f a=Z r
 |0,_,_,_,_,h,_=>by simp[C1]at h
 |n+1,b,f,a,r,h,i=>by obtain⟨m,rfl⟩:∃m,b=m+1:=⟨b - 1,by omega⟩;simp[C1]at h ⊢;split at h;{cases h};split at h;{rename_i d;rw[if_pos d];exact h};rename_i d;rw[if_neg d];obtain⟨L,a1,a2⟩:=acv h;refine a2 (C1 T m) _ m (λt e=>?_) (by omega);have:=a1 t e;cases t with|c f a r=>{exact zZ n m _ _ _ this (by omega)}|m f g j q r=>cases this
noncomputable def fI:Cf:=λf a=>lm λn=>C1 T n f a
theorem wU f a r:fI T f a=Z r↔∃n,C1 T n f a=Z r:=LX (λn m r h b=>zZ T n m f a r h b) r
def abI(cells:M D):u (M (M D)×Int)->u (M D×Int)
 |some ([Bo],a)=>Z (Bo,a)
 |_=>O
def abJ(k:Nat)(c:Bool):u (M (M D)×Int)->u (M D×Int)
 |some (b,a)=>Z ([.list k c b],a)
 |none=>O
def runM(g:Bool->Nat->M KI->MS->u MS)(h:Bool->Nat->K->MS->u (Ex×MS))(c:KF)(f:Bool)(cells:M D)(q:Int):u (M D×Int):=
 match c with
 |⟨2,body,[.t r]⟩=>
   if f then (match body with
    | .seq (.Uz (⟨Z b,.box (.s 0),O⟩::is) a) i=>
     (match g J cells.length is (MS.RG ⟨⟨[(1,.d (.int .i64 q))],[],[]⟩,[],[cells]⟩ b (.ep 0 0)) with
     |some m=>abI cells (Xy r (h J cells.length i (m.ey a)))
     |none=>O)
    |_=>O)
   else (match cells with
    |[.list k e es]=>abJ k e (Xy r (h I k body ⟨⟨[(1,.d (.int .i64 q))],[],[]⟩,[(0,.lst)],es⟩))
    |_=>O)
 |_=>O
theorem adH(n f:Nat)(b:Bool)(cells:M D)(q:Int):Te T (n+1) f b cells q=match T f with
  |some a=>runM (λown k=>Ic (C1 T n) (Te T n) own k) (λown k=>lr (C1 T n) (Te T n) own k n) a b cells q
  |none=>O:=by
 simp[Te];cases c:T f with
 |none=>rfl
 |some a=>
  unfold runM;split
  .split
   .split
    .split
     .simp[abI]
      split<;>simp_all
     .simp_all
    .simp_all
   .split
    .simp[abJ]
     split<;>simp_all
    .simp_all
  .simp_all
end
theorem GH{a:Type}:∀(l) {f} {x:a},look l f=Z x->(f,x)∈l
 |[],_,_,h=>by simp[look]at h
 |(k,y)::l,f,x,h=>by simp[look]at h;split at h;{simp_all};exact eb _ (GH l h)
section
variable (T:Nat->u KF)
theorem acw{o:Cf}{l:Mf}{n w y cells q r}(c:runM (λown k=>Ic o l own k) (λown k=>lr o l own k n) w y cells q=Z r):
  ∃L,Told o l L/\∀g f j,Told g f L->n<=j->runM (λown k=>Ic g f own k) (λown k=>lr g f own k j) w y cells q=Z r:=by unfold runM at c;split at c;{rename_i body D;split at c;{rename_i v;split at c;{rename_i b C B A;split at c;{rename_i m x;dsimp only at x c;obtain⟨L,a1,a2⟩:=EV C x;cases i:lr o l J cells.length n A (m.ey B) with|none=>{rw[i]at c;simp[Xy,abI]at c}|some e=>obtain⟨a,t,s⟩:=lF A i;refine⟨L++a,a1.append t,λg f j h p=>?_⟩;simp[runM,v,a2 g f h.left,s g f j h.right p];rw[i]at c;exact c};cases c};cases c};rename_i v;split at c;{rename_i k F es;dsimp only at c;cases i:lr o l I k n body ⟨⟨[(1,.d (.int .i64 q))],[],[]⟩,[(0,.lst)],es⟩ with|none=>{rw[i]at c;simp[Xy,abJ]at c}|some e=>obtain⟨a,t,s⟩:=lF body i;refine⟨a,t,λg f j h p=>?_⟩;simp only[runM,v,s g f j h p];rw[i]at c;simp;exact c};cases c};cases c
theorem EU:∀n b f e d q r,Te T n f e d q=Z r->n<=b->Te T b f e d q=Z r
 |0,_,_,_,_,_,_,h,_=>by simp[Te]at h
 |n+1,b,f,e,d,q,r,h,j=>by obtain⟨m,rfl⟩:∃m,b=m+1:=⟨b - 1,by omega⟩;rw[adH]at h ⊢;split at h;{obtain⟨L,a1,a2⟩:=acw h;refine a2 (C1 T m) (Te T m) m (λt i=>?_) (by omega);have:=a1 t i;cases t with|c f a r=>{exact zZ T n m _ _ _ this (by omega)}|m f g d q r=>exact EU n m _ _ _ _ _ this (by omega)};cases h
noncomputable def anf:Mf:=λf b a q=>lm λn=>Te T n f b a q
theorem abq f b a q r:anf T f b a q=Z r↔∃n,Te T n f b a q=Z r:=LX (λn m r h c=>EU T n m f b a q r h c) r
theorem PL:∀L,Told (fI T) (anf T) L->∃n,∀m,n<=m->Told (C1 T m) (Te T m) L
 |[],_=>⟨0,λm _ t i=>by simp at i⟩
 |t::L,h=>by obtain⟨n,k⟩:=PL L (λt i=>h t (by simp[i]));have l:=h t (by simp);cases t with|c f a r=>{obtain⟨m,j⟩:=(wU T _ _ _).1 l;refine⟨max n m,λb o d e=>?_⟩;rcases aU.1 e with rfl|e;{exact zZ T m b _ _ _ j (by omega)};exact k b (by omega) d e}|m f g p q r=>obtain⟨m,j⟩:=(abq T _ _ _ _ _).1 l;refine⟨max n m,λb o d e=>?_⟩;rcases aU.1 e with rfl|e;{exact EU T m b _ _ _ _ _ j (by omega)};exact k b (by omega) d e
abbrev zx:Mf:=λ_ _ _ _=>O
noncomputable def ev(a:Mf)(k:K)(s:St):u (Ex×St):=lm λn=>jG (fI T) a n k s
theorem nn(a:Mf)k s:∀n m r,jG (fI T) a n k s=Z r->n<=m->jG (fI T) a m k s=Z r:=λn m r h b=>by obtain⟨L,a1,a2⟩:=kq k h;exact a2 _ _ m a1 b
theorem kz a k s r:ev T a k s=Z r↔∃n,jG (fI T) a n k s=Z r:=LX (nn T a k s) r
section
variable (mf:Mf)
theorem EW{k s o}(b:∀r n,jG (fI T) mf n k s=Z r->o=Z r)(a:∀r,o=Z r->∃n,jG (fI T) mf n k s=Z r):ev T mf k s=o:=anh (nn T mf k s) b a
theorem vy{k s o}(h:∀n,jG (fI T) mf n k s=o):ev T mf k s=o:=
 EW T mf (λr n e=>by rw[<- h n];exact e) (λr e=>⟨0,by rw[h 0];exact e⟩)
theorem Th s:ev T mf .skip s=Z (.norm,s):=vy T mf λn=>by simp[jG]
theorem aac s:ev T mf .ret s=Z (.ret,s):=vy T mf λn=>by simp[jG]
theorem Tg i s:ev T mf (.exit i) s=Z (.exit i,s):=vy T mf λn=>by simp[jG]
def nrm(a:zA):u St->u (Ex×St)
 |some s=>Z (.norm,s.ey a)
 |none=>O
theorem aab ops a s:ev T mf (.Uz ops a) s=nrm a (nP (fI T) mf ops s):=vy T mf λn=>by simp[jG,nrm];split<;>simp_all
def P9:u St->u (Ex×St)
 |some s=>Z (.norm,s)
 |none=>O
theorem aaa ops a s:ev T mf (.ZH ops a) s=P9 (iw (fI T) mf a ops [] s):=vy T mf λn=>by simp[jG,P9];split<;>simp_all
def PF(g:St->u (Ex×St)):u (Ex×St)->u (Ex×St)
 |some (.norm,s)=>g s
 |some (.exit i,s)=>Z (.exit i,s)
 |some (.ret,s)=>Z (.ret,s)
 |none=>O
theorem D3{c:Cf}n a b s:jG c mf n (.seq a b) s=PF (jG c mf n b) (jG c mf n a s):=by simp[jG,PF];split;{rename_i h;simp[h]};split;{simp_all};{simp_all};{simp_all};simp_all
theorem aad a b s:ev T mf (.seq a b) s=PF (ev T mf b) (ev T mf a s):=by apply EW;{intro r n h;rw[D3]at h;cases c:jG (fI T) mf n a s with|none=>{rw[c]at h;simp[PF]at h}|some x=>rw[(kz T mf a s x).2 ⟨n,c⟩];rw[c]at h;rcases x with ⟨_|i|_,d⟩;{exact (kz T mf b d r).2 ⟨n,h⟩};{exact h};exact h};intro r h;cases c:ev T mf a s with|none=>{rw[c]at h;simp[PF]at h}|some x=>obtain⟨n,e⟩:=(kz T mf a s x).1 c;rw[c]at h;rcases x with ⟨_|i|_,d⟩;{obtain⟨m,f⟩:=(kz T mf b d r).1 h;refine⟨max n m,?_⟩;rw[D3,nn T mf a s n (max n m) _ e (by omega)];exact nn T mf b d m (max n m) _ f (by omega)};{exact⟨n,by rw[D3,e];exact h⟩};exact⟨n,by rw[D3,e];exact h⟩
theorem lf a s:ev T mf (.loop a) s=PF (ev T mf (.loop a)) (ev T mf a s):=by have one:∀f n m s,iter (jG f mf n a) (m+1) s=PF (iter (jG f mf n a) m) (jG f mf n a s):=by{intro f n m s;simp[iter,PF];split;{rename_i h;simp[h]};rename_i h;split;{rename_i c o;exact absurd o (h c)};{simp_all};{simp_all};simp_all};apply EW;{intro r n h;simp[jG]at h;cases n with|zero=>{simp[iter]at h}|succ n=>rw[one]at h;cases d:jG (fI T) mf (n+1) a s with|none=>{rw[d]at h;simp[PF]at h}|some x=>rw[(kz T mf a s x).2 ⟨n+1,d⟩];rw[d]at h;rcases x with ⟨_|i|_,c⟩;{refine (kz T mf (.loop a) c r).2 ⟨n+1,?_⟩;simp[PF]at h;have:jG (fI T) mf (n+1) (.loop a) c=Z r:=by{simp[jG];have go:∀m s,iter (jG (fI T) mf (n+1) a) m s=Z r->iter (jG (fI T) mf (n+1) a) (m+1) s=Z r:=by{intro m;induction m with|zero=>{intro s h;simp[iter]at h}|succ m g=>intro s h;rw[one]at h ⊢;cases e:jG (fI T) mf (n+1) a s with|none=>{rw[e]at h;simp[PF]at h}|some x=>rw[e]at h;rcases x with ⟨_|i|_,c⟩;{exact g c h};{exact h};exact h};exact go n c h};exact this};{exact h};exact h};intro r h;cases d:ev T mf a s with|none=>{rw[d]at h;simp[PF]at h}|some x=>obtain⟨n,j⟩:=(kz T mf a s x).1 d;rw[d]at h;rcases x with ⟨_|i|_,c⟩;{obtain⟨m,l⟩:=(kz T mf (.loop a) c r).1 h;refine⟨max n m+1,?_⟩;have k:=nn T mf (.loop a) c m (max n m) _ l (by omega);simp[jG]at k ⊢;rw[one,nn T mf a s n (max n m+1) _ j (by omega)];simp[PF];have go:∀b s,iter (jG (fI T) mf (max n m) a) b s=Z r->iter (jG (fI T) mf (max n m+1) a) b s=Z r:=by{intro b;induction b with|zero=>{intro s h;simp[iter]at h}|succ b g=>intro s h;rw[one]at h ⊢;cases e:jG (fI T) mf (max n m) a s with|none=>{rw[e]at h;simp[PF]at h}|some x=>rw[e]at h;rw[nn T mf a s (max n m) (max n m+1) x e (by omega)];rcases x with ⟨_|i|_,c⟩;{exact g c h};{exact h};exact h};exact go _ _ k};{refine⟨n+1,?_⟩;simp[jG];rw[one,nn T mf a s n (n+1) _ j (by omega)];exact h};refine⟨n+1,?_⟩;simp[jG];rw[one,nn T mf a s n (n+1) _ j (by omega)];exact h
def ife(c:C)(x y:u (Ex×St)):u (Ex×St):=
 match c with
 | .d (.bool t)=>if t then x else y
 |_=>O
theorem ES{d:Cf}n c a b s:jG d mf n (.cond c a b) s=ife (gF s c) (jG d mf n a s) (jG d mf n b s):=by simp[jG];cases gF s c<;>rfl
theorem KM c a b s:ev T mf (.cond c a b) s=ife (gF s c) (ev T mf a s) (ev T mf b s):=by apply EW;{intro r n h;rw[ES]at h;unfold ife at h ⊢;split at h;{split at h;{rename_i d;simp[d];exact (kz T mf _ _ _).2 ⟨n,h⟩};rename_i d;simp[d];exact (kz T mf _ _ _).2 ⟨n,h⟩};cases h};intro r h;unfold ife at h;split at h;{rename_i t f;cases t with|true=>{obtain⟨n,e⟩:=(kz T mf _ _ _).1 h;exact⟨n,by rw[ES,f];exact e⟩}|false=>obtain⟨n,e⟩:=(kz T mf _ _ _).1 h;exact⟨n,by rw[ES,f];exact e⟩};cases h
def blk(id:Nat):u (Ex×St)->u (Ex×St)
 |some (.norm,s)=>Z (.norm,s)
 |some (.exit i,s)=>if i=id then Z (.norm,s) else Z (.exit i,s)
 |some (.ret,s)=>Z (.ret,s)
 |none=>O
theorem I_{b:Cf}n i a s:jG b mf n (.block i a) s=blk i (jG b mf n a s):=by simp[jG,blk];grind
theorem NV i a s:ev T mf (.block i a) s=blk i (ev T mf a s):=by apply EW;{intro r n h;rw[I_]at h;cases b:jG (fI T) mf n a s with|none=>{rw[b]at h;simp[blk]at h}|some x=>rw[(kz T mf a s x).2 ⟨n,b⟩];rw[b]at h;exact h};intro r h;cases b:ev T mf a s with|none=>{rw[b]at h;simp[blk]at h}|some x=>obtain⟨n,c⟩:=(kz T mf a s x).1 b;rw[b]at h;exact⟨n,by rw[I_,c];exact h⟩
theorem NW q a s:ev T mf (.share q a) s=ev T mf a (eM s [q]):=by apply EW;{intro r n h;simp[jG]at h;exact (kz T mf _ _ _).2 ⟨n,h⟩};intro r h;obtain⟨n,b⟩:=(kz T mf _ _ _).1 h;exact⟨n,by simp[jG];exact b⟩
theorem Z_ d a s:ev T mf (.DV d a) s=(sI s d).bind (ev T mf a):=by have b:∀n,jG (fI T) mf n (.DV d a) s=(sI s d).bind (jG (fI T) mf n a):=by{intro n;simp[jG];cases sI s d<;>rfl};apply EW;{intro r n h;rw[b]at h;cases hd:sI s d with|none=>{rw[hd]at h;simp at h}|some c=>rw[hd]at h;exact (kz T mf _ _ _).2 ⟨n,h⟩};intro r h;cases hd:sI s d with|none=>{rw[hd]at h;simp at h}|some c=>rw[hd]at h;obtain⟨n,e⟩:=(kz T mf _ _ _).1 h;exact⟨n,by rw[b,hd];exact e⟩
def fin(a:KF)(args:M A):u (Ex×St)->u (M A×M A)
 |some (.norm,s)=>leave a args s
 |some (.ret,s)=>leave a args s
 |_=>O
noncomputable def run(a:KF)(args:M A):u (M A×M A):=if args.length=a.np then fin a args (ev T mf a.body (lQ 0 args ⟨[],[],[]⟩)) else O
theorem Pf(b:Cf)n a args:Iv b mf n a args=if args.length=a.np then fin a args (jG b mf n a.body (lQ 0 args ⟨[],[],[]⟩)) else O:=by simp[Iv];split;{simp[fin];split<;>simp_all};rfl
theorem ac8{d i L}(h:Told d zx L):Told d i L:=λt e=>by have b:=h t e;cases t with|c f a r=>{exact b}|m f g j q r=>cases b
theorem afR{d mf L}(h:Told d zx L)(i:∀f a r,d f a=Z r->fI T f a=Z r):Told (fI T) mf L:=λt e=>by have b:=h t e;cases t with|c f a r=>{exact i f a r b}|m f g j q r=>cases b
theorem abr{f b r}(c:T f=Z ⟨999,b,r⟩)args:fI T f args=XT f args:=by apply Option.ext;intro r;rw[wU];constructor;{rintro⟨n,a⟩;cases n with|zero=>{simp[C1]at a}|succ n=>simpa only [C1,c,if_true] using a};intro h;exact⟨1,by simpa only [C1,c,if_true] using h⟩
theorem T8{f e}(o:T f=Z e)(i:e.np≠999)args:fI T f args=run T zx e args:=by apply Option.ext;intro r;rw[wU];constructor;{rintro⟨n,b⟩;cases n with|zero=>{simp[C1]at b}|succ n=>simp[C1,o,if_neg i]at b;rw[Pf]at b;unfold run;split at b;{rename_i j;rw[if_pos j];cases d:jG (C1 T n) zx n e.body (lQ 0 args ⟨[],[],[]⟩) with|none=>{rw[d]at b;simp[fin]at b}|some x=>obtain⟨L,a1,a2⟩:=kq _ d;have k:=a2 (fI T) zx n (afR T a1 (λf a r h=>(wU T f a r).2 ⟨n,h⟩)) (by omega);rw[(kz T zx _ _ _).2 ⟨n,k⟩,<- d];exact b};cases b};intro h;unfold run at h;split at h;{rename_i j;cases d:ev T zx e.body (lQ 0 args ⟨[],[],[]⟩) with|none=>{rw[d]at h;simp[fin]at h}|some x=>obtain⟨n,b⟩:=(kz T zx _ _ _).1 d;obtain⟨L,a1,a2⟩:=kq _ b;obtain⟨m,p⟩:=PL T L (ac8 a1);refine⟨max n m+1,?_⟩;simp[C1,o,if_neg i];rw[Pf,if_pos j,a2 (C1 T (max n m)) zx (max n m) (λt l=>?_) (by omega),<- d];{exact h};have s:=a1 t l;have k:=p (max n m) (by omega) t l;cases t with|c f a r=>{exact k}|m f g v q r=>cases s};cases h
end
variable (own:Bool) (k:Nat)
end
inductive SK where
 |int (k:IntKind) (n:Int)
 |bool (b:Bool)
 |str (s:ByteArray)
 |nil (k:Nat) (fl:Bool)
 deriving DecidableEq
def SK.d:SK->D
 | .int k n=>.int k n
 | .bool b=>.bool b
 | .str s=>.str s
 | .nil k a=>.list k a []
inductive SE where
 |v (i:Nat)
 |k (x:SK)
 |c (i j:Nat)
 deriving DecidableEq
def elC:D->u (M D)
 | .list _ _ [cs]=>Z cs
 |_=>O
def SE.d(a:M D):SE->u D
 | .v i=>nth a i
 | .k x=>Z x.d
 | .c i j=>match nth a i with
  |some x=>match elC x with
   |some e=>nth e j
   |none=>O
  |none=>O
abbrev Gs:=M (SE×Bool)
def jM(a:M D):Gs->u Bool
 |[]=>Z I
 |(g,w)::gs=>match g.d a with
  |some (.bool b)=>if b=w then jM a gs else Z J
  |_=>O
inductive SB where
 |d (e:SE)
 |nil (k:Nat) (fl:Bool)
 |ref (r:Nat)
 |any
 deriving DecidableEq
inductive SC where
 |b (x:SB)
 |agg (xs:List SB)
 |tv (xs:List (SB ⊕ List SB))
 |ptr (b o:Nat)
 |pG (r k:Nat) (i:SE) (o:Nat)
 |vc (i o:Nat)
 |fn (F:Nat) (bs:List Nat)
 |any
 deriving DecidableEq
structure SG where
 gs:Gs
 c:SC
 deriving DecidableEq
structure SR where
 e:SE
 k:Nat
 fl:Bool
 deep:Bool
 app:Bool
 fz:Bool
 deriving DecidableEq
structure SS where
 sl:List (Nat×SG)
 bx:List (Nat×List SB)
 rw:List (Nat×SR)
 deriving DecidableEq
section
variable (ρ:M D)
def ox:SB->C->Prop
 | .d e,c=>∃x,e.d ρ=Z x/\c=.d x
 | .nil k a,c=>c=.nil k a
 | .ref r,c=>c=.ref r
 | .any,_=>True
def fN:M SB->M C->Prop
 |[],cs=>cs=[]
 |x::xs,cs=>∃c a,cs=c::a/\ox ρ x c/\fN xs a
def yg:M (SB ⊕ M SB)->M C->Prop
 |[],cs=>cs=[]
 | .inl x::xs,cs=>∃c a,cs=c::a/\ox ρ x c/\yg xs a
 | .inr l::xs,cs=>∃b a,cs=.agg b::a/\fN ρ l b/\yg xs a
def na:SC->C->Prop
 | .b x,c=>ox ρ x c
 | .agg xs,c=>∃a,c=.agg a/\fN ρ xs a
 | .tv xs,c=>∃a,c=.tv a/\yg ρ xs a
 | .ptr b o,c=>c=.ptr b o
 | .pG r k i o,c=>∃n,i.d ρ=Z (.int .i64 n)/\c=.pG r k n.toNat o
 | .vc i o,c=>∃x a,nth ρ i=Z x/\elC x=Z a/\c=.vc (a.drop o)
 | .fn F e,c=>c=.fn F e
 | .any,_=>True
def tE(g:SG)(c:C):Prop:=∃b,jM ρ g.gs=Z b/\(b=I->na ρ g.c c)/\(b=J->c=.wq)
def SRr(x:SR)(y:Row):Prop:=∃es,x.e.d ρ=Z (.list x.k x.fl es)/\y=⟨es,x.k,x.fl,x.deep,x.app,x.fz⟩
structure Rel (S:SS) (s:St):Prop where
 sl:∀d g,look S.sl d=some g->tE ρ g (s.get d)
 bx:∀b xs,look S.bx b=some xs->∃cs,look s.bx b=some cs/\fN ρ xs cs
 rw:∀r x,look S.rw r=some x->∃y,look s.rw r=some y/\SRr ρ x y
end
theorem D_{a:Type}:∀{l m i} {x:a},nth l i=Z x->nth (l++m) i=Z x
 |_::_,_,0,_,h=>by simpa [nth] using h
 |_::l,m,i+1,x,h=>by simp at h ⊢;exact D_ h
 |[],_,_,_,h=>by simp[nth]at h
theorem kt{a:Type}:∀(l) (x) (m:M a),nth (l++x::m) l.length=Z x
 |[],_,_=>rfl
 |_::l,x,m=>kt l x m
section
variable {ρ:M D} (τ:M D)
theorem SE.mono{e:SE}{x}(h:e.d ρ=Z x):e.d (ρ++τ)=Z x:=by cases e with|v i=>{exact D_ h}|k y=>{exact h}|c i j=>simp[SE.d]at h ⊢;split at h;{rename_i y a;rw[D_ a];exact h};cases h
theorem kS:∀{a b},jM ρ a=Z b->jM (ρ++τ) a=Z b
 |[],_,h=>h
 |(g,w)::a,b,h=>by simp[jM]at h ⊢;split at h;{rename_i t d;rw[SE.mono τ d];simp only;split at h;{rename_i c;rw[if_pos c];exact kS h};simp_all};cases h
theorem ox.mono:∀{x c},ox ρ x c->ox (ρ++τ) x c
 | .d e,_,⟨x,b,a⟩=>⟨x,SE.mono τ b,a⟩
 | .nil _ _,_,h=>h
 | .ref _,_,h=>h
 | .any,_,_=>trivial
theorem fN.mono:∀{a b},fN ρ a b->fN (ρ++τ) a b
 |[],_,h=>h
 |_::_,_,⟨c,d,g,f,e⟩=>⟨c,d,g,ox.mono τ f,fN.mono e⟩
theorem yg.mono:∀{f g},yg ρ f g->yg (ρ++τ) f g
 |[],_,h=>h
 | .inl _::_,_,⟨c,a,e,d,b⟩=>⟨c,a,e,ox.mono τ d,yg.mono b⟩
 | .inr _::_,_,⟨c,a,e,d,b⟩=>⟨c,a,e,fN.mono τ d,yg.mono b⟩
theorem na.mono:∀{x c},na ρ x c->na (ρ++τ) x c
 | .b _,_,h=>ox.mono τ h
 | .agg _,_,⟨cs,d,a⟩=>⟨cs,d,fN.mono τ a⟩
 | .tv _,_,⟨cs,d,a⟩=>⟨cs,d,yg.mono τ a⟩
 | .ptr _ _,_,h=>h
 | .pG _ _ _ _,_,⟨n,d,a⟩=>⟨n,SE.mono τ d,a⟩
 | .vc _ _,_,⟨x,cs,d,a,e⟩=>⟨x,cs,D_ d,a,e⟩
 | .fn _ _,_,h=>h
 | .any,_,_=>trivial
theorem tE.mono{g c}:tE ρ g c->tE (ρ++τ) g c
 |⟨b,e,d,a⟩=>⟨b,kS τ e,λh=>(d h).mono τ,a⟩
theorem SRr.mono{x y}:SRr ρ x y->SRr (ρ++τ) x y
 |⟨es,c,a⟩=>⟨es,SE.mono τ c,a⟩
theorem Rel.mono{S s}(h:Rel ρ S s):Rel (ρ++τ) S s:=
 ⟨λd g a=>(h.sl d g a).mono τ,λb f a=>(h.bx b f a).imp λ_ e=>⟨e.1,e.2.mono τ⟩,λr x a=>(h.rw r x a).imp λ_ c=>⟨c.1,c.2.mono τ⟩⟩
end
def SB.kill(i:Nat):SB->SB
 | .ref r=>if r=i then .any else .ref r
 |x=>x
def SC.kill(i:Nat):SC->SC
 | .b x=>.b (x.kill i)
 | .agg xs=>.agg (xs.map (SB.kill i))
 | .tv xs=>.tv (xs.map λ| .inl x=>.inl (x.kill i) | .inr l=>.inr (l.map (SB.kill i)))
 | .ptr q o=>if q=i then .any else .ptr q o
 | .pG r k a o=>if r=i then .any else .pG r k a o
 | .fn F c=>if c.contains i then .any else .fn F c
 |x=>x
def SS.kill(S:SS)(i:Nat):SS:=⟨S.sl.map λp=>(p.1,⟨p.2.gs,p.2.c.kill i⟩),S.bx.map λp=>(p.1,p.2.map (SB.kill i)),S.rw⟩
def SS.put(S:SS)(a:u Nat)(g:SG):SS:=
 match a with
 |some d=>{S with sl:=(d,g)::S.sl }
 |none=>S
def SS.gB(S:SS)(b:Nat)(a:M SB):SS:={S with bx:=(b,a)::sy S.bx b }
def SS.setRow(S:SS)(r:Nat)(x:SR):SS:={S with rw:=(r,x)::sy S.rw r }
def SS.dL(S:SS)(r:Nat):SS:={S with rw:=sy S.rw r }
def SS.j9(S:SS)(b:Nat)(a:M SB):SS:=(S.kill b).gB b a
def SS.newRow(S:SS)(r:Nat)(x:SR):SS:=(S.kill r).setRow r x
def SS.ey(S:SS)(a:zA):SS:=⟨jk S.sl a.s,jk S.bx a.b,jk S.rw a.r⟩
section
variable {ρ:M D}
theorem ox.kill i:∀{x c},ox ρ x c->ox ρ (x.kill i) (c.kill i)
 | .d e,_,⟨x,b,a⟩=>by subst a;exact⟨x,b,rfl⟩
 | .nil _ _,_,h=>by cases h;rfl
 | .ref r,_,h=>by cases h;simp[SB.kill,C.kill];split;{trivial};rfl
 | .any,_,_=>trivial
theorem fN.kill i:∀{a b},fN ρ a b->fN ρ (a.map (SB.kill i)) (C.jU i b)
 |[],_,h=>by cases h;rfl
 |_::_,_,⟨c,g,f,e,d⟩=>by subst f;exact⟨_,_,rfl,e.kill i,fN.kill i d⟩
theorem yg.kill i:∀{e f},yg ρ e f->yg ρ (e.map λ| .inl x=>.inl (x.kill i) | .inr l=>.inr (l.map (SB.kill i))) (C.jU i f)
 |[],_,h=>by cases h;rfl
 | .inl _::_,_,⟨c,g,d,b,a⟩=>by subst d;exact⟨_,_,rfl,b.kill i,yg.kill i a⟩
 | .inr _::_,_,⟨j,g,d,b,a⟩=>by subst d;exact⟨_,_,rfl,b.kill i,yg.kill i a⟩
theorem na.kill i:∀{x c},na ρ x c->na ρ (x.kill i) (c.kill i)
 | .b _,_,h=>ox.kill i h
 | .agg _,_,⟨cs,e,d⟩=>by subst e;exact⟨_,rfl,d.kill i⟩
 | .tv _,_,⟨cs,e,d⟩=>by subst e;exact⟨_,rfl,d.kill i⟩
 | .ptr b o,_,h=>by cases h;simp[SC.kill,C.kill];split;{trivial};rfl
 | .pG r k a o,_,⟨n,e,d⟩=>by subst d;simp[SC.kill,C.kill];split;{trivial};exact⟨n,e,rfl⟩
 | .vc _ _,_,⟨x,cs,e,d,f⟩=>by subst f;exact⟨x,cs,e,d,rfl⟩
 | .fn F g,_,h=>by cases h;simp[SC.kill,C.kill];split;{trivial};rfl
 | .any,_,_=>trivial
theorem pI{a β:Type}(f:a->β)l d:look (l.map λp=>(p.1,f p.2)) d=(look l d).map f:=by induction l with|nil=>{rfl}|cons p l b=>simp[look,b];split<;>rfl
theorem aat(s:St)i d:(s.kill i).get d=(s.get d).kill i:=by simp[St.get,St.kill,yU];cases look s.sl d<;>rfl
variable {S:SS} {s:St}
theorem Rel.kill(h:Rel ρ S s)(i:Nat):Rel ρ (S.kill i) (s.kill i) where
 sl d g a:=by simp[SS.kill]at a;rw[pI (λg:SG=>(⟨g.gs,g.c.kill i⟩:SG)),aC]at a;obtain⟨o,l,rfl⟩:=a;obtain⟨b,j,f,n⟩:=h.sl d o l;rw[aat];exact⟨b,j,λe=>(f e).kill i,λe=>by rw[n e];rfl⟩
 bx b m a:=by simp[SS.kill]at a;rw[pI (λm:M SB=>m.map (SB.kill i)),aC]at a;obtain⟨p,l,rfl⟩:=a;obtain⟨q,j,f⟩:=h.bx b p l;exact⟨_,by simp only[St.kill,yT,j];rfl,f.kill i⟩
 rw r x a:=h.rw r x a
theorem adN(s:St)d e c:(s.put (Z d) c).get e=if d=e then c else s.get e:=by simp[St.get,St.put,look];split<;>rfl
theorem Rel.put(h:Rel ρ S s)dst{g c}(j:tE ρ g c):Rel ρ (S.put dst g) (s.put dst c):=by
 cases dst with
 |none=>exact h
 |some d=>exact {
   sl:=λe i a=>by simp[SS.put,look]at a;rw[adN];split at a;{simp_all};rename_i f;rw[if_neg f];exact h.sl e i a
   bx:=h.bx
   rw:=h.rw }
theorem tE.nil{c x}(h:na ρ c x):tE ρ ⟨[],c⟩ x:=⟨I,rfl,λ_=>h,λh=>by cases h⟩
theorem Rel.gB(h:Rel ρ S s)(b:Nat){c:M SB}{i:M C}(j:fN ρ c i):Rel ρ (S.gB b c) (s.gB b i) where
 sl d g a:=h.sl d g a
 bx e ys a:=by simp[SS.gB,look,St.gB,fL]at a ⊢;split at a;{simp_all};rename_i f;rw[if_neg f,if_neg f];exact h.bx e ys a
 rw r x a:=h.rw r x a
theorem Rel.setRow(h:Rel ρ S s)(r:Nat){x:SR}{y:Row}(i:SRr ρ x y):Rel ρ (S.setRow r x) (s.setRow r y) where
 sl d g c:=h.sl d g c
 bx e ys c:=h.bx e ys c
 rw q a c:=by simp[SS.setRow,look,St.setRow,fL]at c ⊢;split at c;{simp_all};rename_i f;rw[if_neg f,if_neg f];exact h.rw q a c
theorem Rel.dL(h:Rel ρ S s)(r:Nat):Rel ρ (S.dL r) (s.dL r) where
 sl d g c:=h.sl d g c
 bx e ys c:=h.bx e ys c
 rw q a c:=by simp only[SS.dL,St.dL,fL]at c ⊢;split at c;{cases c};rename_i f;rw[if_neg f];exact h.rw q a c
theorem Rel.j9(h:Rel ρ S s)b{xs cs}(a:fN ρ xs cs):Rel ρ (S.j9 b xs) (s.j9 b cs):=(h.kill b).gB b a
theorem Rel.newRow(h:Rel ρ S s)r{x y}(a:SRr ρ x y):Rel ρ (S.newRow r x) (s.newRow r y):=(h.kill r).setRow r a
theorem ju{b:Type}l:∀(a) {e} {x:b},look (jk l a) e=Z x->look l e=Z x/\e∈a
 |[],_,_,h=>by simp[jk,look]at h
 |d::a,e,x,h=>by unfold jk at h;cases hd:look l d with|none=>{rw[hd]at h;have:=ju l a h;exact⟨this.1,eb _ this.2⟩}|some y=>rw[hd]at h;simp[look]at h;split at h;{simp_all};have:=ju l a h;simp_all
theorem sW{f:Type}l:∀(a) {e} {x:f},look l e=Z x->e∈a->look (jk l a) e=Z x
 |[],_,_,_,h=>by cases h
 |d::a,e,x,h,g=>by unfold jk;by_cases hd:d=e;{subst hd;rw[h];simp[look]};have b:e∈a:=by{rcases aU.1 g with c|c;{exact absurd c.symm hd};exact c};cases look l d with|none=>{exact sW l a h b}|some y=>simp[look,if_neg hd];exact sW l a h b
theorem FC(s:St)a{d}(h:d∈a.s):(s.ey a).get d=s.get d:=by simp[St.get,St.ey];cases b:look s.sl d with|some x=>{rw[sW _ _ b h]}|none=>cases c:look (jk s.sl a.s) d with|none=>{rfl}|some x=>rw[(ju _ _ c).1]at b;cases b
theorem Rel.ey(h:Rel ρ S s)(f:zA):Rel ρ (S.ey f) (s.ey f) where
 sl d g a:=by obtain⟨e,c⟩:=ju _ _ a;rw[FC s f c];exact h.sl d g e
 bx b xs a:=by obtain⟨e,c⟩:=ju _ _ a;obtain⟨l,j,i⟩:=h.bx b xs e;exact⟨l,sW _ _ j c,i⟩
 rw r x a:=by obtain⟨e,c⟩:=ju _ _ a;obtain⟨y,j,i⟩:=h.rw r x e;exact⟨y,sW _ _ j c,i⟩
end
inductive PO where
 |cel (o:Nat)
 |has (n:Nat)
 |bin (op:BinOp)
 |Yd (op:BinOp)
 |not
 |neg
 |conv (k:IntKind)
 |len
 |sln
 |min
 |max
 |six
 |el (k:Nat)
 |Zg
 |MQ (k o n:Nat) (deep:Bool)
 |ite
 |MZ (hi:Bool)
 |AS (k:Nat) (hi:Bool)
 |Qt
 |lu (k:Nat) (fl:Bool)
 |make (k by_:Nat) (fl:Bool) (zs:List SK)
 |app (k by_:Nat)
 |set (o:Nat)
 |cut (hi:Bool)
 |Kv
 |jnl
 |jnb
 |lst (k:Nat) (fl:Bool)
 |tru
 |pl
 |xG
 deriving DecidableEq
def dI:D->u Nat
 | .int .i64 n=>if 0<=n then Z n.toNat else O
 |_=>O
def chunk(k:Nat):Nat->M D->u (M (M D))
 |0,[]=>Z []
 |0,_=>O
 |m+1,xs=>if k<=xs.length then (chunk k m (xs.drop k)).map (xs.take k::·) else O
def asD:u C->u D
 |some (.d x)=>Z x
 |_=>O
def aP:PO->M D->u D
 | .cel o,[x]=>match elC x with
  |some l=>nth l o
  |none=>O
 | .has n,[x]=>match elC x with
  |some l=>if n<=l.length then Z (.bool J) else O
  |none=>O
 | .bin op,[x,y]=>asD (U_ op (.d x) (.d y))
 | .Yd op,[.bool a,.bool b]=>Y2 op a b
 | .not,[.bool b]=>Z (.bool (!b))
 | .neg,[.int k a]=>Z (.int k (k.wrap (-a)))
 | .conv k,[.int _ a]=>Z (.int k (k.wrap a))
 | .len,[.list _ _ es]=>Z (.int .i64 es.length)
 | .sln,[.str t]=>Z (.int .i64 t.size)
 | .min,[.int .i64 a,.int .i64 b]=>Z (.int .i64 (if b<a then b else a))
 | .max,[.int .i64 a,.int .i64 b]=>Z (.int .i64 (if a<b then b else a))
 | .six,[.str t,.int .i64 n]=>if 0<=n/\n.toNat<t.size then Z (.int .u8 (bY t n.toNat)) else O
 | .el k,[.list f _ es,.int .i64 n]=>if 0<=n/\f=k then (nth es n.toNat).map λe=>.list 0 J [e] else O
 | .Zg,[.list _ _ es,.int .i64 n]=>if 0<=n/\n.toNat<es.length then Z (.bool J) else O
 | .MQ k o n deep,[.list f _ es,.int .i64 i]=>match nth es i.toNat with
  |some e=>if f=k/\o+n<=k/\o+n<=e.length/\(dc ((e.drop o).take n) ||!deep)=I then Z (.list 0 J [e]) else O
  |none=>O
 | .ite,[.bool b,x,y]=>Z (if b then x else y)
 | .MZ J,[.str t,h]=>match dI h with
  |some a=>if a<=t.size then Z (.str (t.extract a t.size)) else O
  |none=>O
 | .MZ I,[.str t,h,p]=>match dI h,dI p with
  |some a,Z b=>if a<=b/\b<=t.size then Z (.str (t.extract a b)) else O
  |_,_=>O
 | .AS k J,[.list f c es,h]=>match dI h with
  |some a=>if f=k/\a<=es.length then Z (.list f c (es.drop a)) else O
  |none=>O
 | .AS k I,[.list f c es,h,p]=>match dI h,dI p with
  |some a,Z b=>if f=k/\a<=b/\b<=es.length then Z (.list f c ((es.take b).drop a)) else O
  |_,_=>O
 | .Qt,[.list 1 _ es]=>(bytesOf es).map λj=>.str ⟨(j.map λn=>dT n.toNat).toArray⟩
 | .lu k c,j=>if j.length % k=0 then match chunk k (j.length / k) j with
   |some es=>if c=I->es.all dc=I then Z (.list k c es) else O
   |none=>O
  else O
 | .make k m c w,[.int .i64 n]=>if 0<=n/\n.toNat * m<=room/\n<=4611686018427387904 then Z (.list k c (aW n.toNat (w.map SK.d))) else O
 | .app k m,[.list B v es,.list A C g]=>if B=k/\A=k/\v=C/\(es.length+g.length) * m<=room/\es.length+g.length<=maxLen then Z (.list k v (es++g)) else O
 | .set o,.list k c es::.int .i64 i::r=>match nth es i.toNat with
  |some e=>if o+r.length<=k/\(c=I->dc r=I) then Z (.list k c (es.set i.toNat (nM e o r))) else O
  |none=>O
 | .cut J,[.list k c es,h]=>match dI h with
  |some a=>if a<=es.length then Z (.list k c (es.drop a)) else O
  |none=>O
 | .cut I,[.list k c es,h,p]=>match dI h,dI p with
  |some a,Z b=>if a<=b/\b<=es.length then Z (.list k c ((es.take b).drop a)) else O
  |_,_=>O
 | .Kv,[.list k c es,.list f q g]=>if f=k/\q=I/\c=I/\g.length=es.length then Z (.list k c g) else O
 | .jnl,[.list k c es,.list f _ g]=>if k=1/\f=1/\c=I/\g.length=es.length/\g≠[] then (match nN es,nN g with
   |some s,Z l=>Z (.list 1 I ((dJ s l).map λb=>[D.bool b]))
   |_,_=>O) else O
 | .jnb,[.list _ _ es,.list _ _ g]=>match nN es,nN g with
   |some s,Z l=>Z (.bool (nq s l))
   |_,_=>O
 | .lst k c,[.list f q es]=>if f=k/\q=c then Z (.list k c es) else O
 | .tru,[.bool b]=>Z (.bool b)
 | .pl,j=>if dc j=I then Z (.bool J) else O
 | .xG,j=>if dc j=I then O else Z (.bool J)
 |_,_=>O
def jq(a:M D):M SE->u (M D)
 |[]=>Z []
 |e::es=>match e.d a with
  |some x=>(jq a es).map (x::·)
  |none=>O
abbrev Bs:=M (PO×M SE)
def nL(a:M D):Bs->u (M D)
 |[]=>Z a
 |(o,es)::c=>match jq a es with
  |some b=>match aP o b with
   |some x=>nL (a++[x]) c
   |none=>O
  |none=>O
def gy(S:SS)(a:Gs):KX->u SC
 | .s d=>match look S.sl d with
  |some g=>if g.gs.all (λp=>Z' (p∈a)) then Z g.c else O
  |none=>O
 | .k (.d (.int k n))=>Z (.b (.d (.k (.int k n))))
 | .k (.d (.bool b))=>Z (.b (.d (.k (.bool b))))
 | .k (.d (.str t))=>Z (.b (.d (.k (.str t))))
 | .k (.nil k e)=>Z (.b (.nil k e))
 | .k .any=>Z .any
 |_=>O
def sD:u SC->u SE
 |some (.b (.d e))=>Z e
 |_=>O
section
variable {ρ:M D} {S:SS} {s:St} {gs:Gs}
theorem nT:∀{gs},jM ρ gs=Z I->∀p∈gs,p.1.d ρ=Z (.bool p.2)
 |[],_,_,a=>by cases a
 |(g,w)::gs,h,p,a=>by simp[jM]at h;split at h;{rename_i b e;split at h;{rename_i c;subst c;rcases aU.1 a with rfl|a;{exact e};exact nT h p a};cases h};cases h
theorem Jg:∀{gs},(∀p∈gs,p.1.d ρ=Z (.bool p.2))->jM ρ gs=Z I
 |[],_=>rfl
 |(g,w)::gs,h=>by have b:=h (g,w) (by simp);simp[jM,b];exact Jg λp a=>h p (by simp[a])
theorem QZ{gs a}(h:jM ρ gs=Z I)(b:a.all (λp=>Z' (p∈gs))=I):jM ρ a=Z I:=
 Jg λp c=>nT h p (by simpa using bF.1 b p c)
theorem cX(h:Rel ρ S s)(j:jM ρ gs=Z I){x c}(a:gy S gs x=Z c):na ρ c (gF s x):=by unfold gy at a;split at a;{rename_i d;split at a;{rename_i g i;split at a;{rename_i f;cases a;obtain⟨b,e,k,_⟩:=h.sl d g i;rw[QZ j f]at e;cases e;exact k rfl};cases a};cases a};{cases a;exact⟨_,rfl,rfl⟩};{cases a;exact⟨_,rfl,rfl⟩};{cases a;exact⟨_,rfl,rfl⟩};{cases a;rfl};{cases a;trivial};cases a
theorem ma(h:Rel ρ S s)(b:jM ρ gs=Z I){x e}(a:sD (gy S gs x)=Z e):∃y,e.d ρ=Z y/\gF s x=.d y:=by unfold sD at a;split at a;{rename_i f c;cases a;exact cX h b c};cases a
theorem gh{e xs}(h:jq ρ [e]=Z xs):∃x,e.d ρ=Z x/\xs=[x]:=by simp[jq]at h;split at h;{rename_i x a;simp at h;exact⟨x,a,h.symm⟩};cases h
theorem eD{e es xs}(h:jq ρ (e::es)=Z xs):∃x ys,e.d ρ=Z x/\jq ρ es=Z ys/\xs=x::ys:=by simp[jq]at h;split at h;simp at h;obtain⟨ys,b,a⟩:=h;simp_all;cases h
theorem fy{o es b}(h:nL ρ [(o,es)]=Z b):∃a x,jq ρ es=Z a/\aP o a=Z x/\b=ρ++[x]:=by simp[nL]at h;split at h;{split at h;{simp_all};cases h};cases h
theorem oK:∀{c ρ a},nL ρ c=Z a->∃b,a=ρ++b
 |[],ρ,a,h=>by cases h;exact⟨[],by simp⟩
 |(o,es)::c,ρ,a,h=>by simp[nL]at h;split at h;{split at h;obtain⟨b,d⟩:=oK h;simp_all;cases h};cases h
end
def SC.cells:SC->u (M SB)
 | .b x=>Z [x]
 | .agg xs=>Z xs
 |_=>O
def SB.cell:SB->Bool
 | .any=>J
 |_=>I
def afw{a:Type}(l:M a)(o:Nat)(n:M a):M a:=l.take o++n++l.drop (o+n.length)
def vr:C->u SB
 | .d (.int k n)=>Z (.d (.k (.int k n)))
 | .d (.bool b)=>Z (.d (.k (.bool b)))
 | .d (.str t)=>Z (.d (.k (.str t)))
 | .nil k a=>Z (.nil k a)
 |_=>O
def Eh(S:SS)(d:Gs)(a:M SB):M (Nat×Nat×KX)->u (M SB)
 |[]=>Z a
 |(o,n,x)::e=>match gy S d x with
  |some c=>match c.cells with
   |some b=>if b.length=n/\o+n<=a.length/\b.all SB.cell=I then Eh S d (afw a o b) e else O
   |none=>O
  |none=>O
def DR(i o:Nat):Nat->M SB
 |0=>[]
 |n+1=>.d (.c i o)::DR i (o+1) n
def vN(n:Nat):SC:=.b (.d (.v n))
def O2(n:Nat)(o:PO):M (u SE)->u (Bs×SC)
 |[Z a]=>Z ([(o,[a])],vN n)
 |[Z a,Z b]=>Z ([(o,[a,b])],vN n)
 |[Z a,Z b,Z c]=>Z ([(o,[a,b,c])],vN n)
 |_=>O
def Bm(S:SS)(a:Gs):u KX->u SE
 |none=>Z (.k (.int .i64 0))
 |some x=>sD (gy S a x)
def Uv(S:SS)(a:Gs):M KX->u (M Nat)
 |[]=>Z []
 |x::xs=>match gy S a x with
  |some (.ptr b 0)=>(Uv S a xs).map (b::·)
  |_=>O
def afD(S:SS)(a:Gs)(n:Nat):KO->u (Bs×SC)
 | .mv x=>(gy S a x).map λc=>([],c)
 | .pick c x y=>match sD (gy S a c) with
  |some e=>if (e,I)∈a then (gy S a x).map λc=>([],c) else if (e,J)∈a then (gy S a y).map λc=>([],c)
   else O2 n .ite [Z e,sD (gy S ((e,I)::a) x),sD (gy S ((e,J)::a) y)]
  |none=>O
 | .build t w=>match ig vr t with
  |some s=>(Eh S a s w).map λl=>([],.agg l)
  |none=>O
 | .ld m x=>match gy S a x with
  |some (.ptr b o)=>match look S.bx b with
   |some f=>if m=0 then (nth f o).map λy=>([],.b y) else if o+m<=f.length then Z ([],.agg ((f.drop o).take m)) else O
   |none=>O
  |some (.vc i o)=>if m=0 then Z ([(.cel o,[.v i])],vN n) else Z ([(.has (o+m),[.v i])],.agg (DR i o m))
  |some (.pG r k i o)=>match look S.rw r with
   |some row=>if row.k=k then (if m=0 then Z ([(.MQ k o 1 row.deep,[row.e,i]),(.cel o,[.v n])],vN (n+1)) else Z ([(.MQ k o m row.deep,[row.e,i])],.agg (DR n o m))) else O
   |none=>O
  |_=>O
 | .fa o x=>match gy S a x with
  |some (.ptr b p)=>Z ([],.ptr b (p+o))
  |some (.vc i p)=>Z ([],.vc i (p+o))
  |some (.pG r k i p)=>Z ([],.pG r k i (p+o))
  |_=>O
 | .ia k x i=>match gy S a x,sD (gy S a i) with
  |some (.b (.d e)),Z j=>Z ([(.el k,[e,j])],.vc n 0)
  |some (.b (.ref r)),Z j=>match look S.rw r with
   |some row=>if row.k=k then Z ([(.Zg,[row.e,j])],.pG r k j 0) else O
   |none=>O
  |_,_=>O
 | .six x i=>O2 n .six [sD (gy S a x),sD (gy S a i)]
 | .bin op x y=>O2 n (.bin op) [sD (gy S a x),sD (gy S a y)]
 | .Yd op x y=>O2 n (.Yd op) [sD (gy S a x),sD (gy S a y)]
 | .not x=>O2 n .not [sD (gy S a x)]
 | .neg x=>O2 n .neg [sD (gy S a x)]
 | .conv k x=>O2 n (.conv k) [sD (gy S a x)]
 | .len x=>match gy S a x with
  |some (.b (.d e))=>Z ([(.len,[e])],vN n)
  |some (.b (.nil _ _))=>Z ([],.b (.d (.k (.int .i64 0))))
  |some (.b (.ref r))=>match look S.rw r with
   |some row=>Z ([(.len,[row.e])],vN n)
   |none=>O
  |_=>O
 | .sln x=>O2 n .sln [sD (gy S a x)]
 | .min x y=>O2 n .min [sD (gy S a x),sD (gy S a y)]
 | .max x y=>O2 n .max [sD (gy S a x),sD (gy S a y)]
 | .ext x i=>match gy S a x with
  |some (.tv f)=>match nth f i with
   |some (.inl y)=>Z ([],.b y)
   |some (.inr l)=>Z ([],.agg l)
   |none=>O
  |_=>O
 | .slc x q=>O2 n (.cut I) [sD (gy S a x),Z (.k (.int .i64 0)),sD (gy S a q)]
 | .MZ x g q=>match q with
  |none=>O2 n (.MZ J) [sD (gy S a x),Bm S a g]
  |some h=>O2 n (.MZ I) [sD (gy S a x),Bm S a g,sD (gy S a h)]
 | .AS k x g q=>match q with
  |none=>O2 n (.AS k J) [sD (gy S a x),Bm S a g]
  |some h=>O2 n (.AS k I) [sD (gy S a x),Bm S a g,sD (gy S a h)]
 | .nck x=>match gy S a x with
  |some (.ptr b o)=>Z ([],.ptr b o)
  |some (.vc i o)=>Z ([],.vc i o)
  |some (.pG r k i o)=>Z ([],.pG r k i o)
  |_=>O
 | .Qt x=>match gy S a x with
  |some (.b (.ref r))=>match look S.rw r with
   |some row=>if row.k=1 then Z ([(.Qt,[row.e])],vN n) else O
   |none=>O
  |_=>O
 | .fld o x=>match gy S a x with
  |some (.agg f)=>(nth f o).map λy=>([],.b y)
  |_=>O
 | .mkf F f=>(Uv S a f).map λA=>([],.fn F A)
 |_=>O
section
variable {ρ jK:M D} {S:SS} {s:St} {gs:Gs} {bs:Bs} {c:SC}
theorem fN.nth:∀{xs b i x},fN ρ xs b->nth xs i=Z x->∃c,nth b i=Z c/\ox ρ x c
 |_::_,_,0,_,⟨c,_,a,e,_⟩,h=>by cases h;subst a;exact⟨c,rfl,e⟩
 |_::xs,_,i+1,_,⟨_,b,a,_,d⟩,h=>by subst a;exact fN.nth (xs:=xs) (i:=i) d h
 |[],_,_,_,_,h=>by cases h
theorem fN.len:∀{a b},fN ρ a b->b.length=a.length
 |[],_,h=>by cases h;rfl
 |_::_,_,⟨_,_,e,_,d⟩=>by subst e;simp[fN.len d]
theorem fN.drop:∀(n) {xs cs},fN ρ xs cs->fN ρ (xs.drop n) (cs.drop n)
 |0,_,_,h=>h
 |_+1,[],_,h=>by cases h;rfl
 |n+1,_::_,_,⟨_,_,b,_,a⟩=>by subst b;exact fN.drop n a
theorem fN.take:∀(n) {xs cs},fN ρ xs cs->fN ρ (xs.take n) (cs.take n)
 |0,_,_,_=>rfl
 |_+1,[],_,h=>by cases h;rfl
 |n+1,_::_,_,⟨c,_,d,b,a⟩=>by subst d;exact⟨c,_,rfl,b,fN.take n a⟩
theorem fN.app:∀{b ys e d},fN ρ b e->fN ρ ys d->fN ρ (b++ys) (e++d)
 |[],_,_,_,h,a=>by cases h;exact a
 |_::_,_,_,_,⟨c,_,i,g,f⟩,a=>by subst i;exact⟨c,_,rfl,g,fN.app f a⟩
theorem fN.spl o{xs ys cs b}(h:fN ρ xs cs)(a:fN ρ ys b):fN ρ (afw xs o ys) (nM cs o b):=by unfold afw nM;rw[a.len];exact ((h.take o).app a).app (h.drop _)
theorem ox.cell{x c}(h:ox ρ x c)(a:x.cell=I):c.cell=I:=by cases x with|d e=>{obtain⟨y,_,rfl⟩:=h;rfl}|nil k b=>{cases h;rfl}|ref r=>{cases h;rfl}|any=>cases a
theorem fN.cell:∀{a b},fN ρ a b->a.all SB.cell=I->b.all C.cell=I
 |[],_,h,_=>by cases h;rfl
 |_::_,_,⟨_,_,f,e,d⟩,h=>by subst f;simp only[dt,aw]at h ⊢;exact⟨e.cell h.1,fN.cell d h.2⟩
theorem na.cells{x c xs}(h:na ρ x c)(a:x.cells=Z xs)(d:xs.all SB.cell=I):fN ρ xs c.cells:=by cases x with|b y=>{cases a;simp at d;refine⟨c,[],?_,h,rfl⟩;have:=ox.cell h d;cases c<;>simp_all[C.cell,C.cells]}|agg ys=>{cases a;obtain⟨f,rfl,e⟩:=h;exact e}|_=>cases a
theorem Qz{a x}(h:vr a=Z x):ox ρ x a:=by unfold vr at h;split at h<;>first|(cases h;exact⟨_,rfl,rfl⟩)|(cases h;rfl)|cases h
theorem yl:∀{b d},ig vr b=Z d->fN ρ d b
 |[],_,h=>by cases h;rfl
 |a::b,d,h=>by simp[ig]at h;split at h;{rename_i y e;simp at h;obtain⟨ys,f,rfl⟩:=h;exact⟨a,b,rfl,Qz e,yl f⟩};cases h
theorem Dj(h:Rel ρ S s)(j:jM ρ gs=Z I):∀(d) {b l cs},Eh S gs b d=Z l->fN ρ b cs->∃e,E4 cs (d.map λp=>(p.1,p.2.1,(gF s p.2.2).cells))=Z e/\fN ρ l e
 |[],b,l,cs,a,f=>by cases a;exact⟨cs,rfl,f⟩
 |(o,n,x)::d,b,l,cs,a,f=>by simp only[Eh]at a;split at a;{rename_i c q;split at a;{rename_i ys m;split at a;{rename_i i;obtain⟨i,v,k⟩:=i;have g:=(cX h j q).cells m k;obtain⟨e,t,r⟩:=Dj h j d a (f.spl o g);refine⟨e,?_,r⟩;simp only[bz,E4];rw[if_pos ⟨by rw[g.len,i],by rw[f.len];exact v,g.cell k⟩];exact t};cases a};cases a};cases a
theorem vp{i x cs}(a:nth ρ i=Z x)(b:elC x=Z cs):∀n o,o+n<=cs.length->fN ρ (DR i o n) (((cs.drop o).take n).map .d)
 |0,o,_=>rfl
 |n+1,o,h=>by (have e:o<cs.length:=by omega);rw[kg e,cy,bz];exact⟨_,_,rfl,⟨cs[o],by simp only[SE.d,a,b,ek];simp,rfl⟩,vp a b n (o+1) (by omega)⟩
theorem iE{n o l}(h:O2 n o l=Z (bs,c))(e:n=ρ.length)(f:nL ρ bs=Z jK):∃es a x,l=es.map Z/\jq ρ es=Z a/\aP o a=Z x/\jK=ρ++[x]/\na jK c (.d x):=by have fin:∀{es},bs=[(o,es)]->c=vN n->l=es.map Z->∃es a x,l=es.map Z/\jq ρ es=Z a/\aP o a=Z x/\jK=ρ++[x]/\na jK c (.d x):=by{intro es m k j;subst m k;obtain⟨a,x,i,g,b⟩:=fy f;refine⟨es,a,x,j,i,g,b,?_⟩;subst b e;exact⟨x,kt ρ x [],rfl⟩};unfold O2 at h;split at h;{simp at h;exact fin h.1.symm h.2.symm rfl};{simp at h;exact fin h.1.symm h.2.symm rfl};{simp at h;exact fin h.1.symm h.2.symm rfl};cases h
theorem opD(h:Rel ρ S s)(g:jM ρ gs=Z I):∀(b:M KX) {es ys},b.map (λx=>sD (gy S gs x))=es.map Z->jq ρ es=Z ys->b.map (gF s)=ys.map .d
 |[],es,ys,a,f=>by (have:es=[]:=by simpa using a.symm);subst this;cases f;rfl
 |x::b,[],ys,a,f=>by simp at a
 |x::b,e::es,ys,a,f=>by simp at a;obtain⟨y,m,l,k,rfl⟩:=eD f;obtain⟨n,i,j⟩:=ma h g a.1;rw[l]at i;cases i;simp[j,opD h g b a.2 k]
theorem aeO(h:Rel ρ S s)(f:jM ρ gs=Z I){x es xs}(e:[sD (gy S gs x)]=es.map Z)(g:jq ρ es=Z xs):∃a,xs=[a]/\gF s x=.d a:=by have:=opD h f [x] e g;rcases xs with _|⟨a,_|⟨b,l⟩⟩;{simp at this};{simp_all};simp at this
theorem ac_(h:Rel ρ S s)(f:jM ρ gs=Z I){x y es xs}(e:[sD (gy S gs x),sD (gy S gs y)]=es.map Z)(g:jq ρ es=Z xs):∃a b,xs=[a,b]/\gF s x=.d a/\gF s y=.d b:=by have:=opD h f [x,y] e g;rcases xs with _|⟨a,_|⟨b,_|⟨c,l⟩⟩⟩;{simp at this};{simp at this};{simp_all};simp at this
theorem XM(h:Rel ρ S s)(l:jM ρ gs=Z I){lo e x a}(f:Bm S gs lo=Z e)(g:e.d ρ=Z x)(hd:dI x=Z a):∀b,(lo=O->b=0)->Cx s lo b=Z a:=by intro b j;cases lo with|none=>{cases f;cases g;simp[SK.d,dI]at hd;simp[Cx,j rfl];simpa using hd}|some y=>simp[Bm]at f;obtain⟨v,i,n⟩:=ma h l f;rw[g]at i;cases i;simp[Cx];cases x with|int k m=>{cases k<;>simp_all[dI]}|_=>simp[dI]at hd
theorem lb{es xs}(h:jq ρ es=Z xs):xs.length=es.length:=by induction es generalizing xs with|nil=>{cases h;rfl}|cons e es a=>obtain⟨x,ys,_,b,rfl⟩:=eD h;simp[a b]
theorem O7(h:Rel ρ S s)(f:jM ρ gs=Z I):∀{d l},Uv S gs d=Z l->Ha (d.map (gF s))=Z l
 |[],l,a=>by cases a;rfl
 |x::d,l,a=>by simp[Uv]at a;split at a;{rename_i b g;obtain⟨j,i,rfl⟩:=aC.1 a;have e:=cX h f g;simp[na]at e;rw[bz,e];simp[Ha,O7 h f i]};cases a
theorem Hy(h:Rel ρ S s)(F:jM ρ gs=Z I){n}(R:n=ρ.length){o}(w:afD S gs n o=Z (bs,c))(G:nL ρ bs=Z jK):∃v,jw s o=Z v/\na jK c v:=by unfold afD at w;split at w;{simp only[aC,cH]at w;obtain⟨c',A,rfl,rfl⟩:=w;cases G;exact⟨_,rfl,cX h F A⟩};{split at w;{rename_i e he;obtain⟨cv,K,U⟩:=ma h F he;split at w;{rename_i W;have:=nT F _ W;rw[K]at this;cases this;simp only[aC,cH]at w;obtain⟨c',A,rfl,rfl⟩:=w;cases G;exact⟨_,by simp only[jw,U,if_true],cX h F A⟩};split at w;{rename_i W;have:=nT F _ W;rw[K]at this;cases this;simp only[aC,cH]at w;obtain⟨c',A,rfl,rfl⟩:=w;cases G;exact⟨_,by simp only[jw,U,aQ,if_false],cX h F A⟩};obtain⟨es,P,x,A,C,g,N,B⟩:=iE w R G;rcases es with _|⟨e0,_|⟨e1,_|⟨e2,_|⟨e3,l⟩⟩⟩⟩<;>simp at A;obtain⟨rfl,H,Y⟩:=A;obtain⟨c0,ys,X,g2,rfl⟩:=eD C;obtain⟨a,zs,g3,g4,rfl⟩:=eD g2;obtain⟨b,g5,rfl⟩:=gh g4;rw[X]at K;cases K;cases cv with|bool t=>{simp only[aP,bq]at g;cases t with|true=>{(have hg':jM ρ ((e,I)::gs)=Z I:=by simp only[jM,X,if_true];exact F);obtain⟨a',L,V⟩:=ma h hg' H;rw[g3]at L;cases L;refine⟨_,by simp only[jw,U,if_true];rfl,?_⟩;rw[V];simp only[if_true]at g;rw[g];exact B}|false=>(have hg':jM ρ ((e,J)::gs)=Z I:=by simp only[jM,X,if_true];exact F);obtain⟨b',L,V⟩:=ma h hg' Y;rw[g5]at L;cases L;refine⟨_,by simp only[jw,U];rfl,?_⟩;simp only[aQ,if_false]at g ⊢;rw[V,g];exact B}|int k m=>{simp[aP]at g}|str t=>{simp[aP]at g}|list k fl es=>simp[aP]at g};cases w};{split at w;{rename_i zs' hz;simp only[aC,cH]at w;obtain⟨l,A,rfl,rfl⟩:=w;cases G;obtain⟨kh,C,g⟩:=Dj h F _ A (yl hz);exact⟨_,by simp only[jw,C,cV],⟨kh,rfl,g⟩⟩};cases w};{rename_i m x;split at w;{rename_i b o H;have Q:=cX h F H;simp only[na]at Q;split at w;{rename_i ys hl;obtain⟨cs,A,C⟩:=h.bx b ys hl;split at w;{rename_i W;simp only[aC,cH]at w;obtain⟨y,g,rfl,rfl⟩:=w;cases G;obtain⟨cv,N,B⟩:=C.nth g;exact⟨cv,by simp only[jw,Q,A,if_pos W,N],B⟩};rename_i W;split at w;{rename_i hle;cases w;cases G;exact⟨_,by simp only[jw,Q,A,if_neg W];rw[if_pos (by rw[C.len];exact hle)],⟨_,rfl,(C.drop o).take m⟩⟩};cases w};cases w};{rename_i i o H;obtain⟨el,cs,A,C,g⟩:=cX h F H;split at w;{rename_i W;cases w;obtain⟨P,y,N,B,rfl⟩:=fy G;obtain⟨a,K,rfl⟩:=gh N;simp only[SE.d,A,bq]at K;subst K;simp only[aP,C]at B;refine⟨.d y,?_,⟨y,by subst R;exact kt ρ y [],rfl⟩⟩;simp only[jw,g,if_pos W];rw[ek,List.getElem?_drop,dY,<- ek,B];rfl};rename_i W;cases w;obtain⟨P,y,N,B,rfl⟩:=fy G;obtain⟨a,K,rfl⟩:=gh N;simp only[SE.d,A,bq]at K;subst K;simp only[aP,C]at B;split at B;{rename_i hle;refine⟨_,?_,⟨_,rfl,(vp A C m o hle).mono _⟩⟩;simp only[jw,g,if_neg W];rw[if_pos (by rw[kO];omega)]};cases B};{rename_i r k i o H;obtain⟨iv,A,C⟩:=cX h F H;split at w;{rename_i row hl;obtain⟨y,g,es,N,rfl⟩:=h.rw r row hl;split at w;{rename_i hk;subst hk;have key:∀{q el},aP (.MQ row.k o q row.deep) [.list row.k row.fl es,.int .i64 iv]=Z el->∃e,nth es iv.toNat=Z e/\o+q<=row.k/\o+q<=e.length/\(dc ((e.drop o).take q) ||!row.deep)=I/\el=.list 0 J [e]:=by{intro q el he;simp only[aP]at he;split at he;{rename_i e iH;split at he;{rename_i T;cases he;exact⟨e,iH,T.2.1,T.2.2.1,T.2.2.2,rfl⟩};cases he};cases he};split at w;{rename_i W;cases w;simp only[nL]at G;split at G;{rename_i P Jo;split at G;{rename_i el HR;obtain⟨f,zs,L,V,rfl⟩:=eD Jo;obtain⟨z2,q3,rfl⟩:=gh V;rw[N]at L;cases L;rw[A]at q3;cases q3;obtain⟨e,e1,e2,e3,e4,rfl⟩:=key HR;split at G;{rename_i Sv aq1;split at G;{rename_i v hv;cases G;obtain⟨w0,w1,rfl⟩:=gh aq1;simp only[SE.d,R,kt,bq]at w1;subst w1;simp only[aP,elC]at hv;refine⟨.d v,?_,⟨v,by subst R;have:=kt (ρ++[.list 0 J [e]]) v [];simpa [SE.d] using this,rfl⟩⟩;subst W;simp only[jw,C,g,e1];rw[if_pos ⟨trivial,by simpa using e2,by simpa using e4⟩,if_pos trivial,hv];rfl};cases G};cases G};cases G};cases G};rename_i W;cases w;obtain⟨P,el,Jo,HR,rfl⟩:=fy G;obtain⟨f,zs,L,V,rfl⟩:=eD Jo;obtain⟨z2,q3,rfl⟩:=gh V;rw[N]at L;cases L;rw[A]at q3;cases q3;obtain⟨e,e1,e2,e3,e4,rfl⟩:=key HR;(have ahE:Max.max m 1=m:=by omega);refine⟨_,?_,⟨_,rfl,vp (x:=.list 0 J [e]) (by rw[R];exact kt ρ _ []) rfl m o e3⟩⟩;simp only[jw,C,g,e1,ahE];rw[if_pos ⟨trivial,e2,e4⟩,if_neg W]};cases w};cases w};cases w};{split at w;{rename_i b p H;cases w;cases G;have Q:=cX h F H;simp only[na]at Q;exact⟨_,by simp only[jw,Q],rfl⟩};{rename_i i p H;cases w;cases G;obtain⟨x,cs,A,C,g⟩:=cX h F H;exact⟨_,by simp only[jw,g];rfl,x,cs,A,C,by rw[zn]⟩};{rename_i r k i p H;cases w;cases G;obtain⟨iv,A,C⟩:=cX h F H;exact⟨_,by simp only[jw,C],iv,A,rfl⟩};cases w};{split at w;{rename_i e j H hj;cases w;obtain⟨P,y,N,B,rfl⟩:=fy G;obtain⟨a,zs,K,U,rfl⟩:=eD N;obtain⟨b,h8,rfl⟩:=gh U;obtain⟨a',h9,xS⟩:=cX h F H;obtain⟨b',BI,Ae⟩:=ma h F hj;rw[K]at h9;cases h9;rw[h8]at BI;cases BI;cases a with|list k' fl es=>{cases b with|int kk m=>{(cases kk<;>first|(simp[aP]at B;done)|skip);simp only[aP]at B;split at B;{rename_i T;simp only[aC]at B;obtain⟨el,L,rfl⟩:=B;exact⟨_,by simp only[jw,xS,Ae];rw[if_pos T,L];rfl,_,_,by rw[R];exact kt ρ _ [],rfl,rfl⟩};cases B}|_=>simp[aP]at B}|_=>cases b<;>simp[aP]at B};{rename_i r j H hj;split at w;{rename_i row hl;obtain⟨y,A,es,C,rfl⟩:=h.rw r row hl;split at w;{rename_i hk;cases w;obtain⟨P,y,N,B,rfl⟩:=fy G;obtain⟨a,zs,K,U,rfl⟩:=eD N;obtain⟨b,h8,rfl⟩:=gh U;obtain⟨b',BI,Ae⟩:=ma h F hj;rw[C]at K;cases K;rw[h8]at BI;cases BI;have Q:=cX h F H;simp only[na,ox]at Q;cases b with|int kk m=>{(cases kk<;>first|(simp[aP]at B;done)|skip);simp only[aP]at B;split at B;{rename_i T;exact⟨_,by simp only[jw,Q,Ae,A];rw[if_pos ⟨T.1,T.2,hk⟩],m,SE.mono _ h8,rfl⟩};cases B}|_=>simp[aP]at B};cases w};cases w};cases w};{obtain⟨es,P,y,A,C,g,rfl,B⟩:=iE w R G;obtain⟨a,b,rfl,K,U⟩:=ac_ h F A C;refine⟨_,?_,B⟩;simp only[jw,K,U];(cases a<;>cases b<;>first|(simp[aP]at g;done)|skip);rename_i t k m;(cases k<;>first|(simp[aP]at g;done)|skip);simp only[aP]at g;split at g;{rename_i T;cases g;simp only;rw[if_pos T]};cases g};{obtain⟨es,P,y,A,C,g,rfl,B⟩:=iE w R G;obtain⟨a,b,rfl,K,U⟩:=ac_ h F A C;refine⟨_,?_,B⟩;simp only[jw,K,U];simp only[aP]at g;unfold asD at g;split at g;{rename_i f hz;cases g;exact hz};cases g};{obtain⟨es,P,y,A,C,g,rfl,B⟩:=iE w R G;obtain⟨a,b,rfl,K,U⟩:=ac_ h F A C;refine⟨_,?_,B⟩;simp only[jw,K,U];(cases a<;>cases b<;>first|(simp[aP]at g;done)|skip);simp only[aP]at g;simp only[g,cV]};{obtain⟨es,P,y,A,C,g,rfl,B⟩:=iE w R G;obtain⟨a,rfl,K⟩:=aeO h F A C;refine⟨_,?_,B⟩;simp only[jw,K];(cases a<;>first|(simp[aP]at g;done)|skip);simp only[aP,bq]at g;simp only[g]};{obtain⟨es,P,y,A,C,g,rfl,B⟩:=iE w R G;obtain⟨a,rfl,K⟩:=aeO h F A C;refine⟨_,?_,B⟩;simp only[jw,K];(cases a<;>first|(simp[aP]at g;done)|skip);simp only[aP,bq]at g;simp only[g]};{obtain⟨es,P,y,A,C,g,rfl,B⟩:=iE w R G;obtain⟨a,rfl,K⟩:=aeO h F A C;refine⟨_,?_,B⟩;simp only[jw,K];(cases a<;>first|(simp[aP]at g;done)|skip);simp only[aP,bq]at g;simp only[g]};{split at w;{rename_i e H;cases w;obtain⟨P,y,N,B,rfl⟩:=fy G;obtain⟨a,K,rfl⟩:=gh N;obtain⟨a',h9,xS⟩:=cX h F H;rw[K]at h9;cases h9;refine⟨.d y,?_,y,by subst R;exact kt ρ y [],rfl⟩;simp only[jw,xS];(cases a<;>first|(simp[aP]at B;done)|skip);simp only[aP,bq]at B;simp only[B]};{rename_i k fl H;cases w;cases G;have Q:=cX h F H;simp only[na,ox]at Q;exact⟨_,by simp only[jw,Q];rfl,_,rfl,rfl⟩};{rename_i r H;split at w;{rename_i row hl;obtain⟨y,A,es,C,rfl⟩:=h.rw r row hl;simp only[bq,cH]at w;obtain⟨rfl,rfl⟩:=w;obtain⟨P,y,N,B,rfl⟩:=fy G;obtain⟨a,K,rfl⟩:=gh N;rw[C]at K;cases K;have Q:=cX h F H;simp only[na,ox]at Q;simp only[aP,bq]at B;exact⟨.d y,by simp only[jw,Q,A,<- B],y,by subst R;exact kt ρ y [],rfl⟩};cases w};cases w};{obtain⟨es,P,y,A,C,g,rfl,B⟩:=iE w R G;obtain⟨a,rfl,K⟩:=aeO h F A C;refine⟨_,?_,B⟩;simp only[jw,K];(cases a<;>first|(simp[aP]at g;done)|skip);simp only[aP,bq]at g;simp only[g]};{obtain⟨es,P,y,A,C,g,rfl,B⟩:=iE w R G;obtain⟨a,b,rfl,K,U⟩:=ac_ h F A C;refine⟨_,?_,B⟩;simp only[jw,K,U];(cases a<;>cases b<;>first|(simp[aP]at g;done)|skip);rename_i k1 a k2 b;(cases k1<;>cases k2<;>first|(simp[aP]at g;done)|skip);simp only[aP,bq]at g;simp only[g]};{obtain⟨es,P,y,A,C,g,rfl,B⟩:=iE w R G;obtain⟨a,b,rfl,K,U⟩:=ac_ h F A C;refine⟨_,?_,B⟩;simp only[jw,K,U];(cases a<;>cases b<;>first|(simp[aP]at g;done)|skip);rename_i k1 a k2 b;(cases k1<;>cases k2<;>first|(simp[aP]at g;done)|skip);simp only[aP,bq]at g;simp only[g]};{split at w;{rename_i ys H;obtain⟨cs,A,C⟩:=cX h F H;have key:∀{ys cs} (i),yg ρ ys cs->(∀y,nth ys i=Z (.inl y)->∃c,nth cs i=Z c/\ox ρ y c)/\(∀l,nth ys i=Z (.inr l)->∃ds,nth cs i=Z (.agg ds)/\fN ρ l ds):=by{intro ys;induction ys with|nil=>{intro cs i _;exact⟨λ_ h=>by simp[nth]at h,λ_ h=>by simp[nth]at h⟩}|cons y ys ih=>intro cs i Q;cases y with|inl y=>{obtain⟨c,kh,rfl,X,g2⟩:=Q;cases i with|zero=>{exact⟨λf hz=>by cases hz;exact⟨c,rfl,X⟩,λl hl=>by cases hl⟩}|succ i=>exact ih i g2}|inr l=>obtain⟨ds,kh,rfl,X,g2⟩:=Q;cases i with|zero=>{exact⟨λf hz=>(by cases hz),λl hl=>by cases hl;exact⟨ds,rfl,X⟩⟩}|succ i=>exact ih i g2};split at w;{rename_i y Y;simp only[bq,cH]at w;obtain⟨rfl,rfl⟩:=w;cases G;obtain⟨cv,g,N⟩:=(key _ C).1 y Y;exact⟨cv,by simp only[jw,A,g],N⟩};{rename_i l Y;simp only[bq,cH]at w;obtain⟨rfl,rfl⟩:=w;cases G;obtain⟨ds,g,N⟩:=(key _ C).2 l Y;exact⟨_,by simp only[jw,A,g],⟨ds,rfl,N⟩⟩};cases w};cases w};{obtain⟨es,P,y,A,C,g,rfl,B⟩:=iE w R G;rcases es with _|⟨e0,_|⟨e1,_|⟨e2,_|⟨e3,l⟩⟩⟩⟩<;>simp at A;obtain⟨H,rfl,Y⟩:=A;obtain⟨a,ys,X,g2,rfl⟩:=eD C;obtain⟨f,zs,g3,g4,rfl⟩:=eD g2;obtain⟨b,g5,rfl⟩:=gh g4;cases g3;obtain⟨a',L,V⟩:=ma h F H;obtain⟨b',q3,q4⟩:=ma h F Y;rw[X]at L;cases L;rw[g5]at q3;cases q3;refine⟨_,?_,B⟩;(cases a<;>first|(simp[aP]at g;done)|skip);(cases b<;>first|(simp[aP,dI,SK.d]at g;done)|skip);rename_i k m;(cases k<;>first|(simp[aP,dI,SK.d]at g;done)|skip);simp only[aP,dI,SK.d,Int.le_refl,if_true,Int.toNat_zero]at g;split at g;{rename_i a b ha mD;cases ha;split at mD;{rename_i W;cases mD;split at g;{rename_i T;cases g;simp only[jw,V,q4];rw[if_pos ⟨W,T.2⟩,bQ]};cases g};cases mD};cases g};{split at w;{obtain⟨es,P,y,A,C,g,rfl,B⟩:=iE w R G;rcases es with _|⟨e0,_|⟨e1,_|⟨e2,l⟩⟩⟩<;>simp at A;obtain⟨H,Y⟩:=A;obtain⟨a,ys,X,g2,rfl⟩:=eD C;obtain⟨f,g3,rfl⟩:=gh g2;obtain⟨a',L,V⟩:=ma h F H;rw[X]at L;cases L;refine⟨_,?_,B⟩;(cases a<;>first|(simp[aP]at g;done)|skip);simp only[aP]at g;split at g;{rename_i a ha;have VL:=XM h F Y g3 ha 0 (λ_=>rfl);split at g;{rename_i T;cases g;simp only[jw,V,VL];simp only[Cx];rw[if_pos ⟨T,aH _⟩]};cases g};cases g};obtain⟨es,P,y,A,C,g,rfl,B⟩:=iE w R G;rcases es with _|⟨e0,_|⟨e1,_|⟨e2,_|⟨e3,l⟩⟩⟩⟩<;>simp at A;obtain⟨H,Y,hz⟩:=A;obtain⟨a,ys,X,g2,rfl⟩:=eD C;obtain⟨f,zs,g3,g4,rfl⟩:=eD g2;obtain⟨b,g5,rfl⟩:=gh g4;obtain⟨a',L,V⟩:=ma h F H;rw[X]at L;cases L;refine⟨_,?_,B⟩;(cases a<;>first|(simp[aP]at g;done)|skip);simp only[aP]at g;split at g;{rename_i a b ha mD;have VL:=XM h F Y g3 ha 0 (λ_=>rfl);split at g;{rename_i T;cases g;have hhi:=λf=>XM (lo:=Z _) h F hz g5 mD f (λh=>by cases h);simp only[jw,V,VL,hhi];rw[if_pos T]};cases g};cases g};{split at w;{obtain⟨es,P,y,A,C,g,rfl,B⟩:=iE w R G;rcases es with _|⟨e0,_|⟨e1,_|⟨e2,l⟩⟩⟩<;>simp at A;obtain⟨H,Y⟩:=A;obtain⟨a,ys,X,g2,rfl⟩:=eD C;obtain⟨f,g3,rfl⟩:=gh g2;obtain⟨a',L,V⟩:=ma h F H;rw[X]at L;cases L;refine⟨_,?_,B⟩;(cases a<;>first|(simp[aP]at g;done)|skip);simp only[aP]at g;split at g;{rename_i a ha;have VL:=XM h F Y g3 ha 0 (λ_=>rfl);split at g;{rename_i T;cases g;simp only[jw,V,VL];simp only[Cx];rw[if_pos ⟨T.1,T.2,aH _⟩,bl]};cases g};cases g};obtain⟨es,P,y,A,C,g,rfl,B⟩:=iE w R G;rcases es with _|⟨e0,_|⟨e1,_|⟨e2,_|⟨e3,l⟩⟩⟩⟩<;>simp at A;obtain⟨H,Y,hz⟩:=A;obtain⟨a,ys,X,g2,rfl⟩:=eD C;obtain⟨f,zs,g3,g4,rfl⟩:=eD g2;obtain⟨b,g5,rfl⟩:=gh g4;obtain⟨a',L,V⟩:=ma h F H;rw[X]at L;cases L;refine⟨_,?_,B⟩;(cases a<;>first|(simp[aP]at g;done)|skip);simp only[aP]at g;split at g;{rename_i a b ha mD;have VL:=XM h F Y g3 ha 0 (λ_=>rfl);split at g;{rename_i T;cases g;have hhi:=λf=>XM (lo:=Z _) h F hz g5 mD f (λh=>by cases h);simp only[jw,V,VL,hhi];rw[if_pos T]};cases g};cases g};{split at w;{rename_i b p H;simp only[bq,cH]at w;obtain⟨rfl,rfl⟩:=w;cases G;have Q:=cX h F H;simp only[na]at Q;exact⟨_,by simp only[jw,Q],rfl⟩};{rename_i i p H;simp only[bq,cH]at w;obtain⟨rfl,rfl⟩:=w;cases G;obtain⟨x,cs,A,C,g⟩:=cX h F H;exact⟨_,by simp only[jw,g],x,cs,A,C,rfl⟩};{rename_i r k i p H;simp only[bq,cH]at w;obtain⟨rfl,rfl⟩:=w;cases G;obtain⟨iv,A,C⟩:=cX h F H;exact⟨_,by simp only[jw,C],iv,A,rfl⟩};cases w};{split at w;{rename_i r H;split at w;{rename_i row hl;obtain⟨y,A,es,C,rfl⟩:=h.rw r row hl;split at w;{rename_i hk;simp only[bq,cH]at w;obtain⟨rfl,rfl⟩:=w;obtain⟨P,y,N,B,rfl⟩:=fy G;obtain⟨a,K,rfl⟩:=gh N;rw[C]at K;cases K;have Q:=cX h F H;simp only[na,ox]at Q;rw[hk]at B;simp only[aP]at B;refine⟨.d y,?_,y,by subst R;exact kt ρ y [],rfl⟩;simp only[jw,Q,A];rw[if_pos hk];rw[aC]at B ⊢;obtain⟨zs,z1,z2⟩:=B;exact⟨zs,z1,by rw[z2]⟩};cases w};cases w};cases w};{split at w;{rename_i P H;obtain⟨y,A,C⟩:=aC.1 w;simp only[cH]at C;obtain⟨rfl,rfl⟩:=C;cases G;obtain⟨cs,g,N⟩:=cX h F H;obtain⟨c,B,K⟩:=N.nth A;exact⟨c,by simp only[jw,g,B],K⟩};cases w};{obtain⟨l,A,C⟩:=aC.1 w;simp only[cH]at C;obtain⟨rfl,rfl⟩:=C;cases G;exact⟨_,by simp only[jw,O7 h F A,cV],rfl⟩};cases w
end
def sq(S:SS):M SB->u (M SE×M SE×Bool×SS)
 |[]=>Z ([],[],I,S)
 | .d e::xs=>match e with
  | .k (.nil _ _)=>O
  | .k x=>(sq S xs).map λp=>(.k x::p.1,p.2.1,p.2.2.1,p.2.2.2)
  |e=>(sq S xs).map λp=>(e::p.1,e::p.2.1,p.2.2.1,p.2.2.2)
 | .nil k a::xs=>(sq S xs).map λp=>(.k (.nil k a)::p.1,p.2.1,p.2.2.1,p.2.2.2)
 | .ref r::xs=>match look S.rw r with
  |some x=>(sq (S.dL r) xs).map λp=>(x.e::p.1,p.2.1,x.deep && !x.fz && p.2.2.1,p.2.2.2)
  |none=>O
 | .any::_=>O
def xi(k:Nat):SS->M SC->u (M SE×M SE×Bool×SS)
 |S,[]=>Z ([],[],I,S)
 |S,c::cs=>match c.cells with
  |some a=>if a.all SB.cell=I then (match sq S a with
   |some p=>if p.1.length=k then (xi k p.2.2.2 cs).map λq=>(p.1++q.1,p.2.1++q.2.1,p.2.2.1 && q.2.2.1,q.2.2.2) else O
   |none=>O) else O
  |none=>O
def Et(a:M D):M SC->M C->Prop
 |[],cs=>cs=[]
 |x::xs,cs=>∃c b,cs=c::b/\na a x c/\Et a xs b
section
variable {ρ jK:M D} {S:SS} {s:St} {gs:Gs}
theorem qY:∀{es fs b ys},jq ρ es=Z b->jq ρ fs=Z ys->jq ρ (es++fs)=Z (b++ys)
 |[],_,_,_,h,a=>by cases h;exact a
 |e::es,_,_,_,h,a=>by obtain⟨x,ys,d,c,rfl⟩:=eD h;simp[jq,d,qY c a]
theorem Ja:∀{es fs c a},jq ρ es=Z c->jq ρ (es++fs)=Z a->∃ys,a=c++ys/\jq ρ fs=Z ys
 |[],_,_,a,h,b=>by cases h;exact⟨a,rfl,b⟩
 |e::es,_,_,_,h,b=>by obtain⟨x,ys,k,j,rfl⟩:=eD h;obtain⟨m,l,d,i,rfl⟩:=eD (es:=es++_) b;rw[k]at d;cases d;obtain⟨f,rfl,g⟩:=Ja j i;exact⟨f,rfl,g⟩
theorem zY τ:∀{es a},jq ρ es=Z a->jq (ρ++τ) es=Z a
 |[],_,h=>by cases h;rfl
 |e::es,_,h=>by obtain⟨x,ys,c,b,rfl⟩:=eD h;simp[jq,SE.mono τ c,zY τ b]
theorem oJ x xs:dc (x::xs)=(x.plain && dc xs):=rfl
theorem za xs ys:dc (xs++ys)=(dc xs && dc ys):=List.all_append
theorem Tc:∀{A R S w s es pl o},Rel ρ S s->fN ρ A R->sq S A=Z (es,pl,o,w)->
  ∃m g f,HQ s R=Z (m,o && dc g,f)/\jq ρ es=Z m/\jq ρ pl=Z g/\Rel ρ w f:=by intro A;induction A with|nil=>{intro R S w s es pl o h U l;cases U;cases l;exact⟨[],[],s,rfl,rfl,rfl,h⟩}|cons x A N=>intro R S w s es pl o h U l;obtain⟨c,W,rfl,Q,P⟩:=U;have q:∀{e},x=.d e->(sq S A).map (λp=>(e::p.1,e::p.2.1,p.2.2.1,p.2.2.2))=Z (es,pl,o,w)->∃m g f,HQ s (c::W)=Z (m,o && dc g,f)/\jq ρ es=Z m/\jq ρ pl=Z g/\Rel ρ w f:=by{intro e he Y;subst he;obtain⟨⟨a1,a2,a3,a4⟩,C,B⟩:=aC.1 Y;cases B;obtain⟨y,L,rfl⟩:=Q;obtain⟨m,g,f,K,H,G,F⟩:=N h P C;refine⟨y::m,y::g,f,?_,by simp[jq,L,H],by simp[jq,L,G],F⟩;simp[HQ,K,oJ,and_true];cases D.plain y<;>simp};cases x with|d e=>{cases e with|v i=>{exact q rfl l}|c i j=>{exact q rfl l}|k a=>have T:∀{y},a.d=y->D.plain y=I->(sq S A).map (λp=>(SE.k a::p.1,p.2.1,p.2.2.1,p.2.2.2))=Z (es,pl,o,w)->∃m g f,HQ s (c::W)=Z (m,o && dc g,f)/\jq ρ es=Z m/\jq ρ pl=Z g/\Rel ρ w f:=by{intro y L hp l;obtain⟨⟨a1,a2,a3,a4⟩,C,B⟩:=aC.1 l;cases B;obtain⟨y',V,rfl⟩:=Q;simp[SE.d]at V;rw[L]at V;subst V;obtain⟨m,g,f,K,H,G,F⟩:=N h P C;exact⟨y::m,g,f,by simp[HQ,K,hp],by simp[jq,SE.d,L,H],G,F⟩};cases a with|nil k X=>{cases l}|int k n=>{exact T rfl rfl l}|bool b=>{exact T rfl rfl l}|str t=>exact T rfl rfl l}|nil k X=>{obtain⟨⟨a1,a2,a3,a4⟩,C,B⟩:=aC.1 l;cases B;cases Q;obtain⟨m,g,f,K,H,G,F⟩:=N h P C;exact⟨D.list k X []::m,g,f,by simp[HQ,K],by simp[jq,SE.d,SK.d,H],G,F⟩}|ref r=>{simp[sq]at l;split at l;{rename_i row hl;obtain⟨⟨a1,a2,a3,a4⟩,C,B⟩:=aC.1 l;cases B;cases Q;obtain⟨y,q1,mr,q2,rfl⟩:=h.rw r row hl;obtain⟨m,g,f,K,H,G,F⟩:=N (h.dL r) P C;exact⟨D.list row.k row.fl mr::m,g,f,by simp[HQ,q1,K,iW],by simp[jq,q2,H],G,F⟩};cases l}|any=>cases l
theorem I6:∀{i s j f g},HQ s i=Z (f,g,j)->dc f=I->g=I:=by intro i;induction i with|nil=>{intro s j f g h _;simp only[HQ,bq,cH]at h;exact h.2.1.symm}|cons c i l=>intro s j f g h a;cases c with|d x=>{obtain⟨⟨a1,a2,a3⟩,e,b⟩:=aC.1 h;cases b;rw[oJ,aw]at a;rw[a.1,l e a.2];rfl}|nil k m=>{obtain⟨⟨a1,a2,a3⟩,e,b⟩:=aC.1 h;cases b;rw[oJ,aw]at a;exact l e a.2}|ref r=>{simp[HQ]at h;split at h;{obtain⟨⟨a1,a2,a3⟩,e,b⟩:=aC.1 h;cases b;rw[oJ,aw]at a;exact absurd a.1 (by simp[D.plain])};cases h}|ptr _ _=>{cases h}|pG _ _ _ _=>{cases h}|vc _=>{cases h}|agg _=>{cases h}|tv _=>{cases h}|fn _ _=>{cases h}|wq=>{cases h}|any=>cases h
theorem ZP{k fl}:∀{e vs S o s es pl n m i},Rel ρ S s->Et ρ e vs->xi k S e=Z (es,pl,n,o)->
  jq ρ es=Z m->chunk k e.length m=Z i->(fl=I->i.all dc=I)->∃l j,EM k fl s vs=Z (i,n && dc l,j)/\jq ρ pl=Z l/\Rel ρ o j:=by intro e;induction e with|nil=>{intro vs S o s es pl n m i h x a B g f;cases x;cases a;cases B;cases g;exact⟨[],s,rfl,rfl,h⟩}|cons c e Q=>intro vs S o s es pl n m i h x a B g f;obtain⟨v,fq,rfl,w,t⟩:=x;simp only[xi]at a;split at a;{rename_i xs R;split at a;{rename_i H;split at a;{rename_i p U;obtain⟨p1,p2,P,p4⟩:=p;split at a;{rename_i V;obtain⟨⟨a1,a2,a3,a4⟩,X,W⟩:=aC.1 a;cases W;obtain⟨b,r,s1,g1,G,g3,Y⟩:=Tc h (w.cells R H) U;(have C:b.length=k:=by rw[lb G,V]);have y:=Ja G B;obtain⟨d,rfl,A⟩:=y;simp only[aN,chunk,ay]at g;rw[if_pos (by omega)]at g;obtain⟨aqw,F,rfl⟩:=aC.1 g;(have T:(b++d).take k=b:=by rw[<- C];exact n9);(have hd:(b++d).drop k=d:=by rw[<- C];exact List.drop_left);rw[hd]at F;rw[T]at f ⊢;simp only[dt,aw]at f;obtain⟨l,j,N,L,K⟩:=Q Y t X A F (λq=>(f q).2);refine⟨r++l,j,?_,qY g3 L,K⟩;simp only[EM,g1];rw[if_pos ⟨C,λq=>(f q).1⟩,N];simp[za,and_true];cases P<;>cases a3<;>simp};cases a};cases a};cases a};cases a
end
def ajO:D->u SK
 | .int k n=>Z (.int k n)
 | .bool b=>Z (.bool b)
 | .str t=>Z (.str t)
 | .list k a []=>Z (.nil k a)
 |_=>O
def SB.iT(q i:Nat):SB->SB
 | .ref r=>if r=q then .ref i else if r=i then .any else .ref r
 |x=>x
def SC.iT(q i:Nat):SC->SC
 | .b x=>.b (x.iT q i)
 | .agg xs=>.agg (xs.map (SB.iT q i))
 | .tv xs=>.tv (xs.map λ| .inl x=>.inl (x.iT q i) | .inr l=>.inr (l.map (SB.iT q i)))
 | .pG r k a o=>if r=q then .pG i k a o else if r=i then .any else .pG r k a o
 |x=>x
def SS.iT(S:SS)(q i:Nat)(row:SR):SS:=⟨S.sl.map λp=>(p.1,⟨p.2.gs,p.2.c.iT q i⟩),S.bx.map λp=>(p.1,p.2.map (SB.iT q i)),(i,row)::sy (sy S.rw q) i⟩
def Hz(S:SS)(a:Gs):M KX->u (M SC)
 |[]=>Z []
 |x::xs=>match gy S a x with
  |some c=>(Hz S a xs).map (c::·)
  |none=>O
def aeQ(hint:M Nat)(d:Nat)(a b:Bool)(pl:M SE):Bs×Bool:=
 if a=I then ([],I) else if b=J then ([],J) else match pl with
  |[]=>([],I)
  |pl=>if hint.contains (1000 * d+pl.length) then ([(.xG,pl)],J) else ([(.pl,pl)],I)
def RY(S:SS)(k:Nat)(a:Bool):SC->u (SE×Bool×SS)
 | .b (.d e)=>Z (e,a,S)
 | .b (.nil _ _)=>Z (.k (.nil k a),I,S)
 | .b (.ref q)=>match look S.rw q with
  |some row=>if row.k=k/\row.fl=a then Z (row.e,(row.deep && !row.fz) ||a,S.dL q) else O
  |none=>O
 |_=>O
def SR.share(r:SR):SR:={r with fz:=I,deep:=r.fl }
def oX(S:SS):M Nat->u SS
 |[]=>Z S
 |r::rs=>match look S.rw r with
  |some x=>oX (S.setRow r x.share) rs
  |none=>O
def DE(hint:M Nat)(S:SS)(f:Gs)(n:Nat)(d:u Nat):KO->u (Bs×SS)
 | .alloc l=>match d,ig vr l with
  |some b,Z g=>Z ([],(S.j9 b g).put d ⟨[],.ptr b 0⟩)
  |_,_=>O
 | .box x=>match d,gy S f x with
  |some b,Z c=>match c.cells with
   |some g=>if g.all SB.cell=I then Z ([],(S.j9 b (g.map (SB.kill b))).put d ⟨[],.ptr b 0⟩) else O
   |none=>O
  |_,_=>O
 | .vX k a g=>match d,Hz S f g with
  |some r,Z cs=>match xi k S cs with
   |some p=>if 0<k then (match aeQ hint r a p.2.2.1 p.2.1 with
    |(s,deep)=>Z (s++[(.lu k a,p.1)],(p.2.2.2.newRow r ⟨.v (n+s.length),k,a,deep,I,J⟩).put d ⟨[],.b (.ref r)⟩)) else O
   |none=>O
  |_,_=>O
 | .make k h a l x=>match d,sD (gy S f x),ig ajO l with
  |some r,Z e,Z w=>Z ([(.make k h a w,[e])],(S.newRow r ⟨.v n,k,a,I,I,J⟩).put d ⟨[],.b (.ref r)⟩)
  |_,_,_=>O
 | .st m x y=>match gy S f x,gy S f y with
  |some (.ptr b o),Z c=>match look S.bx b,c.cells with
   |some g,Z ys=>if ys.all SB.cell=I/\ys.length=m/\o+m<=g.length then Z ([],S.gB b (afw g o ys)) else O
   |_,_=>O
  |some (.pG r k i o),Z c=>match c.cells with
   |some ys=>match sq S ys with
    |some p=>match look p.2.2.2.rw r with
     |some row=>if ys.all SB.cell=I/\row.k=k/\row.fz=J/\row.app=I/\p.1.length=m/\o+m<=k then
       Z (if row.fl ||!row.deep then ([(.set o,row.e::i::p.1)],p.2.2.2.setRow r ⟨.v n,row.k,row.fl,row.deep,row.app,row.fz⟩)
        else ([(.pl,if p.2.2.1 then p.2.1 else [row.e]),(.set o,row.e::i::p.1)],p.2.2.2.setRow r ⟨.v (n+1),row.k,row.fl,row.deep,row.app,row.fz⟩)) else O
     |none=>O
    |none=>O
   |none=>O
  |_,_=>O
 | .app k h a x y=>match d,gy S f y with
  |some d0,Z c=>match RY S k a c with
   |some p=>match gy S f x with
    |some (.b (.nil A t))=>if A=k/\t=a then Z ([(.app k h,[.k (.nil k a),p.1])],(p.2.2.newRow d0 ⟨.v n,k,a,p.2.1,I,J⟩).put d ⟨[],.b (.ref d0)⟩) else O
    |some (.b (.ref r))=>match look p.2.2.rw r with
     |some row=>if row.k=k/\row.fl=a/\row.app=I then Z ([(.app k h,[row.e,p.1])],(p.2.2.newRow r ⟨.v n,row.k,row.fl,row.deep && p.2.1,row.app,row.fz⟩).put d ⟨[],.b (.ref r)⟩) else O
     |none=>O
    |_=>O
   |none=>O
  |_,_=>O
 | .Kv k x y=>match d,gy S f x,sD (gy S f y) with
  |some _,Z (.b (.ref r)),Z e=>match look S.rw r with
   |some row=>if row.k=k/\row.fl=I/\row.fz=J/\row.app=I then Z ([(.Kv,[row.e,e]),(.len,[.v n])],(S.setRow r ⟨.v n,row.k,row.fl,row.deep,row.app,row.fz⟩).put d ⟨[],vN (n+1)⟩) else O
   |none=>O
  |_,_,_=>O
 | .Xp x=>match d,gy S f x with
  |some d0,Z (.b (.ref q))=>match look S.rw q with
   |some row=>Z ([],(S.iT q (vg d0 0) row).put d ⟨[],.b (.ref (vg d0 0))⟩)
   |none=>O
  |some _,Z (.b (.nil k a))=>Z ([],S.put d ⟨[],.b (.nil k a)⟩)
  |some _,Z (.b (.d e))=>Z ([],S.put d ⟨[],.b (.d e)⟩)
  |_,_=>O
 | .jn x y=>match d,gy S f x,gy S f y with
  |some _,Z (.b (.ref r)),Z c=>match look S.rw r with
   |some row=>if row.k=1/\row.fl=I/\row.fz=J/\row.app=I then (match c with
    | .b (.d e)=>Z ([(.jnl,[row.e,e]),(.jnb,[row.e,e])],(S.setRow r ⟨.v n,row.k,row.fl,row.deep,row.app,row.fz⟩).put d ⟨[],vN (n+1)⟩)
    | .b (.ref q)=>match look S.rw q with
     |some j=>if j.k=1/\q≠r then Z ([(.jnl,[row.e,j.e]),(.jnb,[row.e,j.e])],(S.setRow r ⟨.v n,row.k,row.fl,row.deep,row.app,row.fz⟩).put d ⟨[],vN (n+1)⟩) else O
     |none=>O
    |_=>O) else O
   |none=>O
  |_,_,_=>O
 |_=>O
section
variable {ρ jK:M D} {S S':SS} {s:St} {gs:Gs} {bs:Bs} {cf:Nat->M A->u (M A×M A)} {mf:Nat->Bool->M D->Int->u (M D×Int)} {hint:M Nat} {n:Nat} {d:u Nat}
theorem wm:∀{bs cs ρ jK},nL ρ (bs++cs)=Z jK->∃a,nL ρ bs=Z a/\nL a cs=Z jK
 |[],_,ρ,_,h=>⟨ρ,rfl,h⟩
 |(o,es)::bs,cs,ρ,jK,h=>by simp[nL]at h ⊢;split at h;{split at h;obtain⟨a,c,b⟩:=wm h;exact⟨a,c,b⟩;cases h};cases h
theorem tj:∀{bs ρ jK},nL ρ bs=Z jK->jK.length=ρ.length+bs.length
 |[],ρ,_,h=>by cases h;rfl
 |(o,es)::bs,ρ,jK,h=>by simp[nL]at h;split at h;{split at h;{have:=tj h;simp at this ⊢;omega};cases h};cases h
theorem Et.mono τ:∀{a vs},Et ρ a vs->Et (ρ++τ) a vs
 |[],_,h=>h
 |_::_,_,⟨v,vs,f,e,c⟩=>⟨v,vs,f,e.mono τ,c.mono τ⟩
theorem xj(h:Rel ρ S s)(f:jM ρ gs=Z I):∀{b e},Hz S gs b=Z e->Et ρ e (b.map (gF s))
 |[],_,h=>by cases h;rfl
 |x::b,_,a=>by simp[Hz]at a;split at a;{rename_i c g;obtain⟨e,i,rfl⟩:=aC.1 a;exact⟨_,_,rfl,cX h f g,xj h f i⟩};cases a
theorem ry(g:n=ρ.length){x k e es}(f:x=.list k e es){a b c}:SRr (ρ++[x]) ⟨.v n,k,e,a,b,c⟩ ⟨es,k,e,a,b,c⟩:=by subst g f;exact⟨es,kt ρ _ [],rfl⟩
theorem tE.ref{r}:tE ρ ⟨[],.b (.ref r)⟩ (.ref r):=tE.nil (by simp[na,ox])
theorem tE.ptr{b o}:tE ρ ⟨[],.ptr b o⟩ (.ptr b o):=tE.nil (by simp[na])
theorem tE.new(a:n=ρ.length){x}:tE (ρ++[x]) ⟨[],vN n⟩ (.d x):=by subst a;exact tE.nil ⟨x,kt ρ _ [],rfl⟩
theorem Ku{a x}(h:vr a=Z x):a.const=I:=by unfold vr at h;split at h<;>first|rfl|cases h
theorem zN:∀{b c},ig vr b=Z c->b.all C.const=I
 |[],_,_=>rfl
 |a::b,c,h=>by simp[ig]at h;split at h;{rename_i y e;obtain⟨ys,f,rfl⟩:=aC.1 h;simp[Ku e,zN f]};cases h
abbrev NOk(hint:M Nat)(cf:Nat->M A->u (M A×M A))(mf:Nat->Bool->M D->Int->u (M D×Int))(ρ jK:M D)(S S':SS)(s:St)(gs:Gs)(n:Nat)(d:u Nat)(bs:Bs)(o:KO):Prop:=DE hint S gs n d o=Z (bs,S')->nL ρ bs=Z jK->∃a,nG cf mf s d o=Z a/\Rel jK S' a
theorem RU(h:Rel ρ S s){e}:NOk hint cf mf ρ jK S S' s gs n d bs (.alloc e):=by intro a f;simp[DE]at a;split at a;{rename_i b g c;cases a;cases f;exact⟨_,by simp[nG,zN c],(h.j9 b (yl c)).put _ tE.ptr⟩};cases a
theorem acG(h:Rel ρ S s)(i:jM ρ gs=Z I){x}:NOk hint cf mf ρ jK S S' s gs n d bs (.box x):=by intro a k;simp only[DE]at a;split at a;{rename_i b c g;split at a;{rename_i l j;split at a;{rename_i e;cases a;cases k;have f:=(cX h i g).cells j e;exact⟨_,by simp[nG,f.cell e],(h.j9 b (f.kill b)).put _ tE.ptr⟩};cases a};cases a};cases a
theorem Di{k}:∀{b S S' es pl i},xi k S b=Z (es,pl,i,S')->es.length=k * b.length
 |[],_,_,_,_,_,h=>by obtain⟨rfl,_⟩:=h;rfl
 |c::b,_,_,_,_,_,a=>by simp[xi]at a;split at a;{split at a;{split at a;{split at a;{rename_i e;obtain⟨⟨a1,a2,a3,a4⟩,g,f⟩:=aC.1 a;obtain⟨rfl,_⟩:=f;rw[ay,e,Di g,aN,Nat.mul_succ,Nat.add_comm]};cases a};cases a};cases a};cases a
theorem EN{k b}:∀{f s g es e},EM k b s f=Z (es,e,g)->b=I->e=I
 |[],_,_,_,_,h,_=>by simp only[EM,bq,cH]at h;exact h.2.1.symm
 |c::f,_,_,_,_,h,a=>by simp[EM]at h;split at h;{rename_i q o p j;split at h;{rename_i i;obtain⟨⟨a1,a2,a3⟩,m,l⟩:=aC.1 h;cases l;rw[EN m a,I6 j (i.2 a)];rfl};cases h};cases h
theorem aeR{r h i deep pl j τ}(a:aeQ hint r h i pl=(bs,deep))(k:nL ρ bs=Z jK)(c:jq (ρ++τ) pl=Z j):deep=(h ||(i && dc j)):=by unfold aeQ at a;split at a;{rename_i e;cases a;simp[e]};rename_i e;(have e:h=J:=by simpa using e);subst e;split at a;{rename_i hd;cases a;simp[hd]};rename_i hd;(have hd:i=I:=by simpa using hd);subst hd;split at a;{cases a;cases c;rfl};split at a;{cases a;obtain⟨l,x,g,b,rfl⟩:=fy k;rw[zY τ g]at c;cases c;simp only[aP]at b;split at b;{cases b};rename_i f;simpa using f};cases a;obtain⟨l,x,g,b,rfl⟩:=fy k;rw[zY τ g]at c;cases c;simp only[aP]at b;split at b;{rename_i f;simpa using f};cases b
theorem RW(h:Rel ρ S s)(G:jM ρ gs=Z I)(C:n=ρ.length){k fl xs}:NOk hint cf mf ρ jK S S' s gs n d bs (.vX k fl xs):=by intro a K;simp[DE]at a;split at a;{rename_i r P w;split at a;{rename_i p i;obtain⟨es,pl,o,W⟩:=p;split at a;{rename_i j;generalize B:aeQ hint r fl o pl=q at a;obtain⟨Q,deep⟩:=q;cases a;obtain⟨V,f,v⟩:=wm K;obtain⟨R,x,m,b,rfl⟩:=fy v;obtain⟨g,rfl⟩:=oK f;have F:=tj f;have y:=xj h G w;simp only[aP]at b;split at b;{split at b;{rename_i X l;split at b;{rename_i H;cases b;(have c:R.length=k * P.length:=by rw[lb m,Di i]);rw[c,Nat.mul_div_cancel_left _ j]at l;obtain⟨t,U,e,N,L⟩:=ZP (fl:=fl) (h.mono g) (y.mono g) i m l H;have hd:=aeR B f N;have T:(o && dc t)=deep:=by{cases fl with|true=>{rw[EN e rfl,hd];rfl}|false=>rw[hd,fU]};rw[T]at e;refine⟨_,by simp only[nG,e];rw[if_pos j],((L.mono [_]).newRow r (ry (by rw[C,F]) rfl)).put _ tE.ref⟩};cases b};cases b};cases b};cases a};cases a};cases a
theorem pK:∀{rs S S' s},Rel ρ S s->oX S rs=Z S'->Rel ρ S' (eM s rs)
 |[],S,S',s,h,a=>by cases a;exact h
 |r::rs,S,S',s,h,a=>by simp[oX]at a;split at a;{rename_i x b;obtain⟨y,e,es,c,rfl⟩:=h.rw r x b;simp[eM,e];exact pK (h.setRow r (x:=x.share) (y:=Row.share _) ⟨es,c,rfl⟩) a};cases a
theorem acB:∀{b c},ig ajO b=Z c->c.map SK.d=b
 |[],_,h=>by cases h;rfl
 |a::b,c,h=>by simp[ig]at h;split at h;{rename_i y e;obtain⟨ys,f,rfl⟩:=aC.1 h;rw[bz,acB f];unfold ajO at e;split at e<;>cases e<;>rfl};cases h
theorem Vq{k c f e xs x}(h:aP (.make k c f e) xs=Z x):∃m,xs=[.int .i64 m]/\(0<=m/\m.toNat * c<=room/\m<=4611686018427387904)/\x=.list k f (aW m.toNat (e.map SK.d)):=by rcases xs with _|⟨a,_|⟨b,l⟩⟩;{simp[aP]at h};{cases a with|int g m=>{(cases g<;>simp only[aP]at h<;>try cases h);simp_all}|_=>simp[aP]at h};simp[aP]at h
theorem NU{k e xs x}(h:aP (.app k e) xs=Z x):∃g es f,xs=[.list k g es,.list k g f]/\(es.length+f.length) * e<=room/\es.length+f.length<=maxLen/\x=.list k g (es++f):=by rcases xs with _|⟨a,_|⟨b,_|⟨c,l⟩⟩⟩;{simp[aP]at h};{cases a<;>simp[aP]at h};{(cases a<;>cases b<;>simp only[aP]at h<;>try cases h);split at h;{rename_i i;obtain⟨rfl,rfl,rfl,m,j⟩:=i;cases h;exact⟨_,_,_,rfl,m,j,rfl⟩};cases h};cases a<;>simp[aP]at h
theorem Z8{o xs x}(h:aP (.set o) xs=Z x):∃k c es i f e,xs=.list k c es::.int .i64 i::f/\nth es i.toNat=Z e/\o+f.length<=k/\(c=I->dc f=I)/\x=.list k c (es.set i.toNat (nM e o f)):=by rcases xs with _|⟨a,_|⟨b,l⟩⟩;{simp[aP]at h};{cases a<;>simp[aP]at h};cases a with|list k c es=>{cases b with|int j i=>{(cases j<;>simp[aP]at h<;>try cases h);split at h;{rename_i e m;split at h;{rename_i g;cases h;exact⟨_,_,_,_,_,_,rfl,m,g.1,g.2,rfl⟩};cases h};cases h}|_=>simp[aP]at h}|_=>simp[aP]at h
theorem Z4{xs x}(h:aP .Kv xs=Z x):∃k es e,xs=[.list k I es,.list k I e]/\e.length=es.length/\x=.list k I e:=by rcases xs with _|⟨a,_|⟨b,_|⟨c,l⟩⟩⟩;{simp[aP]at h};{cases a<;>simp[aP]at h};{(cases a<;>cases b<;>simp only[aP]at h<;>try cases h);split at h;{rename_i f;obtain⟨rfl,rfl,rfl,g⟩:=f;cases h;exact⟨_,_,_,rfl,g,rfl⟩};cases h};cases a<;>simp[aP]at h
theorem Z6{xs x}(h:aP .jnl xs=Z x):∃es g e bs f,xs=[.list 1 I es,.list 1 g e]/\e.length=es.length/\e≠[]/\nN es=Z bs/\nN e=Z f/\x=.list 1 I ((dJ bs f).map λb=>[D.bool b]):=by rcases xs with _|⟨a,_|⟨b,_|⟨c,l⟩⟩⟩;{simp[aP]at h};{cases a<;>simp[aP]at h};{(cases a<;>cases b<;>simp only[aP]at h<;>try cases h);split at h;{rename_i i;obtain⟨rfl,rfl,rfl,m,k⟩:=i;split at h;{rename_i bs f j o;cases h;exact⟨_,_,_,_,_,rfl,m,k,j,o,rfl⟩};cases h};cases h};cases a<;>simp[aP]at h
theorem Z5{xs x}(h:aP .jnb xs=Z x):∃k m es i g f bs e,xs=[.list k m es,.list i g f]/\nN es=Z bs/\nN f=Z e/\x=.bool (nq bs e):=by rcases xs with _|⟨a,_|⟨b,_|⟨c,l⟩⟩⟩;{simp[aP]at h};{cases a<;>simp[aP]at h};{(cases a<;>cases b<;>simp[aP]at h<;>try cases h);split at h;{rename_i bs e j o;cases h;exact⟨_,_,_,_,_,_,_,_,rfl,j,o,rfl⟩};cases h};cases a<;>simp[aP]at h
theorem Z7{xs x}(h:aP .len xs=Z x):∃k c es,xs=[.list k c es]/\x=.int .i64 es.length:=by rcases xs with _|⟨a,_|⟨b,l⟩⟩;{simp[aP]at h};{cases a<;>simp[aP]at h<;>cases h;exact⟨_,_,_,rfl,rfl⟩};cases a<;>simp[aP]at h
theorem XO(h:Rel ρ S s)(p:jM ρ gs=Z I)(l:n=ρ.length){k c C g x}:NOk hint cf mf ρ jK S S' s gs n d bs (.make k c C g x):=by intro b t;simp[DE]at b;split at b;{rename_i r e G j i;cases b;obtain⟨K,F,B,y,rfl⟩:=fy t;obtain⟨a,w,rfl⟩:=gh B;obtain⟨H,f,v⟩:=ma h p j;rw[w]at f;cases f;obtain⟨m,o,q,rfl⟩:=Vq y;cases o;refine⟨_,by simp only[nG,v];rw[if_pos q],((h.mono [_]).newRow r (ry l (by rw[acB i]))).put _ tE.ref⟩};cases b
theorem na.Bo{x c xs}(h:na ρ x c)(b:x.cells=Z xs)(a:xs.all SB.cell=I):fN ρ xs c.cells/\c.cells.all C.cell=I:=⟨h.cells b a,(h.cells b a).cell a⟩
theorem afC(h:Rel ρ S s)(G:jM ρ gs=Z I)(hn:n=ρ.length){m x y}:NOk hint cf mf ρ jK S S' s gs n d bs (.st m x y):=by
 intro g Y;simp only[DE]at g
 split at g
 .rename_i b o c T R
  split at g
  .rename_i j ys U X
   split at g
   .rename_i V;obtain⟨Q,F,C⟩:=V;cases g;cases Y;have q:=cX h G T;simp[na]at q;obtain⟨cs,g1,g2⟩:=h.bx b j U;obtain⟨H,g4⟩:=(cX h G R).Bo X Q;refine⟨_,by simp only[nG,q,g1];rw[if_pos ⟨g4,by rw[H.len,F],by rw[g2.len];exact C⟩],h.gB b (g2.spl o H)⟩
   .cases g
  .cases g
 .rename_i r k i o c T R;obtain⟨iv,hi,q⟩:=cX h G T
  split at g
  .rename_i ys X
   split at g
   .rename_i p hp;obtain⟨es,pl,dp,S1⟩:=p;simp only at g
    split at g
    .rename_i row U
     split at g
     .rename_i V;obtain⟨Q,F,C,k4,k5,k6⟩:=V;obtain⟨H,g4⟩:=(cX h G R).Bo X Q;obtain⟨ds,ps,s1,P,N,q3,L⟩:=Tc h H hp;obtain⟨f,w1,QQ,w2,rfl⟩:=L.rw r row U;have l:∀{σ j v},jq (ρ++σ) (row.e::i::es)=Z j->aP (.set o) j=Z v->∃e,nth QQ iv.toNat=Z e/\o+ds.length<=row.k/\(row.fl=I->dc ds=I)/\v=.list row.k row.fl (QQ.set iv.toNat (nM e o ds)):=by
       intro σ j v w t;obtain⟨a,ys',j1,j2,rfl⟩:=eD w;obtain⟨b,zs',j3,j4,rfl⟩:=eD j2;rw[SE.mono σ w2]at j1;cases j1;rw[SE.mono σ hi]at j3;cases j3;rw[zY σ N]at j4;cases j4;obtain⟨k',wM,mr,i',uL,e,t1,t2,t3,t4,rfl⟩:=Z8 t;obtain⟨⟨rfl,rfl,rfl⟩,rfl,rfl⟩:=t1;exact⟨e,t2,t3,t4,rfl⟩
      split at g
      .rename_i W;cases g;obtain⟨Yr,v,w,t,rfl⟩:=fy Y;obtain⟨e,t1,t2,t3,rfl⟩:=l (σ:=[]) (by simpa using w) t;refine⟨_,by
        simp only[nG,q,P,w1,t1];rw[if_pos ⟨F,C,k4,by rw[lb N,k5],k6,t3,by
         cases xB:row.fl with
         |true=>rw[I6 P (t3 xB)];rfl
         |false=>rw[xB,fU]at W;rw[W,dX]⟩],?_⟩
       exact (L.mono [_]).setRow r (ry hn rfl)
      .rename_i W;cases g;obtain⟨Yt,BK,iN⟩:=wm (bs:=[_]) (cs:=[_]) Y;obtain⟨xs1,v1,B,K,rfl⟩:=fy BK;obtain⟨Yr,v,w,t,rfl⟩:=fy iN;obtain⟨e,t1,t2,t3,rfl⟩:=l w t;cases Yh:dp with
       |false=>
        rw[Yh,if_neg (by simp)]at B;simp[jq,w2]at B;cases B;simp[aP,dc,D.plain]at K
       |true=>
       rw[Yh,if_pos rfl,q3]at B;cases B;simp only[aP]at K
       split at K
       .rename_i P8;refine⟨_,by
         simp only[nG,q,P,w1,t1];rw[if_pos ⟨F,C,k4,by rw[lb N,k5],k6,t3,by
          rw[P8,Yh];rfl⟩],?_⟩
        exact (L.mono [_] |>.mono [_]).setRow r (ry (by rw[hn];simp) rfl)
       .cases K
     .cases g
    .cases g
   .cases g
  .cases g
 .cases g
theorem XP(h:Rel ρ S s){k i c v e l m}(f:na ρ c v)(b:RY S k i c=Z (e,l,m)):∃x j,e.d ρ=Z x/\Rel ρ m j/\∀es,x=.list k i es->pO s k i v=Z (es,l,j):=by unfold RY at b;split at b;{cases b;obtain⟨x,r,rfl⟩:=f;refine⟨x,s,r,h,?_⟩;rintro es rfl;simp[pO]};{cases b;cases f;refine⟨_,s,rfl,h,?_⟩;intro es g;cases g;simp[pO]};{split at b;{rename_i row q;split at b;cases b;cases f;obtain⟨a,p,t,o,rfl⟩:=h.rw _ row q;refine⟨_,_,o,h.dL _,?_⟩;intro es g;cases g;simp[pO,p];cases b};cases b};cases b
theorem acF(h:Rel ρ S s)(B:jM ρ gs=Z I)(R:n=ρ.length){k L G x y}:NOk hint cf mf ρ jK S S' s gs n d bs (.app k L G x y):=by intro g T;simp[DE]at g;split at g;{rename_i d0 c X;split at g;{rename_i p Y;obtain⟨e,dp,S1⟩:=p;simp only at g;obtain⟨v,s1,Q,m,P⟩:=XP h (cX h B X) Y;split at g;{rename_i k' wM t;have i:=cX h B t;simp[na,ox]at i;split at g;{rename_i w;obtain⟨rfl,rfl⟩:=w;cases g;obtain⟨Yr,V,F,C,rfl⟩:=fy T;obtain⟨a,l,K,H,rfl⟩:=eD F;obtain⟨b,j,rfl⟩:=gh H;rw[Q]at j;cases j;cases K;obtain⟨G,es,q,t1,t2,t3,rfl⟩:=NU C;obtain⟨⟨rfl,rfl⟩,rfl⟩:=t1;have o:=P q rfl;simp at t2 t3;refine⟨_,by simp only[nG,o,i];rw[if_pos ⟨trivial,trivial,t2,t3⟩],?_⟩;exact ((m.mono [_]).newRow d0 (ry R (by simp))).put _ tE.ref};cases g};{rename_i r t;have i:=cX h B t;simp[na,ox]at i;split at g;{rename_i row hl;split at g;{rename_i w;obtain⟨rfl,rfl,W⟩:=w;cases g;obtain⟨Yr,V,F,C,rfl⟩:=fy T;obtain⟨a,l,K,H,rfl⟩:=eD F;obtain⟨b,j,rfl⟩:=gh H;rw[Q]at j;cases j;obtain⟨G,es,q,t1,t2,t3,rfl⟩:=NU C;cases t1;obtain⟨f,U,QQ,N,rfl⟩:=m.rw r row hl;rw[K]at N;cases N;have o:=P q rfl;refine⟨_,by simp only[nG,o,i,U];rw[if_pos ⟨trivial,trivial,W,t2,t3⟩],?_⟩;exact ((m.mono [_]).newRow r (ry R rfl)).put _ tE.ref};cases g};cases g};cases g};cases g};cases g
theorem acH(h:Rel ρ S s)(o:jM ρ gs=Z I)(i:n=ρ.length){k x y}:NOk hint cf mf ρ jK S S' s gs n d bs (.Kv k x y):=by intro g U;simp[DE]at g;split at g;{rename_i d0 r e Q P;have m:=cX h o Q;simp[na,ox]at m;obtain⟨v,L,K⟩:=ma h o P;split at g;{rename_i row R;obtain⟨f,w,QQ,t,rfl⟩:=h.rw r row R;split at g;{rename_i T;obtain⟨j,H,F,C⟩:=T;cases g;obtain⟨Yt,BK,N⟩:=wm (bs:=[_]) (cs:=[_]) U;obtain⟨q,v1,f1,Y,rfl⟩:=fy BK;obtain⟨Yr,v',W,V,rfl⟩:=fy N;obtain⟨a,p,t1,t2,rfl⟩:=eD f1;obtain⟨b,t3,rfl⟩:=gh t2;rw[t]at t1;cases t1;rw[L]at t3;cases t3;obtain⟨k',es,mr,l,i2,rfl⟩:=Z4 Y;simp at l;obtain⟨⟨i3,i4,rfl⟩,rfl⟩:=l;obtain⟨c,c1,rfl⟩:=gh W;obtain⟨G,X,es2,B,rfl⟩:=Z7 V;simp[SE.d,i,kt]at c1;subst c1;cases B;refine⟨_,by simp only[nG,m,K,w];rw[if_pos ⟨j,by rw[<- i3,j],trivial,H,F,C,i2⟩],?_⟩;refine Rel.put ?_ _ (tE.new (by rw[i];simp));exact ((h.mono [_]).setRow r (ry i (by rw[i3,i4]))).mono [_]};cases g};cases g};cases g
theorem afB(h:Rel ρ S s)(W:jM ρ gs=Z I)(V:n=ρ.length){x y}:NOk hint cf mf ρ jK S S' s gs n d bs (.jn x y):=by intro g p;simp[DE]at g;split at g;{rename_i d0 r c hx hy;have U:=cX h W hx;simp[na,ox]at U;have i:=cX h W hy;split at g;{rename_i row hl;obtain⟨f,Y,QQ,K,rfl⟩:=h.rw r row hl;split at g;{rename_i hk;obtain⟨R,Q,k3,k4⟩:=hk;have m:∀{e v},e.d ρ=Z v->(∀l j,v=.list 1 l j->Jr s r (gF s y)=Z j)->nL ρ [(.jnl,[row.e,e]),(.jnb,[row.e,e])]=Z jK->S'=(S.setRow r ⟨.v n,row.k,row.fl,row.deep,row.app,row.fz⟩).put (Z d0) ⟨[],vN (n+1)⟩->∃L,nG cf mf s (Z d0) (.jn x y)=Z L/\Rel jK S' L:=by{rintro e v o H p rfl;obtain⟨Yt,BK,iN⟩:=wm (bs:=[_]) (cs:=[_]) p;obtain⟨X,v1,f1,f2,rfl⟩:=fy BK;obtain⟨Yr,v',h1,h2,rfl⟩:=fy iN;obtain⟨a,t,t1,t2,rfl⟩:=eD f1;obtain⟨b,t3,rfl⟩:=gh t2;rw[K]at t1;cases t1;rw[o]at t3;cases t3;obtain⟨es,l,j,bs,cs,T,i2,i3,i4,i5,rfl⟩:=Z6 f2;simp at T;obtain⟨⟨_,_,rfl⟩,rfl⟩:=T;obtain⟨a,t,t1,t2,rfl⟩:=eD h1;obtain⟨b,t3,rfl⟩:=gh t2;rw[SE.mono _ K]at t1;cases t1;rw[SE.mono _ o]at t3;cases t3;obtain⟨_,_,es2,_,_,atu,bs',kh,m1,P,N,rfl⟩:=Z5 h2;obtain⟨⟨_,_,rfl⟩,⟨_,_,rfl⟩⟩:=m1;rw[i4]at P;cases P;rw[i5]at N;cases N;refine⟨_,by simp only[nG,U,H l j rfl,Y];rw[if_pos ⟨R,Q,k3,k4,i2⟩];simp only[i4,i5];rw[if_pos i3],?_⟩;refine Rel.put ?_ _ (tE.new (by rw[V];simp));exact ((h.mono [_]).setRow r (ry V (by rw[R,Q]))).mono [_]};split at g;{rename_i e;simp at g;obtain⟨rfl,F⟩:=g;obtain⟨v,o,j2⟩:=i;exact m o (λl j C=>by rw[j2,C];rfl) p F.symm};{rename_i q;split at g;{rename_i G Ft;split at g;{rename_i hq;simp at g;obtain⟨rfl,F⟩:=g;simp[na,ox]at i;obtain⟨z',B,aqw,w,rfl⟩:=h.rw q G Ft;refine m w (λl j C=>?_) p F.symm;(injection C with e1 e2 e3);subst e3;simp only[i,Jr,B];rw[if_pos hq]};cases g};cases g};cases g};cases g};cases g};cases g
theorem ox.iT q i:∀{x c},ox ρ x c->ox ρ (x.iT q i) (c.iT q i)
 | .d e,_,⟨x,b,a⟩=>by subst a;exact⟨x,b,rfl⟩
 | .nil _ _,_,h=>by cases h;rfl
 | .ref r,_,h=>by cases h;simp[SB.iT,C.iT];split;{rfl};split;{trivial};rfl
 | .any,_,_=>trivial
theorem fN.iT q i:∀{a b},fN ρ a b->fN ρ (a.map (SB.iT q i)) (C.CC q i b)
 |[],_,h=>by cases h;rfl
 |_::_,_,⟨c,j,g,f,e⟩=>by subst g;exact⟨_,_,rfl,f.iT q i,fN.iT q i e⟩
theorem yg.iT q i:∀{f g},yg ρ f g->yg ρ (f.map λ| .inl x=>.inl (x.iT q i) | .inr l=>.inr (l.map (SB.iT q i))) (C.CC q i g)
 |[],_,h=>by cases h;rfl
 | .inl _::_,_,⟨c,j,e,b,a⟩=>by subst e;exact⟨_,_,rfl,b.iT q i,yg.iT q i a⟩
 | .inr _::_,_,⟨k,j,e,b,a⟩=>by subst e;exact⟨_,_,rfl,b.iT q i,yg.iT q i a⟩
theorem na.iT q i:∀{x c},na ρ x c->na ρ (x.iT q i) (c.iT q i)
 | .b _,_,h=>ox.iT q i h
 | .agg _,_,⟨cs,e,f⟩=>by subst e;exact⟨_,rfl,f.iT q i⟩
 | .tv _,_,⟨cs,e,f⟩=>by subst e;exact⟨_,rfl,f.iT q i⟩
 | .ptr b o,_,h=>by cases h;rfl
 | .pG r k a o,_,⟨n,e,f⟩=>by subst f;simp[SC.iT,C.iT];split;{exact⟨n,e,rfl⟩};split;{trivial};exact⟨n,e,rfl⟩
 | .vc _ _,_,⟨x,cs,e,f,g⟩=>by subst g;exact⟨x,cs,e,f,rfl⟩
 | .fn F bs,_,h=>by cases h;rfl
 | .any,_,_=>trivial
theorem Rel.iT(h:Rel ρ S s)(q i:Nat){row:SR}{y:Row}(p:SRr ρ row y):Rel ρ (S.iT q i row) (s.iT q i y) where
 sl d g a:=by simp[SS.iT]at a;rw[pI (λg:SG=>(⟨g.gs,g.c.iT q i⟩:SG)),aC]at a;obtain⟨w,e,rfl⟩:=a;obtain⟨b,m,l,t⟩:=h.sl d w e;have:(s.iT q i y).get d=(s.get d).iT q i:=by{simp[St.get,St.iT,acf];rw[pI (C.iT q i)];cases look s.sl d<;>rfl};rw[this];exact⟨b,m,λj=>(l j).iT q i,λj=>by rw[t j];rfl⟩
 bx b o a:=by simp[SS.iT]at a;rw[pI (λo:M SB=>o.map (SB.iT q i)),aC]at a;obtain⟨F,e,rfl⟩:=a;obtain⟨B,m,l⟩:=h.bx b F e;refine⟨C.CC q i B,?_,l.iT q i⟩;simp[St.iT,ace];rw[pI (C.CC q i),m];rfl
 rw r x a:=by simp[SS.iT,look,fL]at a;simp[St.iT,look,fL];split at a;{rename_i f;cases a;exact⟨y,by rw[if_pos f],p⟩};rename_i f;rw[if_neg f];split at a;{cases a};rename_i e;rw[if_neg f,if_neg e];exact h.rw r x a
theorem acI(h:Rel ρ S s)(f:jM ρ gs=Z I){x}:NOk hint cf mf ρ jK S S' s gs n d bs (.Xp x):=by intro a g;simp[DE]at a;split at a;{rename_i d0 q b;have c:=cX h f b;simp[na,ox]at c;split at a;{rename_i row o;cases a;cases g;obtain⟨y,j,i⟩:=h.rw q row o;exact⟨_,by simp[nG,c,j],(h.iT q (vg d0 0) i).put _ tE.ref⟩};cases a};{rename_i d0 k p b;have c:=cX h f b;simp[na,ox]at c;cases a;cases g;exact⟨s.put (Z d0) (.nil k p),by simp[nG,c],h.put _ (tE.nil (by simp[na,ox]))⟩};{rename_i d0 e b;obtain⟨v,m,l⟩:=cX h f b;cases a;cases g;exact⟨_,by simp[nG,l],h.put _ (tE.nil ⟨v,m,rfl⟩)⟩};cases a
theorem RX(h:Rel ρ S s)(e:jM ρ gs=Z I)(f:n=ρ.length){o}(a:DE hint S gs n d o=Z (bs,S'))(c:nL ρ bs=Z jK):o.ql=J/\∃g,nG cf mf s d o=Z g/\Rel jK S' g:=by cases o with|alloc j=>{exact⟨rfl,RU h a c⟩}|box x=>{exact⟨rfl,acG h e a c⟩}|vX k i l=>{exact⟨rfl,RW h e f a c⟩}|make k b i j x=>{exact⟨rfl,XO h e f a c⟩}|st m x y=>{exact⟨rfl,afC h e f a c⟩}|app k b i x y=>{exact⟨rfl,acF h e f a c⟩}|Kv k x y=>{exact⟨rfl,acH h e f a c⟩}|jn x y=>{exact⟨rfl,afB h e f a c⟩}|Xp x=>{exact⟨rfl,acI h e a c⟩}|_=>cases a
end
section
open Go.RowKit
inductive Ty where
 |int
 |bool
 |str
 |byte
 |list (t:Nat)
def Ty.plain:Ty->Bool
 | .list _=>J
 |_=>I
def lay:Nat->M Ty
 |0=>[.str]
 |1=>[.str,.list 0,.int,.bool]
 |2=>[.str,.str,.list 2]
 |3=>[.int,.str,.str,.list 3]
 |4=>[.int,.int,.list 3]
 |5=>[.list 2,.list 4]
 |6=>[.int,.int]
 |7=>[.int,.list 6,.list 0,.str,.str]
 |8=>[.str,.str]
 |9=>[.str,.list 8]
 |10=>[.bool,.int,.list 9]
 |11=>[.int,.int,.str,.bool,.int,.list 9,.list 11]
 |12=>[.int,.str,.int,.list 6,.list 0,.str,.str,.list 0,.list 0,.str,.bool,.bool,.bool,.bool,.int,.int,.list 11,.list 11,.list 12]
 |13=>[.list 2,.int,.int]
 |14=>[.bool,.int,.int,.str,.list 2]
 |15=>[.list 12,.list 2,.list 2,.int,.list 13,.bool,.int,.int,.str,.list 2]
 |16=>[.byte]
 |17=>[.int]
 |18=>[.int,.list 0,.list 17]
 |_=>[]
abbrev kw(t:Nat):Nat:=(lay t).length
abbrev flT(t:Nat):Bool:=(lay t).all Ty.plain
mutual
def Ok(B:Nat):Ty->D->Prop
 | .int,.int k n=>k=.i64/\-9223372036854775808<=n/\n<=9223372036854775807
 | .bool,.bool _=>True
 | .str,.str s=>s.size<=maxLen
 | .byte,.int k n=>k=.u8/\0<=n/\n<=255
 | .list t,.list k f es=>k=kw t/\f=flT t/\es.length<=B/\ib B t es
 |_,_=>False
def fX(B:Nat):List Ty->List D->Prop
 |[],[]=>True
 |t::a,d::b=>Ok B t d/\fX B a b
 |_,_=>False
def ib(B:Nat)(t:Nat):List (List D)->Prop
 |[]=>True
 |e::es=>fX B (lay t) e/\ib B t es
end
section
variable {B:Nat}
theorem Ok.ja{d}(h:Ok B .int d):∃n,d=.int .i64 n/\-9223372036854775808<=n/\n<=9223372036854775807:=by cases d<;>simp[Ok]at h;simp_all
theorem Ok.ni{d}(h:Ok B .bool d):∃b,d=.bool b:=by cases d<;>simp[Ok]at h;exact⟨_,rfl⟩
theorem Ok.ku{d}(h:Ok B .str d):∃s,d=.str s/\s.size<=maxLen:=by cases d<;>simp[Ok]at h;exact⟨_,rfl,h⟩
theorem Ok.Za{d}(h:Ok B .byte d):∃n,d=.int .u8 n/\0<=n/\n<=255:=by cases d<;>simp[Ok]at h;simp_all
theorem Ok.gp{t d}(h:Ok B (.list t) d):∃es,d=.list (kw t) (flT t) es/\es.length<=B/\ib B t es:=by cases d<;>simp[Ok]at h;simp_all
theorem fX.lT{a}(h:fX B [] a):a=[]:=by cases a with|nil=>{rfl}|cons d a=>simp[fX]at h
theorem fX.cons_inv{t c a}(h:fX B (t::c) a):∃x b,a=x::b/\Ok B t x/\fX B c b:=by cases a with|nil=>{simp[fX]at h}|cons d a=>simp[fX]at h;exact⟨d,a,rfl,h⟩
theorem ib.mem{t}:∀{es},ib B t es->∀e∈es,fX B (lay t) e
 |[],_,e,h=>by simp at h
 |x::es,a,e,h=>by simp[ib]at a;rcases aU.1 h with rfl|h;{exact a.1};exact ib.mem a.2 e h
theorem dG{a:Type}{l:M a}{i}(h:i<l.length):nth l i=Z l[i]:=by rw[ek];simp
theorem fX.length{ts}:∀{a},fX B ts a->a.length=ts.length:=by induction ts with|nil=>{intro a h;rw[h.lT];rfl}|cons t ts b=>intro a h;obtain⟨x,d,rfl,_,c⟩:=h.cons_inv;simp[b c]
mutual
theorem Ok.mono{B c:Nat}(a:B<=c):∀(t:Ty) (d:D),Ok B t d->Ok c t d
 | .int,.int _ _,h=>by simpa only [Ok] using h
 | .bool,.bool _,_=>by simp only[Ok]
 | .str,.str _,h=>by simpa only [Ok] using h
 | .byte,.int _ _,h=>by simpa only [Ok] using h
 | .list t,.list k f es,h=>by simp only[Ok]at h ⊢;exact⟨h.1,h.2.1,aS h.2.2.1 a,ib.mono a t es h.2.2.2⟩
 | .int,.bool _,h | .int,.str _,h | .int,.list _ _ _,h | .bool,.int _ _,h | .bool,.str _,h | .bool,.list _ _ _,h | .str,.int _ _,h | .str,.bool _,h | .str,.list _ _ _,h | .list _,.int _ _,h | .list _,.bool _,h | .list _,.str _,h | .byte,.bool _,h | .byte,.str _,h | .byte,.list _ _ _,h=>by simp only[Ok]at h
theorem fX.mono{B c:Nat}(a:B<=c):∀(g:List Ty) (i:List D),fX B g i->fX c g i
 |[],[],_=>by simp only[fX]
 |t::g,d::i,h=>by simp only[fX]at h ⊢;exact⟨Ok.mono a t d h.1,fX.mono a g i h.2⟩
 |[],_::_,h|_::_,[],h=>by simp only[fX]at h
theorem ib.mono{B c:Nat}(a:B<=c)(t:Nat):∀(es:List (List D)),ib B t es->ib c t es
 |[],h=>by simp only[ib]
 |e::es,h=>by simp only[ib]at h ⊢;exact⟨fX.mono a (lay t) e h.1,ib.mono a t es h.2⟩
end
end
mutual
def D.sz:D->Nat
 | .str s=>s.size
 | .list _ _ es=>es.length+qp es
 |_=>0
def dV:List D->Nat
 |[]=>0
 |d::a=>d.sz+dV a
def qp:List (List D)->Nat
 |[]=>0
 |e::es=>dV e+qp es
end
mutual
theorem Ok.small{B B':Nat}:∀(t:Ty) (d:D),Ok B t d->d.sz<=B'->Ok B' t d
 | .int,.int _ _,h,_=>by simpa only [Ok] using h
 | .bool,.bool _,_,_=>by simp only[Ok]
 | .str,.str _,h,_=>by simpa only [Ok] using h
 | .byte,.int _ _,h,_=>by simpa only [Ok] using h
 | .list t,.list k f es,h,a=>by simp only[Ok]at h ⊢;simp only[D.sz]at a;exact⟨h.1,h.2.1,by omega,ib.small t es h.2.2.2 (by omega)⟩
 | .int,.bool _,h,_ | .int,.str _,h,_ | .int,.list _ _ _,h,_ | .bool,.int _ _,h,_ | .bool,.str _,h,_ | .bool,.list _ _ _,h,_ | .str,.int _ _,h,_ | .str,.bool _,h,_ | .str,.list _ _ _,h,_ | .list _,.int _ _,h,_ | .list _,.bool _,h,_ | .list _,.str _,h,_ | .byte,.bool _,h,_ | .byte,.str _,h,_ | .byte,.list _ _ _,h,_=>by simp only[Ok]at h
theorem fX.small{B B':Nat}:∀(g:List Ty) (c:List D),fX B g c->dV c<=B'->fX B' g c
 |[],[],_,_=>by simp only[fX]
 |t::g,d::c,h,a=>by simp only[fX]at h ⊢;simp only[dV]at a;exact⟨Ok.small t d h.1 (by omega),fX.small g c h.2 (by omega)⟩
 |[],_::_,h,_|_::_,[],h,_=>by simp only[fX]at h
theorem ib.small{B B':Nat}(t:Nat):∀(es:List (List D)),ib B t es->qp es<=B'->ib B' t es
 |[],h,_=>by simp only[ib]
 |e::es,h,a=>by simp only[ib]at h ⊢;simp only[qp]at a;exact⟨fX.small (lay t) e h.1 (by omega),ib.small t es h.2 (by omega)⟩
end
abbrev aru(k:Nat)(a:Bool)(es:M (M D)):Row:=⟨es,k,a,I,I,J⟩
def own:D->RV
 | .list k a es=>.row (aru k a es)
 |d=>.d d
def alg:Nat->Nat->z->z
 |0,_,out=>out
 |f+1,n,out=>if n=0 then out else alg f (n / 10) (⟨#[dT (48+n % 10)]⟩++out)
def anl(k:Int):z:=if k<=0 then ⟨#[109,48]⟩ else ⟨#[109]⟩++alg 20 k.toNat ⟨#[]⟩
def ank(q:Int):Bool:=Z' (q % 3=0)
mutual
def D.mn:D->Nat
 | .list _ _ es=>mnE es
 |_=>1
def mnC:List D->Nat
 |[]=>0
 |d::a=>d.mn+mnC a
def mnE:List (List D)->Nat
 |[]=>0
 |e::es=>mnC e+mnE es
end
mutual
def D.mk:D->Int->D
 | .int k _,q=>.int k q
 | .bool _,q=>.bool (ank q)
 | .str _,q=>.str (anl q)
 | .list k a es,q=>.list k a (mkE es q)
def mkC:List D->Int->List D
 |[],_=>[]
 |d::c,q=>d.mk q::mkC c (q+d.mn)
def mkE:List (List D)->Int->List (List D)
 |[],_=>[]
 |e::es,q=>mkC e q::mkE es (q+mnC e)
end
theorem zh:∀a b,qp (a++b)=qp a+qp b
 |[],b=>by simp[qp]
 |e::a,b=>by simp[qp,zh a b,ij]
theorem cd{a:Type}:∀(es) (i) (e:a),nth es i=Z e->es.take (i+1)=es.take i++[e]
 |[],_,_,h=>by simp[nth]at h
 |x::es,0,e,h=>by simp[nth]at h;simp[h]
 |x::es,i+1,e,h=>by simp[nth]at h;simp[cd es i e h]
theorem E6{c:Type}:∀(es) (a) (b) (i) (e:c),nth es i=Z e->(es.take i++a::b).set i e=es.take (i+1)++b
 |[],_,_,_,_,h=>by simp[nth]at h
 |x::es,a,b,0,e,h=>by cases h;simp
 |x::es,a,b,i+1,e,h=>by simp[nth]at h;simp[E6 es a b i e h]
def aai{b:Type}{es a i}{e:b}(h:nth es i=Z e):(es.take i++aW (es.length - i) a).set i e=es.take (i+1)++aW (es.length - (i+1)) a:=by (have c:i<es.length:=by rw[ek]at h;exact (bn.1 h).1);rw[show es.length - i=(es.length - (i+1))+1 by omega,ir,E6 es a _ i e h]
end
section
variable {cf:Cf} {mf:Mf}
@[go_sem] theorem ap1 (g:St->u (Ex×St)) (s:St):PF g (Z (.norm,s))=g s:=rfl
@[go_sem] theorem anx (a:zA) (s:St):nrm a (Z s)=Z (.norm,s.ey a):=rfl
def Rl(a:M KR)(args:M A)(s:St):u (M A×M A):=
 match AO s a,xX s 0 args with
 |some (rs,l),Z (outs,b)=>if k8 (l++b) then Z (rs,outs) else O
 |_,_=>yS a args s
def ahm(a:M KR)(args:M A):u (Ex×St)->u (M A×M A)
 |some (.norm,s)=>Rl a args s
 |some (.ret,s)=>Rl a args s
 |_=>O
theorem Cp{T:Nat->u KF}{f b:Nat}{body:K}{a:M KR}(e:T f=Z ⟨b,body,a⟩){args:M A}(c:(args.length ==b && eP b 999)=I) :
  fI T f args=ahm a args (ev T zx body (lQ 0 args ⟨[],[],[]⟩)):=by rw[aw,beq_iff_eq,xo]at c;have d:=c.1;rw[T8 T e (by simp only;omega)];simp only[run,d,if_true];generalize ev T zx body (lQ 0 args ⟨[],[],[]⟩)=x;rcases x with _|⟨_|_|_,s⟩<;>rfl
theorem Ua{T:Nat->u KF}{body:K}(st:Nat->St){n:Nat}{e:Ex}{s:St}(c:e≠.norm)(b:ev T mf body (st n)=Z (e,s))(a:∀i,i<n->ev T mf body (st i)=Z (.norm,st (i+1))) :
  ∀m i,i+m=n->ev T mf (.loop body) (st i)=Z (e,s)
 |0,i,h=>by rw[lf,show i=n by omega,b];cases e with|norm=>{exact absurd rfl c}|exit j=>{rfl}|ret=>rfl
 |m+1,i,h=>by rw[lf,a i (by omega)];exact Ua st c b a m (i+1) (by omega)
theorem ani{T:Nat->u KF}{body:K}(st:Nat->St)(n:Nat){e:Ex}{s:St}(c:e≠.norm)(b:ev T mf body (st n)=Z (e,s))(a:∀i,i<n->ev T mf body (st i)=Z (.norm,st (i+1))):ev T mf (.loop body) (st 0)=Z (e,s):=
 Ua st c b a n 0 (by omega)
@[go_sem] theorem akA (c:Bool) (a:M RV):A.short (.val c a)=Z' (a.length<=30):=by simp only[A.short];by_cases h:a.length<=30;{simp only[h,decide_true];exact Nat.ble_eq_true_of_le h};simp only[h,decide_false];cases b:jZ a.length 30 with|false=>{rfl}|true=>exact absurd (Nat.le_of_ble_eq_true b) h
@[go_sem] theorem akz (s:St):nP cf mf [] s=Z s:=rfl
@[go_sem] theorem ahj (i:KI) (a:M KI) (s:St):nP cf mf (i::a) s=(wL cf mf s i).bind (nP cf mf a):=by simp only[nP];cases wL cf mf s i<;>rfl
@[go_sem] theorem alC (s:St) (d:u Nat) (o:KO):wL cf mf s ⟨d,o,O⟩=D4 cf mf s d o:=rfl
def gdn(cf:Cf)(mf:Mf)(s:St)(d:u Nat)(o:KO)(w:Bool):C->u St
 | .d (.bool b)=>if b=w then D4 cf mf s d o else Z (s.put d .wq)
 | .wq=>Z (s.put d .wq)
 |_=>O
@[go_sem] theorem alD (s:St) (d:u Nat) (o:KO) (g:Nat) (w:Bool):wL cf mf s ⟨d,o,Z (g,w)⟩=gdn cf mf s d o w (s.get g):=by simp only[wL,gdn];cases s.get g<;>rfl
def rsl(s:St)(d:u Nat)(a:M C):u (M A×M A)->u St
 |none=>O
 |some (rs,outs)=>if rs.all A.short then
   let g:=if rs.all A.closed && outs.all A.closed then s else eM s (iq a)
   let f:=gl (iu g (dx s a)) (cG a)
   let e:=lY f a outs
   let (l,b):=iM (d.getD 0) 0 rs e
   Z (b.put d (match l with|[c]=>c|l=>.tv l))
   else O
def ahh(cf:Cf)(s:St)(d:u Nat)(f:Nat)(a:M C):u (M A)->u St
 |some as=>if k8 (dx s a) && k8 (cG a) && (dx s a).all (λr=>!(iq a).contains r) then rsl s d a (cf f as) else O
 |none=>O
@[go_sem] theorem aky (s:St) (d:u Nat) (f:Nat) (a:M C):nS cf s d f a=ahh cf s d f a (xL s a):=by simp only[nS,ahh];cases xL s a with|none=>{rfl}|some as=>dsimp only;split;{cases cf f as with|none=>{rfl}|some r=>rfl};rfl
end
theorem arl{a:Type}(x:a)(l:M a):nth (x::l) 0=Z x:=rfl
theorem aro{a:Type}(x:a)(l:M a)(i:Nat):nth (x::l) (i+1)=nth l i:=rfl
def arn{a:Type}(i:Nat):nth ([]:M a) i=O:=by cases i<;>rfl
attribute [go_sem] aad KM NV aab aaa aac Tg Th NW Z_
attribute [go_sem] sI Rl yS A.isVal AO Hd xX Xx
attribute [go_sem] Cx D4 jw nG gF KO.ql KO.Rb rj gr qq kC
attribute [go_sem] St.get St.put St.gB St.setRow St.dL St.j9 St.newRow St.kill St.ey jk look sy TR TQ vg arl aro arn
attribute [go_sem] C.iT C.CC acf ace St.iT nN Jr C.kill C.jU C.cells C.const C.cell C.isAgg HQ EM dc D.plain Y3 ajN Y4 Y2 U_ n6 kN ig Sd xL rowsOf oG dx iq cG RV.closed A.closed Row.share eM er lY iM k8 iu nM gl E4 AQ qV af2 Zc YZ Bx lQ pO
attribute [go_sem] aN aJ bz cO dt List.all_nil oZ List.filter_nil aG au av cy br eW bQ List.drop_nil List.take_nil List.contains_cons List.contains_nil List.headD_cons
attribute [go_sem] cV Option.map_none cL cz bR Option.toList_some fY
attribute [go_sem] Option.some_beq_some Option.none_beq_some
attribute [go_sem] if_true if_false fT dC eJ dK dr db dX qS dB fU and_true true_and and_false false_and
attribute [go_sem] bN dY aQ ite_true ite_false decide_true decide_false cn Bool.true_eq_false beq_self_eq_true bne_self_eq_false imp_self false_imp_iff true_imp_iff
def wi{i n:Nat}(h:i<n)(a:n<=maxLen):IntKind.i64.wrap ((i:Int)+1)=((i+1:Nat):Int):=by rw[iJ (by simp[maxLen]at a;omega)];omega
theorem fX.drop{B:Nat}:∀(o:Nat) (a:M Ty) (b:M D),fX B a b->fX B (a.drop o) (b.drop o)
 |0,_,_,h=>by simpa using h
 |o+1,[],[],h=>by simpa using h
 |o+1,t::a,d::b,h=>by simp only[fX]at h;simpa using fX.drop o a b h.2
 |_,[],_::_,h|_,_::_,[],h=>by simp only[fX]at h
theorem fX.take{B:Nat}:∀(o:Nat) (a:M Ty) (b:M D),fX B a b->fX B (a.take o) (b.take o)
 |0,_,_,_=>by simp[fX]
 |o+1,[],[],h=>by simpa using h
 |o+1,t::a,d::b,h=>by simp only[fX]at h;simp only[cy,fX];exact⟨h.1,fX.take o a b h.2⟩
 |_,[],_::_,h|_,_::_,[],h=>by simp only[fX]at h
def fX.sub{B:Nat}(o m:Nat){a:M Ty}{b:M D}(h:fX B a b):fX B ((a.drop o).take m) ((b.drop o).take m):=fX.take m _ _ (fX.drop o _ _ h)
theorem fJ{a:Type}:∀(es:M a) (i:Nat) (e:a),nth es i=Z e->es.drop i=e::es.drop (i+1)
 |[],_,_,h=>by simp[nth]at h
 |x::es,0,e,h=>by simp only[nth,bq]at h;simp[h]
 |x::es,i+1,e,h=>by simp only[nth]at h;simp[fJ es i e h]
section
variable {T:Nat->u KF} {cf:Cf} {mf:Mf}
noncomputable def cnd(T:Nat->u KF)(mf:Mf)(c:C)(a b:K)(s:St):u (Ex×St):=ife c (ev T mf a s) (ev T mf b s)
theorem ahk c a b s:ev T mf (.cond c a b) s=cnd T mf (gF s c) a b s:=KM T mf c a b s
end
attribute [go_sem 2000] ahk
attribute [go_sem] Nat.max_def ite_self
def aY{a:Type}{l i}{x:a}(h:nth l i=Z x):i<l.length:=by rw[ek]at h;exact (bn.1 h).1
inductive Sg (σ ρ:Type) where
 |go (s:σ)
 |out (r:ρ)
def jB{c a b:Type}(step:Nat->a->c->Sg a b):Nat->a->M c->Sg a b
 |_,s,[]=>.go s
 |i,s,e::es=>match step i s e with
  | .go d=>jB step (i+1) d es
  | .out r=>.out r
def allI{a:Type}(p:Nat->a->Bool):Nat->M a->Bool
 |_,[]=>I
 |i,e::es=>p i e && allI p (i+1) es
theorem zD{a:Type}p:∀(i) (es:M a),allI (λ_=>p) i es=es.all p
 |_,[]=>rfl
 |i,e::es=>by simp[allI,zD p (i+1) es]
def uZ{a:Type}(p:a->Bool):M a->Nat->u Nat
 |[],_=>O
 |e::es,k=>if p e then Z k else uZ p es (k+1)
def Au{a β:Type}{f:a->β}{es i e}(h:nth es i=Z e):(es.take (i+1)).map f=(es.take i).map f++[f e]:=by rw[cd es i e h];simp
theorem KU{a:Type}{p}:∀{es:M a} {k j},uZ p es k=Z j->∃e,k<=j/\nth es (j - k)=Z e/\p e=I
 |[],k,j,h=>by simp[uZ]at h
 |e::es,k,j,h=>by simp[uZ]at h;split at h;{rename_i b;obtain rfl:=hO h;exact⟨e,aH _,by simp[nth],b⟩};obtain⟨x,f,d,c⟩:=KU h;refine⟨x,by omega,?_,c⟩;rw[show j - k=(j - (k+1))+1 by omega];exact d
def dw{a:Type}{p}{es:M a}{j}(h:uZ p es 0=Z j):∃e,nth es j=Z e/\p e=I:=by obtain⟨e,_,c,b⟩:=KU h;simp_all
def lx:u Nat->Int
 |none=>-1
 |some j=>(j:Int)
inductive Bi {σ ρ:Type} (b:σ->Option (Sg σ ρ)):σ->ρ->Prop
 |out {s:σ} {r:ρ} (h:b s=some (.out r)):Bi b s r
 |go {s s':σ} {r:ρ} (h:b s=some (.go s')) (h':Bi b s' r):Bi b s r
open Classical in
noncomputable def bG{a c:Type}(b:a->u (Sg a c))(s:a):u c:=if h:∃r,Bi b s r then Z h.choose else O
def QW{a c:Type}{b}{s:a}{r:c}(h:bG b s=Z r):Bi b s r:=by unfold bG at h;split at h;{rename_i d;rw[<- hO h];exact d.choose_spec};cases h
theorem Bi.zu{e f:Type}{b}{s:e}{r a:f}(h:Bi b s r)(c:Bi b s a):r=a:=by induction h with|out h=>{cases c with|out g=>{rw[h]at g;cases g;rfl}|go g _=>rw[h]at g;cases g}|go h _ i=>cases c with|out g=>{rw[h]at g;cases g}|go g j=>rw[h]at g;cases g;exact i j
def ze{c d:Type}{b}{s:c}{r:d}(h:Bi b s r):bG b s=Z r:=by unfold bG;have a:∃r,Bi b s r:=⟨r,h⟩;rw[dif_pos a,a.choose_spec.zu h]
def aK{a c:Type}{b}{s:a}{r:c}(h:b s=Z (.out r)):bG b s=Z r:=ze (.out h)
theorem bD{c e:Type}{b:c->u (Sg c e)}{s s'}(h:b s=Z (.go s')):bG b s=bG b s':=by by_cases d:∃r,Bi b s' r;{obtain⟨r,a⟩:=d;rw[ze a,ze (.go h a)]};have i:¬∃r,Bi b s r:=λ⟨r,a⟩=>by{cases a with|out g=>{rw[h]at g;cases g}|go g f=>rw[h]at g;cases g;exact d ⟨r,f⟩};unfold bG;simp_all
theorem aV{a β:Type}(f:a->β):∀l i,nth (l.map f) i=(nth l i).map f
 |[],_=>rfl
 |_::_,0=>rfl
 |_::l,i+1=>aV f l i
def wrap_i64{a}(h:-9223372036854775808<=a/\a<=9223372036854775807):IntKind.i64.wrap a=a:=iJ (by omega)
def wrap_u8{a}(h:0<=a/\a<=255):IntKind.u8.wrap a=a:=by simp[IntKind.wrap,IntKind.bits,IntKind.signed];omega
def ajM{c:Type}{b}{a t:M c}(d:b<=65536)(h:a.length+t.length<=2147483648):((a.length+t.length) * b<=room/\a.length+t.length<=maxLen)=True:=by refine eq_true ⟨aS (gD h d) (by decide),aS h (by decide)⟩
def Qa{a b c:Type}(mk:a->b):Sg a c->Sg b c
 | .go t=>.go (mk t)
 | .out r=>.out r
def sgF{b a:Type}(fin:b->a):Sg b a->a
 | .go t=>fin t
 | .out r=>r
theorem TA{q d o p:Type}{b es}(mk:Nat->d->o)(step:Nat->d->q->Sg d p)fin(a:Nat->d->Prop)
  (k:∀i e t,nth es i=Z e->a i t->b (mk i t)=Z (Qa (mk (i+1)) (step i t e))/\∀c,step i t e=.go c->a (i+1) c)
  (n:∀t,a es.length t->b (mk es.length t)=Z (.out (fin t))) :
  ∀m i t,i+m=es.length->a i t->bG b (mk i t)=Z (sgF fin (jB step i t (es.drop i)))
 |0,i,t,h,j=>by (obtain rfl:i=es.length:=by omega);rw[aK (n t j),eI];rfl
 |m+1,i,t,h,j=>by have a1:=dG (l:=es) (i:=i) (by omega);obtain⟨f,s⟩:=k i _ t a1 j;rw[fJ es i _ a1];simp[jB];cases g:step i t es[i]with|go c=>{rw[g]at f;rw[bD f];exact TA mk step fin a k n m (i+1) c (by omega) (s c g)}|out r=>rw[g]at f;rw[aK f];rfl
def Ac{j c f g:Type}{b}es(mk:Nat->c->f)(step:Nat->c->j->Sg c g)fin(a:Nat->c->Prop)t(m:a 0 t)
  (k:∀i e t,nth es i=Z e->a i t->b (mk i t)=Z (Qa (mk (i+1)) (step i t e))/\∀d,step i t e=.go d->a (i+1) d)
  (l:∀t,a es.length t->b (mk es.length t)=Z (.out (fin t))):bG b (mk 0 t)=Z (sgF fin (jB step 0 t es)):=by have h:=TA mk step fin a k l es.length 0 t (by omega) m;rwa [bQ]at h
theorem qZ{o k n:Type}{b}es(mk:Nat->k)(p:Nat->o->Bool)(a f:n)
  (g:∀i e,nth es i=Z e->b (mk i)=Z (if p i e=I then .go (mk (i+1)) else .out f))
  (j:b (mk es.length)=Z (.out a)):∀m i,i+m=es.length->bG b (mk i)=Z (if allI p i (es.drop i)=I then a else f)
 |0,i,h=>by (obtain rfl:i=es.length:=by omega);rw[aK j,eI];rfl
 |m+1,i,h=>by have a1:=dG (l:=es) (i:=i) (by omega);have d:=g i _ a1;(have q:allI p i (es.drop i)=(p i (es[i]'(by omega)) && allI p (i+1) (es.drop (i+1))):=by rw[fJ es i _ a1];rfl);rw[q];by_cases c:p i (es[i]'(by omega))=I;{rw[if_pos c]at d;rw[bD d,c,dC];exact qZ es mk p a f g j m (i+1) (by omega)};rw[if_neg c]at d;rw[aK d,dQ.2 c,dK,if_neg dh]
def gJ{g d f:Type}{b}es(mk:Nat->d)(p:g->Bool)(a c:f)
  (j:∀i e,nth es i=Z e->b (mk i)=Z (if p e=I then .go (mk (i+1)) else .out c))
  (k:b (mk es.length)=Z (.out a)):bG b (mk 0)=Z (if es.all p=I then a else c):=by have h:=qZ es mk (λ_=>p) a c j k es.length 0 (by omega);rwa [bQ,zD]at h
theorem Tz{o k n:Type}{b}es(mk:Nat->k)p none_(d:Nat->o->n)
  (f:∀i e,nth es i=Z e->b (mk i)=Z (if p e=I then .out (d i e) else .go (mk (i+1))))
  (g:b (mk es.length)=Z (.out none_)):∀m i,i+m=es.length->bG b (mk i)=Z (match uZ p (es.drop i) i with|none=>none_|some j=>match nth es j with|some e=>d j e|none=>none_)
 |0,i,h=>by (obtain rfl:i=es.length:=by omega);rw[aK g,eI];rfl
 |m+1,i,h=>by have a1:=dG (l:=es) (i:=i) (by omega);have c:=f i _ a1;rw[fJ es i _ a1];simp[uZ];by_cases a:p (es[i]'(by omega))=I;{rw[if_pos a]at c;rw[aK c,if_pos a];simp[a1]};rw[if_neg a]at c;rw[bD c,if_neg a];exact Tz es mk p none_ d f g m (i+1) (by omega)
def vB{f c d:Type}{b}es(mk:Nat->c)p none_(a:Nat->f->d)
  (g:∀i e,nth es i=Z e->b (mk i)=Z (if p e=I then .out (a i e) else .go (mk (i+1))))
  (k:b (mk es.length)=Z (.out none_)):bG b (mk 0)=Z (match uZ p es 0 with|none=>none_|some j=>match nth es j with|some e=>a j e|none=>none_):=by have h:=Tz es mk p none_ a g k es.length 0 (by omega);rwa [bQ]at h
theorem cI{k a g j:Type}{b}(es:M k)(mk:Nat->a->g)(f:Nat->a)(fin:j)
  (c:∀i e,nth es i=Z e->b (mk i (f i))=Z (.go (mk (i+1) (f (i+1)))))
  (d:b (mk es.length (f es.length))=Z (.out fin)):∀m i,i+m=es.length->bG b (mk i (f i))=Z fin
 |0,i,h=>by (obtain rfl:i=es.length:=by omega);exact aK d
 |m+1,i,h=>by have a1:=dG (l:=es) (i:=i) (by omega);rw[bD (c i _ a1)];exact cI es mk f fin c d m (i+1) (by omega)
def nr{β:Type}(i:Nat):M β->Int ⊕ (Int×M β)
 |[]=>.inl i
 |x::t=>.inr (i,x::t)
inductive ST where
 |nil
 |cons (a b:ST)
 |op (gs:Gs) (o:PO) (es:List SE) (t:ST)
 |gd (gs:Gs) (a b:ST)
 |call (i:Nat) (es:List SE) (ts:ST)
 |leaf (j:Nat) (es:List SE)
 |map (f:List Nat) (t:ST)
 |seq (t ts:ST)
 |loop (h:Nat) (es:List SE) (bs:ST)
 |both (a b:ST)
 deriving DecidableEq
abbrev Gf:=Nat->M D->u (Nat×M D)
def Fe:u (Nat×M D)->u (Sg (Nat×M D) (Nat×M D))
 |some (j,σ)=>Z (if j % 2=0 then .go (j / 2,σ) else .out (j / 2,σ))
 |none=>O
open Classical in
noncomputable def IQ{c:Type}:u c->u c->u c
 |some a,Z b=>if a=b then Z a else O
 |_,_=>O
def Y7{c:Type}{a b}{r:c}(h:IQ a b=Z r):a=Z r/\b=Z r:=by unfold IQ at h;grind
def Qs{b:Type}(a:b):IQ (Z a) (Z a)=Z a:=by simp[IQ]
noncomputable def eU(G:Gf):ST->Nat->M D->u (Nat×M D)
 | .nil,_,_=>O
 | .cons a _,0,ρ=>eU G a 0 ρ
 | .cons _ b,j+1,ρ=>eU G b j ρ
 | .op gs o es t,_,ρ=>match jM ρ gs with
  |some I=>match jq ρ es with
   |some d=>match aP o d with
    |some x=>eU G t 0 (ρ++[x])
    |none=>O
   |none=>O
  |some J=>eU G t 0 (ρ++[.bool J])
  |none=>O
 | .gd gs a b,_,ρ=>match jM ρ gs with
  |some I=>eU G a 0 ρ
  |some J=>eU G b 0 ρ
  |none=>O
 | .call i es e,_,ρ=>match jq ρ es with
  |some d=>match G i d with
   |some (j,ws)=>eU G e j (ρ++ws)
   |none=>O
  |none=>O
 | .leaf j es,_,ρ=>match jq ρ es with
  |some d=>Z (j,d)
  |none=>O
 | .map f t,_,ρ=>match eU G t 0 ρ with
  |some (j,c)=>(nth f j).map (·,c)
  |none=>O
 | .seq t e,_,ρ=>match eU G t 0 ρ with
  |some (j,c)=>eU G e j c
  |none=>O
 | .loop h es g,_,ρ=>match jq ρ es with
  |some c=>bG (λp=>Fe (eU G g p.1 p.2)) (h,c)
  |none=>O
 | .both a b,_,ρ=>IQ (eU G a 0 ρ) (eU G b 0 ρ)
def Qw(c:Nat):SB->SB×M SE
 | .d e=>(.d (.v c),[e])
 |x=>(x,[])
def xO:Nat->M SB->M SB×M SE
 |_,[]=>([],[])
 |c,x::xs=>match Qw c x with
  |(y,es)=>match xO (c+es.length) xs with
   |(ys,fs)=>(y::ys,es++fs)
def Kk:Nat->M (SB ⊕ M SB)->M (SB ⊕ M SB)×M SE
 |_,[]=>([],[])
 |c,.inl x::xs=>match Qw c x with
  |(y,es)=>match Kk (c+es.length) xs with
   |(ys,fs)=>(.inl y::ys,es++fs)
 |c,.inr x::xs=>match xO c x with
  |(y,es)=>match Kk (c+es.length) xs with
   |(ys,fs)=>(.inr y::ys,es++fs)
def Va(c:Nat):SC->SC×M SE
 | .b x=>match Qw c x with
  |(y,es)=>(.b y,es)
 | .agg xs=>match xO c xs with
  |(ys,es)=>(.agg ys,es)
 | .tv xs=>match Kk c xs with
  |(ys,es)=>(.tv ys,es)
 | .ptr b o=>(.ptr b o,[])
 | .pG r k i o=>(.pG r k (.v c) o,[i])
 | .vc i o=>(.vc c o,[.v i])
 | .fn F a=>(.fn F a,[])
 | .any=>(.any,[])
def CY(a:Gs):Nat->M (Nat×SG)->M (Nat×SG)×M SE
 |_,[]=>([],[])
 |c,(d,g)::l=>if g.gs.all (λp=>Z' (p∈a)) then (match Va c g.c with
   |(y,es)=>match CY a (c+es.length) l with
    |(ys,fs)=>((d,⟨[],y⟩)::ys,es++fs))
  else match CY a c l with
   |(ys,fs)=>((d,⟨[],.any⟩)::ys,fs)
def IW:Nat->M (Nat×M SB)->M (Nat×M SB)×M SE
 |_,[]=>([],[])
 |c,(d,x)::l=>match xO c x with
  |(y,es)=>match IW (c+es.length) l with
   |(ys,fs)=>((d,y)::ys,es++fs)
def IX:Nat->M (Nat×SR)->M (Nat×SR)×M SE
 |_,[]=>([],[])
 |c,(d,x)::l=>match IX (c+1) l with
   |(ys,fs)=>((d,{x with e:=.v c })::ys,x.e::fs)
def amf(d:Nat):M Nat->M Nat
 |[]=>[d]
 |e::l=>if d<e then d::e::l else if d=e then e::l else e::amf d l
def TO{a:Type}:M (Nat×a)->M Nat
 |[]=>[]
 |(d,_)::l=>amf d (TO l)
def SS.keys(S:SS):zA:=⟨TO S.sl,TO S.bx,TO S.rw⟩
def Vb(a:Gs)(S:SS):SS×M SE:=
 match CY a 0 (S.ey S.keys).sl with
 |(sl,es)=>match IW es.length (S.ey S.keys).bx with
  |(bx,fs)=>match IX (es.length+fs.length) (S.ey S.keys).rw with
   |(rw,gs)=>(⟨sl,bx,rw⟩,es++(fs++gs))
section
variable {ρ:M D}
theorem L1{a:Type}:∀(l) (x) (m:M a),nth (l++([x]++m)) l.length=Z x:=λl x m=>kt l x m
theorem Kj{c x y es v σ}(f:Qw c x=(y,es))(g:ox ρ x v)(i:jq ρ es=Z σ){b σ1}(l:b.length=c):ox (b++(σ++σ1)) y v:=by subst l;cases x with|d e=>{cases f;obtain⟨a,j,rfl⟩:=g;obtain⟨w,h,rfl⟩:=gh i;rw[j]at h;cases h;exact⟨a,L1 _ _ _,rfl⟩}|nil k m=>{cases f;exact g}|ref r=>{cases f;exact g}|any=>cases f;trivial
theorem mU:∀{es fs c},jq ρ (es++fs)=Z c->∃b a,jq ρ es=Z b/\jq ρ fs=Z a/\c=b++a
 |[],_,c,h=>⟨[],c,rfl,h,rfl⟩
 |e::es,_,_,h=>by obtain⟨x,ys,i,g,rfl⟩:=eD (es:=es++_) h;obtain⟨b,a,f,d,rfl⟩:=mU g;exact⟨x::b,a,by simp[jq,i,f],d,rfl⟩
theorem zK:∀{b c ys es vs e σ0 σ1},xO c b=(ys,es)->fN ρ b vs->jq ρ es=Z e->σ0.length=c->fN (σ0++(e++σ1)) ys vs
 |[],_,_,_,_,_,_,_,a,i,g,f=>by cases a;exact i
 |x::b,c,ys,es,vs,e,σ0,σ1,a,⟨v,p,j,o,n⟩,g,f=>by subst j;simp only[xO]at a;generalize m:Qw c x=q at a;obtain⟨y,s⟩:=q;generalize l:xO (c+s.length) b=q at a;cases a;obtain⟨r,d,h,k,rfl⟩:=mU g;refine⟨v,p,rfl,?_,?_⟩;{have:=Kj m o h f (σ1:=d++σ1);simp_all};have:=zK l n k (σ0:=σ0++r) (σ1:=σ1) (by rw[ay,f,lb h]);simp_all
theorem Kl:∀{d c ys es vs g σ0 σ1},Kk c d=(ys,es)->yg ρ d vs->jq ρ es=Z g->σ0.length=c->yg (σ0++(g++σ1)) ys vs
 |[],_,_,_,_,_,_,_,a,s,h,e=>by cases a;exact s
 | .inl x::d,c,ys,es,vs,g,σ0,σ1,a,⟨v,o,i,n,m⟩,h,e=>by subst i;simp only[Kk]at a;generalize l:Qw c x=q at a;obtain⟨y,r⟩:=q;generalize k:Kk (c+r.length) d=q at a;cases a;obtain⟨p,b,f,j,rfl⟩:=mU h;refine⟨v,o,rfl,?_,?_⟩;{have:=Kj l n f e (σ1:=b++σ1);simpa only [aZ] using this};have:=Kl k m j (σ0:=σ0++p) (σ1:=σ1) (by rw[ay,e,lb f]);simpa only [aZ] using this
 | .inr x::d,c,ys,es,vs,g,σ0,σ1,a,⟨v,o,i,n,m⟩,h,e=>by subst i;simp only[Kk]at a;generalize l:xO c x=q at a;obtain⟨y,r⟩:=q;generalize k:Kk (c+r.length) d=q at a;cases a;obtain⟨p,b,f,j,rfl⟩:=mU h;refine⟨v,o,rfl,?_,?_⟩;{have:=zK l n f e (σ1:=b++σ1);simpa only [aZ] using this};have:=Kl k m j (σ0:=σ0++p) (σ1:=σ1) (by rw[ay,e,lb f]);simpa only [aZ] using this
theorem adA{c x y es v σ}(a:Va c x=(y,es))(f:na ρ x v)(j:jq ρ es=Z σ){h σ1}(l:h.length=c):na (h++(σ++σ1)) y v:=by cases x with|b x=>{simp only[Va]at a;generalize e:Qw c x=q at a;cases a;exact Kj e f j l}|agg s=>{simp only[Va]at a;generalize e:xO c s=q at a;cases a;obtain⟨m,rfl,g⟩:=f;exact⟨m,rfl,zK e g j l⟩}|tv s=>{simp only[Va]at a;generalize e:Kk c s=q at a;cases a;obtain⟨m,rfl,g⟩:=f;exact⟨m,rfl,Kl e g j l⟩}|ptr b o=>{cases a;exact f}|pG r k i o=>{cases a;subst l;obtain⟨n,g,rfl⟩:=f;obtain⟨w,p,rfl⟩:=gh j;rw[g]at p;cases p;exact⟨n,L1 _ _ _,rfl⟩}|vc i o=>{cases a;subst l;obtain⟨x,m,g,p,rfl⟩:=f;obtain⟨w,e,rfl⟩:=gh j;rw[SE.d,g]at e;cases e;exact⟨x,m,L1 _ _ _,p,rfl⟩}|fn F t=>{cases a;exact f}|any=>cases a;trivial
theorem EB{f}(n:jM ρ f=Z I):∀{l c m es k σ0 σ1},CY f c l=(m,es)->jq ρ es=Z k->σ0.length=c->
  ∀d g,look m d=Z g->∃e,look l d=Z e/\∀v,tE ρ e v->tE (σ0++(k++σ1)) g v
 |[],_,_,_,_,_,_,a,o,i=>by cases a;intro d g h;cases h
 |(d0,e)::l,c,m,es,k,σ0,σ1,a,o,i=>by intro d g h;simp[CY]at a;split at a;{rename_i x;generalize B:Va c e.c=q at a;obtain⟨y,F⟩:=q;generalize p:CY f (c+F.length) l=q at a;cases a;obtain⟨C,j,t,A,rfl⟩:=mU o;simp[look]at h ⊢;split at h;{rename_i hd;cases h;refine⟨e,by rw[if_pos hd],λv s=>?_⟩;obtain⟨b,r,w,G⟩:=s;rw[QZ n x]at r;cases r;have:=adA B (w rfl) t i (σ1:=j++σ1);exact tE.nil (by simpa only [aZ] using this)};rename_i hd;rw[if_neg hd];have:=EB n p A (σ0:=σ0++C) (σ1:=σ1) (by rw[ay,i,lb t]) d g h;simpa only [aZ] using this};generalize p:CY f c l=q at a;cases a;simp[look]at h ⊢;split at h;{rename_i hd;cases h;exact⟨e,by rw[if_pos hd],λv s=>tE.nil trivial⟩};rename_i hd;rw[if_neg hd];exact EB n p o i d g h
theorem Nj:∀{l c i es f σ0 σ1},IW c l=(i,es)->jq ρ es=Z f->σ0.length=c->
  ∀d g,look i d=Z g->∃b,look l d=Z b/\∀v,fN ρ b v->fN (σ0++(f++σ1)) g v
 |[],_,_,_,_,_,_,a,k,j=>by cases a;intro d g h;cases h
 |(d0,b)::l,c,i,es,f,σ0,σ1,a,k,j=>by intro d g h;simp only[IW]at a;generalize r:xO c b=q at a;obtain⟨y,t⟩:=q;generalize p:IW (c+t.length) l=q at a;cases a;obtain⟨s,e,m,o,rfl⟩:=mU k;simp[look]at h ⊢;split at h;{rename_i hd;cases h;refine⟨b,by rw[if_pos hd],λv n=>?_⟩;have:=zK r n m j (σ1:=e++σ1);simpa only [aZ] using this};rename_i hd;rw[if_neg hd];have:=Nj p o (σ0:=σ0++s) (σ1:=σ1) (by rw[ay,j,lb m]) d g h;simpa only [aZ] using this
theorem Nk:∀{l c i es f σ0 σ1},IX c l=(i,es)->jq ρ es=Z f->σ0.length=c->
  ∀d g,look i d=Z g->∃b,look l d=Z b/\∀v,SRr ρ b v->SRr (σ0++(f++σ1)) g v
 |[],_,_,_,_,_,_,a,m,j=>by cases a;intro d g h;cases h
 |(d0,b)::l,c,i,es,f,σ0,σ1,a,m,j=>by intro d g h;simp only[IX]at a;generalize r:IX (c+1) l=q at a;cases a;obtain⟨x,e,p,o,rfl⟩:=eD m;simp[look]at h ⊢;split at h;{rename_i hd;cases h;refine⟨b,by rw[if_pos hd],λv n=>?_⟩;obtain⟨s,k,rfl⟩:=n;rw[p]at k;cases k;subst j;exact⟨s,kt σ0 _ (e++σ1),rfl⟩};rename_i hd;rw[if_neg hd];have:=Nk r o (σ0:=σ0++[x]) (σ1:=σ1) (by rw[ay,j];rfl) d g h;simpa only [aZ,av,au] using this
theorem Rel.atp{S s}(h:Rel ρ S s)e:Rel ρ (S.ey e) s:=
 ⟨λd g a=>h.sl d g (ju _ _ a).1,λb c a=>h.bx b c (ju _ _ a).1,λr x a=>h.rw r x (ju _ _ a).1⟩
theorem SU{S y s n es σ}(h:Rel ρ S s)(B:jM ρ n=Z I)(a:Vb n S=(y,es))(C:jq ρ es=Z σ):Rel σ y s:=by have h:=h.atp S.keys;unfold Vb at a;generalize H:CY n 0 (S.ey S.keys).sl=q at a;obtain⟨sl,w⟩:=q;simp only at a;generalize G:IW w.length (S.ey S.keys).bx=q at a;obtain⟨bx,p⟩:=q;generalize F:IX (w.length+p.length) (S.ey S.keys).rw=q at a;cases a;obtain⟨σ1,N,o,L,rfl⟩:=mU C;obtain⟨e,c,v,K,rfl⟩:=mU L;refine⟨λd g j=>?_,λb A j=>?_,λr x j=>?_⟩;{obtain⟨k,i,f⟩:=EB B H o (σ0:=[]) (σ1:=e++c) rfl d g j;exact f _ (h.sl d k i)};{obtain⟨k,i,f⟩:=Nj G v (σ0:=σ1) (σ1:=c) (lb o) b A j;obtain⟨t,m,l⟩:=h.bx b k i;exact⟨t,m,f _ l⟩};obtain⟨k,i,f⟩:=Nk F K (σ0:=σ1++e) (σ1:=[]) (by rw[ay,lb o,lb v]) r x j;obtain⟨t,m,l⟩:=h.rw r k i;refine⟨t,m,?_⟩;have:=f _ l;simpa only [aZ,aG] using this
end
inductive HX where
 |d
 |row (k:Nat) (fl deep app fz:Bool)
 deriving DecidableEq
inductive SA where
 |val (ag:Bool) (l:List HX)
 |box (l:List HX)
 deriving DecidableEq
structure pe where
 f:Nat
 args:List SA
 res:List (List SA×List SA)
 deriving DecidableEq
def SA.n:SA->Nat
 | .val _ l=>l.length
 | .box l=>l.length
def SA.l:SA->M HX
 | .val _ l=>l
 | .box l=>l
def EO:HX->D->u RV
 | .d,x=>Z (.d x)
 | .row k a deep app fz,.list c b es=>if c=k/\b=a then Z (.row ⟨es,k,a,deep,app,fz⟩) else O
 |_,_=>O
def nO:M HX->M D->u (M RV)
 |[],[]=>Z []
 |v::vs,x::xs=>match EO v x with
  |some r=>(nO vs xs).map (r::·)
  |none=>O
 |_,_=>O
def tO:SA->M D->u A
 | .val a l,xs=>(nO l xs).map (.val a)
 | .box l,xs=>(nO l xs).map .box
def gU:M SA->M D->u (M A)
 |[],[]=>Z []
 |[],_::_=>O
 |a::as,xs=>match tO a (xs.take a.n) with
  |some r=>(gU as (xs.drop a.n)).map (r::·)
  |none=>O
def xx:M SA->Nat
 |[]=>0
 |a::as=>a.n+xx as
def uY(v:M SA×M SA)(a:M D):u (M A×M A):=
 match gU v.1 (a.take (xx v.1)),gU v.2 (a.drop (xx v.1)) with
 |some rs,Z outs=>Z (rs,outs)
 |_,_=>O
def Zd(a:Cf)(g:Nat):M A->u (M A×M A):=match eP g 100000 with
 |true=>a g
 |false=>yj (gH (g % 2) 1) (a ((g - 100000) / 2))
def Vc(a:Bool)(f:Nat):Nat:=100000+(2 * f+if a=I then 1 else 0)
def ED{a g}(h:g<100000):Zd a g=a g:=by unfold Zd;rw[show eP g 100000=I by rw[xo];exact h]
def DS{b}a f:Zd b (Vc a f)=yj a (b f):=by unfold Zd Vc;rw[show eP (100000+(2 * f+if a=I then 1 else 0)) 100000=J by rw[dQ,ne_eq,xo];omega];cases a;{rw[show (100000+(2 * f+if J=I then 1 else 0) - 100000) / 2=f by simp;try omega,show (100000+(2 * f+if J=I then 1 else 0)) % 2=0 by simp;try omega];rfl};rw[show (100000+(2 * f+if I=I then 1 else 0) - 100000) / 2=f by simp;try omega,show (100000+(2 * f+if I=I then 1 else 0)) % 2=1 by simp;try omega];rfl
def Gok(e:Cf)(d:M (Nat×pe))(G:Gf):Prop:=
 ∀i a,look d i=Z a->∀b j c,G i b=Z (j,c)->∃as r v,gU a.args b=Z as/\nth a.res j=Z v/\uY v c=Z r/\Zd e a.f as=Z r
def rdS(S:SS):SB->u SE
 | .d e=>Z e
 | .nil k a=>Z (.k (.nil k a))
 | .ref r=>(look S.rw r).map (·.e)
 | .any=>O
def wrS(S:SS):SB->u (HX×SE)
 | .d e=>Z (.d,e)
 | .nil k a=>Z (.row k a I I J,.k (.nil k a))
 | .ref r=>(look S.rw r).map λx=>(.row x.k x.fl x.deep x.app x.fz,x.e)
 | .any=>O
def SC.isAgg:SC->Bool
 | .agg _=>I
 |_=>J
def afy(S:SS):SC->u (SA×M SE)
 | .ptr b 0=>match look S.bx b with
  |some a=>(ig (wrS S) a).map λl=>(.box (l.map (·.1)),l.map (·.2))
  |none=>O
 |c=>match c.cells with
  |some a=>(ig (rdS S) a).map λl=>(.val c.isAgg (l.map λ_=>.d),l)
  |none=>O
def Ht(S:SS):M SC->u (M SA×M SE)
 |[]=>Z ([],[])
 |c::cs=>match afy S c with
  |some (a,es)=>(Ht S cs).map λp=>(a::p.1,es++p.2)
  |none=>O
def gG:M SB->M Nat
 |[]=>[]
 | .ref r::cs=>r::gG cs
 |_::cs=>gG cs
def ur(S:SS):SC->M Nat
 | .ptr b 0=>gG ((look S.bx b).getD [])
 |_=>[]
def uq(S:SS):M SC->M Nat
 |[]=>[]
 |c::cs=>ur S c++uq S cs
def Aq:M SC->M Nat
 |[]=>[]
 |c::cs=>gG (c.cells.getD [])++Aq cs
def rM:M SC->M Nat
 |[]=>[]
 | .ptr b _::cs=>b::rM cs
 |_::cs=>rM cs
section
variable {ρ:M D} {S:SS} {s:St}
theorem ajJ(h:Rel ρ S s){x v e}(b:ox ρ x v)(a:rdS S x=Z e):∃y,e.d ρ=Z y/\n6 s v=Z (.d y):=by cases x with|d j=>{cases a;obtain⟨y,c,rfl⟩:=b;exact⟨y,c,rfl⟩}|nil k i=>{cases a;cases b;exact⟨_,rfl,rfl⟩}|ref r=>{cases b;obtain⟨x,c,rfl⟩:=aC.1 a;obtain⟨y,g,es,f,rfl⟩:=h.rw r x c;exact⟨_,f,by simp[n6,g]⟩}|any=>cases a
theorem akq(h:Rel ρ S s){x v p}(b:ox ρ x v)(a:wrS S x=Z p):∃y r,p.2.d ρ=Z y/\kN s v=Z r/\EO p.1 y=Z r:=by cases x with|d i=>{cases a;obtain⟨y,c,rfl⟩:=b;exact⟨y,_,c,rfl,rfl⟩}|nil k g=>{cases a;cases b;exact⟨_,_,rfl,rfl,by simp[SK.d,EO]⟩}|ref r=>{cases b;obtain⟨x,c,rfl⟩:=aC.1 a;obtain⟨y,f,es,e,rfl⟩:=h.rw r x c;exact⟨_,.row ⟨es,x.k,x.fl,x.deep,x.app,x.fz⟩,e,by simp[kN,f],by simp[EO]⟩}|any=>cases a
theorem Uy(h:Rel ρ S s):∀{c vs es},fN ρ c vs->ig (rdS S) c=Z es->∃ys b,jq ρ es=Z ys/\ig (n6 s) vs=Z b/\nO (es.map λ_=>.d) ys=Z b
 |[],vs,_,f,a=>by cases a;cases f;exact⟨[],[],rfl,rfl,rfl⟩
 |x::c,_,es,⟨v,vs,f,p,o⟩,a=>by subst f;simp[ig]at a;split at a;{rename_i e g;obtain⟨q,n,rfl⟩:=aC.1 a;obtain⟨y,m,l⟩:=ajJ h p g;obtain⟨ys,b,k,j,i⟩:=Uy h o n;exact⟨y::ys,.d y::b,by simp[jq,m,k],by simp[ig,l,j],by simp[nO,EO,i]⟩};cases a
theorem A7(h:Rel ρ S s):∀{c vs d},fN ρ c vs->ig (wrS S) c=Z d->∃ys b,jq ρ (d.map (·.2))=Z ys/\ig (kN s) vs=Z b/\nO (d.map (·.1)) ys=Z b
 |[],vs,_,e,a=>by cases a;cases e;exact⟨[],[],rfl,rfl,rfl⟩
 |x::c,_,es,⟨v,vs,e,q,o⟩,a=>by subst e;simp[ig]at a;split at a;{rename_i p f;obtain⟨t,n,rfl⟩:=aC.1 a;obtain⟨y,r,m,l,g⟩:=akq h q f;obtain⟨ys,b,k,j,i⟩:=A7 h o n;exact⟨y::ys,r::b,by simp[jq,m,k],by simp[ig,l,j],by simp[nO,g,i]⟩};cases a
theorem mR:∀{l a b},nO l a=Z b->a.length=l.length
 |[],[],_,_=>rfl
 |[],_::_,_,h=>by cases h
 |_::_,[],_,h=>by cases h
 |v::l,x::a,b,h=>by simp[nO]at h;split at h;{obtain⟨ys,c,_⟩:=aC.1 h;simp[mR c]};cases h
theorem qi{c β:Type}{f p}(b:∀x y,f x=Z y->p x=I):∀{a:M c} {ys:M β},ig f a=Z ys->a.all p=I
 |[],_,_=>rfl
 |x::a,_,h=>by simp[ig]at h;split at h;{rename_i y d;obtain⟨ys,e,_⟩:=aC.1 h;simp[b x y d,qi b e]};cases h
theorem ab9{x e}(h:rdS S x=Z e):x.cell=I:=by cases x<;>first|rfl|cases h
theorem wA{x e}(h:wrS S x=Z e):x.cell=I:=by cases x<;>first|rfl|cases h
theorem mE:∀{b vs},fN ρ b vs->b.all SB.cell=I->rowsOf vs=gG b
 |[],_,h,_=>by cases h;rfl
 |x::b,_,⟨v,vs,g,f,c⟩,a=>by subst g;simp only[dt,aw]at a;cases x with|d e=>{obtain⟨y,_,rfl⟩:=f;simp[rowsOf,gG];exact mE c a.2}|nil k i=>{cases f;simp[rowsOf,gG];exact mE c a.2}|ref r=>{cases f;simp[rowsOf,gG,mE c a.2]}|any=>cases a.1
def Yy(c:SC)(v:C):Prop:=(∃b,c=.ptr b 0/\v=.ptr b 0)\/((∀b o,c≠.ptr b o)/\∀b o,v≠.ptr b o)
theorem afz(h:Rel ρ S s){c v a es}(w:na ρ c v)(f:afy S c=Z (a,es)):
  ∃g r,jq ρ es=Z g/\Sd s v=Z r/\tO a g=Z r/\g.length=a.n/\oG s v=ur S c/\rowsOf v.cells=gG (c.cells.getD [])/\Yy c v:=by
 (have val:∀{i l},c.cells=Z i->ig (rdS S) i=Z l->a=.val c.isAgg (l.map λ_=>.d)->es=l->(∀b o,c≠.ptr b o)-> ∃g r,jq ρ es=Z g/\Sd s v=Z r/\tO a g=Z r/\g.length=a.n/\oG s v=ur S c/\rowsOf v.cells=gG (c.cells.getD [])/\Yy c v:=by{rintro i l e j rfl rfl y;have B:=qi (λ_ _=>ab9) j;have G:=w.cells e B;obtain⟨ys,F,m,k,A⟩:=Uy h G j;have q:∀b o,v≠.ptr b o:=by{rintro b o rfl;cases c with|b x=>{cases e;have:=ox.cell w (by simpa using B);cases this}|agg ys=>{obtain⟨K,C,_⟩:=w;cases C}|ptr b o=>{exact y b o rfl}|tv _=>{cases e}|pG _ _ _ _=>{cases e}|vc _ _=>{cases e}|fn _ _=>{cases e}|any=>cases e};have Q:v.isAgg=c.isAgg:=by{cases c with|b x=>{cases e;have:=ox.cell w (by simpa using B);cases v<;>first|rfl|cases this}|agg ys=>{obtain⟨K,rfl,_⟩:=w;rfl}|ptr b o=>{exact absurd rfl (y b o)}|tv _=>{cases e}|pG _ _ _ _=>{cases e}|vc _ _=>{cases e}|fn _ _=>{cases e}|any=>cases e};refine⟨ys,.val v.isAgg F,m,?_,by rw[Q];simp[tO,A],by rw[mR A];rfl,?_,?_,.inr ⟨y,q⟩⟩;{unfold Sd;split;{exact absurd rfl (q _ _)};simp[k]};{have:oG s v=[]:=by{unfold oG;split;{exact absurd rfl (q _ _)};rfl};rw[this];unfold ur;split;{exact absurd rfl (y _ _)};rfl};rw[e,mE G B];rfl});have box:∀{b i l},c=.ptr b 0->look S.bx b=Z i->ig (wrS S) i=Z l->a=.box (l.map (·.1))->es=l.map (·.2)-> ∃g r,jq ρ es=Z g/\Sd s v=Z r/\tO a g=Z r/\g.length=a.n/\oG s v=ur S c/\rowsOf v.cells=gG (c.cells.getD [])/\Yy c v:=by{rintro b i l rfl j m rfl rfl;cases w;obtain⟨K,A,C⟩:=h.bx b i j;obtain⟨ys,F,P,N,H⟩:=A7 h C m;refine⟨ys,.box F,P,by simp[Sd,A,N],by simp[tO,H],by rw[mR H];rfl,?_,rfl,.inl ⟨b,rfl,rfl⟩⟩;have:=mE C (qi (p:=SB.cell) (λ_ _=>wA) m);simp[oG,ur,A,j,this]}
 have t:(∀b o,c≠.ptr b o)->(match c.cells with
  |some i=>(ig (rdS S) i).map λl=>(SA.val c.isAgg (l.map λ_=>HX.d),l)
  |none=>O)=Z (a,es)->∃g r,jq ρ es=Z g/\Sd s v=Z r/\tO a g=Z r/\g.length=a.n/\oG s v=ur S c/\rowsOf v.cells=gG (c.cells.getD [])/\Yy c v:=by
  intro y f;rcases e:c.cells with _|i
  .rw[e]at f;cases f
  .have L:=f;rw[e]at L;obtain⟨l,m,k⟩:=aC.1 L;simp at k;have:=val e m k.1.symm k.2.symm y;rw[e]at this;exact this
 cases c with|ptr b o=>{cases o with|zero=>{rcases j:look S.bx b with _|i;{simp only[afy,j]at f;cases f};simp only[afy,j]at f;obtain⟨l,m,k⟩:=aC.1 f;simp at k;have:=box rfl j m k.1.symm k.2.symm;exact this}|succ o=>cases f}|b x=>{exact t (λ_ _ h=>by cases h) f}|agg x=>{exact t (λ_ _ h=>by cases h) f}|tv x=>{exact t (λ_ _ h=>by cases h) f}|pG _ _ _ _=>{exact t (λ_ _ h=>by cases h) f}|vc _ _=>{exact t (λ_ _ h=>by cases h) f}|fn _ _=>{exact t (λ_ _ h=>by cases h) f}|any=>exact t (λ_ _ h=>by cases h) f
def Yz:M SC->M C->Prop
 |[],vs=>vs=[]
 |c::cs,vs=>∃v a,vs=v::a/\Yy c v/\Yz cs a
theorem take_left'{c:Type}{a b:M c}{n}(h:a.length=n):(a++b).take n=a:=by subst h;exact n9
theorem drop_left'{c:Type}{a b:M c}{n}(h:a.length=n):(a++b).drop n=b:=by subst h;exact List.drop_left
theorem Hu(h:Rel ρ S s):∀{d vs as es},Et ρ d vs->Ht S d=Z (as,es)->
  ∃f g,jq ρ es=Z f/\xL s vs=Z g/\gU as f=Z g/\dx s vs=uq S d/\iq vs=Aq d/\cG vs=rM d/\Yz d vs
 |[],_,_,_,j,e=>by cases j;cases e;exact⟨[],[],rfl,rfl,rfl,rfl,rfl,rfl,rfl⟩
 |c::d,_,as,es,⟨v,vs,j,N,L⟩,e=>by subst j;simp[Ht]at e;split at e;{rename_i a R K;obtain⟨p,H,G⟩:=aC.1 e;cases G;obtain⟨f,r,F,C,B,m,A,y,l⟩:=afz h N K;obtain⟨i,g,x,w,t,q,o,k,n⟩:=Hu h L H;refine⟨f++i,r::g,qY F x,by simp[xL,C,w],?_,by simp[dx,uq,A,q],by simp[iq,Aq,y,o],?_,v,vs,rfl,l,n⟩;{simp[gU,take_left' m,drop_left' m,B,t]};rcases l with ⟨b,rfl,rfl⟩|⟨n1,n2⟩;{simp[cG,rM,k]};have Q:rM (c::d)=rM d:=by{cases c<;>first|rfl|exact absurd rfl (n1 _ _)};have P:cG (v::vs)=cG vs:=by{cases v<;>first|rfl|exact absurd rfl (n2 _ _)};rw[Q,P,k]};cases e
def Loc(ρ:M D)(c:Nat)(a:M D):Prop:=∀i x,nth a i=Z x->nth ρ (c+i)=Z x
theorem Loc.tail{c x us}(h:Loc ρ c (x::us)):Loc ρ (c+1) us:=λi y a=>by have:=h (i+1) y a;grind
theorem Loc.drop:∀{a c} (n),Loc ρ c a->Loc ρ (c+n) (a.drop n)
 |a,c,0,h=>h
 |[],c,n+1,h=>λi y e=>by cases e
 |x::a,c,n+1,h=>by have:=Loc.drop n h.tail;rw[ij,Nat.add_comm 1 n]at this;exact this
theorem OW{a:Type}:∀{us n i} {x:a},nth (us.take n) i=Z x->nth us i=Z x
 |[],n,i,x,h=>by simp[nth]at h
 |y::us,0,i,x,h=>by simp[nth]at h
 |y::us,n+1,0,x,h=>h
 |y::us,n+1,i+1,x,h=>OW (us:=us) h
theorem Loc.take{us c}n(h:Loc ρ c us):Loc ρ c (us.take n):=λi x a=>h i x (OW a)
theorem Loc.new us:Loc (ρ++us) ρ.length us:=by intro i x c;induction ρ with|nil=>{simpa using c}|cons y ρ a=>rw[aN,Nat.add_right_comm];exact a
def OA(d:Nat):Nat->M HX->Nat->SS->M SB×SS
 |_,[],_,S=>([],S)
 |j,.d::l,c,S=>match OA d (j+1) l (c+1) S with
  |(xs,a)=>(.d (.v c)::xs,a)
 |j,.row k b deep app fz::l,c,S=>match OA d (j+1) l (c+1) (S.newRow (vg d j) ⟨.v c,k,b,deep,app,fz⟩) with
  |(xs,a)=>(.ref (vg d j)::xs,a)
theorem yx{d}:∀{l j c S o s A vs m},Rel ρ S s->nO l A=Z vs->Loc ρ c A->OA d j l c S=(m,o)->
  ∃i f,er d j vs s=(i,f)/\Rel ρ o f/\fN ρ m i
 |[],j,c,S,o,s,[],vs,m,h,b,n,e=>by cases b;cases e;exact⟨[],s,rfl,h,rfl⟩
 |[],_,_,_,_,_,_::_,_,_,_,b,_,_=>by cases b
 |_::_,_,_,_,_,_,[],_,_,_,b,_,_=>by cases b
 |v::l,j,c,S,o,s,a::A,vs,m,h,b,n,e=>by simp[nO]at b;split at b;{rename_i r g;obtain⟨L,H,rfl⟩:=aC.1 b;have G:=n 0 a rfl;cases v with|d=>{cases g;simp only[OA]at e;generalize B:OA d (j+1) l (c+1) S=q at e;cases e;obtain⟨i,f,w,t,p⟩:=yx h H n.tail B;exact⟨.d a::i,f,by simp[er,w],t,_,_,rfl,⟨a,G,rfl⟩,p⟩}|row k N deep app fz=>cases a with|list F C es=>{simp only[EO]at g;split at g;{rename_i K;obtain⟨rfl,rfl⟩:=K;cases g;simp only[OA]at e;generalize B:OA d (j+1) l (c+1) _=q at e;cases e;obtain⟨i,f,w,t,p⟩:=yx (h.newRow (vg d j) (x:=⟨.v c,F,C,deep,app,fz⟩) (y:=⟨es,F,C,deep,app,fz⟩) ⟨es,G,rfl⟩) H n.tail B;exact⟨.ref (vg d j)::i,f,by simp[er,w],t,_,_,rfl,rfl,p⟩};cases g}|_=>cases g};cases b
def zj:SS->M SC->M SA->Nat->u SS
 |S,[],_,_=>Z S
 |S,.ptr b 0::cs,.box l::outs,c=>match OA (b+500) 0 l c S with
  |(xs,a)=>zj (a.gB b xs) cs outs (c+l.length)
 |S,.ptr _ _::_,_,_=>O
 |S,_::cs,outs,c=>zj S cs outs c
def afn(d:Nat):Nat->M SA->Nat->SS->u (M (SB ⊕ M SB)×SS)
 |_,[],_,S=>Z ([],S)
 |q,.val a l::rs,c,S=>match OA d (30 * q) l c S with
  |(xs,b)=>match afn d (q+1) rs (c+l.length) b with
   |some (ms,S2)=>if a=I then Z (.inr xs::ms,S2) else match xs with
    |[x]=>Z (.inl x::ms,S2)
    |_=>O
   |none=>O
 |_,.box _::_,_,_=>O
theorem iz{a as us rs}(h:gU (a::as) us=Z rs):∃r b,tO a (us.take a.n)=Z r/\gU as (us.drop a.n)=Z b/\rs=r::b:=by simp[gU]at h;split at h;{rename_i r c;obtain⟨b,d,rfl⟩:=aC.1 h;exact⟨r,b,c,d,rfl⟩};cases h
theorem UD{d}:∀{l q c S k s e f g},Rel ρ S s->gU l e=Z f->Loc ρ c e->afn d q l c S=Z (g,k)->
  ∃j t,iM d q f s=(j,t)/\Rel ρ k t/\yg ρ g j
 |[],q,c,S,k,s,e,f,g,h,i,m,b=>by cases e with|nil=>{cases i;cases b;exact⟨[],s,rfl,h,rfl⟩}|cons a e=>cases i
 | .box _::_,_,_,_,_,_,_,_,_,_,_,_,b=>by cases b
 | .val P l::as,q,c,S,k,s,e,f,g,h,i,m,b=>by obtain⟨r,V,K,H,rfl⟩:=iz i;obtain⟨vs,G,rfl⟩:=aC.1 K;simp[afn]at b;generalize F:OA d (30 * q) l c S=p at b;obtain⟨Q,U⟩:=p;simp only at b;obtain⟨j,T,x,w,o⟩:=yx h G (m.take _) F;split at b;{rename_i B S2 C;obtain⟨v,A,v1,v2,v3⟩:=UD w H (m.drop _) C;refine⟨_,A,by simp[iM,x,v1];rfl,?_⟩;split at b;{rename_i n;cases b;subst n;exact⟨v2,j,v,rfl,o,v3⟩};rename_i n;split at b;{cases b;obtain⟨N,L,rfl,y,R⟩:=o;(have:P=J:=by simpa using n);subst this;exact⟨v2,N,v,rfl,y,v3⟩};cases b};cases b
theorem CP:∀{e vs l c S i s f outs},Rel ρ S s->Yz e vs->gU l f=Z outs->Loc ρ c f->zj S e l c=Z i->Rel ρ i (lY s vs outs)
 |[],vs,l,c,S,i,s,f,outs,h,y,j,g,d=>by cases y;cases d;exact h
 |x::e,_,l,c,S,i,s,f,outs,h,⟨v,vs,t,F,k⟩,j,g,d=>by subst t;rcases F with ⟨b,rfl,rfl⟩|⟨n1,n2⟩;{cases l with|nil=>{cases d}|cons a l=>cases a with|val Q l=>{cases d}|box q=>obtain⟨r,T,C,B,rfl⟩:=iz j;obtain⟨L,A,rfl⟩:=aC.1 C;simp[zj]at d;generalize w:OA (b+500) 0 q c S=p at d;obtain⟨K,R⟩:=p;obtain⟨P,N,o,n,m⟩:=yx h A (g.take _) w;simp[lY,o];exact CP (n.gB b m) k B (g.drop _) d};have H:zj S (x::e) l c=zj S e l c:=by{cases x<;>first|rfl|exact absurd rfl (n1 _ _)};have G:lY s (v::vs) outs=lY s vs outs:=by{cases v<;>first|rfl|exact absurd rfl (n2 _ _)};rw[H]at d;rw[G];exact CP h k j g d
def Bu(S:SS):M Nat->SS
 |[]=>S
 |r::rs=>Bu (S.dL r) rs
def ym(S:SS):M Nat->SS
 |[]=>S
 |b::a=>ym {S with bx:=sy S.bx b } a
theorem zR:∀{rs S s},Rel ρ S s->Rel ρ (Bu S rs) (iu s rs)
 |[],_,_,h=>h
 |r::rs,_,_,h=>zR (rs:=rs) (h.dL r)
theorem xP:∀{bs S s},Rel ρ S s->Rel ρ (ym S bs) (gl s bs)
 |[],_,_,h=>h
 |b::bs,S,s,h=>by refine xP (bs:=bs) (S:={S with bx:=sy S.bx b }) (s:={s with bx:=sy s.bx b }) ⟨h.sl,λe c a=>?_,h.rw⟩;simp only[fL]at a ⊢;split at a;{cases a};rename_i d;rw[if_neg d];exact h.bx e c a
end
def Ks:Nat->M HX->Bool×M SE
 |_,[]=>(I,[])
 |c,.d::l=>match Ks (c+1) l with
  |(b,pl)=>(b,.v c::pl)
 |c,.row _ _ deep _ _::l=>match Ks (c+1) l with
  |(b,pl)=>(deep && b,pl)
def No:Nat->M SA->Bool×M SE
 |_,[]=>(I,[])
 |c,a::as=>match Ks c a.l with
  |(b,pl)=>match No (c+a.n) as with
   |(e,d)=>(b && e,pl++d)
def Ml:M SA->Bool
 |[]=>I
 | .val _ l::as=>jZ l.length 30 && Ml as
 | .box _::_=>J
def afs(hint:M Nat)(d:Nat)(a:M Nat)(b:Bool)(pl:M SE):Bs×Bool:=
 if a=[] then ([],J) else if b=J then ([],I) else match pl with
  |[]=>([],J)
  |pl=>if hint.contains (1000 * d+pl.length) then ([(.xG,pl)],I) else ([(.pl,pl)],J)
def aiF:M (SB ⊕ M SB)->SC
 |[.inl x]=>.b x
 |[.inr xs]=>.agg xs
 |ms=>.tv ms
def Uw(l:M C):C:=match l with|[c]=>c|l=>.tv l
def Hv(hint:M Nat)(S:SS)(a:M SC)(d:u Nat)(n:Nat)(v:M SA×M SA):u (Bs×SS):=
 if Ml v.1=I then
  match No n v.1,No (n+xx v.1) v.2 with
  |(e,Yp),(c,MY)=>match afs hint (d.getD 0) (Aq a) (e && c) (Yp++MY) with
   |(b,shr)=>match (if shr=I then oX S (Aq a) else Z S) with
    |some g=>match zj (ym (Bu g (uq S a)) (rM a)) a v.2 (n+xx v.1) with
     |some S2=>match afn (d.getD 0) 0 v.1 n S2 with
      |some (ms,f)=>Z (b,f.put d ⟨[],aiF ms⟩)
      |none=>O
     |none=>O
    |none=>O
 else O
section
variable {ρ jK:M D} {S S':SS} {s:St}
theorem DT:∀{l c i vs b pl},nO l i=Z vs->Loc ρ c i->Ks c l=(b,pl)->∃g,jq ρ pl=Z g/\vs.all RV.closed=(b && dc g)
 |[],_,[],_,_,_,e,_,f=>by cases e;cases f;exact⟨[],rfl,rfl⟩
 |[],_,_::_,_,_,_,e,_,_=>by cases e
 |_::_,_,[],_,_,_,e,_,_=>by cases e
 |v::l,c,a::i,vs,b,pl,e,m,f=>by simp[nO]at e;split at e;{rename_i r h;obtain⟨A,p,rfl⟩:=aC.1 e;have w:nth ρ c=Z a:=m 0 a rfl;cases v with|d=>{cases h;simp only[Ks]at f;generalize j:Ks (c+1) l=q at f;obtain⟨C,t⟩:=q;cases f;obtain⟨g,o,n⟩:=DT p m.tail j;refine⟨a::g,by simp[jq,SE.d,w,o],?_⟩;rw[dt,n,oJ];simp[RV.closed];cases D.plain a<;>simp}|row k B deep app fz=>simp only[Ks]at f;generalize j:Ks (c+1) l=q at f;cases f;obtain⟨g,o,n⟩:=DT p m.tail j;refine⟨g,o,?_⟩;cases a with|list y x es=>{simp only[EO]at h;split at h;{cases h;rw[dt,n];simp[RV.closed,iW]};cases h}|_=>cases h};cases e
theorem Kq:∀{l c g h b pl},gU l g=Z h->Loc ρ c g->No c l=(b,pl)->∃d,jq ρ pl=Z d/\h.all A.closed=(b && dc d)
 |[],_,[],_,_,_,f,_,e=>by cases f;cases e;exact⟨[],rfl,rfl⟩
 |[],_,_::_,_,_,_,f,_,_=>by cases f
 |a::as,c,g,h,b,pl,f,o,e=>by obtain⟨r,K,v,x,rfl⟩:=iz f;simp only[No]at e;generalize t:Ks c a.l=q at e;obtain⟨w,Yp⟩:=q;generalize m:No (c+a.n) as=q at e;obtain⟨G,MY⟩:=q;cases e;obtain⟨k,B,y⟩:=Kq x (o.drop _) m;have:∃d,jq ρ Yp=Z d/\A.closed r=(w && dc d):=by{cases a with|val H l=>{obtain⟨vs,p,rfl⟩:=aC.1 v;obtain⟨d,j,i⟩:=DT p (o.take _) t;exact⟨d,j,i⟩}|box l=>obtain⟨vs,p,rfl⟩:=aC.1 v;obtain⟨d,j,i⟩:=DT p (o.take _) t;exact⟨d,j,i⟩};obtain⟨d,F,C⟩:=this;refine⟨d++k,qY F B,?_⟩;rw[dt,C,y,za];cases w<;>cases G<;>simp
theorem J0:∀{l d e},gU l d=Z e->Ml l=I->e.all A.short=I
 |[],[],_,b,_=>by cases b;rfl
 |[],_::_,_,b,_=>by cases b
 | .box _::_,_,_,_,h=>by cases h
 | .val m l::as,d,e,b,h=>by obtain⟨r,o,g,f,rfl⟩:=iz b;simp only[Ml,aw]at h;obtain⟨vs,a,rfl⟩:=aC.1 g;have k:vs.length=l.length:=by{clear h g b f;generalize d.take (SA.val m l).n=c at a;induction l generalizing c vs with|nil=>{cases c<;>cases a;rfl}|cons v l j=>cases c with|nil=>{cases a}|cons x c=>simp[nO]at a;split at a;{obtain⟨ys,i,rfl⟩:=aC.1 a;simp[j _ _ i]};cases a};rw[dt,J0 f h.2,fT];simp[A.short,k,h.1]
theorem afu{hint d e b shr pl o j τ}(a:afs hint d e b pl=(o,shr))(n:nL ρ o=Z (ρ++τ))(l:jq ρ pl=Z j)(h:Rel ρ S s){p}(i:(if shr=I then oX S e else Z S)=Z p):
  Rel ρ p (if (b && dc j)=I then s else eM s e):=by unfold afs at a;split at a;{rename_i r;subst r;cases a;cases i;split;{exact h};exact h};split at a;{rename_i m;cases a;subst m;simp;exact pK h i};rename_i k;(have k:b=I:=by simpa using k);subst k;split at a;{cases a;cases l;cases i;exact h};split at a;{cases a;obtain⟨q,x,g,c,t⟩:=fy n;rw[l]at g;cases g;simp only[aP]at c;split at c;{cases c};rename_i f;(have f:dc j=J:=by simpa using f);rw[f];simp;exact pK h i};cases a;obtain⟨q,x,g,c,t⟩:=fy n;rw[l]at g;cases g;simp only[aP]at c;split at c;{rename_i f;rw[f];cases i;exact h};cases c
theorem ae3{a cs}(h:yg ρ a cs):na ρ (aiF a) (Uw cs):=by
 unfold aiF;split;{obtain⟨c,f,rfl,d,b⟩:=h;cases b;exact d};{obtain⟨g,f,rfl,d,b⟩:=h;cases b;exact⟨g,rfl,d⟩}
 .rename_i n1 n2;have:Uw cs=.tv cs:=by
   unfold Uw;split
   cases a with
    |nil=>simp only[yg]at h;cases h
    |cons m a=>
     cases m with
     |inl x=>
      obtain⟨c,f,e,d,b⟩:=h;cases e;cases a with
      |nil=>exact absurd rfl (n1 x)
      |cons m a=>cases m<;>(obtain⟨_,_,e,_⟩:=b;cases e)
     |inr x=>
      obtain⟨c,f,e,d,b⟩:=h;cases e;cases a with
      |nil=>exact absurd rfl (n2 x)
      |cons m a=>cases m<;>(obtain⟨_,_,e,_⟩:=b;cases e)
   rfl
  rw[this];exact⟨cs,rfl,h⟩
theorem RS{c:Cf}{N}(h:Rel ρ S s){hint n}(hn:n=ρ.length){d cs e es G}(Du:Et ρ cs e)(ha:Ht S cs=Z (G,es))
  (hd:(k8 (uq S cs) && k8 (rM cs) && (uq S cs).all (λr=>!(Aq cs).contains r))=I) {ws us} (hw:jq ρ es=Z ws) {f r v} (F:gU G ws=Z f) (g:uY v us=Z r) (T:c N f=Z r)
  {bs} (a:Hv hint S cs d n v=Z (bs,S')) (L:nL (ρ++us) bs=Z jK) :
  ∃H,nS c s d N e=Z H/\Rel jK S' H:=by obtain⟨R,as,K,q2,q3,q4,q5,q6,q7⟩:=Hu h Du ha;rw[hw]at K;cases K;rw[q3]at F;cases F;obtain⟨rs,outs⟩:=r;unfold uY at g;split at g;{rename_i He m y P;cases g;unfold Hv at a;split at a;{rename_i o;generalize kH:No n v.1=p1 at a;generalize o9:No (n+xx v.1) v.2=p2 at a;obtain⟨C,Yp⟩:=p1;obtain⟨B,MY⟩:=p2;simp only at a;generalize VR:afs hint (d.getD 0) (Aq cs) (C && B) (Yp++MY)=p3 at a;obtain⟨bs',Y⟩:=p3;split at a;{rename_i S0 t;split at a;{rename_i S2 q;split at a;{rename_i ms S3 p;cases a;(have i:Loc (ρ++us) n us:=by rw[hn];exact Loc.new us);obtain⟨k,t1,t2⟩:=Kq y (i.take _) kH;obtain⟨j,t3,t4⟩:=Kq P (i.drop _) o9;obtain⟨Q,VY⟩:=oK L;subst VY;have b:=afu VR L (qY t1 t3) (h.mono us) t;have U:(C && B && dc (k++j))=(rs.all A.closed && outs.all A.closed):=by{rw[t2,t4,za];cases C<;>cases B<;>simp};rw[U]at b;have x:=xP (bs:=rM cs) (zR (rs:=uq S cs) b);have w:=CP x q7 P (i.drop _) q;obtain⟨l,s4,X,W,V⟩:=UD w y (i.take _) p;refine⟨s4.put d (Uw l),?_,(W.put d (tE.nil (ae3 V))).mono Q⟩;simp only[nS,q2,q4,q5,q6,hd,T,J0 y o,X];rfl};cases a};cases a};cases a};cases a};cases g
def SA.isVal:SA->Bool
 | .val _ _=>I
 | .box _=>J
theorem EP:∀{l b c},gU l b=Z c->l.all SA.isVal=I->c.all A.isVal=I
 |[],b,c,h,_=>by cases b with|nil=>{cases h;rfl}|cons a b=>cases h
 | .val g l::as,b,c,h,d=>by obtain⟨r,i,f,e,rfl⟩:=iz h;obtain⟨vs,_,rfl⟩:=aC.1 f;rw[dt,aw]at d;rw[dt,EP e d.2];rfl
 | .box l::as,b,c,h,d=>by simp[SA.isVal]at d
def Mo(S:SS)(a:M SC)(d:u Nat)(n:Nat)(v:M SA×M SA):u (Bs×SS):=
 match d,v with
 |some b,([.box l],[])=>if Aq a=[] then (match OA (b+500) 0 l n S with
  |(xs,S')=>Z ([],(S'.j9 b xs).put (Z b) ⟨[],.ptr b 0⟩)) else O
 |_,_=>O
theorem XN{cf}{mf:Mf}{H G}(hG:Gok cf H G)(h:Rel ρ S s){F}(hk:jM ρ F=Z I){n}(hn:n=ρ.length){d f xs cs es i k}
  (Y:Hz S F xs=Z cs) (ha:Ht S cs=Z (k.args,es)) (hi:look H i=Z k) (hf:k.f=f) (h9:f<100000) (hd:k.args.all SA.isVal=I)
  {ws us j} (hw:jq ρ es=Z ws) (hg:G i ws=Z (j,us)) {v} (hv:nth k.res j=Z v) {L} (g:Mo S cs d n v=Z (L,S')) (hb:nL (ρ++us) L=Z jK) :
  ∃A,nG cf mf s d (.cbx f xs)=Z A/\Rel jK S' A:=by obtain⟨N,as,C,W,B,q4,V,q6,q7⟩:=Hu h (xj h hk Y) ha;rw[hw]at C;cases C;obtain⟨Nc,r,v',x,w,m,t⟩:=hG i k hi ws j us hg;rw[B]at x;cases x;rw[hv]at w;cases w;rw[hf,ED h9]at t;unfold Mo at g;split at g;{rename_i b l;split at g;{rename_i hl;generalize hq:OA (b+500) 0 l n S=p at g;cases g;cases hb;unfold uY at m;split at m;{rename_i He e e1 e2;cases m;obtain⟨r0,o,K,c,rfl⟩:=iz e1;simp at K;obtain⟨vs,h3,rfl⟩:=aC.1 K;have U:o=[]:=by{revert c;generalize List.drop _ _=a;cases a with|nil=>{intro c;cases c;rfl}|cons y a=>intro c;cases c};subst U;have q:e=[]:=by{revert e2;generalize List.drop _ _=a;cases a with|nil=>{intro c;cases c;rfl}|cons y a=>intro c;cases c};subst q;(have VM:Loc (ρ++us) n us:=by rw[hn];exact Loc.new us);obtain⟨X,T,R,Q,P⟩:=yx (h.mono us) h3 ((VM.take _).take _) hq;refine⟨(T.j9 b X).put (Z b) (.ptr b 0),?_,(Q.j9 b P).put (Z b) tE.ptr⟩;simp[nG,W,EP B hd,t,V,hl,eM,R]};cases m};cases g};cases g
end
abbrev SX:=u (u Nat)
def Vr:SX->Ex
 |none=>.norm
 |some O=>.ret
 |some (Z i)=>.exit i
structure SO where
 x:SX
 S:SS
 m:Nat
 deriving DecidableEq
def HY(o:SO):M SO->Nat×M SO
 |[]=>(0,[o])
 |p::a=>if o=p then (0,p::a) else match HY o a with
  |(j,b)=>(j+1,p::b)
def o8:M SO->M SO->M Nat×M SO
 |[],acc=>([],acc)
 |o::os,acc=>match HY o acc with
  |(j,b)=>match o8 os b with
   |(c,a)=>(j::c,a)
def OO(f:M Nat)(t:ST):ST:=if f=cC f.length then t else .map f t
def GA(x:SX)(a:Gs)(S:SS):ST×M SO:=match Vb a S with
 |(b,es)=>(.leaf 0 es,[⟨x,b,es.length⟩])
def aae(k:(M SA×M SA)->u (ST×M SO)):M (M SA×M SA)->M SO->u (ST×M SO)
 |[],acc=>Z (.nil,acc)
 |v::vs,acc=>match k v with
  |some (t,os)=>match o8 os acc with
   |(f,c)=>match aae k vs c with
    |some (a,b)=>Z (.cons (OO f t) a,b)
    |none=>O
  |none=>O
def DB(a:Gs):Bs->ST->ST
 |[],t=>t
 |(o,es)::b,t=>.op a o es (DB a b t)
def PN:SG:=⟨[(.k (.bool J),I)],.any⟩
def Fits(G:Gf)(t:ST)(outs:M SO)(c:M D)(run:u (Ex×St)):Prop:=
 ∀j a,eU G t 0 c=Z (j,a)->∃o b,nth outs j=Z o/\run=Z (Vr o.x,b)/\a.length=o.m/\Rel a o.S b
theorem DN o:∀{l b j},HY o l=(j,b)->nth b j=Z o/\∀i x,nth l i=Z x->nth b i=Z x
 |[],b,j,h=>by cases h;exact⟨rfl,λi x a=>by cases a⟩
 |p::c,b,j,h=>by simp[HY]at h;split at h;{rename_i e;cases h;subst e;exact⟨rfl,λ_ _ a=>a⟩};generalize d:HY o c=q at h;cases h;obtain⟨g,f⟩:=DN o d;refine⟨g,λi x a=>?_⟩;cases i with|zero=>{exact a}|succ i=>exact f i x a
theorem pN:∀{os a b c},o8 os a=(c,b)->(∀i o,nth os i=Z o->∃j,nth c i=Z j/\nth b j=Z o)/\∀i x,nth a i=Z x->nth b i=Z x
 |[],a,b,c,h=>by cases h;exact⟨λi o l=>(by cases l),λ_ _ d=>d⟩
 |o::os,a,b,c,h=>by simp only[o8]at h;generalize k:HY o a=q at h;obtain⟨j,s⟩:=q;generalize e:o8 os s=q at h;cases h;obtain⟨r,n⟩:=DN o k;obtain⟨m,g⟩:=pN e;refine⟨λi p f=>?_,λi x d=>g i x (n i x d)⟩;cases i with|zero=>{cases f;exact⟨j,rfl,g j _ r⟩}|succ i=>exact m i p f
def Xs:∀{n i},i<n->nth (cC n) i=Z i:=by intro n i h;rw[ek];simp[h]
theorem Cu{a:Type}:∀{l i} {x:a},nth l i=Z x->i<l.length
 |_::_,0,_,_=>by simp
 |_::l,i+1,x,h=>by simpa using Cu (l:=l) h
 |[],_,_,h=>by simp[nth]at h
section
variable {G:Gf} {ρ:M D} {run:u (Ex×St)}
theorem Fits.map{t outs outs' f}(h:Fits G t outs ρ run)(p:∀i o,nth outs i=Z o->∃j,nth f i=Z j/\nth outs' j=Z o):Fits G (OO f t) outs' ρ run:=by intro j q hd;unfold OO at hd;split at hd;{rename_i s;obtain⟨o,g,m,c,y,x⟩:=h j q hd;obtain⟨r,a,l⟩:=p j o m;have w:=Cu a;rw[s,Xs w]at a;cases a;exact⟨o,g,l,c,y,x⟩};simp[eU]at hd;split at hd;{rename_i n e A;obtain⟨K,m,c⟩:=aC.1 hd;simp at c;obtain⟨rfl,rfl⟩:=c;obtain⟨o,g,H,F,C,B⟩:=h n e A;obtain⟨r,a,l⟩:=p n o H;rw[m]at a;cases a;exact⟨o,g,l,F,C,B⟩};cases hd
theorem Fits.more{t outs a}(h:Fits G t outs ρ run)(f:∀i o,nth outs i=Z o->nth a i=Z o):Fits G t a ρ run:=λj c hd=>by obtain⟨o,e,l,g⟩:=h j c hd;simp_all
theorem vV{x a S s t outs}(h:Rel ρ S s)(e:jM ρ a=Z I)(b:GA x a S=(t,outs)):Fits G t outs ρ (Z (Vr x,s)):=by intro j f hd;unfold GA at b;generalize d:Vb a S=q at b;cases b;simp[eU]at hd;split at hd;{rename_i g c;cases hd;exact⟨_,s,rfl,rfl,lb c,SU h e d c⟩};cases hd
theorem Ea{gs}:∀{d t ρ r b},jM ρ gs=Z b->eU G (DB gs d t) 0 ρ=Z r->∃a,a.length=d.length/\eU G t 0 (ρ++a)=Z r/\(b=I->nL ρ d=Z (ρ++a))
 |[],t,ρ,r,b,c,h=>⟨[],rfl,by rw[aG];exact h,λ_=>by simp[nL]⟩
 |(o,es)::d,t,ρ,r,b,c,h=>by simp[DB,eU,c]at h;cases b with|true=>{simp only at h;split at h;{rename_i k i;split at h;{rename_i x j;obtain⟨a,f,e,g⟩:=Ea (kS [x] c) h;refine⟨x::a,by simp[f],by simpa using e,λ_=>?_⟩;simp[nL,i,j];simpa using g rfl};cases h};cases h}|false=>obtain⟨a,f,e,g⟩:=Ea (kS [.bool J] c) h;exact⟨.bool J::a,by simp[f],by simpa using e,λh=>by cases h⟩
theorem KL{m:Cf}{l:Mf}{S s}(h:Rel ρ S s){d op g w n e}(y:look S.sl g=Z ⟨n,.b (.d e)⟩){b}(a:jM ρ (n++[(e,w)])=Z b):
  wL m l s ⟨d,op,Z (g,w)⟩=if b=I then D4 m l s d op else Z (s.put d .wq):=by obtain⟨F,C,B,A⟩:=h.sl g _ y;have app:∀{i c},jM ρ i=Z c->jM ρ (i++[(e,w)])=if c=I then jM ρ [(e,w)] else Z J:=by{intro i;induction i with|nil=>{intro c f;cases f;rfl}|cons p i r=>intro c f;simp[jM]at f ⊢;split at f;{split at f;{rename_i k;rw[if_pos k];exact r f};rename_i k;rw[if_neg k];cases f;rfl};cases f};rw[app C]at a;cases F with|false=>{simp at a;cases a;simp[wL,A rfl,if_false]}|true=>simp at a;obtain⟨x,q,o⟩:=B rfl;simp[jM,q]at a;split at a;{rename_i t v;cases v;simp[wL,o];split at a;{rename_i j;cases a;rw[if_pos j,if_pos rfl]};rename_i j;cases a;rw[if_neg j,if_neg (by simp)]};cases a
theorem Sp{c}(h:c=.wq):tE ρ PN c:=⟨J,rfl,λh=>(by cases h),λ_=>h⟩
theorem yr{gs b}(h:jM ρ gs=Z I)(c:jM ρ b=Z I):jM ρ (gs++b)=Z I:=Jg λp a=>by rcases aX.1 a with a|a;{exact nT h p a};exact nT c p a
theorem Fg:∀{a},jM ρ a=Z J->∃p∈a,p.1.d ρ=Z (.bool (!p.2))
 |[],h=>by cases h
 |(g,w)::a,h=>by simp[jM]at h;split at h;{rename_i b f;split at h;{obtain⟨p,e,c⟩:=Fg h;exact⟨p,eb _ e,c⟩};refine⟨(g,w),eo,?_⟩;cases b<;>simp_all};cases h
end
end Go.Proofs.YtbnmicpicjmgiaaGreatDoor
