/- Part of the proof: a machine over plain data, its proof, the functions of the program run on symbols, what they answer. Condition: none. -/
import Derived.Attr
import Derived.Test.YtnnjajingjfjiaaGreatDoorZz01
set_option linter.unusedVariables false
set_option linter.unusedSimpArgs false
open Array renaming toList_map->mP,getElem?_modify->pv,replicate->ru,getElem?_eq_some_iff->tg,getElem?_eq_none->xi,toArray_toList->zq
open Bool renaming and_eq_true->ai,false_eq_true->aF,not_eq_true'->cq,false_and->cP,true_and->cW,or_eq_true->da,and_true->fZ,not_false->ga,false_or->gA,or_false->kc,and_false->kH,or_true->ll,not_true->lJ,true_or->mQ,true->I,false->J
open ByteArray renaming size_append->jr
open Go renaming sizeOf->mW
open Int renaming toNat_natCast->bW
open List renaming cons_append->au,nil_append->av,length_map->ay,length_cons->aH,length_nil->aJ,append_nil->aK,mem_cons->aL,take_zero->aV,map_cons->aW,length_take->aY,mem_append->ba,length_append->bh,sizeOf_lt_of_mem->bj,drop_zero->bm,replicate->bn,getElem?_eq_some_iff->bq,all_eq_true->bw,append_assoc->bB,map_nil->bD,take_append_drop->bI,nodup_append->bM,map_append->bN,mem_cons_of_mem->bP,mem_cons_self->bQ,mem_map->cj,take_succ_cons->cn,mem_of_mem_take->cr,eq_nil_of_length_eq_zero->cy,nodup_cons->cC,length_eq_zero_iff->cH,mem_map_of_mem->cJ,getElem?_take->cS,mem_singleton->cT,all_cons->cX,getElem?_append_right->cY,getElem?_append_left->dr,length_drop->dH,drop_succ_cons->dJ,length_eq_one_iff->dP,mem_of_getElem?->dS,ext_getElem?->eE,flatten_cons->eH,mem_of_mem_drop->fc,mem_flatten->fv,getElem?_drop->fI,take_append_of_le_length->fT,replicate_succ->gE,mem_or_eq_of_mem_set->gL,filter_cons->gZ,set_cons_zero->jz,getElem?_eq_none->jA,map_take->kg,set_cons_succ->lr,take_take->mA,map_drop->nC,mem_filter->nE,filter_filter->n7,drop_drop->oP,size_toArray->oQ,take_left->oR,length_singleton->py,take_one->pW,drop_append_of_le_length->qo,head?_drop->ry,filter_nil->xM,singleton_append->ye,drop_left->zr,length_pos_iff->Ba
open List.cons renaming injEq->cl
open Nat renaming le_refl->aD,le_trans->aG,zero_add->bo,lt_of_lt_of_le->bR,add_zero->cd,min_eq_left->cE,add_assoc->cQ,lt_or_ge->dD,mul_le_mul_right->fJ,blt->fV,beq->gR,zero_le->jt,succ_mul->j5,eq_of_beq_eq_true->l8,sub_self->mZ,ble->n8,blt_eq->oh,zero_mul->sq
open Ne renaming symm->m_
open Option renaming map_eq_some_iff->ak,map_some->aQ,isSome_iff_exists->cD,bind_some->dW,isSome_some->gT,getD_some->jo,toList->pM,isNone_iff_eq_none->tt,some->Z,none->O
open Option.some renaming injEq->ae,inj->ey
open Prod renaming fst->cz
open Prod.mk renaming injEq->aI
open SizeOf renaming sizeOf->aw
open UInt8 renaming ofNat->dz
open Decidable renaming decide->Z'
namespace Go.Proofs.YtnnjajingjfjiaaGreatDoor
section
open Go.RowKit
theorem mN:∀(a:M Nat) (s:St) (q:Nat),look (fK s a).rw q=if q∈a then O else look s.rw q
 |[],s,q=>by simp[fK]
 |r::a,s,q=>by
  simp only[fK,mN a,St.dd,eK,aL];by_cases h:q∈a
  ·simp[h]
  ·by_cases b:r=q
   ·simp[b]
   ·simp[h,b,m_ b]
theorem o6:∀(a:M Nat) (s:St),(fK s a).sl=s.sl/\(fK s a).bx=s.bx
 |[],s=>⟨rfl,rfl⟩
 |r::a,s=>by simp only[fK];exact o6 a (s.dd r)
theorem q9:∀(a:M Nat) (s:St) (q:Nat),look (fG s a).bx q=if q∈a then O else look s.bx q
 |[],s,q=>by simp[fG]
 |r::a,s,q=>by
  simp only[fG,q9 a,eK,aL];by_cases h:q∈a
  ·simp[h]
  ·by_cases b:r=q
   ·simp[b]
   ·simp[h,b,m_ b]
theorem p9:∀(a:M Nat) (s:St),(fG s a).sl=s.sl/\(fG s a).rw=s.rw
 |[],s=>⟨rfl,rfl⟩
 |r::a,s=>by simp only[fG];exact p9 a _
theorem vG.weaken{c b:Gh}{a e:Own->Prop}{w d:World}(h:vG c a w d)(n:∀g,a (c.ω g)->e (b.ω g))(l:∀g,b.h g<=c.h g):vG b e w d:=
 ⟨h.os,h.tape,h.output,h.size,λg m f=>h.block g m (λi=>f (n g i)),λg j k=>h.cell g j (bR k (l g)),h.fR⟩
theorem kF{P:Program}{F:FuncId}{a:Func}(e:P.funcs[F]?=Z a)(f:a.body.isSome=I)(d:(a.name == "runtime.NumGoroutine")=J)(args:Array Value)(w:World):(callFunc F args).run P w=.ok (.enter F args) w:=by
 have b:¬a.name = "runtime.NumGoroutine":=by simpa using d
 have c:¬a.body=O:=by cases h:a.body<;>simp_all
 simp[callFunc,e,b,c]
theorem yy{s:St}:∀(f:M C) {as:M A},A6 s f=Z as->∀b∈db f,∃k,look s.bx b=Z k
 |[],_,_,b,d=>by simp[db]at d
 |c::f,as,h,b,d=>by
  simp only[A6]at h
  split at h
  ·rename_i a e;simp only[ak]at h;obtain⟨o,h,_⟩:=h;by_cases l:∃g,c=.ptr g 0
   ·obtain⟨g,rfl⟩:=l;simp only[db,aL]at d;rcases d with rfl|d
    ·simp only[V8]at e
     split at e
     ·rename_i k j;exact⟨k,j⟩
     ·cases e
    ·exact yy f h b d
   ·have i:db (c::f)=db f:=by
     unfold V8 at e
     split at e
     ·rename_i g;exact absurd ⟨g,rfl⟩ l
     ·simp only[ak]at e;obtain⟨n,m,_⟩:=e;have vl:=Eh m;cases c<;>simp_all[db,C.cells,C.cell]
    rw[i]at d;exact yy f h b d
  ·cases h
section
variable {P:Program} {γ:Gh} {h0:Nat->Nat} {io:M Nat} {w0:World} {s s':St} {f:Fm} {w:World} {N:Nat} {ty:TypeId} {pos:String} {aft:Array Edge} {gd:u (Nat×Bool)} {K:Fm->World->Prop}
 {cf:Nat->M A->u (M A×M A)} {mf:Nat->Bool->M D->Int->u (M D×Int)}
theorem afm(X:Inv γ h0 io w0 s f w){F0:FuncId}{fn:Func}(BL:P.funcs[F0]?=Z fn)(Wq:fn.body.isSome=I)(tj:(fn.name == "runtime.NumGoroutine")=J){as:Array Operand}{xs:M KX}{ts:Array TypeId}{gn:Nat}(hx:DA N as.toList xs=I)
  (nc:∀a r o,cf gn a=Z (r,o)->yw w0 io P F0 a r o) {dst:u Nat} (y:lP cf mf s dst (.call gn xs)=Z s') (h:∀γ' p B,Inv γ' h0 io w0 s' p B->Tr dst (eP s dst (.call gn xs)) γ w γ' B f p->K p B) :
  vr P N ⟨dst,.call {callee:=.value (.func F0),args:=as,argTypes:=ts },ty,pos,aft,gd⟩ f w K:=by
 simp only[lP,yE]at y
 split at y
 ·cases y
 ·rename_i cas Yt
  split at y
  ·rename_i kl;simp only[ai]at kl;obtain⟨⟨aiT,NW⟩,amR⟩:=kl;rw[uS]at aiT NW
   split at y
   ·cases y
   ·rename_i H outs aeK
    split at y
    ·rename_i aeT;simp only[ae]at y;generalize rX:xs.map (fW s)=k at *;have hcr:fq γ w k (as.toList.map (fr f N).eval):=by rw[<- rX];exact GD X _ _ hx
     generalize xw:as.toList.map (fr f N).eval=R at *;obtain⟨Hv,iS,bS,slS,mS,gS,wS,e1,e2,e3⟩:=X.Cw (jG k);have V:∀r∈dN s k,r∉jG k:=by
      intro r x n;have:=bw.1 amR r x;simp[n]at this
     obtain⟨F,rA,dA,lA,pA⟩:=MP iS bS slS mS e2 gS e3 k hcr Yt (λr x=>x) V aiT NW;have ltF:∀g∈F,g < w.heap.size:=λg m=>by
      rcases lA g m with ⟨r,_,i⟩|⟨b,_,i,_⟩<;>exact (iS.own g (by rw[i];simp)).1
     have ioF:∀g∈F,w0.heap.size<=g\/g∈io:=λg m=>by
      rcases lA g m with ⟨r,_,i⟩|⟨b,_,i,_⟩<;>exact (iS.own g (by rw[i];simp)).2
     have qQ:=nc _ _ _ aeK w Hv.h R F X.size X.frame ioF rA dA ltF iS.fQ;have am2:as.map (fr f N).eval=R.toArray:=by rw[<- xw];apply Array.ext';rw[mP]
     have x:=zo (ρ:=(fr f N).eval) (dst:=dst) (ty:=ty) (pos:=pos) (aft:=aft) (gd:=gd) (w:=w) (ts:=ts) (kF BL Wq tj) rfl am2;unfold vr Oper.wp;rw[x,Oper.upon_enter];refine Calls.mono qQ λe B hp=>?_;obtain⟨v,us,F1,F2,h',rfl,YF,vv,NY,adH,aiz,sE⟩:=hp;have key:∀(G:Gh) (L:St),Inv G h0 io w0 L f w->G.β=γ.β->(∀g,γ.h g<=G.h g)->(∀g,G.h g<=Hv.h g)->(∀g∈F,(∃r∈dN s k,G.ω g=.row r)\/∃b∈db k,G.ω g=.box b/\g=G.β b)->(∀g,(∃r∈dN s k,G.ω g=.row r)->∃r∈dN s k,γ.ω g=.row r)->(∀g,(∃b∈db k,G.ω g=.box b)->∃b∈db k,γ.ω g=.box b)->L.bx=s.bx->
       ((H.all A.closed=I/\outs.all A.closed=I)\/∀g,g < w.heap.size->g∉F->Hv.h g<=G.h g)->
       ∃p,(fr f N).put dst v=fr p N/\K p B\/(gF (dst.getD 0) 0 H (l6 (fG (fK L (dN s k)) (db k)) k outs)).2.put dst (match (gF (dst.getD 0) 0 H (l6 (fG (fK L (dN s k)) (db k)) k outs)).1 with|[c]=>c|l=>.sh l)≠s':=by
      intro G L iX bX mX mX2 lX anA anz ebx Q;by_cases U:(gF (dst.getD 0) 0 H (l6 (fG (fK L (dN s k)) (db k)) k outs)).2.put dst (match (gF (dst.getD 0) 0 H (l6 (fG (fK L (dN s k)) (db k)) k outs)).1 with|[c]=>c|l=>.sh l)=s'
      ·have i1:Inv G h0 io w0 (fG (fK L (dN s k)) (db k)) f w:=iX.sub
        (λd c n=>by rw[(p9 _ _).1,(o6 _ _).1]at n;exact n)
        (λd c n=>by
         rw[q9,(o6 _ _).2]at n
         split at n
         ·cases n
         ·exact n)
        (λd c n=>by
         rw[(p9 _ _).2,mN]at n
         split at n
         ·cases n
         ·exact n)
       obtain⟨nR,W,i2,b2,AZ,m2,k2,n2,o2,x2,f2⟩:=i1.after (mv:=dN s k) (bs:=db k) sE mX2 (λg m=>by
         rcases lX g m with i|⟨b,t,i,_⟩
         ·exact .inl i
         ·exact .inr ⟨b,t,i⟩) (λr x=>by rw[(p9 _ _).2,mN,if_pos x]) (λb t=>by rw[q9,if_pos t]) (λg m b t=>by
         rcases lX g m with ⟨r,_,i⟩|⟨b',lI,i,C⟩
         ·rw[i]at t;cases t
         ·have j:=pA b' lI;rw[bS,<- bX,<- C]at j;exact (NY.ptr g j).1)
       have heq:∀g∈F1++F2,W.h g=h' g:=λg m=>n2 g (aiz g m).1;have hle:(H.all A.closed=I/\outs.all A.closed=I)\/∀g,h' g<=W.h g:=by
        rcases Q with Q|Q
        ·exact .inl Q
        ·refine .inr λg=>?_;rcases dD g w.heap.size with i|i
         ·by_cases C:g∈F
          ·rw[n2 g (.inr C)];exact aD _
          ·rw[k2 g i C,sE.hold g i C];exact Q g i C
         ·rw[n2 g (.inl i)];exact aD _
       have YE:na W.h B outs (il cas R) F2:=NY.re (λg m=>heq g (by simp[m])) (hle.imp (λh=>h.2) id);have amY:na W.h B H us F1:=vv.re (λg m=>heq g (by simp[m])) (hle.imp (λh=>h.1) id);have adD:∀g∈F1++F2,(W.ω g=.free\/W.ω g=.dM\/Value.pointer (Z ⟨g,0,O⟩)∈il cas R)/\g < B.heap.size/\(w0.heap.size<=g\/g∈io):=by
        intro g m;obtain⟨i,C⟩:=aiz g m;rcases i with i|i
        ·exact⟨.inl (f2 g i),C,.inl (aG X.size i)⟩
        ·rcases lX g i with j|⟨b,t,j,h4⟩
         ·have ho:=o2 g i j;exact⟨.inr (.inl ho),C,(i2.own g (by rw[ho];simp)).2⟩
         ·have ho:=x2 g b j;refine⟨.inr (.inr ?_),C,(i2.own g (by rw[ho];simp)).2⟩;have Y:=pA b t;rw[bS,<- bX,<- h4]at Y;exact Y
       rw[bM]at adH;obtain⟨zy,NV,sF⟩:=adH;obtain⟨mB,i3,b3,j,o3⟩:=CD k (s':=s) i2 (by rw[b2,bX];exact hcr.VU) Yt YE NV (λg m=>adD g (by simp[m])) (λb t=>by
         obtain⟨Wh,hbl⟩:=yy k Yt b t;obtain⟨T,us',_,_,k3⟩:=iX.bx b Wh (by rw[ebx];exact hbl);rw[b2];exact x2 _ b k3)
       obtain⟨Ul,i4,c4,b4,h4,_⟩:=AU (d:=dst.getD 0) H 0 i3 (by rw[j];exact amY) zy (λg m=>by
         obtain⟨S,k2',k3⟩:=adD g (by simp[m]);have gW:g∉F2:=λh=>sF g m g h rfl;refine⟨?_,k2',k3⟩;rw[o3 g gW];rcases S with S|S|S
         ·exact .inl S
         ·exact .inr S
         ·exact absurd (YE.ptr g S).2 gW) (λa ha=>by
         have hs:=bw.1 aeT a ha;cases a with
         |val ag R=>exact⟨ag,R,rfl,by simpa [A.short] using hs⟩
         |box R=>simp[A.short]at hs)
       have SZ:CR Ul B (match (gF (dst.getD 0) 0 H (l6 (fG (fK L (dN s k)) (db k)) k outs)).1 with|[c]=>c|l=>.sh l) v:=by
        generalize (gF (dst.getD 0) 0 H (l6 (fG (fK L (dN s k)) (db k)) k outs)).1=l at c4;have n:=c4.length;rcases YF with rfl|⟨gW,rfl⟩
        ·cases l with
         |nil=>simp at n
         |cons c l=>
          cases l with
          |nil=>exact BI c4
          |cons c' l=>simp at n
        ·split
         ·rename_i c;simp at n;exact absurd n gW
         ·simp only[CR];exact⟨us,rfl,c4⟩
       have htr:∀p:Fm,FOk dst f p->Tr dst (eP s dst (.call gn xs)) γ w Ul B f p:=λp hfo=>by
        refine⟨nR.weaken (λg m=>?_) mX,λb _=>by rw[b4,b3,b2,bX],λg=>by rw[h4,j];exact aG (mX g) (m2 g),hfo⟩;simp only[eP,rX,DH];rcases m with ⟨r,x,Y⟩|⟨b,t,Y⟩
        ·obtain⟨r',DV,h6⟩:=anA g ⟨r,x,Y⟩;exact⟨r',by simp[DV],.inr h6⟩
        ·obtain⟨b',lI,h6⟩:=anz g ⟨b,t,Y⟩;exact⟨b',by simp[lI],.inl h6⟩
       cases dst with
       |none=>
        refine⟨f,.inl ⟨rfl,h Ul f B ?_ (htr _ .skip)⟩⟩;rw[<- U];exact i4
       |some d=>
        refine⟨Dj f d v,.inl ⟨uu f N d v,h Ul _ B ?_ (htr _ .put)⟩⟩;rw[<- U];exact i4.put d _ v SZ
      ·exact⟨f,.inr U⟩
     have lG:∀g∈F,(∃r∈dN s k,γ.ω g=.row r)\/∃b∈db k,γ.ω g=.box b/\g=γ.β b:=by
      intro g m;rcases lA g m with ⟨r,x,i⟩|⟨b,t,i,C⟩
      ·rcases wS g with j|j|j|⟨q,hq,j⟩
       ·exact .inl ⟨r,x,j.symm.trans i⟩
       ·rw[i]at j;cases j
       ·rw[i]at j;cases j
       ·rw[i]at j;cases j;exact absurd hq (V r x)
      ·rcases wS g with j|j|j|⟨q,hq,j⟩
       ·exact .inr ⟨b,t,j.symm.trans i,by rw[<- bS];exact C⟩
       ·rw[i]at j;cases j
       ·rw[i]at j;cases j
       ·rw[i]at j;cases j
     have fin:∃p,(fr f N).put dst v=fr p N/\K p B:=by
      by_cases Q:(H.all A.closed && outs.all A.closed)=I
      ·rw[if_pos Q]at y;rw[ai]at Q;obtain⟨p,i|i⟩:=key γ s X rfl (λ_=>aD _) mS lG (λ_ h=>h) (λ_ h=>h) rfl (.inl Q)
       ·exact⟨p,i⟩
       ·exact absurd y i
      ·rw[if_neg Q]at y;obtain⟨p,i|i⟩:=key Hv (eY s (jG k)) iS bS mS (λ_=>aD _) lA (λg ⟨r,x,i⟩=>by
         rcases wS g with j|j|j|⟨q,hq,j⟩
         ·exact⟨r,x,j.symm.trans i⟩
         ·rw[i]at j;cases j
         ·rw[i]at j;cases j
         ·rw[i]at j;cases j;exact absurd hq (V r x)) (λg ⟨b,t,i⟩=>by
         rcases wS g with j|j|j|⟨q,hq,j⟩
         ·exact⟨b,t,j.symm.trans i⟩
         ·rw[i]at j;cases j
         ·rw[i]at j;cases j
         ·rw[i]at j;cases j) e2 (.inr λ_ _ _=>aD _)
       ·exact⟨p,i⟩
       ·exact absurd y i
     exact fin
    ·cases y
  ·cases y
end
end
section
open Go.RowKit
section
variable {P:Program} {γ:Gh} {h0:Nat->Nat} {io:M Nat} {w0:World} {s s':St} {f:Fm} {w w':World} {N:Nat} {num:Nat->FuncId} {K':Fm->World->Prop}
 {cf:Nat->M A->u (M A×M A)} {mf:Nat->Bool->M D->Int->u (M D×Int)}
theorem UA(hi:Inv γ h0 io w0 s f w){c:C}{v:Value}{x:D}(K:CR γ w c v)(l:kq s c=Z x) :
  ∃G,Rp w x v G/\(G.map cz).Nodup/\(∀q∈G,∃r∈rowsOf [c],γ.ω q.1=.row r/\γ.h q.1=0/\oZ w q.1)/\
   ∀r row,c=.ref r->look s.rw r=Z row->∀w' R,Rp w' (.list row.k row.fl R) v G->(∀g,oZ w g->oZ w' g)->w.heap.size<=w'.heap.size->(x.plain=J)->
    ∃F,pY γ.h w' ⟨R,row.k,row.fl,I,J,J⟩ (γ.sl r) F/\F.Nodup/\∀g∈F,γ.ω g=.row r:=by
 cases c with
 |d y=>
  simp only[CR]at K;obtain⟨F,t,hS⟩:=K;refine⟨F,?_⟩;cases y with
  |list k fl es=>
   cases es with
   |nil=>
    simp only[kq,ae]at l;subst l;have hF0:F=[]:=by
     simp only[Rp]at t;obtain⟨A,n,cc,_,hn,_,_,_,_,_,h|⟨hp,_⟩⟩:=t
     ·exact h.2
     ·simp at hn;omega
    subst hF0;exact⟨t,by simp,λq m=>by simp at m,λr row e=>by cases e⟩
   |cons e es=>simp[kq]at l
  |int k n=>simp only[kq,ae]at l;subst l;obtain rfl:F=[]:=(by simp only[Rp]at t;exact t.2.1);exact⟨t,by simp,λq m=>by simp at m,λr row e=>by cases e⟩
  |bool b=>simp only[kq,ae]at l;subst l;obtain rfl:F=[]:=(by simp only[Rp]at t;exact t.2);exact⟨t,by simp,λq m=>by simp at m,λr row e=>by cases e⟩
  |str b=>simp only[kq,ae]at l;subst l;obtain rfl:F=[]:=(by simp only[Rp]at t;exact t.2.1);exact⟨t,by simp,λq m=>by simp at m,λr row e=>by cases e⟩
 |nil k fl=>
  simp only[kq,ae]at l;subst l;simp only[CR]at K;refine⟨[],?_,by simp,λq m=>by simp at m,λr row e=>by cases e⟩;simp only[Rp];exact⟨O,0,0,K.1,rfl,aD _,by simp[maxLen],λ_=>jE,K.2,λe he=>by simp at he,.inl ⟨rfl,trivial⟩⟩
 |ref r=>
  simp only[CR]at K;obtain⟨S,_⟩:=K;simp only[kq]at l
  split at l
  ·rename_i row hl
   split at l
   ·rename_i T;simp only[ae]at l;subst l;obtain⟨F,hR,kl,ud⟩:=hi.rw r row hl;obtain⟨A,n,c,q1,q2,Q,L,q5,q6,q7,q8⟩:=hR;rcases q8 with ⟨rfl,rfl,rfl⟩|⟨g,o,xs,G,rfl,a2,a3,a4,a5,a6,a7,a8,a9,vh⟩
    ·have Fc:n=0:=by omega
     refine⟨[],?_,by simp,λq m=>by simp at m,λr' OS e B w' R p _ _ _=>?_⟩
     ·simp only[Rp];exact⟨O,n,0,S.trans q1,q2,Q,L,q7,q5,q6,.inl ⟨Fc,trivial⟩⟩
     ·cases e;rw[hl]at B;cases B;simp only[Rp]at p;obtain⟨A',n',c',H,Y,e3,e4,X,W,V,_⟩:=p;rw[S,q1]at H;cases H;exact⟨[],⟨O,n,0,q1,Y,Q,L,W,V,X,.inl ⟨rfl,rfl,rfl⟩⟩,by simp,λg hg=>by simp at hg⟩
    ·obtain⟨U,hz⟩:=a9 T.1;have Ap:γ.ω g=.row r:=ud g (by rw[U];simp);by_cases Fc:n=0
     ·refine⟨[],?_,by simp,λq m=>by simp at m,λr' OS e B w' R p QI nz _=>?_⟩
      ·simp only[Rp];exact⟨_,n,c,S.trans q1,q2,Q,L,q7,q5,q6,.inl ⟨Fc,trivial⟩⟩
      ·cases e;rw[hl]at B;cases B;simp only[Rp]at p;obtain⟨A',n',c',H,Y,e3,e4,X,W,V,_⟩:=p;rw[S,q1]at H;cases H;have yn:R=[]:=cH.1 (by omega);subst yn;exact⟨[g],⟨_,n,c,q1,Y,Q,L,W,V,X,.inr ⟨g,o,[],[],rfl,by omega,QI g a3,by simp[fw],λj a hu=>by simp at hu,by rw[a7 T.2];omega,λ_=>a7 T.2,(λh=>by cases h),λ_=>⟨rfl,λq m=>by simp at m⟩,(λh=>by cases h)⟩⟩,by simp,λy hy=>by simp at hy;rw[hy];exact Ap⟩
     ·refine⟨(g,o+n * row.k)::G,?_,by simpa [U] using kl,λq m=>?_,λr' OS e B w' R p QI nz _=>?_⟩
      ·simp only[Rp];exact⟨_,n,c,S.trans q1,q2,Q,L,q7,q5,q6,.inr ⟨by omega,g,o,xs,G,rfl,rfl,a4,a5⟩⟩
      ·rcases aL.1 m with rfl|m
       ·exact⟨r,by simp[rowsOf],Ap,a7 T.2,a3⟩
       ·exact⟨r,by simp[rowsOf],ud _ (by rw[U];exact bP _ (cJ m)),(hz q m).1,(hz q m).2⟩
      ·cases e;rw[hl]at B;cases B;simp only[Rp]at p;obtain⟨A',n',c',H,Y,e3,e4,X,W,V,e8⟩:=p;rw[S,q1]at H;cases H;rcases e8 with ⟨e8,_⟩|⟨_,b',o',Ia,G',e9,e10,e11,e12⟩
       ·omega
       ·cases e9;simp only[cl,true_and]at e10;subst e10;refine⟨g::G.map cz,⟨_,n,c,q1,Y,Q,L,W,V,X,.inr ⟨g,o,Ia,G,rfl,by omega,QI g a3,e11,e12,by rw[a7 T.2];omega,λ_=>a7 T.2,(λh=>by cases h),λ_=>⟨rfl,λq m=>⟨(hz q m).1,QI _ (hz q m).2⟩⟩,(λh=>by cases h)⟩⟩,by rw[<- U];exact kl,λy hy=>ud y (by rw[U];exact hy)⟩
   ·cases l
  ·cases l
 |ptr b o=>simp[kq]at l
 |pQ r k i o=>simp[kq]at l
 |vj cs=>simp[kq]at l
 |agg cs=>simp[kq]at l
 |sh cs=>simp[kq]at l
 |vz=>simp[kq]at l
 |any=>simp[kq]at l
theorem Ez(hi:Inv γ h0 io w0 s f w):∀(m:M C) {S:M Value} {W:M D},fq γ w m S->vT s m=Z W->
  ∃R,hH w W S R/\(∀G∈R,∀K∈G,∃r∈rowsOf m,γ.ω K.1=.row r/\γ.h K.1=0/\oZ w K.1)/\((rowsOf m).Nodup->(R.flatten.map cz).Nodup)/\
   ∀w' H j t,hH w' H S R->(∀g,oZ w g->oZ w' g)->w.heap.size<=w'.heap.size->rO s m H j=Z t->t.sl=j.sl/\t.bx=j.bx/\
    ∀q x,look t.rw q=Z x->look j.rw q=Z x\/(q∈rowsOf m/\∃F,pY γ.h w' x (γ.sl q) F/\F.Nodup/\∀g∈F,γ.ω g=.row q)
 |[],S,W,U,hd=>by
  simp only[vT,ae]at hd;subst hd;simp only[fq]at U;subst U;refine⟨[],by simp[hH],λG L=>by simp at L,λ_=>by simp,λw' H j t n _ _ l=>?_⟩;cases H with
  |nil=>simp only[rO,ae]at l;subst l;exact⟨rfl,rfl,λq x h=>.inl h⟩
  |cons d W=>simp[rO]at l
 |c::m,S,W,U,hd=>by
  simp only[vT]at hd
  split at hd
  ·rename_i x p;simp only[ak]at hd;obtain⟨ds0,hd,rfl⟩:=hd;simp only[fq]at U;obtain⟨v,fx,rfl,hv,xw⟩:=U;obtain⟨G0,k1,k2,k3,k4⟩:=UA hi hv p;obtain⟨R,l1,l2,l3,l4⟩:=Ez hi m xw hd;have X:∀r∈rowsOf [c],rowsOf (c::m)=r::rowsOf m:=λr n=>by
    cases c<;>simp[rowsOf]at n ⊢
    exact n.symm
   have uA:∀r∈rowsOf m,r∈rowsOf (c::m):=λr n=>by
    cases c<;>simp[rowsOf,n]
   refine⟨G0::R,by simp only[hH];exact⟨v,fx,G0,R,rfl,rfl,k1,l1⟩,λG L K l=>?_,λT=>?_,λw' H j t n QI nz l=>?_⟩
   ·rcases aL.1 L with rfl|L
    ·obtain⟨r,n,V⟩:=k3 K l;exact⟨r,by rw[X r n];simp,V⟩
    ·obtain⟨r,n,V⟩:=l2 G L K l;exact⟨r,uA r n,V⟩
   ·have hn':(rowsOf m).Nodup:=by
     cases c<;>simp[rowsOf]at T<;>first|exact T|exact T.2
    rw[eH,bN,bM];refine⟨k2,l3 hn',?_⟩;intro a ha b l e;subst e;obtain⟨K,rD,rfl⟩:=cj.1 ha;obtain⟨be',Q,e⟩:=cj.1 l;obtain⟨G,L,Q⟩:=fv.1 Q;obtain⟨r,n,V,_⟩:=k3 K rD;obtain⟨q,hq,h2,_⟩:=l2 G L be' Q;rw[e,V]at h2;cases h2;rw[X r n]at T;exact (cC.1 T).1 hq
   ·cases H with
    |nil=>simp only[hH]at n;cases n.1
    |cons d' H=>
     simp only[hH]at n;obtain⟨v',apo,F',Fs',e1,e2,hr1,Kp⟩:=n;cases e1;cases e2;have B:(∀r,c≠.ref r)->rO s m H j=Z t->t.sl=j.sl/\t.bx=j.bx/\∀q x,look t.rw q=Z x->look j.rw q=Z x\/(q∈rowsOf (c::m)/\∃F,pY γ.h w' x (γ.sl q) F/\F.Nodup/\∀g∈F,γ.ω g=.row q):=by
      intro _ l;obtain⟨m1,m2,m3⟩:=l4 w' H j t Kp QI nz l;exact⟨m1,m2,λq x h=>(m3 q x h).imp id (λh=>⟨uA q h.1,h.2⟩)⟩
     cases c with
     |ref r=>
      cases d' with
      |list k fl es=>
       simp only[rO]at l
       split at l
       ·rename_i row hl
        split at l
        ·rename_i hkf;obtain⟨rfl,rfl⟩:=hkf;have sI:x.plain=J:=by
          simp only[kq,hl]at p
          split at p
          ·simp only[ae]at p;rw[<- p];rfl
          ·cases p
         obtain⟨m1,m2,m3⟩:=l4 w' H _ t Kp QI nz l;obtain⟨F,n1,n2,n3⟩:=k4 r row rfl hl w' es hr1 QI nz sI;refine⟨m1,m2,λq y h=>?_⟩;rcases m3 q y h with Y|h
         ·rw[wM]at Y;clear h
          split at Y
          ·rename_i hq;subst hq;cases Y;exact .inr ⟨by simp[rowsOf],F,n1,n2,n3⟩
          ·exact .inl Y
         ·exact .inr ⟨uA q h.1,h.2⟩
        ·cases l
       ·cases l
      |int _ _=>simp[rO]at l
      |bool _=>simp[rO]at l
      |str _=>simp[rO]at l
     |d y=>exact B (λr h=>by cases h) (by simpa [rO] using l)
     |nil k fl=>exact B (λr h=>by cases h) (by simpa [rO] using l)
     |ptr b o=>simp[kq]at p
     |pQ r k i o=>simp[kq]at p
     |vj m=>simp[kq]at p
     |agg m=>simp[kq]at p
     |sh m=>simp[kq]at p
     |vz=>simp[kq]at p
     |any=>simp[kq]at p
  ·cases hd
variable {ty:TypeId} {pos:String} {aft:Array Edge} {gd:u (Nat×Bool)}
theorem afo(p:Inv γ h0 io w0 s f w){g:Nat}{fn:Func}(BL:P.funcs[num g]?=Z fn)(Wq:fn.body.isSome=I)(tj:(fn.name == "runtime.NumGoroutine")=J){x x2:Operand}{y y2:KX}{ts:Array TypeId}(hx:km N x y=I)(W:km N x2 y2=I)
  (nT:∀ag F q S V,mf g ag F q=Z (S,V)->sr w0 io P (num g) ag F q S V) {d:Nat} (l:lP cf mf s (Z d) (.mrk g y y2)=Z s') (hK:∀H f' w',Inv H h0 io w0 s' f' w'->Tr (Z d) (eP s (Z d) (.mrk g y y2)) γ w H w' f f'->K' f' w') :
  vr P N ⟨Z d,.call {callee:=.value (.func (num g)),args:=#[x,x2],argTypes:=ts },ty,pos,aft,gd⟩ f w K':=by
 simp only[lP]at l
 split at l
 ·rename_i d0 q S4 hq;cases S4
  split at l
  ·rename_i F IT
   split at l
   ·rename_i kl;rw[uS]at kl
    split at l
    ·rename_i S V amM;simp only[ak]at l;obtain⟨R,hb,rfl⟩:=l;have Kp:=cA p W;rw[hq]at Kp;obtain⟨Y,X⟩:=iH Kp;have vl:(fW s y).cells.all C.cell=I:=by
      have:∀(Q:M C) {F:M D},vT s Q=Z F->Q.all C.cell=I:=by
       intro Q
       induction Q with
       |nil=>intro F _;rfl
       |cons c Q ih=>
        intro F h;simp only[vT]at h
        split at h
        ·rename_i a n;simp only[ak]at h;obtain⟨ds1,t,_⟩:=h;simp only[cX,ih t,fZ];cases c<;>simp[kq]at n<;>rfl
        ·cases h
      exact this _ IT
     obtain⟨c1,c2,c3⟩:=(cA p hx).cells vl;obtain⟨Fs,l1,l2,l3,l4⟩:=Ez p _ c1 IT;have L:∀a∈Fs.flatten.map cz,∃r∈rowsOf (fW s y).cells,γ.ω a=.row r:=λa n=>by
      obtain⟨be,K,rfl⟩:=cj.1 n;obtain⟨G,hG,K⟩:=fv.1 K;obtain⟨r,B,t,_⟩:=l2 G hG be K;exact⟨r,B,t⟩
     have qQ:=nT _ _ _ _ _ amM w γ.h ((fr f N).eval x) _ Fs p.size p.frame (λa n=>by
       obtain⟨r,_,t⟩:=L a n;exact (p.own a (by rw[t];simp)).2) l1 (λU=>by
       obtain⟨vs,e⟩:=c3 U;rw[e];simp[Value.cells]) (λU=>by rw[c2 U]) X (l3 kl) (λG hG be K=>by
       obtain⟨r,_,_,t,h2⟩:=l2 G hG be K;exact⟨t,h2⟩) p.fQ
     refine yW (zo (kF BL Wq tj) rfl (a2 rfl Y)) qQ λe w' hp=>?_;obtain⟨rfl,amX,DV,_,m⟩:=hp;refine⟨_,rfl,?_⟩;have v:vG γ (λo=>∃i∈rowsOf (fW s y).cells,o=.row i) w w':={
      os:=m.os,tape:=m.tape,output:=m.output,size:=m.size
      block:=λa n hn=>m.block a n (λhF=>by
       obtain⟨r,B,t⟩:=L a hF;exact hn ⟨r,B,t⟩)
      cell:=λa j hj=>by
       rcases dD a w.heap.size with k|k
       ·exact m.cell a j k hj
       ·have:=p.fQ a k;omega
      fR:=m.fR }
     have hlk:∀r∈rowsOf (fW s y).cells,look (fK s (rowsOf (fW s y).cells)).rw r=O:=λr B=>by rw[mN,if_pos B]
     have i0:Inv γ h0 io w0 (fK s (rowsOf (fW s y).cells)) f w:=p.sub (λe c k=>by rw[(o6 _ _).1]at k;exact k) (λe c k=>by rw[(o6 _ _).2]at k;exact k) (λe c k=>by
      rw[mN]at k
      split at k
      ·cases k
      ·exact k)
     have T:=i0.Sa v (by rintro⟨r,_,h⟩;cases h) (λb h=>by obtain⟨r,_,h⟩:=h;cases h) (λr h=>by obtain⟨r',DV,h⟩:=h;cases h;exact hlk r DV);obtain⟨m1,m2,m3⟩:=l4 w' S _ R DV m.fR m.size hb;have i2:Inv γ h0 io w0 R f w':={T with
      sl:=λe c k=>T.sl e c (by rw[<- m1];exact k)
      bx:=λe c k=>T.bx e c (by rw[<- m2];exact k)
      rw:=λr a k=>by
       rcases m3 r a k with h|⟨_,h⟩
       ·exact T.rw r a h
       ·exact h }
     refine hK γ _ w' (i2.put d _ _ (iM amX)) ⟨⟨v.os,v.tape,v.output,v.size,λa n hn=>v.block a n (λh=>hn ?_),v.cell,v.fR⟩,λ_ _=>rfl,λ_=>aD _,.put⟩;obtain⟨r,B,h⟩:=h;exact⟨r,B,.inr h⟩
    ·cases l
   ·cases l
  ·cases l
 ·cases l
end
end
section
open Go.RowKit
section
variable {P:Program} {γ:Gh} {h0:Nat->Nat} {io:M Nat} {w0:World} {s s':St} {f:Fm} {w:World} {N:Nat} {ty:TypeId} {pos:String} {aft:Array Edge} {gd:u (Nat×Bool)} {K:Fm->World->Prop}
 {cf:Nat->M A->u (M A×M A)} {mf:Nat->Bool->M D->Int->u (M D×Int)}
theorem ajW(R:Inv γ h0 io w0 s f w){T T' p:TypeId}{k:Nat}{x y:Operand}{a b:KX}{d:Nat}(hU:P.underlying T=Z (.slice p))(hS:pg P p=Z k)(hx:km N x a=I)(hy:km N y b=I)(B:lP cf mf s (Z d) (.Iy k a b)=Z s')
  (h:∀V f' w',Inv V h0 io w0 s' f' w'->Tr (Z d) (eP s (Z d) (.Iy k a b)) γ w V w' f f'->K f' w') :
  vr P N ⟨Z d,.call {callee:=.builtin .copy,args:=#[x,y],argTypes:=#[T,T'] },ty,pos,aft,gd⟩ f w K:=by
 have Y:=cA R hx;have Q:=cA R hy;simp only[lP]at B
 split at B
 ·rename_i d0 r k' vk es S4 Kq hyb;cases S4;rw[Kq]at Y;rw[hyb]at Q;simp only[CR,Rp]at Y Q;obtain⟨F,⟨A2,m,c2,y1,y2,y3,y4,y5,y6,y7,y8⟩,lg⟩:=Q
  split at B
  ·rename_i row hl
   split at B
   ·rename_i hc;obtain⟨rfl,rfl,rfl,hrf,yL,rI,hle⟩:=hc;simp only[ae]at B;subst B;obtain⟨mB,A,n,c,i2,b2,AZ,W,o2,l2,q1,q2,q3,q4,q5,q6,q7,q8⟩:=R.uX hl;have qS:(fr f N).eval x=.slice A n c:=Y.1.trans q1;have hrX:r∈eP s (Z d) (.Iy row.k a b):=by simp[eP,Kq,rowsOf]
    have tj:n=m:=by omega
    subst tj;have Wq:IntKind.i64.wrap (n:Int)=(n:Int):=bH (by simp only[maxLen]at q4;omega);have mH:∀{w':World},(Builtin.copy_ #[T,T'] ty #[(fr f N).eval x,(fr f N).eval y]).run P w=.ok (.int .i64 n) w'->(execOp (fr f N).eval ⟨Z d,.call {callee:=.builtin .copy,args:=#[x,y],argTypes:=#[T,T'] },ty,pos,aft,gd⟩).run P w=.ok (.value (.int .i64 n)) w':=by
     intro w' hr;simp[execOp,resolve,invoke,builtin,hr]
    have jS:goInt n=.int .i64 (n:Int):=rfl;rcases y8 with ⟨y8,rfl⟩|⟨U1,bb,oo,t,G2,rfl,rfl,C,a3'⟩
    ·
     have yn:es=[]:=cy (by omega);have hre:row.es=[]:=cy (by omega);subst y8;refine wT (mH (w':=w) ?_) ?_
     ·rw[qS,y1];cases A<;>cases A2<;>simp[Builtin.copy_,run_underlying hU,run_sizeOf hS,Builtin.lenOf,Builtin.firstCells,loadCells,loadCellsFrom,storeCells,goInt]
     ·have e1:s.setRow r {row with es:=es }=s.setRow r row:=by rw[yn,<- hre]
      have i3:Inv γ h0 io w0 (s.setRow r row) f w:={R with
       rw:=λq e L=>by
        simp only[St.setRow,look]at L;by_cases hq:r=q
        ·subst hq;simp at L;subst L;exact R.rw r row hl
        ·rw[if_neg hq,eK]at L
         split at L
         ·cases L
         ·exact R.rw q e L }
      have e2:es.length=0:=by rw[yn];rfl
      refine h γ _ w ?_ ⟨vG.refl _ _ _,λ_ _=>rfl,λ_=>aD _,.put⟩;rw[e1,e2];exact i3.put d _ _ (iM rfl)
    ·have hG2:G2=[]:=C.plain (y5 rfl);subst hG2;rcases q8 with ⟨rfl,rfl⟩|⟨g,o,xs,G,rfl,a2,a3,a4,a5,a6,a7,a8,a9,vh,Wg,a12⟩
     ·omega
     obtain⟨rfl,U,H,hB,wz⟩:=vh rI;have hG:G=[]:=a6.plain (q7 hrf);subst hG;have X:γ.h g=0:=a9 yL;have NT:t.length=n * row.k:=by rw[fw.length es C y7,y2]
     have hck:n * row.k<=c * row.k:=fJ _ q3;have amU:=C.rY;have hf:=run_firstCells_some (P:=P) w row.k n ⟨bb,oo,O⟩ n c2 t NT (λj v hv=>by rw[qG];exact a3' j v hv);have tn:=nZ (P:=P) (o:=0) t 0 w H hB (by omega) amU;simp only[cd]at tn;refine wT (mH (w':=gy w g (.cells (cO H 0 t).toArray U (0,0))) ?_) ?_
     ·rw[qS,y1];simp[Builtin.copy_,run_underlying hU,run_sizeOf hS,Builtin.lenOf,hf,tn,goInt]
     have lF:=Ii.gy w g (cO H 0 t).toArray U;have nR:vG γ (λo=>∃i∈eP s (Z d) (.Iy row.k a b),o=.box i\/o=.row i) w _:=mR R lF ⟨r,hrX,.inr a3⟩ (λj hj=>by rw[X]at hj;omega);have h5:=i2.Sa (mR i2 lF (M:=λo=>o=.dM) a4 (λj hj=>by rw[W,X]at hj;omega)) (by simp) (λb S=>by cases S) (λr hr=>by cases hr);have aeU:cO H 0 t=t++H.drop t.length:=by simp[cO]
     have ic:iA (gy w g (.cells (cO H 0 t).toArray U (0,0))) g 0 t:=by
      have h7:=(hB.iq U (cO H 0 t)).QR;intro j l hu;refine h7 j l ?_;rw[aeU,dr (bq.1 hu).1];exact hu
     have DV:fw (gy w g (.cells (cO H 0 t).toArray U (0,0))) es t []:=C.dF _ (λbe S=>by simp at S);obtain⟨Ul,h6,h7,h8,h9,_,_⟩:=h5.xl (r:=r) (x:={row with es:=es }) (n:=n) (c:=c) (g:=g) (o:=0) y2 q3 q4 q5 y7 (λ_=>y5 rfl)
      (by rw[gh];exact a2) (.inl a4) (i2.own g (by rw[a4];simp)).2 ⟨by rw[gh];omega,lF.fz⟩ DV ic (by rw[W,X];omega) (λ_=>by rw[W,X]) (λ_=>⟨rfl,U,_,hB.iq U _,by rw[jO (by omega)];exact wz⟩)
      (λbe S=>by simp at S) (λ_=>⟨by simp,λbe S=>by simp at S⟩) (by rw[AZ];exact q1)
     have e6:(s.dd r).setRow r {row with es:=es }=s.setRow r {row with es:=es }:=by
      have:ti (ti s.rw r) r=ti s.rw r:=by simp[ti,n7]
      simp[St.setRow,St.dd,this]
     rw[e6]at h6;refine h Ul _ _ ?_ ⟨nR,λ_ _=>by rw[h8,b2],λe=>by have:=h9 e;rw[W]at this;exact this,.put⟩;rw[<- y2];exact h6.put d _ _ (iM Wq)
   ·cases B
  ·cases B
 ·cases B
end
end
section
open Go.RowKit
def PL(P:Program)(F:FuncId):Prop:=
 ∀(w:World) (g:Nat) (T:TypeId) (a es:M Bool) (c:Nat) (b o m f:Nat) (rest:M Value),kJ w g T (a.map Value.bool++rest)->iA w b o (es.map Value.bool)->b≠g->es.length=a.length->a.length<=maxLen->
  Calls P F #[.slice (Z ⟨g,0,O⟩) a.length c,.slice (Z ⟨b,o,O⟩) es.length f] w λe d=>e=.returned (.bool (nQ a es))/\d=gy w g (.cells ((dK a es).map Value.bool++rest).toArray T (0,0))
def R9(P:Program)(F:FuncId)(ins:Bool):Prop:=
 ∀(w:World) (A:u Addr) (n c a b m:Nat) (k:Value) (xs h:M Value),n<=c->c<=maxLen->a<=b->b<=n->(n+m) * 56<=room->xs.length=n * 3->h.length=m * 3->(∀v∈xs++h,one v=I)->
  ((A=O/\c=0)\/∃g T l,A=Z ⟨g,0,O⟩/\kJ w g T l/\l.length=c * 3/\l.take (n * 3)=xs)->
  (if ins=I then a=b/\0 < m/\∃q o T d,k=.slice (Z ⟨q,0,O⟩) m o/\kJ w q T d/\d.length=o * 3/\d.take (m * 3)=h/\m<=o/\∀g,A=Z ⟨g,0,O⟩->q≠g else a < b/\m=0/\k=.int .i64 b)->
  Calls P F #[.slice A n c,.int .i64 a,k] w λe i=>∃f j p d,e=.returned (.slice (Z ⟨f,0,O⟩) (n - (b - a)+m) j)/\n - (b - a)+m<=j/\j<=maxLen/\kJ i f p d/\d.length=j * 3/\
   d.take ((n - (b - a)+m) * 3)=xs.take (a * 3)++h++xs.drop (b * 3)/\((A=Z ⟨f,0,O⟩/\Ii f w i)\/(f=w.heap.size/\i.heap.size=w.heap.size+1/\CJ w.heap.size w i))
def Ur(P:Program)(num:Nat->FuncId):Prop:=
 (num 9004≠1000000->PL P (num 9004))/\∀ins:Bool,num (if ins=I then 9006 else 9005)≠1000000->R9 P (num (if ins=I then 9006 else 9005)) ins
def Cts(b:World)(c:M Nat)(P:Program)(num:Nat->FuncId)(d:Nat->M A->u (M A×M A)):Prop:=
 (∀g a r o,d g a=Z (r,o)->yw b c P (num g) a r o)/\Ur P num
section
variable {P:Program} {γ:Gh} {h0:Nat->Nat} {io:M Nat} {w0:World} {s s':St} {f:Fm} {w:World} {N:Nat} {ty:TypeId} {pos:String} {aft:Array Edge} {gd:u (Nat×Bool)} {K:Fm->World->Prop}
 {cf:Nat->M A->u (M A×M A)} {mf:Nat->Bool->M D->Int->u (M D×Int)}
def Gh.iz(γ:Gh)(q i:Nat):Gh:=⟨γ.h,γ.β,λr=>if r=i then γ.sl q else γ.sl r,λg=>if γ.ω g=.row q then .row i else γ.ω g⟩
mutual
theorem CR.iz(γ:Gh)(w:World)(q i:Nat):∀(c:C) {v:Value},CR γ w c v->CR (γ.iz q i) w (c.iz q i) v
 | .d x,v,h=>by simp only[CR,C.iz,Gh.iz]at h ⊢;exact h
 | .nil k y,v,h=>by simp only[CR,C.iz]at h ⊢;exact h
 | .ref r,v,h=>by
  simp only[CR]at h;simp only[C.iz];split
  ·rename_i e;subst e;simp only[CR,Gh.iz,if_true];exact h
  ·split
   ·simp only[CR]
   ·rename_i t m;simp only[CR,Gh.iz,if_neg m];exact h
 | .ptr b o,v,h=>by simp only[CR,C.iz,Gh.iz]at h ⊢;exact h
 | .pQ r k a o,v,h=>by
  simp only[CR]at h;simp only[C.iz];split
  ·rename_i e;subst e;simp only[CR,Gh.iz,if_true];exact h
  ·split
   ·simp only[CR]
   ·rename_i t m;simp only[CR,Gh.iz,if_neg m];exact h
 | .vj cs,v,h=>by simp only[CR,C.iz,Gh.iz]at h ⊢;exact h
 | .agg cs,v,h=>by
  simp only[CR,C.iz]at h ⊢;obtain⟨g,l,j⟩:=h;exact⟨g,l,fq.iz γ w q i cs j⟩
 | .sh cs,v,h=>by
  simp only[CR,C.iz]at h ⊢;obtain⟨g,l,j⟩:=h;exact⟨g,l,fq.iz γ w q i cs j⟩
 | .vz,v,h=>by simp only[CR,C.iz]at h ⊢;exact h
 | .any,v,h=>by simp only[CR,C.iz]
theorem fq.iz(γ:Gh)(w:World)(q i:Nat):∀(cs:List C) {g:List Value},fq γ w cs g->fq (γ.iz q i) w (C.Ct q i cs) g
 |[],g,h=>by simp only[fq,C.Ct]at h ⊢;exact h
 |c::cs,g,h=>by
  simp only[fq,C.Ct]at h ⊢;obtain⟨v,p,l,j,n⟩:=h;exact⟨v,p,l,CR.iz γ w q i c j,fq.iz γ w q i cs n⟩
end
theorem VG(q i:Nat)(l:M (Nat×C))(d:Nat):look (ZW q i l) d=(look l d).map (C.iz q i):=by
 induction l with
 |nil=>rfl
 |cons p l a=>
  obtain⟨k,x⟩:=p;unfold ZW at a ⊢;simp only[aW,look,a]
  split<;>rfl
theorem VF(q i:Nat)(l:M (Nat×M C))(d:Nat):look (ZV q i l) d=(look l d).map (C.Ct q i):=by
 induction l with
 |nil=>rfl
 |cons p l a=>
  obtain⟨k,x⟩:=p;unfold ZV at a ⊢;simp only[aW,look,a]
  split<;>rfl
theorem Inv.iz(j:Inv γ h0 io w0 s f w){q i:Nat}{row:Row}(y:look s.rw q=Z row):Inv (γ.iz q i) h0 io w0 (s.iz q i row) f w:={j with
 sl:=λd c h=>by
  simp only[St.iz,VG,ak]at h;obtain⟨p,k,rfl⟩:=h;exact CR.iz γ w q i p (j.sl d p k)
 bx:=λb C h=>by
  simp only[St.iz,VF,ak]at h;obtain⟨o,k,rfl⟩:=h;obtain⟨T,t,m,l,B⟩:=j.bx b o k;exact⟨T,t,m,fq.iz γ w q i o l,by simp[Gh.iz,B]⟩
 rw:=λr x h=>by
  simp only[St.iz,look]at h;by_cases n:i=r
  ·subst n;simp only[if_true,ae]at h;subst h;obtain⟨F,k,m,l⟩:=j.rw q row y;exact⟨F,by simp only[Gh.iz,if_true];exact k,m,λg a=>by simp[Gh.iz,l g a]⟩
  ·rw[if_neg n,eK,if_neg n,eK]at h
   split at h
   ·cases h
   ·rename_i v;obtain⟨F,k,m,l⟩:=j.rw r x h;exact⟨F,by simp only[Gh.iz,if_neg (m_ n)];exact k,m,λg a=>by simp[Gh.iz,l g a,m_ v]⟩
 own:=λg a=>j.own g (λe=>a (by simp[Gh.iz,e]))
 oq:=λg b a=>j.oq g b (by
  simp only[Gh.iz]at a
  split at a
  ·cases a
  ·exact a) }
theorem adW(g:Inv γ h0 io w0 s f w){op:Op}{x:Operand}{y:KX}{d:Nat}(m:op=.assign x\/op=.move x)(o:km N x y=I)(a:lP cf mf s (Z d) (.TI y)=Z s')
  (h:∀b j e,Inv b h0 io w0 s' j e->Tr (Z d) (eP s (Z d) (.TI y)) γ w b e f j->K j e):vr P N ⟨Z d,op,ty,pos,aft,gd⟩ f w K:=by
 have c:=cA g o;have l:(execOp (fr f N).eval ⟨Z d,op,ty,pos,aft,gd⟩).run P w=.ok (.value ((fr f N).eval x)) w:=by
  rcases m with rfl|rfl
  ·exact jI rfl
  ·exact gY rfl
 refine eo l ?_;simp only[lP]at a
 split at a
 ·rename_i q k;rw[k]at c
  split at a
  ·rename_i row p;simp only[ae]at a;subst a;have n:=g.iz (i:=yc d 0) p;exact h _ _ _ (n.put d (.ref (yc d 0)) _ (by
    simp only[CR]at c ⊢
    simpa [Gh.iz] using c)) ⟨vG.refl _ _ _,λ_ _=>rfl,λ_=>aD _,.put⟩
  ·cases a
 ·rename_i k;simp only[ae]at a;subst a;exact h _ _ _ (g.put d _ _ c) ⟨vG.refl _ _ _,λ_ _=>rfl,λ_=>aD _,.put⟩
theorem Bk:∀(es:M (M D)) {c:M Bool} {d:M Value} {G:Fp},lx es=Z c->fw w es d G->d=c.map Value.bool/\G=[]/\c.length=es.length
 |[],c,d,G,h,a=>by
  simp only[lx,ae]at h;subst h;simp only[fw]at a;simp[a.1,a.2]
 |e::es,c,d,G,h,a=>by
  match e,h with
  |[.bool b],h=>
   simp only[lx,ak]at h;obtain⟨l,j,rfl⟩:=h;simp only[fw,fp,Rp]at a;obtain⟨v1,v2,o,n,rfl,rfl,⟨v,k,m,G2,rfl,rfl,⟨rfl,rfl⟩,rfl,rfl⟩,i⟩:=a;obtain⟨rfl,rfl,g⟩:=Bk es j i;simp[g]
  |[],h=>simp[lx]at h
  |[.int _ _],h=>simp[lx]at h
  |[.str _],h=>simp[lx]at h
  |[.list _ _ _],h=>simp[lx]at h
  |_::_::_,h=>simp[lx]at h
theorem Jv:∀(a:M Bool),fw w (a.map λb=>[D.bool b]) (a.map Value.bool) []
 |[]=>by simp[fw]
 |b::a=>by
  simp only[aW,fw,fp,Rp];exact⟨[.bool b],_,[],[],rfl,rfl,⟨.bool b,[],[],[],rfl,rfl,⟨rfl,rfl⟩,rfl,rfl⟩,Jv a⟩
theorem j8:∀(a es:M Bool),(dK a es).length=a.length
 |[],es=>by cases es<;>simp[dK]
 |b::a,[]=>by simp[dK]
 |b::a,e::es=>by simp[dK,j8 a es]
theorem ae2(T:Inv γ h0 io w0 s f w){r:Nat}{c:C}{v:Value}{es:M (M D)}(k:CR γ w c v)(a:IZ s r c=Z es)(V:es≠[]) :
  ∃b o n j d G,v=.slice (Z ⟨b,o,O⟩) n j/\n=es.length/\fw w es d G/\iA w b o d/\∀g,γ.ω g=.row r->γ.h g=0->b≠g:=by
 have X:0 < es.length:=Ba.2 V;unfold IZ at a
 split at a
 ·rename_i Y W;simp only[ae]at a;subst a;simp only[CR,Rp]at k;obtain⟨F,⟨A,n,j,q1,q2,Q,L,H,B,y,i⟩,R⟩:=k;rcases i with ⟨i,_⟩|⟨_,b,o,d,G,rfl,rfl,a2,a3⟩
  ·omega
  ·refine⟨b,o,n,j,d,G,q1,q2,a2,a3,λg _ l e=>?_⟩;have:=R (b,o+n * 1) (by simp);simp only at this
   rw[e,l]at this;omega
 ·rename_i q
  split at a
  ·rename_i row p
   split at a
   ·rename_i S;simp only[ae]at a;subst a;simp only[CR]at k;obtain⟨F,U,_,x⟩:=T.rw q row p;obtain⟨A,n,j,q1,q2,Q,L,H,B,y,i⟩:=U;rcases i with ⟨_,i,_⟩|⟨b,o,d,G,rfl,a2,a3,a4,a5,a6,a7,a8,a9,t⟩
    ·omega
    ·have m:γ.ω b=.row q:=x b (by
      cases hd:row.deep with
      |true=>rw[(a9 hd).1];simp
      |false=>rw[(t hd).1];simp)
     refine⟨b,o,n,j,d,G,k.1.trans q1,q2,a4,a5,λg l _ e=>?_⟩;rw[e,l]at m;simp only[Own.row.injEq]at m;exact S.2 m.symm
   ·cases a
  ·cases a
 ·cases a
theorem anj(L:Inv γ h0 io w0 s f w){F0:FuncId}{fn:Func}(BL:P.funcs[F0]?=Z fn)(Wq:fn.body.isSome=I)(tj:(fn.name == "runtime.NumGoroutine")=J)(v:PL P F0){ts:Array TypeId}{x y:Operand}{a b:KX}{d:Nat}(hx:km N x a=I)(F:km N y b=I)(q:lP cf mf s (Z d) (.jn a b)=Z s')
  (h:∀C f' V,Inv C h0 io w0 s' f' V->Tr (Z d) (eP s (Z d) (.jn a b)) γ w C V f f'->K f' V) :
  vr P N ⟨Z d,.call {callee:=.value (.func F0),args:=#[x,y],argTypes:=ts },ty,pos,aft,gd⟩ f w K:=by
 have X:=cA L hx;have hpy:=cA L F;simp only[lP]at q
 split at q
 ·rename_i d0 r S4 Kq;cases S4;rw[Kq]at X;simp only[CR]at X
  split at q
  ·rename_i row es hl yn
   split at q
   ·rename_i hc;obtain⟨hk,hrf,yL,rI,hle⟩:=hc
    split at q
    ·rename_i p t hbs rX
     split at q
     ·rename_i gW;simp only[ae]at q;subst q;obtain⟨mB,A,n,c,i2,b2,AZ,W,o2,l2,q1,q2,q3,q4,q5,q6,q7,q8⟩:=L.uX hl;have qS:(fr f N).eval x=.slice A n c:=X.1.trans q1;have hrX:r∈eP s (Z d) (.jn a b):=by simp[eP,Kq,rowsOf]
      have Fc:0 < es.length:=Ba.2 gW;rcases q8 with ⟨rfl,rfl⟩|⟨g,o,xs,G,rfl,a2,a3,a4,a5,a6,a7,a8,a9,vh,Wg,a12⟩
      ·omega
      obtain⟨rfl,T,B,hB,wz⟩:=vh rI;have U:γ.h g=0:=a9 yL;obtain⟨rfl,rfl,hbl⟩:=Bk _ hbs a6;obtain⟨bb,oo,n2,cc,Ms,G2,y1,y2,y3,y4,y5⟩:=ae2 L hpy yn gW;obtain⟨rfl,rfl,pS⟩:=Bk _ rX y3;have hlc:t.length=p.length:=by omega
      have H:n=p.length:=by omega
      have abx:B=p.map Value.bool++B.drop p.length:=by
       have:B.take p.length=p.map Value.bool:=by
        apply eE
        intro j;rw[cS];by_cases v:j < p.length
        ·rw[if_pos v];have h7:=a7 j (Value.bool p[j]) (by simp[v]);rw[bo,hB.cell]at h7;rw[h7];simp[v]
        ·rw[if_neg v,jA (by simp;omega)]
       conv=>lhs;rw[<- bI p.length B,this]
      have S:=hB;rw[abx]at S;have qQ:=v w g T p t c bb oo n2 cc (B.drop p.length) S y4 (y5 g a3 U) hlc (by omega);have am4:(fr f N).eval x=.slice (Z ⟨g,0,O⟩) p.length c:=by rw[qS,H]
      have am5:(fr f N).eval y=.slice (Z ⟨bb,oo,O⟩) t.length cc:=by rw[y1,y2,pS]
      refine yW (zo (kF BL Wq tj) rfl (by simp[am4,am5])) qQ λe V hp=>?_;obtain⟨rfl,rfl⟩:=hp;refine⟨_,rfl,?_⟩;have Y:=Ii.gy w g ((dK p t).map Value.bool++B.drop p.length).toArray T;have nR:vG γ (λo=>∃i∈eP s (Z d) (.jn a b),o=.box i\/o=.row i) w _:=mR L Y ⟨r,hrX,.inr a3⟩ (λj v=>by rw[U]at v;omega);have h5:=i2.Sa (mR i2 Y (M:=λo=>o=.dM) a4 (λj v=>by rw[W,U]at v;omega)) (by simp) (λb Q=>by cases Q) (λr hr=>by cases hr);have R:=hB.iq T ((dK p t).map Value.bool++B.drop p.length);have ic:iA (gy w g (.cells ((dK p t).map Value.bool++B.drop p.length).toArray T (0,0))) g 0 ((dK p t).map Value.bool):=by
       intro j m hu;refine R.QR j m ?_;rw[dr (bq.1 hu).1];exact hu
      have UU:=j8 p t;have am1:((dK p t).map Value.bool++B.drop p.length).length=c * row.k:=by
       simp only[bh,ay,UU,dH];rw[hk]at wz ⊢;omega
      obtain⟨Ul,h6,h7,h8,h9,_,_⟩:=h5.xl (r:=r) (x:={row with es:=(dK p t).map λb=>[D.bool b] }) (n:=n) (c:=c) (g:=g) (o:=0) (by simp only[ay,UU];exact H) q3 q4 q5
       (λy F=>by obtain⟨l,_,rfl⟩:=cj.1 F;simp[hk]) (λ_ y F l hz=>by obtain⟨m,_,rfl⟩:=cj.1 F;simp at hz;subst hz;rfl)
       (by rw[gh];exact a2) (.inl a4) (i2.own g (by rw[a4];simp)).2 ⟨by rw[gh];omega,Y.fz⟩ (Jv _) ic (by rw[W,U];omega) (λ_=>by rw[W,U]) (λ_=>⟨rfl,T,_,R,am1⟩)
       (λbe Q=>by simp at Q) (λ_=>⟨by simp,λbe Q=>by simp at Q⟩) (by rw[AZ];exact q1)
      have e6:(s.dd r).setRow r {row with es:=(dK p t).map λb=>[D.bool b] }=s.setRow r {row with es:=(dK p t).map λb=>[D.bool b] }:=by
       have:ti (ti s.rw r) r=ti s.rw r:=by simp[ti,n7]
       simp[St.setRow,St.dd,this]
      rw[e6]at h6;exact h Ul _ _ (h6.put d _ _ jj) ⟨nR,λ_ _=>by rw[h8,b2],λl=>by have:=h9 l;rw[W]at this;exact this,.put⟩
     ·cases q
    ·cases q
   ·cases q
  ·cases q
 ·cases q
end
end
section
open Go.RowKit
section
variable {P:Program} {γ:Gh} {h0:Nat->Nat} {io:M Nat} {w0:World} {s s':St} {f:Fm} {w:World} {N:Nat} {ty:TypeId} {pos:String} {aft:Array Edge} {gd:u (Nat×Bool)} {K:Fm->World->Prop}
 {cf:Nat->M A->u (M A×M A)} {mf:Nat->Bool->M D->Int->u (M D×Int)}
theorem JD{g:Nat}{T:TypeId}{c a:M Value}(hB:kJ w g T c)(e:iA w g 0 a):c.take a.length=a:=by
 apply eE
 intro j;rw[cS];by_cases b:j < a.length
 ·rw[if_pos b];have d:=e j a[j] (by simp[b]);rw[bo,hB.cell]at d;rw[d];simp[b]
 ·rw[if_neg b,jA (by omega)]
theorem qz{g:Nat}{T:TypeId}{d c:M Value}{n:Nat}(hB:kJ w g T d)(e:d.take n=c):iA w g 0 c:=by
 intro j a b;rw[bo,hB.cell];rw[<- e,cS]at b
 split at b
 ·exact b
 ·cases b
theorem Jx{w:World}{g:Nat}{T:TypeId}{a:M Value}(h:kJ w g T a):gy w g (.cells a.toArray T (0,0))=w:=by
 unfold gy;have e:w.heap.setIfInBounds g (.cells a.toArray T (0,0))=w.heap:=by
  apply Array.ext_getElem?
  intro k;rw[Array.getElem?_setIfInBounds];split
  ·rename_i b;subst b;rw[if_pos h.lt];exact h.symm
  ·rfl
 rw[e]
theorem Rl(H:Inv γ h0 io w0 s f w){c:C}{d:Value}(y:CR γ w c d){ins:Bool}{a b:Int}{es:M (M D)}{X:Bool}{t:St}(j:zf s ins a c=Z (b,es,X,t)) :
  ∃v G i,Inv v h0 io w0 t f w/\fw w es i G/\Emb γ w X G v/\(∀e∈es,e.length=3)/\(∀r row,look t.rw r=Z row->look s.rw r=Z row)/\
   (if ins=I then b=a/\0 < es.length/\∃q l T m,d=.slice (Z ⟨q,0,O⟩) es.length l/\kJ w q T m/\m.length=l * 3/\m.take (es.length * 3)=i/\es.length<=l/\∀r row,look t.rw r=Z row->γ.ω q≠.row r else a < b/\es=[]/\d=.int .i64 b):=by
 unfold zf at j
 split at j
 ·rename_i b'
  split at j
  ·rename_i L;obtain⟨rfl,vC⟩:=L;simp only[ae,aI]at j;obtain⟨rfl,rfl,rfl,rfl⟩:=j;obtain⟨hv,_⟩:=iH y;exact⟨γ,[],[],H,by simp[fw],⟨rfl,rfl,λ_=>aD _,λ_ h=>by simp at h,λ_=>by simp,λ_ h=>⟨h,rfl⟩,λ_=>.inl rfl⟩,λ_ h=>by simp at h,λ_ _ h=>h,by simp[vC,hv]⟩
  ·cases j
 ·rename_i q
  split at j
  ·rename_i row V
   split at j
   ·rename_i L;obtain⟨rfl,W,uy,rI,gW⟩:=L;simp only[ae,aI]at j;obtain⟨rfl,rfl,rfl,rfl⟩:=j;obtain⟨F,hR,kl,ud⟩:=H.rw q row V;obtain⟨A,n,l,q1,q2,q3,q4,q5,q6,q7,R⟩:=hR;have p:0 < row.es.length:=Ba.2 gW;have uz:nI s 3 J (.ref q)=Z (row.es,row.deep && !row.fz,s.dd q):=by simp[nI,V,W,uy]
    obtain⟨v,G,i,i1,Q,e1,S,_,k⟩:=Es H y uz;simp only[CR]at y;rcases R with ⟨_,R,_⟩|⟨g,o,xs,G',rfl,a2,a3,a4,a5,a6,a7,a8,a9,Y⟩
    ·omega
    ·obtain⟨rfl,T,m,hB,B⟩:=a8 rI;have Ap:γ.ω g=.row q:=ud g (by
      cases hd:row.deep with
      |true=>rw[(a9 hd).1];simp
      |false=>rw[(Y hd).1];simp)
     have U:d=.slice (Z ⟨g,0,O⟩) n l:=y.1.trans q1;have UX:=fw.length row.es Q S;refine⟨v,G,i,i1,Q,e1,S,λr x h=>?_,?_⟩
     ·simp only[St.dd,eK]at h
      split at h
      ·cases h
      ·exact h
     ·rw[if_pos rfl];refine⟨rfl,p,g,l,T,m,by rw[U,q2],hB,by rw[B,W],?_,by omega,λr x h=>?_⟩
      ·rcases k with ⟨k,_⟩|⟨b,o,c2,k,k4⟩
       ·omega
       ·rw[U]at k;simp only[Value.slice.injEq,ae,Addr.mk.injEq,and_true]at k;obtain⟨⟨rfl,rfl⟩,_⟩:=k;rw[<- UX];exact JD hB k4
      ·rw[Ap];intro e;simp only[Own.row.injEq]at e;subst e;simp only[St.dd,eK,if_true]at h;cases h
   ·cases j
  ·cases j
 ·cases j
theorem ajY(hi:Inv γ h0 io w0 s f w){F0:FuncId}{fn:Func}(BL:P.funcs[F0]?=Z fn)(Wq:fn.body.isSome=I)(tj:(fn.name == "runtime.NumGoroutine")=J){ins:Bool}(hj:R9 P F0 ins){ts:Array TypeId}{x y l:Operand}{a b c:KX}{d:Nat}
  (hx:km N x a=I) (hy:km N y b=I) (hz:km N l c=I) (C:lP cf mf s (Z d) (.yv ins a b c)=Z s') (h:∀R f' w',Inv R h0 io w0 s' f' w'->Tr (Z d) (eP s (Z d) (.yv ins a b c)) γ w R w' f f'->K f' w') :
  vr P N ⟨Z d,.call {callee:=.value (.func F0),args:=#[x,y,l],argTypes:=ts },ty,pos,aft,gd⟩ f w K:=by
 have sI:=cA hi hx;have hpy:=cA hi hy;have hpz:=cA hi hz;simp only[lP]at C
 split at C
 ·rename_i d0 p S4 hya;cases S4;rw[hya]at hpy;obtain⟨hyv,_⟩:=iH hpy
  split at C
  ·rename_i b' es dp s1 uz;obtain⟨pq,G2,F,i1,r2,e1,hk2,uA,S9⟩:=Rl hi hpz uz
   split at C
   ·rename_i r Kq;rw[Kq]at sI;simp only[CR]at sI
    split at C
    ·rename_i row hl
     split at C
     ·rename_i Yu;obtain⟨h3,uy,rI,yL,hp0,hbl,hrm⟩:=Yu;simp only[ae]at C;subst C;obtain⟨Y,A,n,c',i2,b2,AZ,X,o2,l2,q1,q2,q3,q4,q5,q6,q7,q8⟩:=i1.uX hl;rw[e1.sl]at q1;have qS:(fr f N).eval x=.slice A n c':=sI.1.trans q1;have hrX:r∈eP s (Z d) (.yv ins a b c):=by simp[eP,Kq,rowsOf]
      obtain⟨L,rfl⟩:∃L:Nat,p=L:=⟨p.toNat,by omega⟩
      have hpb:(L:Int)<=b':=by
       cases ins with
       |true=>rw[if_pos rfl]at S9;omega
       |false=>rw[if_neg (by simp)]at S9;omega
      obtain⟨H,rfl⟩:∃H:Nat,b'=H:=⟨b'.toNat,by omega⟩
      simp only[bW]at h ⊢;have aiW:L<=H:=by omega
      have hb0:H<=n:=by omega
      have UX:F.length=es.length * 3:=fw.length es r2 hk2;have hle:((row.es.take L++es)++row.es.drop H).length=n - (H - L)+es.length:=by
       simp only[bh,aY,dH];rw[cE (by omega)];omega
      have CU:∀e∈(row.es.take L++es)++row.es.drop H,e.length=row.k:=λe C=>by
       rcases ba.1 C with C|C
       ·rcases ba.1 C with C|C
        ·exact q6 e (cr C)
        ·rw[h3];exact hk2 e C
       ·exact q6 e (fc C)
      obtain⟨S,G,a6,hold,Fa,amL,hAB⟩:∃S G,fw w row.es S G/\((A=O/\c'=0)\/∃g T vs,A=Z ⟨g,0,O⟩/\kJ w g T vs/\vs.length=c' * 3/\vs.take (n * 3)=S)/\
        (∀m∈G,m.2<=Y.h m.1\/(zG Y w m.1/\A≠Z ⟨m.1,0,O⟩))/\(row.deep=I->(G.map cz).Nodup/\∀m∈G,zG Y w m.1/\pq.ω m.1=.row r/\A≠Z ⟨m.1,0,O⟩)/\
        (∀g,A=Z ⟨g,0,O⟩->g < w.heap.size/\pq.ω g=.row r/\Y.ω g=.dM/\pq.h g=0/\oZ w g):=by
       rcases q8 with ⟨rfl,rfl⟩|⟨g,o,S,G,rfl,a2,a3,a4,a5,a6,a7,a8,a9,vh,Wg,a12⟩
       ·have hre:row.es=[]:=cy (by omega);exact⟨[],[],by rw[hre];simp[fw],.inl ⟨rfl,rfl⟩,λ_ h=>by simp at h,λ_=>⟨by simp,λ_ h=>by simp at h⟩,λg e=>by cases e⟩
       ·obtain⟨rfl,T,vs,hB,wz⟩:=vh rI;have Dr:S.length=n * 3:=by rw[fw.length _ a6 q6,q2,h3]
        refine⟨S,G,a6,.inr ⟨g,T,vs,rfl,hB,by rw[wz,h3],by rw[<- Dr];exact JD hB a7⟩,λm t=>?_,λhd=>?_,λg' e=>?_⟩
        ·rcases Wg m t with B|B
         ·exact .inl (by rw[X];exact B)
         ·exact .inr ⟨B.1,λe=>by simp only[ae,Addr.mk.injEq]at e;exact B.2 e.1.symm⟩
        ·obtain⟨d1,d2⟩:=a12 hd;rw[cC]at d1;exact⟨d1.2,λm t=>⟨(d2 m t).1,(d2 m t).2,λe=>by simp only[ae,Addr.mk.injEq]at e;exact d1.1 (e.1▸cJ t)⟩⟩
        ·simp only[ae,Addr.mk.injEq]at e;obtain⟨rfl,_⟩:=e;exact⟨a2,a3,a4,a9 yL,a5⟩
      have Dr:S.length=n * 3:=by rw[fw.length _ a6 q6,q2,h3]
      have IW:∀g,A=Z ⟨g,0,O⟩->γ.ω g=.row r:=λg hg=>by
       have a3:=(hAB g hg).2.1;rcases e1.own g with h|h|h
       ·rw[<- h];exact a3
       ·rw[a3]at h;cases h
       ·rw[a3]at h;cases h
      have qQ:=hj w A n c' L H es.length ((fr f N).eval l) S F q3 q4 aiW hb0 (by rw[q2];exact hrm) Dr UX (λv hv=>by
        rcases ba.1 hv with hv|hv
        ·exact a6.rY v hv
        ·exact r2.rY v hv) hold (by
        cases ins with
        |true=>
         rw[if_pos rfl]at S9 ⊢;obtain⟨z1,z2,q,cc,T,us,z3,z4,z5,z6,z7,z8⟩:=S9;exact⟨by omega,z2,q,cc,T,us,z3,z4,z5,z6,z7,λg hg e=>z8 r row hl (by rw[e];exact IW g hg)⟩
        |false=>
         rw[if_neg (by simp)]at S9 ⊢;obtain⟨z1,z2,z3⟩:=S9;exact⟨by omega,by rw[z2,aJ],z3⟩)
      have QS:∀g,zG pq w g->zG Y w g:=λg hg=>⟨by rw[o2 _ (by rw[hg.1];simp)];exact hg.1,by rw[X];exact hg.2.1,hg.2.2⟩
      have a6':=a6;rw[<- bI H row.es]at a6';obtain⟨v1,v2,F1,V,HB,hG,k1,k2⟩:=fw.fX _ a6';rw[<- bI L (row.es.take H)]at k1;obtain⟨W,u2,U,G3,hv1,hF1,m1,m2⟩:=fw.fX _ k1;rw[mA,cE aiW]at m1;have lv1:v1.length=H * 3:=by
       rw[fw.length _ k1 (λe C=>q6 e (by rw[bI]at C;exact cr C)),bI,aY,cE (by omega),h3]
      have lu1:W.length=L * 3:=by
       rw[fw.length _ m1 (λe C=>q6 e (cr C)),aY,cE (by omega),h3]
      have amC:S.take (L * 3)++F++S.drop (H * 3)=(W++F)++v2:=by
       rw[HB,<- lv1,zr,hv1,bB W,<- lu1,oR]
      have hrE:fw w ((row.es.take L++es)++row.es.drop H) ((W++F)++v2) ((U++G2)++V):=fw.append _ (fw.append _ m1 r2) k2;have S8:∀m,m∈U\/m∈V->m∈G:=λm t=>by
       rw[hG,hF1];rcases t with t|t<;>simp[t]
      have yu:∀m∈(U++G2)++V,m.2<=Y.h m.1\/(zG Y w m.1/\A≠Z ⟨m.1,0,O⟩):=by
       intro m t;have lI:(m∈U\/m∈V)\/m∈G2:=by
        simp only[ba]at t;rcases t with (t|t)|t
        ·exact .inl (.inl t)
        ·exact .inr t
        ·exact .inl (.inr t)
       rcases lI with t|t
       ·exact Fa m (S8 m t)
       ·rcases e1.some_ m t with B|B
        ·exact .inl (by rw[X];exact B)
        ·refine .inr ⟨QS _ B,λe=>?_⟩;have:=(hAB _ e).2.1;rw[B.1]at this;cases this
      have zV:(row.deep && dp)=I->(((U++G2)++V).map cz).Nodup/\∀m∈(U++G2)++V,zG Y w m.1/\A≠Z ⟨m.1,0,O⟩:=by
       intro hd;rw[ai]at hd;obtain⟨n1,l1⟩:=e1.deep hd.2;obtain⟨n2,HS⟩:=amL hd.1;have sF:∀m,(m∈U\/m∈V)->∀Q∈G2,m.1≠Q.1:=λm t Q lI e=>by
        have W:=(HS m (S8 m t)).2.1;have u2:=(l1 Q lI).1.1;rw[e,u2]at W;cases W
       have kj:∀m∈(U++G2)++V,zG Y w m.1/\A≠Z ⟨m.1,0,O⟩:=λm t=>by
        rcases yu m t with B|B
        ·simp only[ba]at t;rcases t with (t|t)|t
         ·have:=HS m (S8 m (.inl t));exact⟨this.1,this.2.2⟩
         ·refine⟨QS _ (l1 m t).1,λe=>?_⟩;have:=(hAB _ e).2.1;rw[(l1 m t).1.1]at this;cases this
         ·have:=HS m (S8 m (.inr t));exact⟨this.1,this.2.2⟩
        ·exact B
       refine⟨?_,kj⟩;rw[hG,hF1,bN,bN,bM,bM]at n2;obtain⟨⟨n3,_,_⟩,n4,n5⟩:=n2;rw[bN,bN,bM,bM];refine⟨⟨n3,n1,λy hy y' My e=>?_⟩,n4,λy hy y' My e=>?_⟩
       ·obtain⟨m,t,rfl⟩:=cj.1 hy;obtain⟨Q,lI,rfl⟩:=cj.1 My;exact sF m (.inl t) Q lI e
       ·rcases ba.1 hy with hy|hy
        ·exact n5 y (by simp[hy]) y' My e
        ·obtain⟨m,t,rfl⟩:=cj.1 hy;obtain⟨Q,lI,rfl⟩:=cj.1 My;exact sF Q (.inr lI) m t e.symm
      refine yW (zo (kF BL Wq tj) rfl (by simp[qS,hyv])) qQ λe w' hp=>?_;obtain⟨g',cap,T',us,rfl,y1,y2,y3,y4,y5,y6⟩:=hp;refine⟨_,rfl,?_⟩;rw[amC]at y5;have ic:iA w' g' 0 ((W++F)++v2):=qz y3 y5;rcases y6 with ⟨rfl,lF⟩|⟨rfl,nz,Yq⟩
      ·obtain⟨z1,z2,z3,z4,z5⟩:=hAB g' rfl;have CV:γ.h g'=0:=by have:=e1.h g';omega
       have Ap:=IW g' rfl;have i3:=i2.Sa (mR i2 lF (M:=λo=>o=.dM) z3 (λj hj=>by rw[X,z4]at hj;omega)) (by simp) (λb t=>by cases t) (λr hr=>by cases hr);have nR:vG γ (λo=>∃i∈eP s (Z d) (.yv ins a b c),o=.box i\/o=.row i) w w':=mR hi lF ⟨r,hrX,.inr Ap⟩ (λj hj=>by rw[CV]at hj;omega);have aeQ:fw w' ((row.es.take L++es)++row.es.drop H) ((W++F)++v2) ((U++G2)++V):=by
        refine hrE.dF _ λm t j hj=>?_;by_cases h8:m.1=g'
        ·rcases yu m t with B|B
         ·rw[h8,X,z4]at B;omega
         ·exact absurd (by rw[h8]) B.2
        ·exact World.cell?_of_block (w:=w) (lF.block _ h8)
       obtain⟨R,j1,j2,j3,j4,_⟩:=i3.qI (r:=r) (x:={row with es:=(row.es.take L++es)++row.es.drop H,deep:=row.deep && dp }) (n:=n - (H - L)+es.length) (c:=cap) (g:=g') (o:=0) hle.symm y1 y2 q5 CU (λhf=>by rw[uy]at hf;cases hf) (by rw[lF.size];exact z1) (.inl z3) (i2.own g' (by rw[z3];simp)).2 ⟨by rw[lF.size];exact z1,lF.fz⟩ aeQ ic (by rw[X,z4];omega) (λhf=>by rw[X];exact z4) (λ_=>⟨rfl,T',us,y3,by rw[y4,h3]⟩)
        (λm t=>by
         rcases yu m t with B|B
         ·exact .inl B
         ·exact .inr ⟨⟨B.1.1,B.1.2.1,nR.fR _ B.1.2.2⟩,λe=>B.2 (by rw[e])⟩)
        (λhd=>by
         obtain⟨d1,d2⟩:=zV hd;refine⟨cC.2 ⟨λhm=>?_,d1⟩,λm t=>by have:=(d2 m t).1;exact⟨this.1,this.2.1,nR.fR _ this.2.2⟩⟩;obtain⟨m,t,e⟩:=cj.1 hm;exact (d2 m t).2 (by rw[e]))
       rw[jC]at j1;exact h R _ _ (j1.put d (.ref r) _ (by simp only[CR,j2];exact⟨trivial,_,_,_,rfl⟩)) ⟨nR,λx _=>by rw[j3,b2,e1.β],λg=>by have:=j4 g;rw[X]at this;exact aG (e1.h g) this,.put⟩
      ·have i3:=i2.Bi Yq;have dR:∀m∈(U++G2)++V,m.1 < w.heap.size:=fw.lt _ hrE;have Dh:=(kC hi Yq (λ_=>False)).fR;obtain⟨R,j1,j2,j3,j4,_⟩:=i3.qI (r:=r) (x:={row with es:=(row.es.take L++es)++row.es.drop H,deep:=row.deep && dp }) (n:=n - (H - L)+es.length) (c:=cap) (g:=w.heap.size) (o:=0) hle.symm y1 y2 q5 CU (λhf=>by rw[uy]at hf;cases hf) (by omega) (.inr (i2.tf (aD _))) (.inl hi.size) ⟨by omega,Yq.H0 _ (aD _)⟩ (hrE.Bi Yq) ic (by rw[i2.fQ _ (aD _)];omega) (λ_=>i2.fQ _ (aD _)) (λ_=>⟨rfl,T',us,y3,by rw[y4,h3]⟩)
        (λm t=>by
         rcases yu m t with B|B
         ·exact .inl B
         ·exact .inr ⟨⟨B.1.1,B.1.2.1,Dh _ B.1.2.2⟩,by have:=dR m t;omega⟩)
        (λhd=>by
         obtain⟨d1,d2⟩:=zV hd;refine⟨cC.2 ⟨λhm=>?_,d1⟩,λm t=>by have:=(d2 m t).1;exact⟨this.1,this.2.1,Dh _ this.2.2⟩⟩;obtain⟨m,t,e⟩:=cj.1 hm;have:=dR m t;omega)
       rw[jC]at j1;exact h R _ w' (j1.put d (.ref r) _ (by simp only[CR,j2];exact⟨trivial,_,_,_,rfl⟩)) ⟨kC hi Yq _,λx _=>by rw[j3,b2,e1.β],λg=>by have:=j4 g;rw[X]at this;exact aG (e1.h g) this,.put⟩
     ·cases C
    ·cases C
   ·cases C
  ·cases C
 ·cases C
end
end
section
open Go.RowKit
def noD(a:M Nat)(l:Array Bool):Prop:=∀m∈a,l.getD m J=J
def Cons(a:M (M Nat×(World->Prop)))(l:Array Bool)(w:World):Prop:=∀p∈a,noD p.1 l->p.2 w
theorem Yi{l:Array Bool}{i m:Nat}(h:(l.setIfInBounds i I).getD m J=J):l.getD m J=J:=by
 cases a:l.getD m J with
 |false=>rfl
 |true=>rw[getD_set_true a]at h;cases h
theorem ace{a:M Nat}{l:Array Bool}{i:Nat}(h:noD a (l.setIfInBounds i I)):noD a l:=λm b=>Yi (h m b)
theorem AK{a:M Nat}{l:Array Bool}{i:Nat}(h:noD a l)(c:i∉a):noD a (l.setIfInBounds i I):=λm b=>by
 rw[getD_set_ne J (by intro e;subst e;exact c b)];exact h m b
theorem Cons.set{a:M (M Nat×(World->Prop))}{l:Array Bool}{w:World}(h:Cons a l w)(i:Nat):Cons a (l.setIfInBounds i I) w:=λp b c=>h p b (ace c)
theorem Cons.alQ{a:M (M Nat×(World->Prop))}{l:Array Bool}{w:World}{i:Nat}(h:Cons a (l.setIfInBounds i I) w)(d:∀p∈a,i∉p.1):Cons a l w:=λp b c=>h p b (AK c (d p b))
section
variable {P:Program} {ops:Array Oper} {Q:Exit->Act->World->Prop} {md:Region.Mode}
def tc(P:Program)(md:Region.Mode)(ops:Array Oper)(Q:Exit->Act->World->Prop)(c:M (M Nat×(World->Prop))):Nat->Array Bool->Act->World->Prop
 |0,listed,a,w=>Region.ready md ops listed=[]/\Q .normal a w
 |fuel+1,listed,a,w=>
  (Region.ready md ops listed=[]->Q .normal a w)/\
  ∀i∈Region.ready md ops listed,wpOp P ops Q i (λd b=>Cons c (listed.setIfInBounds i I) b/\tc P md ops Q c fuel (listed.setIfInBounds i I) d b) a w
theorem Hp{f:M (M Nat×(World->Prop))}:∀(fuel:Nat) (listed:Array Bool) (a:Act) (w:World),tc P md ops Q f fuel listed a w->wpAny P md ops Q fuel listed a w
 |0,_,_,_,h=>h
 |fuel+1,_,_,_,h=>⟨h.1,λi c=>wpOp_mono (λe b d=>Hp fuel _ e b d.2) (h.2 i c)⟩
def okD(md:Region.Mode)(ops:Array Oper)(i:Nat)(a:M Nat):Bool:=a.all λj=>match ops[j]? with
 |some o=>o.after.any λe=>Region.binds md e && (e.on ==i ||a.contains e.on)
 |none=>J
theorem Zx{i:Nat}{d:M Nat}(h:okD md ops i d=I){listed:Array Bool}(p:listed.getD i J=J)(l:noD d listed){j:Nat}(n:j∈Region.ready md ops listed):j∉d:=by
 intro m;have f:=bw.1 h j m;obtain⟨_,o,k,g⟩:=mem_ready.1 n;rw[k]at f;obtain⟨e,q,b⟩:=Array.any_eq_true'.1 f;simp only[ai,da,beq_iff_eq,List.contains_iff_mem]at b;have a:=g e q b.1;rcases b.2 with c|c
 ·rw[c,p]at a;cases a
 ·rw[l _ c]at a;cases a
theorem alN{x:M (M Nat×(World->Prop))}{i:Nat}{q:Oper}{v:Value}{V:World->Prop}{X G:M Nat}(hi:ops[i]?=Z q)(R:∀(j:Nat) (o:Oper) K b,ops[j]?=Z o->o.op≠.select K b)
  (hQ:∀c a w,Q (.panic c) (a.put q.dst v) w->Q (.panic c) a w) (hD:okD md ops i X=I) (NK:∀m∈G,m∈X) (hid:i∉G) (hCi:∀p∈x,i∉p.1) :
  ∀(f:Nat) (d:Array Bool) (a:Act) (w:World),
   (∀j n,ops[j]?=Z n->j≠i->d.getD j I=J->(∀e∈n.after,Region.binds md e=I->e.on≠i)->q.apart ops n=I)->
   i∈Region.ready md ops d->noD X d->YieldsIf P ops V q v a->V w->Cons x d w->
   tc P md ops Q ((G,V)::x) f (d.setIfInBounds i I) (a.put q.dst v) w->tc P md ops Q x (f+1) d a w:=by
 intro f;have l:∀(f:Nat) (d:Array Bool) (a:Act) (w:World),tc P md ops Q ((G,V)::x) f d a w->tc P md ops Q x f d a w:=by
  intro f
  induction f with
  |zero=>intro d a w h;exact h
  |succ f Y=>intro d a w h;exact⟨h.1,λj t=>wpOp_mono (λa' A y=>⟨λp hp=>y.1 p (by simp[hp]),Y _ a' A y.2⟩) (h.2 j t)⟩
 induction f with
 |zero=>
  intro d a w _ r U T hV hC H;refine⟨λh=>(by rw[h]at r;cases r),λj t=>?_⟩;by_cases g:j=i
  ·subst g;exact T.wpOp hi hV ⟨hC.set j,l _ _ _ _ H⟩
  ·have:=ready_mono t g;rw[H.1]at this;cases this
 |succ f Y=>
  intro d a w NS r U T hV hC H;refine⟨λh=>(by rw[h]at r;cases r),λj t=>?_⟩;by_cases g:j=i
  ·subst g;exact T.wpOp hi hV ⟨hC.set j,l _ _ _ _ H⟩
  ·have W:=H.2 j (ready_mono t g);obtain⟨L,n,s,kj⟩:=mem_ready.1 t;have N:d.getD i J=J:=by
    have h0:=(mem_ready.1 r).1;rcases dD i d.size with y|y
    ·simp[y]at h0 ⊢;exact h0
    ·simp[xi y]at h0
   have D:=Zx hD N U t;have amS:∀e∈n.after,Region.binds md e=I->e.on≠i:=λe he hb heq=>by
    have W:=kj e he hb;rw[heq,N]at W;cases W
   have h2:=wpOp_putIf (S:=V) s (NS j n s g L amS) (λK b=>R i q K b hi) (λK b=>R j n K b s) hQ T W;have aeL:∀k ok,ops[k]?=Z ok->k≠i->(d.setIfInBounds j I).getD k I=J->
     (∀e∈ok.after,Region.binds md e=I->e.on≠i)->q.apart ops ok=I:=λk ok hk hki B ju=>by
    refine NS k ok hk hki ?_ ju;by_cases C:j=k
    ·subst C;exact L
    ·rw[getD_set_ne I C]at B;exact B
   refine wpOp_mono (λa' A h3=>?_) h2;obtain⟨h3,h4,h5⟩:=h3;have F:Cons x (d.setIfInBounds j I) A:=by
    rw[Array.setIfInBounds_comm _ _ (m_ g)]at h4;exact Cons.alQ (i:=i) (λp hp=>h4 p (by simp[hp])) hCi
   have hnj:noD X (d.setIfInBounds j I):=AK U D;have hV':V A:=h4 (G,V) (by simp) (AK (AK (λm hm=>U m (NK m hm)) hid) (λhm=>D (NK j hm)));refine⟨F,Y (d.setIfInBounds j I) a' A aeL (ready_mono r (m_ g)) hnj h3 hV' F ?_⟩;rw[Array.setIfInBounds_comm _ _ g];exact h5
end
section
variable {P:Program} {N:Nat} {Kn:Fm->World->Prop} {Ke:Nat->Fm->World->Prop} {Kr:Fm->World->Prop} {f:Fm} {w:World} {ops:Array Oper}
structure Ent where
 i:Nat
 q:Bool
 al:List Nat
 dn:List Nat
inductive ET where
 |nil
 |op (e:Ent) (t:ET)
 |alt (e:Ent) (t r:ET)
def ET.len:ET->Nat
 | .nil=>0
 | .op _ t=>t.len+1
 | .alt _ t _=>t.len+1
def ET.xP(p:Ent->Bool):ET->Bool
 | .nil=>I
 | .op e t=>p e && t.xP p
 | .alt e t r=>p e && t.xP p && r.xP p
def ET.NM:ET->M Nat
 | .nil=>[]
 | .op e _=>[e.i]
 | .alt e _ r=>e.i::r.NM
def JS(ops:Array Oper):Bool->ET->Array Bool->Bool
 |top,.nil,listed=>top && (Region.ready .any ops listed).isEmpty
 |top,.op e s,listed=>(if e.q then top && (Region.ready .any ops listed).contains e.i && Region.free .any ops listed e.i && okD .any ops e.i e.al && e.al.all (λm=>!listed.getD m J) && e.dn.all e.al.contains && !e.dn.contains e.i && s.xP (λa=>!a.q ||!e.dn.contains a.i) else !top ||Region.ready .any ops listed ==[e.i]) && JS ops I s (listed.setIfInBounds e.i I)
 |top,.alt e s r,listed=>(!top ||Region.ready .any ops listed ==e.i::r.NM) && !e.q && s.len+1 ==r.len && JS ops I s (listed.setIfInBounds e.i I) && JS ops J r listed
def Dv(P:Program)(N:Nat)(ops:Array Oper)(Kn:Fm->World->Prop):M (M Nat×(World->Prop))->ET->Array Bool->Fm->World->Prop
 |_,.nil,_,f,w=>Kn f w
 |b,.op e s,l,f,w=>if e.q then
   ∃o v a V,ops[e.i]?=Z o/\YieldsIf P ops V o v (fr f N)/\(fr f N).put o.dst v=fr a N/\V w/\Dv P N ops Kn ((e.dn,V)::b) s (l.setIfInBounds e.i I) a w
  else wpOp P ops (VT N Kn (λ_ _ _=>False) (λ_ _=>False)) e.i (λd c=>Cons b (l.setIfInBounds e.i I) c/\∃a,d=fr a N/\Dv P N ops Kn b s (l.setIfInBounds e.i I) a c) (fr f N) w
 |b,.alt e s r,l,f,w=>wpOp P ops (VT N Kn (λ_ _ _=>False) (λ_ _=>False)) e.i (λd c=>Cons b (l.setIfInBounds e.i I) c/\∃a,d=fr a N/\Dv P N ops Kn b s (l.setIfInBounds e.i I) a c) (fr f N) w/\Dv P N ops Kn b r l f w
theorem Aa(H:Region.noSelect ops=I):∀(s:ET) (d:M (M Nat×(World->Prop))) (listed:Array Bool) (f:Fm) (w:World) (k:Bool),JS ops k s listed=I->(∀p∈d,s.xP (λe=>!e.q ||!p.1.contains e.i)=I)->Cons d listed w->Dv P N ops Kn d s listed f w->
  (k=I->tc P .any ops (VT N Kn (λ_ _ _=>False) (λ_ _=>False)) d s.len listed (fr f N) w)/\
  (k=J->∀j∈s.NM,∃n,s.len=n+1/\wpOp P ops (VT N Kn (λ_ _ _=>False) (λ_ _=>False)) j (λF t=>Cons d (listed.setIfInBounds j I) t/\tc P .any ops (VT N Kn (λ_ _ _=>False) (λ_ _=>False)) d n (listed.setIfInBounds j I) F t) (fr f N) w)
 | .nil,d,listed,f,w,k,B,_,_,h=>by
  simp only[JS,ai]at B;refine⟨λ_=>?_,λC=>(by rw[C]at B;cases B.1)⟩;have U:Region.ready .any ops listed=[]:=by simpa using B.2
  exact⟨U,f,rfl,h⟩
 | .op e s,d,listed,f,w,k,B,K,S,h=>by
  simp only[JS,ai]at B;obtain⟨A,T⟩:=B;have l:∀p∈d,(!e.q ||!p.1.contains e.i)=I/\s.xP (λe=>!e.q ||!p.1.contains e.i)=I:=λp x=>by
   have:=K p x
   simpa only [ET.xP,ai] using this
  simp only[Dv]at h;cases heq:e.q with
  |true=>
   rw[heq]at h A;simp only[if_true,ai,cq]at h A;obtain⟨⟨⟨⟨⟨⟨⟨C,U⟩,k1⟩,k2⟩,k3⟩,k4⟩,k5⟩,k6⟩:=A;refine⟨λ_=>?_,λG=>(by rw[C]at G;cases G)⟩;obtain⟨o,v,Q,V,ho,hy,x,hV,hd⟩:=h;have NK:∀m∈e.dn,m∈e.al:=λm W=>by simpa using bw.1 k4 m W
   have amP:noD e.al listed:=λm W=>by simpa using bw.1 k3 m W
   refine alN ho (Region.noSelect_spec H) (λc a w K=>K.elim) k2 NK (by simpa using k5) (λp D=>by have:=(l p D).1;simpa [heq] using this) s.len listed (fr f N) w (Region.free_spec ho k1) (by simpa using U) amP hy hV S ?_;rw[x];refine (Aa H s _ _ Q w I T (λp D=>?_) (λp D hn=>?_) hd).1 rfl
   ·rcases aL.1 D with rfl|D
    ·exact k6
    ·exact (l p D).2
   ·rcases aL.1 D with rfl|D
    ·exact hV
    ·exact (S.set e.i) p D hn
  |false=>
   rw[heq]at h A;simp only[aF,if_false,da,cq,beq_iff_eq]at h A;have step:wpOp P ops (VT N Kn (λ_ _ _=>False) (λ_ _=>False)) e.i (λF t=>Cons d (listed.setIfInBounds e.i I) t/\tc P .any ops (VT N Kn (λ_ _ _=>False) (λ_ _=>False)) d s.len (listed.setIfInBounds e.i I) F t) (fr f N) w:=by
    refine wpOp_mono ?_ h
    rintro F t ⟨y,Q,rfl,hd⟩
    exact⟨y,(Aa H s d _ Q t I T (λp x=>(l p x).2) y hd).1 rfl⟩
   refine⟨λC=>⟨λL=>?_,λj g=>?_⟩,λ_ j g=>?_⟩
   ·rcases A with b|b
    ·rw[C]at b;cases b
    ·rw[b]at L;cases L
   ·rcases A with b|b
    ·rw[C]at b;cases b
    ·rw[b]at g;simp only[cT]at g;subst g;exact step
   ·simp only[ET.NM,cT]at g;subst g;exact⟨s.len,rfl,step⟩
 | .alt e s r,d,listed,f,w,k,B,K,S,h=>by
  simp only[JS,ai,da,cq,beq_iff_eq]at B;obtain⟨⟨⟨⟨A,T⟩,HO⟩,Y⟩,X⟩:=B;have l:∀p∈d,s.xP (λe=>!e.q ||!p.1.contains e.i)=I/\r.xP (λe=>!e.q ||!p.1.contains e.i)=I:=λp x=>by
   have:=K p x;simp only[ET.xP,ai]at this;exact⟨this.1.2,this.2⟩
  simp only[Dv]at h;have R:∀j∈e.i::r.NM,wpOp P ops (VT N Kn (λ_ _ _=>False) (λ_ _=>False)) j (λF t=>Cons d (listed.setIfInBounds j I) t/\tc P .any ops (VT N Kn (λ_ _ _=>False) (λ_ _=>False)) d s.len (listed.setIfInBounds j I) F t) (fr f N) w:=by
   intro j g;rcases aL.1 g with rfl|g
   ·refine wpOp_mono ?_ h.1
    rintro F t ⟨y,Q,rfl,hd⟩
    exact⟨y,(Aa H s d _ Q t I Y (λp x=>(l p x).1) y hd).1 rfl⟩
   ·obtain⟨n,hn,hw⟩:=(Aa H r d listed f w J X (λp x=>(l p x).2) S h.2).2 rfl j g;have:n=s.len:=by omega
    subst this;exact hw
  refine⟨λC=>⟨λL=>?_,λj g=>?_⟩,λ_ j g=>⟨s.len,rfl,R j g⟩⟩
  ·rcases A with b|b
   ·rw[C]at b;cases b
   ·rw[b]at L;cases L
  ·rcases A with b|b
   ·rw[C]at b;cases b
   ·rw[b]at g;exact R j g
theorem adm{id:Nat}{l:M Oper}(s:ET)(k:P.follows .mixedOrders=I)(i:Region.noSelect l.toArray=I)(j:s.len=l.toArray.size)
  (m:JS l.toArray I s (ru l.toArray.size J)=I) (h:Dv P N l.toArray Kn [] s (ru l.toArray.size J) f w.drew):W P N (.region id l.toArray I) Kn Ke Kr f w:=by
 have g:=(Aa i s [] _ f w.drew I m (λp d=>by simp at d) (λp d=>by simp at d) h).1 rfl;rw[j]at g;unfold W;refine wp_mono (wp_region_any k (Hp _ _ _ _ g)) ?_;intro e a w b;cases e with
 |normal=>exact b
 |exit id=>obtain⟨_,_,h⟩:=b;exact h.elim
 |ret=>obtain⟨_,_,h⟩:=b;exact h.elim
 |goto l=>exact b.elim
 |panic c=>exact b.elim
 |outgrown=>exact b.elim
variable {Cl:M (M Nat×(World->Prop))} {s:ET} {e:Ent} {lst:Array Bool} {o:Oper}
theorem alS(h:Kn f w):Dv P N ops Kn Cl .nil lst f w:=h
theorem apd(d:e.q=J)(g:ops[e.i]?=Z o)(j:rM N ops f o.guard)(h:vr P N o f w (λb a=>Cons Cl (lst.setIfInBounds e.i I) a/\Dv P N ops Kn Cl s (lst.setIfInBounds e.i I) b a)):Dv P N ops Kn Cl (.op e s) lst f w:=by
 simp only[Dv,d,aF,if_false,wpOp,g];rw[if_pos (show Region.wanted o _=I from j)];exact .inl (h.agV λb a c=>⟨c.1,b,rfl,c.2⟩)
theorem alR{t:ET}(d:ops[e.i]?=Z o)(g:rM N ops f o.guard)(h:vr P N o f w (λb a=>Cons Cl (lst.setIfInBounds e.i I) a/\Dv P N ops Kn Cl s (lst.setIfInBounds e.i I) b a))(j:Dv P N ops Kn Cl t lst f w):Dv P N ops Kn Cl (.alt e s t) lst f w:=by
 refine⟨?_,j⟩;simp only[wpOp,d];rw[if_pos (show Region.wanted o _=I from g)];exact .inl (h.agV λb a c=>⟨c.1,b,rfl,c.2⟩)
theorem v_q(b:e.q=I)(c:ops[e.i]?=Z o){d:Nat}(hd:o.dst=Z d)(g:rM N ops f o.guard){v:Value}(V:World->Prop)(a:∀w,V w->(execOp (fr f N).eval o).run P w=.ok (.value v) w)(j:V w)
  (h:Dv P N ops Kn ((e.dn,V)::Cl) s (lst.setIfInBounds e.i I) (Dj f d v) w):Dv P N ops Kn Cl (.op e s) lst f w:=by
 simp only[Dv,b,if_true];refine⟨_,v,_,V,c,.inl ⟨g,a⟩,?_,j,h⟩;rw[hd];exact uu f N d v
variable {d:Nat} {op:Op} {ty:TypeId} {pos:String} {aft:Array Edge} {gd:u (Nat×Bool)}
theorem agZ(a:e.q=I)(b:ops[e.i]?=Z ⟨Z d,op,ty,pos,aft,gd⟩)(c:jB N ops f gd)
  (h:Dv P N ops Kn ((e.dn,λ_=>True)::Cl) s (lst.setIfInBounds e.i I) (Dj f d undef) w):Dv P N ops Kn Cl (.op e s) lst f w:=by
 simp only[Dv,a,if_true];exact⟨_,undef,_,λ_=>True,b,.inr ⟨c,rfl⟩,uu f N d _,trivial,h⟩
theorem adk(a:e.q=J)(b:ops[e.i]?=Z ⟨Z d,op,ty,pos,aft,gd⟩)(c:jB N ops f gd)(g:Cons Cl (lst.setIfInBounds e.i I) w)
  (h:Dv P N ops Kn Cl s (lst.setIfInBounds e.i I) (Dj f d undef) w):Dv P N ops Kn Cl (.op e s) lst f w:=by
 simp only[Dv,a,aF,if_false,wpOp,b];rw[if_neg (c.to _ _ _ _ _)];exact⟨g,_,uu f N d _,h⟩
theorem agY{t:ET}(a:ops[e.i]?=Z ⟨Z d,op,ty,pos,aft,gd⟩)(b:jB N ops f gd)(c:Cons Cl (lst.setIfInBounds e.i I) w)
  (h:Dv P N ops Kn Cl s (lst.setIfInBounds e.i I) (Dj f d undef) w) (g:Dv P N ops Kn Cl t lst f w):Dv P N ops Kn Cl (.alt e s t) lst f w:=by
 refine⟨?_,g⟩;simp only[wpOp,a];rw[if_neg (b.to _ _ _ _ _)];exact⟨c,_,uu f N d _,h⟩
end
end
section
open Go.RowKit
section
variable (P:Program) (N:Nat) (num:Nat->FuncId)
def Sr(T:TypeId):u (TypeId×TypeInfo×Value):=
 match P.underlying T with
 |some (.slice b)=>match P.info? b with
  |some i=>match i.zero with
   |some a=>Z (b,i,a)
   |none=>O
  |none=>O
 |_=>O
def kV(F:FuncId):Bool:=
 match P.funcs[F]? with
 |some a=>a.body.isSome && !(a.name == "runtime.NumGoroutine")
 |none=>J
def Zy:Op->u Tmp->KO->Bool
 | .alloc T,Z _,.alloc j=>(match vq P T with
   |some d=>LM d j
   |none=>J)
 | .box _ x,Z _,.box y=>km N x y
 | .buildSlice T n l,Z _,.vn k _ ys=>(match P.underlying T with
   |some (.slice f)=>pg P f ==Z k && (n ==0 ||(vq P f).isSome) && GC N 0 l.toList ys && n ==l.size && n8 (n * k) 16777216
   |_=>J)
 | .makeSlice T a b,Z _,.make k h q j y=>km N a y && km N b y && (match Sr P T with
   |some (_,i,d)=>i.size ==k && i.bytes ==h && fV 0 k && GG d.cells.toList j && j.length ==k && (!q ||dV j)
   |none=>J)
 | .store T x v,O,.st n a b=>pg P T ==Z n && km N x a && km N v b
 | .call c,Z _,.app k h _ a b=>(match c.callee,c.args.toList,c.argTypes.toList with
   | .builtin .append,[x,y],[T,r]=>T ==r && km N x a && km N y b && (match Sr P T with
    |some (_,i,d)=>i.size ==k && i.bytes ==h && d.cells.size ==k && fV 0 k
    |none=>J)
   |_,_,_=>J)
 | .call c,_,.call g xs=>(match c.callee with
   | .value (.func F)=>F ==num g && kV P F && DA N c.args.toList xs
   |_=>J)
 | .call c,Z _,.mrk g y y2=>(match c.callee,c.args.toList with
   | .value (.func F),[x,m]=>F ==num g && kV P F && km N x y && km N m y2
   |_,_=>J)
 | .assign x,Z _,.TI y=>km N x y
 | .move x,Z _,.TI y=>km N x y
 | .call c,Z _,.jn a b=>(match c.callee,c.args.toList with
   | .value (.func F),[x,y]=>F ==num 9004 && !(num 9004 ==1000000) && kV P F && km N x a && km N y b
   |_,_=>J)
 | .call c,Z _,.yv ins a b d=>(match c.callee,c.args.toList with
   | .value (.func F),[x,y,e]=>F ==num (if ins=I then 9006 else 9005) && !(num (if ins=I then 9006 else 9005) ==1000000) && kV P F && km N x a && km N y b && km N e d
   |_,_=>J)
 | .call c,Z _,.Iy k a b=>(match c.callee,c.args.toList,c.argTypes.toList with
   | .builtin .copy,[x,y],[T,_]=>km N x a && km N y b && (match P.underlying T with
    |some (.slice f)=>pg P f ==Z k
    |_=>J)
   |_,_,_=>J)
 | .slice T x o p O,Z _,.cut k y b c=>(match P.underlying T with
   |some (.slice f)=>pg P f ==Z k && km N x y && GB N o b && GB N p c
   |_=>J)
 |_,_,_=>J
def OE(a:Array Oper):u (Nat×Bool)->u (Nat×Bool)->Bool
 |none,O=>I
 |some (j,want),Z (g,b)=>want ==b && (match a[j]? with
   |some o=>o.dst ==Z g && fV g N
   |none=>J)
 |_,_=>J
def okI(a:Array Oper)(o:Oper)(i:KI):Bool:=
 o.dst ==i.dst && (match i.dst with
  |some d=>fV d N && fV d 900
  |none=>I) && OE N a o.guard i.gd && (if i.op.kX then i.dst.isSome && uV P N o.op i.op else Zy P N num o.op i.dst i.op)
def Dz(a:Array Oper):M Oper->M KI->Bool
 |[],[]=>I
 |o::os,i::is=>okI P N num a o i && Dz a os is
 |_,_=>J
def KD.Bb(x:KD):Ent:=⟨x.j,x.q,x.al,x.dn⟩
def KT.Bb:KT->ET
 | .nil=>.nil
 | .op x t=>.op x.Bb t.Bb
 | .alt x t r=>.alt x.Bb t.Bb r.Bb
def Q3(a:Array Oper):KT->Bool
 | .nil=>I
 | .op ⟨j,q,_,_,i⟩ is=>(match a[j]? with
   |some o=>okI P N num a o i && (!q ||i.op.kX) && (i.gd.isNone ||i.dst.isSome)
   |none=>J) && Q3 a is
 | .alt ⟨j,q,_,_,i⟩ is r=>(match a[j]? with
   |some o=>okI P N num a o i && !q && (i.gd.isNone ||i.dst.isSome)
   |none=>J) && Q3 a is && Q3 a r
def pI:K->Code->Bool
 | .skip,.skip=>I
 | .Rf is _,.region _ ops J=>Dz P N num ops ops.toList is
 | .Wk is _,.region _ ops I=>Q3 P N num ops is && Region.noSelect ops && is.Bb.len ==ops.size && JS ops I is.Bb (ru ops.size J)
 | .seq a b,.seq c d=>pI a c && pI b d
 | .cond x a b,.cond y c d=>km N y x && pI a c && pI b d
 | .block i a,.block j c=>i ==j && pI a c
 | .loop a,.loop c=>pI a c
 | .exit i,.exit j=>i ==j
 | .ret,.ret=>I
 | .share _ a,c=>pI a c
 | .Mu _ a,c=>pI a c
 |_,_=>J
end
theorem Nj{P:Program}{T:TypeId}{b:TypeId}{i:TypeInfo}{a:Value}(h:Sr P T=Z (b,i,a)):P.underlying T=Z (.slice b)/\P.info? b=Z i/\i.zero=Z a:=by
 unfold Sr at h
 split at h
 ·rename_i j d
  split at h
  ·rename_i g e
   split at h
   ·rename_i f c;simp only[ae,aI]at h;obtain⟨rfl,rfl,rfl⟩:=h;exact⟨d,e,c⟩
   ·cases h
  ·cases h
 ·cases h
section
variable {P:Program} {γ:Gh} {h0:Nat->Nat} {io:M Nat} {w0:World} {s s':St} {f:Fm} {w:World} {N:Nat} {num:Nat->FuncId} {K':Fm->World->Prop}
 {cf:Nat->M A->u (M A×M A)} {mf:Nat->Bool->M D->Int->u (M D×Int)}
theorem wR(nc:Cts w0 io P num cf)(nT:∀g ag ds q iF q',mf g ag ds q=Z (iF,q')->sr w0 io P (num g) ag ds q iF q')(v:Inv γ h0 io w0 s f w){op:Op}{C:u Tmp}{X:KO}{ty:TypeId}{Y:String}{aft:Array Edge}{gd:u (Nat×Bool)}(m:Zy P N num op C X=I)(B:lP cf mf s C X=Z s')
  (h:∀Q f' W,Inv Q h0 io w0 s' f' W->Tr C (eP s C X) γ w Q W f f'->K' f' W):vr P N ⟨C,op,ty,Y,aft,gd⟩ f w K':=by
 unfold Zy at m
 split at m
 ·split at m
  ·rename_i e R;exact acb v R m B (by simpa only [eP,pM] using h)
  ·cases m
 ·exact ajV v m B (by simpa only [eP,pM] using h)
 ·split at m
  ·rename_i l G;simp only[ai,da,beq_iff_eq]at m;obtain⟨⟨⟨⟨n,p⟩,o⟩,S⟩,h5⟩:=m;exact acd v G n p o S h5 B (by simpa only [eP,pM,ye] using h)
  ·cases m
 ·simp only[ai]at m;obtain⟨⟨n,p⟩,o⟩:=m
  split at o
  ·rename_i l i e BJ;obtain⟨G,hI,R⟩:=Nj BJ;simp only[ai,beq_iff_eq,oh,da,cq]at o;obtain⟨⟨⟨⟨⟨k1,k2⟩,k3⟩,k4⟩,k5⟩,k6⟩:=o;exact afn v G hI R k1 k2 k3 k4 k5 (λhf=>by rcases k6 with h|h<;>simp_all) n p B (by simpa only [eP,pM] using h)
  ·cases o
 ·simp only[ai,beq_iff_eq]at m;obtain⟨⟨n,p⟩,o⟩:=m;exact ank v n p o B h
 ·rename_i c d k by_ fl a b
  split at m
  ·rename_i x y T T' r t V;simp only[ai,beq_iff_eq]at m;obtain⟨⟨⟨rfl,n⟩,p⟩,o⟩:=m;obtain⟨U,args,K⟩:=c;simp only at r t V
   subst r;have H:args=#[x,y]:=by rw[<- t]
   have et:K=#[T,T]:=by rw[<- V]
   subst H et
   split at o
   ·rename_i l i e BJ;obtain⟨G,hI,R⟩:=Nj BJ;simp only[ai,beq_iff_eq,oh]at o;obtain⟨⟨⟨k1,k2⟩,k3⟩,k4⟩:=o;exact ajU v G hI R k1 k2 k3 k4 n p B h
   ·cases o
  ·cases m
 ·rename_i c g xs
  split at m
  ·rename_i F r;simp only[ai,beq_iff_eq]at m;obtain⟨⟨rfl,n⟩,p⟩:=m;obtain⟨U,args,K⟩:=c;simp only at r
   subst r;unfold kV at n
   split at n
   ·rename_i fn L;simp only[ai,cq]at n;exact afm v L n.1 n.2 p (nc.1 g) B h
   ·cases n
  ·cases m
 ·rename_i c d g y y2
  split at m
  ·rename_i F x x2 r t;simp only[ai,beq_iff_eq]at m;obtain⟨⟨⟨rfl,n⟩,p⟩,o⟩:=m;obtain⟨U,args,K⟩:=c;simp only at r t
   subst r;have H:args=#[x,x2]:=by rw[<- t]
   subst H;unfold kV at n
   split at n
   ·rename_i fn L;simp only[ai,cq]at n;exact afo v L n.1 n.2 p o (nT g) B h
   ·cases n
  ·cases m
 ·exact adW v (.inl rfl) m B h
 ·exact adW v (.inr rfl) m B h
 ·rename_i c d a b
  split at m
  ·rename_i F x y r t;simp only[ai,beq_iff_eq,cq,beq_eq_false_iff_ne]at m;obtain⟨⟨⟨⟨rfl,hn⟩,n⟩,p⟩,o⟩:=m;obtain⟨U,args,K⟩:=c;simp only at r t
   subst r;have H:args=#[x,y]:=by rw[<- t]
   subst H;unfold kV at n
   split at n
   ·rename_i fn L;simp only[ai,cq]at n;exact anj v L n.1 n.2 (nc.2.1 hn) p o B h
   ·cases n
  ·cases m
 ·rename_i c d ins a b e
  split at m
  ·rename_i F x y j r t;simp only[ai,beq_iff_eq,cq,beq_eq_false_iff_ne]at m;obtain⟨⟨⟨⟨⟨rfl,hn⟩,n⟩,p⟩,o⟩,S⟩:=m;obtain⟨U,args,K⟩:=c;simp only at r t
   subst r;have H:args=#[x,y,j]:=by rw[<- t]
   subst H;unfold kV at n
   split at n
   ·rename_i fn L;simp only[ai,cq]at n;exact ajY v L n.1 n.2 (nc.2.2 ins hn) p o S B h
   ·cases n
  ·cases m
 ·rename_i c d k a b
  split at m
  ·rename_i x y T T' r t V;simp only[ai]at m;obtain⟨⟨n,p⟩,o⟩:=m;obtain⟨U,args,K⟩:=c;simp only at r t V
   subst r;have H:args=#[x,y]:=by rw[<- t]
   have et:K=#[T,T']:=by rw[<- V]
   subst H et
   split at o
   ·rename_i l G;simp only[beq_iff_eq]at o;exact ajW v G o n p B h
   ·cases o
  ·cases m
 ·split at m
  ·rename_i l G;simp only[ai,beq_iff_eq]at m;obtain⟨⟨⟨n,p⟩,o⟩,S⟩:=m;exact ajX v G n p o S B h
  ·cases m
 ·cases m
theorem rW{a:Array Oper}(p:Inv γ h0 io w0 s f w){j g:Nat}{want:Bool}(c:OE N a (Z (j,want)) (Z (g,want))=I):(∀b,s.get g=.d (.bool b)->b=want->rM N a f (Z (j,want)))/\(∀b,s.get g=.d (.bool b)->b≠want->jB N a f (Z (j,want)))/\(s.get g=.vz->jB N a f (Z (j,want))):=by
 simp only[OE,ai]at c;obtain⟨_,c⟩:=c
 split at c
 ·rename_i o n;simp only[ai,beq_iff_eq]at c;have i:(a[j]?).bind (·.dst)=Z g:=by rw[n];exact c.1
  have e:=p.get g;refine⟨λb k l=>?_,λb k l=>?_,λm=>?_⟩
  ·rw[k]at e;have h:=rQ e;subst l;exact wy h i c.2
  ·rw[k]at e;have h:=rQ e;have:b=!want:=by cases b<;>cases want<;>simp_all
   rw[this]at h;exact wx h i c.2
  ·rw[m]at e;simp only[CR]at e;exact wu e i c.2
 ·cases c
def zF(a:Nat->Nat)(h0:Nat->Nat)(io:M Nat)(w0:World)(s:St)(f:Fm)(w:World):Prop:=∃γ,Inv γ h0 io w0 s f w/\∀b,900<=b->γ.β b=a b
variable {β0:Nat->Nat}
theorem zF.dF(h:zF β0 h0 io w0 s f w)(b:lE):zF β0 h0 io w0 (s.dF b) f w:=by
 obtain⟨γ,e,g⟩:=h;exact⟨γ,e.sub (λd c a=>ma _ _ d c a) (λd c a=>ma _ _ d c a) (λd c a=>ma _ _ d c a),g⟩
theorem BB{d:u Nat}{o:KO}(a:Dp cf mf s d o=Z s'):(o.kX=I/\∃c,jf s o=Z c/\s'=s.put d c)\/(o.kX=J/\lP cf mf s d o=Z s'):=by
 unfold Dp at a
 split at a
 ·rename_i b;simp only[ak]at a;obtain⟨c,g,e⟩:=a;exact .inl ⟨b,c,g,e.symm⟩
 ·rename_i b;exact .inr ⟨by simpa using b,a⟩
theorem tP(p:Cts w0 io P num cf)(r:∀g ag Y q X W,mf g ag Y q=Z (X,W)->sr w0 io P (num g) ag Y q X W){a:Array Oper}{Kn:Fm->World->Prop}:∀(os:M Oper) (m:M KI) {s s':St} {f:Fm} {w:World},Dz P N num a os m=I->nO cf mf m s=Z s'->zF β0 h0 io w0 s f w->(∀S K,zF β0 h0 io w0 s' S K->Kn S K)->Ls P N a Kn os f w
 |[],[],s,s',f,w,_,k,l,n=>by
  simp only[nO,ae]at k;subst k;exact j9 (n f w l)
 |[],_::_,_,_,_,_,h,_,_,_=>by simp[Dz]at h
 |_::_,[],_,_,_,_,h,_,_,_=>by simp[Dz]at h
 |⟨dst,op,ty,pos,aft,gd⟩::os,⟨d,qy,N8⟩::m,s,s',f,w,h,k,⟨γ,l,G⟩,n=>by
  simp only[Dz,ai,okI,beq_iff_eq]at h;obtain⟨⟨⟨⟨rfl,hd⟩,B⟩,t⟩,C⟩:=h;simp only[nO]at k
  split at k
  ·rename_i V i;have go:rM N a f gd->Dp cf mf s dst qy=Z V->Ls P N a Kn (⟨dst,op,ty,pos,aft,gd⟩::os) f w:=by
    intro F i;refine gf F ?_;rcases BB i with ⟨Q,c,hc,rfl⟩|⟨Q,hn⟩
    ·simp only[Q,if_true,ai]at t;obtain⟨d,rfl⟩:=cD.1 t.1;obtain⟨v,k1,k2⟩:=oI (dst:=Z d) (ty:=ty) (pos:=pos) (aft:=aft) (gd:=gd) l t.2 hc;exact eo (k2 w (λ_=>rL.refl _ _ _)) (tP p r os m C k ⟨γ,l.put d c v k1,G⟩ n)
    ·simp only[Q,aF,if_false]at t;refine wR p r l t hn λH S K i' tr=>tP p r os m C k ⟨H,i',λb lI=>?_⟩ n;rw[tr.β b (λe=>by
      rw[e]at hd;simp at hd;omega)]
     exact G b lI
   have skip:jB N a f gd->V=s.put dst .vz->Ls P N a Kn (⟨dst,op,ty,pos,aft,gd⟩::os) f w:=by
    intro F e;subst e;cases dst with
    |none=>exact ab5 F (tP p r os m C k ⟨γ,l,G⟩ n)
    |some d=>exact Ch F (tP p r os m C k ⟨γ,l.put d .vz undef (by simp only[CR]),G⟩ n)
   simp only[vB]at i;cases N8 with
   |none=>
    cases gd with
    |none=>exact go wn i
    |some x=>simp[OE]at B
   |some x=>
    obtain⟨g,o⟩:=x;cases gd with
    |none=>simp[OE]at B
    |some y=>
     obtain⟨j,A9⟩:=y;have L:A9=o:=by simp[OE]at B;exact B.1
     subst L;obtain⟨g1,g2,g3⟩:=rW l B;simp only at i
     split at i
     ·rename_i b U
      split at i
      ·rename_i T;exact go (g1 b U T) i
      ·rename_i T;simp only[ae]at i;exact skip (g2 b U T) i.symm
     ·rename_i R;simp only[ae]at i;exact skip (g3 R) i.symm
     ·cases i
  ·cases k
theorem Inv.drew(a:Inv γ h0 io w0 s f w):Inv γ h0 io w0 s f w.drew:=
 a.Sa (M:=λ_=>False) ⟨rfl,rfl,rfl,aD _,λ_ _ _=>rfl,λ_ _ _=>rfl,λ_ h=>h⟩ (λh=>h) (λ_ h=>h.elim) (λ_ h=>h.elim)
def Sq(a:Gh)(e:u Nat)(c d:World):Prop:=(∀g j,j < a.h g->d.cell? ⟨g,j,O⟩=c.cell? ⟨g,j,O⟩)/\∀b,e=Z b->d.heap[a.β b]?=c.heap[a.β b]?
def St.only(s:St)(a:u Nat):St:=⟨s.sl,iP s.bx a.toList,[]⟩
theorem X2{d:KO}{c:C}{g:u Nat}(i:d.QO=I)(e:pU s d=Z g)(a:jf s d=Z c):jf (s.only g) d=Z c:=by
 cases d<;>simp[KO.QO]at i
 rotate_left
 ·simp[pU]at e
 rename_i n x;have k:fW (s.only g) x=fW s x:=by cases x<;>rfl
 simp only[pU]at e;simp only[jf,k]at a ⊢
 split at e
 ·rename_i b o j;cases e;rw[j]at a ⊢;simp only at a ⊢
  have:look (s.only (Z b)).bx b=look s.bx b:=by
   simp only[St.only,pM,iP];cases h:look s.bx b<;>simp[look]
  rw[this];exact a
 ·rename_i l j;rw[j]at a ⊢;exact a
 ·cases e
theorem Jc{a:u Nat}{b:Nat}{d:M C}(h:look (s.only a).bx b=Z d):a=Z b/\look s.bx b=Z d:=by
 cases a with
 |none=>simp[St.only,iP,look]at h
 |some g=>
  simp only[St.only,pM,iP]at h;cases c:look s.bx g with
  |none=>rw[c]at h;simp[look]at h
  |some i=>
   rw[c]at h;simp only[look]at h
   split at h
   ·rename_i e;subst e;exact⟨rfl,by rw[c];exact h⟩
   ·cases h
def Tk(j:M (M Nat×(World->Prop)))(i:M (M Nat×Nat))(lst:Array Bool)(γ:Gh)(s:St)(w:World):Prop:=
 ∀p∈j,(∃m∈p.1,lst.getD m J=I)\/∃a c d,(∀e,Sq a d c e->p.2 e)/\Sq a d c w/\(∀g,a.h g<=γ.h g)/\∀b,d=Z b->γ.β b=a.β b/\(look s.bx b).isSome=I/\(p.1,b)∈i
theorem Tk.cons{a:M (M Nat×(World->Prop))}{d:M (M Nat×Nat)}{lst:Array Bool}(h:Tk a d lst γ s w):Cons a lst w:=by
 intro p g i;rcases h p g with ⟨m,j,e⟩|⟨b,c,n,l,k,_⟩
 ·rw[i m j]at e;cases e
 ·exact l w k
theorem Tk.quiet{x:M (M Nat×(World->Prop))}{t:M (M Nat×Nat)}{lst:Array Bool}(h:Tk x t lst γ s w)(i:Nat)(v:M Nat)(g:u Nat)(d:u Nat)(c:C)(V:World->Prop)(F:∀r,Sq γ g w r->V r)(B:∀b,g=Z b->(look s.bx b).isSome=I) :
  Tk ((v,V)::x) (po v t g) (lst.setIfInBounds i I) γ (s.put d c) w:=by
 have q:(s.put d c).bx=s.bx:=by cases d<;>rfl
 intro p n;rw[q];rcases aL.1 n with rfl|n
 ·refine .inr ⟨γ,w,g,F,⟨λ_ _ _=>rfl,λ_ _=>rfl⟩,λ_=>aD _,λb a=>⟨rfl,B b a,?_⟩⟩;subst a;simp[po]
 ·rcases h p n with ⟨m,y,e⟩|⟨j,k,l,K,H,G,o⟩
  ·exact .inl ⟨m,y,getD_set_true e⟩
  ·refine .inr ⟨j,k,l,K,H,G,λb a=>⟨(o b a).1,(o b a).2.1,?_⟩⟩;have:=(o b a).2.2;cases g<;>simp[po,this]
theorem Tk.Ow{K:M (M Nat×(World->Prop))}{n:M (M Nat×Nat)}{lst:Array Bool}(h:Tk K n lst γ s w){j:Nat}(W:j < lst.size)(Y:Inv γ h0 io w0 s f w){c:Gh}{x:World}{f':Fm}{y:St}{k:u Nat}{X:M Nat}(l:Tr k X γ w c x f f')
  (v:∀p∈jQ j n,(p.2∉X/\(look y.bx p.2).isSome=I)/\¬k=Z p.2):Tk K (jQ j n) (lst.setIfInBounds j I) c y x:=by
 intro p U;rcases h p U with ⟨m,V,e⟩|⟨r,t,B,h1,G,F,q⟩
 ·exact .inl ⟨m,V,getD_set_true e⟩
 ·by_cases d:j∈p.1
  ·refine .inl ⟨j,d,?_⟩;simp[Array.getD,W]
  ·have o:∀b,B=Z b->(p.1,b)∈jQ j n:=λb a=>by
    simp only[jQ,nE];exact⟨(q b a).2.2,by simpa using d⟩
   refine .inr ⟨r,t,B,h1,⟨λg C H=>(l.Sa.cell g C (bR H (F g))).trans (G.1 g C H),λb a=>?_⟩,λg=>aG (F g) (l.h g),λb a=>⟨?_,(v _ (o b a)).1.2,o b a⟩⟩
   ·obtain⟨cs,L⟩:=cD.1 (q b a).2.1;obtain⟨T,vs,S,k2,R⟩:=Y.bx b cs L;rw[<- G.2 b a,<- (q b a).1];refine l.Sa.block _ S.lt ?_;rw[R]
    rintro⟨i,Q,e|e⟩
    ·cases e;exact (v _ (o b a)).1.1 Q
    ·cases e
   ·rw[l.β b (v _ (o b a)).2];exact (q b a).1
theorem qL(nc:Cts w0 io P num cf)(nT:∀g ag ds q iF q',mf g ag ds q=Z (iF,q')->sr w0 io P (num g) ag ds q iF q'){ops:Array Oper}{Kn:Fm->World->Prop} :
  ∀(t:KT) {kp:lE} {Cl:M (M Nat×(World->Prop))} {lst:Array Bool} {tk:M (M Nat×Nat)} {γ:Gh} {s s':St} {f:Fm} {w:World},Q3 P N num ops t=I->fP cf mf kp t tk s=Z s'->lst.size=ops.size->Tk Cl tk lst γ s w->Inv γ h0 io w0 s f w->(∀b,900<=b->γ.β b=β0 b)->
   (∀S U B,s'=S.dF kp->zF β0 h0 io w0 S U B->Kn U B)->Dv P N ops Kn Cl t.Bb lst f w
 | .nil,kp,Cl,lst,tk,γ,s,s',f,w,_,i,_,_,m,K,hk=>by
  simp only[fP,ae]at i;exact alS (hk s f w i.symm ⟨γ,m,K⟩)
 | .op ⟨j,qt,al,L,⟨d,l,R⟩⟩ t,kp,Cl,lst,tk,γ,s,s',f,w,h,i,nz,ht,m,K,hk=>by
  simp only[Q3,ai]at h;obtain⟨h,pT⟩:=h;have U5:(lst.setIfInBounds j I).size=ops.size:=by simpa using nz
  split at h
  ·rename_i o ho;have UU:j < lst.size:=by rw[nz];exact (tg.1 ho).1
   obtain⟨dst,op,ty,pos,aft,gd⟩:=o;simp only[ai,okI,beq_iff_eq,da,cq,tt]at h;obtain⟨⟨⟨⟨⟨hdd,hd⟩,F⟩,H⟩,hqp⟩,hgd⟩:=h;subst hdd;cases qt with
   |true=>
    have hpu:l.kX=I:=by simpa using hqp
    simp only[hpu,if_true,ai]at H;obtain⟨d,rfl⟩:=cD.1 H.1;simp only[fP,if_true]at i;have go:∀c qb,jf s l=Z c->pU s l=Z qb->fP cf mf kp t (po L tk qb) (s.put (Z d) c)=Z s'->rM N ops f gd->Dv P N ops Kn Cl (.op (KD.Bb ⟨j,I,al,L,⟨Z d,l,R⟩⟩) t.Bb) lst f w:=by
     intro c qb Q V i T;cases hld:l.QO with
     |true=>
      have hio:Inv γ h0 io w0 (s.only qb) f w:=m.sub (λ_ _ h=>h) (λd c hl=>(Jc hl).2) (λd c hl=>by simp[St.only,look]at hl);obtain⟨v,k1,k2⟩:=oI (dst:=Z d) (ty:=ty) (pos:=pos) (aft:=aft) (gd:=gd) hio H.2 (X2 hld V Q);have aiO:∀b,qb=Z b->(look s.bx b).isSome=I:=λb K=>by
       subst K;cases l<;>simp[KO.QO]at hld
       rotate_left
       ·simp[pU]at V
       rename_i n x;simp only[pU]at V
       split at V
       ·rename_i b' o hx;cases V;simp only[jf,hx]at Q;cases hl:look s.bx b with
        |none=>rw[hl]at Q;cases Q
        |some cs=>rfl
       ·cases V
       ·cases V
      exact v_q rfl ho rfl T (Sq γ qb w) (λB hs=>k2 B (λ_=>⟨hs.1,λb cs hl=>hs.2 b (Jc hl).1,λr x hl=>by simp[St.only,look]at hl⟩)) ⟨λ_ _ _=>rfl,λ_ _=>rfl⟩
       (qL nc nT t pT i U5 (ht.quiet j L qb (Z d) c _ (λ_ h=>h) aiO) (m.put d c v k1) K hk)
     |false=>
      have eqb:qb=O:=by
       cases l<;>simp[KO.QO]at hld<;>simpa [pU] using V.symm
      subst eqb;obtain⟨v,k1,k2⟩:=oI (dst:=Z d) (ty:=ty) (pos:=pos) (aft:=aft) (gd:=gd) m H.2 Q;exact v_q rfl ho rfl T (λ_=>True) (λB _=>k2 B (λh=>by rw[hld]at h;cases h)) trivial
       (qL nc nT t pT i U5 (ht.quiet j L O (Z d) c _ (λ_ _=>trivial) (λb K=>by cases K)) (m.put d c v k1) K hk)
    have skip:fP cf mf kp t tk (s.put (Z d) .vz)=Z s'->jB N ops f gd->Dv P N ops Kn Cl (.op (KD.Bb ⟨j,I,al,L,⟨Z d,l,R⟩⟩) t.Bb) lst f w:=by
     intro i T;exact agZ rfl ho T (qL nc nT t pT i U5 (ht.quiet j L O (Z d) .vz _ (λ_ _=>trivial) (λb K=>by cases K)) (m.put d .vz undef (by simp only[CR])) K hk)
    cases R with
    |none=>
     cases gd with
     |some x=>simp[OE]at F
     |none=>
      simp only at i
      split at i
      ·rename_i c b Q V;exact go c b Q V i wn
      ·cases i
    |some x=>
     obtain⟨g,C⟩:=x;cases gd with
     |none=>simp[OE]at F
     |some y=>
      obtain⟨j',A9⟩:=y;have W:A9=C:=by simp[OE]at F;exact F.1
      subst W;obtain⟨g1,g2,g3⟩:=rW m F;simp only at i
      split at i
      ·rename_i b zx
       split at i
       ·rename_i HN
        split at i
        ·rename_i c b' Q V;exact go c b' Q V i (g1 b zx HN)
        ·cases i
       ·rename_i HN;exact skip i (g2 b zx HN)
      ·rename_i hgu;exact skip i (g3 hgu)
      ·cases i
   |false=>
    simp only[fP,mi,aF,if_false]at i
    split at i
    ·rename_i S k
     split at i
     ·rename_i kj;have QJ:∀p∈jQ j tk,(p.2∉eP s dst l/\(look S.bx p.2).isSome=I)/\¬dst=Z p.2:=λp Y=>by
       have:=bw.1 kj p Y
       simpa using this
      have next:∀G U B,Inv G h0 io w0 S U B->Tr dst (eP s dst l) γ w G B f U->Cons Cl (lst.setIfInBounds j I) B/\Dv P N ops Kn Cl t.Bb (lst.setIfInBounds j I) U B:=by
       intro G U B i' tr;have X:=ht.Ow UU m tr QJ;refine⟨X.cons,qL nc nT t pT i U5 X i' (λb lI=>?_) hk⟩;rw[tr.β b (λe=>by
         rw[e]at hd;simp at hd;omega)]
       exact K b lI
      have go:rM N ops f gd->Dp cf mf s dst l=Z S->Dv P N ops Kn Cl (.op (KD.Bb ⟨j,J,al,L,⟨dst,l,R⟩⟩) t.Bb) lst f w:=by
       intro T k;refine apd rfl ho T ?_;rcases BB k with ⟨Y,c,Q,rfl⟩|⟨Y,hn⟩
       ·simp only[Y,if_true,ai]at H;obtain⟨d,rfl⟩:=cD.1 H.1;obtain⟨v,k1,k2⟩:=oI (dst:=Z d) (ty:=ty) (pos:=pos) (aft:=aft) (gd:=gd) m H.2 Q;exact eo (k2 w (λ_=>rL.refl _ _ _)) (next γ _ w (m.put d c v k1) ⟨vG.refl _ _ _,λ_ _=>rfl,λ_=>aD _,.put⟩)
       ·simp only[Y,aF,if_false]at H;exact wR nc nT m H hn next
      have skip:jB N ops f gd->dst.isSome=I->S=s.put dst .vz->Dv P N ops Kn Cl (.op (KD.Bb ⟨j,J,al,L,⟨dst,l,R⟩⟩) t.Bb) lst f w:=by
       intro T IT e;subst e;obtain⟨d,rfl⟩:=cD.1 IT;have nx:=next γ _ w (m.put d .vz undef (by simp only[CR])) ⟨vG.refl _ _ _,λ_ _=>rfl,λ_=>aD _,.put⟩
       exact adk rfl ho T nx.1 nx.2
      simp only[vB]at k;cases R with
      |none=>
       cases gd with
       |none=>exact go wn k
       |some x=>simp[OE]at F
      |some x=>
       obtain⟨g,C⟩:=x;have IT:dst.isSome=I:=by rcases hgd with h|h;cases h;exact h
       cases gd with
       |none=>simp[OE]at F
       |some y=>
        obtain⟨j',A9⟩:=y;have W:A9=C:=by simp[OE]at F;exact F.1
        subst W;obtain⟨g1,g2,g3⟩:=rW m F;simp only at k
        split at k
        ·rename_i b zx
         split at k
         ·rename_i HN;exact go (g1 b zx HN) k
         ·rename_i HN;simp only[ae]at k;exact skip (g2 b zx HN) IT k.symm
        ·rename_i hgu;simp only[ae]at k;exact skip (g3 hgu) IT k.symm
        ·cases k
     ·cases i
    ·cases i
  ·cases h
 | .alt ⟨j,qt,al,L,⟨d,l,R⟩⟩ t r,kp,Cl,lst,tk,γ,s,s',f,w,h,i,nz,ht,m,K,hk=>by
  simp only[Q3,ai]at h;obtain⟨⟨h,pT⟩,hr⟩:=h;have U5:(lst.setIfInBounds j I).size=ops.size:=by simpa using nz
  have hee:mi cf mf ⟨j,qt,al,L,⟨d,l,R⟩⟩ tk s (fP cf mf kp t)=Z s'/\fP cf mf kp r tk s=Z s':=by
   simp only[fP,both]at i
   split at i
   ·rename_i a b ha lI
    split at i
    ·rename_i vC;subst vC;cases i;exact⟨ha,lI⟩
    ·cases i
   ·cases i
  obtain⟨i,her⟩:=hee
  split at h
  ·rename_i o ho;have UU:j < lst.size:=by rw[nz];exact (tg.1 ho).1
   obtain⟨dst,op,ty,pos,aft,gd⟩:=o;simp only[ai,okI,beq_iff_eq,cq,tt,da]at h;obtain⟨⟨⟨⟨⟨hdd,hd⟩,F⟩,H⟩,hqp⟩,hgd⟩:=h;subst hdd;simp only[mi]at i
   split at i
   ·rename_i S k
    split at i
    ·rename_i kj;have QJ:∀p∈jQ j tk,(p.2∉eP s dst l/\(look S.bx p.2).isSome=I)/\¬dst=Z p.2:=λp Y=>by
      have:=bw.1 kj p Y
      simpa using this
     have next:∀G U B,Inv G h0 io w0 S U B->Tr dst (eP s dst l) γ w G B f U->Cons Cl (lst.setIfInBounds j I) B/\Dv P N ops Kn Cl t.Bb (lst.setIfInBounds j I) U B:=by
      intro G U B i' tr;have X:=ht.Ow UU m tr QJ;refine⟨X.cons,qL nc nT t pT i U5 X i' (λb lI=>?_) hk⟩;rw[tr.β b (λe=>by
        rw[e]at hd;simp at hd;omega)]
      exact K b lI
     have rest:=qL nc nT r hr her nz ht m K hk;have go:rM N ops f gd->Dp cf mf s dst l=Z S->Dv P N ops Kn Cl (.alt (KD.Bb ⟨j,qt,al,L,⟨dst,l,R⟩⟩) t.Bb r.Bb) lst f w:=by
      intro T k;refine alR (e:=KD.Bb ⟨j,qt,al,L,⟨dst,l,R⟩⟩) ho T ?_ rest;rcases BB k with ⟨Y,c,Q,rfl⟩|⟨Y,hn⟩
      ·simp only[Y,if_true,ai]at H;obtain⟨d,rfl⟩:=cD.1 H.1;obtain⟨v,k1,k2⟩:=oI (dst:=Z d) (ty:=ty) (pos:=pos) (aft:=aft) (gd:=gd) m H.2 Q;exact eo (k2 w (λ_=>rL.refl _ _ _)) (next γ _ w (m.put d c v k1) ⟨vG.refl _ _ _,λ_ _=>rfl,λ_=>aD _,.put⟩)
      ·simp only[Y,aF,if_false]at H;exact wR nc nT m H hn next
     have skip:jB N ops f gd->dst.isSome=I->S=s.put dst .vz->Dv P N ops Kn Cl (.alt (KD.Bb ⟨j,qt,al,L,⟨dst,l,R⟩⟩) t.Bb r.Bb) lst f w:=by
      intro T IT e;subst e;obtain⟨d,rfl⟩:=cD.1 IT;have nx:=next γ _ w (m.put d .vz undef (by simp only[CR])) ⟨vG.refl _ _ _,λ_ _=>rfl,λ_=>aD _,.put⟩
      exact agY (e:=KD.Bb ⟨j,qt,al,L,⟨Z d,l,R⟩⟩) ho T nx.1 nx.2 rest
     simp only[vB]at k;cases R with
     |none=>
      cases gd with
      |none=>exact go wn k
      |some x=>simp[OE]at F
     |some x=>
      obtain⟨g,C⟩:=x;have IT:dst.isSome=I:=by rcases hgd with h|h;cases h;exact h
      cases gd with
      |none=>simp[OE]at F
      |some y=>
       obtain⟨j',A9⟩:=y;have W:A9=C:=by simp[OE]at F;exact F.1
       subst W;obtain⟨g1,g2,g3⟩:=rW m F;simp only at k
       split at k
       ·rename_i b zx
        split at k
        ·rename_i HN;exact go (g1 b zx HN) k
        ·rename_i HN;simp only[ae]at k;exact skip (g2 b zx HN) IT k.symm
       ·rename_i hgu;simp only[ae]at k;exact skip (g3 hgu) IT k.symm
       ·cases k
    ·cases i
   ·cases i
  ·cases h
theorem gH(G:P.follows .mixedOrders=I)(C:Cts w0 io P num cf)(F:∀g ag ds q iF q',mf g ag ds q=Z (iF,q')->sr w0 io P (num g) ag ds q iF q')(n:Nat):∀(k:K) (c:Code) {s:St} {f:Fm} {w:World} {e:Ex} {s':St},pI P N num k c=I->iW cf mf n k s=Z (e,s')->zF β0 h0 io w0 s f w->
  W P N c (λf w=>e=.norm/\zF β0 h0 io w0 s' f w) (λi f w=>e=.exit i/\zF β0 h0 io w0 s' f w) (λf w=>e=.ret/\zF β0 h0 io w0 s' f w) f w
 | .skip,c,s,f,w,e,s',o,h,B=>by
  cases c<;>simp[pI]at o
  simp only[iW,ae,aI]at h;obtain⟨rfl,rfl⟩:=h;exact zm ⟨rfl,B⟩
 | .Rf is Y,c,s,f,w,e,s',o,h,B=>by
  cases c with
  |region id ops draw=>
   cases draw with
   |true=>simp[pI]at o
   |false=>
    simp only[pI]at o;simp only[iW]at h
    split at h
    ·rename_i Q H;simp only[ae,aI]at h;obtain⟨rfl,rfl⟩:=h;have hl:=tP (Kn:=λf w=>Ex.norm=.norm/\zF β0 h0 io w0 (Q.dF Y) f w) C F ops.toList is o H B (λf' w' T=>⟨rfl,T.dF Y⟩);obtain⟨l⟩:=ops;exact fg (l:=l) hl
    ·cases h
  |_=>simp[pI]at o
 | .Wk is Y,c,s,f,w,e,s',o,h,⟨γ,B,R⟩=>by
  cases c with
  |region id ops draw=>
   cases draw with
   |false=>simp[pI]at o
   |true=>
    simp only[pI,ai,beq_iff_eq]at o;obtain⟨⟨⟨H,h2⟩,h3⟩,h4⟩:=o;simp only[iW]at h
    split at h
    ·rename_i Q h5;simp only[ae,aI]at h;obtain⟨rfl,rfl⟩:=h;have hd:=qL (P:=P) (N:=N) (num:=num) (ops:=ops) (β0:=β0) (Kn:=λf w=>Ex.norm=.norm/\zF β0 h0 io w0 Q f w) (Cl:=[]) (lst:=ru ops.size J) (tk:=[]) C F is H h5 (by simp) (λp hp=>by simp at hp) B.drew R (λs2 f' w' e T=>⟨rfl,by rw[e];exact T.dF Y⟩);obtain⟨l⟩:=ops;exact adm (l:=l) is.Bb G h2 h3 h4 hd
    ·cases h
  |_=>simp[pI]at o
 | .seq a b,c,s,f,w,e,s',o,h,B=>by
  cases c with
  |seq L cb=>
   simp only[pI,ai]at o;simp only[iW]at h;refine jR ?_
   split at h
   ·rename_i Q H;refine my (gH G C F n a L o.1 H B) (λf w v=>gH G C F n b cb o.2 h v.2) (λi f w v=>?_) (λf w v=>?_)
    ·cases v.1
    ·cases v.1
   ·rename_i X;refine my (gH G C F n a L o.1 h B) (λf w v=>?_) (λi f w v=>v) (λf w v=>v);obtain⟨rfl,_⟩:=v;exact absurd h (X s')
  |_=>simp[pI]at o
 | .cond x a b,c,s,f,w,e,s',o,h,B=>by
  cases c with
  |cond y L cb=>
   simp only[pI,ai]at o;obtain⟨⟨H,h2⟩,h3⟩:=o;simp only[iW]at h;obtain⟨γ,T,R⟩:=B;have V:=cA T H
   split at h
   ·rename_i t ht;rw[ht]at V;have V:=rQ V;cases t with
    |true=>exact CB V (gH G C F n a L h2 (by simpa using h) ⟨γ,T,R⟩)
    |false=>exact zk V (gH G C F n b cb h3 (by simpa using h) ⟨γ,T,R⟩)
   ·cases h
  |_=>simp[pI]at o
 | .block i a,c,s,f,w,e,s',o,h,B=>by
  cases c with
  |block j L=>
   simp only[pI,ai,beq_iff_eq]at o;obtain⟨rfl,o⟩:=o;simp only[iW]at h;refine xL ?_
   split at h
   ·rename_i i' Q H;refine my (gH G C F n a L o H B) (λf w v=>by cases v.1) (λq f w v=>?_) (λf w v=>by cases v.1);obtain⟨e1,v⟩:=v;cases e1
    split at h
    ·rename_i U;simp only[ae,aI]at h;obtain⟨rfl,rfl⟩:=h;rw[if_pos U];exact⟨rfl,v⟩
    ·rename_i U;simp only[ae,aI]at h;obtain⟨rfl,rfl⟩:=h;rw[if_neg U];exact⟨rfl,v⟩
   ·rename_i X;refine my (gH G C F n a L o h B) (λf w v=>v) (λq f w v=>?_) (λf w v=>v);obtain⟨rfl,_⟩:=v;exact absurd h (X q s')
  |_=>simp[pI]at o
 | .loop a,c,s,f,w,e,s',o,h,B=>by
  cases c with
  |loop L=>
   simp only[pI]at o;simp only[iW]at h;refine Mo (λm f w=>∃s,zF β0 h0 io w0 s f w/\iter (iW cf mf n a) m s=Z (e,s')) n ⟨s,B,h⟩ ?_
   rintro m f w ⟨s,B,h⟩
   cases m with
   |zero=>simp[iter]at h
   |succ m=>
    simp only[iter]at h
    split at h
    ·rename_i Q H;refine my (gH G C F n a L o H B) (λf w v=>⟨m,by omega,Q,v.2,h⟩) (λi f w v=>by cases v.1) (λf w v=>by cases v.1)
    ·rename_i X;refine my (gH G C F n a L o h B) (λf w v=>?_) (λi f w v=>v) (λf w v=>v);obtain⟨rfl,_⟩:=v;exact absurd h (X s')
  |_=>simp[pI]at o
 | .exit i,c,s,f,w,e,s',o,h,B=>by
  cases c<;>simp[pI]at o
  subst o;simp only[iW,ae,aI]at h;obtain⟨rfl,rfl⟩:=h;exact Mn ⟨rfl,B⟩
 | .ret,c,s,f,w,e,s',o,h,B=>by
  cases c<;>simp[pI]at o
  simp only[iW,ae,aI]at h;obtain⟨rfl,rfl⟩:=h;exact JE ⟨rfl,B⟩
 | .share r a,c,s,f,w,e,s',o,h,⟨γ,B,R⟩=>by
  have wv:pI P N num a c=I:=by
   cases c<;>simpa [pI] using o
  simp only[iW]at h;obtain⟨S,i',b',_⟩:=B.Cw [r];exact gH G C F n a c wv h ⟨S,i',λb lI=>by rw[b'];exact R b lI⟩
 | .Mu d a,c,s,f,w,e,s',o,h,⟨γ,B,R⟩=>by
  have wv:pI P N num a c=I:=by
   cases c<;>simpa [pI] using o
  simp only[iW]at h
  split at h
  ·rename_i Q hs1;obtain⟨S,i',b'⟩:=B.uk hs1;exact gH G C F n a c wv h ⟨S,i',λb lI=>by rw[b'];exact R b lI⟩
  ·cases h
end
end
section
open Go.RowKit
def OG(P:Program)(N:Nat):ResultVar->KR->Bool
 | .tmp t,.t d=>t ==d && fV t N
 | .cell a T,.c d n=>a ==d && fV a N && (if n=0 then MK P T ==Z J else MK P T ==Z I && pg P T ==Z n)
 |_,_=>J
def LL(P:Program)(N:Nat):M ResultVar->M KR->Bool
 |[],[]=>I
 |r::rs,k::a=>OG P N r k && LL P N rs a
 |_,_=>J
def okF(P:Program)(num:Nat->FuncId)(f:Nat)(b:KF):Bool:=
 match P.funcs[num f]? with
 |some a=>match a.body with
  |some c=>pI P a.ntmps num b.body c && n8 b.np a.ntmps && LL P a.ntmps a.results.toList b.res
  |none=>J
 |none=>J
def w8(tmps:Array Value):ResultVar->Sem Value
 | .tmp t=>pure (tmps.getD t undef)
 | .cell a t=>do loadVar t (<- asAddr (tmps.getD a undef))
section
variable {P:Program} {γ:Gh} {h0:Nat->Nat} {io:M Nat} {w0:World} {s s':St} {f:Fm} {w:World} {N:Nat} {num:Nat->FuncId}
theorem ZX(m:Inv γ h0 io w0 s f w){L:ResultVar}{kr:KR}{a:A}{l:M Nat}(p:OG P N L kr=I)(j:LW s kr=Z (a,l)) :
  ∃i F,(w8 (fr f N).tmps L).run P w=.ok i w/\AR γ.h w a i F/\(∀g∈F,∃r∈l,γ.ω g=.row r)/\(l.Nodup->F.Nodup):=by
 cases L with
 |tmp t=>
  cases kr with
  |c d n=>simp[OG]at p
  |t d=>
   simp only[OG,ai,beq_iff_eq]at p;obtain⟨rfl,R⟩:=p;have G:t < N:=by simpa using R
   simp only[LW,ak,aI]at j;obtain⟨k,U,rfl,rfl⟩:=j;obtain⟨k1,k2,k3⟩:=(m.get t).cells (Uh U);obtain⟨F,y,x,q⟩:=CE m _ k1 U;refine⟨f t,F,by simp[w8,fr,G],?_,x,q⟩;simp only[AR];refine⟨_,y,λH=>?_,λH=>by rw[k2 H]⟩;obtain⟨us,e⟩:=k3 H;rw[e];simp[Value.cells]
 |cell a0 T=>
  cases kr with
  |t d=>simp[OG]at p
  |c d n=>
   simp only[OG,ai,beq_iff_eq]at p;obtain⟨⟨rfl,R⟩,B⟩:=p;have G:a0 < N:=by simpa using R
   simp only[LW]at j
   split at j
   ·rename_i b hb;have C:=m.get a0;rw[hb]at C;simp only[CR]at C
    split at j
    ·rename_i cs hl;obtain⟨T',k,h1,D,h3⟩:=m.bx b cs hl;have W:iA w (γ.β b) 0 k:=h1.QR
     split at j
     ·rename_i S;subst S;simp only[if_true,beq_iff_eq]at B
      split at j
      ·rename_i c;simp only[ak,aI]at j;obtain⟨rs,K,rfl,rfl⟩:=j;obtain⟨F,y,x,q⟩:=CE m _ D K;have V:=D.length;obtain⟨v,rfl⟩:=dP.1 V;have X:=W 0 v rfl;simp only[bo]at X;refine⟨v,F,?_,?_,x,q⟩
       ·simp[w8,fr,G,C,asAddr,loadVar,qB B,load,Sem.run,X]
       ·simp only[AR];exact⟨[v],y,λh=>by simp at h,λ_=>rfl⟩
      ·cases j
     ·rename_i S;simp only[if_neg S,ai,beq_iff_eq]at B
      split at j
      ·rename_i pS;simp only[ak,aI]at j;obtain⟨rs,K,rfl,rfl⟩:=j;obtain⟨F,y,x,q⟩:=CE m _ D K;have V:=D.length;have Y:=run_loadCellsFrom (P:=P) (w:=w) (b:=γ.β b) (o:=0) k 0 #[] (by simpa using W);have Q:k.length=n:=by omega
       rw[Q]at Y;refine⟨.agg k.toArray,F,?_,?_,x,q⟩
       ·simp[w8,fr,G,C,asAddr,loadVar,qB B.1,run_sizeOf B.2,loadCells,Y]
       ·simp only[AR];exact⟨k,y,λ_=>rfl,λh=>by simp at h⟩
      ·cases j
    ·cases j
   ·cases j
theorem Jr(t:Inv γ h0 io w0 s f w):∀(d:M ResultVar) (i:M KR) {as:M A} {l:M Nat},LL P N d i=I->AT s i=Z (as,l)->
  ∃k F,(d.mapM (w8 (fr f N).tmps)).run P w=.ok k w/\na γ.h w as k F/\(∀g∈F,∃r∈l,γ.ω g=.row r)/\(l.Nodup->F.Nodup)
 |[],[],as,l,_,j=>by
  simp only[AT,ae,aI]at j;obtain⟨rfl,rfl⟩:=j;exact⟨[],[],by simp,by simp[na],λ_ h=>by simp at h,λ_=>by simp⟩
 |[],_::_,_,_,h,_=>by simp[LL]at h
 |_::_,[],_,_,h,_=>by simp[LL]at h
 |U::d,kr::i,as,l,h,j=>by
  simp only[LL,ai]at h;simp only[AT]at j
  split at j
  ·rename_i a W T;simp only[ak]at j;obtain⟨⟨X,V⟩,S,x⟩:=j;simp only[aI]at x;obtain⟨rfl,rfl⟩:=x;obtain⟨c,B,K,G,y1,C⟩:=ZX t h.1 T;obtain⟨k,y,H,D,y2,z2⟩:=Jr t d i h.2 S;refine⟨c::k,B++y,by simp[K,H],?_,λg n=>?_,λp=>?_⟩
   ·simp only[na];exact⟨c,k,B,y,rfl,rfl,G,D⟩
   ·rcases ba.1 n with n|n
    ·obtain⟨r,m,o⟩:=y1 g n;exact⟨r,by simp[m],o⟩
    ·obtain⟨r,m,o⟩:=y2 g n;exact⟨r,by simp[m],o⟩
   ·rw[bM]at p;rw[bM];refine⟨C p.1,z2 p.2.1,?_⟩;intro a R b Q e;subst e;obtain⟨r,m,o⟩:=y1 a R;obtain⟨q,L,v⟩:=y2 a Q;rw[o]at v;cases v;exact p.2.2 r m r L rfl
  ·cases j
theorem Cp(y:Inv γ h0 io w0 s f w){w1:World}{h1:Nat->Nat}:∀(as:M A) {n:M Value} {Q:M Nat} (p:Nat) {outs:M A} {l:M Nat},wW s p as=Z (outs,l)->na h1 w1 as n Q->(∀i K g,as[i]?=Z (.box K)->n[i]?=Z (.pointer (Z ⟨g,0,O⟩))->γ.β (900+(p+i))=g)->
  ∃F,na γ.h w outs (il as n) F/\(∀g∈F,(∃r∈l,γ.ω g=.row r)\/∃i,p<=i/\γ.ω g=.box (900+i))/\(l.Nodup->F.Nodup)
 |[],n,Q,p,outs,l,j,k,_=>by
  simp only[wW,ae,aI]at j;obtain⟨rfl,rfl⟩:=j;exact⟨[],by simp[na,il],λ_ h=>by simp at h,λ_=>by simp⟩
 | .val ag K::as,n,Q,p,outs,l,j,k,L=>by
  simp only[na]at k;obtain⟨v,fx,F1,F2,rfl,rfl,_,k⟩:=k;simp only[wW,VP,ak]at j;obtain⟨⟨l',r'⟩,V,C⟩:=j;simp only[av,aI]at C;obtain⟨rfl,rfl⟩:=C;obtain⟨F,S,t,R⟩:=Cp y as (p+1) V k (λi U g c d=>by
   rw[show p+1+i=p+(i+1) from by omega];exact L (i+1) U g (by simpa using c) (by simpa using d))
  refine⟨F,by simpa only [il] using S,λg m=>?_,R⟩;rcases t g m with h|⟨i,c,d⟩
  ·exact .inl h
  ·exact .inr ⟨i,by omega,d⟩
 | .box K::as,n,Q,p,outs,l,j,k,L=>by
  simp only[na,AR]at k;obtain⟨v,fx,F1,F2,rfl,rfl,⟨H,T0,us0,F0',rfl,_⟩,k⟩:=k;simp only[wW,VP]at j
  split at j
  ·rename_i l1 r1 G
   split at G
   ·rename_i Wh hl;simp only[ak,aI]at G;obtain⟨rs,vv,rfl,rfl⟩:=G;simp only[ak]at j;obtain⟨⟨l',r'⟩,V,C⟩:=j;simp only[aI]at C;obtain⟨rfl,rfl⟩:=C;have B:=L 0 K H rfl rfl;rw[cd]at B;obtain⟨T,us,Y,k2,o⟩:=y.bx (900+p) Wh hl;obtain⟨X,y1,y2,y3⟩:=CE y _ k2 vv;obtain⟨F,S,t,R⟩:=Cp y as (p+1) V k (λi U g c d=>by
     rw[show p+1+i=p+(i+1) from by omega];exact L (i+1) U g (by simpa using c) (by simpa using d))
    rw[B]at Y o;refine⟨(H::X)++F,?_,λg m=>?_,λD=>?_⟩
    ·simp only[il,au,av,na];refine⟨_,_,H::X,F,rfl,rfl,?_,S⟩;simp only[AR];exact⟨H,T,us,X,rfl,Y,y.oq _ _ o,rfl,y1⟩
    ·rcases ba.1 m with m|m
     ·rcases aL.1 m with rfl|m
      ·exact .inr ⟨p,aD _,o⟩
      ·obtain⟨r,x,c⟩:=y2 g m;exact .inl ⟨r,by simp[x],c⟩
     ·rcases t g m with ⟨r,x,c⟩|⟨i,c,d⟩
      ·exact .inl ⟨r,by simp[x],c⟩
      ·exact .inr ⟨i,by omega,d⟩
    ·rw[bM]at D;rw[bM];refine⟨cC.2 ⟨λhm=>?_,y3 D.1⟩,R D.2.1,?_⟩
     ·obtain⟨r,_,c⟩:=y2 _ hm;rw[o]at c;cases c
     ·intro a W b hb e;subst e;rcases aL.1 W with rfl|W
      ·rcases t _ hb with ⟨r,_,c⟩|⟨i,c,d⟩
       ·rw[o]at c;cases c
       ·rw[o]at d;simp only[Own.box.injEq]at d;omega
      ·obtain⟨r,x,c⟩:=y2 a W;rcases t a hb with ⟨q,hq,d⟩|⟨i,_,d⟩
       ·rw[c]at d;cases d;exact D.2.2 r x r hq rfl
       ·rw[c]at d;cases d
   ·cases G
  ·cases j
theorem OR{b:Func}{a:M Value}(h:(b.results.toList.mapM (w8 (fr f N).tmps)).run P w=.ok a w):∃v,(results b (fr f N).tmps).run P w=.ok v w/\aaS a v:=by
 have g:(b.results.mapM (w8 (fr f N).tmps)).run P w=.ok a.toArray w:=by
  rw[Array.mapM_eq_mapM_toList];simp[h]
 have e:results b (fr f N).tmps=(do
   let c <- b.results.mapM (w8 (fr f N).tmps)
   pure (if h:c.size=1 then c[0] else .tuple c)):=by
  unfold results
  congr 1
 rw[e];simp only[Sem.run_bind,g,Result.andThen_ok,Sem.run_pure];by_cases d:a.length=1
 ·obtain⟨v,rfl⟩:=dP.1 d;exact⟨v,by simp,.inl rfl⟩
 ·exact⟨.tuple a.toArray,by simp[d],.inr ⟨d,rfl⟩⟩
end
theorem IN{P:Program}{num:Nat->FuncId}{cf:Nat->M A->u (M A×M A)}{mf:Nat->Bool->M D->Int->u (M D×Int)}(hm:P.follows .mixedOrders=I)(hj:Ur P num)(nc:∀g a r o,cf g a=Z (r,o)->pz P (num g) a r o)(nT:∀g T S q R L,mf g T S q=Z (R,L)->En P (num g) T S q R L){n f:Nat}{Q:KF}(K:okF P num f Q=I){args rs outs:M A}(k:GW cf mf n Q args=Z (rs,outs)):pz P (num f) args rs outs:=by
  unfold GW at k
  split at k
  ·rename_i YD;unfold okF at K
   split at K
   ·rename_i fn BL
    split at K
    ·rename_i c hc;simp only[ai]at K;obtain⟨⟨NX,abw⟩,BM⟩:=K;intro w h vs F hL C kl dR fQ;have wz:vs.length=args.length:=by
      clear NX abw BM k YD kl dR hL
      induction args generalizing vs F with
      |nil=>simp only[na]at C;simp[C.1]
      |cons a as ih=>
       simp only[na]at C;obtain⟨v,fx,V,U,rfl,rfl,_,C⟩:=C;simp[ih _ _ C]
     refine enter (N:=fn.ntmps) BL hc rfl (by simp only[oQ,wz,YD];exact abw) ?_;have i0:Inv ⟨h,λ_=>0,λ_=>undef,λg=>if g∈F then .dM else .free⟩ h F w ⟨[],[],[]⟩ (λi=>vs.toArray.getD i undef) w:={
      sl:=λd c Y=>by simp[look]at Y
      bx:=λd c Y=>by simp[look]at Y
      rw:=λd c Y=>by simp[look]at Y
      own:=λg p=>by
       by_cases hF:g∈F
       ·exact⟨dR g hF,.inr hF⟩
       ·simp[hF]at p
      oq:=λg b p=>by dsimp only at p;split at p<;>cases p
      fQ:=fQ,os:=rfl,tape:=rfl,output:=rfl,size:=aD _,frame:=λ_ _ _=>rfl,cell:=λ_ _ _ _=>rfl,mono:=λ_ _=>aD _,hold:=λ_ _ _=>rfl,fR:=λ_ h=>h }
     obtain⟨W,i1,e1,p1,x1⟩:=wb args 0 i0 C kl (λg p=>⟨.inr (by simp[p]),dR g p,.inr p⟩) (λi v hv=>by
      rw[bo];have:=(bq.1 hv)
      obtain⟨hil,hiv⟩:=this;simp[hil,hiv])
     have fin:∀(s:St) y j,leave Q args s=Z (rs,outs)->zF W.β h F w s y j->∃v,(results fn (fr y fn.ntmps).tmps).run P j=.ok v j/\∃v' us V U h',Ending.returned v=.returned v'/\aaS us v'/\na h' j rs us V/\na h' j outs (il args vs) U/\(V++U).Nodup/\(∀g∈V++U,(w.heap.size<=g\/g∈F)/\g < j.heap.size)/\CK h F w j h':=by
      intro s y j m ⟨γ,t,hb⟩;unfold leave at m
      split at m
      ·rename_i HY l outs' l' hr1 Kp
       split at m
       ·rename_i X;rw[uS]at X;simp only[ae,aI]at m;obtain⟨rfl,rfl⟩:=m;obtain⟨us,V,k1,k2,k3,k4⟩:=Jr t fn.results.toList Q.res BM hr1;obtain⟨U,y1,y2,y3⟩:=Cp t args 0 Kp C (λi cs g B H=>by
         rw[hb _ (by omega)];exact x1 i cs g B H)
        obtain⟨v,z1,z2⟩:=OR k1;rw[bM]at X;refine⟨v,z1,v,us,V,U,γ.h,rfl,z2,k2,y1,?_,λg p=>?_,⟨t.os,t.tape,t.output,t.size,t.frame,t.cell,t.mono,t.hold,t.fQ,t.fR⟩⟩
        ·rw[bM];refine⟨k4 X.1,y3 X.2.1,?_⟩;intro a ha b lI e;subst e;obtain⟨r,hr,B⟩:=k3 a ha;rcases y2 a lI with ⟨q,hq,H⟩|⟨i,_,H⟩
         ·rw[B]at H;cases H;exact X.2.2 r hr r hq rfl
         ·rw[B]at H;cases H
        ·have gW:γ.ω g≠.free:=by
          rcases ba.1 p with p|p
          ·obtain⟨r,_,B⟩:=k3 g p;rw[B];simp
          ·rcases y2 g p with ⟨r,_,B⟩|⟨i,_,B⟩<;>rw[B]<;>simp
         exact⟨(t.own g gW).2,(t.own g gW).1⟩
       ·cases m
      ·cases m
     split at k
     ·rename_i s G;refine my (gH (β0:=W.β) hm ⟨λg a r o k=>(nc g a r o k).at_ hL,hj⟩ (λg T S q R L k=>(nT g T S q R L k).at_ hL) n Q.body c NX G ⟨W,i1,λ_ _=>rfl⟩) (λy j x=>fin s y j k x.2) (λi y j x=>by cases x.1) (λy j x=>by cases x.1)
     ·rename_i s G;refine my (gH (β0:=W.β) hm ⟨λg a r o k=>(nc g a r o k).at_ hL,hj⟩ (λg T S q R L k=>(nT g T S q R L k).at_ hL) n Q.body c NX G ⟨W,i1,λ_ _=>rfl⟩) (λy j x=>by cases x.1) (λi y j x=>by cases x.1) (λy j x=>fin s y j k x.2)
     ·cases k
    ·cases K
   ·cases K
  ·cases k
def OkK(P:Program)(num:Nat->FuncId)(f:Nat)(a:KF):Prop:=
 (a.np≠999->okF P num f a=I)/\(a.np=999->∀args b outs,XT f args=Z (b,outs)->pz P (num f) args b outs)
theorem OkK.of{P:Program}{num:Nat->FuncId}{f:Nat}{a:KF}(h:okF P num f a=I)(b:fV a.np 999=I):OkK P num f a:=
 ⟨λ_=>h,λe=>by rw[e]at b;cases b⟩
theorem OkK.ext{P:Program}{num:Nat->FuncId}{f:Nat}{b:K}{r:M KR}(h:∀args a outs,XT f args=Z (a,outs)->pz P (num f) args a outs):OkK P num f ⟨999,b,r⟩:=
 ⟨λe=>absurd rfl e,λ_=>h⟩
theorem xp{P:Program}{num:Nat->FuncId}{T:Nat->u KF}(k:P.follows .mixedOrders=I)(l:Ur P num)(j:∀f d,T f=Z d->OkK P num f d) :
  ∀(n f:Nat) (args c outs:M A),Ag T n f args=Z (c,outs)->pz P (num f) args c outs
 |0,f,args,c,outs,b=>by simp[Ag]at b
 |n+1,f,args,c,outs,b=>by
  simp only[Ag]at b
  split at b
  ·cases b
  ·rename_i d e
   split at b
   ·rename_i i;exact (j f d e).2 i args c outs b
   ·rename_i i;exact IN k l (λg a r o=>xp k l j n g a r o) (λg t s q p m h=>by cases h) ((j f d e).1 i) b
end
section
open Go.RowKit
inductive MC where
 |lst
 |ep (i o:Nat)
 |hd (i o:Nat)
 |sub (i o n:Nat)
 |non
def MC.yr:MC->MC
 | .sub _ _ _=>.non
 |c=>c
def MC.Tf:MC->Bool
 | .sub _ _ _=>I
 |_=>J
structure MS where
 s:St
 sp:List (Nat×MC)
 es:List (List D)
def MS.Wz(m:MS):KX->u MC
 | .s d=>look m.sp d
 | .k _=>O
def MS.put(m:MS)(d:Nat)(c:C):MS:=⟨m.s.put (Z d) c,ti m.sp d,m.es⟩
def MS.ko(m:MS)(d:Nat)(c:MC):MS:=⟨m.s.put (Z d) .any,(d,c)::ti m.sp d,m.es⟩
def MS.set(m:MS)(i o:Nat)(a:M D):MS:=⟨m.s,m.sp,match nth m.es i with
 |some e=>m.es.set i (gG e o a)
 |none=>m.es⟩
def MS.yr(m:MS):MS:=⟨m.s,m.sp.map λp=>(p.1,p.2.yr),m.es⟩
def MS.dF(m:MS)(a:lE):MS:=⟨m.s.dF a,iP m.sp a.s,m.es⟩
def MS.at_(m:MS)(i o:Nat):u D:=match nth m.es i with
 |some e=>nth e o
 |none=>O
def y_:M C->u (M A)
 |[]=>Z []
 | .d x::cs=>if D.plain x then (y_ cs).map (.val J [.d x]::·) else O
 |_=>O
section
variable (cf:Nat->M A->u (M A×M A)) (mf:Nat->Bool->M D->Int->u (M D×Int)) (own:Bool) (k:Nat)
def HM(m:MS)(d f:Nat)(a:M KX):u MS:=
 match y_ (a.map (fW m.s)) with
 |some as=>match cf f as with
  |some ([.val J [.d r]],[])=>if D.plain r then Z (m.put d (.d r)) else O
  |_=>O
 |none=>O
def EP(m:MS)(d f:Nat)(c:MC)(y:C):u MS:=
 match c,y with
 | .hd i o,.d (.int .i64 q)=>match m.at_ i o with
  |some (.list k g es)=>match mf f J [.list k g es] q with
   |some ([b],a)=>Z ((m.set i o [b]).put d (.d (.int .i64 a)))
   |_=>O
  |_=>O
 | .sub i o n,.d (.int .i64 q)=>match nth m.es i with
  |some e=>match mf f I ((e.drop o).take n) q with
   |some (xs,a)=>if o+n<=e.length/\xs.length=n then Z ((m.set i o xs).put d (.d (.int .i64 a))) else O
   |none=>O
  |none=>O
 |_,_=>O
def EM(m:MS)(d:Nat):KO->u MS
 | .mv x=>match m.Wz x with
  |some c=>Z (m.ko d c)
  |none=>Z (m.put d (fW m.s x))
 | .len x=>match m.Wz x with
  |some .lst=>Z (m.put d (.d (.int .i64 m.es.length)))
  |_=>O
 | .ia a x y=>match m.Wz x,fW m.s y with
  |some .lst,.d (.int .i64 n)=>if a=k/\0<=n/\n.toNat < m.es.length then Z (m.ko d (.ep n.toNat 0)) else O
  |_,_=>O
 | .fa o x=>match m.Wz x with
  |some (.ep i p)=>Z (m.ko d (.ep i (p+o)))
  |_=>O
 | .ld n x=>match m.Wz x with
  |some (.ep i o)=>if n=0 then (match m.at_ i o with
    |some (.list _ _ _)=>Z (m.ko d (.hd i o))
    |_=>O) else (match nth m.es i with
    |some e=>if o+n<=e.length then Z (m.ko d (.sub i o n)) else O
    |none=>O)
  |_=>O
 | .call f xs=>match xs with
  |[x,y]=>(match m.Wz x with
   |some c=>EP mf m d f c (fW m.s y)
   |none=>HM cf m d f xs)
  |_=>HM cf m d f xs
 |op=>if op.kX then (jf m.s op).map (m.put d) else O
def XS(m:MS):KO->u MS
 | .st n x y=>match m.Wz x,fW m.s y with
  |some (.ep i o),.d v=>match m.at_ i o with
   |some c=>if n=1/\own=I/\D.plain c=I/\D.plain v=I then Z (m.set i o [v]).yr else O
   |none=>O
  |_,_=>O
 |_=>O
def J_(m:MS)(i:KI):u MS:=
 match i.gd with
 |some _=>O
 |none=>match i.dst with
  |some d=>EM cf mf k m d i.op
  |none=>XS own m i.op
def rH:M KI->MS->u MS
 |[],m=>Z m
 |i::is,m=>match J_ cf mf own k m i with
  |some a=>rH is a
  |none=>O
def iterM(f:MS->u (Ex×MS)):Nat->MS->u (Ex×MS)
 |0,_=>O
 |n+1,s=>match f s with
  |some (.norm,a)=>iterM f n a
  |r=>r
def eD(n:Nat):K->MS->u (Ex×MS)
 | .skip,m=>Z (.norm,m)
 | .Rf ops f,m=>match rH cf mf own k ops m with
  |some e=>Z (.norm,e.dF f)
  |none=>O
 | .seq a b,m=>match eD n a m with
  |some (.norm,e)=>eD n b e
  |r=>r
 | .cond c a b,m=>match fW m.s c with
  | .d (.bool t)=>if t then eD n a m else eD n b m
  |_=>O
 | .block id a,m=>match eD n a m with
  |some (.exit i,e)=>if i=id then Z (.norm,e) else Z (.exit i,e)
  |r=>r
 | .loop a,m=>iterM (eD n a) n m
 | .exit id,m=>Z (.exit id,m)
 | .ret,m=>Z (.ret,m)
 |_,_=>O
end
def x_(r:Nat):u (Ex×MS)->u (M (M D)×Int)
 |some (.norm,m)=>(match m.s.get r with
  | .d (.int .i64 q)=>Z (m.es,q)
  |_=>O)
 |some (.ret,m)=>(match m.s.get r with
  | .d (.int .i64 q)=>Z (m.es,q)
  |_=>O)
 |_=>O
noncomputable def HL(T:Nat->u KF):Nat->Nat->Bool->M D->Int->u (M D×Int)
 |0,_,_,_,_=>O
 |n+1,f,h,cells,q=>match T f with
  |some ⟨2,body,[.t r]⟩=>
   if h then (match body with
    | .seq (.Rf (⟨Z b,.box (.s 0),O⟩::is) c) i=>
     (match rH (Ag T n) (HL T n) J cells.length is (MS.ko ⟨⟨[(1,.d (.int .i64 q))],[],[]⟩,[],[cells]⟩ b (.ep 0 0)) with
     |some m=>(match x_ r (eD (Ag T n) (HL T n) J cells.length n i (m.dF c)) with
      |some ([uj],a)=>Z (uj,a)
      |_=>O)
     |none=>O)
    |_=>O)
   else (match cells with
    |[.list k g es]=>(match x_ r (eD (Ag T n) (HL T n) I k n body ⟨⟨[(1,.d (.int .i64 q))],[],[]⟩,[(0,.lst)],es⟩) with
     |some (e,a)=>Z ([.list k g e],a)
     |none=>O)
    |_=>O)
  |_=>O
theorem hH.ofC{w:World}:∀(b:M D) {c:M Value} {G:Fp},fp w b c G->∃a,a.flatten=G/\hH w b c a
 |[],_,_,h=>by
  simp only[fp]at h;exact⟨[],by simp[h.2],by simp[hH,h.1]⟩
 |d::b,_,_,h=>by
  simp only[fp]at h;obtain⟨v,j,e,k,rfl,rfl,i,g⟩:=h;obtain⟨a,rfl,f⟩:=hH.ofC b g;exact⟨e::a,by simp,by simp only[hH];exact⟨v,j,e,a,rfl,rfl,i,f⟩⟩
theorem hH.toC{w:World}:∀(a:M D) {b:M Value} {c:M Fp},hH w a b c->fp w a b c.flatten
 |[],_,_,h=>by
  simp only[hH]at h;simp[fp,h.1,h.2]
 |d::a,_,_,h=>by
  simp only[hH]at h;obtain⟨v,g,F,i,rfl,rfl,f,e⟩:=h;simp only[fp,eH];exact⟨v,g,F,_,rfl,rfl,f,hH.toC a e⟩
theorem fw.toFlat{w:World}:∀(es:M (M D)) {a:M Value} {G:Fp},fw w es a G->fp w es.flatten a G
 |[],_,_,h=>by simpa [fw,fp] using h
 |e::es,_,_,h=>by
  simp only[fw]at h;obtain⟨v1,v2,f,d,rfl,rfl,c,b⟩:=h;rw[eH];exact fp.append e c (fw.toFlat es b)
theorem fw.Zu{w:World}:∀(es:M (M D)) {a:M Value} {G:Fp},fp w es.flatten a G->fw w es a G
 |[],_,_,h=>by simpa [fw,fp] using h
 |e::es,_,_,h=>by
  rw[eH]at h;obtain⟨v1,v2,f,d,rfl,rfl,c,b⟩:=fp.fX e h;simp only[fw];exact⟨v1,v2,f,d,rfl,rfl,c,fw.Zu es b⟩
theorem hH.length{w:World}:∀(a:M D) {b:M Value} {c:M Fp},hH w a b c->b.length=a.length/\c.length=a.length
 |[],_,_,h=>by simp only[hH]at h;simp[h.1,h.2]
 |d::a,_,_,h=>by
  simp only[hH]at h;obtain⟨v,i,F,f,rfl,rfl,g,e⟩:=h;simp[hH.length a e]
theorem hH.append{w:World}:∀(a:M D) {es:M D} {c e:M Value} {f Gs:M Fp},hH w a c f->hH w es e Gs->hH w (a++es) (c++e) (f++Gs)
 |[],_,_,_,_,_,h,b=>by simp only[hH]at h;obtain⟨rfl,rfl⟩:=h;simpa using b
 |d::a,_,_,_,_,_,h,b=>by
  simp only[hH]at h;obtain⟨v,k,F,j,rfl,rfl,i,g⟩:=h;simp only[au,hH];exact⟨v,_,F,_,rfl,rfl,i,hH.append a g b⟩
theorem hH.drop{w:World}:∀(a:M D) {b:M Value} {c:M Fp} (n:Nat),hH w a b c->hH w (a.drop n) (b.drop n) (c.drop n)
 |_,_,_,0,h=>by simpa using h
 |[],_,_,n+1,h=>by simp only[hH]at h;simp[hH,h.1,h.2]
 |d::a,_,_,n+1,h=>by
  simp only[hH]at h;obtain⟨v,i,F,f,rfl,rfl,g,e⟩:=h
  simpa using hH.drop a n e
theorem hH.take{w:World}:∀(a:M D) {b:M Value} {c:M Fp} (n:Nat),hH w a b c->hH w (a.take n) (b.take n) (c.take n)
 |_,_,_,0,h=>by simp[hH]
 |[],_,_,n+1,h=>by simp only[hH]at h;simp[hH,h.1,h.2]
 |d::a,_,_,n+1,h=>by
  simp only[hH]at h;obtain⟨v,i,F,g,rfl,rfl,f,e⟩:=h;simp only[cn,hH];exact⟨v,_,F,_,rfl,rfl,f,hH.take a n e⟩
theorem hH.yv{w:World}{a b:M D}{c d:M Value}{f Gs:M Fp}(o:Nat)(h:hH w a c f)(e:hH w b d Gs):hH w (gG a o b) (gG c o d) (gG f o Gs):=by
 obtain⟨i,g⟩:=hH.length b e;unfold gG;rw[i,g];exact hH.append _ (hH.append _ (hH.take a o h) e) (hH.drop a _ h)
theorem Cx{a:Type}(l:M a)(o n:Nat)(h:o+n<=l.length):gG l o ((l.drop o).take n)=l:=by
 unfold gG;have e:((l.drop o).take n).length=n:=by simp;omega
 rw[e,bB,show l.drop (o+n)=(l.drop o).drop n by rw[oP],bI,bI]
theorem Da{b:Type}(l a:M b)(o:Nat)(h:o+a.length<=l.length):(gG l o a).length=l.length:=by
 unfold gG;simp;omega
theorem hH.dF{w f:World}:∀(a:M D) {g:M Value} {e:M Fp},hH w a g e->(∀F∈e,∀b∈F,f.heap[b.1]?=w.heap[b.1]?)->hH f a g e
 |[],_,_,h,_=>by simpa only [hH] using h
 |d::a,_,_,h,i=>by
  simp only[hH]at h ⊢;obtain⟨v,o,F,c,rfl,rfl,n,m⟩:=h;exact⟨v,o,F,c,rfl,rfl,n.dF d (λb k j _=>World.cell?_of_block (w:=w) (i F (by simp) b k)),hH.dF a m (λG l=>i G (by simp[l]))⟩
theorem E0{k:Nat}:∀(es:M (M D)) (i o:Nat) (e a:M D),(∀e∈es,e.length=k)->nth es i=Z e->o+a.length<=k->(es.set i (gG e o a)).flatten=gG es.flatten (i * k+o) a
 |[],i,o,e,a,_,h,_=>by simp[nth]at h
 |x::es,0,o,e,a,b,h,c=>by
  simp only[nth,ae]at h;subst h;have g:=b x (by simp);simp only[jz,eH,sq,bo,gG];rw[fT (by omega),qo (by omega)];simp
 |x::es,i+1,o,e,a,b,h,c=>by
  simp only[nth]at h;have g:=b x (by simp);have d:=E0 es i o e a (λy f=>b y (by simp[f])) h c;have j:(i+1) * k+o=x.length+(i * k+o):=by rw[j5];omega
  rw[lr,eH,d,eH,j];unfold gG;rw[List.take_length_add_append,show x.length+(i * k+o)+a.length=x.length+(i * k+o+a.length) by omega,List.drop_length_add_append];simp
theorem EZ{k:Nat}:∀(es:M (M D)),(∀e∈es,e.length=k)->es.flatten.length=es.length * k
 |[],_=>by simp
 |e::es,h=>by
  rw[eH,bh,EZ es (λx a=>h x (by simp[a])),h e (by simp),aH,j5];omega
theorem qN{k:Nat}:∀(es:M (M D)) (i o n:Nat) (e:M D),(∀e∈es,e.length=k)->nth es i=Z e->o+n<=k->(es.flatten.drop (i * k+o)).take n=(e.drop o).take n/\i * k+o+n<=es.flatten.length
 |[],i,o,n,e,_,h,_=>by simp[nth]at h
 |x::es,0,o,n,e,a,h,b=>by
  simp only[nth,ae]at h;subst h;have d:=a x (by simp);refine⟨?_,by simp;omega⟩;rw[eH,sq,bo,qo (by omega),fT (by simp;omega)]
 |x::es,i+1,o,n,e,a,h,b=>by
  simp only[nth]at h;have d:=a x (by simp);obtain⟨f,j⟩:=qN es i o n e (λy c=>a y (by simp[c])) h b;have g:(i+1) * k+o=x.length+(i * k+o):=by rw[j5];omega
  rw[eH,g];refine⟨by rw[List.drop_length_add_append];exact f,by rw[bh];omega⟩
end
section
open Go.RowKit
section
variable {P:Program} {ρ:Operand->Value} {w:World} {dst:u Tmp} {ty:TypeId} {pos:String} {aft:Array Edge} {gd:u (Nat×Bool)}
theorem Ri{g i:Nat}{v a:Value}{b:Type}(k:Sem b)(d:w.cell? ⟨g,i,O⟩=Z a)(c:w.frozen? ⟨g,i,O⟩=J)(e:one v=I) :
  (Sem.store .plain ⟨g,i,O⟩ v k).run P w=k.run P (w.setCell ⟨g,i,O⟩ v):=by
 cases v<;>simp_all[Sem.run,one]
theorem aaR{x y:Operand}{g o:Nat}{T:TypeId}{v a:Value}(f:∀w,(mW T).run P w=.ok 1 w)(c:ρ x=.pointer (Z ⟨g,o,O⟩))(b:ρ y=v)(h:one v=I)(e:w.cell? ⟨g,o,O⟩=Z a)(d:w.frozen? ⟨g,o,O⟩=J) :
  (execOp ρ ⟨dst,.store T x y,ty,pos,aft,gd⟩).run P w=.ok .skip (w.setCell ⟨g,o,O⟩ v):=by
 have i:v.cells=#[v]:=by cases v<;>simp_all[Value.cells,one]
 simp[execOp,Instr.storeAt,c,b,Instr.sureAddr,storeVar,f,i,storeCells,store,Addr.add,Ri _ e d h]
end
section
variable (w:World) (g i:Nat) (v:Value)
theorem ql{b:Nat}(h:b≠g):(w.setCell ⟨g,i,O⟩ v).heap[b]?=w.heap[b]?:=by
 simp[World.setCell,pv,m_ h]
theorem AY:(w.setCell ⟨g,i,O⟩ v).heap.size=w.heap.size:=by simp[World.setCell]
theorem LZ{j:Nat}(h:j≠i):(w.setCell ⟨g,i,O⟩ v).cell? ⟨g,j,O⟩=w.cell? ⟨g,j,O⟩:=by
 simp only[World.cell?,World.setCell,pv,if_true];cases w.heap[g]? with
 |none=>rfl
 |some o=>cases o<;>simp[Array.getElem?_setIfInBounds_ne (m_ h)]
theorem L0{a:Value}(h:w.cell? ⟨g,i,O⟩=Z a):(w.setCell ⟨g,i,O⟩ v).cell? ⟨g,i,O⟩=Z v:=by
 simp only[World.cell?,World.setCell,pv,if_true]at h ⊢;cases b:w.heap[g]? with
 |none=>rw[b]at h;cases h
 |some o=>
  rw[b]at h;cases o<;>simp at h
  rename_i c e fz;simp[(tg.1 h).1]
theorem G7(b j:Nat):(w.setCell ⟨g,i,O⟩ v).frozen? ⟨b,j,O⟩=w.frozen? ⟨b,j,O⟩:=by
 by_cases a:b=g
 ·subst a;simp only[World.frozen?,World.setCell,pv,if_true];cases w.heap[b]? with
  |none=>rfl
  |some o=>cases o<;>simp
 ·simp only[World.frozen?,ql w g i v a]
end
structure Tree where
 g:Nat
 p:Nat
 k:Nat
 n:Nat
 Fs:List Fp
 hv:List Value
 pl:List Bool
 ro:Bool
def MT(t:Tree)(w:World)(es:M (M D)):Prop:=
 es.length=t.n/\(∀e∈es,e.length=t.k)/\es.flatten.map D.plain=t.pl/\
  ∃a:M Value,hH w es.flatten a t.Fs/\iA w t.g t.p a/\(∀j:Nat,t.pl[j]?=Z J->a[j]?=t.hv[j]?)/\(t.ro=I->a=t.hv)
def PM(t:Tree)(w:World):MC->Value->Prop
 | .lst,v=>∃A c,v=.slice A t.n c/\(t.n=0\/A=Z ⟨t.g,t.p,O⟩)/\t.n<=maxLen
 | .ep i o,v=>v=.pointer (Z ⟨t.g,t.p+(i * t.k+o),O⟩)
 | .hd i o,v=>t.hv[i * t.k+o]?=Z v
 | .non,_=>True
 | .sub i o n,v=>0 < t.n/\∃a,v=.agg a.toArray/\a.length=n/\iA w t.g (t.p+(i * t.k+o)) a
structure Tok (t:Tree) (own:Bool) (h:Nat->Nat) (F:List Nat) (w0:World):Prop where
 fs:∀G∈t.Fs,∀be∈G,be.1∈F/\be.1≠t.g
 nd:(t.Fs.flatten.map cz).Nodup
 zero:∀g∈F,h g=0/\oZ w0 g/\g < w0.heap.size
 own:own=true->(t.n=0\/t.g∈F)/\t.ro=false
abbrev Um(h:Nat->Nat)(F:M Nat):Gh:=⟨h,λ_=>0,λ_=>undef,λg=>if g∈F then .dM else .free⟩
structure l9 (t:Tree) (h:Nat->Nat) (F:List Nat) (w0:World) (m:MS) (f:Fm) (w:World):Prop where
 inv:Inv (Um h F) h F w0 m.s f w
 mt:MT t w m.es
 sp:∀d c,look m.sp d=some c->PM t w c (f d)
 lt:t.n=0\/t.g < w.heap.size
section
variable {t:Tree} {own:Bool} {h:Nat->Nat} {F:M Nat} {w0:World} {m:MS} {f:Fm} {w w':World}
theorem aaG{f:Fm}{d e:Nat}{v:Value}(h:d≠e):Dj f d v e=f e:=by
 unfold Dj;cases a:gR e d
 ·rfl
 ·exact absurd (l8 a).symm h
theorem aaH{f:Fm}{d:Nat}{v:Value}:Dj f d v d=v:=by simp[Dj]
theorem l9.put(b:l9 t h F w0 m f w){d:Nat}{c:C}{v:Value}(g:CR (Um h F) w c v):l9 t h F w0 (m.put d c) (Dj f d v) w:=
 ⟨b.inv.put d c v g,b.mt,λe j a=>by
  simp only[MS.put,eK]at a
  split at a
  ·cases a
  ·rename_i i;rw[aaG i];exact b.sp e j a,b.lt⟩
theorem l9.ko(b:l9 t h F w0 m f w){d:Nat}{c:MC}{v:Value}(i:PM t w c v):l9 t h F w0 (m.ko d c) (Dj f d v) w:=
 ⟨b.inv.put d .any v (by simp only[CR]),b.mt,λe k a=>by
  simp only[MS.ko,look,eK]at a
  split at a
  ·rename_i g;subst g;simp only[ae]at a;subst a;rw[aaH];exact i
  ·rename_i j;rw[aaG j];exact b.sp e k a,b.lt⟩
theorem l9.go(e:l9 t h F w0 m f w)(k:vG (Um h F) (λo=>o=.dM) w w'){sp':M (Nat×MC)}{j:M (M D)}(q:MT t w' j)(p:∀d c,look sp' d=Z c->c=.non\/(look m.sp d=Z c/\(c.Tf=I->w'.heap[t.g]?=w.heap[t.g]?))) :
  l9 t h F w0 ⟨m.s,sp',j⟩ f w':=
 ⟨e.inv.Sa k (λh=>by cases h) (λb h=>by cases h) (λr h=>by cases h),q,λd c v=>by
  rcases p d c v with rfl|⟨G,C⟩
  ·trivial
  have a:=e.sp d c G;cases c with
  |non=>trivial
  |lst=>exact a
  |ep i o=>exact a
  |hd i o=>exact a
  |sub i o n=>
   obtain⟨B,l,A,y,x⟩:=a;exact⟨B,l,A,y,x.dF (C rfl)⟩,by
  rcases e.lt with h|h
  ·exact .inl h
  ·exact .inr (bR h k.size)⟩
theorem MT.dF(p:MT t w m.es)(q:∀G∈t.Fs,∀l∈G,w'.heap[l.1]?=w.heap[l.1]?)(b:t.n=0\/w'.heap[t.g]?=w.heap[t.g]?):MT t w' m.es:=by
 obtain⟨k,i,v,c,e,s,r⟩:=p;refine⟨k,i,v,c,hH.dF _ e q,?_,r⟩;rcases b with b|b
 ·have d:=(hH.length _ e).1;rw[EZ _ i,k,b,sq]at d;have:c=[]:=cH.1 d;subst this;intro j a o;simp at o
 ·exact s.dF b
theorem Inv.adP(a:Inv (Um h F) h F w0 m.s f w){g:Nat}(b:g∈F):g < w.heap.size:=(a.own g (by simp[b])).1
theorem u7{N:Nat}(e:l9 t h F w0 m f w){x:Operand}{y:KX}(b:km N x y=I){c:MC}(a:m.Wz y=Z c):PM t w c ((fr f N).eval x):=by
 cases y with
 |k i=>simp[MS.Wz]at a
 |s d=>
  simp only[MS.Wz]at a;cases x<;>simp only[km,ai,beq_iff_eq,aF]at b
  obtain⟨rfl,g⟩:=b;rw[DR f (by simpa using g)];exact e.sp _ c a
end
end
section
open Go.RowKit
section
variable {P:Program} {N:Nat} {t:Tree} {own:Bool} {h:Nat->Nat} {F:M Nat} {w0:World} {m:MS} {f:Fm} {w w':World}
theorem Sb(l:Inv (Um h F) h F w0 m.s f w){d:M Nat}{p:Nat->Nat}(a:CK h d w w' p)(e:∀g∈d,g∈F):vG (Um h F) (λo=>o=.dM) w w' where
 os:=a.os
 tape:=a.tape
 output:=a.output
 size:=a.size
 block g n i:=a.block g n (λk=>i (by simp[e g k]))
 cell g j c:=by
  rcases dD g w.heap.size with b|b
  ·exact a.cell g j b c
  ·have:=l.fQ g b;simp only at this c
   omega
 fR:=a.fR
theorem On{a β:Type}(f:a->β)(l b:M a)(o:Nat):(gG l o b).map f=gG (l.map f) o (b.map f):=by
 simp[gG,bN,kg,nC]
theorem oS{a:Type}(l:M a)(j n:Nat):l=l.take j++((l.drop j).take n++l.drop (j+n)):=by
 rw[show l.drop (j+n)=(l.drop j).drop n by rw[oP],bI,bI]
theorem MT.mark(r:MT t w m.es)(H:Tok t own h F w0){i o n:Nat}{e:M D}(K:nth m.es i=Z e)(hn:o+n<=t.k){l:M D}{h':Nat->Nat}{c:M Value}(C:hH w m.es.flatten c t.Fs)(hL:iA w t.g t.p c)(hV:(∀j:Nat,t.pl[j]?=Z J->c[j]?=t.hv[j]?)/\(t.ro=I->c=t.hv))
  (s:t.n=0\/t.g < w.heap.size) (hF:∀g∈F,g < w.heap.size)
  (hr:hH w' l ((c.drop (i * t.k+o)).take n) ((t.Fs.drop (i * t.k+o)).take n)) (S:l.map D.plain=((e.drop o).take n).map D.plain) (T:CK h (((t.Fs.drop (i * t.k+o)).take n).flatten.map cz) w w' h'):MT t w' (m.es.set i (gG e o l))/\(t.n=0\/w'.heap[t.g]?=w.heap[t.g]?):=by
 obtain⟨U,v,h3,_⟩:=r;obtain⟨f1,f2⟩:=qN m.es i o n e v K hn;have BJ:e.length=t.k:=v e (dS (by rw[<- ef];exact K));have qw:l.length=n:=by
  have:=congrArg List.length S;simp only[ay,aY,dH]at this;omega
 obtain⟨R,l2⟩:=hH.length _ C;generalize hj:i * t.k+o=j at *;have Q:∀G∈(t.Fs.drop j).take n,G∈t.Fs:=λG b=>fc (cr b);have x:t.n=0\/w'.heap[t.g]?=w.heap[t.g]?:=by
  rcases s with s|s
  ·exact .inl s
  ·refine .inr (T.block _ s ?_);intro r;obtain⟨d,q,e⟩:=cj.1 r;obtain⟨G,b,q⟩:=fv.1 q;exact (H.fs G (Q G b) d q).2 e
 have A:=H.nd;rw[oS t.Fs j n]at A;simp only[List.flatten_append,bN]at A;have X:∀G,(G∈t.Fs.take j\/G∈t.Fs.drop (j+n))->∀d∈G,w'.heap[d.1]?=w.heap[d.1]?:=by
  intro G b d q;have L:G∈t.Fs:=by
   rcases b with b|b
   ·exact cr b
   ·exact fc b
  refine T.block _ (hF _ (H.fs G L d q).1) ?_;intro r;rw[bM]at A;obtain⟨_,V,Y⟩:=A;rw[bM]at V;rcases b with b|b
  ·exact Y d.1 (cJ (fv.2 ⟨G,b,q⟩)) d.1 (ba.2 (.inl r)) rfl
  ·exact V.2.2 d.1 r d.1 (cJ (fv.2 ⟨G,b,q⟩)) rfl
 have W:(m.es.set i (gG e o l)).flatten=gG m.es.flatten j l:=by
  rw[E0 m.es i o e l v K (by omega),hj]
 have kj:hH w' (gG m.es.flatten j l) c t.Fs:=by
  have a1:=hH.dF _ (hH.take _ j C) (λG b=>X G (.inl b));have a2:=hH.dF _ (hH.drop _ (j+n) C) (λG b=>X G (.inr b));have a3:=hH.append _ (hH.append _ a1 hr) a2;have e1:c.take j++(c.drop j).take n++c.drop (j+n)=c:=by rw[bB];exact (oS c j n).symm
  have e2:t.Fs.take j++(t.Fs.drop j).take n++t.Fs.drop (j+n)=t.Fs:=by rw[bB];exact (oS t.Fs j n).symm
  rw[e1,e2]at a3;unfold gG;rw[qw];exact a3
 refine⟨⟨by simp[U],λy B=>?_,?_,c,by rw[W];exact kj,?_,hV⟩,x⟩
 ·rcases gL B with B|rfl
  ·exact v y B
  ·rw[Da _ _ _ (by omega)];exact BJ
 ·rw[W,On,S,<- f1,kg,nC,Cx _ _ _ (by rw[ay];exact f2)];exact h3
 ·rcases x with CV|x
  ·rw[EZ _ v,U,CV,sq]at R;have:c=[]:=cH.1 R;subst this;intro j a hu;simp at hu
  ·exact hL.dF x
theorem GQ(j:Inv (Um h F) h F w0 m.s f w):∀(i:M C) {as:M A} {g:M Value},y_ i=Z as->fq (Um h F) w i g->na h w as g []
 |[],as,g,a,d=>by
  simp only[y_,ae]at a;subst a;simp only[fq]at d;simp[na,d]
 |c::i,as,g,a,d=>by
  unfold y_ at a
  split at a
  ·rename_i e;cases e
  ·rename_i x p b;simp only[cl]at b;obtain⟨rfl,rfl⟩:=b
   split at a
   ·simp only[ak]at a;obtain⟨q,a,rfl⟩:=a;simp only[fq,CR]at d;obtain⟨v,o,rfl,⟨G,n,l⟩,k⟩:=d;simp only[na];refine⟨v,o,[],[],rfl,rfl,?_,GQ j i a k⟩;simp only[AR,iZ,Ik];exact⟨[v],⟨v,[],[],[],rfl,rfl,⟨rfl,G,n,l⟩,rfl,rfl⟩,(λh=>by cases h),λ_=>rfl⟩
   ·cases a
  ·cases a
theorem Rp.Rb{d:D}{v:Value}{G:Fp}(h:Rp w d v G)(a:D.plain d=I)(w':World):Rp w' d v []/\G=[]:=by
 cases d with
 |list k c es=>simp[D.plain]at a
 |int k n=>simp only[Rp]at h ⊢;exact⟨⟨h.1,trivial,h.2.2⟩,h.2.1⟩
 |bool b=>simp only[Rp]at h ⊢;exact⟨⟨h.1,trivial⟩,h.2⟩
 |str s=>simp only[Rp]at h ⊢;exact⟨⟨h.1,trivial,h.2.2⟩,h.2.1⟩
variable {num:Nat->FuncId} {cf:Nat->M A->u (M A×M A)} {mf:Nat->Bool->M D->Int->u (M D×Int)} {K':Fm->World->Prop} {d:Nat} {ty:TypeId} {pos:String} {aft:Array Edge} {gd:u (Nat×Bool)} {m':MS}
theorem Ew{b:FuncId}(a:kV P b=I)(args:Array Value)(w:World):(callFunc b args).run P w=.ok (.enter b args) w:=by
 unfold kV at a
 split at a
 ·rename_i e c;simp only[ai,cq]at a;exact kF c a.1 a.2 args w
 ·cases a
theorem TF(nc:∀g a r o,cf g a=Z (r,o)->yw w0 F P (num g) a r o)(j:l9 t h F w0 m f w)(hk:Tok t own h F w0){g:Nat}{as:Array Operand}{X:Array TypeId}{H:M KX}(hc:kV P (num g)=I)(hx:DA N as.toList H=I)(k:HM cf m d g H=Z m')
  (hK:∀R w',l9 t h F w0 m' R w'->K' R w'):vr P N ⟨Z d,.call {callee:=.value (.func (num g)),args:=as,argTypes:=X },ty,pos,aft,gd⟩ f w K':=by
 unfold HM at k
 split at k
 ·rename_i cas Yt
  split at k
  ·rename_i r B
   split at k
   ·rename_i q;simp only[ae]at k;subst k;have s:=GD j.inv _ _ hx;have hA:=GQ j.inv _ Yt s;have Y:=nc _ _ _ _ B w h _ [] j.inv.size j.inv.frame (λg l=>by simp at l) hA (by simp) (λg l=>by simp at l) j.inv.fQ;have U:as.map (fr f N).eval=(as.toList.map (fr f N).eval).toArray:=by apply Array.ext';rw[mP]
    refine yW (zo (Ew hc) rfl U) Y λe w' hp=>?_;obtain⟨v,us,F1,F2,h',rfl,YF,K,_,_,_,L⟩:=hp;refine⟨v,rfl,hK _ _ ?_⟩;simp only[na,AR,iZ,Ik]at K;obtain⟨b,W,G1,G2,rfl,_,⟨vs,⟨v1,V,H1,H2,rfl,_,⟨_,G,y,_⟩,rfl,_⟩,_,hv⟩,rfl,_⟩:=K;have S:=hv trivial;simp only[cl,and_true]at S;subst S;have e2:v=v1:=by
     rcases YF with h|⟨h,_⟩
     ·simp only[cl,and_true]at h;exact h.symm
     ·exact absurd rfl h
    subst e2;have ha:=Sb j.inv L (λg l=>by simp at l);have p:∀g,g < w.heap.size->w'.heap[g]?=w.heap[g]?:=λg l=>L.block g l (by simp);have C:t.n=0\/w'.heap[t.g]?=w.heap[t.g]?:=j.lt.imp id (p _);have i1:=j.go (sp':=m.sp) ha (j.mt.dF (λG y T x=>p _ (j.inv.adP (hk.fs G y T x).1)) C) (λd c Q=>.inr ⟨Q,λhs=>by
     cases c with
     |sub i o n=>
      have:=(j.sp d _ Q).1;rcases C with h|h
      ·omega
      ·exact h
     |_=>simp[MC.Tf]at hs⟩)
    refine i1.put ?_;simp only[CR];exact⟨[],(y.Rb q w').1,λT x=>by simp at x⟩
   ·cases k
  ·cases k
 ·cases k
theorem TG{R:Bool}{q U:Int}{V:M D}{g i o n:Nat}{e:M D}{v:Value}(a:l9 t h F w0 m f w)(l:Tok t own h F w0)(L:nth m.es i=Z e)(X:o+n<=t.k)(hM:sr w0 F P (num g) R ((e.drop o).take n) q V U)
  {as:Array Operand} {ts:Array TypeId} (hc:kV P (num g)=I) (xw:as.map (fr f N).eval=#[v,.int .i64 q]) (hq:IntKind.i64.wrap q=q)
  (hv:∀b:M Value,hH w m.es.flatten b t.Fs->iA w t.g t.p b->(∀j:Nat,t.pl[j]?=Z J->b[j]?=t.hv[j]?)/\(t.ro=I->b=t.hv)->(R=I->v=.agg ((b.drop (i * t.k+o)).take n).toArray)/\(R=J->(b.drop (i * t.k+o)).take n=[v]))
  (hK:∀f' w',l9 t h F w0 ((m.set i o V).put d (.d (.int .i64 U))) f' w'->K' f' w'):vr P N ⟨Z d,.call {callee:=.value (.func (num g)),args:=as,argTypes:=ts },ty,pos,aft,gd⟩ f w K':=by
 obtain⟨h1,h2,h3,b,C,hL,hV⟩:=a.mt;obtain⟨f1,f2⟩:=qN m.es i o n e h2 L X;obtain⟨v1,v2⟩:=hv b C hL hV;have W:=hH.take _ n (hH.drop _ (i * t.k+o) C);rw[f1]at W;have y:∀G∈(t.Fs.drop (i * t.k+o)).take n,G∈t.Fs:=λG x=>fc (cr x);have B:=l.nd;rw[oS t.Fs (i * t.k+o) n]at B;simp only[List.flatten_append,bN]at B;rw[bM]at B;have NW:=B.2.1;rw[bM]at NW;have S:∀g∈((t.Fs.drop (i * t.k+o)).take n).flatten.map cz,g∈F:=λg r=>by
  obtain⟨Q,s,rfl⟩:=cj.1 r;obtain⟨G,x,s⟩:=fv.1 s;exact (l.fs G (y G x) Q s).1
 have qQ:=hM w h v _ _ a.inv.size a.inv.frame (λg r=>.inr (S g r)) W v1 v2 hq NW.1 (λG x Q s=>by
  have:=l.zero _ (l.fs G (y G x) Q s).1;exact⟨this.1,a.inv.fR _ this.2.1⟩) a.inv.fQ
 refine yW (zo (Ew hc) rfl xw) qQ λe' w' hp=>?_;obtain⟨rfl,H,DV,IV,T⟩:=hp;refine⟨_,rfl,hK _ _ ?_⟩;have ha:=Sb a.inv T S;obtain⟨K,zx⟩:=a.mt.mark l L X C hL hV a.lt (λg r=>a.inv.adP r) DV IV T;have i1:=a.go (sp':=m.sp) ha K (λd c Y=>.inr ⟨Y,λhs=>by
  cases c with
  |sub i o n=>
   have:=(a.sp d _ Y).1;rcases zx with h|h
   ·omega
   ·exact h
  |_=>simp[MC.Tf]at hs⟩)
 have i2:=i1.put (d:=d) (iM H);simp only[MS.set,L];exact i2
end
end
section
open Go.RowKit
section
variable {P:Program} {N:Nat} {t:Tree} {own:Bool} {h:Nat->Nat} {F:M Nat} {w0:World} {m m':MS} {f:Fm} {w w':World} {num:Nat->FuncId} {cf:Nat->M A->u (M A×M A)} {mf:Nat->Bool->M D->Int->u (M D×Int)} {K':Fm->World->Prop} {d:Nat} {ty:TypeId} {pos:String} {aft:Array Edge} {gd:u (Nat×Bool)}
theorem MT.at_(s:MT t w m.es){i o:Nat}{x:D}(b:m.at_ i o=Z x){c:M Value}(r:hH w m.es.flatten c t.Fs):∃e v,nth m.es i=Z e/\o+1<=t.k/\(e.drop o).take 1=[x]/\c[i * t.k+o]?=Z v/\(c.drop (i * t.k+o)).take 1=[v]/\t.pl[i * t.k+o]?=Z (D.plain x)/\0 < t.n:=by
 obtain⟨C,l,B,_⟩:=s;unfold MS.at_ at b
 split at b
 ·rename_i e g;have Q:e.length=t.k:=l e (dS (by rw[<- ef];exact g));rw[ef]at b;have H:=(bq.1 b).1;have p:(e.drop o).take 1=[x]:=by rw[pW,ry,b];rfl
  obtain⟨a,L⟩:=qN m.es i o 1 e l g (by omega);rw[p]at a;have K:=(hH.length _ r).1;have q:i * t.k+o < c.length:=by omega
  have G:0 < t.n:=by
   rw[<- C];have:=(bq.1 (by rw[<- ef];exact g:m.es[i]?=Z e)).1;omega
  refine⟨e,c[i * t.k+o],g,by omega,p,by simp[q],?_,?_,G⟩
  ·rw[pW,ry];simp[q]
  ·rw[<- B,List.getElem?_map];have:m.es.flatten[i * t.k+o]?=Z x:=by
    rw[pW,ry]at a;cases j:m.es.flatten[i * t.k+o]? with
    |none=>rw[j]at a;cases a
    |some y=>rw[j]at a;simp at a;rw[a]
   rw[this];rfl
 ·cases b
theorem Zh(nc:∀g a r o,cf g a=Z (r,o)->yw w0 F P (num g) a r o)(nT:∀g ag ds q iF q',mf g ag ds q=Z (iF,q')->sr w0 F P (num g) ag ds q iF q')(H:l9 t h F w0 m f w)(hk:Tok t own h F w0){op:Op}{qy:KO}(G:(if qy.kX then uV P N op qy else Zy P N num op (Z d) qy)=I)(B:EM cf mf t.k m d qy=Z m')
  (hK:∀f' w',l9 t h F w0 m' f' w'->K' f' w'):vr P N ⟨Z d,op,ty,pos,aft,gd⟩ f w K':=by
 have U:∀{c:MC} {v:Value},m'=m.ko d c->PM t w c v->(execOp (fr f N).eval ⟨Z d,op,ty,pos,aft,gd⟩).run P w=.ok (.value v) w->vr P N ⟨Z d,op,ty,pos,aft,gd⟩ f w K':=by
  intro c v e L W;exact eo W (hK _ _ (by rw[e];exact H.ko L))
 have ag2:∀{c:C} {v:Value},m'=m.put d c->CR (Um h F) w c v->(execOp (fr f N).eval ⟨Z d,op,ty,pos,aft,gd⟩).run P w=.ok (.value v) w->vr P N ⟨Z d,op,ty,pos,aft,gd⟩ f w K':=by
  intro c v e L W;exact eo W (hK _ _ (by rw[e];exact H.put L))
 unfold EM at B
 split at B
 ·rename_i y;simp only[KO.kX,if_true]at G;have key:∃x,km N x y=I/\(execOp (fr f N).eval ⟨Z d,op,ty,pos,aft,gd⟩).run P w=.ok (.value ((fr f N).eval x)) w:=by
   unfold uV at G
   split at G<;>first|(cases G;done)|skip
   all_goals first
    |(rename_i x y' S;cases S;exact⟨x,G,gY rfl⟩)
    |(rename_i x y' S;cases S;exact⟨x,G,jI rfl⟩)
    |(rename_i S;cases S)
    |skip
  obtain⟨x,R,W⟩:=key
  split at B
  ·rename_i c Q;simp only[ae]at B;exact U B.symm (u7 H R Q) W
  ·simp only[ae]at B;exact ag2 B.symm (cA H.inv R) W
 ·rename_i y;simp only[KO.kX,if_true]at G
  split at B
  ·rename_i Q;simp only[ae]at B;cases op<;>first|(exfalso;simp[uV]at G;done)|skip
   rename_i c0;simp only[uV]at G
   split at G
   ·rename_i x T lS pR HO;simp only[ai]at G;obtain⟨h1,X⟩:=G;obtain⟨Xg,args,Pr⟩:=c0;simp only at lS pR HO
    subst lS;have ea:args=#[x]:=by rw[<- pR]
    have et:Pr=#[T]:=by rw[<- HO]
    subst ea et;obtain⟨A,c,L,_,hmx⟩:=u7 H h1 Q;unfold N3 at X
    split at X
    ·rename_i s hu;refine ag2 B.symm ?_ (JF hu L);rw[H.mt.1];exact iM (bH (by simp[maxLen]at hmx;omega))
    ·cases X
   ·cases G
  ·cases B
 ·rename_i k' y j;simp only[KO.kX,if_true]at G
  split at B
  ·rename_i n Q hn
   split at B
   ·rename_i Yu;obtain⟨rfl,Fc,UX⟩:=Yu;simp only[ae]at B;cases op<;>first|(exfalso;simp[uV]at G;done)|skip
    rename_i T x ix;simp only[uV,ai]at G;obtain⟨⟨R,hj⟩,K⟩:=G;have DW:=cA H.inv hj;rw[hn]at DW;obtain⟨vD,_⟩:=iH DW;obtain⟨A,c,L,hA,_⟩:=u7 H R Q;unfold sliceB at K
    split at K
    ·rename_i s hu;simp only[beq_iff_eq]at K;have hA':A=Z ⟨t.g,t.p,O⟩:=by
      rcases hA with h|h
      ·have:=H.mt.1;omega
      ·exact h
     refine U B.symm ?_ (aaO hu (λw=>run_sizeOf K w) L hA' vD (i:=n.toNat) (by omega) (by rw[<- H.mt.1];exact UX));simp only[PM,cd]
    ·cases K
   ·cases B
  ·cases B
 ·rename_i o y;simp only[KO.kX,if_true]at G
  split at B
  ·rename_i i p Q;simp only[ae]at B;cases op<;>first|(exfalso;simp[uV]at G;done)|skip
   rename_i T x fi;simp only[uV,ai]at G;obtain⟨R,K⟩:=G;have L:=u7 H R Q;simp only[PM]at L;unfold Qr at K
   split at K
   ·rename_i fs hu
    split at K
    ·rename_i fd hfd;simp only[ai,beq_iff_eq]at K;obtain⟨ho,nz⟩:=K
     split at nz
     ·rename_i n hn;simp only[oh]at nz;obtain⟨q,rfl⟩:∃q,n=q+1:=⟨n - 1,by omega⟩
      refine U B.symm ?_ (Uk hu hfd (λw=>run_sizeOf hn w) ho L);simp only[PM];rw[cQ,cQ]
     ·cases nz
    ·cases K
   ·cases K
  ·cases B
 ·rename_i n y;simp only[KO.kX,if_true]at G
  split at B
  ·rename_i i o Q;cases op<;>first|(exfalso;simp[uV]at G;done)|skip
   rename_i T x;simp only[uV,ai]at G;obtain⟨R,K⟩:=G;have L:=u7 H R Q;simp only[PM]at L;obtain⟨h1,X,h3,xs,W,hL,hV⟩:=H.mt
   split at B
   ·rename_i hn;subst hn;simp only[if_true,beq_iff_eq]at K
    split at B
    ·rename_i lk lf les Qx;simp only[ae]at B;obtain⟨e,v,q1,q2,q3,q4,q5,q6,q7⟩:=H.mt.at_ Qx W;refine U B.symm ?_ (Mq (v:=v) (λw=>qB K w) L (hL _ v q4));simp only[PM];rw[<- hV.1 _ q6];exact q4
    ·cases B
   ·rename_i hn;simp only[if_neg hn,ai,beq_iff_eq]at K
    split at B
    ·rename_i e gW
     split at B
     ·rename_i hle;simp only[ae]at B;have BJ:e.length=t.k:=X e (dS (by rw[<- ef];exact gW));obtain⟨f1,f2⟩:=qN m.es i o n e X gW (by omega);have hl:=(hH.length _ W).1;have ic:iA w t.g (t.p+(i * t.k+o)) ((xs.drop (i * t.k+o)).take n):=hL.sub _ _;have hlen:((xs.drop (i * t.k+o)).take n).length=n:=by simp;omega
      refine U B.symm ?_ (Mr (λw=>qB K.1 w) (λw=>run_sizeOf K.2 w) L hlen ic);have U1:0 < t.n:=by
       rw[<- h1];have:=(bq.1 (by rw[<- ef];exact gW:m.es[i]?=Z e)).1;omega
      exact⟨U1,_,rfl,hlen,ic⟩
     ·cases B
    ·cases B
  ·cases B
 ·rename_i g xs;simp only[KO.kX,aF,if_false]at G;cases op<;>first|(exfalso;simp[Zy]at G;done)|skip
  rename_i c0;simp only[Zy]at G
  split at G
  ·rename_i F0 lS;simp only[ai,beq_iff_eq]at G;obtain⟨⟨rfl,Y⟩,V⟩:=G;obtain⟨Xg,args,Pr⟩:=c0;simp only at lS V
   subst lS
   split at B
   ·rename_i y y2
    split at B
    ·rename_i c Q;obtain⟨l,hl⟩:∃l,args.toList=l:=⟨_,rfl⟩
     rw[hl]at V
     match l,V with
     |[],h=>simp[DA]at h
     |[_],h=>simp[DA]at h
     |_::_::_::_,h=>simp[DA]at h
     |[x,x2],V=>
      simp only[DA,ai]at V;have ea:args=#[x,x2]:=by rw[<- hl]
      subst ea;have Wt:=u7 H V.1 Q;unfold EP at B
      split at B
      ·rename_i i o q hq;have Kp:=cA H.inv V.2.1;rw[hq]at Kp;obtain⟨hqv,hqw⟩:=iH Kp
       split at B
       ·rename_i lk lf les Qx
        split at B
        ·rename_i x1 q1 QG;simp only[ae]at B;subst B;obtain⟨_,_,_,xs0,hr0,_,_⟩:=H.mt;obtain⟨e,v0,p1,p2,p3,p4,p5,p6,p7⟩:=H.mt.at_ Qx hr0;have hMk:=nT _ _ _ _ _ _ QG;rw[<- p3]at hMk;refine TG H hk p1 p2 hMk Y (a2 rfl hqv) hqw (λxs R hL hV=>⟨λh=>by (cases h),λ_=>?_⟩) hK;obtain⟨e',v',r1,r2,r3,r4,r5,r6,r7⟩:=H.mt.at_ Qx R;rw[r5];simp only[PM]at Wt;have:=hV.1 _ r6;rw[r4,Wt]at this;rw[ey this]
        ·cases B
       ·cases B
      ·rename_i i o n q hq;have Kp:=cA H.inv V.2.1;rw[hq]at Kp;obtain⟨hqv,hqw⟩:=iH Kp
       split at B
       ·rename_i e gW
        split at B
        ·rename_i iF q1 QG
         split at B
         ·rename_i hle;simp only[ae]at B;subst B;obtain⟨h1,X,_⟩:=H.mt;have BJ:e.length=t.k:=X e (dS (by rw[<- ef];exact gW));refine TG H hk gW (by omega) (nT _ _ _ _ _ _ QG) Y (a2 rfl hqv) hqw (λxs R hL hV=>⟨λ_=>?_,λh=>by (cases h)⟩) hK;simp only[PM]at Wt;obtain⟨_,vs,L,wz,hvL⟩:=Wt;rw[L];obtain⟨f1,f2⟩:=qN m.es i o n e X gW (by omega);have hl:=(hH.length _ R).1
          congr 2
          apply eE
          intro b;by_cases hz:b < n
          ·have Dt:b < vs.length:=by omega
           have S9:i * t.k+o+b < xs.length:=by omega
           have c1:=hvL b vs[b] (by simp[Dt]);have c2:=hL (i * t.k+o+b) xs[i * t.k+o+b] (by simp[S9]);rw[cQ t.p,c2]at c1;have c3:=ey c1;simp[hz,fI,Dt,S9,c3]
          ·rw[jA (by omega),jA (by simp;omega)]
         ·cases B
        ·cases B
       ·cases B
      ·cases B
    ·exact TF nc H hk Y V B hK
   ·exact TF nc H hk Y V B hK
  ·cases G
 ·split at B
  ·rename_i hp;simp only[hp,if_true]at G;simp only[ak]at B;obtain⟨c,Q,B⟩:=B;obtain⟨v,k1,k2⟩:=oI (dst:=Z d) (ty:=ty) (pos:=pos) (aft:=aft) (gd:=gd) H.inv G Q;exact ag2 B.symm k1 (k2 w (λ_=>rL.refl _ _ _))
  ·cases B
theorem Zg(H:l9 t h F w0 m f w)(S:Tok t own h F w0){op:Op}{qy:KO}(X:(if qy.kX then J else Zy P N num op O qy)=I)(v:XS own m qy=Z m')
  (hK:∀f' w',l9 t h F w0 m' f' w'->K' f' w'):vr P N ⟨O,op,ty,pos,aft,gd⟩ f w K':=by
 unfold XS at v
 split at v
 ·rename_i n a b;simp only[KO.kX,aF,if_false]at X
  split at v
  ·rename_i i o x hc hb
   split at v
   ·rename_i c Qx
    split at v
    ·rename_i Yu;obtain⟨rfl,V,B,Q⟩:=Yu;simp only[ae]at v;subst v;cases op<;>first|(exfalso;simp[Zy]at X;done)|skip
     rename_i T xa xv;simp only[Zy,ai,beq_iff_eq]at X;obtain⟨⟨hT,Kq⟩,qS⟩:=X;have hv:=u7 H Kq hc;simp only[PM]at hv;have hr:=cA H.inv qS;rw[hb]at hr;simp only[CR]at hr;obtain⟨G,hG,_⟩:=hr;obtain⟨h1,h2,h3,W,Y,hL,hV⟩:=H.mt;obtain⟨e,r,q1,q2,q3,q4,q5,q6,q7⟩:=H.mt.at_ Qx Y;have C:t.g∈F:=by
      rcases (S.own V).1 with h|h
      ·omega
      ·exact h
     have vl:=hL _ r q4;have yL:=(H.inv.fR _ (S.zero _ C).2.1).2 (t.p+(i * t.k+o));refine LK (aaR (λw=>run_sizeOf hT w) hv rfl hG.rY vl yL) (hK _ _ ?_);generalize xV:(fr f N).eval xv=val at *;obtain⟨hG',rfl⟩:=hG.Rb Q (w.setCell ⟨t.g,t.p+(i * t.k+o),O⟩ val);generalize hj:i * t.k+o=j at *;have ha:vG (Um h F) (λo=>o=.dM) w (w.setCell ⟨t.g,t.p+j,O⟩ val):={
      os:=rfl,tape:=rfl,output:=rfl
      size:=by rw[AY];exact aD _
      block:=λg hg hn=>ql _ _ _ _ (λe=>hn (by rw[e];simp[C]))
      cell:=λg q s=>by
       by_cases U:g=t.g
       ·subst U;have:=(S.zero _ C).1;simp only at s
        omega
       ·exact World.cell?_of_block (w:=w) (ql _ _ _ _ U)
      fR:=λg hg=>⟨by rw[AY];exact hg.1,λq=>by rw[G7];exact hg.2 q⟩ }
     have BJ:e.length=t.k:=h2 e (dS (by rw[<- ef];exact q1));have NR:(m.es.set i (gG e o [x])).flatten=gG m.es.flatten j [x]:=by
      rw[E0 m.es i o e [x] h2 q1 (by simpa using q2),hj]
     obtain⟨f1,f2⟩:=qN m.es i o 1 e h2 q1 q2;rw[hj]at f1 f2;obtain⟨l1,l2⟩:=hH.length _ Y;have UU:j < W.length:=by omega
     have hmt:MT t (w.setCell ⟨t.g,t.p+j,O⟩ val) (m.es.set i (gG e o [x])):=by
      refine⟨by simp[h1],λy hy=>?_,?_,gG W j [val],?_,?_,?_,λL=>by rw[(S.own V).2]at L;cases L⟩
      ·rcases gL hy with hy|rfl
       ·exact h2 y hy
       ·rw[Da _ _ _ (by simpa using (by omega))];exact BJ
      ·have hpe:[x].map D.plain=((m.es.flatten.map D.plain).drop j).take 1:=by
        rw[<- nC,<- kg,f1,q3];simp[B,Q]
       rw[NR,On,hpe,Cx _ _ _ (by rw[ay];exact f2)];exact h3
      ·rw[NR];have hFj:(t.Fs.drop j).take 1=[[]]:=by
        have:=hH.take _ 1 (hH.drop _ j Y);rw[f1,q3,q5]at this;simp only[hH]at this;obtain⟨v1,vs1,F1,Fs1,e1,e2,hR,_,rfl⟩:=this;rw[e2,(hR.Rb B w).2]
       have UW:hH (w.setCell ⟨t.g,t.p+j,O⟩ val) m.es.flatten W t.Fs:=hH.dF _ Y (λG hG be hb=>ql _ _ _ _ (S.fs G hG be hb).2);have:=hH.yv j UW (show hH (w.setCell ⟨t.g,t.p+j,O⟩ val) [x] [val] [[]] by simp only[hH];exact⟨val,[],[],[],rfl,rfl,hG',rfl,rfl⟩);rw[<- hFj,Cx t.Fs j 1 (by omega)]at this;exact this
      ·intro q y s;have hz':=s;simp only[gG,py]at s;by_cases K:q=j
       ·subst K;have e1:y=val:=by
         rw[bB,cY (by simp;omega)]at s;simp[cE (by omega:q<=W.length)]at s;exact s.symm
        subst e1;exact L0 _ _ _ _ vl
       ·rw[LZ _ _ _ _ (by omega)];refine hL q y ?_;rw[bB]at s;rcases dD q j with dR|xT
        ·rw[dr (by simp;omega),cS,if_pos dR]at s;exact s
        ·rw[cY (by simp;omega),aY,cE (by omega),cY (by simp;omega),fI]at s;simp only[py]at s;rw[show j+1+(q - j - 1)=q by omega]at s;exact s
      ·intro q s;have K:q≠j:=λe=>by
        subst e;rw[q6,B]at s;cases s
       rw[<- hV.1 q s];simp only[gG,py,bB];rcases dD q j with dR|xT
       ·rw[dr (by simp;omega),cS,if_pos dR]
       ·rw[cY (by simp;omega),aY,cE (by omega),cY (by simp;omega),fI];simp only[py];rw[show j+1+(q - j - 1)=q by omega]
     have i1:=H.go (sp':=m.sp.map λp=>(p.1,p.2.yr)) ha hmt (λd c R=>?_)
     ·simp only[MS.yr,MS.set,q1];exact i1
     ·have key:∀l:M (Nat×MC),look (l.map λp=>(p.1,p.2.yr)) d=(look l d).map MC.yr:=by
       intro l
       induction l with
       |nil=>rfl
       |cons p l ih=>
        simp only[aW,look,ih]
        split<;>rfl
      rw[key]at R;simp only[ak]at R;obtain⟨c',R,rfl⟩:=R;cases c' with
      |sub i o n=>exact .inl rfl
      |_=>exact .inr ⟨R,λh=>by simp[MC.yr,MC.Tf]at h⟩
    ·cases v
   ·cases v
  ·cases v
 ·cases v
end
end
section
open Go.RowKit
section
variable {P:Program} {N:Nat} {t:Tree} {own:Bool} {h:Nat->Nat} {F:M Nat} {w0:World} {num:Nat->FuncId} {cf:Nat->M A->u (M A×M A)} {mf:Nat->Bool->M D->Int->u (M D×Int)}
theorem AJ(B:∀g a r o,cf g a=Z (r,o)->yw w0 F P (num g) a r o)(C:∀g R L q K G,mf g R L q=Z (K,G)->sr w0 F P (num g) R L q K G)(l:Tok t own h F w0){c:Array Oper}{Kn:Fm->World->Prop} :
  ∀(os:M Oper) (e:M KI) {m j:MS} {f:Fm} {w:World},Dz P N num c os e=I->rH cf mf own t.k e m=Z j->l9 t h F w0 m f w->(∀v i,l9 t h F w0 j v i->Kn v i)->Ls P N c Kn os f w
 |[],[],m,j,f,w,_,b,n,p=>by
  simp only[rH,ae]at b;subst b;exact j9 (p f w n)
 |[],_::_,_,_,_,_,h,_,_,_=>by simp[Dz]at h
 |_::_,[],_,_,_,_,h,_,_,_=>by simp[Dz]at h
 |⟨dst,op,ty,pos,T,gd⟩::os,⟨d,V,U⟩::e,m,j,f,w,Q,b,n,p=>by
  simp only[Dz,ai,okI,beq_iff_eq]at Q;obtain⟨⟨⟨⟨rfl,hd⟩,S⟩,X⟩,H⟩:=Q;simp only[rH]at b
  split at b
  ·rename_i W s;unfold J_ at s;cases U with
   |some x=>cases s
   |none=>
    cases gd with
    |some x=>simp[OE]at S
    |none=>
     refine gf wn ?_
     cases dst with
     |some d=>
      refine Zh B C n l ?_ s (λv i y=>AJ B C l os e H b y p)
      simp_all
     |none=>
      refine Zg (num:=num) n l ?_ s (λv i y=>AJ B C l os e H b y p)
      simp_all
  ·cases b
theorem l9.dF{m:MS}{f:Fm}{w:World}(b:l9 t h F w0 m f w)(e:lE):l9 t h F w0 (m.dF e) f w:=
 ⟨b.inv.sub (λd c a=>ma _ _ d c a) (λd c a=>ma _ _ d c a) (λd c a=>ma _ _ d c a),b.mt,λd c a=>b.sp d c (ma _ _ d c a),b.lt⟩
theorem gX(H:∀g a r o,cf g a=Z (r,o)->yw w0 F P (num g) a r o)(L:∀g ag ds q iF q',mf g ag ds q=Z (iF,q')->sr w0 F P (num g) ag ds q iF q')(Q:Tok t own h F w0)(n:Nat):∀(k:K) (c:Code) {m:MS} {f:Fm} {w:World} {e:Ex} {G:MS},pI P N num k c=I->eD cf mf own t.k n k m=Z (e,G)->l9 t h F w0 m f w->
  W P N c (λf w=>e=.norm/\l9 t h F w0 G f w) (λi f w=>e=.exit i/\l9 t h F w0 G f w) (λf w=>e=.ret/\l9 t h F w0 G f w) f w
 | .skip,c,m,f,w,e,G,B,s,C=>by
  cases c<;>simp[pI]at B
  simp only[eD,ae,aI]at s;obtain⟨rfl,rfl⟩:=s;exact zm ⟨rfl,C⟩
 | .Rf is kp,c,m,f,w,e,G,B,s,C=>by
  cases c with
  |region id U draw=>
   cases draw with
   |true=>simp[pI]at B
   |false=>
    simp only[pI]at B;simp only[eD]at s
    split at s
    ·rename_i V S;simp only[ae,aI]at s;obtain⟨rfl,rfl⟩:=s;have hl:=AJ (Kn:=λf w=>Ex.norm=.norm/\l9 t h F w0 (V.dF kp) f w) H L Q U.toList is B S C (λf' w' rE=>⟨rfl,rE.dF kp⟩);obtain⟨l⟩:=U;exact fg (l:=l) hl
    ·cases s
  |_=>simp[pI]at B
 | .Wk is kp,c,m,f,w,e,G,B,s,C=>by simp[eD]at s
 | .seq a b,c,m,f,w,e,G,B,s,C=>by
  cases c with
  |seq R cb=>
   simp only[pI,ai]at B;simp only[eD]at s;refine jR ?_
   split at s
   ·rename_i V S;refine my (gX H L Q n a R B.1 S C) (λf w v=>gX H L Q n b cb B.2 s v.2) (λi f w v=>?_) (λf w v=>?_)
    ·cases v.1
    ·cases v.1
   ·rename_i Y;refine my (gX H L Q n a R B.1 s C) (λf w v=>?_) (λi f w v=>v) (λf w v=>v);obtain⟨rfl,_⟩:=v;exact absurd s (Y G)
  |_=>simp[pI]at B
 | .cond x a b,c,m,f,w,e,G,B,s,C=>by
  cases c with
  |cond y R cb=>
   simp only[pI,ai]at B;obtain⟨⟨S,h2⟩,h3⟩:=B;simp only[eD]at s;have X:=cA C.inv S
   split at s
   ·rename_i b0 ht;rw[ht]at X;have X:=rQ X;cases b0 with
    |true=>exact CB X (gX H L Q n a R h2 (by simpa using s) C)
    |false=>exact zk X (gX H L Q n b cb h3 (by simpa using s) C)
   ·cases s
  |_=>simp[pI]at B
 | .block i a,c,m,f,w,e,G,B,s,C=>by
  cases c with
  |block j R=>
   simp only[pI,ai,beq_iff_eq]at B;obtain⟨rfl,B⟩:=B;simp only[eD]at s;refine xL ?_
   split at s
   ·rename_i i' V S;refine my (gX H L Q n a R B S C) (λf w v=>by cases v.1) (λq f w v=>?_) (λf w v=>by cases v.1);obtain⟨e1,v⟩:=v;cases e1
    split at s
    ·rename_i T;simp only[ae,aI]at s;obtain⟨rfl,rfl⟩:=s;rw[if_pos T];exact⟨rfl,v⟩
    ·rename_i T;simp only[ae,aI]at s;obtain⟨rfl,rfl⟩:=s;rw[if_neg T];exact⟨rfl,v⟩
   ·rename_i Y;refine my (gX H L Q n a R B s C) (λf w v=>v) (λq f w v=>?_) (λf w v=>v);obtain⟨rfl,_⟩:=v;exact absurd s (Y q G)
  |_=>simp[pI]at B
 | .loop a,c,m,f,w,e,G,B,s,C=>by
  cases c with
  |loop R=>
   simp only[pI]at B;simp only[eD]at s;refine Mo (λp f w=>∃m,l9 t h F w0 m f w/\iterM (eD cf mf own t.k n a) p m=Z (e,G)) n ⟨m,C,s⟩ ?_
   rintro p f w ⟨m,C,s⟩
   cases p with
   |zero=>simp[iterM]at s
   |succ p=>
    simp only[iterM]at s
    split at s
    ·rename_i V S;refine my (gX H L Q n a R B S C) (λf w v=>⟨p,by omega,V,v.2,s⟩) (λi f w v=>by cases v.1) (λf w v=>by cases v.1)
    ·rename_i Y;refine my (gX H L Q n a R B s C) (λf w v=>?_) (λi f w v=>v) (λf w v=>v);obtain⟨rfl,_⟩:=v;exact absurd s (Y G)
  |_=>simp[pI]at B
 | .exit i,c,m,f,w,e,G,B,s,C=>by
  cases c<;>simp[pI]at B
  subst B;simp only[eD,ae,aI]at s;obtain⟨rfl,rfl⟩:=s;exact Mn ⟨rfl,C⟩
 | .ret,c,m,f,w,e,G,B,s,C=>by
  cases c<;>simp[pI]at B
  simp only[eD,ae,aI]at s;obtain⟨rfl,rfl⟩:=s;exact JE ⟨rfl,C⟩
 | .share r a,c,m,f,w,e,G,B,s,C=>by simp[eD]at s
 | .Mu d a,c,m,f,w,e,G,B,s,C=>by simp[eD]at s
end
theorem GN{r:Nat}{x:u (Ex×MS)}{es:M (M D)}{q:Int}(h:x_ r x=Z (es,q)):∃e m,x=Z (e,m)/\(e=.norm\/e=.ret)/\m.s.get r=.d (.int .i64 q)/\m.es=es:=by
 unfold x_ at h
 grind
theorem Inv.chg{h:Nat->Nat}{F:M Nat}{b:World}{s:St}{f:Fm}{w:World}(a:Inv (Um h F) h F b s f w):CK h F b w h:=
 ⟨a.os,a.tape,a.output,a.size,a.frame,a.cell,a.mono,a.hold,a.fQ,a.fR⟩
theorem abm{es:M (M D)}(h:∀b∈es.flatten.map D.plain,b=I):flat es:=λe c x a=>h _ (cJ (fv.2 ⟨e,c,a⟩))
theorem IK{P:Program}{num:Nat->FuncId}{T:Nat->u KF}(hm:P.follows .mixedOrders=I)(hj:Ur P num)(hT:∀f kf,T f=Z kf->OkK P num f kf) :
  ∀(n f:Nat) (Q:Bool) (C:M D) (q:Int) (S:M D) (R:Int),HL T n f Q C q=Z (S,R)->En P (num f) Q C q S R
 |0,f,Q,C,q,S,R,p=>by simp[HL]at p
 |n+1,f,Q,C,q,S,R,p=>by
  have nc:∀g a r o,Ag T n g a=Z (r,o)->pz P (num g) a r o:=λg a r o=>xp hm hj hT n g a r o;have nT:∀g Q C q S R,HL T n g Q C q=Z (S,R)->En P (num g) Q C q S R:=λg Q C q S R=>IK hm hj hT n g Q C q S R;simp only[HL]at p
  split at p
  ·rename_i body r hkf;have cU:=(hT f _ hkf).1 (by simp);unfold okF at cU
   split at cU
   ·rename_i K BL
    split at cU
    ·rename_i c hc;simp only[ai]at cU;obtain⟨⟨NX,abw⟩,BM⟩:=cU;intro w h v vs L UP hr amw amx hq kl hz fQ;have dR:∀g∈L.flatten.map cz,g < w.heap.size:=λg H=>by
      obtain⟨be,X,rfl⟩:=cj.1 H;exact fp.lt _ (hH.toC _ hr) be X
     have U:∀g∈L.flatten.map cz,h g=0/\oZ w g/\g < w.heap.size:=λg H=>by
      have B:=dR g H;obtain⟨be,X,rfl⟩:=cj.1 H;obtain⟨G,hG,X⟩:=fv.1 X;exact⟨(hz G hG be X).1,(hz G hG be X).2,B⟩
     refine enter (N:=K.ntmps) BL hc rfl abw ?_;have i0:Inv (Um h (L.flatten.map cz)) h (L.flatten.map cz) w ⟨[],[],[]⟩ (λi=>#[v,.int .i64 q].getD i undef) w:={
      sl:=λd c B=>by simp[look]at B
      bx:=λd c B=>by simp[look]at B
      rw:=λd c B=>by simp[look]at B
      own:=λg H=>by
       by_cases hF:g∈L.flatten.map cz
       ·exact⟨dR g hF,.inr hF⟩
       ·simp only[if_neg hF]at H;exact absurd rfl H
      oq:=λg b H=>by dsimp only at H;split at H<;>cases H
      fQ:=fQ,os:=rfl,tape:=rfl,output:=rfl,size:=aD _,frame:=λ_ _ _=>rfl,cell:=λ_ _ _ _=>rfl,mono:=λ_ _=>aD _,hold:=λ_ _ _=>rfl,fR:=λ_ h=>h }
     have i1:Inv (Um h (L.flatten.map cz)) h (L.flatten.map cz) w ⟨[(1,.d (.int .i64 q))],[],[]⟩ (λi=>#[v,.int .i64 q].getD i undef) w:=i0.ZH 1 _ (iM hq);have abz:K.results=#[.tmp r]/\fV r K.ntmps=I:=by
      obtain⟨rs⟩:∃rs,rs=K.results.toList:=⟨_,rfl⟩
      match B:K.results.toList,BM with
      |[],h=>rw[B]at BM;simp[LL]at BM
      |_::_::_,h=>rw[B]at BM;simp[LL]at BM
      |[x],h=>
       rw[B]at BM;simp only[LL,fZ]at BM;cases x with
       |cell a T=>simp[OG]at BM
       |tmp a=>
        simp only[OG,ai,beq_iff_eq]at BM;obtain⟨rfl,h2⟩:=BM;exact⟨by rw[<- zq (xs:=K.results),B],h2⟩
     split at p
     ·rename_i xt;subst xt;have Aw:=amw rfl
      split at p
      ·rename_i b is kp CM
       split at p
       ·rename_i m1 amE
        split at p
        ·rename_i uj q1 Dq;simp only[ae,aI]at p;obtain⟨rfl,rfl⟩:=p;obtain⟨ex,V,hev,hex,Yz,yn⟩:=GN Dq;cases c with
         |seq ca cb=>
          simp only[pI,ai]at NX;obtain⟨UZ,amT⟩:=NX;cases ca with
          |region id ops draw=>
           cases draw with
           |true=>simp[pI]at UZ
           |false=>
            simp only[pI]at UZ;refine jR ?_;obtain⟨l⟩:=ops;refine fg (l:=l) ?_;cases l with
            |nil=>simp[Dz]at UZ
            |cons o1 os=>
             obtain⟨dst,op,ty,pos,aft,gd⟩:=o1;simp only[Dz,ai,okI,beq_iff_eq]at UZ;obtain⟨⟨⟨⟨rfl,hd⟩,H⟩,kN⟩,pT⟩:=UZ;cases gd with
             |some x=>simp[OE]at H
             |none=>
              simp only[KO.kX,aF,if_false]at kN;cases op<;>first|(exfalso;simp[Zy]at kN;done)|skip
              rename_i T0 x0;simp only[Zy]at kN;have hx0:(fr (λi=>#[v,.int .i64 q].getD i undef) K.ntmps).eval x0=v:=by
               cases x0<;>simp only[km,ai,beq_iff_eq,aF]at kN
               obtain⟨rfl,hN⟩:=kN;rw[DR _ (by simpa using hN)];rfl
              refine gf wn ?_;have mH:(execOp (fr (λi=>#[v,.int .i64 q].getD i undef) K.ntmps).eval ⟨Z b,.box T0 x0,ty,pos,aft,O⟩).run P w=.ok (.value (.pointer (Z ⟨w.heap.size,0,O⟩))) (w.alloc (.cells vs.toArray T0)):=by
               have h0:(execOp (fr (λi=>#[v,.int .i64 q].getD i undef) K.ntmps).eval ⟨Z b,.box T0 x0,ty,pos,aft,O⟩).run P w=.ok (.value (.pointer (Z ⟨w.heap.size,0,O⟩))) (w.alloc (.cells ((fr (λi=>#[v,.int .i64 q].getD i undef) K.ntmps).eval x0).cells.toList.toArray T0)):=by
                simp[execOp,Instr.box,newVar,newRow,newObj,Sem.run]
               rw[hx0]at h0;have h3:v.cells.toList.toArray=vs.toArray:=by rw[Aw];simp[Value.cells]
               rw[h3]at h0;exact h0
              refine Jk mH λw1 hs1 UW hB=>?_;obtain⟨l1,l2⟩:=hH.length _ hr;have abB:Tok ⟨w.heap.size,0,C.length,1,L,vs,C.map D.plain,I⟩ J h (L.flatten.map cz) w:=⟨λG hG be X=>by
                have QG:be.1∈L.flatten.map cz:=cJ (fv.2 ⟨G,hG,X⟩);have:=dR _ QG;exact⟨QG,λe=>by simp only at e;omega⟩,kl,U,λh=>by cases h⟩
              have hkr:hH w1 C vs L:=hH.dF _ hr (λG hG be X=>UW.block _ (dR _ (cJ (fv.2 ⟨G,hG,X⟩))));have iw:Inv (Um h (L.flatten.map cz)) h (L.flatten.map cz) w ⟨[(1,.d (.int .i64 q))],[],[]⟩ (λi=>#[v,.int .i64 q].getD i undef) w1:=i1.Bi UW;have amN:l9 ⟨w.heap.size,0,C.length,1,L,vs,C.map D.plain,I⟩ h (L.flatten.map cz) w ⟨⟨[(1,.d (.int .i64 q))],[],[]⟩,[],[C]⟩ (λi=>#[v,.int .i64 q].getD i undef) w1:=
               ⟨iw,⟨rfl,λe p=>(by simp at p;simp[p]),by simp,vs,by simpa using hkr,hB.QR,λ_ _=>rfl,λ_=>rfl⟩,λd c B=>by simp[look]at B,.inr (by simp only;omega)⟩
              have amO:=amN.ko (d:=b) (c:=.ep 0 0) (v:=.pointer (Z ⟨w.heap.size,0,O⟩)) (by simp[PM]);refine AJ (λg a r o p=>(nc g a r o p).at_ UP) (λg Q C q S R p=>(nT g Q C q S R p).at_ UP) abB os is pT amE amO λf2 w2 Wr=>?_;have Yr:=gX (P:=P) (N:=K.ntmps) (num:=num) (λg a r o p=>(nc g a r o p).at_ UP) (λg Q C q S R p=>(nT g Q C q S R p).at_ UP) abB n CM cb amT hev (Wr.dF kp);have done:∀F s,l9 ⟨w.heap.size,0,C.length,1,L,vs,C.map D.plain,I⟩ h (L.flatten.map cz) w V F s->∃m,(results K (fr F K.ntmps).tmps).run P s=.ok m s/\Ending.returned m=.returned (.int .i64 q1)/\IntKind.i64.wrap q1=q1/\hH s uj vs L/\uj.map D.plain=C.map D.plain/\CK h (L.flatten.map cz) w s h:=by
               intro F s rE;have H:=rE.inv.get r;rw[Yz]at H;obtain⟨g1,g2⟩:=iH H;obtain⟨m1',m2',m3',Ia,m4',m5',m6',m7'⟩:=rE.mt;rw[yn]at m3' m4';have e1:=m7' rfl;simp only at e1
               subst e1;refine⟨_,Jo abz.1 g1 abz.2,rfl,g2,by simpa using m4',by simpa using m3',rE.inv.chg⟩
              refine my Yr (λF s iJ=>done F s iJ.2) (λi F s iJ=>?_) (λF s iJ=>done F s iJ.2);rcases hex with rfl|rfl<;>cases iJ.1
          |_=>simp[pI]at UZ
         |_=>simp[pI]at NX
        ·cases p
       ·cases p
      ·cases p
     ·rename_i xt;have xt:Q=J:=by simpa using xt
      subst xt
      split at p
      ·rename_i k fl es
       split at p
       ·rename_i jJ q1 Dq;simp only[ae,aI]at p;obtain⟨rfl,rfl⟩:=p;obtain⟨ex,V,hev,hex,Yz,rfl⟩:=GN Dq;have hv:=amx rfl;subst hv;simp only[hH]at hr;obtain⟨v',_,Y,_,hvv,rfl,zA,rfl,rfl⟩:=hr;simp only[cl,and_true]at hvv;subst hvv;simp only[eH,List.flatten_nil,aK]at *;have aeS:=zA;simp only[Rp]at zA;obtain⟨A,n0,cc,hvA,Fc,DU,hcm,uy,hkp,wq,aiE⟩:=zA;have fin:∀(t:Tree),Tok t I h (Y.map cz) w->t.k=k->l9 t h (Y.map cz) w ⟨⟨[(1,.d (.int .i64 q))],[],[]⟩,[(0,.lst)],es⟩ (λi=>#[v,.int .i64 q].getD i undef) w->
          (∀F s,l9 t h (Y.map cz) w V F s->Rp s (.list k fl V.es) v Y)->W P K.ntmps c (λf s=>∃m,(results K (fr f K.ntmps).tmps).run P s=.ok m s/\Ending.returned m=.returned (.int .i64 q1)/\IntKind.i64.wrap q1=q1/\hH s [.list k fl V.es] [v] [Y]/\[D.list k fl V.es].map D.plain=[D.list k fl es].map D.plain/\CK h (Y.map cz) w s h) (λ_ _ _=>False) (λf s=>∃m,(results K (fr f K.ntmps).tmps).run P s=.ok m s/\Ending.returned m=.returned (.int .i64 q1)/\IntKind.i64.wrap q1=q1/\hH s [.list k fl V.es] [v] [Y]/\[D.list k fl V.es].map D.plain=[D.list k fl es].map D.plain/\CK h (Y.map cz) w s h) (λi=>#[v,.int .i64 q].getD i undef) w:=by
         intro t abB Wu hmi aiC;subst Wu;have Yr:=gX (P:=P) (N:=K.ntmps) (num:=num) (λg a r o p=>(nc g a r o p).at_ UP) (λg Q C q S R p=>(nT g Q C q S R p).at_ UP) abB n body c NX hev hmi;have done:∀F s,l9 t h (Y.map cz) w V F s->∃m,(results K (fr F K.ntmps).tmps).run P s=.ok m s/\Ending.returned m=.returned (.int .i64 q1)/\IntKind.i64.wrap q1=q1/\hH s [.list t.k fl V.es] [v] [Y]/\[D.list t.k fl V.es].map D.plain=[D.list t.k fl es].map D.plain/\CK h (Y.map cz) w s h:=by
          intro F s rE;have H:=rE.inv.get r;rw[Yz]at H;obtain⟨g1,g2⟩:=iH H;refine⟨_,Jo abz.1 g1 abz.2,rfl,g2,?_,rfl,rE.inv.chg⟩;simp only[hH];exact⟨v,[],Y,[],rfl,rfl,aiC F s rE,rfl,rfl⟩
         refine my Yr (λF s iJ=>done F s iJ.2) (λi F s iJ=>?_) (λF s iJ=>done F s iJ.2);rcases hex with rfl|rfl<;>cases iJ.1
        rcases aiE with ⟨aiS,hF0⟩|⟨YD,b,o,xs,G,hA,hF1,hE,hL⟩
        ·subst hF0;have yn:es=[]:=cH.1 (by omega);subst yn;refine fin ⟨0,0,k,0,[],[],[],J⟩ ⟨λG hG=>by simp at hG,by simp,λg H=>by simp at H,λ_=>⟨.inl rfl,rfl⟩⟩ rfl ⟨i1,⟨rfl,λe p=>by simp at p,rfl,[],by simp[hH],λj m hu=>by simp at hu,λj hj=>by simp at hj,λh=>by cases h⟩,λd c B=>?_,.inl rfl⟩ (λF s rE=>?_)
         ·simp only[look]at B
          split at B
          ·rename_i hd;subst hd;simp only[ae]at B;subst B;simp only[PM];exact⟨A,cc,by simpa [aiS] using hvA,.inl trivial,jt _⟩
          ·cases B
         ·have:V.es=[]:=cH.1 rE.mt.1;rw[this];simp only[Rp];exact⟨A,n0,cc,hvA,by simpa using Fc,DU,hcm,λ_=>jE,hkp,λe p=>by simp at p,.inl ⟨aiS,trivial⟩⟩
        ·subst hF1;obtain⟨Gs,rfl,hGs⟩:=hH.ofC _ (fw.toFlat _ hE);simp only[aW]at kl U i1 fin;obtain⟨BH,DS⟩:=cC.1 kl;refine fin ⟨b,o,k,n0,Gs,xs,es.flatten.map D.plain,J⟩ ⟨λG hG be X=>?_,DS,U,λ_=>⟨.inr (by simp),rfl⟩⟩ rfl ⟨i1,⟨Fc.symm,wq,rfl,xs,hGs,hL,λ_ _=>rfl,λh=>by cases h⟩,λd c B=>?_,.inr (dR b (by simp))⟩ (λF s rE=>?_)
         ·have QG:be.1∈Gs.flatten.map cz:=cJ (fv.2 ⟨G,hG,X⟩);exact⟨bP _ QG,λe=>BH ((show be.1=b from e)▸QG)⟩
         ·simp only[look]at B
          split at B
          ·rename_i hd;subst hd;simp only[ae]at B;subst B;simp only[PM];exact⟨A,cc,by simpa using hvA,.inr hA,by omega⟩
          ·cases B
         ·obtain⟨m1,m2,m3,Ia,m4,m5,m6⟩:=rE.mt;simp only[Rp];refine⟨A,n0,cc,hvA,m1.symm,DU,hcm,λhf=>?_,hkp,m2,.inr ⟨YD,b,o,Ia,Gs.flatten,hA,rfl,fw.Zu _ (hH.toC _ m4),m5⟩⟩;refine abm λx hx=>?_;simp only at m3
          rw[m3]at hx;obtain⟨y,hy,rfl⟩:=cj.1 hx;obtain⟨e,p,hy⟩:=fv.1 hy;exact uy hf e p y hy
       ·cases p
      ·cases p
    ·cases cU
   ·cases cU
  ·cases p
end
section
abbrev Cf:=Nat->M A->u (M A×M A)
abbrev Mf:=Nat->Bool->M D->Int->u (M D×Int)
inductive Qu where
 |c (f:Nat) (a:List A) (r:List A×List A)
 |m (f:Nat) (g:Bool) (ds:List D) (q:Int) (r:List D×Int)
def Qu.ok(e:Cf)(b:Mf):Qu->Prop
 | .c f a r=>e f a=Z r
 | .m f g d q r=>b f g d q=Z r
abbrev CI:=M Qu
def Told(b:Cf)(a:Mf)(L:CI):Prop:=∀t∈L,t.ok b a
theorem Told.nil{b:Cf}{a:Mf}:Told b a []:=λ_ h=>by simp at h
theorem Told.left{c:Cf}{b:Mf}{L a:CI}(h:Told c b (L++a)):Told c b L:=λt d=>h t (by simp[d])
theorem Told.right{c:Cf}{b:Mf}{L a:CI}(h:Told c b (L++a)):Told c b a:=λt d=>h t (by simp[d])
theorem Told.append{d:Cf}{c:Mf}{L a:CI}(h:Told d c L)(e:Told d c a):Told d c (L++a):=λt b=>by
 rcases ba.1 b with b|b
 ·exact h t b
 ·exact e t b
section
variable {cf:Cf} {mf:Mf}
theorem abf{s p:St}{d:u Nat}{o:KO}(a:lP cf mf s d o=Z p):∃L,Told cf mf L/\∀(b:Cf) (e:Mf),Told b e L->lP b e s d o=Z p:=by
 cases o with
 |call f D=>
  simp only[lP,yE]at a
  split at a
  ·cases a
  ·rename_i as has
   split at a
   ·rename_i B
    split at a
    ·cases a
    ·rename_i i outs r;refine⟨[.c f as (i,outs)],λt g=>by simp at g;subst g;exact r,λb e h=>?_⟩;have l:b f as=Z (i,outs):=h (.c f as (i,outs)) (by simp);simp only[lP,yE,has,B,if_true,l];exact a
   ·cases a
 |mrk f x y=>
  simp only[lP]at a
  split at a
  ·rename_i d0 q w
   split at a
   ·rename_i n C
    split at a
    ·rename_i v
     split at a
     ·rename_i k j A;refine⟨[.m f (fW s x).isAgg n q (k,j)],λt g=>by simp at g;subst g;exact A,λb e h=>?_⟩;have l:e f (fW s x).isAgg n q=Z (k,j):=h (.m f (fW s x).isAgg n q (k,j)) (by simp);simp only[lP,w,C,v,if_true,l];exact a
     ·cases a
    ·cases a
   ·cases a
  ·cases a
 |_=>exact⟨[],Told.nil,λb e _=>a⟩
theorem Su{s f:St}{d:u Nat}{o:KO}(c:Dp cf mf s d o=Z f):∃L,Told cf mf L/\∀(a:Cf) (b:Mf),Told a b L->Dp a b s d o=Z f:=by
 unfold Dp at c
 split at c
 ·rename_i e;exact⟨[],Told.nil,λa b _=>by simp only[Dp,e,if_true];exact c⟩
 ·rename_i e;obtain⟨L,i,g⟩:=abf c;exact⟨L,i,λa b h=>by simp only[Dp,e];exact g a b h⟩
theorem J8{s d:St}{i:KI}(a:vB cf mf s i=Z d):∃L,Told cf mf L/\∀(b:Cf) (c:Mf),Told b c L->vB b c s i=Z d:=by
 unfold vB at a ⊢
 split at a
 ·exact Su a
 ·split at a
  ·split at a
   ·obtain⟨L,e,f⟩:=Su a;exact⟨L,e,λb c h=>by simp_all⟩
   ·exact⟨[],Told.nil,λb c _=>by simp_all⟩
  ·exact⟨[],Told.nil,λb c _=>by simp_all⟩
  ·cases a
theorem IL:∀(f:M KI) {s e:St},nO cf mf f s=Z e->∃L,Told cf mf L/\∀(c:Cf) (d:Mf),Told c d L->nO c d f s=Z e
 |[],s,e,b=>⟨[],Told.nil,λc d _=>b⟩
 |i::f,s,e,b=>by
  simp only[nO]at b
  split at b
  ·rename_i l g;obtain⟨L,a1,a2⟩:=J8 g;obtain⟨a,k,j⟩:=IL f b;exact⟨L++a,a1.append k,λc d h=>by simp only[nO,a2 c d h.left,j c d h.right]⟩
  ·cases b
theorem o7:∀(l:KT) {o:lE} {m:M (M Nat×Nat)} {s n:St},fP cf mf o l m s=Z n->∃L,Told cf mf L/\∀(f:Cf) (k:Mf),Told f k L->fP f k o l m s=Z n
 | .nil,o,m,s,n,e=>⟨[],Told.nil,λf k _=>e⟩
 | .op ⟨j,q,X,V,i⟩ l,o,m,s,n,e=>by
  simp only[fP]at e;cases q with
  |true=>
   simp only[if_true]at e
   split at e
   ·rename_i p
    split at e
    ·rename_i c b A B;obtain⟨L,a1,a2⟩:=o7 l e;exact⟨L,a1,λf k h=>by simp only[fP,if_true,p,A,B];exact a2 f k h⟩
    ·cases e
   ·rename_i g K p
    split at e
    ·rename_i b H
     split at e
     ·rename_i G
      split at e
      ·rename_i c W A B;obtain⟨L,a1,a2⟩:=o7 l e;exact⟨L,a1,λf k h=>by simp only[fP,if_true,p,H,G,A,B];exact a2 f k h⟩
      ·cases e
     ·rename_i G;obtain⟨L,a1,a2⟩:=o7 l e;exact⟨L,a1,λf k h=>by simp only[fP,if_true,p,H,G,if_false];exact a2 f k h⟩
    ·rename_i v;obtain⟨L,a1,a2⟩:=o7 l e;exact⟨L,a1,λf k h=>by simp only[fP,if_true,p,v];exact a2 f k h⟩
    ·cases e
  |false=>
   simp only[mi,aF,if_false]at e
   split at e
   ·rename_i P C
    split at e
    ·rename_i t;obtain⟨L,a1,a2⟩:=J8 C;obtain⟨d,F,D⟩:=o7 l e;exact⟨L++d,a1.append F,λf k h=>by simp only[fP,mi,aF,if_false,a2 f k h.left,t,if_true];exact D f k h.right⟩
    ·cases e
   ·cases e
 | .alt x l r,o,m,s,n,e=>by
  have y:mi cf mf x m s (fP cf mf o l)=Z n/\fP cf mf o r m s=Z n:=by
   simp only[fP,both]at e
   split at e
   ·rename_i a b U T
    split at e
    ·rename_i N;subst N;cases e;exact⟨U,T⟩
    ·cases e
   ·cases e
  obtain⟨e,w⟩:=y;obtain⟨R,S,Q⟩:=o7 r w;simp only[mi]at e
  split at e
  ·rename_i P C
   split at e
   ·rename_i t;obtain⟨L,a1,a2⟩:=J8 C;obtain⟨d,F,D⟩:=o7 l e;refine⟨(L++d)++R,(a1.append F).append S,λf k h=>?_⟩;simp only[fP,mi,a2 f k h.left.left,t,if_true,D f k h.left.right,Q f k h.right,both]
   ·cases e
  ·cases e
theorem jD:∀(k:K) {n:Nat} {s:St} {r:Ex×St},iW cf mf n k s=Z r->∃L,Told cf mf L/\∀(j:Cf) (l:Mf) (o:Nat),Told j l L->n<=o->iW j l o k s=Z r
 | .skip,n,s,r,g=>⟨[],Told.nil,λj l o _ _=>by simpa [iW] using g⟩
 | .Rf is H,n,s,r,g=>by
  simp only[iW]at g
  split at g
  ·rename_i y q;obtain⟨L,a1,a2⟩:=IL is q;exact⟨L,a1,λj l o h _=>by simp only[iW,a2 j l h];exact g⟩
  ·cases g
 | .Wk is H,n,s,r,g=>by
  simp only[iW]at g
  split at g
  ·rename_i y q;obtain⟨L,a1,a2⟩:=o7 is q;exact⟨L,a1,λj l o h _=>by simp only[iW,a2 j l h];exact g⟩
  ·cases g
 | .seq a b,n,s,r,g=>by
  simp only[iW]at g
  split at g
  ·rename_i y q;obtain⟨L,a1,a2⟩:=jD a q;obtain⟨f,F,D⟩:=jD b g;exact⟨L++f,a1.append F,λj l o h p=>by simp only[iW,a2 j l o h.left p];exact D j l o h.right p⟩
  ·rename_i B;obtain⟨L,a1,a2⟩:=jD a g;refine⟨L,a1,λj l o h p=>?_⟩;simp only[iW,a2 j l o h p];obtain⟨e,w⟩:=r;cases e with
   |norm=>exact absurd g (B w)
   |_=>rfl
 | .cond x a b,n,s,r,g=>by
  simp only[iW]at g
  split at g
  ·rename_i t G;cases t with
   |true=>
    simp only[if_true]at g;obtain⟨L,a1,a2⟩:=jD a g;exact⟨L,a1,λj l o h p=>by simp only[iW,G,if_true];exact a2 j l o h p⟩
   |false=>
    simp only[aF,if_false]at g;obtain⟨L,a1,a2⟩:=jD b g;exact⟨L,a1,λj l o h p=>by simp only[iW,G,aF,if_false];exact a2 j l o h p⟩
  ·cases g
 | .block i a,n,s,r,g=>by
  simp only[iW]at g
  split at g
  ·rename_i S y q;obtain⟨L,a1,a2⟩:=jD a q;exact⟨L,a1,λj l o h p=>by simp only[iW,a2 j l o h p];exact g⟩
  ·rename_i B;obtain⟨L,a1,a2⟩:=jD a g;refine⟨L,a1,λj l o h p=>?_⟩;simp only[iW,a2 j l o h p];obtain⟨e,w⟩:=r;cases e with
   |exit i=>exact absurd g (B i w)
   |_=>rfl
 | .loop a,n,s,r,g=>by
  simp only[iW]at g;have go:∀(m:Nat) (s:St),iter (iW cf mf n a) m s=Z r->∃L,Told cf mf L/\∀(j:Cf) (l:Mf) (o v:Nat),Told j l L->n<=o->m<=v->iter (iW j l o a) v s=Z r:=by
   intro m
   induction m with
   |zero=>intro s h;simp[iter]at h
   |succ m N=>
    intro s h;simp only[iter]at h
    split at h
    ·rename_i y q;obtain⟨L,a1,a2⟩:=jD a q;obtain⟨f,F,D⟩:=N y h;refine⟨L++f,a1.append F,λj l o v C p P=>?_⟩;obtain⟨A,rfl⟩:∃c,v=c+1:=⟨v - 1,by omega⟩
     simp only[iter,a2 j l o C.left p];exact D j l o A C.right p (by omega)
    ·rename_i B;obtain⟨L,a1,a2⟩:=jD a h;refine⟨L,a1,λj l o v C p P=>?_⟩;obtain⟨A,rfl⟩:∃c,v=c+1:=⟨v - 1,by omega⟩
     simp only[iter,a2 j l o C p];obtain⟨e,w⟩:=r;cases e with
     |norm=>exact absurd h (B w)
     |_=>rfl
  obtain⟨L,a1,a2⟩:=go n s g;exact⟨L,a1,λj l o h p=>by simp only[iW];exact a2 j l o o h p p⟩
 | .exit i,n,s,r,g=>⟨[],Told.nil,λj l o _ _=>by simpa [iW] using g⟩
 | .ret,n,s,r,g=>⟨[],Told.nil,λj l o _ _=>by simpa [iW] using g⟩
 | .share R a,n,s,r,g=>by
  simp only[iW]at g;obtain⟨L,a1,a2⟩:=jD a g;exact⟨L,a1,λj l o h p=>by simp only[iW];exact a2 j l o h p⟩
 | .Mu d a,n,s,r,g=>by
  simp only[iW]at g
  split at g
  ·rename_i Q hd;obtain⟨L,a1,a2⟩:=jD a g;exact⟨L,a1,λj l o h p=>by simp only[iW,hd];exact a2 j l o h p⟩
  ·cases g
theorem Z0{n:Nat}{e:KF}{args:M A}{r:M A×M A}(a:GW cf mf n e args=Z r):∃L,Told cf mf L/\∀(c:Cf) (d:Mf) (b:Nat),Told c d L->n<=b->GW c d b e args=Z r:=by
 unfold GW at a
 split at a
 ·rename_i i
  split at a
  ·rename_i s g;obtain⟨L,a1,a2⟩:=jD e.body g;exact⟨L,a1,λc d b h f=>by simp only[GW,i,if_true,a2 c d b h f];exact a⟩
  ·rename_i s g;obtain⟨L,a1,a2⟩:=jD e.body g;exact⟨L,a1,λc d b h f=>by simp only[GW,i,if_true,a2 c d b h f];exact a⟩
  ·cases a
 ·cases a
end
section
variable {cf:Cf} {mf:Mf} {own:Bool} {k:Nat}
theorem Aj{m g:MS}{d f:Nat}{e:M KX}(a:HM cf m d f e=Z g):∃L,Told cf mf L/\∀(b:Cf) (j:Mf),Told b j L->HM b m d f e=Z g:=by
 simp only[HM]at a
 split at a
 ·rename_i as has
  split at a
  ·rename_i r l;refine⟨[.c f as ([.val J [.d r]],[])],λt i=>by simp at i;subst i;exact l,λb j h=>?_⟩;have n:b f as=_:=h (.c f as ([.val J [.d r]],[])) (by simp);simp only[HM,has,n];exact a
  ·cases a
 ·cases a
theorem XW{m A:MS}{d f:Nat}{c:MC}{y:C}(a:EP mf m d f c y=Z A):∃L,Told cf mf L/\∀(v:Cf) (b:Mf),Told v b L->EP b m d f c y=Z A:=by
 unfold EP at a
 split at a
 ·rename_i i o q
  split at a
  ·rename_i k s es l
   split at a
   ·rename_i x g p;refine⟨[.m f J [.list k s es] q ([x],g)],λt j=>by simp at j;subst j;exact p,λv b h=>?_⟩;have r:b f J [.list k s es] q=_:=h (.m f J [.list k s es] q ([x],g)) (by simp);simp only[EP,l,r];exact a
   ·cases a
  ·cases a
 ·rename_i i o n q
  split at a
  ·rename_i e l
   split at a
   ·rename_i w g p;refine⟨[.m f I ((e.drop o).take n) q (w,g)],λt j=>by simp at j;subst j;exact p,λv b h=>?_⟩;have r:b f I ((e.drop o).take n) q=_:=h (.m f I ((e.drop o).take n) q (w,g)) (by simp);simp only[EP,l,r];exact a
   ·cases a
  ·cases a
 ·cases a
theorem XU{m i:MS}{d:Nat}{o:KO}(b:EM cf mf k m d o=Z i):∃L,Told cf mf L/\∀(e:Cf) (g:Mf),Told e g L->EM e g k m d o=Z i:=by
 cases o with
 |call f h=>
  rcases h with _|⟨x,_|⟨y,_|⟨a,h⟩⟩⟩
  ·simp only[EM]at b ⊢;exact Aj b
  ·simp only[EM]at b ⊢;exact Aj b
  ·simp only[EM]at b ⊢;cases j:m.Wz x with
   |none=>rw[j]at b;exact Aj b
   |some c=>rw[j]at b;exact XW b
  ·simp only[EM]at b ⊢;exact Aj b
 |_=>exact⟨[],Told.nil,λe g _=>b⟩
theorem XV{m e:MS}{i:KI}(a:J_ cf mf own k m i=Z e):∃L,Told cf mf L/\∀(b:Cf) (c:Mf),Told b c L->J_ b c own k m i=Z e:=by
 obtain⟨d,o,g⟩:=i;cases g with
 |some g=>simp[J_]at a
 |none=>
  cases d with
  |some d=>exact XU a
  |none=>exact⟨[],Told.nil,λb c _=>a⟩
theorem ER:∀(f:M KI) {m e:MS},rH cf mf own k f m=Z e->∃L,Told cf mf L/\∀(c:Cf) (d:Mf),Told c d L->rH c d own k f m=Z e
 |[],m,e,b=>⟨[],Told.nil,λc d _=>b⟩
 |i::f,m,e,b=>by
  simp only[rH]at b
  split at b
  ·rename_i n g;obtain⟨L,a1,a2⟩:=XV g;obtain⟨a,l,j⟩:=ER f b;exact⟨L++a,a1.append l,λc d h=>by simp only[rH,a2 c d h.left,j c d h.right]⟩
  ·cases b
theorem kM:∀(c:K) {n:Nat} {s:MS} {r:Ex×MS},eD cf mf own k n c s=Z r->∃L,Told cf mf L/\∀(o:Cf) (p:Mf) (l:Nat),Told o p L->n<=l->eD o p own k l c s=Z r
 | .skip,n,s,r,j=>⟨[],Told.nil,λo p l _ _=>by simpa [eD] using j⟩
 | .Rf is N,n,s,r,j=>by
  simp only[eD]at j
  split at j
  ·rename_i C w;obtain⟨L,a1,a2⟩:=ER is w;exact⟨L,a1,λo p l h _=>by simp only[eD,a2 o p h];exact j⟩
  ·cases j
 | .Wk is N,n,s,r,j=>by simp[eD]at j
 | .seq a b,n,s,r,j=>by
  simp only[eD]at j
  split at j
  ·rename_i C w;obtain⟨L,a1,a2⟩:=kM a w;obtain⟨g,G,F⟩:=kM b j;exact⟨L++g,a1.append G,λo p l h q=>by simp only[eD,a2 o p l h.left q];exact F o p l h.right q⟩
  ·rename_i B;obtain⟨L,a1,a2⟩:=kM a j;refine⟨L,a1,λo p l h q=>?_⟩;simp only[eD,a2 o p l h q];obtain⟨e,y⟩:=r;cases e with
   |norm=>exact absurd j (B y)
   |_=>rfl
 | .cond x a b,n,s,r,j=>by
  simp only[eD]at j
  split at j
  ·rename_i t H;cases t with
   |true=>
    simp only[if_true]at j;obtain⟨L,a1,a2⟩:=kM a j;exact⟨L,a1,λo p l h q=>by simp only[eD,H,if_true];exact a2 o p l h q⟩
   |false=>
    simp only[aF,if_false]at j;obtain⟨L,a1,a2⟩:=kM b j;exact⟨L,a1,λo p l h q=>by simp only[eD,H,aF,if_false];exact a2 o p l h q⟩
  ·cases j
 | .block i a,n,s,r,j=>by
  simp only[eD]at j
  split at j
  ·rename_i S C w;obtain⟨L,a1,a2⟩:=kM a w;exact⟨L,a1,λo p l h q=>by simp only[eD,a2 o p l h q];exact j⟩
  ·rename_i B;obtain⟨L,a1,a2⟩:=kM a j;refine⟨L,a1,λo p l h q=>?_⟩;simp only[eD,a2 o p l h q];obtain⟨e,y⟩:=r;cases e with
   |exit i=>exact absurd j (B i y)
   |_=>rfl
 | .loop a,n,s,r,j=>by
  simp only[eD]at j;have go:∀(m:Nat) (s:MS),iterM (eD cf mf own k n a) m s=Z r->∃L,Told cf mf L/\∀(o:Cf) (p:Mf) (l v:Nat),Told o p L->n<=l->m<=v->iterM (eD o p own k l a) v s=Z r:=by
   intro m
   induction m with
   |zero=>intro s h;simp[iterM]at h
   |succ m P=>
    intro s h;simp only[iterM]at h
    split at h
    ·rename_i C w;obtain⟨L,a1,a2⟩:=kM a w;obtain⟨g,G,F⟩:=P C h;refine⟨L++g,a1.append G,λo p l v D q Q=>?_⟩;obtain⟨A,rfl⟩:∃f,v=f+1:=⟨v - 1,by omega⟩
     simp only[iterM,a2 o p l D.left q];exact F o p l A D.right q (by omega)
    ·rename_i B;obtain⟨L,a1,a2⟩:=kM a h;refine⟨L,a1,λo p l v D q Q=>?_⟩;obtain⟨A,rfl⟩:∃f,v=f+1:=⟨v - 1,by omega⟩
     simp only[iterM,a2 o p l D q];obtain⟨e,y⟩:=r;cases e with
     |norm=>exact absurd h (B y)
     |_=>rfl
  obtain⟨L,a1,a2⟩:=go n s j;exact⟨L,a1,λo p l h q=>by simp only[eD];exact a2 o p l l h q q⟩
 | .exit i,n,s,r,j=>⟨[],Told.nil,λo p l _ _=>by simpa [eD] using j⟩
 | .ret,n,s,r,j=>⟨[],Told.nil,λo p l _ _=>by simpa [eD] using j⟩
 | .share R a,n,s,r,j=>by simp[eD]at j
 | .Mu d a,n,s,r,j=>by simp[eD]at j
end
def ahp{a:Type}(g:Nat->u a):Prop:=∀n m r,g n=Z r->n<=m->g m=Z r
open Classical in
noncomputable def lm{a:Type}(g:Nat->u a):u a:=if h:∃r n,g n=Z r then Z (Classical.choose h) else O
theorem Gi{b:Type}{g:Nat->u b}(c:ahp g)(r:b):lm g=Z r↔∃n,g n=Z r:=by
 unfold lm;split
 ·rename_i h;obtain⟨k,d⟩:=Classical.choose_spec h
  constructor
  ·intro e;simp only[ae]at e;exact⟨k,e▸d⟩
  ·rintro⟨n,a⟩
   have i:=c _ (max n k) _ d (by omega);have f:=c _ (max n k) _ a (by omega);rw[i]at f;exact f
 ·rename_i h
  constructor
  ·intro e;cases e
  ·rintro⟨n,a⟩;exact absurd ⟨r,n,a⟩ h
theorem adQ{a:Type}{g:Nat->u a}(c:ahp g){o:u a}(e:∀r n,g n=Z r->o=Z r)(d:∀r,o=Z r->∃n,g n=Z r):lm g=o:=by
 apply Option.ext
 intro r;rw[Gi c];exact⟨λ⟨n,b⟩=>e r n b,d r⟩
section
variable (T:Nat->u KF)
theorem Ah:∀(n b f:Nat) (a:M A) (r:M A×M A),Ag T n f a=Z r->n<=b->Ag T b f a=Z r
 |0,_,_,_,_,h,_=>by simp[Ag]at h
 |n+1,b,f,a,r,h,k=>by
  obtain⟨m,rfl⟩:∃m,b=m+1:=⟨b - 1,by omega⟩
  simp only[Ag]at h ⊢
  split at h
  ·cases h
  ·rename_i j i
   split at h
   ·rename_i d;rw[if_pos d];exact h
   ·rename_i d;rw[if_neg d];obtain⟨L,a1,a2⟩:=Z0 h;refine a2 (Ag T m) _ m (λt e=>?_) (by omega);have:=a1 t e;cases t with
    |c f a r=>exact Ah n m _ _ _ this (by omega)
    |m f g l q r=>cases this
noncomputable def dM:Cf:=λf a=>lm λn=>Ag T n f a
theorem xB(f:Nat)(a:M A)(r:M A×M A):dM T f a=Z r↔∃n,Ag T n f a=Z r:=Gi (λn m r h b=>Ah T n m f a r h b) r
def C4(cells:M D):u (M (M D)×Int)->u (M D×Int)
 |some ([uj],a)=>Z (uj,a)
 |_=>O
def GM(k:Nat)(c:Bool):u (M (M D)×Int)->u (M D×Int)
 |some (b,a)=>Z ([.list k c b],a)
 |none=>O
def runM(g:Bool->Nat->M KI->MS->u MS)(h:Bool->Nat->K->MS->u (Ex×MS))(c:KF)(f:Bool)(cells:M D)(q:Int):u (M D×Int):=
 match c with
 |⟨2,body,[.t r]⟩=>
   if f then (match body with
    | .seq (.Rf (⟨Z b,.box (.s 0),O⟩::is) a) i=>
     (match g J cells.length is (MS.ko ⟨⟨[(1,.d (.int .i64 q))],[],[]⟩,[],[cells]⟩ b (.ep 0 0)) with
     |some m=>C4 cells (x_ r (h J cells.length i (m.dF a)))
     |none=>O)
    |_=>O)
   else (match cells with
    |[.list k e es]=>GM k e (x_ r (h I k body ⟨⟨[(1,.d (.int .i64 q))],[],[]⟩,[(0,.lst)],es⟩))
    |_=>O)
 |_=>O
theorem Ka(n f:Nat)(c:Bool)(cells:M D)(q:Int):HL T (n+1) f c cells q=match T f with
  |some a=>runM (λown k=>rH (Ag T n) (HL T n) own k) (λown k=>eD (Ag T n) (HL T n) own k n) a c cells q
  |none=>O:=by
 simp only[HL];cases h:T f with
 |none=>rfl
 |some a=>
  dsimp only;unfold runM;rcases a with ⟨e,b,d⟩;dsimp only;split
  ·split
   ·split
    ·split
     ·rename_i m g;simp only[C4]
      split<;>simp_all
     ·simp_all
    ·simp_all
   ·split
    ·simp only[GM]
     split<;>simp_all
    ·simp_all
  ·simp_all
end
end
section
theorem Gj{a:Type}:∀(l:M (Nat×a)) {f:Nat} {x:a},look l f=Z x->(f,x)∈l
 |[],_,_,h=>by simp[look]at h
 |(k,y)::l,f,x,h=>by
  simp only[look]at h
  split at h
  ·rename_i e;cases h;simp[e]
  ·exact bP _ (Gj l h)
section
variable (T:Nat->u KF)
theorem GY{p:Cf}{o:Mf}{n:Nat}{x:KF}{A:Bool}{cells:M D}{q:Int}{r:M D×Int}(c:runM (λown k=>rH p o own k) (λown k=>eD p o own k n) x A cells q=Z r) :
  ∃L,Told p o L/\∀(f:Cf) (g:Mf) (l:Nat),Told f g L->n<=l->runM (λown k=>rH f g own k) (λown k=>eD f g own k l) x A cells q=Z r:=by
 unfold runM at c
 split at c
 ·rename_i i G
  split at c
  ·rename_i s
   split at c
   ·rename_i b F C B
    split at c
    ·rename_i m y;dsimp only at y c;obtain⟨L,a1,a2⟩:=ER F y;cases j:eD p o J cells.length n B (m.dF C) with
     |none=>rw[j]at c;simp[x_,C4]at c
     |some e=>
      obtain⟨a,w,v⟩:=kM B j;refine⟨L++a,a1.append w,λf g l h t=>?_⟩;simp only[runM,s,if_true,a2 f g h.left,v f g l h.right t];rw[j]at c;exact c
    ·cases c
   ·cases c
  ·rename_i s
   split at c
   ·rename_i k H es;dsimp only at c;cases j:eD p o I k n i ⟨⟨[(1,.d (.int .i64 q))],[],[]⟩,[(0,.lst)],es⟩ with
    |none=>rw[j]at c;simp[x_,GM]at c
    |some e=>
     obtain⟨a,w,v⟩:=kM i j;refine⟨a,w,λf g l h t=>?_⟩;simp only[runM,s,v f g l h t];rw[j]at c;simp only[aF,if_false];exact c
   ·cases c
 ·cases c
theorem EO:∀(n b f:Nat) (e:Bool) (d:M D) (q:Int) (r:M D×Int),HL T n f e d q=Z r->n<=b->HL T b f e d q=Z r
 |0,_,_,_,_,_,_,h,_=>by simp[HL]at h
 |n+1,b,f,e,d,q,r,h,j=>by
  obtain⟨m,rfl⟩:∃m,b=m+1:=⟨b - 1,by omega⟩
  rw[Ka]at h ⊢
  split at h
  ·obtain⟨L,a1,a2⟩:=GY h;refine a2 (Ag T m) (HL T m) m (λt i=>?_) (by omega);have:=a1 t i;cases t with
   |c f a r=>exact Ah T n m _ _ _ this (by omega)
   |m f g d q r=>exact EO n m _ _ _ _ _ this (by omega)
  ·cases h
noncomputable def gl:Mf:=λf b a q=>lm λn=>HL T n f b a q
theorem Gg(f:Nat)(b:Bool)(a:M D)(q:Int)(r:M D×Int):gl T f b a q=Z r↔∃n,HL T n f b a q=Z r:=Gi (λn m r h c=>EO T n m f b a q r h c) r
theorem A7:∀(L:CI),Told (dM T) (gl T) L->∃n,∀m,n<=m->Told (Ag T m) (HL T m) L
 |[],_=>⟨0,λm _ t i=>by simp at i⟩
 |t::L,h=>by
  obtain⟨n,k⟩:=A7 L (λt i=>h t (by simp[i]));have l:=h t (by simp);cases t with
  |c f a r=>
   obtain⟨m,j⟩:=(xB T _ _ _).1 l;refine⟨max n m,λb o d e=>?_⟩;rcases aL.1 e with rfl|e
   ·exact Ah T m b _ _ _ j (by omega)
   ·exact k b (by omega) d e
  |m f g p q r=>
   obtain⟨m,j⟩:=(Gg T _ _ _ _ _).1 l;refine⟨max n m,λb o d e=>?_⟩;rcases aL.1 e with rfl|e
   ·exact EO T m b _ _ _ _ _ j (by omega)
   ·exact k b (by omega) d e
theorem adj{n:Nat}{L:CI}(h:Told (Ag T n) (HL T n) L):Told (dM T) (gl T) L:=λt d=>by
 have b:=h t d;cases t with
 |c f a r=>exact (xB T f a r).2 ⟨n,b⟩
 |m f g e q r=>exact (Gg T f g e q r).2 ⟨n,b⟩
abbrev tN:Mf:=λ_ _ _ _=>O
noncomputable def ev(a:Mf)(k:K)(s:St):u (Ex×St):=lm λn=>iW (dM T) a n k s
theorem nN(a:Mf)(k:K)(s:St):∀n m r,iW (dM T) a n k s=Z r->n<=m->iW (dM T) a m k s=Z r:=λn m r h b=>by
 obtain⟨L,a1,a2⟩:=jD k h;exact a2 _ _ m a1 b
theorem jL(a:Mf)(k:K)(s:St)(r:Ex×St):ev T a k s=Z r↔∃n,iW (dM T) a n k s=Z r:=Gi (nN T a k s) r
section
variable (mf:Mf)
theorem ES{k:K}{s:St}{o:u (Ex×St)}(b:∀r n,iW (dM T) mf n k s=Z r->o=Z r)(a:∀r,o=Z r->∃n,iW (dM T) mf n k s=Z r):ev T mf k s=o:=adQ (nN T mf k s) b a
theorem wc{k:K}{s:St}{o:u (Ex×St)}(h:∀n,iW (dM T) mf n k s=o):ev T mf k s=o:=
 ES T mf (λr n e=>by rw[<- h n];exact e) (λr e=>⟨0,by rw[h 0];exact e⟩)
theorem Sw(s:St):ev T mf .skip s=Z (.norm,s):=wc T mf λn=>by simp[iW]
theorem X6(s:St):ev T mf .ret s=Z (.ret,s):=wc T mf λn=>by simp[iW]
theorem Sv(i:Nat)(s:St):ev T mf (.exit i) s=Z (.exit i,s):=wc T mf λn=>by simp[iW]
def nrm(a:lE):u St->u (Ex×St)
 |some s=>Z (.norm,s.dF a)
 |none=>O
theorem X5(a:M KI)(b:lE)(s:St):ev T mf (.Rf a b) s=nrm b (nO (dM T) mf a s):=wc T mf λn=>by simp only[iW,nrm];split<;>simp_all
def Ox:u St->u (Ex×St)
 |some s=>Z (.norm,s)
 |none=>O
theorem X4(a:KT)(b:lE)(s:St):ev T mf (.Wk a b) s=Ox (fP (dM T) mf b a [] s):=wc T mf λn=>by simp only[iW,Ox];split<;>simp_all
def H9(g:St->u (Ex×St)):u (Ex×St)->u (Ex×St)
 |some (.norm,s)=>g s
 |some (.exit i,s)=>Z (.exit i,s)
 |some (.ret,s)=>Z (.ret,s)
 |none=>O
theorem DQ{c:Cf}(n:Nat)(a b:K)(s:St):iW c mf n (.seq a b) s=H9 (iW c mf n b) (iW c mf n a s):=by
 simp only[iW,H9];split
 ·rename_i h;simp only[h]
 ·rename_i h;split
  ·rename_i d e;exact absurd e (h d)
  ·simp_all
  ·simp_all
  ·simp_all
theorem X7(a b:K)(s:St):ev T mf (.seq a b) s=H9 (ev T mf b) (ev T mf a s):=by
 apply ES
 ·intro r n h;rw[DQ]at h;cases c:iW (dM T) mf n a s with
  |none=>rw[c]at h;simp[H9]at h
  |some x=>
   rw[(jL T mf a s x).2 ⟨n,c⟩];rw[c]at h;rcases x with ⟨_|i|_,d⟩
   ·exact (jL T mf b d r).2 ⟨n,h⟩
   ·exact h
   ·exact h
 ·intro r h;cases c:ev T mf a s with
  |none=>rw[c]at h;simp[H9]at h
  |some x=>
   obtain⟨n,e⟩:=(jL T mf a s x).1 c;rw[c]at h;rcases x with ⟨_|i|_,d⟩
   ·obtain⟨m,f⟩:=(jL T mf b d r).1 h;refine⟨max n m,?_⟩;rw[DQ,nN T mf a s n (max n m) _ e (by omega)];exact nN T mf b d m (max n m) _ f (by omega)
   ·exact⟨n,by rw[DQ,e];exact h⟩
   ·exact⟨n,by rw[DQ,e];exact h⟩
theorem gN(a:K)(s:St):ev T mf (.loop a) s=H9 (ev T mf (.loop a)) (ev T mf a s):=by
 have one:∀(f:Cf) n m s,iter (iW f mf n a) (m+1) s=H9 (iter (iW f mf n a) m) (iW f mf n a s):=by
  intro f n m s;simp only[iter,H9];split
  ·rename_i h;simp only[h]
  ·rename_i h;split
   ·rename_i c o;exact absurd o (h c)
   ·simp_all
   ·simp_all
   ·simp_all
 apply ES
 ·intro r n h;simp only[iW]at h;cases n with
  |zero=>simp[iter]at h
  |succ n=>
   rw[one]at h;cases d:iW (dM T) mf (n+1) a s with
   |none=>rw[d]at h;simp[H9]at h
   |some x=>
    rw[(jL T mf a s x).2 ⟨n+1,d⟩];rw[d]at h;rcases x with ⟨_|i|_,c⟩
    ·refine (jL T mf (.loop a) c r).2 ⟨n+1,?_⟩;simp only[H9]at h;have:iW (dM T) mf (n+1) (.loop a) c=Z r:=by
      simp only[iW];have go:∀(m:Nat) (s:St),iter (iW (dM T) mf (n+1) a) m s=Z r->iter (iW (dM T) mf (n+1) a) (m+1) s=Z r:=by
       intro m
       induction m with
       |zero=>intro s h;simp[iter]at h
       |succ m g=>
        intro s h;rw[one]at h ⊢;cases e:iW (dM T) mf (n+1) a s with
        |none=>rw[e]at h;simp[H9]at h
        |some x=>
         rw[e]at h;rcases x with ⟨_|i|_,c⟩
         ·exact g c h
         ·exact h
         ·exact h
      exact go n c h
     exact this
    ·exact h
    ·exact h
 ·intro r h;cases d:ev T mf a s with
  |none=>rw[d]at h;simp[H9]at h
  |some x=>
   obtain⟨n,j⟩:=(jL T mf a s x).1 d;rw[d]at h;rcases x with ⟨_|i|_,c⟩
   ·obtain⟨m,l⟩:=(jL T mf (.loop a) c r).1 h;refine⟨max n m+1,?_⟩;have k:=nN T mf (.loop a) c m (max n m) _ l (by omega);simp only[iW]at k ⊢;rw[one,nN T mf a s n (max n m+1) _ j (by omega)];simp only[H9];have go:∀(b:Nat) (s:St),iter (iW (dM T) mf (max n m) a) b s=Z r->iter (iW (dM T) mf (max n m+1) a) b s=Z r:=by
     intro b
     induction b with
     |zero=>intro s h;simp[iter]at h
     |succ b g=>
      intro s h;rw[one]at h ⊢;cases e:iW (dM T) mf (max n m) a s with
      |none=>rw[e]at h;simp[H9]at h
      |some x=>
       rw[e]at h;rw[nN T mf a s (max n m) (max n m+1) x e (by omega)];rcases x with ⟨_|i|_,c⟩
       ·exact g c h
       ·exact h
       ·exact h
    exact go _ _ k
   ·refine⟨n+1,?_⟩;simp only[iW];rw[one,nN T mf a s n (n+1) _ j (by omega)];exact h
   ·refine⟨n+1,?_⟩;simp only[iW];rw[one,nN T mf a s n (n+1) _ j (by omega)];exact h
def ife(c:C)(x y:u (Ex×St)):u (Ex×St):=
 match c with
 | .d (.bool t)=>if t then x else y
 |_=>O
theorem EL{d:Cf}(n:Nat)(c:KX)(a b:K)(s:St):iW d mf n (.cond c a b) s=ife (fW s c) (iW d mf n a s) (iW d mf n b s):=by
 simp only[iW,ife];cases fW s c<;>rfl
theorem Kb(c:KX)(a b:K)(s:St):ev T mf (.cond c a b) s=ife (fW s c) (ev T mf a s) (ev T mf b s):=by
 apply ES
 ·intro r n h;rw[EL]at h;unfold ife at h ⊢
  split at h
  ·split at h
   ·rename_i d;simp only[d,if_true];exact (jL T mf _ _ _).2 ⟨n,h⟩
   ·rename_i d;simp only[d];exact (jL T mf _ _ _).2 ⟨n,h⟩
  ·cases h
 ·intro r h;unfold ife at h
  split at h
  ·rename_i t f;cases t with
   |true=>obtain⟨n,e⟩:=(jL T mf _ _ _).1 h;exact⟨n,by rw[EL,f];exact e⟩
   |false=>obtain⟨n,e⟩:=(jL T mf _ _ _).1 h;exact⟨n,by rw[EL,f];exact e⟩
  ·cases h
def Xb(id:Nat):u (Ex×St)->u (Ex×St)
 |some (.norm,s)=>Z (.norm,s)
 |some (.exit i,s)=>if i=id then Z (.norm,s) else Z (.exit i,s)
 |some (.ret,s)=>Z (.ret,s)
 |none=>O
theorem II{b:Cf}(n:Nat)(i:Nat)(a:K)(s:St):iW b mf n (.block i a) s=Xb i (iW b mf n a s):=by
 simp only[iW,Xb];split
 ·simp_all
 ·rename_i h;split
  ·simp_all
  ·rename_i j c d;exact absurd d (h j c)
  ·simp_all
  ·simp_all
theorem Nv(i:Nat)(a:K)(s:St):ev T mf (.block i a) s=Xb i (ev T mf a s):=by
 apply ES
 ·intro r n h;rw[II]at h;cases b:iW (dM T) mf n a s with
  |none=>rw[b]at h;simp[Xb]at h
  |some x=>rw[(jL T mf a s x).2 ⟨n,b⟩];rw[b]at h;exact h
 ·intro r h;cases b:ev T mf a s with
  |none=>rw[b]at h;simp[Xb]at h
  |some x=>
   obtain⟨n,c⟩:=(jL T mf a s x).1 b;rw[b]at h;exact⟨n,by rw[II,c];exact h⟩
theorem Nw(q:Nat)(a:K)(s:St):ev T mf (.share q a) s=ev T mf a (eY s [q]):=by
 apply ES
 ·intro r n h;simp only[iW]at h;exact (jL T mf _ _ _).2 ⟨n,h⟩
 ·intro r h;obtain⟨n,b⟩:=(jL T mf _ _ _).1 h;exact⟨n,by simp only[iW];exact b⟩
theorem X3(d:Nat)(a:K)(s:St):ev T mf (.Mu d a) s=(uk s d).bind (ev T mf a):=by
 have b:∀n,iW (dM T) mf n (.Mu d a) s=(uk s d).bind (iW (dM T) mf n a):=by
  intro n;simp only[iW];cases uk s d<;>rfl
 apply ES
 ·intro r n h;rw[b]at h;cases hd:uk s d with
  |none=>rw[hd]at h;simp at h
  |some c=>rw[hd]at h;exact (jL T mf _ _ _).2 ⟨n,h⟩
 ·intro r h;cases hd:uk s d with
  |none=>rw[hd]at h;simp at h
  |some c=>rw[hd]at h;obtain⟨n,e⟩:=(jL T mf _ _ _).1 h;exact⟨n,by rw[b,hd];exact e⟩
def fin(a:KF)(args:M A):u (Ex×St)->u (M A×M A)
 |some (.norm,s)=>leave a args s
 |some (.ret,s)=>leave a args s
 |_=>O
noncomputable def run(a:KF)(args:M A):u (M A×M A):=if args.length=a.np then fin a args (ev T mf a.body (jW 0 args ⟨[],[],[]⟩)) else O
theorem GX(b:Cf)(n:Nat)(a:KF)(args:M A):GW b mf n a args=if args.length=a.np then fin a args (iW b mf n a.body (jW 0 args ⟨[],[],[]⟩)) else O:=by
 simp only[GW];split
 ·simp only[fin]
  split<;>simp_all
 ·rfl
theorem agI{n:Nat}{b:KF}{args:M A}{r:M A×M A}(h:run T (gl T) b args=Z r):∃n,∀m,n<=m->GW (Ag T m) (HL T m) m b args=Z r:=by
 unfold run at h
 split at h
 ·rename_i f;cases c:ev T (gl T) b.body (jW 0 args ⟨[],[],[]⟩) with
  |none=>rw[c]at h;simp[fin]at h
  |some x=>
   obtain⟨n,d⟩:=(jL T (gl T) _ _ _).1 c;obtain⟨L,a1,a2⟩:=jD _ d;obtain⟨m,e⟩:=A7 T L a1;refine⟨max n m,λa g=>?_⟩;rw[GX,if_pos f,a2 _ _ a (e a (by omega)) (by omega),<- c];exact h
 ·cases h
theorem aaB{d:Cf}{i:Mf}{L:CI}(h:Told d tN L):Told d i L:=λt e=>by
 have b:=h t e;cases t with
 |c f a r=>exact b
 |m f g j q r=>cases b
theorem adi{d:Cf}{mf:Mf}{L:CI}(h:Told d tN L)(i:∀f a r,d f a=Z r->dM T f a=Z r):Told (dM T) mf L:=λt e=>by
 have b:=h t e;cases t with
 |c f a r=>exact i f a r b
 |m f g j q r=>cases b
theorem Ze{f:Nat}{b:K}{r:M KR}(c:T f=Z ⟨999,b,r⟩)(args:M A):dM T f args=XT f args:=by
 apply Option.ext
 intro r;rw[xB]
 constructor
 ·rintro⟨n,a⟩
  cases n with
  |zero=>simp[Ag]at a
  |succ n=>simpa only [Ag,c,if_true] using a
 ·intro h;exact⟨1,by simpa only [Ag,c,if_true] using h⟩
theorem TC{f:Nat}{e:KF}(o:T f=Z e)(i:e.np≠999)(args:M A):dM T f args=run T tN e args:=by
 apply Option.ext
 intro r;rw[xB]
 constructor
 ·rintro⟨n,b⟩
  cases n with
  |zero=>simp[Ag]at b
  |succ n=>
   simp only[Ag,o,if_neg i]at b;rw[GX]at b;unfold run
   split at b
   ·rename_i j;rw[if_pos j];cases d:iW (Ag T n) tN n e.body (jW 0 args ⟨[],[],[]⟩) with
    |none=>rw[d]at b;simp[fin]at b
    |some x=>
     obtain⟨L,a1,a2⟩:=jD _ d;have k:=a2 (dM T) tN n (adi T a1 (λf a r h=>(xB T f a r).2 ⟨n,h⟩)) (by omega);rw[(jL T tN _ _ _).2 ⟨n,k⟩,<- d];exact b
   ·cases b
 ·intro h;unfold run at h
  split at h
  ·rename_i j;cases d:ev T tN e.body (jW 0 args ⟨[],[],[]⟩) with
   |none=>rw[d]at h;simp[fin]at h
   |some x=>
    obtain⟨n,b⟩:=(jL T tN _ _ _).1 d;obtain⟨L,a1,a2⟩:=jD _ b;obtain⟨m,p⟩:=A7 T L (aaB a1);refine⟨max n m+1,?_⟩;simp only[Ag,o,if_neg i];rw[GX,if_pos j,a2 (Ag T (max n m)) tN (max n m) (λt l=>?_) (by omega),<- d]
    ·exact h
    ·have s:=a1 t l;have k:=p (max n m) (by omega) t l;cases t with
     |c f a r=>exact k
     |m f g v q r=>cases s
  ·cases h
end
noncomputable def xR(own:Bool)(k:Nat)(c:K)(s:MS):u (Ex×MS):=lm λn=>eD (dM T) (gl T) own k n c s
variable (own:Bool) (k:Nat)
theorem nq(c:K)(s:MS):∀n m r,eD (dM T) (gl T) own k n c s=Z r->n<=m->eD (dM T) (gl T) own k m c s=Z r:=λn m r h a=>by
 obtain⟨L,a1,a2⟩:=kM c h;exact a2 _ _ m a1 a
theorem jg(c:K)(s:MS)(r:Ex×MS):xR T own k c s=Z r↔∃n,eD (dM T) (gl T) own k n c s=Z r:=Gi (nq T own k c s) r
theorem EU{c:K}{s:MS}{o:u (Ex×MS)}(b:∀r n,eD (dM T) (gl T) own k n c s=Z r->o=Z r)(a:∀r,o=Z r->∃n,eD (dM T) (gl T) own k n c s=Z r):xR T own k c s=o:=adQ (nq T own k c s) b a
theorem xq{c:K}{s:MS}{o:u (Ex×MS)}(h:∀n,eD (dM T) (gl T) own k n c s=o):xR T own k c s=o:=
 EU T own k (λr n e=>by rw[<- h n];exact e) (λr e=>⟨0,by rw[h 0];exact e⟩)
theorem X_(s:MS):xR T own k .skip s=Z (.norm,s):=xq T own k λn=>by simp[eD]
theorem abh(s:MS):xR T own k .ret s=Z (.ret,s):=xq T own k λn=>by simp[eD]
theorem X9(i:Nat)(s:MS):xR T own k (.exit i) s=Z (.exit i,s):=xq T own k λn=>by simp[eD]
def afp(a:lE):u MS->u (Ex×MS)
 |some s=>Z (.norm,s.dF a)
 |none=>O
theorem abg(a:M KI)(b:lE)(s:MS):xR T own k (.Rf a b) s=afp b (rH (dM T) (gl T) own k a s):=xq T own k λn=>by simp only[eD,afp]<;>split<;>simp_all
def CA(g:MS->u (Ex×MS)):u (Ex×MS)->u (Ex×MS)
 |some (.norm,s)=>g s
 |some (.exit i,s)=>Z (.exit i,s)
 |some (.ret,s)=>Z (.ret,s)
 |none=>O
theorem Ai{d:Cf}{c:Mf}(n:Nat)(a b:K)(s:MS):eD d c own k n (.seq a b) s=CA (eD d c own k n b) (eD d c own k n a s):=by
 simp only[eD,CA];split
 ·rename_i h;simp only[h]
 ·rename_i h;split
  ·rename_i e f;exact absurd f (h e)
  ·simp_all
  ·simp_all
  ·simp_all
theorem abi(a b:K)(s:MS):xR T own k (.seq a b) s=CA (xR T own k b) (xR T own k a s):=by
 apply EU
 ·intro r n h;rw[Ai]at h;cases c:eD (dM T) (gl T) own k n a s with
  |none=>rw[c]at h;simp[CA]at h
  |some x=>
   rw[(jg T own k a s x).2 ⟨n,c⟩];rw[c]at h;rcases x with ⟨_|i|_,d⟩
   ·exact (jg T own k b d r).2 ⟨n,h⟩
   ·exact h
   ·exact h
 ·intro r h;cases c:xR T own k a s with
  |none=>rw[c]at h;simp[CA]at h
  |some x=>
   obtain⟨n,e⟩:=(jg T own k a s x).1 c;rw[c]at h;rcases x with ⟨_|i|_,d⟩
   ·obtain⟨m,f⟩:=(jg T own k b d r).1 h;refine⟨max n m,?_⟩;rw[Ai,nq T own k a s n (max n m) _ e (by omega)];exact nq T own k b d m (max n m) _ f (by omega)
   ·exact⟨n,by rw[Ai,e];exact h⟩
   ·exact⟨n,by rw[Ai,e];exact h⟩
def ifM(c:C)(x y:u (Ex×MS)):u (Ex×MS):=
 match c with
 | .d (.bool t)=>if t then x else y
 |_=>O
theorem BA{e:Cf}{d:Mf}(n:Nat)(c:KX)(a b:K)(s:MS):eD e d own k n (.cond c a b) s=ifM (fW s.s c) (eD e d own k n a s) (eD e d own k n b s):=by
 simp only[eD,ifM]<;>cases fW s.s c<;>rfl
theorem X8(c:KX)(a b:K)(s:MS):xR T own k (.cond c a b) s=ifM (fW s.s c) (xR T own k a s) (xR T own k b s):=by
 apply EU
 ·intro r n h;rw[BA]at h;unfold ifM at h ⊢
  split at h
  ·split at h
   ·rename_i d;simp only[d,if_true];exact (jg T own k _ _ _).2 ⟨n,h⟩
   ·rename_i d;simp only[d];exact (jg T own k _ _ _).2 ⟨n,h⟩
  ·cases h
 ·intro r h;unfold ifM at h
  split at h
  ·rename_i t f;cases t with
   |true=>obtain⟨n,e⟩:=(jg T own k _ _ _).1 h;exact⟨n,by rw[BA,f];exact e⟩
   |false=>obtain⟨n,e⟩:=(jg T own k _ _ _).1 h;exact⟨n,by rw[BA,f];exact e⟩
  ·cases h
def PW(id:Nat):u (Ex×MS)->u (Ex×MS)
 |some (.norm,s)=>Z (.norm,s)
 |some (.exit i,s)=>if i=id then Z (.norm,s) else Z (.exit i,s)
 |some (.ret,s)=>Z (.ret,s)
 |none=>O
theorem EN{c:Cf}{b:Mf}(n:Nat)(i:Nat)(a:K)(s:MS):eD c b own k n (.block i a) s=PW i (eD c b own k n a s):=by
 simp only[eD,PW];split
 ·simp_all
 ·rename_i h;split
  ·simp_all
  ·rename_i j d e;exact absurd e (h j d)
  ·simp_all
  ·simp_all
theorem UM(i:Nat)(a:K)(s:MS):xR T own k (.block i a) s=PW i (xR T own k a s):=by
 apply EU
 ·intro r n h;rw[EN]at h;cases b:eD (dM T) (gl T) own k n a s with
  |none=>rw[b]at h;simp[PW]at h
  |some x=>rw[(jg T own k a s x).2 ⟨n,b⟩];rw[b]at h;exact h
 ·intro r h;cases b:xR T own k a s with
  |none=>rw[b]at h;simp[PW]at h
  |some x=>
   obtain⟨n,c⟩:=(jg T own k a s x).1 b;rw[b]at h;exact⟨n,by rw[EN,c];exact h⟩
theorem Nx(a:K)(s:MS):xR T own k (.loop a) s=CA (xR T own k (.loop a)) (xR T own k a s):=by
 have one:∀(j:Cf) (g:Mf) n m s,iterM (eD j g own k n a) (m+1) s=CA (iterM (eD j g own k n a) m) (eD j g own k n a s):=by
  intro j g n m s;simp only[iterM,CA];split
  ·rename_i h;simp only[h]
  ·rename_i h;split
   ·rename_i c q;exact absurd q (h c)
   ·simp_all
   ·simp_all
   ·simp_all
 have up:∀(n m b d:Nat) (s:MS) (r:Ex×MS),n<=m->b<=d->iterM (eD (dM T) (gl T) own k n a) b s=Z r->iterM (eD (dM T) (gl T) own k m a) d s=Z r:=by
  intro n m b
  induction b with
  |zero=>intro d s r _ _ h;simp[iterM]at h
  |succ b p=>
   intro d s r f t h;obtain⟨d,rfl⟩:∃y,d=y+1:=⟨d - 1,by omega⟩
   rw[one]at h ⊢;cases l:eD (dM T) (gl T) own k n a s with
   |none=>rw[l]at h;simp[CA]at h
   |some x=>
    rw[l]at h;rw[nq T own k a s n m x l f];rcases x with ⟨_|i|_,c⟩
    ·exact p d c r f (by omega) h
    ·exact h
    ·exact h
 apply EU
 ·intro r n h;simp only[eD]at h;cases n with
  |zero=>simp[iterM]at h
  |succ n=>
   rw[one]at h;cases e:eD (dM T) (gl T) own k (n+1) a s with
   |none=>rw[e]at h;simp[CA]at h
   |some x=>
    rw[(jg T own k a s x).2 ⟨n+1,e⟩];rw[e]at h;rcases x with ⟨_|i|_,c⟩
    ·exact (jg T own k (.loop a) c r).2 ⟨n+1,by simp only[eD];exact up (n+1) (n+1) n (n+1) c r (by omega) (by omega) h⟩
    ·exact h
    ·exact h
 ·intro r h;cases e:xR T own k a s with
  |none=>rw[e]at h;simp[CA]at h
  |some x=>
   obtain⟨n,f⟩:=(jg T own k a s x).1 e;rw[e]at h;rcases x with ⟨_|i|_,c⟩
   ·obtain⟨m,o⟩:=(jg T own k (.loop a) c r).1 h;refine⟨max n m+1,?_⟩;simp only[eD]at o ⊢;rw[one,nq T own k a s n (max n m+1) _ f (by omega)];exact up m (max n m+1) m (max n m) c r (by omega) (by omega) o
   ·exact⟨n+1,by simp only[eD];rw[one,nq T own k a s n (n+1) _ f (by omega)];exact h⟩
   ·exact⟨n+1,by simp only[eD];rw[one,nq T own k a s n (n+1) _ f (by omega)];exact h⟩
theorem Of{f:Nat}{i:KF}(p:T f=Z i)(o:Bool)(g:M D)(q:Int):gl T f o g q=runM (λown k=>rH (dM T) (gl T) own k) (λown k=>xR T own k) i o g q:=by
 apply Option.ext
 intro r;rw[Gg]
 constructor
 ·rintro⟨n,c⟩
  cases n with
  |zero=>simp[HL]at c
  |succ n=>
   rw[Ka,p]at c;obtain⟨L,a1,a2⟩:=GY c;have a:=a2 (dM T) (gl T) n (adj T a1) (by omega)
   revert a
   unfold runM;split
   ·split
    ·split
     ·split
      ·rename_i m l;dsimp only;intro a;cases b:eD (dM T) (gl T) J g.length n _ (m.dF _) with
       |none=>rw[b]at a;simp[x_,C4]at a
       |some e=>rw[(jg T _ _ _ _ _).2 ⟨n,b⟩,<- b];exact a
      ·simp
     ·simp
    ·split
     ·dsimp only;intro a;rename_i k s es;cases b:eD (dM T) (gl T) I k n _ ⟨⟨[(1,.d (.int .i64 q))],[],[]⟩,[(0,.lst)],es⟩ with
      |none=>rw[b]at a;simp[x_,GM]at a
      |some e=>rw[(jg T _ _ _ _ _).2 ⟨n,b⟩,<- b];exact a
     ·simp
   ·simp
 ·intro h;have j:∃n,runM (λown k=>rH (dM T) (gl T) own k) (λown k=>eD (dM T) (gl T) own k n) i o g q=Z r:=by
   revert h
   unfold runM;split
   ·split
    ·split
     ·split
      ·rename_i m l;dsimp only;intro a;cases b:xR T J g.length _ (m.dF _) with
       |none=>rw[b]at a;simp[x_,C4]at a
       |some e=>obtain⟨n,c⟩:=(jg T _ _ _ _ _).1 b;exact⟨n,by rw[c,<- b];exact a⟩
      ·simp
     ·simp
    ·split
     ·dsimp only;intro a;rename_i k s es;cases b:xR T I k _ ⟨⟨[(1,.d (.int .i64 q))],[],[]⟩,[(0,.lst)],es⟩ with
      |none=>rw[b]at a;simp[x_,GM]at a
      |some e=>obtain⟨n,c⟩:=(jg T _ _ _ _ _).1 b;exact⟨n,by rw[c,<- b];exact a⟩
     ·simp
   ·simp
  obtain⟨n,c⟩:=j;obtain⟨L,a1,a2⟩:=GY c;obtain⟨m,l⟩:=A7 T L a1;refine⟨max n m+1,?_⟩;rw[Ka,p];exact a2 _ _ (max n m) (l _ (by omega)) (by omega)
end
end
section
open Go.RowKit
inductive Ty where
 |int
 |bool
 |str
 |list (t:Nat)
def Ty.plain:Ty->Bool
 | .list _=>J
 |_=>I
def lay:Nat->M Ty
 |0=>[.str]
 |1=>[.str,.list 0,.int,.bool]
 |2=>[.str,.str,.list 2]
 |3=>[.int,.str,.str,.list 3]
 |4=>[.int,.int,.list 3]
 |5=>[.list 2,.list 4]
 |6=>[.int,.int]
 |7=>[.int,.list 6,.list 0,.str,.str]
 |8=>[.str,.str]
 |9=>[.str,.list 8]
 |10=>[.bool,.int,.list 9]
 |11=>[.int,.int,.str,.bool,.int,.list 9,.list 11]
 |12=>[.int,.str,.int,.list 6,.list 0,.str,.str,.list 0,.list 0,.str,.bool,.bool,.bool,.bool,.int,.int,.list 11,.list 11,.list 12]
 |13=>[.list 2,.int,.int]
 |14=>[.bool,.int,.int,.str,.list 2]
 |15=>[.list 12,.list 2,.list 2,.int,.list 13,.bool,.int,.int,.str,.list 2]
 |_=>[]
abbrev kw(t:Nat):Nat:=(lay t).length
abbrev flT(t:Nat):Bool:=(lay t).all Ty.plain
abbrev gq:Nat:=2147483648
mutual
def Ok(B:Nat):Ty->D->Prop
 | .int,.int k n=>k=.i64/\-9223372036854775808<=n/\n<=9223372036854775807
 | .bool,.bool _=>True
 | .str,.str s=>s.size<=maxLen
 | .list t,.list k f es=>k=kw t/\f=flT t/\es.length<=B/\dw B t es
 |_,_=>False
def eu(B:Nat):List Ty->List D->Prop
 |[],[]=>True
 |t::ts,d::a=>Ok B t d/\eu B ts a
 |_,_=>False
def dw(B:Nat)(t:Nat):List (List D)->Prop
 |[]=>True
 |e::es=>eu B (lay t) e/\dw B t es
end
section
variable {B:Nat}
theorem Ok.gC{d:D}(h:Ok B .int d):∃n,d=.int .i64 n/\-9223372036854775808<=n/\n<=9223372036854775807:=by
 cases d<;>simp only[Ok]at h
 obtain⟨rfl,h⟩:=h;exact⟨_,rfl,h⟩
theorem Ok.nJ{d:D}(h:Ok B .bool d):∃b,d=.bool b:=by
 cases d<;>simp only[Ok]at h
 exact⟨_,rfl⟩
theorem Ok.jl{d:D}(h:Ok B .str d):∃s,d=.str s/\s.size<=maxLen:=by
 cases d<;>simp only[Ok]at h
 exact⟨_,rfl,h⟩
theorem Ok.ek{t:Nat}{d:D}(h:Ok B (.list t) d):∃es,d=.list (kw t) (flT t) es/\es.length<=B/\dw B t es:=by
 cases d<;>simp only[Ok]at h
 obtain⟨rfl,rfl,h⟩:=h;exact⟨_,rfl,h⟩
theorem eu.gQ{a:M D}(h:eu B [] a):a=[]:=by
 cases a with
 |nil=>rfl
 |cons d a=>simp[eu]at h
theorem eu.cons_inv{t:Ty}{ts:M Ty}{a:M D}(h:eu B (t::ts) a):∃x b,a=x::b/\Ok B t x/\eu B ts b:=by
 cases a with
 |nil=>simp[eu]at h
 |cons d a=>simp only[eu]at h;exact⟨d,a,rfl,h⟩
theorem dw.mem{t:Nat}:∀{es:M (M D)},dw B t es->∀e∈es,eu B (lay t) e
 |[],_,e,h=>by simp at h
 |x::es,a,e,h=>by
  simp only[dw]at a;rcases aL.1 h with rfl|h
  ·exact a.1
  ·exact dw.mem a.2 e h
theorem cI{a:Type}{l:M a}{i:Nat}(h:i < l.length):nth l i=Z l[i]:=by rw[ef];simp[h]
theorem qk{a:Type}{l:M a}{i:Nat}{x:a}(h:nth l i=Z x):x∈l:=by rw[ef]at h;exact dS h
theorem dw.uT{t:Nat}{es:M (M D)}{i:Nat}{e:M D}(a:dw B t es)(h:nth es i=Z e):eu B (lay t) e:=a.mem e (qk h)
theorem eu.length{a:M Ty}:∀{b:M D},eu B a b->b.length=a.length:=by
 induction a with
 |nil=>intro b h;rw[h.gQ];rfl
 |cons t a c=>intro b h;obtain⟨x,e,rfl,_,d⟩:=h.cons_inv;simp[c d]
mutual
theorem Ok.mono{B b:Nat}(a:B<=b):∀(t:Ty) (d:D),Ok B t d->Ok b t d
 | .int,.int _ _,h=>by simpa only [Ok] using h
 | .bool,.bool _,_=>by simp only[Ok]
 | .str,.str _,h=>by simpa only [Ok] using h
 | .list t,.list k f es,h=>by
  simp only[Ok]at h ⊢;exact⟨h.1,h.2.1,aG h.2.2.1 a,dw.mono a t es h.2.2.2⟩
 | .int,.bool _,h | .int,.str _,h | .int,.list _ _ _,h | .bool,.int _ _,h | .bool,.str _,h | .bool,.list _ _ _,h | .str,.int _ _,h | .str,.bool _,h | .str,.list _ _ _,h | .list _,.int _ _,h | .list _,.bool _,h | .list _,.str _,h=>by simp only[Ok]at h
theorem eu.mono{B b:Nat}(a:B<=b):∀(c:List Ty) (g:List D),eu B c g->eu b c g
 |[],[],_=>by simp only[eu]
 |t::c,d::g,h=>by
  simp only[eu]at h ⊢;exact⟨Ok.mono a t d h.1,eu.mono a c g h.2⟩
 |[],_::_,h|_::_,[],h=>by simp only[eu]at h
theorem dw.mono{B b:Nat}(a:B<=b)(t:Nat):∀(es:List (List D)),dw B t es->dw b t es
 |[],h=>by simp only[dw]
 |e::es,h=>by
  simp only[dw]at h ⊢;exact⟨eu.mono a (lay t) e h.1,dw.mono a t es h.2⟩
end
end
mutual
def D.sz:D->Nat
 | .str s=>s.size
 | .list _ _ es=>es.length+oM es
 |_=>0
def ee:List D->Nat
 |[]=>0
 |d::a=>d.sz+ee a
def oM:List (List D)->Nat
 |[]=>0
 |e::es=>ee e+oM es
end
mutual
theorem Ok.small{B B':Nat}:∀(t:Ty) (d:D),Ok B t d->d.sz<=B'->Ok B' t d
 | .int,.int _ _,h,_=>by simpa only [Ok] using h
 | .bool,.bool _,_,_=>by simp only[Ok]
 | .str,.str _,h,_=>by simpa only [Ok] using h
 | .list t,.list k f es,h,a=>by
  simp only[Ok]at h ⊢;simp only[D.sz]at a;exact⟨h.1,h.2.1,by omega,dw.small t es h.2.2.2 (by omega)⟩
 | .int,.bool _,h,_ | .int,.str _,h,_ | .int,.list _ _ _,h,_ | .bool,.int _ _,h,_ | .bool,.str _,h,_ | .bool,.list _ _ _,h,_ | .str,.int _ _,h,_ | .str,.bool _,h,_ | .str,.list _ _ _,h,_ | .list _,.int _ _,h,_ | .list _,.bool _,h,_ | .list _,.str _,h,_=>by simp only[Ok]at h
theorem eu.small{B B':Nat}:∀(c:List Ty) (b:List D),eu B c b->ee b<=B'->eu B' c b
 |[],[],_,_=>by simp only[eu]
 |t::c,d::b,h,a=>by
  simp only[eu]at h ⊢;simp only[ee]at a;exact⟨Ok.small t d h.1 (by omega),eu.small c b h.2 (by omega)⟩
 |[],_::_,h,_|_::_,[],h,_=>by simp only[eu]at h
theorem dw.small{B B':Nat}(t:Nat):∀(es:List (List D)),dw B t es->oM es<=B'->dw B' t es
 |[],h,_=>by simp only[dw]
 |e::es,h,a=>by
  simp only[dw]at h ⊢;simp only[oM]at a;exact⟨eu.small (lay t) e h.1 (by omega),dw.small t es h.2 (by omega)⟩
end
abbrev oH(k:Nat)(a:Bool)(es:M (M D)):Row:=⟨es,k,a,I,I,J⟩
def own:D->RV
 | .list k a es=>.row (oH k a es)
 |d=>.d d
def Dn:Nat->Nat->z->z
 |0,_,out=>out
 |f+1,n,out=>if n=0 then out else Dn f (n / 10) (⟨#[dz (48+n % 10)]⟩++out)
def Je(k:Int):z:=if k<=0 then ⟨#[109,48]⟩ else ⟨#[109]⟩++Dn 20 k.toNat ⟨#[]⟩
def adS(q:Int):Bool:=Z' (q % 3=0)
mutual
def D.mn:D->Nat
 | .list _ _ es=>aT es
 |_=>1
def rf:List D->Nat
 |[]=>0
 |d::a=>d.mn+rf a
def aT:List (List D)->Nat
 |[]=>0
 |e::es=>rf e+aT es
end
mutual
def D.mk:D->Int->D
 | .int k _,q=>.int k q
 | .bool _,q=>.bool (adS q)
 | .str _,q=>.str (Je q)
 | .list k a es,q=>.list k a (iV es q)
def Gq:List D->Int->List D
 |[],_=>[]
 |d::b,q=>d.mk q::Gq b (q+d.mn)
def iV:List (List D)->Int->List (List D)
 |[],_=>[]
 |e::es,q=>Gq e q::iV es (q+rf e)
end
def D.ox:D->Nat
 | .list _ _ es=>aT es
 |_=>0
def ox:M D->Nat
 |[]=>0
 |d::a=>d.ox+ox a
def D.Bd:D->Int->D
 | .list k a es,q=>.list k a (iV es q)
 |d,_=>d
def Bd:M D->Int->M D
 |[],_=>[]
 |d::a,q=>d.Bd q::Bd a (q+d.ox)
theorem cx:∀(es:M (M D)) (q:Int),(iV es q).length=es.length
 |[],_=>by simp[iV]
 |e::es,q=>by simp[iV,cx es]
theorem Gt:∀(a b:M (M D)) (q:Int),iV (a++b) q=iV a q++iV b (q+aT a)
 |[],b,q=>by simp[iV,aT]
 |e::a,b,q=>by simp[iV,aT,Gt a b,Int.add_assoc]
theorem oG:∀(a b:M (M D)),aT (a++b)=aT a+aT b
 |[],b=>by simp[aT]
 |e::a,b=>by simp[aT,oG a b,cQ]
theorem Hh:∀(a b:M (M D)),oM (a++b)=oM a+oM b
 |[],b=>by simp[oM]
 |e::a,b=>by simp[oM,Hh a b,cQ]
theorem oT:∀(es:M (M D)) (q:Int) (i:Nat) (e:M D),nth es i=Z e->nth (iV es q) i=Z (Gq e (q+aT (es.take i)))
 |[],_,_,_,h=>by simp[nth]at h
 |x::es,q,0,e,h=>by simp only[nth,ae]at h;subst h;simp[iV,nth,aT]
 |x::es,q,i+1,e,h=>by
  simp only[nth]at h;simp only[iV,nth,cn,aT];rw[oT es _ i e h]
  congr 2
  omega
theorem bZ{a:Type}:∀(es:M a) (i:Nat) (e:a),nth es i=Z e->es.take (i+1)=es.take i++[e]
 |[],_,_,h=>by simp[nth]at h
 |x::es,0,e,h=>by simp only[nth,ae]at h;simp[h]
 |x::es,i+1,e,h=>by simp only[nth]at h;simp[bZ es i e h]
theorem dG{es:M (M D)}{i:Nat}{e:M D}(h:nth es i=Z e):aT (es.take (i+1))=aT (es.take i)+rf e:=by
 rw[bZ es i e h,oG];simp[aT]
theorem eA(es:M (M D))(i:Nat):aT (es.take i)<=aT es:=by
 have:=oG (es.take i) (es.drop i);rw[bI]at this;omega
theorem EX{c:Type}:∀(es:M c) (a:c) (b:M c) (i:Nat) (e:c),nth es i=Z e->(es.take i++a::b).set i e=es.take (i+1)++b
 |[],_,_,_,_,h=>by simp[nth]at h
 |x::es,a,b,0,e,h=>by
  simp only[nth,ae]at h;subst h;simp
 |x::es,a,b,i+1,e,h=>by
  simp only[nth]at h;simp[EX es a b i e h]
theorem Yb{b:Type}{es:M b}{a:b}{i:Nat}{e:b}(h:nth es i=Z e):(es.take i++bn (es.length - i) a).set i e=es.take (i+1)++bn (es.length - (i+1)) a:=by
 have c:i < es.length:=by rw[ef]at h;exact (bq.1 h).1
 rw[show es.length - i=(es.length - (i+1))+1 by omega,gE,EX es a _ i e h]
end
section
section
variable {cf:Cf} {mf:Mf}
@[go_sem] theorem alP (g:St->u (Ex×St)) (s:St):H9 g (Z (.norm,s))=g s:=rfl
@[go_sem] theorem alO (g:St->u (Ex×St)) (i:Nat) (s:St):H9 g (Z (.exit i,s))=Z (.exit i,s):=rfl
@[go_sem] theorem al3 (g:St->u (Ex×St)) (s:St):H9 g (Z (.ret,s))=Z (.ret,s):=rfl
@[go_sem] theorem ahE (i:Nat) (s:St):Xb i (Z (.norm,s))=Z (.norm,s):=rfl
@[go_sem] theorem ahD (i j:Nat) (s:St):Xb i (Z (.exit j,s))=if j=i then Z (.norm,s) else Z (.exit j,s):=rfl
@[go_sem] theorem aj2 (a:lE) (s:St):nrm a (Z s)=Z (.norm,s.dF a):=rfl
@[go_sem] theorem aj1 (s:St):Ox (Z s)=Z (.norm,s):=rfl
def Lj(a:M KR)(args:M A)(s:St):u (M A×M A):=
 match AT s a,wW s 0 args with
 |some (rs,l),Z (outs,b)=>if kG (l++b) then Z (rs,outs) else O
 |_,_=>O
def Yc(a:M KR)(args:M A):u (Ex×St)->u (M A×M A)
 |some (.norm,s)=>Lj a args s
 |some (.ret,s)=>Lj a args s
 |_=>O
@[go_sem] theorem al0 (a:M KR) (as:M A) (s:St):Yc a as (Z (.ret,s))=Lj a as s:=rfl
theorem lj{T:Nat->u KF}{f c:Nat}{a:K}{b:M KR}(g:T f=Z ⟨c,a,b⟩){args:M A}(d:(args.length ==c && fV c 999)=I) :
  dM T f args=Yc b args (ev T tN a (jW 0 args ⟨[],[],[]⟩)):=by
 rw[ai,beq_iff_eq,oh]at d;have e:=d.1;rw[TC T g (by simp only;omega)];simp only[run,e,if_true];generalize ev T tN a (jW 0 args ⟨[],[],[]⟩)=x;rcases x with _|⟨_|_|_,s⟩<;>rfl
theorem Rh{T:Nat->u KF}{np:Nat}{a:K}{b:M KR}{args:M A}(c:args.length=np) :
  run T mf ⟨np,a,b⟩ args=Yc b args (ev T mf a (jW 0 args ⟨[],[],[]⟩)):=by
 simp only[run,c,if_true];generalize ev T mf a (jW 0 args ⟨[],[],[]⟩)=x;rcases x with _|⟨_|_|_,s⟩<;>rfl
theorem TE{T:Nat->u KF}{body:K}(st:Nat->St){n:Nat}{e:Ex}{s:St}(a:e≠.norm)(b:ev T mf body (st n)=Z (e,s))(c:∀i,i < n->ev T mf body (st i)=Z (.norm,st (i+1))) :
  ∀m i,i+m=n->ev T mf (.loop body) (st i)=Z (e,s)
 |0,i,h=>by
  rw[gN,show i=n by omega,b];cases e with
  |norm=>exact absurd rfl a
  |exit j=>rfl
  |ret=>rfl
 |m+1,i,h=>by
  rw[gN,c i (by omega)];exact TE st a b c m (i+1) (by omega)
theorem yp{T:Nat->u KF}{body:K}(st:Nat->St)(n:Nat){e:Ex}{s:St}(a:e≠.norm)(b:ev T mf body (st n)=Z (e,s))(c:∀i,i < n->ev T mf body (st i)=Z (.norm,st (i+1))):ev T mf (.loop body) (st 0)=Z (e,s):=
 TE st a b c n 0 (by omega)
@[go_sem] theorem ahl (c:Bool) (a:M RV):A.short (.val c a)=Z' (a.length<=30):=by
 simp only[A.short];by_cases h:a.length<=30
 ·simp only[h,decide_true];exact Nat.ble_eq_true_of_le h
 ·simp only[h,decide_false];cases b:n8 a.length 30 with
  |false=>rfl
  |true=>exact absurd (Nat.le_of_ble_eq_true b) h
@[go_sem] theorem ahh (s:St):nO cf mf [] s=Z s:=rfl
@[go_sem] theorem aey (i:KI) (a:M KI) (s:St):nO cf mf (i::a) s=(vB cf mf s i).bind (nO cf mf a):=by
 simp only[nO];cases vB cf mf s i<;>rfl
@[go_sem] theorem aih (s:St) (d:u Nat) (o:KO):vB cf mf s ⟨d,o,O⟩=Dp cf mf s d o:=rfl
def gdn(cf:Cf)(mf:Mf)(s:St)(d:u Nat)(o:KO)(w:Bool):C->u St
 | .d (.bool b)=>if b=w then Dp cf mf s d o else Z (s.put d .vz)
 | .vz=>Z (s.put d .vz)
 |_=>O
@[go_sem] theorem aii (s:St) (d:u Nat) (o:KO) (g:Nat) (w:Bool):vB cf mf s ⟨d,o,Z (g,w)⟩=gdn cf mf s d o w (s.get g):=by
 simp only[vB,gdn];cases s.get g<;>rfl
@[go_sem] theorem amp (s:St) (d:u Nat) (o:KO):gdn cf mf s d o J (.d (.bool J))=Dp cf mf s d o:=rfl
@[go_sem] theorem aif (a:lE) (b:M (M Nat×Nat)) (s:St):fP cf mf a .nil b s=Z (s.dF a):=by simp only[fP]
def lod(s:St)(d:u Nat)(e:M Nat)(a:M (M Nat×Nat))(k:M (M Nat×Nat)->St->u St):u C->u (u Nat)->u St
 |some c,Z b=>k (po e a b) (s.put d c)
 |_,_=>O
@[go_sem] theorem aew (b:lE) (j:Nat) (f e:M Nat) (d:u Nat) (o:KO) (c:KT) (a:M (M Nat×Nat)) (s:St) :
  fP cf mf b (.op ⟨j,I,f,e,⟨d,o,O⟩⟩ c) a s=lod s d e a (fP cf mf b c) (jf s o) (pU s o):=by
 simp only[fP,if_true,lod];cases jf s o<;>cases pU s o<;>rfl
@[go_sem] theorem ajG (s:St) (d:u Nat) (e:M Nat) (a:M (M Nat×Nat)) (k:M (M Nat×Nat)->St->u St) (c:C) (b:u Nat):lod s d e a k (Z c) (Z b)=k (po e a b) (s.put d c):=rfl
@[go_sem] theorem aev (b:lE) (j:Nat) (e d:M Nat) (i:KI) (c:KT) (a:M (M Nat×Nat)) (s:St) :
  fP cf mf b (.op ⟨j,J,e,d,i⟩ c) a s=mi cf mf ⟨j,J,e,d,i⟩ a s (fP cf mf b c):=by simp only[fP,aF,if_false]
def stp(x:KD)(s:St)(a:M (M Nat×Nat))(k:M (M Nat×Nat)->St->u St):u St->u St
 |some b=>if a.all (λp=>!(eP s x.i.dst x.i.op).contains p.2 && (look b.bx p.2).isSome && !(x.i.dst ==Z p.2)) then k a b else O
 |none=>O
@[go_sem] theorem alE (x:KD) (a:M (M Nat×Nat)) (s:St) (k:M (M Nat×Nat)->St->u St):mi cf mf x a s k=stp x s (jQ x.j a) k (vB cf mf s x.i):=by
 simp only[mi,stp];cases vB cf mf s x.i<;>rfl
@[go_sem] theorem al2 (x:KD) (s a:St) (k:M (M Nat×Nat)->St->u St):stp x s [] k (Z a)=k [] a:=rfl
@[go_sem] theorem alF (x:KD) (s b:St) (p:M Nat×Nat) (a:M (M Nat×Nat)) (k:M (M Nat×Nat)->St->u St):stp x s (p::a) k (Z b)=if (p::a).all (λp=>!(eP s x.i.dst x.i.op).contains p.2 && (look b.bx p.2).isSome && !(x.i.dst ==Z p.2)) then k (p::a) b else O:=rfl
def rsl(s:St)(d:u Nat)(a:M C):u (M A×M A)->u St
 |none=>O
 |some (rs,outs)=>if rs.all A.short then
   let g:=if rs.all A.closed && outs.all A.closed then s else eY s (jG a)
   let f:=fG (fK g (dN s a)) (db a)
   let e:=l6 f a outs
   let (l,b):=gF (d.getD 0) 0 rs e
   Z (b.put d (match l with|[c]=>c|l=>.sh l))
   else O
def abe(cf:Cf)(s:St)(d:u Nat)(f:Nat)(a:M C):u (M A)->u St
 |some as=>if kG (dN s a) && kG (db a) && (dN s a).all (λr=>!(jG a).contains r) then rsl s d a (cf f as) else O
 |none=>O
@[go_sem] theorem ahd (s:St) (d:u Nat) (f:Nat) (a:M C):yE cf s d f a=abe cf s d f a (A6 s a):=by
 simp only[yE,abe];cases A6 s a with
 |none=>rfl
 |some as=>
  dsimp only;split
  ·cases cf f as with
   |none=>rfl
   |some r=>rfl
  ·rfl
@[go_sem] theorem ahc (s:St) (d:u Nat) (f:Nat) (a:M C) (as:M A):abe cf s d f a (Z as)=if kG (dN s a) && kG (db a) && (dN s a).all (λr=>!(jG a).contains r) then rsl s d a (cf f as) else O:=rfl
@[go_sem] theorem alx (s:St) (d:u Nat) (a:M C) (b outs:M A):rsl s d a (Z (b,outs))=if b.all A.short then
  let h:=if b.all A.closed && outs.all A.closed then s else eY s (jG a)
  let g:=fG (fK h (dN s a)) (db a)
  let f:=l6 g a outs
  let (l,e):=gF (d.getD 0) 0 b f
  Z (e.put d (match l with|[c]=>c|l=>.sh l))
  else O:=rfl
end
theorem anm{a:Type}(x:a)(l:M a):nth (x::l) 0=Z x:=rfl
theorem ano{a:Type}(x:a)(l:M a)(i:Nat):nth (x::l) (i+1)=nth l i:=rfl
theorem ann{a:Type}(i:Nat):nth ([]:M a) i=O:=by cases i<;>rfl
attribute [go_sem] X7 Kb Nv X5 X4 X6 Sv Sw Nw X3
attribute [go_sem] uk Lj AT LW wW VP
attribute [go_sem] tQ Dp jf lP fW KO.kX KO.QO pU eP po jQ
attribute [go_sem] St.get St.put St.fY St.setRow St.dd St.lY St.newRow St.kill St.dF iP look ti Tm Tl yc anm ano ann
attribute [go_sem] C.iz C.Ct ZW ZV St.iz lx IZ C.kill C.kR C.cells C.const C.cell C.isAgg HA EI dV D.plain W8 W9 W7 Ux ni j_ gB V8 A6 rowsOf tO dN jG db RV.closed A.closed Row.share eY ft l6 gF kG fK gG fG CS AW DH kq vT rO Bz jW nI
attribute [go_sem] aH aJ aW bD cX List.all_nil gZ xM aK av au cn aV dJ bm List.drop_nil List.take_nil List.contains_cons List.contains_nil List.headD_cons
attribute [go_sem] aQ Option.map_none jo Option.getD_none gT Option.toList_some dW
attribute [go_sem] Option.some_beq_some Option.none_beq_some
attribute [go_sem] if_true if_false fZ cW kH cP lJ ga ll mQ kc gA and_true true_and and_false false_and
attribute [go_sem] bo cd aF ite_true ite_false decide_true decide_false bW Bool.true_eq_false beq_self_eq_true bne_self_eq_false imp_self false_imp_iff true_imp_iff
theorem wi{i n:Nat}(h:i < n)(a:n<=maxLen):IntKind.i64.wrap ((i:Int)+1)=((i+1:Nat):Int):=by
 rw[bH (by simp[maxLen]at a;omega)];omega
theorem Ks{i n:Nat}(h:i < n):((i:Int) < (n:Int))=True:=by simp;omega
theorem LH(n:Nat):((n:Int) < (n:Int))=False:=by simp
theorem eu.drop{B:Nat}:∀(o:Nat) (a:M Ty) (b:M D),eu B a b->eu B (a.drop o) (b.drop o)
 |0,_,_,h=>by simpa using h
 |o+1,[],[],h=>by simpa using h
 |o+1,t::a,d::b,h=>by simp only[eu]at h;simpa using eu.drop o a b h.2
 |_,[],_::_,h|_,_::_,[],h=>by simp only[eu]at h
theorem eu.take{B:Nat}:∀(o:Nat) (a:M Ty) (b:M D),eu B a b->eu B (a.take o) (b.take o)
 |0,_,_,_=>by simp[eu]
 |o+1,[],[],h=>by simpa using h
 |o+1,t::a,d::b,h=>by simp only[eu]at h;simp only[cn,eu];exact⟨h.1,eu.take o a b h.2⟩
 |_,[],_::_,h|_,_::_,[],h=>by simp only[eu]at h
theorem eu.sub{B:Nat}(o m:Nat){a:M Ty}{b:M D}(h:eu B a b):eu B ((a.drop o).take m) ((b.drop o).take m):=eu.take m _ _ (eu.drop o _ _ h)
theorem eg{a:Type}:∀(es:M a) (i:Nat) (e:a),nth es i=Z e->es.drop i=e::es.drop (i+1)
 |[],_,_,h=>by simp[nth]at h
 |x::es,0,e,h=>by simp only[nth,ae]at h;simp[h]
 |x::es,i+1,e,h=>by simp only[nth]at h;simp[eg es i e h]
theorem pj{k:Nat}{c:Bool}{x es:M (M D)}{e:M D}(h:D.list k c x∈e)(a:e∈es):aw x < aw es:=by
 have b:=bj h;have d:=bj a;simp only[D.list.sizeOf_spec]at b;omega
end
section
section
variable {cf:Cf} {mf:Mf} {own:Bool} {k:Nat}
@[go_sem] theorem ahn (g:MS->u (Ex×MS)) (s:MS):CA g (Z (.norm,s))=g s:=rfl
@[go_sem] theorem ahm (g:MS->u (Ex×MS)) (i:Nat) (s:MS):CA g (Z (.exit i,s))=Z (.exit i,s):=rfl
@[go_sem] theorem ai4 (x y:u (Ex×MS)):ifM (.d (.bool I)) x y=x:=rfl
@[go_sem] theorem ahi (x y:u (Ex×MS)):ifM (.d (.bool J)) x y=y:=rfl
@[go_sem] theorem ahb (i:Nat) (s:MS):PW i (Z (.norm,s))=Z (.norm,s):=rfl
@[go_sem] theorem aha (i j:Nat) (s:MS):PW i (Z (.exit j,s))=if j=i then Z (.norm,s) else Z (.exit j,s):=rfl
@[go_sem] theorem ahk (a:lE) (s:MS):afp a (Z s)=Z (.norm,s.dF a):=rfl
@[go_sem] theorem aik (s:MS):rH cf mf own k [] s=Z s:=rfl
@[go_sem] theorem ahg (i:KI) (a:M KI) (s:MS):rH cf mf own k (i::a) s=(J_ cf mf own k s i).bind (rH cf mf own k a):=by
 simp only[rH];cases J_ cf mf own k s i<;>rfl
@[go_sem] theorem ahf (s:MS) (d:Nat) (o:KO):J_ cf mf own k s ⟨Z d,o,O⟩=EM cf mf k s d o:=rfl
@[go_sem] theorem ahe (s:MS) (o:KO):J_ cf mf own k s ⟨O,o,O⟩=XS own s o:=rfl
def mpc(m:MS)(d:Nat):u (M A×M A)->u MS
 |some ([.val J [.d r]],[])=>if D.plain r then Z (m.put d (.d r)) else O
 |_=>O
def mpa(cf:Cf)(m:MS)(d f:Nat):u (M A)->u MS
 |some as=>mpc m d (cf f as)
 |none=>O
@[go_sem] theorem alZ (m:MS) (d f:Nat) (a:M KX):HM cf m d f a=mpa cf m d f (y_ (a.map (fW m.s))):=by
 unfold HM mpa mpc;rfl
@[go_sem] theorem ajS (m:MS) (d f:Nat) (as:M A):mpa cf m d f (Z as)=mpc m d (cf f as):=rfl
@[go_sem] theorem ajT (m:MS) (d:Nat) (r:D):mpc m d (Z ([.val J [.d r]],[]))=if D.plain r then Z (m.put d (.d r)) else O:=rfl
def mmh(m:MS)(d i o:Nat):u (M D×Int)->u MS
 |some ([a],b)=>Z ((m.set i o [a]).put d (.d (.int .i64 b)))
 |_=>O
def mml(mf:Mf)(m:MS)(d f i o:Nat)(q:Int):u D->u MS
 |some (.list k a es)=>mmh m d i o (mf f J [.list k a es] q)
 |_=>O
@[go_sem] theorem alY (m:MS) (d f i o:Nat) (q:Int):EP mf m d f (.hd i o) (.d (.int .i64 q))=mml mf m d f i o q (m.at_ i o):=by
 unfold EP mml mmh;rfl
@[go_sem] theorem ajP (m:MS) (d f i o:Nat) (q:Int) (k:Nat) (a:Bool) (es:M (M D)):mml mf m d f i o q (Z (.list k a es))=mmh m d i o (mf f J [.list k a es] q):=rfl
@[go_sem] theorem ajO (m:MS) (d i o:Nat) (a:D) (b:Int):mmh m d i o (Z ([a],b))=Z ((m.set i o [a]).put d (.d (.int .i64 b))):=rfl
def mms(m:MS)(d i o n:Nat)(e:M D):u (M D×Int)->u MS
 |some (xs,a)=>if o+n<=e.length/\xs.length=n then Z ((m.set i o xs).put d (.d (.int .i64 a))) else O
 |none=>O
def mmb(mf:Mf)(m:MS)(d f i o n:Nat)(q:Int):u (M D)->u MS
 |some e=>mms m d i o n e (mf f I ((e.drop o).take n) q)
 |none=>O
@[go_sem] theorem aij (m:MS) (d f i o n:Nat) (q:Int):EP mf m d f (.sub i o n) (.d (.int .i64 q))=mmb mf m d f i o n q (nth m.es i):=by
 unfold EP mmb mms;rfl
@[go_sem] theorem ajN (m:MS) (d f i o n:Nat) (q:Int) (e:M D):mmb mf m d f i o n q (Z e)=mms m d i o n e (mf f I ((e.drop o).take n) q):=rfl
@[go_sem] theorem ajQ (m:MS) (d i o n:Nat) (e a:M D) (b:Int):mms m d i o n e (Z (a,b))=if o+n<=e.length/\a.length=n then Z ((m.set i o a).put d (.d (.int .i64 b))) else O:=rfl
end
attribute [go_sem] abi X8 UM abg abh X9 X_
attribute [go_sem] MC.yr MS.Wz MS.put MS.ko MS.set MS.yr MS.dF MS.at_ y_ EM XS x_ C4 GM
theorem k8{T:Nat->u KF}{f r:Nat}{body:K}(b:T f=Z ⟨2,body,[.t r]⟩){k:Nat}{a:Bool}{es:M (M D)}{q:Int} :
  gl T f J [.list k a es] q=GM k a (x_ r (xR T I k body ⟨⟨[(1,.d (.int .i64 q))],[],[]⟩,[(0,.lst)],es⟩)):=by
 rw[Of T b];rfl
noncomputable def aeb(T:Nat->u KF)(r:Nat)(cells:M D)(body:K)(a:lE):u MS->u (M D×Int)
 |some m=>C4 cells (x_ r (xR T J cells.length body (m.dF a)))
 |none=>O
@[go_sem] theorem ag_ (T:Nat->u KF) (r:Nat) (cells:M D) (body:K) (a:lE) (m:MS):aeb T r cells body a (Z m)=C4 cells (x_ r (xR T J cells.length body (m.dF a))):=rfl
theorem Gd{T:Nat->u KF}{f r b:Nat}{a:M KI}{c:lE}{body:K}(e:T f=Z ⟨2,.seq (.Rf (⟨Z b,.box (.s 0),O⟩::a) c) body,[.t r]⟩){cells:M D}{q:Int} :
  gl T f I cells q=aeb T r cells body c (rH (dM T) (gl T) J cells.length a (MS.ko ⟨⟨[(1,.d (.int .i64 q))],[],[]⟩,[],[cells]⟩ b (.ep 0 0))):=by
 rw[Of T e];unfold runM aeb;dsimp only;simp only[if_true]<;>cases rH (dM T) (gl T) J cells.length a (MS.ko ⟨⟨[(1,.d (.int .i64 q))],[],[]⟩,[],[cells]⟩ b (.ep 0 0))<;>rfl
theorem adR{T:Nat->u KF}{own:Bool}{k:Nat}{body:K}(st:Nat->MS){n:Nat}{s:MS}(a:xR T own k body (st n)=Z (.exit 0,s))(b:∀i,i < n->xR T own k body (st i)=Z (.norm,st (i+1))) :
  ∀m i,i+m=n->xR T own k (.loop body) (st i)=Z (.exit 0,s)
 |0,i,h=>by rw[Nx,show i=n by omega,a];rfl
 |m+1,i,h=>by
  rw[Nx,b i (by omega)];exact adR st a b m (i+1) (by omega)
theorem sP{T:Nat->u KF}{own:Bool}{k:Nat}{body:K}(st:Nat->MS)(n:Nat){s:MS}(a:xR T own k body (st n)=Z (.exit 0,s))(b:∀i,i < n->xR T own k body (st i)=Z (.norm,st (i+1))):xR T own k (.loop body) (st 0)=Z (.exit 0,s):=
 adR st a b n 0 (by omega)
theorem sS{es:M (M D)}{i:Nat}{e:M D}(q:Int)(h:nth es i=Z e):nth (iV (es.take i) q++es.drop i) i=Z e:=by
 have a:i < es.length:=by rw[ef]at h;exact (bq.1 h).1
 rw[ef,cY (by rw[cx];simp;omega),cx,aY,cE (by omega),mZ,eg es i e h];rfl
theorem sR{es:M (M D)}{i:Nat}(q:Int)(a:i<=es.length):(iV (es.take i) q++es.drop i).length=es.length:=by
 rw[bh,cx];simp;omega
theorem sU{es:M (M D)}{i:Nat}{e:M D}(q:Int)(h:nth es i=Z e)(x:M D):(iV (es.take i) q++es.drop i).set i x=iV (es.take i) q++x::es.drop (i+1):=by
 have a:i < es.length:=by rw[ef]at h;exact (bq.1 h).1
 rw[List.set_append_right _ _ (by rw[cx];simp;omega),cx,aY,cE (by omega),mZ,eg es i e h];rfl
theorem qi{es:M (M D)}{i:Nat}(q:Int)(a:i < es.length)(x:M D)(t:M (M D)):nth (iV (es.take i) q++x::t) i=Z x:=by
 rw[ef,cY (by rw[cx];simp;omega),cx,aY,cE (by omega),mZ];rfl
theorem qh{es:M (M D)}{i:Nat}(q:Int)(a:i < es.length)(x:M D):(iV (es.take i) q++x::es.drop (i+1)).length=es.length:=by
 rw[bh,cx];simp;omega
theorem qj{es:M (M D)}{i:Nat}(q:Int)(a:i < es.length)(x y:M D)(t:M (M D)):(iV (es.take i) q++x::t).set i y=iV (es.take i) q++y::t:=by
 rw[List.set_append_right _ _ (by rw[cx];simp;omega),cx,aY,cE (by omega),mZ];rfl
theorem sQ{es:M (M D)}{i:Nat}{e:M D}(q:Int)(h:nth es i=Z e):iV (es.take i) q++Gq e (q+aT (es.take i))::es.drop (i+1)=iV (es.take (i+1)) q++es.drop (i+1):=by
 rw[bZ es i e h,Gt];simp[iV]
theorem Uc(b:UInt8):(⟨#[b]⟩:z).size=1:=rfl
theorem IA:∀(f n:Nat) (out:z),(Dn f n out).size<=out.size+f
 |0,n,out=>by simp[Dn]
 |f+1,n,out=>by
  simp only[Dn];split
  ·omega
  ·have:=IA f (n / 10) (⟨#[dz (48+n % 10)]⟩++out);rw[jr,Uc]at this;omega
theorem Oi(k:Int):(Je k).size<=30:=by
 unfold Je;split
 ·exact (by decide:(2:Nat)<=30)
 ·rw[jr,Uc];have:=IA 20 k.toNat ⟨#[]⟩;have a:(⟨#[]⟩:z).size=0:=rfl;omega
@[go_sem] theorem ajI (q:Int):Z' (q % 3=0)=adS q:=rfl
theorem VB(t:Nat):(lay t).length<=32:=by unfold lay;split<;>simp
mutual
theorem afj{B:Nat}:∀(t:Ty) (d:D),Ok B t d->d.mn<=1+32 * d.sz
 | .int,.int _ _,_=>by simp[D.mn]
 | .bool,.bool _,_=>by simp[D.mn]
 | .str,.str _,_=>by simp[D.mn]
 | .list t,.list k f es,h=>by
  simp only[Ok]at h;have:=mq t es h.2.2.2;simp only[D.mn,D.sz];omega
 | .int,.bool _,h | .int,.str _,h | .int,.list _ _ _,h | .bool,.int _ _,h | .bool,.str _,h | .bool,.list _ _ _,h | .str,.int _ _,h | .str,.bool _,h | .str,.list _ _ _,h | .list _,.int _ _,h | .list _,.bool _,h | .list _,.str _,h=>by simp only[Ok]at h
theorem Zm{B:Nat}:∀(b:List Ty) (a:List D),eu B b a->rf a<=b.length+32 * ee a
 |[],[],_=>by simp[rf]
 |t::b,d::a,h=>by
  simp only[eu]at h;have g:=afj t d h.1;have c:=Zm b a h.2;simp only[rf,ee,aH];omega
 |[],_::_,h|_::_,[],h=>by simp only[eu]at h
theorem mq{B:Nat}(t:Nat):∀(es:List (List D)),dw B t es->aT es<=32 * es.length+32 * oM es
 |[],_=>by simp[aT]
 |e::es,h=>by
  simp only[dw]at h;have g:=Zm (lay t) e h.1;have c:=mq t es h.2;have i:=VB t;simp only[aT,oM,aH];omega
end
end
section
inductive SK where
 |int (k:IntKind) (n:Int)
 |bool (b:Bool)
 |str (s:ByteArray)
 |nil (k:Nat) (fl:Bool)
 deriving DecidableEq
def SK.d:SK->D
 | .int k n=>.int k n
 | .bool b=>.bool b
 | .str s=>.str s
 | .nil k a=>.list k a []
inductive SE where
 |v (i:Nat)
 |k (x:SK)
 |c (i j:Nat)
 deriving DecidableEq
def elC:D->u (M D)
 | .list _ _ [cs]=>Z cs
 |_=>O
def SE.d(a:M D):SE->u D
 | .v i=>nth a i
 | .k x=>Z x.d
 | .c i j=>match nth a i with
  |some x=>match elC x with
   |some b=>nth b j
   |none=>O
  |none=>O
abbrev Gs:=M (SE×Bool)
def jq(a:M D):Gs->u Bool
 |[]=>Z I
 |(g,w)::gs=>match g.d a with
  |some (.bool b)=>if b=w then jq a gs else Z J
  |_=>O
inductive SB where
 |d (e:SE)
 |nil (k:Nat) (fl:Bool)
 |ref (r:Nat)
 |any
 deriving DecidableEq
inductive SC where
 |b (x:SB)
 |agg (xs:List SB)
 |sh (xs:List (SB ⊕ List SB))
 |ptr (b o:Nat)
 |pQ (r k:Nat) (i:SE) (o:Nat)
 |vj (i o:Nat)
 |any
 deriving DecidableEq
structure SG where
 gs:Gs
 c:SC
 deriving DecidableEq
structure SR where
 e:SE
 k:Nat
 fl:Bool
 deep:Bool
 app:Bool
 fz:Bool
 deriving DecidableEq
structure SS where
 sl:List (Nat×SG)
 bx:List (Nat×List SB)
 rw:List (Nat×SR)
 deriving DecidableEq
section
variable (ρ:M D)
def kz:SB->C->Prop
 | .d e,c=>∃x,e.d ρ=Z x/\c=.d x
 | .nil k a,c=>c=.nil k a
 | .ref r,c=>c=.ref r
 | .any,_=>True
def eO:M SB->M C->Prop
 |[],cs=>cs=[]
 |x::xs,cs=>∃c a,cs=c::a/\kz ρ x c/\eO xs a
def vK:M (SB ⊕ M SB)->M C->Prop
 |[],cs=>cs=[]
 | .inl x::xs,cs=>∃c a,cs=c::a/\kz ρ x c/\vK xs a
 | .inr l::xs,cs=>∃b a,cs=.agg b::a/\eO ρ l b/\vK xs a
def lK:SC->C->Prop
 | .b x,c=>kz ρ x c
 | .agg xs,c=>∃a,c=.agg a/\eO ρ xs a
 | .sh xs,c=>∃a,c=.sh a/\vK ρ xs a
 | .ptr b o,c=>c=.ptr b o
 | .pQ r k i o,c=>∃n,i.d ρ=Z (.int .i64 n)/\c=.pQ r k n.toNat o
 | .vj i o,c=>∃x a,nth ρ i=Z x/\elC x=Z a/\c=.vj (a.drop o)
 | .any,_=>True
def su(g:SG)(c:C):Prop:=∃b,jq ρ g.gs=Z b/\(b=I->lK ρ g.c c)/\(b=J->c=.vz)
def SRr(x:SR)(y:Row):Prop:=∃es,x.e.d ρ=Z (.list x.k x.fl es)/\y=⟨es,x.k,x.fl,x.deep,x.app,x.fz⟩
structure Rel (S:SS) (s:St):Prop where
 sl:∀d g,look S.sl d=some g->su ρ g (s.get d)
 bx:∀b xs,look S.bx b=some xs->∃cs,look s.bx b=some cs/\eO ρ xs cs
 rw:∀r x,look S.rw r=some x->∃y,look s.rw r=some y/\SRr ρ x y
end
theorem Ec{a:Type}:∀{l m:M a} {i:Nat} {x:a},nth l i=Z x->nth (l++m) i=Z x
 |_::_,_,0,_,h=>by simpa [nth] using h
 |_::l,m,i+1,x,h=>by simp only[au,nth]at h ⊢;exact Ec h
 |[],_,_,_,h=>by simp[nth]at h
theorem jX{a:Type}:∀(l:M a) (x:a) (m:M a),nth (l++x::m) l.length=Z x
 |[],_,_=>rfl
 |_::l,x,m=>jX l x m
section
variable {ρ:M D} (τ:M D)
theorem SE.mono{e:SE}{x:D}(h:e.d ρ=Z x):e.d (ρ++τ)=Z x:=by
 cases e with
 |v i=>exact Ec h
 |k y=>exact h
 |c i j=>
  simp only[SE.d]at h ⊢
  split at h
  ·rename_i y a;rw[Ec a];exact h
  ·cases h
theorem lQ:∀{c:Gs} {b:Bool},jq ρ c=Z b->jq (ρ++τ) c=Z b
 |[],_,h=>h
 |(g,w)::c,b,h=>by
  simp only[jq]at h ⊢
  split at h
  ·rename_i t d;rw[SE.mono τ d];simp only
   split at h
   ·rename_i a;rw[if_pos a];exact lQ h
   ·rename_i a;rw[if_neg a];exact h
  ·cases h
theorem kz.mono:∀{x:SB} {c:C},kz ρ x c->kz (ρ++τ) x c
 | .d e,_,⟨x,b,a⟩=>⟨x,SE.mono τ b,a⟩
 | .nil _ _,_,h=>h
 | .ref _,_,h=>h
 | .any,_,_=>trivial
theorem eO.mono:∀{a:M SB} {b:M C},eO ρ a b->eO (ρ++τ) a b
 |[],_,h=>h
 |_::_,_,⟨c,d,g,f,e⟩=>⟨c,d,g,kz.mono τ f,eO.mono e⟩
theorem vK.mono:∀{f:M (SB ⊕ M SB)} {g:M C},vK ρ f g->vK (ρ++τ) f g
 |[],_,h=>h
 | .inl _::_,_,⟨c,a,e,d,b⟩=>⟨c,a,e,kz.mono τ d,vK.mono b⟩
 | .inr _::_,_,⟨c,a,e,d,b⟩=>⟨c,a,e,eO.mono τ d,vK.mono b⟩
theorem lK.mono:∀{x:SC} {c:C},lK ρ x c->lK (ρ++τ) x c
 | .b _,_,h=>kz.mono τ h
 | .agg _,_,⟨cs,d,a⟩=>⟨cs,d,eO.mono τ a⟩
 | .sh _,_,⟨cs,d,a⟩=>⟨cs,d,vK.mono τ a⟩
 | .ptr _ _,_,h=>h
 | .pQ _ _ _ _,_,⟨n,d,a⟩=>⟨n,SE.mono τ d,a⟩
 | .vj _ _,_,⟨x,cs,d,a,e⟩=>⟨x,cs,Ec d,a,e⟩
 | .any,_,_=>trivial
theorem su.mono{g:SG}{c:C}:su ρ g c->su (ρ++τ) g c
 |⟨b,e,d,a⟩=>⟨b,lQ τ e,λh=>(d h).mono τ,a⟩
theorem SRr.mono{x:SR}{y:Row}:SRr ρ x y->SRr (ρ++τ) x y
 |⟨es,b,a⟩=>⟨es,SE.mono τ b,a⟩
theorem Rel.mono{S:SS}{s:St}(h:Rel ρ S s):Rel (ρ++τ) S s:=
 ⟨λd g a=>(h.sl d g a).mono τ,λb f a=>(h.bx b f a).imp λ_ e=>⟨e.1,e.2.mono τ⟩,λr x a=>(h.rw r x a).imp λ_ c=>⟨c.1,c.2.mono τ⟩⟩
end
def SB.kill(i:Nat):SB->SB
 | .ref r=>if r=i then .any else .ref r
 |x=>x
def SC.kill(i:Nat):SC->SC
 | .b x=>.b (x.kill i)
 | .agg xs=>.agg (xs.map (SB.kill i))
 | .sh xs=>.sh (xs.map λ| .inl x=>.inl (x.kill i) | .inr l=>.inr (l.map (SB.kill i)))
 | .ptr q o=>if q=i then .any else .ptr q o
 | .pQ r k a o=>if r=i then .any else .pQ r k a o
 |x=>x
def SS.kill(S:SS)(i:Nat):SS:=⟨S.sl.map λp=>(p.1,⟨p.2.gs,p.2.c.kill i⟩),S.bx.map λp=>(p.1,p.2.map (SB.kill i)),S.rw⟩
def SS.put(S:SS)(a:u Nat)(g:SG):SS:=
 match a with
 |some d=>{S with sl:=(d,g)::S.sl }
 |none=>S
def SS.fY(S:SS)(b:Nat)(a:M SB):SS:={S with bx:=(b,a)::ti S.bx b }
def SS.setRow(S:SS)(r:Nat)(x:SR):SS:={S with rw:=(r,x)::ti S.rw r }
def SS.dd(S:SS)(r:Nat):SS:={S with rw:=ti S.rw r }
def SS.lY(S:SS)(b:Nat)(a:M SB):SS:=(S.kill b).fY b a
def SS.newRow(S:SS)(r:Nat)(x:SR):SS:=(S.kill r).setRow r x
def SS.dF(S:SS)(a:lE):SS:=⟨iP S.sl a.s,iP S.bx a.b,iP S.rw a.r⟩
section
variable {ρ:M D}
theorem kz.kill(i:Nat):∀{x:SB} {c:C},kz ρ x c->kz ρ (x.kill i) (c.kill i)
 | .d e,_,⟨x,b,a⟩=>by subst a;exact⟨x,b,rfl⟩
 | .nil _ _,_,h=>by simp only[kz]at h;subst h;rfl
 | .ref r,_,h=>by
  simp only[kz]at h;subst h;simp only[SB.kill,C.kill];split
  ·trivial
  ·rfl
 | .any,_,_=>trivial
theorem eO.kill(i:Nat):∀{a:M SB} {b:M C},eO ρ a b->eO ρ (a.map (SB.kill i)) (C.kR i b)
 |[],_,h=>by simp only[eO]at h;subst h;rfl
 |_::_,_,⟨c,g,f,e,d⟩=>by subst f;exact⟨_,_,rfl,e.kill i,eO.kill i d⟩
theorem vK.kill(i:Nat):∀{e:M (SB ⊕ M SB)} {f:M C},vK ρ e f->vK ρ (e.map λ| .inl x=>.inl (x.kill i) | .inr l=>.inr (l.map (SB.kill i))) (C.kR i f)
 |[],_,h=>by simp only[vK]at h;subst h;rfl
 | .inl _::_,_,⟨c,g,d,b,a⟩=>by subst d;exact⟨_,_,rfl,b.kill i,vK.kill i a⟩
 | .inr _::_,_,⟨j,g,d,b,a⟩=>by subst d;exact⟨_,_,rfl,b.kill i,vK.kill i a⟩
theorem lK.kill(i:Nat):∀{x:SC} {c:C},lK ρ x c->lK ρ (x.kill i) (c.kill i)
 | .b _,_,h=>kz.kill i h
 | .agg _,_,⟨cs,e,d⟩=>by subst e;exact⟨_,rfl,d.kill i⟩
 | .sh _,_,⟨cs,e,d⟩=>by subst e;exact⟨_,rfl,d.kill i⟩
 | .ptr b o,_,h=>by
  simp only[lK]at h;subst h;simp only[SC.kill,C.kill];split
  ·trivial
  ·rfl
 | .pQ r k a o,_,⟨n,e,d⟩=>by
  subst d;simp only[SC.kill,C.kill];split
  ·trivial
  ·exact⟨n,e,rfl⟩
 | .vj _ _,_,⟨x,cs,e,d,f⟩=>by subst f;exact⟨x,cs,e,d,rfl⟩
 | .any,_,_=>trivial
theorem qA{a β:Type}(f:a->β)(l:M (Nat×a))(d:Nat):look (l.map λp=>(p.1,f p.2)) d=(look l d).map f:=by
 induction l with
 |nil=>rfl
 |cons p l b=>
  obtain⟨k,x⟩:=p;simp only[aW,look,b]
  split<;>rfl
theorem Yj(s:St)(i d:Nat):(s.kill i).get d=(s.get d).kill i:=by
 simp only[St.get,St.kill,yV];cases look s.sl d<;>rfl
variable {S:SS} {s:St}
theorem Rel.kill(h:Rel ρ S s)(i:Nat):Rel ρ (S.kill i) (s.kill i) where
 sl d g a:=by
  simp only[SS.kill]at a;rw[qA (λg:SG=>(⟨g.gs,g.c.kill i⟩:SG)),ak]at a;obtain⟨n,k,rfl⟩:=a;obtain⟨b,j,f,m⟩:=h.sl d n k;rw[Yj];exact⟨b,j,λe=>(f e).kill i,λe=>by rw[m e];rfl⟩
 bx b l a:=by
  simp only[SS.kill]at a;rw[qA (λl:M SB=>l.map (SB.kill i)),ak]at a;obtain⟨o,k,rfl⟩:=a;obtain⟨p,j,f⟩:=h.bx b o k;exact⟨_,by simp only[St.kill,yU,j];rfl,f.kill i⟩
 rw r x a:=h.rw r x a
theorem abo(s:St)(d e:Nat)(c:C):(s.put (Z d) c).get e=if d=e then c else s.get e:=by
 simp only[St.get,St.put,look]
 split<;>rfl
theorem Rel.put(h:Rel ρ S s)(a:u Nat){g:SG}{c:C}(i:su ρ g c):Rel ρ (S.put a g) (s.put a c):=by
 cases a with
 |none=>exact h
 |some d=>exact {
   sl:=λe j b=>by
    simp only[SS.put,look]at b;rw[abo]
    split at b
    ·rename_i f;cases b;rw[if_pos f];exact i
    ·rename_i f;rw[if_neg f];exact h.sl e j b
   bx:=h.bx
   rw:=h.rw }
theorem su.nil{c:SC}{x:C}(h:lK ρ c x):su ρ ⟨[],c⟩ x:=⟨I,rfl,λ_=>h,λh=>by cases h⟩
theorem Rel.fY(h:Rel ρ S s)(b:Nat){i:M SB}{f:M C}(j:eO ρ i f):Rel ρ (S.fY b i) (s.fY b f) where
 sl d g a:=h.sl d g a
 bx e ys a:=by
  simp only[SS.fY,look,St.fY,eK]at a ⊢
  split at a
  ·rename_i c;cases a;exact⟨f,by rw[if_pos c],j⟩
  ·rename_i c;rw[if_neg c,if_neg c];exact h.bx e ys a
 rw r x a:=h.rw r x a
theorem Rel.setRow(h:Rel ρ S s)(r:Nat){x:SR}{y:Row}(f:SRr ρ x y):Rel ρ (S.setRow r x) (s.setRow r y) where
 sl d g b:=h.sl d g b
 bx e ys b:=h.bx e ys b
 rw q a b:=by
  simp only[SS.setRow,look,St.setRow,eK]at b ⊢
  split at b
  ·rename_i c;cases b;exact⟨y,by rw[if_pos c],f⟩
  ·rename_i c;rw[if_neg c,if_neg c];exact h.rw q a b
theorem Rel.dd(h:Rel ρ S s)(r:Nat):Rel ρ (S.dd r) (s.dd r) where
 sl d g b:=h.sl d g b
 bx e ys b:=h.bx e ys b
 rw q a b:=by
  simp only[SS.dd,St.dd,eK]at b ⊢
  split at b
  ·cases b
  ·rename_i c;rw[if_neg c];exact h.rw q a b
theorem Rel.lY(h:Rel ρ S s)(b:Nat){a:M SB}{c:M C}(d:eO ρ a c):Rel ρ (S.lY b a) (s.lY b c):=(h.kill b).fY b d
theorem Rel.newRow(h:Rel ρ S s)(r:Nat){x:SR}{y:Row}(a:SRr ρ x y):Rel ρ (S.newRow r x) (s.newRow r y):=(h.kill r).setRow r a
theorem iU{b:Type}(l:M (Nat×b)):∀(a:M Nat) {e:Nat} {x:b},look (iP l a) e=Z x->look l e=Z x/\e∈a
 |[],_,_,h=>by simp[iP,look]at h
 |d::a,e,x,h=>by
  unfold iP at h;cases hd:look l d with
  |none=>rw[hd]at h;have:=iU l a h;exact⟨this.1,bP _ this.2⟩
  |some y=>
   rw[hd]at h;simp only[look]at h
   split at h
   ·rename_i c;subst c;cases h;exact⟨hd,bQ⟩
   ·have:=iU l a h;exact⟨this.1,bP _ this.2⟩
theorem tG{f:Type}(l:M (Nat×f)):∀(a:M Nat) {e:Nat} {x:f},look l e=Z x->e∈a->look (iP l a) e=Z x
 |[],_,_,_,h=>by cases h
 |d::a,e,x,h,g=>by
  unfold iP;by_cases hd:d=e
  ·subst hd;rw[h];simp[look]
  ·have b:e∈a:=by
    rcases aL.1 g with c|c
    ·exact absurd c.symm hd
    ·exact c
   cases look l d with
   |none=>exact tG l a h b
   |some y=>simp only[look,if_neg hd];exact tG l a h b
theorem Fl(s:St)(a:lE){d:Nat}(h:d∈a.s):(s.dF a).get d=s.get d:=by
 simp only[St.get,St.dF];cases b:look s.sl d with
 |some x=>rw[tG _ _ b h]
 |none=>
  cases c:look (iP s.sl a.s) d with
  |none=>rfl
  |some x=>rw[(iU _ _ c).1]at b;cases b
theorem Rel.dF(h:Rel ρ S s)(f:lE):Rel ρ (S.dF f) (s.dF f) where
 sl d g a:=by
  obtain⟨e,c⟩:=iU _ _ a;rw[Fl s f c];exact h.sl d g e
 bx b xs a:=by
  obtain⟨e,c⟩:=iU _ _ a;obtain⟨k,j,i⟩:=h.bx b xs e;exact⟨k,tG _ _ j c,i⟩
 rw r x a:=by
  obtain⟨e,c⟩:=iU _ _ a;obtain⟨y,j,i⟩:=h.rw r x e;exact⟨y,tG _ _ j c,i⟩
end
end
section
inductive PO where
 |cel (o:Nat)
 |has (n:Nat)
 |bin (op:BinOp)
 |Wi (op:BinOp)
 |not
 |neg
 |conv (k:IntKind)
 |len
 |sln
 |min
 |max
 |Z3
 |el (k:Nat)
 |Wj
 |Wn (k o n:Nat) (deep:Bool)
 |ite
 |VZ (hi:Bool)
 |AZ (k:Nat) (hi:Bool)
 |P0
 |sV (k:Nat) (fl:Bool)
 |make (k by_:Nat) (fl:Bool) (zs:List SK)
 |app (k by_:Nat)
 |set (o:Nat)
 |cut (hi:Bool)
 |Iy
 |jnl
 |jnb
 |yv (ins:Bool)
 |lst (k:Nat) (fl:Bool)
 |tru
 |pl
 |Ww
 deriving DecidableEq
def dI:D->u Nat
 | .int .i64 n=>if 0<=n then Z n.toNat else O
 |_=>O
def chunk(k:Nat):Nat->M D->u (M (M D))
 |0,[]=>Z []
 |0,_=>O
 |m+1,xs=>if k<=xs.length then (chunk k m (xs.drop k)).map (xs.take k::·) else O
def asD:u C->u D
 |some (.d x)=>Z x
 |_=>O
def aZ:PO->M D->u D
 | .cel o,[x]=>match elC x with
  |some l=>nth l o
  |none=>O
 | .has n,[x]=>match elC x with
  |some l=>if n<=l.length then Z (.bool J) else O
  |none=>O
 | .bin op,[x,y]=>asD (Ux op (.d x) (.d y))
 | .Wi op,[.bool a,.bool b]=>W7 op a b
 | .not,[.bool b]=>Z (.bool (!b))
 | .neg,[.int k a]=>Z (.int k (k.wrap (-a)))
 | .conv k,[.int _ a]=>Z (.int k (k.wrap a))
 | .len,[.list _ _ es]=>Z (.int .i64 es.length)
 | .sln,[.str t]=>Z (.int .i64 t.size)
 | .min,[.int .i64 a,.int .i64 b]=>Z (.int .i64 (if b < a then b else a))
 | .max,[.int .i64 a,.int .i64 b]=>Z (.int .i64 (if a < b then b else a))
 | .Z3,[.str t,.int .i64 n]=>if 0<=n/\n.toNat < t.size then Z (.int .u8 (eB t n.toNat)) else O
 | .el k,[.list g _ es,.int .i64 n]=>if 0<=n/\g=k then (nth es n.toNat).map λe=>.list 0 J [e] else O
 | .Wj,[.list _ _ es,.int .i64 n]=>if 0<=n/\n.toNat < es.length then Z (.bool J) else O
 | .Wn k o n deep,[.list g _ es,.int .i64 i]=>match nth es i.toNat with
  |some e=>if g=k/\o+n<=k/\o+n<=e.length/\(dV ((e.drop o).take n) ||!deep)=I then Z (.list 0 J [e]) else O
  |none=>O
 | .ite,[.bool b,x,y]=>Z (if b then x else y)
 | .VZ J,[.str t,h]=>match dI h with
  |some a=>if a<=t.size then Z (.str (t.extract a t.size)) else O
  |none=>O
 | .VZ I,[.str t,h,p]=>match dI h,dI p with
  |some a,Z b=>if a<=b/\b<=t.size then Z (.str (t.extract a b)) else O
  |_,_=>O
 | .AZ k J,[.list g c es,h]=>match dI h with
  |some a=>if g=k/\a<=es.length then Z (.list g c (es.drop a)) else O
  |none=>O
 | .AZ k I,[.list g c es,h,p]=>match dI h,dI p with
  |some a,Z b=>if g=k/\a<=b/\b<=es.length then Z (.list g c ((es.take b).drop a)) else O
  |_,_=>O
 | .P0,[.list 1 _ es]=>(bytesOf es).map λj=>.str ⟨(j.map λn=>dz n.toNat).toArray⟩
 | .sV k c,j=>if j.length % k=0 then match chunk k (j.length / k) j with
   |some es=>if c=I->es.all dV=I then Z (.list k c es) else O
   |none=>O
  else O
 | .make k m c w,[.int .i64 n]=>if 0<=n/\n.toNat * m<=room/\n<=4611686018427387904 then Z (.list k c (bn n.toNat (w.map SK.d))) else O
 | .app k m,[.list B v es,.list A C f]=>if B=k/\A=k/\v=C/\(es.length+f.length) * m<=room/\es.length+f.length<=maxLen then Z (.list k v (es++f)) else O
 | .set o,.list k c es::.int .i64 i::r=>match nth es i.toNat with
  |some e=>if o+r.length<=k/\(c=I->dV r=I) then Z (.list k c (es.set i.toNat (gG e o r))) else O
  |none=>O
 | .cut J,[.list k c es,h]=>match dI h with
  |some a=>if a<=es.length then Z (.list k c (es.drop a)) else O
  |none=>O
 | .cut I,[.list k c es,h,p]=>match dI h,dI p with
  |some a,Z b=>if a<=b/\b<=es.length then Z (.list k c ((es.take b).drop a)) else O
  |_,_=>O
 | .Iy,[.list k c es,.list g q f]=>if g=k/\q=I/\c=I/\f.length=es.length then Z (.list k c f) else O
 | .jnl,[.list k c es,.list g _ f]=>if k=1/\g=1/\c=I/\f.length=es.length/\f≠[] then (match lx es,lx f with
   |some s,Z l=>Z (.list 1 I ((dK s l).map λb=>[D.bool b]))
   |_,_=>O) else O
 | .jnb,[.list _ _ es,.list _ _ f]=>match lx es,lx f with
   |some s,Z l=>Z (.bool (nQ s l))
   |_,_=>O
 | .yv J,[.list k c es,.int .i64 a,.int .i64 b]=>if 0<=a/\a < b/\b<=es.length/\es.length * 56<=room then Z (.list k c (es.take a.toNat++es.drop b.toNat)) else O
 | .yv I,[.list k c es,.int .i64 a,.list _ _ f]=>if 0<=a/\a<=es.length/\f≠[]/\(es.length+f.length) * 56<=room then Z (.list k c (es.take a.toNat++f++es.drop a.toNat)) else O
 | .lst k c,[.list g q es]=>if g=k/\q=c then Z (.list k c es) else O
 | .tru,[.bool b]=>Z (.bool b)
 | .pl,j=>if dV j=I then Z (.bool J) else O
 | .Ww,j=>if dV j=I then O else Z (.bool J)
 |_,_=>O
def iY(a:M D):M SE->u (M D)
 |[]=>Z []
 |e::es=>match e.d a with
  |some x=>(iY a es).map (x::·)
  |none=>O
abbrev Bs:=M (PO×M SE)
def kY(a:M D):Bs->u (M D)
 |[]=>Z a
 |(o,es)::c=>match iY a es with
  |some b=>match aZ o b with
   |some x=>kY (a++[x]) c
   |none=>O
  |none=>O
def fS(S:SS)(a:Gs):KX->u SC
 | .s d=>match look S.sl d with
  |some g=>if g.gs.all (λp=>Z' (p∈a)) then Z g.c else O
  |none=>O
 | .k (.d (.int k n))=>Z (.b (.d (.k (.int k n))))
 | .k (.d (.bool b))=>Z (.b (.d (.k (.bool b))))
 | .k (.d (.str t))=>Z (.b (.d (.k (.str t))))
 | .k (.nil k e)=>Z (.b (.nil k e))
 |_=>O
def sD:u SC->u SE
 |some (.b (.d e))=>Z e
 |_=>O
section
variable {ρ:M D} {S:SS} {s:St} {gs:Gs}
theorem oB:∀{gs:Gs},jq ρ gs=Z I->∀p∈gs,p.1.d ρ=Z (.bool p.2)
 |[],_,_,a=>by cases a
 |(g,w)::gs,h,p,a=>by
  simp only[jq]at h
  split at h
  ·rename_i b e
   split at h
   ·rename_i c;subst c;rcases aL.1 a with rfl|a
    ·exact e
    ·exact oB h p a
   ·cases h
  ·cases h
theorem IS:∀{gs:Gs},(∀p∈gs,p.1.d ρ=Z (.bool p.2))->jq ρ gs=Z I
 |[],_=>rfl
 |(g,w)::gs,h=>by
  have a:=h (g,w) (by simp);simp only at a
  simp only[jq,a,if_true];exact IS λp b=>h p (by simp[b])
theorem Qv{gs a:Gs}(h:jq ρ gs=Z I)(b:a.all (λp=>Z' (p∈gs))=I):jq ρ a=Z I:=
 IS λp c=>oB h p (by simpa using bw.1 b p c)
theorem cV(h:Rel ρ S s)(j:jq ρ gs=Z I){x:KX}{c:SC}(a:fS S gs x=Z c):lK ρ c (fW s x):=by
 unfold fS at a
 split at a
 ·rename_i d
  split at a
  ·rename_i g i
   split at a
   ·rename_i f;cases a;obtain⟨b,e,k,_⟩:=h.sl d g i;rw[Qv j f]at e;cases e;exact k rfl
   ·cases a
  ·cases a
 ·cases a;exact⟨_,rfl,rfl⟩
 ·cases a;exact⟨_,rfl,rfl⟩
 ·cases a;exact⟨_,rfl,rfl⟩
 ·cases a;rfl
 ·cases a
theorem lZ(h:Rel ρ S s)(b:jq ρ gs=Z I){x:KX}{e:SE}(a:sD (fS S gs x)=Z e):∃y,e.d ρ=Z y/\fW s x=.d y:=by
 unfold sD at a
 split at a
 ·rename_i f c;cases a;exact cV h b c
 ·cases a
theorem fj{e:SE}{a:M D}(h:iY ρ [e]=Z a):∃x,e.d ρ=Z x/\a=[x]:=by
 simp only[iY]at h
 split at h
 ·rename_i x b;simp only[aQ,ae]at h;exact⟨x,b,h.symm⟩
 ·cases h
theorem dE{e:SE}{es:M SE}{a:M D}(h:iY ρ (e::es)=Z a):∃x ys,e.d ρ=Z x/\iY ρ es=Z ys/\a=x::ys:=by
 simp only[iY]at h
 split at h
 ·rename_i x b;simp only[ak]at h;obtain⟨ys,f,c⟩:=h;exact⟨x,ys,b,f,c.symm⟩
 ·cases h
theorem eM{o:PO}{es:M SE}{b:M D}(h:kY ρ [(o,es)]=Z b):∃a x,iY ρ es=Z a/\aZ o a=Z x/\b=ρ++[x]:=by
 simp only[kY]at h
 split at h
 ·rename_i a d
  split at h
  ·rename_i x c;cases h;exact⟨a,x,d,c,rfl⟩
  ·cases h
 ·cases h
theorem ri:∀{c:Bs} {ρ a:M D},kY ρ c=Z a->∃b,a=ρ++b
 |[],ρ,a,h=>by cases h;exact⟨[],by simp⟩
 |(o,es)::c,ρ,a,h=>by
  simp only[kY]at h
  split at h
  ·split at h
   ·rename_i x e;obtain⟨b,d⟩:=ri h;exact⟨x::b,by rw[d];simp⟩
   ·cases h
  ·cases h
end
end
end Go.Proofs.YtnnjajingjfjiaaGreatDoor
