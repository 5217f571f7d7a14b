/- Part of the proof: a machine over plain data, its proof, the functions of the program run on symbols, what they answer. Condition: none. -/
import Derived.Attr
import Derived.Test.YtgfcijiikgjbcaaGreatDoorZz01
set_option linter.unusedVariables false
set_option linter.unusedSimpArgs false
open Array renaming toList_map->mL,getElem?_modify->oU,replicate->qA,getElem?_eq_some_iff->rY,getElem?_eq_none->vU,toArray_toList->yi
open Bool renaming and_eq_true->ai,false_eq_true->aD,not_eq_true'->ck,false_and->cM,true_and->cU,or_eq_true->df,and_true->gm,not_false->gp,false_or->gG,or_false->kg,and_false->kH,or_true->la,true_or->lg,not_true->lL,true->I,false->J
open ByteArray renaming size_append->ju
open Go renaming sizeOf->mP
open Int renaming toNat_natCast->cd
open List renaming cons_append->au,nil_append->av,length_map->aA,length_cons->aG,mem_cons->aI,append_nil->aJ,length_nil->aP,mem_append->aT,replicate->aY,map_cons->aZ,length_append->a_,sizeOf_lt_of_mem->ba,getElem?_eq_some_iff->bh,length_take->bj,drop_zero->br,all_eq_true->bz,append_assoc->bB,take_append_drop->bD,take_zero->bE,nodup_append->bH,mem_cons_self->bQ,mem_cons_of_mem->bT,mem_map->bZ,map_nil->cj,mem_of_mem_take->cn,map_append->cp,eq_nil_of_length_eq_zero->cq,nodup_cons->cx,mem_map_of_mem->cH,length_eq_zero_iff->cP,getElem?_take->cQ,all_cons->cV,mem_singleton->db,getElem?_append_left->dd,getElem?_append_right->dw,take_succ_cons->dy,length_drop->dK,length_eq_one_iff->dP,mem_of_getElem?->dS,ext_getElem?->eE,flatten_cons->eH,mem_of_mem_drop->ff,mem_flatten->fx,getElem?_drop->fK,take_append_of_le_length->gf,replicate_succ->gK,mem_or_eq_of_mem_set->gW,filter_cons->iq,drop_succ_cons->ja,getElem?_eq_none->jy,set_cons_succ->lh,map_take->lM,take_take->mw,mem_filter->nn,filter_filter->nO,drop_drop->oy,size_toArray->oz,take_left->oA,length_singleton->oX,map_drop->pw,take_one->px,head?_drop->qB,set_cons_zero->rZ,filter_nil->wN,drop_left->yj,length_pos_iff->zW
open List.cons renaming injEq->bY
open Nat renaming le_refl->az,le_trans->aH,zero_add->bu,lt_of_lt_of_le->bR,min_eq_left->cI,add_assoc->cO,add_zero->dx,lt_or_ge->dH,mul_le_mul_right->fM,blt->gh,beq->hX,succ_mul->j5,eq_of_beq_eq_true->l9,ble->nP,blt_eq->nR,zero_le->nU,sub_self->oF,zero_mul->rq
open Ne renaming symm->mR
open Option renaming map_eq_some_iff->aj,map_some->aQ,isSome_iff_exists->cy,bind_some->dY,getD_some->ku,isSome_some->kX,toList->pf,isNone_iff_eq_none->se,some->Z,none->O
open Option.some renaming injEq->aa,inj->iF
open Prod renaming fst->cr
open Prod.mk renaming injEq->aC
open SizeOf renaming sizeOf->aw
open UInt8 renaming ofNat->dD
open Decidable renaming decide->Z'
namespace Go.Proofs.YtgfcijiikgjbcaaGreatDoor
section
open Go.RowKit
theorem mJ:∀(a:M Nat) (s:St) (q:Nat),look (fN s a).rw q=if q∈a then O else look s.rw q
 |[],s,q=>by simp[fN]
 |r::a,s,q=>by
  simp only[fN,mJ a,St.cY,eN,aI];by_cases h:q∈a
  ·simp[h]
  ·by_cases b:r=q
   ·simp[b]
   ·simp[h,b,mR b]
theorem oI:∀(a:M Nat) (s:St),(fN s a).sl=s.sl/\(fN s a).bx=s.bx
 |[],s=>⟨rfl,rfl⟩
 |r::a,s=>by simp only[fN];exact oI a (s.cY r)
theorem qm:∀(a:M Nat) (s:St) (q:Nat),look (fI s a).bx q=if q∈a then O else look s.bx q
 |[],s,q=>by simp[fI]
 |r::a,s,q=>by
  simp only[fI,qm a,eN,aI];by_cases h:q∈a
  ·simp[h]
  ·by_cases b:r=q
   ·simp[b]
   ·simp[h,b,mR b]
theorem pC:∀(a:M Nat) (s:St),(fI s a).sl=s.sl/\(fI s a).rw=s.rw
 |[],s=>⟨rfl,rfl⟩
 |r::a,s=>by simp only[fI];exact pC a _
theorem uC.weaken{c b:Gh}{a e:Own->Prop}{w d:World}(h:uC c a w d)(n:∀g,a (c.ω g)->e (b.ω g))(l:∀g,b.h g<=c.h g):uC b e w d:=
 ⟨h.os,h.tape,h.output,h.size,λg m f=>h.block g m (λi=>f (n g i)),λg j k=>h.cell g j (bR k (l g)),h.fX⟩
theorem kD{P:Program}{F:FuncId}{a:Func}(d:P.funcs[F]?=Z a)(f:a.body.isSome=I)(c:(a.name == "runtime.NumGoroutine")=J)(args:Array Value)(w:World):(callFunc F args).run P w=.ok (.enter F args) w:=by
 have e:¬a.name = "runtime.NumGoroutine":=by simpa using c
 have b:¬a.body=O:=by cases h:a.body<;>simp_all
 simp[callFunc,d,e,b]
theorem xy{s:St}:∀(f:M C) {as:M A},zP s f=Z as->∀b∈cX f,∃k,look s.bx b=Z k
 |[],_,_,b,d=>by simp[cX]at d
 |c::f,as,h,b,d=>by
  simp only[zP]at h
  split at h
  ·rename_i a e;simp only[aj]at h;obtain⟨o,h,_⟩:=h;by_cases l:∃g,c=.ptr g 0
   ·obtain⟨g,rfl⟩:=l;simp only[cX,aI]at d;rcases d with rfl|d
    ·simp only[Tt]at e
     split at e
     ·rename_i k j;exact⟨k,j⟩
     ·cases e
    ·exact xy f h b d
   ·have i:cX (c::f)=cX f:=by
     unfold Tt at e
     split at e
     ·rename_i g;exact absurd ⟨g,rfl⟩ l
     ·simp only[aj]at e;obtain⟨n,m,_⟩:=e;have ud:=CQ m;cases c<;>simp_all[cX,C.cells,C.cell]
    rw[i]at d;exact xy f h b d
  ·cases h
section
variable {P:Program} {γ:Gh} {h0:Nat->Nat} {io:M Nat} {w0:World} {s s':St} {f:Fm} {w:World} {N:Nat} {ty:TypeId} {pos:String} {aft:Array Edge} {gd:u (Nat×Bool)} {K:Fm->World->Prop}
 {cf:Nat->M A->u (M A×M A)} {mf:Nat->Bool->M D->Int->u (M D×Int)}
theorem ada(X:Inv γ h0 io w0 s f w){F0:FuncId}{fn:Func}(Gd:P.funcs[F0]?=Z fn)(TN:fn.body.isSome=I)(sb:(fn.name == "runtime.NumGoroutine")=J){as:Array Operand}{xs:M KX}{ts:Array TypeId}{gn:Nat}(hx:Cg N as.toList xs=I)
  (mV:∀a r o,cf gn a=Z (r,o)->xu w0 io P F0 a r o) {dst:u Nat} (y:lQ cf mf s dst (.call gn xs)=Z s') (h:∀γ' p B,Inv γ' h0 io w0 s' p B->Tr dst (eW s dst (.call gn xs)) γ w γ' B f p->K p B) :
  ui P N ⟨dst,.call {callee:=.value (.func F0),args:=as,argTypes:=ts },ty,pos,aft,gd⟩ f w K:=by
 simp only[lQ,xC]at y
 split at y
 ·cases y
 ·rename_i cas VR
  split at y
  ·rename_i kl;simp only[ai]at kl;obtain⟨⟨agf,LD⟩,ajW⟩:=kl;rw[tI]at agf LD
   split at y
   ·cases y
   ·rename_i H outs acx
    split at y
    ·rename_i acG;simp only[aa]at y;generalize qX:xs.map (gj s)=k at *;have hcr:fu γ w k (as.toList.map (fr f N).eval):=by rw[<- qX];exact EP X _ _ hx
     generalize wm:as.toList.map (fr f N).eval=R at *;obtain⟨FM,iS,bS,slS,mS,gS,wS,e1,e2,e3⟩:=X.Bh (jE k);have V:∀r∈dN s k,r∉jE k:=by
      intro r x n;have:=bz.1 ajW r x;simp[n]at this
     obtain⟨F,rA,dA,lA,pA⟩:=KE iS bS slS mS e2 gS e3 k hcr VR (λr x=>x) V agf LD;have ltF:∀g∈F,g < w.heap.size:=λg m=>by
      rcases lA g m with ⟨r,_,i⟩|⟨b,_,i,_⟩<;>exact (iS.own g (by rw[i];simp)).1
     have ioF:∀g∈F,w0.heap.size<=g\/g∈io:=λg m=>by
      rcases lA g m with ⟨r,_,i⟩|⟨b,_,i,_⟩<;>exact (iS.own g (by rw[i];simp)).2
     have qi:=mV _ _ _ acx w FM.h R F X.size X.frame ioF rA dA ltF iS.fW;have aj7:as.map (fr f N).eval=R.toArray:=by rw[<- wm];apply Array.ext';rw[mL]
     have x:=yh (ρ:=(fr f N).eval) (dst:=dst) (ty:=ty) (pos:=pos) (aft:=aft) (gd:=gd) (w:=w) (ts:=ts) (kD Gd TN sb) rfl aj7;unfold ui Oper.wp;rw[x,Oper.upon_enter];refine Calls.mono qi λe B hp=>?_;obtain⟨v,us,F1,F2,h',rfl,V3,uo,LG,abD,afX,rG⟩:=hp;have key:∀(G:Gh) (L:St),Inv G h0 io w0 L f w->G.β=γ.β->(∀g,γ.h g<=G.h g)->(∀g,G.h g<=FM.h g)->(∀g∈F,(∃r∈dN s k,G.ω g=.row r)\/∃b∈cX k,G.ω g=.box b/\g=G.β b)->(∀g,(∃r∈dN s k,G.ω g=.row r)->∃r∈dN s k,γ.ω g=.row r)->(∀g,(∃b∈cX k,G.ω g=.box b)->∃b∈cX k,γ.ω g=.box b)->L.bx=s.bx->
       ((H.all A.closed=I/\outs.all A.closed=I)\/∀g,g < w.heap.size->g∉F->FM.h g<=G.h g)->
       ∃p,(fr f N).put dst v=fr p N/\K p B\/(gL (dst.getD 0) 0 H (l8 (fI (fN L (dN s k)) (cX k)) k outs)).2.put dst (match (gL (dst.getD 0) 0 H (l8 (fI (fN L (dN s k)) (cX k)) k outs)).1 with|[c]=>c|l=>.ri l)≠s':=by
      intro G L iX bX mX mX2 lX akw akv ebx Q;by_cases U:(gL (dst.getD 0) 0 H (l8 (fI (fN L (dN s k)) (cX k)) k outs)).2.put dst (match (gL (dst.getD 0) 0 H (l8 (fI (fN L (dN s k)) (cX k)) k outs)).1 with|[c]=>c|l=>.ri l)=s'
      ·have i1:Inv G h0 io w0 (fI (fN L (dN s k)) (cX k)) f w:=iX.sub
        (λd c n=>by rw[(pC _ _).1,(oI _ _).1]at n;exact n)
        (λd c n=>by
         rw[qm,(oI _ _).2]at n
         split at n
         ·cases n
         ·exact n)
        (λd c n=>by
         rw[(pC _ _).2,mJ]at n
         split at n
         ·cases n
         ·exact n)
       obtain⟨nD,W,i2,b2,zZ,m2,k2,n2,o2,x2,f2⟩:=i1.after (mv:=dN s k) (bs:=cX k) rG mX2 (λg m=>by
         rcases lX g m with i|⟨b,t,i,_⟩
         ·exact .inl i
         ·exact .inr ⟨b,t,i⟩) (λr x=>by rw[(pC _ _).2,mJ,if_pos x]) (λb t=>by rw[qm,if_pos t]) (λg m b t=>by
         rcases lX g m with ⟨r,_,i⟩|⟨b',lK,i,C⟩
         ·rw[i]at t;cases t
         ·have j:=pA b' lK;rw[bS,<- bX,<- C]at j;exact (LG.ptr g j).1)
       have heq:∀g∈F1++F2,W.h g=h' g:=λg m=>n2 g (afX g m).1;have hle:(H.all A.closed=I/\outs.all A.closed=I)\/∀g,h' g<=W.h g:=by
        rcases Q with Q|Q
        ·exact .inl Q
        ·refine .inr λg=>?_;rcases dH g w.heap.size with i|i
         ·by_cases C:g∈F
          ·rw[n2 g (.inr C)];exact az _
          ·rw[k2 g i C,rG.hold g i C];exact Q g i C
         ·rw[n2 g (.inl i)];exact az _
       have V2:mT W.h B outs (iA cas R) F2:=LG.re (λg m=>heq g (by simp[m])) (hle.imp (λh=>h.2) id);have aj3:mT W.h B H us F1:=uo.re (λg m=>heq g (by simp[m])) (hle.imp (λh=>h.1) id);have abA:∀g∈F1++F2,(W.ω g=.free\/W.ω g=.ej\/Value.pointer (Z ⟨g,0,O⟩)∈iA cas R)/\g < B.heap.size/\(w0.heap.size<=g\/g∈io):=by
        intro g m;obtain⟨i,C⟩:=afX g m;rcases i with i|i
        ·exact⟨.inl (f2 g i),C,.inl (aH X.size i)⟩
        ·rcases lX g i with j|⟨b,t,j,h4⟩
         ·have ho:=o2 g i j;exact⟨.inr (.inl ho),C,(i2.own g (by rw[ho];simp)).2⟩
         ·have ho:=x2 g b j;refine⟨.inr (.inr ?_),C,(i2.own g (by rw[ho];simp)).2⟩;have Y:=pA b t;rw[bS,<- bX,<- h4]at Y;exact Y
       rw[bH]at abD;obtain⟨yq,LC,rI⟩:=abD;obtain⟨my,i3,b3,j,o3⟩:=Bo k (s':=s) i2 (by rw[b2,bX];exact hcr.Te) VR V2 LC (λg m=>abA g (by simp[m])) (λb t=>by
         obtain⟨TH,hbl⟩:=xy k VR b t;obtain⟨T,us',_,_,k3⟩:=iX.bx b TH (by rw[ebx];exact hbl);rw[b2];exact x2 _ b k3)
       obtain⟨Rj,i4,c4,b4,h4,_⟩:=zF (d:=dst.getD 0) H 0 i3 (by rw[j];exact aj3) yq (λg m=>by
         obtain⟨S,k2',k3⟩:=abA g (by simp[m]);have ic:g∉F2:=λh=>rI g m g h rfl;refine⟨?_,k2',k3⟩;rw[o3 g ic];rcases S with S|S|S
         ·exact .inl S
         ·exact .inr S
         ·exact absurd (V2.ptr g S).2 ic) (λa ha=>by
         have hs:=bz.1 acG a ha;cases a with
         |val ag R=>exact⟨ag,R,rfl,by simpa [A.short] using hs⟩
         |box R=>simp[A.short]at hs)
       have P7:CR Rj B (match (gL (dst.getD 0) 0 H (l8 (fI (fN L (dN s k)) (cX k)) k outs)).1 with|[c]=>c|l=>.ri l) v:=by
        generalize (gL (dst.getD 0) 0 H (l8 (fI (fN L (dN s k)) (cX k)) k outs)).1=l at c4;have n:=c4.length;rcases V3 with rfl|⟨ic,rfl⟩
        ·cases l with
         |nil=>simp at n
         |cons c l=>
          cases l with
          |nil=>exact Az c4
          |cons c' l=>simp at n
        ·split
         ·rename_i c;simp at n;exact absurd n ic
         ·simp only[CR];exact⟨us,rfl,c4⟩
       have htr:∀p:Fm,FOk dst f p->Tr dst (eW s dst (.call gn xs)) γ w Rj B f p:=λp hfo=>by
        refine⟨nD.weaken (λg m=>?_) mX,λb _=>by rw[b4,b3,b2,bX],λg=>by rw[h4,j];exact aH (mX g) (m2 g),hfo⟩;simp only[eW,qX,Cp];rcases m with ⟨r,x,Y⟩|⟨b,t,Y⟩
        ·obtain⟨r',CC,h6⟩:=akw g ⟨r,x,Y⟩;exact⟨r',by simp[CC],.inr h6⟩
        ·obtain⟨b',lK,h6⟩:=akv g ⟨b,t,Y⟩;exact⟨b',by simp[lK],.inl h6⟩
       cases dst with
       |none=>
        refine⟨f,.inl ⟨rfl,h Rj f B ?_ (htr _ .skip)⟩⟩;rw[<- U];exact i4
       |some d=>
        refine⟨B3 f d v,.inl ⟨th f N d v,h Rj _ B ?_ (htr _ .put)⟩⟩;rw[<- U];exact i4.put d _ v P7
      ·exact⟨f,.inr U⟩
     have lG:∀g∈F,(∃r∈dN s k,γ.ω g=.row r)\/∃b∈cX k,γ.ω g=.box b/\g=γ.β b:=by
      intro g m;rcases lA g m with ⟨r,x,i⟩|⟨b,t,i,C⟩
      ·rcases wS g with j|j|j|⟨q,hq,j⟩
       ·exact .inl ⟨r,x,j.symm.trans i⟩
       ·rw[i]at j;cases j
       ·rw[i]at j;cases j
       ·rw[i]at j;cases j;exact absurd hq (V r x)
      ·rcases wS g with j|j|j|⟨q,hq,j⟩
       ·exact .inr ⟨b,t,j.symm.trans i,by rw[<- bS];exact C⟩
       ·rw[i]at j;cases j
       ·rw[i]at j;cases j
       ·rw[i]at j;cases j
     have fin:∃p,(fr f N).put dst v=fr p N/\K p B:=by
      by_cases Q:(H.all A.closed && outs.all A.closed)=I
      ·rw[if_pos Q]at y;rw[ai]at Q;obtain⟨p,i|i⟩:=key γ s X rfl (λ_=>az _) mS lG (λ_ h=>h) (λ_ h=>h) rfl (.inl Q)
       ·exact⟨p,i⟩
       ·exact absurd y i
      ·rw[if_neg Q]at y;obtain⟨p,i|i⟩:=key FM (fc s (jE k)) iS bS mS (λ_=>az _) lA (λg ⟨r,x,i⟩=>by
         rcases wS g with j|j|j|⟨q,hq,j⟩
         ·exact⟨r,x,j.symm.trans i⟩
         ·rw[i]at j;cases j
         ·rw[i]at j;cases j
         ·rw[i]at j;cases j;exact absurd hq (V r x)) (λg ⟨b,t,i⟩=>by
         rcases wS g with j|j|j|⟨q,hq,j⟩
         ·exact⟨b,t,j.symm.trans i⟩
         ·rw[i]at j;cases j
         ·rw[i]at j;cases j
         ·rw[i]at j;cases j) e2 (.inr λ_ _ _=>az _)
       ·exact⟨p,i⟩
       ·exact absurd y i
     exact fin
    ·cases y
  ·cases y
end
end
section
open Go.RowKit
section
variable {P:Program} {γ:Gh} {h0:Nat->Nat} {io:M Nat} {w0:World} {s s':St} {f:Fm} {w w':World} {N:Nat} {num:Nat->FuncId} {K':Fm->World->Prop}
 {cf:Nat->M A->u (M A×M A)} {mf:Nat->Bool->M D->Int->u (M D×Int)}
theorem RA(hi:Inv γ h0 io w0 s f w){c:C}{v:Value}{x:D}(K:CR γ w c v)(l:kj s c=Z x) :
  ∃G,Rp w x v G/\(G.map cr).Nodup/\(∀q∈G,∃r∈rowsOf [c],γ.ω q.1=.row r/\γ.h q.1=0/\oG w q.1)/\
   ∀r row,c=.ref r->look s.rw r=Z row->∀w' R,Rp w' (.list row.k row.fl R) v G->(∀g,oG w g->oG w' g)->w.heap.size<=w'.heap.size->(x.plain=J)->
    ∃F,pz γ.h w' ⟨R,row.k,row.fl,I,J,J⟩ (γ.sl r) F/\F.Nodup/\∀g∈F,γ.ω g=.row r:=by
 cases c with
 |d y=>
  simp only[CR]at K;obtain⟨F,t,hS⟩:=K;refine⟨F,?_⟩;cases y with
  |list k fl es=>
   cases es with
   |nil=>
    simp only[kj,aa]at l;subst l;have hF0:F=[]:=by
     simp only[Rp]at t;obtain⟨A,n,cc,_,hn,_,_,_,_,_,h|⟨hp,_⟩⟩:=t
     ·exact h.2
     ·simp at hn;omega
    subst hF0;exact⟨t,by simp,λq m=>by simp at m,λr row e=>by cases e⟩
   |cons e es=>simp[kj]at l
  |int k n=>simp only[kj,aa]at l;subst l;obtain rfl:F=[]:=(by simp only[Rp]at t;exact t.2.1);exact⟨t,by simp,λq m=>by simp at m,λr row e=>by cases e⟩
  |bool b=>simp only[kj,aa]at l;subst l;obtain rfl:F=[]:=(by simp only[Rp]at t;exact t.2);exact⟨t,by simp,λq m=>by simp at m,λr row e=>by cases e⟩
  |str b=>simp only[kj,aa]at l;subst l;obtain rfl:F=[]:=(by simp only[Rp]at t;exact t.2.1);exact⟨t,by simp,λq m=>by simp at m,λr row e=>by cases e⟩
 |nil k fl=>
  simp only[kj,aa]at l;subst l;simp only[CR]at K;refine⟨[],?_,by simp,λq m=>by simp at m,λr row e=>by cases e⟩;simp only[Rp];exact⟨O,0,0,K.1,rfl,az _,by simp[maxLen],λ_=>jC,K.2,λe he=>by simp at he,.inl ⟨rfl,trivial⟩⟩
 |ref r=>
  simp only[CR]at K;obtain⟨S,_⟩:=K;simp only[kj]at l
  split at l
  ·rename_i row hl
   split at l
   ·rename_i T;simp only[aa]at l;subst l;obtain⟨F,hR,kl,sS⟩:=hi.rw r row hl;obtain⟨A,n,c,q1,q2,Q,L,q5,q6,q7,q8⟩:=hR;rcases q8 with ⟨rfl,rfl,rfl⟩|⟨g,o,xs,G,rfl,a2,a3,a4,a5,a6,a7,a8,a9,tZ⟩
    ·have DN:n=0:=by omega
     refine⟨[],?_,by simp,λq m=>by simp at m,λr' My e B w' R p _ _ _=>?_⟩
     ·simp only[Rp];exact⟨O,n,0,S.trans q1,q2,Q,L,q7,q5,q6,.inl ⟨DN,trivial⟩⟩
     ·cases e;rw[hl]at B;cases B;simp only[Rp]at p;obtain⟨A',n',c',H,Y,e3,e4,X,W,V,_⟩:=p;rw[S,q1]at H;cases H;exact⟨[],⟨O,n,0,q1,Y,Q,L,W,V,X,.inl ⟨rfl,rfl,rfl⟩⟩,by simp,λg hg=>by simp at hg⟩
    ·obtain⟨U,hz⟩:=a9 T.1;have yW:γ.ω g=.row r:=sS g (by rw[U];simp);by_cases DN:n=0
     ·refine⟨[],?_,by simp,λq m=>by simp at m,λr' My e B w' R p N5 nG _=>?_⟩
      ·simp only[Rp];exact⟨_,n,c,S.trans q1,q2,Q,L,q7,q5,q6,.inl ⟨DN,trivial⟩⟩
      ·cases e;rw[hl]at B;cases B;simp only[Rp]at p;obtain⟨A',n',c',H,Y,e3,e4,X,W,V,_⟩:=p;rw[S,q1]at H;cases H;have xk:R=[]:=cP.1 (by omega);subst xk;exact⟨[g],⟨_,n,c,q1,Y,Q,L,W,V,X,.inr ⟨g,o,[],[],rfl,by omega,N5 g a3,by simp[fy],λj a hu=>by simp at hu,by rw[a7 T.2];omega,λ_=>a7 T.2,(λh=>by cases h),λ_=>⟨rfl,λq m=>by simp at m⟩,(λh=>by cases h)⟩⟩,by simp,λy hy=>by simp at hy;rw[hy];exact yW⟩
     ·refine⟨(g,o+n * row.k)::G,?_,by simpa [U] using kl,λq m=>?_,λr' My e B w' R p N5 nG _=>?_⟩
      ·simp only[Rp];exact⟨_,n,c,S.trans q1,q2,Q,L,q7,q5,q6,.inr ⟨by omega,g,o,xs,G,rfl,rfl,a4,a5⟩⟩
      ·rcases aI.1 m with rfl|m
       ·exact⟨r,by simp[rowsOf],yW,a7 T.2,a3⟩
       ·exact⟨r,by simp[rowsOf],sS _ (by rw[U];exact bT _ (cH m)),(hz q m).1,(hz q m).2⟩
      ·cases e;rw[hl]at B;cases B;simp only[Rp]at p;obtain⟨A',n',c',H,Y,e3,e4,X,W,V,e8⟩:=p;rw[S,q1]at H;cases H;rcases e8 with ⟨e8,_⟩|⟨_,b',o',Gv,G',e9,e10,e11,e12⟩
       ·omega
       ·cases e9;simp only[bY,true_and]at e10;subst e10;refine⟨g::G.map cr,⟨_,n,c,q1,Y,Q,L,W,V,X,.inr ⟨g,o,Gv,G,rfl,by omega,N5 g a3,e11,e12,by rw[a7 T.2];omega,λ_=>a7 T.2,(λh=>by cases h),λ_=>⟨rfl,λq m=>⟨(hz q m).1,N5 _ (hz q m).2⟩⟩,(λh=>by cases h)⟩⟩,by rw[<- U];exact kl,λy hy=>sS y (by rw[U];exact hy)⟩
   ·cases l
  ·cases l
 |ptr b o=>simp[kj]at l
 |pj r k i o=>simp[kj]at l
 |ub cs=>simp[kj]at l
 |agg cs=>simp[kj]at l
 |ri cs=>simp[kj]at l
 |uv=>simp[kj]at l
 |any=>simp[kj]at l
theorem C9(hi:Inv γ h0 io w0 s f w):∀(m:M C) {S:M Value} {W:M D},fu γ w m S->uO s m=Z W->
  ∃R,ir w W S R/\(∀G∈R,∀K∈G,∃r∈rowsOf m,γ.ω K.1=.row r/\γ.h K.1=0/\oG w K.1)/\((rowsOf m).Nodup->(R.flatten.map cr).Nodup)/\
   ∀w' H j t,ir w' H S R->(∀g,oG w g->oG w' g)->w.heap.size<=w'.heap.size->qP s m H j=Z t->t.sl=j.sl/\t.bx=j.bx/\
    ∀q x,look t.rw q=Z x->look j.rw q=Z x\/(q∈rowsOf m/\∃F,pz γ.h w' x (γ.sl q) F/\F.Nodup/\∀g∈F,γ.ω g=.row q)
 |[],S,W,U,hd=>by
  simp only[uO,aa]at hd;subst hd;simp only[fu]at U;subst U;refine⟨[],by simp[ir],λG L=>by simp at L,λ_=>by simp,λw' H j t n _ _ l=>?_⟩;cases H with
  |nil=>simp only[qP,aa]at l;subst l;exact⟨rfl,rfl,λq x h=>.inl h⟩
  |cons d W=>simp[qP]at l
 |c::m,S,W,U,hd=>by
  simp only[uO]at hd
  split at hd
  ·rename_i x p;simp only[aj]at hd;obtain⟨ds0,hd,rfl⟩:=hd;simp only[fu]at U;obtain⟨v,fC,rfl,hv,wm⟩:=U;obtain⟨G0,k1,k2,k3,k4⟩:=RA hi hv p;obtain⟨R,l1,l2,l3,l4⟩:=C9 hi m wm hd;have ZG:∀r∈rowsOf [c],rowsOf (c::m)=r::rowsOf m:=λr n=>by
    cases c<;>simp[rowsOf]at n ⊢
    exact n.symm
   have Y:∀r∈rowsOf m,r∈rowsOf (c::m):=λr n=>by
    cases c<;>simp[rowsOf,n]
   refine⟨G0::R,by simp only[ir];exact⟨v,fC,G0,R,rfl,rfl,k1,l1⟩,λG L K l=>?_,λT=>?_,λw' H j t n N5 nG l=>?_⟩
   ·rcases aI.1 L with rfl|L
    ·obtain⟨r,n,V⟩:=k3 K l;exact⟨r,by rw[ZG r n];simp,V⟩
    ·obtain⟨r,n,V⟩:=l2 G L K l;exact⟨r,Y r n,V⟩
   ·have Zz:(rowsOf m).Nodup:=by
     cases c<;>simp[rowsOf]at T<;>first|exact T|exact T.2
    rw[eH,cp,bH];refine⟨k2,l3 Zz,?_⟩;intro a ha b l e;subst e;obtain⟨K,qE,rfl⟩:=bZ.1 ha;obtain⟨YP,Q,e⟩:=bZ.1 l;obtain⟨G,L,Q⟩:=fx.1 Q;obtain⟨r,n,V,_⟩:=k3 K qE;obtain⟨q,hq,h2,_⟩:=l2 G L YP Q;rw[e,V]at h2;cases h2;rw[ZG r n]at T;exact (cx.1 T).1 hq
   ·cases H with
    |nil=>simp only[ir]at n;cases n.1
    |cons d' H=>
     simp only[ir]at n;obtain⟨v',al3,F',Yp,e1,e2,hr1,IT⟩:=n;cases e1;cases e2;have B:(∀r,c≠.ref r)->qP s m H j=Z t->t.sl=j.sl/\t.bx=j.bx/\∀q x,look t.rw q=Z x->look j.rw q=Z x\/(q∈rowsOf (c::m)/\∃F,pz γ.h w' x (γ.sl q) F/\F.Nodup/\∀g∈F,γ.ω g=.row q):=by
      intro _ l;obtain⟨m1,m2,m3⟩:=l4 w' H j t IT N5 nG l;exact⟨m1,m2,λq x h=>(m3 q x h).imp id (λh=>⟨Y q h.1,h.2⟩)⟩
     cases c with
     |ref r=>
      cases d' with
      |list k fl es=>
       simp only[qP]at l
       split at l
       ·rename_i row hl
        split at l
        ·rename_i hkf;obtain⟨rfl,rfl⟩:=hkf;have rK:x.plain=J:=by
          simp only[kj,hl]at p
          split at p
          ·simp only[aa]at p;rw[<- p];rfl
          ·cases p
         obtain⟨m1,m2,m3⟩:=l4 w' H _ t IT N5 nG l;obtain⟨F,n1,n2,n3⟩:=k4 r row rfl hl w' es hr1 N5 nG rK;refine⟨m1,m2,λq y h=>?_⟩;rcases m3 q y h with X|h
         ·rw[vt]at X;clear h
          split at X
          ·rename_i hq;subst hq;cases X;exact .inr ⟨by simp[rowsOf],F,n1,n2,n3⟩
          ·exact .inl X
         ·exact .inr ⟨Y q h.1,h.2⟩
        ·cases l
       ·cases l
      |int _ _=>simp[qP]at l
      |bool _=>simp[qP]at l
      |str _=>simp[qP]at l
     |d y=>exact B (λr h=>by cases h) (by simpa [qP] using l)
     |nil k fl=>exact B (λr h=>by cases h) (by simpa [qP] using l)
     |ptr b o=>simp[kj]at p
     |pj r k i o=>simp[kj]at p
     |ub m=>simp[kj]at p
     |agg m=>simp[kj]at p
     |ri m=>simp[kj]at p
     |uv=>simp[kj]at p
     |any=>simp[kj]at p
  ·cases hd
variable {ty:TypeId} {pos:String} {aft:Array Edge} {gd:u (Nat×Bool)}
theorem ade(p:Inv γ h0 io w0 s f w){g:Nat}{fn:Func}(Gd:P.funcs[num g]?=Z fn)(TN:fn.body.isSome=I)(sb:(fn.name == "runtime.NumGoroutine")=J){x x2:Operand}{y y2:KX}{ts:Array TypeId}(hx:ki N x y=I)(W:ki N x2 y2=I)
  (nF:∀ag F q S V,mf g ag F q=Z (S,V)->ru w0 io P (num g) ag F q S V) {d:Nat} (l:lQ cf mf s (Z d) (.YD g y y2)=Z s') (hK:∀H f' w',Inv H h0 io w0 s' f' w'->Tr (Z d) (eW s (Z d) (.YD g y y2)) γ w H w' f f'->K' f' w') :
  ui P N ⟨Z d,.call {callee:=.value (.func (num g)),args:=#[x,x2],argTypes:=ts },ty,pos,aft,gd⟩ f w K':=by
 simp only[lQ]at l
 split at l
 ·rename_i d0 q P8 hq;cases P8
  split at l
  ·rename_i F P9
   split at l
   ·rename_i kl;rw[tI]at kl
    split at l
    ·rename_i S V ajR;simp only[aj]at l;obtain⟨R,hb,rfl⟩:=l;have IT:=ct p W;rw[hq]at IT;obtain⟨Y,X⟩:=iM IT;have ud:(gj s y).cells.all C.cell=I:=by
      have:∀(Q:M C) {F:M D},uO s Q=Z F->Q.all C.cell=I:=by
       intro Q
       induction Q with
       |nil=>intro F _;rfl
       |cons c Q ih=>
        intro F h;simp only[uO]at h
        split at h
        ·rename_i a n;simp only[aj]at h;obtain⟨ds1,t,_⟩:=h;simp only[cV,ih t,gm];cases c<;>simp[kj]at n<;>rfl
        ·cases h
      exact this _ P9
     obtain⟨c1,c2,c3⟩:=(ct p hx).cells ud;obtain⟨Fs,l1,l2,l3,l4⟩:=C9 p _ c1 P9;have L:∀a∈Fs.flatten.map cr,∃r∈rowsOf (gj s y).cells,γ.ω a=.row r:=λa n=>by
      obtain⟨be,K,rfl⟩:=bZ.1 n;obtain⟨G,hG,K⟩:=fx.1 K;obtain⟨r,B,t,_⟩:=l2 G hG be K;exact⟨r,B,t⟩
     have qi:=nF _ _ _ _ _ ajR w γ.h ((fr f N).eval x) _ Fs p.size p.frame (λa n=>by
       obtain⟨r,_,t⟩:=L a n;exact (p.own a (by rw[t];simp)).2) l1 (λU=>by
       obtain⟨vs,e⟩:=c3 U;rw[e];simp[Value.cells]) (λU=>by rw[c2 U]) X (l3 kl) (λG hG be K=>by
       obtain⟨r,_,_,t,h2⟩:=l2 G hG be K;exact⟨t,h2⟩) p.fW
     refine xV (yh (kD Gd TN sb) rfl (a2 rfl Y)) qi λe w' hp=>?_;obtain⟨rfl,aj2,CC,_,m⟩:=hp;refine⟨_,rfl,?_⟩;have v:uC γ (λo=>∃i∈rowsOf (gj s y).cells,o=.row i) w w':={
      os:=m.os,tape:=m.tape,output:=m.output,size:=m.size
      block:=λa n hn=>m.block a n (λhF=>by
       obtain⟨r,B,t⟩:=L a hF;exact hn ⟨r,B,t⟩)
      cell:=λa j hj=>by
       rcases dH a w.heap.size with k|k
       ·exact m.cell a j k hj
       ·have:=p.fW a k;omega
      fX:=m.fX }
     have hlk:∀r∈rowsOf (gj s y).cells,look (fN s (rowsOf (gj s y).cells)).rw r=O:=λr B=>by rw[mJ,if_pos B]
     have i0:Inv γ h0 io w0 (fN s (rowsOf (gj s y).cells)) f w:=p.sub (λe c k=>by rw[(oI _ _).1]at k;exact k) (λe c k=>by rw[(oI _ _).2]at k;exact k) (λe c k=>by
      rw[mJ]at k
      split at k
      ·cases k
      ·exact k)
     have T:=i0.Pq v (by rintro⟨r,_,h⟩;cases h) (λb h=>by obtain⟨r,_,h⟩:=h;cases h) (λr h=>by obtain⟨r',CC,h⟩:=h;cases h;exact hlk r CC);obtain⟨m1,m2,m3⟩:=l4 w' S _ R CC m.fX m.size hb;have i2:Inv γ h0 io w0 R f w':={T with
      sl:=λe c k=>T.sl e c (by rw[<- m1];exact k)
      bx:=λe c k=>T.bx e c (by rw[<- m2];exact k)
      rw:=λr a k=>by
       rcases m3 r a k with h|⟨_,h⟩
       ·exact T.rw r a h
       ·exact h }
     refine hK γ _ w' (i2.put d _ _ (iP aj2)) ⟨⟨v.os,v.tape,v.output,v.size,λa n hn=>v.block a n (λh=>hn ?_),v.cell,v.fX⟩,λ_ _=>rfl,λ_=>az _,.put⟩;obtain⟨r,B,h⟩:=h;exact⟨r,B,.inr h⟩
    ·cases l
   ·cases l
  ·cases l
 ·cases l
end
end
section
open Go.RowKit
section
variable {P:Program} {γ:Gh} {h0:Nat->Nat} {io:M Nat} {w0:World} {s s':St} {f:Fm} {w:World} {N:Nat} {ty:TypeId} {pos:String} {aft:Array Edge} {gd:u (Nat×Bool)} {K:Fm->World->Prop}
 {cf:Nat->M A->u (M A×M A)} {mf:Nat->Bool->M D->Int->u (M D×Int)}
theorem ag2(Q:Inv γ h0 io w0 s f w){T T' p:TypeId}{k:Nat}{x y:Operand}{a b:KX}{d:Nat}(hU:P.underlying T=Z (.slice p))(hS:oR P p=Z k)(hx:ki N x a=I)(hy:ki N y b=I)(B:lQ cf mf s (Z d) (.GV k a b)=Z s')
  (h:∀U f' w',Inv U h0 io w0 s' f' w'->Tr (Z d) (eW s (Z d) (.GV k a b)) γ w U w' f f'->K f' w') :
  ui P N ⟨Z d,.call {callee:=.builtin .copy,args:=#[x,y],argTypes:=#[T,T'] },ty,pos,aft,gd⟩ f w K:=by
 have X:=ct Q hx;have Yz:=ct Q hy;simp only[lQ]at B
 split at B
 ·rename_i d0 r k' uc es P8 IU hyb;cases P8;rw[IU]at X;rw[hyb]at Yz;simp only[CR,Rp]at X Yz;obtain⟨F,⟨A2,m,c2,y1,y2,y3,y4,y5,y6,y7,y8⟩,kZ⟩:=Yz
  split at B
  ·rename_i row hl
   split at B
   ·rename_i hc;obtain⟨rfl,rfl,rfl,hrf,yo,qK,hle⟩:=hc;simp only[aa]at B;subst B;obtain⟨my,A,n,c,i2,b2,zZ,V,o2,l2,q1,q2,q3,q4,q5,q6,q7,q8⟩:=Q.tM hl;have qj:(fr f N).eval x=.slice A n c:=X.1.trans q1;have hrX:r∈eW s (Z d) (.GV row.k a b):=by simp[eW,IU,rowsOf]
    have sb:n=m:=by omega
    subst sb;have TN:IntKind.i64.wrap (n:Int)=(n:Int):=cD (by simp only[maxLen]at q4;omega);have mF:∀{w':World},(Builtin.copy_ #[T,T'] ty #[(fr f N).eval x,(fr f N).eval y]).run P w=.ok (.int .i64 n) w'->(execOp (fr f N).eval ⟨Z d,.call {callee:=.builtin .copy,args:=#[x,y],argTypes:=#[T,T'] },ty,pos,aft,gd⟩).run P w=.ok (.value (.int .i64 n)) w':=by
     intro w' hr;simp[execOp,resolve,invoke,builtin,hr]
    have kF:goInt n=.int .i64 (n:Int):=rfl;rcases y8 with ⟨y8,rfl⟩|⟨R3,bb,oo,t,G2,rfl,rfl,C,a3'⟩
    ·
     have xk:es=[]:=cq (by omega);have hre:row.es=[]:=cq (by omega);subst y8;refine vE (mF (w':=w) ?_) ?_
     ·rw[qj,y1];cases A<;>cases A2<;>simp[Builtin.copy_,run_underlying hU,run_sizeOf hS,Builtin.lenOf,Builtin.firstCells,loadCells,loadCellsFrom,storeCells,goInt]
     ·have e1:s.setRow r {row with es:=es }=s.setRow r row:=by rw[xk,<- hre]
      have i3:Inv γ h0 io w0 (s.setRow r row) f w:={Q with
       rw:=λq e L=>by
        simp only[St.setRow,look]at L;by_cases hq:r=q
        ·subst hq;simp at L;subst L;exact Q.rw r row hl
        ·rw[if_neg hq,eN]at L
         split at L
         ·cases L
         ·exact Q.rw q e L }
      have e2:es.length=0:=by rw[xk];rfl
      refine h γ _ w ?_ ⟨uC.refl _ _ _,λ_ _=>rfl,λ_=>az _,.put⟩;rw[e1,e2];exact i3.put d _ _ (iP rfl)
    ·have hG2:G2=[]:=C.plain (y5 rfl);subst hG2;rcases q8 with ⟨rfl,rfl⟩|⟨g,o,xs,G,rfl,a2,a3,a4,a5,a6,a7,a8,a9,tZ,TE,a12⟩
     ·omega
     obtain⟨rfl,S,H,hB,u9⟩:=tZ qK;have hG:G=[]:=a6.plain (q7 hrf);subst hG;have W:γ.h g=0:=a9 yo;have VY:t.length=n * row.k:=by rw[fy.length es C y7,y2]
     have hck:n * row.k<=c * row.k:=fM _ q3;have ajZ:=C.qZ;have hf:=run_firstCells_some (P:=P) w row.k n ⟨bb,oo,O⟩ n c2 t VY (λj v hv=>by rw[pZ];exact a3' j v hv);have sv:=nN (P:=P) (o:=0) t 0 w H hB (by omega) ajZ;simp only[dx]at sv;refine vE (mF (w':=gF w g (.cells (cL H 0 t).toArray S (0,0))) ?_) ?_
     ·rw[qj,y1];simp[Builtin.copy_,run_underlying hU,run_sizeOf hS,Builtin.lenOf,hf,sv,goInt]
     have Y:=GB.gF w g (cL H 0 t).toArray S;have nD:uC γ (λo=>∃i∈eW s (Z d) (.GV row.k a b),o=.box i\/o=.row i) w _:=mM Q Y ⟨r,hrX,.inr a3⟩ (λj hj=>by rw[W]at hj;omega);have h5:=i2.Pq (mM i2 Y (M:=λo=>o=.ej) a4 (λj hj=>by rw[V,W]at hj;omega)) (by simp) (λb R=>by cases R) (λr hr=>by cases hr);have acH:cL H 0 t=t++H.drop t.length:=by simp[cL]
     have iy:iH (gF w g (.cells (cL H 0 t).toArray S (0,0))) g 0 t:=by
      have h7:=(hB.iB S (cL H 0 t)).Oc;intro j l hu;refine h7 j l ?_;rw[acH,dd (bh.1 hu).1];exact hu
     have CC:fy (gF w g (.cells (cL H 0 t).toArray S (0,0))) es t []:=C.dL _ (λbe R=>by simp at R);obtain⟨Rj,h6,h7,h8,h9,_,_⟩:=h5.vY (r:=r) (x:={row with es:=es }) (n:=n) (c:=c) (g:=g) (o:=0) y2 q3 q4 q5 y7 (λ_=>y5 rfl)
      (by rw[gu];exact a2) (.inl a4) (i2.own g (by rw[a4];simp)).2 ⟨by rw[gu];omega,Y.fz⟩ CC iy (by rw[V,W];omega) (λ_=>by rw[V,W]) (λ_=>⟨rfl,S,_,hB.iB S _,by rw[jO (by omega)];exact u9⟩)
      (λbe R=>by simp at R) (λ_=>⟨by simp,λbe R=>by simp at R⟩) (by rw[zZ];exact q1)
     have e6:(s.cY r).setRow r {row with es:=es }=s.setRow r {row with es:=es }:=by
      have:sa (sa s.rw r) r=sa s.rw r:=by simp[sa,nO]
      simp[St.setRow,St.cY,this]
     rw[e6]at h6;refine h Rj _ _ ?_ ⟨nD,λ_ _=>by rw[h8,b2],λe=>by have:=h9 e;rw[V]at this;exact this,.put⟩;rw[<- y2];exact h6.put d _ _ (iP TN)
   ·cases B
  ·cases B
 ·cases B
end
end
section
open Go.RowKit
def Nj(P:Program)(F:FuncId):Prop:=
 ∀(w:World) (g:Nat) (T:TypeId) (a es:M Bool) (c:Nat) (b o m f:Nat) (rest:M Value),kJ w g T (a.map Value.bool++rest)->iH w b o (es.map Value.bool)->b≠g->es.length=a.length->a.length<=maxLen->
  Calls P F #[.slice (Z ⟨g,0,O⟩) a.length c,.slice (Z ⟨b,o,O⟩) es.length f] w λe d=>e=.returned (.bool (nC a es))/\d=gF w g (.cells ((dM a es).map Value.bool++rest).toArray T (0,0))
def Pp(P:Program)(F:FuncId)(ins:Bool):Prop:=
 ∀(w:World) (A:u Addr) (n c a b m:Nat) (k:Value) (xs h:M Value),n<=c->c<=maxLen->a<=b->b<=n->(n+m) * 56<=room->xs.length=n * 3->h.length=m * 3->(∀v∈xs++h,one v=I)->
  ((A=O/\c=0)\/∃g T l,A=Z ⟨g,0,O⟩/\kJ w g T l/\l.length=c * 3/\l.take (n * 3)=xs)->
  (if ins=I then a=b/\0 < m/\∃q o T d,k=.slice (Z ⟨q,0,O⟩) m o/\kJ w q T d/\d.length=o * 3/\d.take (m * 3)=h/\m<=o/\∀g,A=Z ⟨g,0,O⟩->q≠g else a < b/\m=0/\k=.int .i64 b)->
  Calls P F #[.slice A n c,.int .i64 a,k] w λe i=>∃f j p d,e=.returned (.slice (Z ⟨f,0,O⟩) (n - (b - a)+m) j)/\n - (b - a)+m<=j/\j<=maxLen/\kJ i f p d/\d.length=j * 3/\
   d.take ((n - (b - a)+m) * 3)=xs.take (a * 3)++h++xs.drop (b * 3)/\((A=Z ⟨f,0,O⟩/\GB f w i)\/(f=w.heap.size/\i.heap.size=w.heap.size+1/\Bv w.heap.size w i))
def Rr(P:Program)(num:Nat->FuncId):Prop:=
 (num 9004≠1000000->Nj P (num 9004))/\∀ins:Bool,num (if ins=I then 9006 else 9005)≠1000000->Pp P (num (if ins=I then 9006 else 9005)) ins
def Cts(b:World)(c:M Nat)(P:Program)(num:Nat->FuncId)(d:Nat->M A->u (M A×M A)):Prop:=
 (∀g a r o,d g a=Z (r,o)->xu b c P (num g) a r o)/\Rr P num
section
variable {P:Program} {γ:Gh} {h0:Nat->Nat} {io:M Nat} {w0:World} {s s':St} {f:Fm} {w:World} {N:Nat} {ty:TypeId} {pos:String} {aft:Array Edge} {gd:u (Nat×Bool)} {K:Fm->World->Prop}
 {cf:Nat->M A->u (M A×M A)} {mf:Nat->Bool->M D->Int->u (M D×Int)}
def Gh.iG(γ:Gh)(q i:Nat):Gh:=⟨γ.h,γ.β,λr=>if r=i then γ.sl q else γ.sl r,λg=>if γ.ω g=.row q then .row i else γ.ω g⟩
mutual
theorem CR.iG(γ:Gh)(w:World)(q i:Nat):∀(c:C) {v:Value},CR γ w c v->CR (γ.iG q i) w (c.iG q i) v
 | .d x,v,h=>by simp only[CR,C.iG,Gh.iG]at h ⊢;exact h
 | .nil k y,v,h=>by simp only[CR,C.iG]at h ⊢;exact h
 | .ref r,v,h=>by
  simp only[CR]at h;simp only[C.iG];split
  ·rename_i e;subst e;simp only[CR,Gh.iG,if_true];exact h
  ·split
   ·simp only[CR]
   ·rename_i t m;simp only[CR,Gh.iG,if_neg m];exact h
 | .ptr b o,v,h=>by simp only[CR,C.iG,Gh.iG]at h ⊢;exact h
 | .pj r k a o,v,h=>by
  simp only[CR]at h;simp only[C.iG];split
  ·rename_i e;subst e;simp only[CR,Gh.iG,if_true];exact h
  ·split
   ·simp only[CR]
   ·rename_i t m;simp only[CR,Gh.iG,if_neg m];exact h
 | .ub cs,v,h=>by simp only[CR,C.iG,Gh.iG]at h ⊢;exact h
 | .agg cs,v,h=>by
  simp only[CR,C.iG]at h ⊢;obtain⟨g,l,j⟩:=h;exact⟨g,l,fu.iG γ w q i cs j⟩
 | .ri cs,v,h=>by
  simp only[CR,C.iG]at h ⊢;obtain⟨g,l,j⟩:=h;exact⟨g,l,fu.iG γ w q i cs j⟩
 | .uv,v,h=>by simp only[CR,C.iG]at h ⊢;exact h
 | .any,v,h=>by simp only[CR,C.iG]
theorem fu.iG(γ:Gh)(w:World)(q i:Nat):∀(cs:List C) {g:List Value},fu γ w cs g->fu (γ.iG q i) w (C.Be q i cs) g
 |[],g,h=>by simp only[fu,C.Be]at h ⊢;exact h
 |c::cs,g,h=>by
  simp only[fu,C.Be]at h ⊢;obtain⟨v,p,l,j,n⟩:=h;exact⟨v,p,l,CR.iG γ w q i c j,fu.iG γ w q i cs n⟩
end
theorem SW(q i:Nat)(l:M (Nat×C))(d:Nat):look (Xi q i l) d=(look l d).map (C.iG q i):=by
 induction l with
 |nil=>rfl
 |cons p l a=>
  obtain⟨k,x⟩:=p;unfold Xi at a ⊢;simp only[aZ,look,a]
  split<;>rfl
theorem SV(q i:Nat)(l:M (Nat×M C))(d:Nat):look (Xh q i l) d=(look l d).map (C.Be q i):=by
 induction l with
 |nil=>rfl
 |cons p l a=>
  obtain⟨k,x⟩:=p;unfold Xh at a ⊢;simp only[aZ,look,a]
  split<;>rfl
theorem Inv.iG(j:Inv γ h0 io w0 s f w){q i:Nat}{row:Row}(y:look s.rw q=Z row):Inv (γ.iG q i) h0 io w0 (s.iG q i row) f w:={j with
 sl:=λd c h=>by
  simp only[St.iG,SW,aj]at h;obtain⟨p,k,rfl⟩:=h;exact CR.iG γ w q i p (j.sl d p k)
 bx:=λb C h=>by
  simp only[St.iG,SV,aj]at h;obtain⟨o,k,rfl⟩:=h;obtain⟨T,t,m,l,B⟩:=j.bx b o k;exact⟨T,t,m,fu.iG γ w q i o l,by simp[Gh.iG,B]⟩
 rw:=λr x h=>by
  simp only[St.iG,look]at h;by_cases n:i=r
  ·subst n;simp only[if_true,aa]at h;subst h;obtain⟨F,k,m,l⟩:=j.rw q row y;exact⟨F,by simp only[Gh.iG,if_true];exact k,m,λg a=>by simp[Gh.iG,l g a]⟩
  ·rw[if_neg n,eN,if_neg n,eN]at h
   split at h
   ·cases h
   ·rename_i v;obtain⟨F,k,m,l⟩:=j.rw r x h;exact⟨F,by simp only[Gh.iG,if_neg (mR n)];exact k,m,λg a=>by simp[Gh.iG,l g a,mR v]⟩
 own:=λg a=>j.own g (λe=>a (by simp[Gh.iG,e]))
 nS:=λg b a=>j.nS g b (by
  simp only[Gh.iG]at a
  split at a
  ·cases a
  ·exact a) }
theorem abM(g:Inv γ h0 io w0 s f w){op:Op}{x:Operand}{y:KX}{d:Nat}(m:op=.assign x\/op=.move x)(o:ki N x y=I)(a:lQ cf mf s (Z d) (.QJ y)=Z s')
  (h:∀b j e,Inv b h0 io w0 s' j e->Tr (Z d) (eW s (Z d) (.QJ y)) γ w b e f j->K j e):ui P N ⟨Z d,op,ty,pos,aft,gd⟩ f w K:=by
 have c:=ct g o;have l:(execOp (fr f N).eval ⟨Z d,op,ty,pos,aft,gd⟩).run P w=.ok (.value ((fr f N).eval x)) w:=by
  rcases m with rfl|rfl
  ·exact jJ rfl
  ·exact il rfl
 refine eu l ?_;simp only[lQ]at a
 split at a
 ·rename_i q k;rw[k]at c
  split at a
  ·rename_i row p;simp only[aa]at a;subst a;have n:=g.iG (i:=w8 d 0) p;exact h _ _ _ (n.put d (.ref (w8 d 0)) _ (by
    simp only[CR]at c ⊢
    simpa [Gh.iG] using c)) ⟨uC.refl _ _ _,λ_ _=>rfl,λ_=>az _,.put⟩
  ·cases a
 ·rename_i k;simp only[aa]at a;subst a;exact h _ _ _ (g.put d _ _ c) ⟨uC.refl _ _ _,λ_ _=>rfl,λ_=>az _,.put⟩
theorem Ae:∀(es:M (M D)) {c:M Bool} {d:M Value} {G:Fp},lr es=Z c->fy w es d G->d=c.map Value.bool/\G=[]/\c.length=es.length
 |[],c,d,G,h,a=>by
  simp only[lr,aa]at h;subst h;simp only[fy]at a;simp[a.1,a.2]
 |e::es,c,d,G,h,a=>by
  match e,h with
  |[.bool b],h=>
   simp only[lr,aj]at h;obtain⟨l,j,rfl⟩:=h;simp only[fy,fE,Rp]at a;obtain⟨v1,v2,o,n,rfl,rfl,⟨v,k,m,G2,rfl,rfl,⟨rfl,rfl⟩,rfl,rfl⟩,i⟩:=a;obtain⟨rfl,rfl,g⟩:=Ae es j i;simp[g]
  |[],h=>simp[lr]at h
  |[.int _ _],h=>simp[lr]at h
  |[.str _],h=>simp[lr]at h
  |[.list _ _ _],h=>simp[lr]at h
  |_::_::_,h=>simp[lr]at h
theorem HU:∀(a:M Bool),fy w (a.map λb=>[D.bool b]) (a.map Value.bool) []
 |[]=>by simp[fy]
 |b::a=>by
  simp only[aZ,fy,fE,Rp];exact⟨[.bool b],_,[],[],rfl,rfl,⟨.bool b,[],[],[],rfl,rfl,⟨rfl,rfl⟩,rfl,rfl⟩,HU a⟩
theorem j9:∀(a es:M Bool),(dM a es).length=a.length
 |[],es=>by cases es<;>simp[dM]
 |b::a,[]=>by simp[dM]
 |b::a,e::es=>by simp[dM,j9 a es]
theorem acP(T:Inv γ h0 io w0 s f w){r:Nat}{c:C}{v:Value}{es:M (M D)}(k:CR γ w c v)(a:Hl s r c=Z es)(R:es≠[]) :
  ∃b o n j d G,v=.slice (Z ⟨b,o,O⟩) n j/\n=es.length/\fy w es d G/\iH w b o d/\∀g,γ.ω g=.row r->γ.h g=0->b≠g:=by
 have X:0 < es.length:=zW.2 R;unfold Hl at a
 split at a
 ·rename_i Y W;simp only[aa]at a;subst a;simp only[CR,Rp]at k;obtain⟨F,⟨A,n,j,q1,q2,L,H,B,y,x,i⟩,Q⟩:=k;rcases i with ⟨i,_⟩|⟨_,b,o,d,G,rfl,rfl,a2,a3⟩
  ·omega
  ·refine⟨b,o,n,j,d,G,q1,q2,a2,a3,λg _ l e=>?_⟩;have:=Q (b,o+n * 1) (by simp);simp only at this
   rw[e,l]at this;omega
 ·rename_i q
  split at a
  ·rename_i row V
   split at a
   ·rename_i S;simp only[aa]at a;subst a;simp only[CR]at k;obtain⟨F,U,_,t⟩:=T.rw q row V;obtain⟨A,n,j,q1,q2,L,H,B,y,x,i⟩:=U;rcases i with ⟨_,i,_⟩|⟨b,o,d,G,rfl,a2,a3,a4,a5,a6,a7,a8,a9,p⟩
    ·omega
    ·have m:γ.ω b=.row q:=t b (by
      cases hd:row.deep with
      |true=>rw[(a9 hd).1];simp
      |false=>rw[(p hd).1];simp)
     refine⟨b,o,n,j,d,G,k.1.trans q1,q2,a4,a5,λg l _ e=>?_⟩;rw[e,l]at m;simp only[Own.row.injEq]at m;exact S.2 m.symm
   ·cases a
  ·cases a
 ·cases a
theorem akk(L:Inv γ h0 io w0 s f w){F0:FuncId}{fn:Func}(Gd:P.funcs[F0]?=Z fn)(TN:fn.body.isSome=I)(sb:(fn.name == "runtime.NumGoroutine")=J)(v:Nj P F0){ts:Array TypeId}{x y:Operand}{a b:KX}{d:Nat}(hx:ki N x a=I)(F:ki N y b=I)(q:lQ cf mf s (Z d) (.jn a b)=Z s')
  (h:∀C f' V,Inv C h0 io w0 s' f' V->Tr (Z d) (eW s (Z d) (.jn a b)) γ w C V f f'->K f' V) :
  ui P N ⟨Z d,.call {callee:=.value (.func F0),args:=#[x,y],argTypes:=ts },ty,pos,aft,gd⟩ f w K:=by
 have X:=ct L hx;have Yz:=ct L F;simp only[lQ]at q
 split at q
 ·rename_i d0 r P8 IU;cases P8;rw[IU]at X;simp only[CR]at X
  split at q
  ·rename_i row es hl xk
   split at q
   ·rename_i hc;obtain⟨hk,hrf,yo,qK,hle⟩:=hc
    split at q
    ·rename_i p t hbs qX
     split at q
     ·rename_i ic;simp only[aa]at q;subst q;obtain⟨my,A,n,c,i2,b2,zZ,W,o2,l2,q1,q2,q3,q4,q5,q6,q7,q8⟩:=L.tM hl;have qj:(fr f N).eval x=.slice A n c:=X.1.trans q1;have hrX:r∈eW s (Z d) (.jn a b):=by simp[eW,IU,rowsOf]
      have DN:0 < es.length:=zW.2 ic;rcases q8 with ⟨rfl,rfl⟩|⟨g,o,xs,G,rfl,a2,a3,a4,a5,a6,a7,a8,a9,tZ,TE,a12⟩
      ·omega
      obtain⟨rfl,T,B,hB,u9⟩:=tZ qK;have U:γ.h g=0:=a9 yo;obtain⟨rfl,rfl,hbl⟩:=Ae _ hbs a6;obtain⟨bb,oo,n2,cc,Kh,G2,y1,y2,y3,y4,y5⟩:=acP L Yz xk ic;obtain⟨rfl,rfl,rH⟩:=Ae _ qX y3;have hlc:t.length=p.length:=by omega
      have H:n=p.length:=by omega
      have ZC:B=p.map Value.bool++B.drop p.length:=by
       have:B.take p.length=p.map Value.bool:=by
        apply eE
        intro j;rw[cQ];by_cases v:j < p.length
        ·rw[if_pos v];have h7:=a7 j (Value.bool p[j]) (by simp[v]);rw[bu,hB.cell]at h7;rw[h7];simp[v]
        ·rw[if_neg v,jy (by simp;omega)]
       conv=>lhs;rw[<- bD p.length B,this]
      have S:=hB;rw[ZC]at S;have qi:=v w g T p t c bb oo n2 cc (B.drop p.length) S y4 (y5 g a3 U) hlc (by omega);have aj9:(fr f N).eval x=.slice (Z ⟨g,0,O⟩) p.length c:=by rw[qj,H]
      have aj_:(fr f N).eval y=.slice (Z ⟨bb,oo,O⟩) t.length cc:=by rw[y1,y2,rH]
      refine xV (yh (kD Gd TN sb) rfl (by simp[aj9,aj_])) qi λe V hp=>?_;obtain⟨rfl,rfl⟩:=hp;refine⟨_,rfl,?_⟩;have Y:=GB.gF w g ((dM p t).map Value.bool++B.drop p.length).toArray T;have nD:uC γ (λo=>∃i∈eW s (Z d) (.jn a b),o=.box i\/o=.row i) w _:=mM L Y ⟨r,hrX,.inr a3⟩ (λj v=>by rw[U]at v;omega);have h5:=i2.Pq (mM i2 Y (M:=λo=>o=.ej) a4 (λj v=>by rw[W,U]at v;omega)) (by simp) (λb Q=>by cases Q) (λr hr=>by cases hr);have R:=hB.iB T ((dM p t).map Value.bool++B.drop p.length);have iy:iH (gF w g (.cells ((dM p t).map Value.bool++B.drop p.length).toArray T (0,0))) g 0 ((dM p t).map Value.bool):=by
       intro j m hu;refine R.Oc j m ?_;rw[dd (bh.1 hu).1];exact hu
      have RX:=j9 p t;have aj6:((dM p t).map Value.bool++B.drop p.length).length=c * row.k:=by
       simp only[a_,aA,RX,dK];rw[hk]at u9 ⊢;omega
      obtain⟨Rj,h6,h7,h8,h9,_,_⟩:=h5.vY (r:=r) (x:={row with es:=(dM p t).map λb=>[D.bool b] }) (n:=n) (c:=c) (g:=g) (o:=0) (by simp only[aA,RX];exact H) q3 q4 q5
       (λy F=>by obtain⟨l,_,rfl⟩:=bZ.1 F;simp[hk]) (λ_ y F l hz=>by obtain⟨m,_,rfl⟩:=bZ.1 F;simp at hz;subst hz;rfl)
       (by rw[gu];exact a2) (.inl a4) (i2.own g (by rw[a4];simp)).2 ⟨by rw[gu];omega,Y.fz⟩ (HU _) iy (by rw[W,U];omega) (λ_=>by rw[W,U]) (λ_=>⟨rfl,T,_,R,aj6⟩)
       (λbe Q=>by simp at Q) (λ_=>⟨by simp,λbe Q=>by simp at Q⟩) (by rw[zZ];exact q1)
      have e6:(s.cY r).setRow r {row with es:=(dM p t).map λb=>[D.bool b] }=s.setRow r {row with es:=(dM p t).map λb=>[D.bool b] }:=by
       have:sa (sa s.rw r) r=sa s.rw r:=by simp[sa,nO]
       simp[St.setRow,St.cY,this]
      rw[e6]at h6;exact h Rj _ _ (h6.put d _ _ jq) ⟨nD,λ_ _=>by rw[h8,b2],λl=>by have:=h9 l;rw[W]at this;exact this,.put⟩
     ·cases q
    ·cases q
   ·cases q
  ·cases q
 ·cases q
end
end
section
open Go.RowKit
section
variable {P:Program} {γ:Gh} {h0:Nat->Nat} {io:M Nat} {w0:World} {s s':St} {f:Fm} {w:World} {N:Nat} {ty:TypeId} {pos:String} {aft:Array Edge} {gd:u (Nat×Bool)} {K:Fm->World->Prop}
 {cf:Nat->M A->u (M A×M A)} {mf:Nat->Bool->M D->Int->u (M D×Int)}
theorem H9{g:Nat}{T:TypeId}{c a:M Value}(hB:kJ w g T c)(e:iH w g 0 a):c.take a.length=a:=by
 apply eE
 intro j;rw[cQ];by_cases b:j < a.length
 ·rw[if_pos b];have d:=e j a[j] (by simp[b]);rw[bu,hB.cell]at d;rw[d];simp[b]
 ·rw[if_neg b,jy (by omega)]
theorem pS{g:Nat}{T:TypeId}{d c:M Value}{n:Nat}(hB:kJ w g T d)(e:d.take n=c):iH w g 0 c:=by
 intro j a b;rw[bu,hB.cell];rw[<- e,cQ]at b
 split at b
 ·exact b
 ·cases b
theorem HV{w:World}{g:Nat}{T:TypeId}{a:M Value}(h:kJ w g T a):gF w g (.cells a.toArray T (0,0))=w:=by
 unfold gF;have e:w.heap.setIfInBounds g (.cells a.toArray T (0,0))=w.heap:=by
  apply Array.ext_getElem?
  intro k;rw[Array.getElem?_setIfInBounds];split
  ·rename_i b;subst b;rw[if_pos h.lt];exact h.symm
  ·rfl
 rw[e]
theorem OJ(H:Inv γ h0 io w0 s f w){c:C}{d:Value}(y:CR γ w c d){ins:Bool}{a b:Int}{es:M (M D)}{X:Bool}{t:St}(j:yc s ins a c=Z (b,es,X,t)) :
  ∃v G i,Inv v h0 io w0 t f w/\fy w es i G/\Emb γ w X G v/\(∀e∈es,e.length=3)/\(∀r row,look t.rw r=Z row->look s.rw r=Z row)/\
   (if ins=I then b=a/\0 < es.length/\∃q l T m,d=.slice (Z ⟨q,0,O⟩) es.length l/\kJ w q T m/\m.length=l * 3/\m.take (es.length * 3)=i/\es.length<=l/\∀r row,look t.rw r=Z row->γ.ω q≠.row r else a < b/\es=[]/\d=.int .i64 b):=by
 unfold yc at j
 split at j
 ·rename_i b'
  split at j
  ·rename_i L;obtain⟨rfl,Y⟩:=L;simp only[aa,aC]at j;obtain⟨rfl,rfl,rfl,rfl⟩:=j;obtain⟨hv,_⟩:=iM y;exact⟨γ,[],[],H,by simp[fy],⟨rfl,rfl,λ_=>az _,λ_ h=>by simp at h,λ_=>by simp,λ_ h=>⟨h,rfl⟩,λ_=>.inl rfl⟩,λ_ h=>by simp at h,λ_ _ h=>h,by simp[Y,hv]⟩
  ·cases j
 ·rename_i q
  split at j
  ·rename_i row V
   split at j
   ·rename_i L;obtain⟨rfl,W,ti,qK,ic⟩:=L;simp only[aa,aC]at j;obtain⟨rfl,rfl,rfl,rfl⟩:=j;obtain⟨F,hR,kl,sS⟩:=H.rw q row V;obtain⟨A,n,l,q1,q2,q3,q4,q5,q6,q7,R⟩:=hR;have p:0 < row.es.length:=zW.2 ic;have tj:nu s 3 J (.ref q)=Z (row.es,row.deep && !row.fz,s.cY q):=by simp[nu,V,W,ti]
    obtain⟨v,G,i,i1,Q,e1,S,_,k⟩:=C3 H y tj;simp only[CR]at y;rcases R with ⟨_,R,_⟩|⟨g,o,xs,G',rfl,a2,a3,a4,a5,a6,a7,a8,a9,tZ⟩
    ·omega
    ·obtain⟨rfl,T,m,hB,B⟩:=a8 qK;have yW:γ.ω g=.row q:=sS g (by
      cases hd:row.deep with
      |true=>rw[(a9 hd).1];simp
      |false=>rw[(tZ hd).1];simp)
     have U:d=.slice (Z ⟨g,0,O⟩) n l:=y.1.trans q1;have RZ:=fy.length row.es Q S;refine⟨v,G,i,i1,Q,e1,S,λr x h=>?_,?_⟩
     ·simp only[St.cY,eN]at h
      split at h
      ·cases h
      ·exact h
     ·rw[if_pos rfl];refine⟨rfl,p,g,l,T,m,by rw[U,q2],hB,by rw[B,W],?_,by omega,λr x h=>?_⟩
      ·rcases k with ⟨k,_⟩|⟨b,o,c2,k,k4⟩
       ·omega
       ·rw[U]at k;simp only[Value.slice.injEq,aa,Addr.mk.injEq,and_true]at k;obtain⟨⟨rfl,rfl⟩,_⟩:=k;rw[<- RZ];exact H9 hB k4
      ·rw[yW];intro e;simp only[Own.row.injEq]at e;subst e;simp only[St.cY,eN,if_true]at h;cases h
   ·cases j
  ·cases j
 ·cases j
theorem ag4(hi:Inv γ h0 io w0 s f w){F0:FuncId}{fn:Func}(Gd:P.funcs[F0]?=Z fn)(TN:fn.body.isSome=I)(sb:(fn.name == "runtime.NumGoroutine")=J){ins:Bool}(hj:Pp P F0 ins){ts:Array TypeId}{x y l:Operand}{a b c:KX}{d:Nat}
  (hx:ki N x a=I) (Y:ki N y b=I) (hz:ki N l c=I) (C:lQ cf mf s (Z d) (.xt ins a b c)=Z s') (h:∀Q f' w',Inv Q h0 io w0 s' f' w'->Tr (Z d) (eW s (Z d) (.xt ins a b c)) γ w Q w' f f'->K f' w') :
  ui P N ⟨Z d,.call {callee:=.value (.func F0),args:=#[x,y,l],argTypes:=ts },ty,pos,aft,gd⟩ f w K:=by
 have rK:=ct hi hx;have Yz:=ct hi Y;have hpz:=ct hi hz;simp only[lQ]at C
 split at C
 ·rename_i d0 p P8 hya;cases P8;rw[hya]at Yz;obtain⟨hyv,_⟩:=iM Yz
  split at C
  ·rename_i b' es dp s1 tj;obtain⟨oT,G2,F,i1,r2,e1,hk2,tm,Qd⟩:=OJ hi hpz tj
   split at C
   ·rename_i r IU;rw[IU]at rK;simp only[CR]at rK
    split at C
    ·rename_i row hl
     split at C
     ·rename_i VS;obtain⟨h3,ti,qK,yo,hp0,hbl,YA⟩:=VS;simp only[aa]at C;subst C;obtain⟨X,A,n,c',i2,b2,zZ,W,o2,l2,q1,q2,q3,q4,q5,q6,q7,q8⟩:=i1.tM hl;rw[e1.sl]at q1;have qj:(fr f N).eval x=.slice A n c':=rK.1.trans q1;have hrX:r∈eW s (Z d) (.xt ins a b c):=by simp[eW,IU,rowsOf]
      obtain⟨L,rfl⟩:∃L:Nat,p=L:=⟨p.toNat,by omega⟩
      have hpb:(L:Int)<=b':=by
       cases ins with
       |true=>rw[if_pos rfl]at Qd;omega
       |false=>rw[if_neg (by simp)]at Qd;omega
      obtain⟨H,rfl⟩:∃H:Nat,b'=H:=⟨b'.toNat,by omega⟩
      simp only[cd]at h ⊢;have agj:L<=H:=by omega
      have hb0:H<=n:=by omega
      have RZ:F.length=es.length * 3:=fy.length es r2 hk2;have hle:((row.es.take L++es)++row.es.drop H).length=n - (H - L)+es.length:=by
       simp only[a_,bj,dK];rw[cI (by omega)];omega
      have BG:∀e∈(row.es.take L++es)++row.es.drop H,e.length=row.k:=λe C=>by
       rcases aT.1 C with C|C
       ·rcases aT.1 C with C|C
        ·exact q6 e (cn C)
        ·rw[h3];exact hk2 e C
       ·exact q6 e (ff C)
      obtain⟨R,G,a6,hold,DM,ajQ,hAB⟩:∃R G,fy w row.es R G/\((A=O/\c'=0)\/∃g T vs,A=Z ⟨g,0,O⟩/\kJ w g T vs/\vs.length=c' * 3/\vs.take (n * 3)=R)/\
        (∀m∈G,m.2<=X.h m.1\/(yu X w m.1/\A≠Z ⟨m.1,0,O⟩))/\(row.deep=I->(G.map cr).Nodup/\∀m∈G,yu X w m.1/\oT.ω m.1=.row r/\A≠Z ⟨m.1,0,O⟩)/\
        (∀g,A=Z ⟨g,0,O⟩->g < w.heap.size/\oT.ω g=.row r/\X.ω g=.ej/\oT.h g=0/\oG w g):=by
       rcases q8 with ⟨rfl,rfl⟩|⟨g,o,R,G,rfl,a2,a3,a4,a5,a6,a7,a8,a9,tZ,TE,a12⟩
       ·have hre:row.es=[]:=cq (by omega);exact⟨[],[],by rw[hre];simp[fy],.inl ⟨rfl,rfl⟩,λ_ h=>by simp at h,λ_=>⟨by simp,λ_ h=>by simp at h⟩,λg e=>by cases e⟩
       ·obtain⟨rfl,T,vs,hB,u9⟩:=tZ qK;have Ca:R.length=n * 3:=by rw[fy.length _ a6 q6,q2,h3]
        refine⟨R,G,a6,.inr ⟨g,T,vs,rfl,hB,by rw[u9,h3],by rw[<- Ca];exact H9 hB a7⟩,λm t=>?_,λhd=>?_,λg' e=>?_⟩
        ·rcases TE m t with B|B
         ·exact .inl (by rw[W];exact B)
         ·exact .inr ⟨B.1,λe=>by simp only[aa,Addr.mk.injEq]at e;exact B.2 e.1.symm⟩
        ·obtain⟨d1,d2⟩:=a12 hd;rw[cx]at d1;exact⟨d1.2,λm t=>⟨(d2 m t).1,(d2 m t).2,λe=>by simp only[aa,Addr.mk.injEq]at e;exact d1.1 (e.1▸cH t)⟩⟩
        ·simp only[aa,Addr.mk.injEq]at e;obtain⟨rfl,_⟩:=e;exact⟨a2,a3,a4,a9 yo,a5⟩
      have Ca:R.length=n * 3:=by rw[fy.length _ a6 q6,q2,h3]
      have Hj:∀g,A=Z ⟨g,0,O⟩->γ.ω g=.row r:=λg hg=>by
       have a3:=(hAB g hg).2.1;rcases e1.own g with h|h|h
       ·rw[<- h];exact a3
       ·rw[a3]at h;cases h
       ·rw[a3]at h;cases h
      have qi:=hj w A n c' L H es.length ((fr f N).eval l) R F q3 q4 agj hb0 (by rw[q2];exact YA) Ca RZ (λv hv=>by
        rcases aT.1 hv with hv|hv
        ·exact a6.qZ v hv
        ·exact r2.qZ v hv) hold (by
        cases ins with
        |true=>
         rw[if_pos rfl]at Qd ⊢;obtain⟨z1,z2,q,cc,T,us,z3,z4,z5,z6,z7,z8⟩:=Qd;exact⟨by omega,z2,q,cc,T,us,z3,z4,z5,z6,z7,λg hg e=>z8 r row hl (by rw[e];exact Hj g hg)⟩
        |false=>
         rw[if_neg (by simp)]at Qd ⊢;obtain⟨z1,z2,z3⟩:=Qd;exact⟨by omega,by rw[z2,aP],z3⟩)
      have Od:∀g,yu oT w g->yu X w g:=λg hg=>⟨by rw[o2 _ (by rw[hg.1];simp)];exact hg.1,by rw[W];exact hg.2.1,hg.2.2⟩
      have a6':=a6;rw[<- bD H row.es]at a6';obtain⟨v1,v2,F1,U,FT,hG,k1,k2⟩:=fy.gk _ a6';rw[<- bD L (row.es.take H)]at k1;obtain⟨V,u2,S,G3,hv1,hF1,m1,m2⟩:=fy.gk _ k1;rw[mw,cI agj]at m1;have lv1:v1.length=H * 3:=by
       rw[fy.length _ k1 (λe C=>q6 e (by rw[bD]at C;exact cn C)),bD,bj,cI (by omega),h3]
      have lu1:V.length=L * 3:=by
       rw[fy.length _ m1 (λe C=>q6 e (cn C)),bj,cI (by omega),h3]
      have ajH:R.take (L * 3)++F++R.drop (H * 3)=(V++F)++v2:=by
       rw[FT,<- lv1,yj,hv1,bB V,<- lu1,oA]
      have ZE:fy w ((row.es.take L++es)++row.es.drop H) ((V++F)++v2) ((S++G2)++U):=fy.append _ (fy.append _ m1 r2) k2;have Qc:∀m,m∈S\/m∈U->m∈G:=λm t=>by
       rw[hG,hF1];rcases t with t|t<;>simp[t]
      have xq:∀m∈(S++G2)++U,m.2<=X.h m.1\/(yu X w m.1/\A≠Z ⟨m.1,0,O⟩):=by
       intro m t;have lK:(m∈S\/m∈U)\/m∈G2:=by
        simp only[aT]at t;rcases t with (t|t)|t
        ·exact .inl (.inl t)
        ·exact .inr t
        ·exact .inl (.inr t)
       rcases lK with t|t
       ·exact DM m (Qc m t)
       ·rcases e1.some_ m t with B|B
        ·exact .inl (by rw[W];exact B)
        ·refine .inr ⟨Od _ B,λe=>?_⟩;have:=(hAB _ e).2.1;rw[B.1]at this;cases this
      have yG:(row.deep && dp)=I->(((S++G2)++U).map cr).Nodup/\∀m∈(S++G2)++U,yu X w m.1/\A≠Z ⟨m.1,0,O⟩:=by
       intro hd;rw[ai]at hd;obtain⟨n1,l1⟩:=e1.deep hd.2;obtain⟨n2,Gg⟩:=ajQ hd.1;have rI:∀m,(m∈S\/m∈U)->∀YP∈G2,m.1≠YP.1:=λm t YP lK e=>by
        have V:=(Gg m (Qc m t)).2.1;have u2:=(l1 YP lK).1.1;rw[e,u2]at V;cases V
       have mb:∀m∈(S++G2)++U,yu X w m.1/\A≠Z ⟨m.1,0,O⟩:=λm t=>by
        rcases xq m t with B|B
        ·simp only[aT]at t;rcases t with (t|t)|t
         ·have:=Gg m (Qc m (.inl t));exact⟨this.1,this.2.2⟩
         ·refine⟨Od _ (l1 m t).1,λe=>?_⟩;have:=(hAB _ e).2.1;rw[(l1 m t).1.1]at this;cases this
         ·have:=Gg m (Qc m (.inr t));exact⟨this.1,this.2.2⟩
        ·exact B
       refine⟨?_,mb⟩;rw[hG,hF1,cp,cp,bH,bH]at n2;obtain⟨⟨n3,_,_⟩,n4,n5⟩:=n2;rw[cp,cp,bH,bH];refine⟨⟨n3,n1,λy Y y' Kp e=>?_⟩,n4,λy Y y' Kp e=>?_⟩
       ·obtain⟨m,t,rfl⟩:=bZ.1 Y;obtain⟨YP,lK,rfl⟩:=bZ.1 Kp;exact rI m (.inl t) YP lK e
       ·rcases aT.1 Y with Y|Y
        ·exact n5 y (by simp[Y]) y' Kp e
        ·obtain⟨m,t,rfl⟩:=bZ.1 Y;obtain⟨YP,lK,rfl⟩:=bZ.1 Kp;exact rI YP (.inr lK) m t e.symm
      refine xV (yh (kD Gd TN sb) rfl (by simp[qj,hyv])) qi λe w' hp=>?_;obtain⟨g',cap,T',us,rfl,y1,y2,y3,y4,y5,y6⟩:=hp;refine⟨_,rfl,?_⟩;rw[ajH]at y5;have iy:iH w' g' 0 ((V++F)++v2):=pS y3 y5;rcases y6 with ⟨rfl,lH⟩|⟨rfl,nG,VO⟩
      ·obtain⟨z1,z2,z3,z4,z5⟩:=hAB g' rfl;have BH:γ.h g'=0:=by have:=e1.h g';omega
       have yW:=Hj g' rfl;have i3:=i2.Pq (mM i2 lH (M:=λo=>o=.ej) z3 (λj hj=>by rw[W,z4]at hj;omega)) (by simp) (λb t=>by cases t) (λr hr=>by cases hr);have nD:uC γ (λo=>∃i∈eW s (Z d) (.xt ins a b c),o=.box i\/o=.row i) w w':=mM hi lH ⟨r,hrX,.inr yW⟩ (λj hj=>by rw[BH]at hj;omega);have acD:fy w' ((row.es.take L++es)++row.es.drop H) ((V++F)++v2) ((S++G2)++U):=by
        refine ZE.dL _ λm t j hj=>?_;by_cases h8:m.1=g'
        ·rcases xq m t with B|B
         ·rw[h8,W,z4]at B;omega
         ·exact absurd (by rw[h8]) B.2
        ·exact World.cell?_of_block (w:=w) (lH.block _ h8)
       obtain⟨Q,j1,j2,j3,j4,_⟩:=i3.qc (r:=r) (x:={row with es:=(row.es.take L++es)++row.es.drop H,deep:=row.deep && dp }) (n:=n - (H - L)+es.length) (c:=cap) (g:=g') (o:=0) hle.symm y1 y2 q5 BG (λhf=>by rw[ti]at hf;cases hf) (by rw[lH.size];exact z1) (.inl z3) (i2.own g' (by rw[z3];simp)).2 ⟨by rw[lH.size];exact z1,lH.fz⟩ acD iy (by rw[W,z4];omega) (λhf=>by rw[W];exact z4) (λ_=>⟨rfl,T',us,y3,by rw[y4,h3]⟩)
        (λm t=>by
         rcases xq m t with B|B
         ·exact .inl B
         ·exact .inr ⟨⟨B.1.1,B.1.2.1,nD.fX _ B.1.2.2⟩,λe=>B.2 (by rw[e])⟩)
        (λhd=>by
         obtain⟨d1,d2⟩:=yG hd;refine⟨cx.2 ⟨λhm=>?_,d1⟩,λm t=>by have:=(d2 m t).1;exact⟨this.1,this.2.1,nD.fX _ this.2.2⟩⟩;obtain⟨m,t,e⟩:=bZ.1 hm;exact (d2 m t).2 (by rw[e]))
       rw[jA]at j1;exact h Q _ _ (j1.put d (.ref r) _ (by simp only[CR,j2];exact⟨trivial,_,_,_,rfl⟩)) ⟨nD,λx _=>by rw[j3,b2,e1.β],λg=>by have:=j4 g;rw[W]at this;exact aH (e1.h g) this,.put⟩
      ·have i3:=i2.Co VO;have ed:∀m∈(S++G2)++U,m.1 < w.heap.size:=fy.lt _ ZE;have B0:=(kz hi VO (λ_=>False)).fX;obtain⟨Q,j1,j2,j3,j4,_⟩:=i3.qc (r:=r) (x:={row with es:=(row.es.take L++es)++row.es.drop H,deep:=row.deep && dp }) (n:=n - (H - L)+es.length) (c:=cap) (g:=w.heap.size) (o:=0) hle.symm y1 y2 q5 BG (λhf=>by rw[ti]at hf;cases hf) (by omega) (.inr (i2.rX (az _))) (.inl hi.size) ⟨by omega,VO.Gt _ (az _)⟩ (ZE.Co VO) iy (by rw[i2.fW _ (az _)];omega) (λ_=>i2.fW _ (az _)) (λ_=>⟨rfl,T',us,y3,by rw[y4,h3]⟩)
        (λm t=>by
         rcases xq m t with B|B
         ·exact .inl B
         ·exact .inr ⟨⟨B.1.1,B.1.2.1,B0 _ B.1.2.2⟩,by have:=ed m t;omega⟩)
        (λhd=>by
         obtain⟨d1,d2⟩:=yG hd;refine⟨cx.2 ⟨λhm=>?_,d1⟩,λm t=>by have:=(d2 m t).1;exact⟨this.1,this.2.1,B0 _ this.2.2⟩⟩;obtain⟨m,t,e⟩:=bZ.1 hm;have:=ed m t;omega)
       rw[jA]at j1;exact h Q _ w' (j1.put d (.ref r) _ (by simp only[CR,j2];exact⟨trivial,_,_,_,rfl⟩)) ⟨kz hi VO _,λx _=>by rw[j3,b2,e1.β],λg=>by have:=j4 g;rw[W]at this;exact aH (e1.h g) this,.put⟩
     ·cases C
    ·cases C
   ·cases C
  ·cases C
 ·cases C
end
end
section
open Go.RowKit
def noD(a:M Nat)(l:Array Bool):Prop:=∀m∈a,l.getD m J=J
def Cons(a:M (M Nat×(World->Prop)))(l:Array Bool)(w:World):Prop:=∀p∈a,noD p.1 l->p.2 w
theorem VG{l:Array Bool}{i m:Nat}(h:(l.setIfInBounds i I).getD m J=J):l.getD m J=J:=by
 cases a:l.getD m J with
 |false=>rfl
 |true=>rw[getD_set_true a]at h;cases h
theorem aal{a:M Nat}{l:Array Bool}{i:Nat}(h:noD a (l.setIfInBounds i I)):noD a l:=λm b=>VG (h m b)
theorem zt{a:M Nat}{l:Array Bool}{i:Nat}(h:noD a l)(c:i∉a):noD a (l.setIfInBounds i I):=λm b=>by
 rw[getD_set_ne J (by intro e;subst e;exact c b)];exact h m b
theorem Cons.set{a:M (M Nat×(World->Prop))}{l:Array Bool}{w:World}(h:Cons a l w)(i:Nat):Cons a (l.setIfInBounds i I) w:=λp b c=>h p b (aal c)
theorem Cons.ai0{a:M (M Nat×(World->Prop))}{l:Array Bool}{w:World}{i:Nat}(h:Cons a (l.setIfInBounds i I) w)(d:∀p∈a,i∉p.1):Cons a l w:=λp b c=>h p b (zt c (d p b))
section
variable {P:Program} {ops:Array Oper} {Q:Exit->Act->World->Prop} {md:Region.Mode}
def rV(P:Program)(md:Region.Mode)(ops:Array Oper)(Q:Exit->Act->World->Prop)(c:M (M Nat×(World->Prop))):Nat->Array Bool->Act->World->Prop
 |0,listed,a,w=>Region.ready md ops listed=[]/\Q .normal a w
 |fuel+1,listed,a,w=>
  (Region.ready md ops listed=[]->Q .normal a w)/\
  ∀i∈Region.ready md ops listed,wpOp P ops Q i (λd b=>Cons c (listed.setIfInBounds i I) b/\rV P md ops Q c fuel (listed.setIfInBounds i I) d b) a w
theorem FH{f:M (M Nat×(World->Prop))}:∀(fuel:Nat) (listed:Array Bool) (a:Act) (w:World),rV P md ops Q f fuel listed a w->wpAny P md ops Q fuel listed a w
 |0,_,_,_,h=>h
 |fuel+1,_,_,_,h=>⟨h.1,λi c=>wpOp_mono (λe b d=>FH fuel _ e b d.2) (h.2 i c)⟩
def okD(md:Region.Mode)(ops:Array Oper)(i:Nat)(a:M Nat):Bool:=a.all λj=>match ops[j]? with
 |some o=>o.after.any λe=>Region.binds md e && (e.on ==i ||a.contains e.on)
 |none=>J
theorem WT{i:Nat}{d:M Nat}(h:okD md ops i d=I){listed:Array Bool}(p:listed.getD i J=J)(l:noD d listed){j:Nat}(n:j∈Region.ready md ops listed):j∉d:=by
 intro m;have f:=bz.1 h j m;obtain⟨_,o,k,g⟩:=mem_ready.1 n;rw[k]at f;obtain⟨e,q,b⟩:=Array.any_eq_true'.1 f;simp only[ai,df,beq_iff_eq,List.contains_iff_mem]at b;have a:=g e q b.1;rcases b.2 with c|c
 ·rw[c,p]at a;cases a
 ·rw[l _ c]at a;cases a
theorem aiX{x:M (M Nat×(World->Prop))}{i:Nat}{q:Oper}{v:Value}{V:World->Prop}{W F:M Nat}(hi:ops[i]?=Z q)(K:∀(j:Nat) (o:Oper) G b,ops[j]?=Z o->o.op≠.select G b)
  (hQ:∀c a w,Q (.panic c) (a.put q.dst v) w->Q (.panic c) a w) (hD:okD md ops i W=I) (Lv:∀m∈F,m∈W) (hid:i∉F) (hCi:∀p∈x,i∉p.1) :
  ∀(f:Nat) (d:Array Bool) (a:Act) (w:World),
   (∀j n,ops[j]?=Z n->j≠i->d.getD j I=J->(∀e∈n.after,Region.binds md e=I->e.on≠i)->q.apart ops n=I)->
   i∈Region.ready md ops d->noD W d->YieldsIf P ops V q v a->V w->Cons x d w->
   rV P md ops Q ((F,V)::x) f (d.setIfInBounds i I) (a.put q.dst v) w->rV P md ops Q x (f+1) d a w:=by
 intro f;have l:∀(f:Nat) (d:Array Bool) (a:Act) (w:World),rV P md ops Q ((F,V)::x) f d a w->rV P md ops Q x f d a w:=by
  intro f
  induction f with
  |zero=>intro d a w h;exact h
  |succ f X=>intro d a w h;exact⟨h.1,λj t=>wpOp_mono (λa' A y=>⟨λp Y=>y.1 p (by simp[Y]),X _ a' A y.2⟩) (h.2 j t)⟩
 induction f with
 |zero=>
  intro d a w _ r T R hV hC H;refine⟨λh=>(by rw[h]at r;cases r),λj t=>?_⟩;by_cases g:j=i
  ·subst g;exact R.wpOp hi hV ⟨hC.set j,l _ _ _ _ H⟩
  ·have:=ready_mono t g;rw[H.1]at this;cases this
 |succ f X=>
  intro d a w LA r T R hV hC H;refine⟨λh=>(by rw[h]at r;cases r),λj t=>?_⟩;by_cases g:j=i
  ·subst g;exact R.wpOp hi hV ⟨hC.set j,l _ _ _ _ H⟩
  ·have U:=H.2 j (ready_mono t g);obtain⟨L,n,s,mb⟩:=mem_ready.1 t;have N:d.getD i J=J:=by
    have h0:=(mem_ready.1 r).1;rcases dH i d.size with y|y
    ·simp[y]at h0 ⊢;exact h0
    ·simp[vU y]at h0
   have D:=WT hD N T t;have ajX:∀e∈n.after,Region.binds md e=I->e.on≠i:=λe he hb heq=>by
    have U:=mb e he hb;rw[heq,N]at U;cases U
   have h2:=wpOp_putIf (S:=V) s (LA j n s g L ajX) (λG b=>K i q G b hi) (λG b=>K j n G b s) hQ R U;have acy:∀k ok,ops[k]?=Z ok->k≠i->(d.setIfInBounds j I).getD k I=J->
     (∀e∈ok.after,Region.binds md e=I->e.on≠i)->q.apart ops ok=I:=λk ok hk hki B mE=>by
    refine LA k ok hk hki ?_ mE;by_cases C:j=k
    ·subst C;exact L
    ·rw[getD_set_ne I C]at B;exact B
   refine wpOp_mono (λa' A h3=>?_) h2;obtain⟨h3,h4,h5⟩:=h3;have Zo:Cons x (d.setIfInBounds j I) A:=by
    rw[Array.setIfInBounds_comm _ _ (mR g)]at h4;exact Cons.ai0 (i:=i) (λp Y=>h4 p (by simp[Y])) hCi
   have hnj:noD W (d.setIfInBounds j I):=zt T D;have hV':V A:=h4 (F,V) (by simp) (zt (zt (λm hm=>T m (Lv m hm)) hid) (λhm=>D (Lv j hm)));refine⟨Zo,X (d.setIfInBounds j I) a' A acy (ready_mono r (mR g)) hnj h3 hV' Zo ?_⟩;rw[Array.setIfInBounds_comm _ _ g];exact h5
end
section
variable {P:Program} {N:Nat} {Kn:Fm->World->Prop} {Ke:Nat->Fm->World->Prop} {Kr:Fm->World->Prop} {f:Fm} {w:World} {ops:Array Oper}
structure Ent where
 i:Nat
 q:Bool
 al:List Nat
 dn:List Nat
inductive ET where
 |nil
 |op (e:Ent) (t:ET)
 |alt (e:Ent) (t r:ET)
def ET.len:ET->Nat
 | .nil=>0
 | .op _ t=>t.len+1
 | .alt _ t _=>t.len+1
def ET.FZ(p:Ent->Bool):ET->Bool
 | .nil=>I
 | .op e t=>p e && t.FZ p
 | .alt e t r=>p e && t.FZ p && r.FZ p
def ET.Lw:ET->M Nat
 | .nil=>[]
 | .op e _=>[e.i]
 | .alt e _ r=>e.i::r.Lw
def Ip(ops:Array Oper):Bool->ET->Array Bool->Bool
 |top,.nil,listed=>top && (Region.ready .any ops listed).isEmpty
 |top,.op e s,listed=>(if e.q then top && (Region.ready .any ops listed).contains e.i && Region.free .any ops listed e.i && okD .any ops e.i e.al && e.al.all (λm=>!listed.getD m J) && e.dn.all e.al.contains && !e.dn.contains e.i && s.FZ (λa=>!a.q ||!e.dn.contains a.i) else !top ||Region.ready .any ops listed ==[e.i]) && Ip ops I s (listed.setIfInBounds e.i I)
 |top,.alt e s r,listed=>(!top ||Region.ready .any ops listed ==e.i::r.Lw) && !e.q && s.len+1 ==r.len && Ip ops I s (listed.setIfInBounds e.i I) && Ip ops J r listed
def Dv(P:Program)(N:Nat)(ops:Array Oper)(Kn:Fm->World->Prop):M (M Nat×(World->Prop))->ET->Array Bool->Fm->World->Prop
 |_,.nil,_,f,w=>Kn f w
 |b,.op e s,l,f,w=>if e.q then
   ∃o v a V,ops[e.i]?=Z o/\YieldsIf P ops V o v (fr f N)/\(fr f N).put o.dst v=fr a N/\V w/\Dv P N ops Kn ((e.dn,V)::b) s (l.setIfInBounds e.i I) a w
  else wpOp P ops (Td N Kn (λ_ _ _=>False) (λ_ _=>False)) e.i (λd c=>Cons b (l.setIfInBounds e.i I) c/\∃a,d=fr a N/\Dv P N ops Kn b s (l.setIfInBounds e.i I) a c) (fr f N) w
 |b,.alt e s r,l,f,w=>wpOp P ops (Td N Kn (λ_ _ _=>False) (λ_ _=>False)) e.i (λd c=>Cons b (l.setIfInBounds e.i I) c/\∃a,d=fr a N/\Dv P N ops Kn b s (l.setIfInBounds e.i I) a c) (fr f N) w/\Dv P N ops Kn b r l f w
theorem yJ(G:Region.noSelect ops=I):∀(s:ET) (d:M (M Nat×(World->Prop))) (listed:Array Bool) (f:Fm) (w:World) (k:Bool),Ip ops k s listed=I->(∀p∈d,s.FZ (λe=>!e.q ||!p.1.contains e.i)=I)->Cons d listed w->Dv P N ops Kn d s listed f w->
  (k=I->rV P .any ops (Td N Kn (λ_ _ _=>False) (λ_ _=>False)) d s.len listed (fr f N) w)/\
  (k=J->∀j∈s.Lw,∃n,s.len=n+1/\wpOp P ops (Td N Kn (λ_ _ _=>False) (λ_ _=>False)) j (λD t=>Cons d (listed.setIfInBounds j I) t/\rV P .any ops (Td N Kn (λ_ _ _=>False) (λ_ _=>False)) d n (listed.setIfInBounds j I) D t) (fr f N) w)
 | .nil,d,listed,f,w,k,A,_,_,h=>by
  simp only[Ip,ai]at A;refine⟨λ_=>?_,λB=>(by rw[B]at A;cases A.1)⟩;have U:Region.ready .any ops listed=[]:=by simpa using A.2
  exact⟨U,f,rfl,h⟩
 | .op e s,d,listed,f,w,k,A,H,S,h=>by
  simp only[Ip,ai]at A;obtain⟨y,T⟩:=A;have l:∀p∈d,(!e.q ||!p.1.contains e.i)=I/\s.FZ (λe=>!e.q ||!p.1.contains e.i)=I:=λp x=>by
   have:=H p x
   simpa only [ET.FZ,ai] using this
  simp only[Dv]at h;cases heq:e.q with
  |true=>
   rw[heq]at h y;simp only[if_true,ai,ck]at h y;obtain⟨⟨⟨⟨⟨⟨⟨B,U⟩,k1⟩,k2⟩,k3⟩,k4⟩,k5⟩,k6⟩:=y;refine⟨λ_=>?_,λF=>(by rw[B]at F;cases F)⟩;obtain⟨o,v,L,V,ho,hy,x,hV,hd⟩:=h;have Lv:∀m∈e.dn,m∈e.al:=λm W=>by simpa using bz.1 k4 m W
   have ajU:noD e.al listed:=λm W=>by simpa using bz.1 k3 m W
   refine aiX ho (Region.noSelect_spec G) (λc a w H=>H.elim) k2 Lv (by simpa using k5) (λp C=>by have:=(l p C).1;simpa [heq] using this) s.len listed (fr f N) w (Region.free_spec ho k1) (by simpa using U) ajU hy hV S ?_;rw[x];refine (yJ G s _ _ L w I T (λp C=>?_) (λp C hn=>?_) hd).1 rfl
   ·rcases aI.1 C with rfl|C
    ·exact k6
    ·exact (l p C).2
   ·rcases aI.1 C with rfl|C
    ·exact hV
    ·exact (S.set e.i) p C hn
  |false=>
   rw[heq]at h y;simp only[aD,if_false,df,ck,beq_iff_eq]at h y;have step:wpOp P ops (Td N Kn (λ_ _ _=>False) (λ_ _=>False)) e.i (λD t=>Cons d (listed.setIfInBounds e.i I) t/\rV P .any ops (Td N Kn (λ_ _ _=>False) (λ_ _=>False)) d s.len (listed.setIfInBounds e.i I) D t) (fr f N) w:=by
    refine wpOp_mono ?_ h
    rintro D t ⟨R,L,rfl,hd⟩
    exact⟨R,(yJ G s d _ L t I T (λp x=>(l p x).2) R hd).1 rfl⟩
   refine⟨λB=>⟨λK=>?_,λj g=>?_⟩,λ_ j g=>?_⟩
   ·rcases y with b|b
    ·rw[B]at b;cases b
    ·rw[b]at K;cases K
   ·rcases y with b|b
    ·rw[B]at b;cases b
    ·rw[b]at g;simp only[db]at g;subst g;exact step
   ·simp only[ET.Lw,db]at g;subst g;exact⟨s.len,rfl,step⟩
 | .alt e s r,d,listed,f,w,k,A,H,S,h=>by
  simp only[Ip,ai,df,ck,beq_iff_eq]at A;obtain⟨⟨⟨⟨y,T⟩,F_⟩,Y⟩,X⟩:=A;have l:∀p∈d,s.FZ (λe=>!e.q ||!p.1.contains e.i)=I/\r.FZ (λe=>!e.q ||!p.1.contains e.i)=I:=λp x=>by
   have:=H p x;simp only[ET.FZ,ai]at this;exact⟨this.1.2,this.2⟩
  simp only[Dv]at h;have Q:∀j∈e.i::r.Lw,wpOp P ops (Td N Kn (λ_ _ _=>False) (λ_ _=>False)) j (λD t=>Cons d (listed.setIfInBounds j I) t/\rV P .any ops (Td N Kn (λ_ _ _=>False) (λ_ _=>False)) d s.len (listed.setIfInBounds j I) D t) (fr f N) w:=by
   intro j g;rcases aI.1 g with rfl|g
   ·refine wpOp_mono ?_ h.1
    rintro D t ⟨R,L,rfl,hd⟩
    exact⟨R,(yJ G s d _ L t I Y (λp x=>(l p x).1) R hd).1 rfl⟩
   ·obtain⟨n,hn,hw⟩:=(yJ G r d listed f w J X (λp x=>(l p x).2) S h.2).2 rfl j g;have:n=s.len:=by omega
    subst this;exact hw
  refine⟨λB=>⟨λK=>?_,λj g=>?_⟩,λ_ j g=>⟨s.len,rfl,Q j g⟩⟩
  ·rcases y with b|b
   ·rw[B]at b;cases b
   ·rw[b]at K;cases K
  ·rcases y with b|b
   ·rw[B]at b;cases b
   ·rw[b]at g;exact Q j g
theorem abk{id:Nat}{l:M Oper}(s:ET)(k:P.follows .mixedOrders=I)(i:Region.noSelect l.toArray=I)(j:s.len=l.toArray.size)
  (m:Ip l.toArray I s (qA l.toArray.size J)=I) (h:Dv P N l.toArray Kn [] s (qA l.toArray.size J) f w.drew):W P N (.region id l.toArray I) Kn Ke Kr f w:=by
 have g:=(yJ i s [] _ f w.drew I m (λp d=>by simp at d) (λp d=>by simp at d) h).1 rfl;rw[j]at g;unfold W;refine wp_mono (wp_region_any k (FH _ _ _ _ g)) ?_;intro e a w b;cases e with
 |normal=>exact b
 |exit id=>obtain⟨_,_,h⟩:=b;exact h.elim
 |ret=>obtain⟨_,_,h⟩:=b;exact h.elim
 |goto l=>exact b.elim
 |panic c=>exact b.elim
 |outgrown=>exact b.elim
variable {Cl:M (M Nat×(World->Prop))} {s:ET} {e:Ent} {lst:Array Bool} {o:Oper}
theorem ai2(h:Kn f w):Dv P N ops Kn Cl .nil lst f w:=h
theorem alS(d:e.q=J)(g:ops[e.i]?=Z o)(j:qN N ops f o.guard)(h:ui P N o f w (λb a=>Cons Cl (lst.setIfInBounds e.i I) a/\Dv P N ops Kn Cl s (lst.setIfInBounds e.i I) b a)):Dv P N ops Kn Cl (.op e s) lst f w:=by
 simp only[Dv,d,aD,if_false,wpOp,g];rw[if_pos (show Region.wanted o _=I from j)];exact .inl (h.aeB λb a c=>⟨c.1,b,rfl,c.2⟩)
theorem ai1{t:ET}(d:ops[e.i]?=Z o)(g:qN N ops f o.guard)(h:ui P N o f w (λb a=>Cons Cl (lst.setIfInBounds e.i I) a/\Dv P N ops Kn Cl s (lst.setIfInBounds e.i I) b a))(j:Dv P N ops Kn Cl t lst f w):Dv P N ops Kn Cl (.alt e s t) lst f w:=by
 refine⟨?_,j⟩;simp only[wpOp,d];rw[if_pos (show Region.wanted o _=I from g)];exact .inl (h.aeB λb a c=>⟨c.1,b,rfl,c.2⟩)
theorem v_q(b:e.q=I)(c:ops[e.i]?=Z o){d:Nat}(hd:o.dst=Z d)(g:qN N ops f o.guard){v:Value}(V:World->Prop)(a:∀w,V w->(execOp (fr f N).eval o).run P w=.ok (.value v) w)(j:V w)
  (h:Dv P N ops Kn ((e.dn,V)::Cl) s (lst.setIfInBounds e.i I) (B3 f d v) w):Dv P N ops Kn Cl (.op e s) lst f w:=by
 simp only[Dv,b,if_true];refine⟨_,v,_,V,c,.inl ⟨g,a⟩,?_,j,h⟩;rw[hd];exact th f N d v
variable {d:Nat} {op:Op} {ty:TypeId} {pos:String} {aft:Array Edge} {gd:u (Nat×Bool)}
theorem aeF(a:e.q=I)(b:ops[e.i]?=Z ⟨Z d,op,ty,pos,aft,gd⟩)(c:jz N ops f gd)
  (h:Dv P N ops Kn ((e.dn,λ_=>True)::Cl) s (lst.setIfInBounds e.i I) (B3 f d undef) w):Dv P N ops Kn Cl (.op e s) lst f w:=by
 simp only[Dv,a,if_true];exact⟨_,undef,_,λ_=>True,b,.inr ⟨c,rfl⟩,th f N d _,trivial,h⟩
theorem abi(a:e.q=J)(b:ops[e.i]?=Z ⟨Z d,op,ty,pos,aft,gd⟩)(c:jz N ops f gd)(g:Cons Cl (lst.setIfInBounds e.i I) w)
  (h:Dv P N ops Kn Cl s (lst.setIfInBounds e.i I) (B3 f d undef) w):Dv P N ops Kn Cl (.op e s) lst f w:=by
 simp only[Dv,a,aD,if_false,wpOp,b];rw[if_neg (c.to _ _ _ _ _)];exact⟨g,_,th f N d _,h⟩
theorem aeE{t:ET}(a:ops[e.i]?=Z ⟨Z d,op,ty,pos,aft,gd⟩)(b:jz N ops f gd)(c:Cons Cl (lst.setIfInBounds e.i I) w)
  (h:Dv P N ops Kn Cl s (lst.setIfInBounds e.i I) (B3 f d undef) w) (g:Dv P N ops Kn Cl t lst f w):Dv P N ops Kn Cl (.alt e s t) lst f w:=by
 refine⟨?_,g⟩;simp only[wpOp,a];rw[if_neg (b.to _ _ _ _ _)];exact⟨c,_,th f N d _,h⟩
end
end
section
open Go.RowKit
section
variable (P:Program) (N:Nat) (num:Nat->FuncId)
def PG(T:TypeId):u (TypeId×TypeInfo×Value):=
 match P.underlying T with
 |some (.slice b)=>match P.info? b with
  |some i=>match i.zero with
   |some a=>Z (b,i,a)
   |none=>O
  |none=>O
 |_=>O
def kQ(F:FuncId):Bool:=
 match P.funcs[F]? with
 |some a=>a.body.isSome && !(a.name == "runtime.NumGoroutine")
 |none=>J
def WU:Op->u Tmp->KO->Bool
 | .alloc T,Z _,.alloc j=>(match uh P T with
   |some d=>JJ d j
   |none=>J)
 | .box _ x,Z _,.box y=>ki N x y
 | .buildSlice T n l,Z _,.uf k _ ys=>(match P.underlying T with
   |some (.slice f)=>oR P f ==Z k && (n ==0 ||(uh P f).isSome) && EO N 0 l.toList ys && n ==l.size && nP (n * k) 16777216
   |_=>J)
 | .makeSlice T a b,Z _,.make k h q j y=>ki N a y && ki N b y && (match PG P T with
   |some (_,i,d)=>i.size ==k && i.bytes ==h && gh 0 k && ER d.cells.toList j && j.length ==k && (!q ||dW j)
   |none=>J)
 | .store T x v,O,.st n a b=>oR P T ==Z n && ki N x a && ki N v b
 | .call c,Z _,.app k h _ a b=>(match c.callee,c.args.toList,c.argTypes.toList with
   | .builtin .append,[x,y],[T,r]=>T ==r && ki N x a && ki N y b && (match PG P T with
    |some (_,i,d)=>i.size ==k && i.bytes ==h && d.cells.size ==k && gh 0 k
    |none=>J)
   |_,_,_=>J)
 | .call c,_,.call g xs=>(match c.callee with
   | .value (.func F)=>F ==num g && kQ P F && Cg N c.args.toList xs
   |_=>J)
 | .call c,Z _,.YD g y y2=>(match c.callee,c.args.toList with
   | .value (.func F),[x,m]=>F ==num g && kQ P F && ki N x y && ki N m y2
   |_,_=>J)
 | .assign x,Z _,.QJ y=>ki N x y
 | .move x,Z _,.QJ y=>ki N x y
 | .call c,Z _,.jn a b=>(match c.callee,c.args.toList with
   | .value (.func F),[x,y]=>F ==num 9004 && !(num 9004 ==1000000) && kQ P F && ki N x a && ki N y b
   |_,_=>J)
 | .call c,Z _,.xt ins a b d=>(match c.callee,c.args.toList with
   | .value (.func F),[x,y,e]=>F ==num (if ins=I then 9006 else 9005) && !(num (if ins=I then 9006 else 9005) ==1000000) && kQ P F && ki N x a && ki N y b && ki N e d
   |_,_=>J)
 | .call c,Z _,.GV k a b=>(match c.callee,c.args.toList,c.argTypes.toList with
   | .builtin .copy,[x,y],[T,_]=>ki N x a && ki N y b && (match P.underlying T with
    |some (.slice f)=>oR P f ==Z k
    |_=>J)
   |_,_,_=>J)
 | .slice T x o p O,Z _,.cut k y b c=>(match P.underlying T with
   |some (.slice f)=>oR P f ==Z k && ki N x y && EN N o b && EN N p c
   |_=>J)
 |_,_,_=>J
def Mn(a:Array Oper):u (Nat×Bool)->u (Nat×Bool)->Bool
 |none,O=>I
 |some (j,want),Z (g,b)=>want ==b && (match a[j]? with
   |some o=>o.dst ==Z g && gh g N
   |none=>J)
 |_,_=>J
def okI(a:Array Oper)(o:Oper)(i:KI):Bool:=
 o.dst ==i.dst && (match i.dst with
  |some d=>gh d N && gh d 900
  |none=>I) && Mn N a o.guard i.gd && (if i.op.kT then i.dst.isSome && tK P N o.op i.op else WU P N num o.op i.dst i.op)
def Ce(a:Array Oper):M Oper->M KI->Bool
 |[],[]=>I
 |o::os,i::is=>okI P N num a o i && Ce a os is
 |_,_=>J
def KD.zX(x:KD):Ent:=⟨x.j,x.q,x.al,x.dn⟩
def KT.zX:KT->ET
 | .nil=>.nil
 | .op x t=>.op x.zX t.zX
 | .alt x t r=>.alt x.zX t.zX r.zX
def Oq(a:Array Oper):KT->Bool
 | .nil=>I
 | .op ⟨j,q,_,_,i⟩ is=>(match a[j]? with
   |some o=>okI P N num a o i && (!q ||i.op.kT) && (i.gd.isNone ||i.dst.isSome)
   |none=>J) && Oq a is
 | .alt ⟨j,q,_,_,i⟩ is r=>(match a[j]? with
   |some o=>okI P N num a o i && !q && (i.gd.isNone ||i.dst.isSome)
   |none=>J) && Oq a is && Oq a r
def pd:K->Code->Bool
 | .skip,.skip=>I
 | .Q5 is _,.region _ ops J=>Ce P N num ops ops.toList is
 | .TK is _,.region _ ops I=>Oq P N num ops is && Region.noSelect ops && is.zX.len ==ops.size && Ip ops I is.zX (qA ops.size J)
 | .seq a b,.seq c d=>pd a c && pd b d
 | .cond x a b,.cond y c d=>ki N y x && pd a c && pd b d
 | .block i a,.block j c=>i ==j && pd a c
 | .loop a,.loop c=>pd a c
 | .exit i,.exit j=>i ==j
 | .ret,.ret=>I
 | .share _ a,c=>pd a c
 | .Kk _ a,c=>pd a c
 |_,_=>J
end
theorem K9{P:Program}{T:TypeId}{b:TypeId}{i:TypeInfo}{a:Value}(h:PG P T=Z (b,i,a)):P.underlying T=Z (.slice b)/\P.info? b=Z i/\i.zero=Z a:=by
 unfold PG at h
 split at h
 ·rename_i j d
  split at h
  ·rename_i g e
   split at h
   ·rename_i f c;simp only[aa,aC]at h;obtain⟨rfl,rfl,rfl⟩:=h;exact⟨d,e,c⟩
   ·cases h
  ·cases h
 ·cases h
section
variable {P:Program} {γ:Gh} {h0:Nat->Nat} {io:M Nat} {w0:World} {s s':St} {f:Fm} {w:World} {N:Nat} {num:Nat->FuncId} {K':Fm->World->Prop}
 {cf:Nat->M A->u (M A×M A)} {mf:Nat->Bool->M D->Int->u (M D×Int)}
theorem vD(mV:Cts w0 io P num cf)(nF:∀g ag ds q iL q',mf g ag ds q=Z (iL,q')->ru w0 io P (num g) ag ds q iL q')(v:Inv γ h0 io w0 s f w){op:Op}{C:u Tmp}{Y:KO}{ty:TypeId}{X:String}{aft:Array Edge}{gd:u (Nat×Bool)}(m:WU P N num op C Y=I)(B:lQ cf mf s C Y=Z s')
  (h:∀Q f' W,Inv Q h0 io w0 s' f' W->Tr C (eW s C Y) γ w Q W f f'->K' f' W):ui P N ⟨C,op,ty,X,aft,gd⟩ f w K':=by
 unfold WU at m
 split at m
 ·split at m
  ·rename_i e R;exact aaj v R m B (by simpa only [eW,pf] using h)
  ·cases m
 ·exact ag1 v m B (by simpa only [eW,pf] using h)
 ·split at m
  ·rename_i l G;simp only[ai,df,beq_iff_eq]at m;obtain⟨⟨⟨⟨n,p⟩,o⟩,S⟩,h5⟩:=m;exact aak v G n p o S h5 B (by simpa only [eW,pf,List.singleton_append] using h)
  ·cases m
 ·simp only[ai]at m;obtain⟨⟨n,p⟩,o⟩:=m
  split at o
  ·rename_i l i e AA;obtain⟨G,hI,R⟩:=K9 AA;simp only[ai,beq_iff_eq,nR,df,ck]at o;obtain⟨⟨⟨⟨⟨k1,k2⟩,k3⟩,k4⟩,k5⟩,k6⟩:=o;exact adb v G hI R k1 k2 k3 k4 k5 (λhf=>by rcases k6 with h|h<;>simp_all) n p B (by simpa only [eW,pf] using h)
  ·cases o
 ·simp only[ai,beq_iff_eq]at m;obtain⟨⟨n,p⟩,o⟩:=m;exact akl v n p o B h
 ·rename_i c d k by_ fl a b
  split at m
  ·rename_i x y T T' r t V;simp only[ai,beq_iff_eq]at m;obtain⟨⟨⟨rfl,n⟩,p⟩,o⟩:=m;obtain⟨U,args,K⟩:=c;simp only at r t V
   subst r;have H:args=#[x,y]:=by rw[<- t]
   have et:K=#[T,T]:=by rw[<- V]
   subst H et
   split at o
   ·rename_i l i e AA;obtain⟨G,hI,R⟩:=K9 AA;simp only[ai,beq_iff_eq,nR]at o;obtain⟨⟨⟨k1,k2⟩,k3⟩,k4⟩:=o;exact ag0 v G hI R k1 k2 k3 k4 n p B h
   ·cases o
  ·cases m
 ·rename_i c g xs
  split at m
  ·rename_i F r;simp only[ai,beq_iff_eq]at m;obtain⟨⟨rfl,n⟩,p⟩:=m;obtain⟨U,args,K⟩:=c;simp only at r
   subst r;unfold kQ at n
   split at n
   ·rename_i fn L;simp only[ai,ck]at n;exact ada v L n.1 n.2 p (mV.1 g) B h
   ·cases n
  ·cases m
 ·rename_i c d g y y2
  split at m
  ·rename_i F x x2 r t;simp only[ai,beq_iff_eq]at m;obtain⟨⟨⟨rfl,n⟩,p⟩,o⟩:=m;obtain⟨U,args,K⟩:=c;simp only at r t
   subst r;have H:args=#[x,x2]:=by rw[<- t]
   subst H;unfold kQ at n
   split at n
   ·rename_i fn L;simp only[ai,ck]at n;exact ade v L n.1 n.2 p o (nF g) B h
   ·cases n
  ·cases m
 ·exact abM v (.inl rfl) m B h
 ·exact abM v (.inr rfl) m B h
 ·rename_i c d a b
  split at m
  ·rename_i F x y r t;simp only[ai,beq_iff_eq,ck,beq_eq_false_iff_ne]at m;obtain⟨⟨⟨⟨rfl,hn⟩,n⟩,p⟩,o⟩:=m;obtain⟨U,args,K⟩:=c;simp only at r t
   subst r;have H:args=#[x,y]:=by rw[<- t]
   subst H;unfold kQ at n
   split at n
   ·rename_i fn L;simp only[ai,ck]at n;exact akk v L n.1 n.2 (mV.2.1 hn) p o B h
   ·cases n
  ·cases m
 ·rename_i c d ins a b e
  split at m
  ·rename_i F x y j r t;simp only[ai,beq_iff_eq,ck,beq_eq_false_iff_ne]at m;obtain⟨⟨⟨⟨⟨rfl,hn⟩,n⟩,p⟩,o⟩,S⟩:=m;obtain⟨U,args,K⟩:=c;simp only at r t
   subst r;have H:args=#[x,y,j]:=by rw[<- t]
   subst H;unfold kQ at n
   split at n
   ·rename_i fn L;simp only[ai,ck]at n;exact ag4 v L n.1 n.2 (mV.2.2 ins hn) p o S B h
   ·cases n
  ·cases m
 ·rename_i c d k a b
  split at m
  ·rename_i x y T T' r t V;simp only[ai]at m;obtain⟨⟨n,p⟩,o⟩:=m;obtain⟨U,args,K⟩:=c;simp only at r t V
   subst r;have H:args=#[x,y]:=by rw[<- t]
   have et:K=#[T,T']:=by rw[<- V]
   subst H et
   split at o
   ·rename_i l G;simp only[beq_iff_eq]at o;exact ag2 v G o n p B h
   ·cases o
  ·cases m
 ·split at m
  ·rename_i l G;simp only[ai,beq_iff_eq]at m;obtain⟨⟨⟨n,p⟩,o⟩,S⟩:=m;exact ag3 v G n p o S B h
  ·cases m
 ·cases m
theorem qW{a:Array Oper}(p:Inv γ h0 io w0 s f w){j g:Nat}{want:Bool}(c:Mn N a (Z (j,want)) (Z (g,want))=I):(∀b,s.get g=.d (.bool b)->b=want->qN N a f (Z (j,want)))/\(∀b,s.get g=.d (.bool b)->b≠want->jz N a f (Z (j,want)))/\(s.get g=.uv->jz N a f (Z (j,want))):=by
 simp only[Mn,ai]at c;obtain⟨_,c⟩:=c
 split at c
 ·rename_i o n;simp only[ai,beq_iff_eq]at c;have i:(a[j]?).bind (·.dst)=Z g:=by rw[n];exact c.1
  have e:=p.get g;refine⟨λb k l=>?_,λb k l=>?_,λm=>?_⟩
  ·rw[k]at e;have h:=qR e;subst l;exact wy h i c.2
  ·rw[k]at e;have h:=qR e;have:b=!want:=by cases b<;>cases want<;>simp_all
   rw[this]at h;exact wx h i c.2
  ·rw[m]at e;simp only[CR]at e;exact wu e i c.2
 ·cases c
def yt(a:Nat->Nat)(h0:Nat->Nat)(io:M Nat)(w0:World)(s:St)(f:Fm)(w:World):Prop:=∃γ,Inv γ h0 io w0 s f w/\∀b,900<=b->γ.β b=a b
variable {β0:Nat->Nat}
theorem yt.dL(h:yt β0 h0 io w0 s f w)(b:mo):yt β0 h0 io w0 (s.dL b) f w:=by
 obtain⟨γ,e,g⟩:=h;exact⟨γ,e.sub (λd c a=>mh _ _ d c a) (λd c a=>mh _ _ d c a) (λd c a=>mh _ _ d c a),g⟩
theorem As{d:u Nat}{o:KO}(a:B8 cf mf s d o=Z s'):(o.kT=I/\∃c,jj s o=Z c/\s'=s.put d c)\/(o.kT=J/\lQ cf mf s d o=Z s'):=by
 unfold B8 at a
 split at a
 ·rename_i b;simp only[aj]at a;obtain⟨c,g,e⟩:=a;exact .inl ⟨b,c,g,e.symm⟩
 ·rename_i b;exact .inr ⟨by simpa using b,a⟩
theorem sK(r:Cts w0 io P num cf)(p:∀g Y X q W V,mf g Y X q=Z (W,V)->ru w0 io P (num g) Y X q W V){a:Array Oper}{Kn:Fm->World->Prop}:∀(os:M Oper) (m:M KI) {s s':St} {f:Fm} {w:World},Ce P N num a os m=I->nB cf mf m s=Z s'->yt β0 h0 io w0 s f w->(∀R K,yt β0 h0 io w0 s' R K->Kn R K)->Ls P N a Kn os f w
 |[],[],s,s',f,w,_,k,l,n=>by
  simp only[nB,aa]at k;subst k;exact j_ (n f w l)
 |[],_::_,_,_,_,_,h,_,_,_=>by simp[Ce]at h
 |_::_,[],_,_,_,_,h,_,_,_=>by simp[Ce]at h
 |⟨dst,op,ty,pos,aft,gd⟩::os,⟨d,pR,LP⟩::m,s,s',f,w,h,k,⟨γ,l,G⟩,n=>by
  simp only[Ce,ai,okI,beq_iff_eq]at h;obtain⟨⟨⟨⟨rfl,hd⟩,B⟩,t⟩,C⟩:=h;simp only[nB]at k
  split at k
  ·rename_i U i;have go:qN N a f gd->B8 cf mf s dst pR=Z U->Ls P N a Kn (⟨dst,op,ty,pos,aft,gd⟩::os) f w:=by
    intro F i;refine gq F ?_;rcases As i with ⟨Q,c,hc,rfl⟩|⟨Q,hn⟩
    ·simp only[Q,if_true,ai]at t;obtain⟨d,rfl⟩:=cy.1 t.1;obtain⟨v,k1,k2⟩:=oq (dst:=Z d) (ty:=ty) (pos:=pos) (aft:=aft) (gd:=gd) l t.2 hc;exact eu (k2 w (λ_=>qM.refl _ _ _)) (sK r p os m C k ⟨γ,l.put d c v k1,G⟩ n)
    ·simp only[Q,aD,if_false]at t;refine vD r p l t hn λH R K i' tr=>sK r p os m C k ⟨H,i',λb lK=>?_⟩ n;rw[tr.β b (λe=>by
      rw[e]at hd;simp at hd;omega)]
     exact G b lK
   have skip:jz N a f gd->U=s.put dst .uv->Ls P N a Kn (⟨dst,op,ty,pos,aft,gd⟩::os) f w:=by
    intro F e;subst e;cases dst with
    |none=>exact aaf F (sK r p os m C k ⟨γ,l,G⟩ n)
    |some d=>exact A4 F (sK r p os m C k ⟨γ,l.put d .uv undef (by simp only[CR]),G⟩ n)
   simp only[ux]at i;cases LP with
   |none=>
    cases gd with
    |none=>exact go wn i
    |some x=>simp[Mn]at B
   |some x=>
    obtain⟨g,o⟩:=x;cases gd with
    |none=>simp[Mn]at B
    |some y=>
     obtain⟨j,zU⟩:=y;have L:zU=o:=by simp[Mn]at B;exact B.1
     subst L;obtain⟨g1,g2,g3⟩:=qW l B;simp only at i
     split at i
     ·rename_i b T
      split at i
      ·rename_i S;exact go (g1 b T S) i
      ·rename_i S;simp only[aa]at i;exact skip (g2 b T S) i.symm
     ·rename_i Zu;simp only[aa]at i;exact skip (g3 Zu) i.symm
     ·cases i
  ·cases k
theorem Inv.drew(a:Inv γ h0 io w0 s f w):Inv γ h0 io w0 s f w.drew:=
 a.Pq (M:=λ_=>False) ⟨rfl,rfl,rfl,az _,λ_ _ _=>rfl,λ_ _ _=>rfl,λ_ h=>h⟩ (λh=>h) (λ_ h=>h.elim) (λ_ h=>h.elim)
def Sq(a:Gh)(e:u Nat)(d c:World):Prop:=(∀g j,j < a.h g->c.cell? ⟨g,j,O⟩=d.cell? ⟨g,j,O⟩)/\∀b,e=Z b->c.heap[a.β b]?=d.heap[a.β b]?
def St.only(s:St)(a:u Nat):St:=⟨s.sl,iV s.bx a.toList,[]⟩
theorem Vp{d:KO}{c:C}{g:u Nat}(i:d.N_=I)(e:pr s d=Z g)(a:jj s d=Z c):jj (s.only g) d=Z c:=by
 cases d<;>simp[KO.N_]at i
 rotate_left
 ·simp[pr]at e
 rename_i n x;have k:gj (s.only g) x=gj s x:=by cases x<;>rfl
 simp only[pr]at e;simp only[jj,k]at a ⊢
 split at e
 ·rename_i b o j;cases e;rw[j]at a ⊢;simp only at a ⊢
  have:look (s.only (Z b)).bx b=look s.bx b:=by
   simp only[St.only,pf,iV];cases h:look s.bx b<;>simp[look]
  rw[this];exact a
 ·rename_i l j;rw[j]at a ⊢;exact a
 ·cases e
theorem HA{a:u Nat}{b:Nat}{d:M C}(h:look (s.only a).bx b=Z d):a=Z b/\look s.bx b=Z d:=by
 cases a with
 |none=>simp[St.only,iV,look]at h
 |some g=>
  simp only[St.only,pf,iV]at h;cases c:look s.bx g with
  |none=>rw[c]at h;simp[look]at h
  |some i=>
   rw[c]at h;simp only[look]at h
   split at h
   ·rename_i e;subst e;exact⟨rfl,by rw[c];exact h⟩
   ·cases h
def Tk(j:M (M Nat×(World->Prop)))(i:M (M Nat×Nat))(lst:Array Bool)(γ:Gh)(s:St)(w:World):Prop:=
 ∀p∈j,(∃m∈p.1,lst.getD m J=I)\/∃a e c,(∀d,Sq a c e d->p.2 d)/\Sq a c e w/\(∀g,a.h g<=γ.h g)/\∀b,c=Z b->γ.β b=a.β b/\(look s.bx b).isSome=I/\(p.1,b)∈i
theorem Tk.cons{a:M (M Nat×(World->Prop))}{c:M (M Nat×Nat)}{lst:Array Bool}(h:Tk a c lst γ s w):Cons a lst w:=by
 intro p d g;rcases h p d with ⟨m,i,e⟩|⟨b,n,l,k,j,_⟩
 ·rw[g m i]at e;cases e
 ·exact k w j
theorem Tk.quiet{v:M (M Nat×(World->Prop))}{r:M (M Nat×Nat)}{lst:Array Bool}(h:Tk v r lst γ s w)(i:Nat)(t:M Nat)(g:u Nat)(d:u Nat)(c:C)(V:World->Prop)(B:∀q,Sq γ g w q->V q)(y:∀b,g=Z b->(look s.bx b).isSome=I) :
  Tk ((t,V)::v) (oS t r g) (lst.setIfInBounds i I) γ (s.put d c) w:=by
 have o:(s.put d c).bx=s.bx:=by cases d<;>rfl
 intro p l;rw[o];rcases aI.1 l with rfl|l
 ·refine .inr ⟨γ,w,g,B,⟨λ_ _ _=>rfl,λ_ _=>rfl⟩,λ_=>az _,λb a=>⟨rfl,y b a,?_⟩⟩;subst a;simp[oS]
 ·rcases h p l with ⟨m,x,e⟩|⟨j,K,k,H,G,F,n⟩
  ·exact .inl ⟨m,x,getD_set_true e⟩
  ·refine .inr ⟨j,K,k,H,G,F,λb a=>⟨(n b a).1,(n b a).2.1,?_⟩⟩;have:=(n b a).2.2;cases g<;>simp[oS,this]
theorem Tk.Me{H:M (M Nat×(World->Prop))}{n:M (M Nat×Nat)}{lst:Array Bool}(h:Tk H n lst γ s w){j:Nat}(V:j < lst.size)(W:Inv γ h0 io w0 s f w){c:Gh}{v:World}{f':Fm}{x:St}{k:u Nat}{X:M Nat}(l:Tr k X γ w c v f f')
  (t:∀p∈jR j n,(p.2∉X/\(look x.bx p.2).isSome=I)/\¬k=Z p.2):Tk H (jR j n) (lst.setIfInBounds j I) c x v:=by
 intro p S;rcases h p S with ⟨m,U,e⟩|⟨r,YE,y,Y,F,C,q⟩
 ·exact .inl ⟨m,U,getD_set_true e⟩
 ·by_cases d:j∈p.1
  ·refine .inl ⟨j,d,?_⟩;simp[Array.getD,V]
  ·have o:∀b,y=Z b->(p.1,b)∈jR j n:=λb a=>by
    simp only[jR,nn];exact⟨(q b a).2.2,by simpa using d⟩
   refine .inr ⟨r,YE,y,Y,⟨λg B G=>(l.Pq.cell g B (bR G (C g))).trans (F.1 g B G),λb a=>?_⟩,λg=>aH (C g) (l.h g),λb a=>⟨?_,(t _ (o b a)).1.2,o b a⟩⟩
   ·obtain⟨cs,K⟩:=cy.1 (q b a).2.1;obtain⟨T,vs,R,k2,Q⟩:=W.bx b cs K;rw[<- F.2 b a,<- (q b a).1];refine l.Pq.block _ R.lt ?_;rw[Q]
    rintro⟨i,L,e|e⟩
    ·cases e;exact (t _ (o b a)).1.1 L
    ·cases e
   ·rw[l.β b (t _ (o b a)).2];exact (q b a).1
theorem qe(mV:Cts w0 io P num cf)(nF:∀g ag ds q iL q',mf g ag ds q=Z (iL,q')->ru w0 io P (num g) ag ds q iL q'){ops:Array Oper}{Kn:Fm->World->Prop} :
  ∀(t:KT) {kp:mo} {Cl:M (M Nat×(World->Prop))} {lst:Array Bool} {tk:M (M Nat×Nat)} {γ:Gh} {s s':St} {f:Fm} {w:World},Oq P N num ops t=I->fU cf mf kp t tk s=Z s'->lst.size=ops.size->Tk Cl tk lst γ s w->Inv γ h0 io w0 s f w->(∀b,900<=b->γ.β b=β0 b)->
   (∀S U B,s'=S.dL kp->yt β0 h0 io w0 S U B->Kn U B)->Dv P N ops Kn Cl t.zX lst f w
 | .nil,kp,Cl,lst,tk,γ,s,s',f,w,_,i,_,_,m,K,hk=>by
  simp only[fU,aa]at i;exact ai2 (hk s f w i.symm ⟨γ,m,K⟩)
 | .op ⟨j,qt,al,L,⟨d,l,R⟩⟩ t,kp,Cl,lst,tk,γ,s,s',f,w,h,i,nG,ht,m,K,hk=>by
  simp only[Oq,ai]at h;obtain⟨h,po⟩:=h;have R8:(lst.setIfInBounds j I).size=ops.size:=by simpa using nG
  split at h
  ·rename_i o ho;have RX:j < lst.size:=by rw[nG];exact (rY.1 ho).1
   obtain⟨dst,op,ty,pos,aft,gd⟩:=o;simp only[ai,okI,beq_iff_eq,df,ck,se]at h;obtain⟨⟨⟨⟨⟨hdd,hd⟩,F⟩,H⟩,hqp⟩,hgd⟩:=h;subst hdd;cases qt with
   |true=>
    have hpu:l.kT=I:=by simpa using hqp
    simp only[hpu,if_true,ai]at H;obtain⟨d,rfl⟩:=cy.1 H.1;simp only[fU,if_true]at i;have go:∀c qb,jj s l=Z c->pr s l=Z qb->fU cf mf kp t (oS L tk qb) (s.put (Z d) c)=Z s'->qN N ops f gd->Dv P N ops Kn Cl (.op (KD.zX ⟨j,I,al,L,⟨Z d,l,R⟩⟩) t.zX) lst f w:=by
     intro c qb Q V i T;cases hld:l.N_ with
     |true=>
      have hio:Inv γ h0 io w0 (s.only qb) f w:=m.sub (λ_ _ h=>h) (λd c hl=>(HA hl).2) (λd c hl=>by simp[St.only,look]at hl);obtain⟨v,k1,k2⟩:=oq (dst:=Z d) (ty:=ty) (pos:=pos) (aft:=aft) (gd:=gd) hio H.2 (Vp hld V Q);have aga:∀b,qb=Z b->(look s.bx b).isSome=I:=λb K=>by
       subst K;cases l<;>simp[KO.N_]at hld
       rotate_left
       ·simp[pr]at V
       rename_i n x;simp only[pr]at V
       split at V
       ·rename_i b' o hx;cases V;simp only[jj,hx]at Q;cases hl:look s.bx b with
        |none=>rw[hl]at Q;cases Q
        |some cs=>rfl
       ·cases V
       ·cases V
      exact v_q rfl ho rfl T (Sq γ qb w) (λB hs=>k2 B (λ_=>⟨hs.1,λb cs hl=>hs.2 b (HA hl).1,λr x hl=>by simp[St.only,look]at hl⟩)) ⟨λ_ _ _=>rfl,λ_ _=>rfl⟩
       (qe mV nF t po i R8 (ht.quiet j L qb (Z d) c _ (λ_ h=>h) aga) (m.put d c v k1) K hk)
     |false=>
      have eqb:qb=O:=by
       cases l<;>simp[KO.N_]at hld<;>simpa [pr] using V.symm
      subst eqb;obtain⟨v,k1,k2⟩:=oq (dst:=Z d) (ty:=ty) (pos:=pos) (aft:=aft) (gd:=gd) m H.2 Q;exact v_q rfl ho rfl T (λ_=>True) (λB _=>k2 B (λh=>by rw[hld]at h;cases h)) trivial
       (qe mV nF t po i R8 (ht.quiet j L O (Z d) c _ (λ_ _=>trivial) (λb K=>by cases K)) (m.put d c v k1) K hk)
    have skip:fU cf mf kp t tk (s.put (Z d) .uv)=Z s'->jz N ops f gd->Dv P N ops Kn Cl (.op (KD.zX ⟨j,I,al,L,⟨Z d,l,R⟩⟩) t.zX) lst f w:=by
     intro i T;exact aeF rfl ho T (qe mV nF t po i R8 (ht.quiet j L O (Z d) .uv _ (λ_ _=>trivial) (λb K=>by cases K)) (m.put d .uv undef (by simp only[CR])) K hk)
    cases R with
    |none=>
     cases gd with
     |some x=>simp[Mn]at F
     |none=>
      simp only at i
      split at i
      ·rename_i c b Q V;exact go c b Q V i wn
      ·cases i
    |some x=>
     obtain⟨g,C⟩:=x;cases gd with
     |none=>simp[Mn]at F
     |some y=>
      obtain⟨j',zU⟩:=y;have W:zU=C:=by simp[Mn]at F;exact F.1
      subst W;obtain⟨g1,g2,g3⟩:=qW m F;simp only at i
      split at i
      ·rename_i b yp
       split at i
       ·rename_i F9
        split at i
        ·rename_i c b' Q V;exact go c b' Q V i (g1 b yp F9)
        ·cases i
       ·rename_i F9;exact skip i (g2 b yp F9)
      ·rename_i Zu;exact skip i (g3 Zu)
      ·cases i
   |false=>
    simp only[fU,mm,aD,if_false]at i
    split at i
    ·rename_i S k
     split at i
     ·rename_i mb;have N6:∀p∈jR j tk,(p.2∉eW s dst l/\(look S.bx p.2).isSome=I)/\¬dst=Z p.2:=λp Y=>by
       have:=bz.1 mb p Y
       simpa using this
      have next:∀G U B,Inv G h0 io w0 S U B->Tr dst (eW s dst l) γ w G B f U->Cons Cl (lst.setIfInBounds j I) B/\Dv P N ops Kn Cl t.zX (lst.setIfInBounds j I) U B:=by
       intro G U B i' tr;have X:=ht.Me RX m tr N6;refine⟨X.cons,qe mV nF t po i R8 X i' (λb lK=>?_) hk⟩;rw[tr.β b (λe=>by
         rw[e]at hd;simp at hd;omega)]
       exact K b lK
      have go:qN N ops f gd->B8 cf mf s dst l=Z S->Dv P N ops Kn Cl (.op (KD.zX ⟨j,J,al,L,⟨dst,l,R⟩⟩) t.zX) lst f w:=by
       intro T k;refine alS rfl ho T ?_;rcases As k with ⟨Y,c,Q,rfl⟩|⟨Y,hn⟩
       ·simp only[Y,if_true,ai]at H;obtain⟨d,rfl⟩:=cy.1 H.1;obtain⟨v,k1,k2⟩:=oq (dst:=Z d) (ty:=ty) (pos:=pos) (aft:=aft) (gd:=gd) m H.2 Q;exact eu (k2 w (λ_=>qM.refl _ _ _)) (next γ _ w (m.put d c v k1) ⟨uC.refl _ _ _,λ_ _=>rfl,λ_=>az _,.put⟩)
       ·simp only[Y,aD,if_false]at H;exact vD mV nF m H hn next
      have skip:jz N ops f gd->dst.isSome=I->S=s.put dst .uv->Dv P N ops Kn Cl (.op (KD.zX ⟨j,J,al,L,⟨dst,l,R⟩⟩) t.zX) lst f w:=by
       intro T P9 e;subst e;obtain⟨d,rfl⟩:=cy.1 P9;have nx:=next γ _ w (m.put d .uv undef (by simp only[CR])) ⟨uC.refl _ _ _,λ_ _=>rfl,λ_=>az _,.put⟩
       exact abi rfl ho T nx.1 nx.2
      simp only[ux]at k;cases R with
      |none=>
       cases gd with
       |none=>exact go wn k
       |some x=>simp[Mn]at F
      |some x=>
       obtain⟨g,C⟩:=x;have P9:dst.isSome=I:=by rcases hgd with h|h;cases h;exact h
       cases gd with
       |none=>simp[Mn]at F
       |some y=>
        obtain⟨j',zU⟩:=y;have W:zU=C:=by simp[Mn]at F;exact F.1
        subst W;obtain⟨g1,g2,g3⟩:=qW m F;simp only at k
        split at k
        ·rename_i b yp
         split at k
         ·rename_i F9;exact go (g1 b yp F9) k
         ·rename_i F9;simp only[aa]at k;exact skip (g2 b yp F9) P9 k.symm
        ·rename_i Zu;simp only[aa]at k;exact skip (g3 Zu) P9 k.symm
        ·cases k
     ·cases i
    ·cases i
  ·cases h
 | .alt ⟨j,qt,al,L,⟨d,l,R⟩⟩ t r,kp,Cl,lst,tk,γ,s,s',f,w,h,i,nG,ht,m,K,hk=>by
  simp only[Oq,ai]at h;obtain⟨⟨h,po⟩,hr⟩:=h;have R8:(lst.setIfInBounds j I).size=ops.size:=by simpa using nG
  have hee:mm cf mf ⟨j,qt,al,L,⟨d,l,R⟩⟩ tk s (fU cf mf kp t)=Z s'/\fU cf mf kp r tk s=Z s':=by
   simp only[fU,both]at i
   split at i
   ·rename_i a b ha lK
    split at i
    ·rename_i yn;subst yn;cases i;exact⟨ha,lK⟩
    ·cases i
   ·cases i
  obtain⟨i,her⟩:=hee
  split at h
  ·rename_i o ho;have RX:j < lst.size:=by rw[nG];exact (rY.1 ho).1
   obtain⟨dst,op,ty,pos,aft,gd⟩:=o;simp only[ai,okI,beq_iff_eq,ck,se,df]at h;obtain⟨⟨⟨⟨⟨hdd,hd⟩,F⟩,H⟩,hqp⟩,hgd⟩:=h;subst hdd;simp only[mm]at i
   split at i
   ·rename_i S k
    split at i
    ·rename_i mb;have N6:∀p∈jR j tk,(p.2∉eW s dst l/\(look S.bx p.2).isSome=I)/\¬dst=Z p.2:=λp Y=>by
      have:=bz.1 mb p Y
      simpa using this
     have next:∀G U B,Inv G h0 io w0 S U B->Tr dst (eW s dst l) γ w G B f U->Cons Cl (lst.setIfInBounds j I) B/\Dv P N ops Kn Cl t.zX (lst.setIfInBounds j I) U B:=by
      intro G U B i' tr;have X:=ht.Me RX m tr N6;refine⟨X.cons,qe mV nF t po i R8 X i' (λb lK=>?_) hk⟩;rw[tr.β b (λe=>by
        rw[e]at hd;simp at hd;omega)]
      exact K b lK
     have rest:=qe mV nF r hr her nG ht m K hk;have go:qN N ops f gd->B8 cf mf s dst l=Z S->Dv P N ops Kn Cl (.alt (KD.zX ⟨j,qt,al,L,⟨dst,l,R⟩⟩) t.zX r.zX) lst f w:=by
      intro T k;refine ai1 (e:=KD.zX ⟨j,qt,al,L,⟨dst,l,R⟩⟩) ho T ?_ rest;rcases As k with ⟨Y,c,Q,rfl⟩|⟨Y,hn⟩
      ·simp only[Y,if_true,ai]at H;obtain⟨d,rfl⟩:=cy.1 H.1;obtain⟨v,k1,k2⟩:=oq (dst:=Z d) (ty:=ty) (pos:=pos) (aft:=aft) (gd:=gd) m H.2 Q;exact eu (k2 w (λ_=>qM.refl _ _ _)) (next γ _ w (m.put d c v k1) ⟨uC.refl _ _ _,λ_ _=>rfl,λ_=>az _,.put⟩)
      ·simp only[Y,aD,if_false]at H;exact vD mV nF m H hn next
     have skip:jz N ops f gd->dst.isSome=I->S=s.put dst .uv->Dv P N ops Kn Cl (.alt (KD.zX ⟨j,qt,al,L,⟨dst,l,R⟩⟩) t.zX r.zX) lst f w:=by
      intro T P9 e;subst e;obtain⟨d,rfl⟩:=cy.1 P9;have nx:=next γ _ w (m.put d .uv undef (by simp only[CR])) ⟨uC.refl _ _ _,λ_ _=>rfl,λ_=>az _,.put⟩
      exact aeE (e:=KD.zX ⟨j,qt,al,L,⟨Z d,l,R⟩⟩) ho T nx.1 nx.2 rest
     simp only[ux]at k;cases R with
     |none=>
      cases gd with
      |none=>exact go wn k
      |some x=>simp[Mn]at F
     |some x=>
      obtain⟨g,C⟩:=x;have P9:dst.isSome=I:=by rcases hgd with h|h;cases h;exact h
      cases gd with
      |none=>simp[Mn]at F
      |some y=>
       obtain⟨j',zU⟩:=y;have W:zU=C:=by simp[Mn]at F;exact F.1
       subst W;obtain⟨g1,g2,g3⟩:=qW m F;simp only at k
       split at k
       ·rename_i b yp
        split at k
        ·rename_i F9;exact go (g1 b yp F9) k
        ·rename_i F9;simp only[aa]at k;exact skip (g2 b yp F9) P9 k.symm
       ·rename_i Zu;simp only[aa]at k;exact skip (g3 Zu) P9 k.symm
       ·cases k
    ·cases i
   ·cases i
  ·cases h
theorem gP(G:P.follows .mixedOrders=I)(F:Cts w0 io P num cf)(C:∀g ag ds q iL q',mf g ag ds q=Z (iL,q')->ru w0 io P (num g) ag ds q iL q')(n:Nat):∀(k:K) (c:Code) {s:St} {f:Fm} {w:World} {e:Ex} {s':St},pd P N num k c=I->jb cf mf n k s=Z (e,s')->yt β0 h0 io w0 s f w->
  W P N c (λf w=>e=.norm/\yt β0 h0 io w0 s' f w) (λi f w=>e=.exit i/\yt β0 h0 io w0 s' f w) (λf w=>e=.ret/\yt β0 h0 io w0 s' f w) f w
 | .skip,c,s,f,w,e,s',o,h,B=>by
  cases c<;>simp[pd]at o
  simp only[jb,aa,aC]at h;obtain⟨rfl,rfl⟩:=h;exact yf ⟨rfl,B⟩
 | .Q5 is Y,c,s,f,w,e,s',o,h,B=>by
  cases c with
  |region id ops draw=>
   cases draw with
   |true=>simp[pd]at o
   |false=>
    simp only[pd]at o;simp only[jb]at h
    split at h
    ·rename_i Q H;simp only[aa,aC]at h;obtain⟨rfl,rfl⟩:=h;have hl:=sK (Kn:=λf w=>Ex.norm=.norm/\yt β0 h0 io w0 (Q.dL Y) f w) F C ops.toList is o H B (λf' w' T=>⟨rfl,T.dL Y⟩);obtain⟨l⟩:=ops;exact fh (l:=l) hl
    ·cases h
  |_=>simp[pd]at o
 | .TK is Y,c,s,f,w,e,s',o,h,⟨γ,B,R⟩=>by
  cases c with
  |region id ops draw=>
   cases draw with
   |false=>simp[pd]at o
   |true=>
    simp only[pd,ai,beq_iff_eq]at o;obtain⟨⟨⟨H,h2⟩,h3⟩,h4⟩:=o;simp only[jb]at h
    split at h
    ·rename_i Q h5;simp only[aa,aC]at h;obtain⟨rfl,rfl⟩:=h;have hd:=qe (P:=P) (N:=N) (num:=num) (ops:=ops) (β0:=β0) (Kn:=λf w=>Ex.norm=.norm/\yt β0 h0 io w0 Q f w) (Cl:=[]) (lst:=qA ops.size J) (tk:=[]) F C is H h5 (by simp) (λp hp=>by simp at hp) B.drew R (λs2 f' w' e T=>⟨rfl,by rw[e];exact T.dL Y⟩);obtain⟨l⟩:=ops;exact abk (l:=l) is.zX G h2 h3 h4 hd
    ·cases h
  |_=>simp[pd]at o
 | .seq a b,c,s,f,w,e,s',o,h,B=>by
  cases c with
  |seq L cb=>
   simp only[pd,ai]at o;simp only[jb]at h;refine jS ?_
   split at h
   ·rename_i Q H;refine mu (gP G F C n a L o.1 H B) (λf w v=>gP G F C n b cb o.2 h v.2) (λi f w v=>?_) (λf w v=>?_)
    ·cases v.1
    ·cases v.1
   ·rename_i V;refine mu (gP G F C n a L o.1 h B) (λf w v=>?_) (λi f w v=>v) (λf w v=>v);obtain⟨rfl,_⟩:=v;exact absurd h (V s')
  |_=>simp[pd]at o
 | .cond x a b,c,s,f,w,e,s',o,h,B=>by
  cases c with
  |cond y L cb=>
   simp only[pd,ai]at o;obtain⟨⟨H,h2⟩,h3⟩:=o;simp only[jb]at h;obtain⟨γ,T,R⟩:=B;have X:=ct T H
   split at h
   ·rename_i t ht;rw[ht]at X;have X:=qR X;cases t with
    |true=>exact Bm X (gP G F C n a L h2 (by simpa using h) ⟨γ,T,R⟩)
    |false=>exact ye X (gP G F C n b cb h3 (by simpa using h) ⟨γ,T,R⟩)
   ·cases h
  |_=>simp[pd]at o
 | .block i a,c,s,f,w,e,s',o,h,B=>by
  cases c with
  |block j L=>
   simp only[pd,ai,beq_iff_eq]at o;obtain⟨rfl,o⟩:=o;simp only[jb]at h;refine wM ?_
   split at h
   ·rename_i i' Q H;refine mu (gP G F C n a L o H B) (λf w v=>by cases v.1) (λq f w v=>?_) (λf w v=>by cases v.1);obtain⟨e1,v⟩:=v;cases e1
    split at h
    ·rename_i U;simp only[aa,aC]at h;obtain⟨rfl,rfl⟩:=h;rw[if_pos U];exact⟨rfl,v⟩
    ·rename_i U;simp only[aa,aC]at h;obtain⟨rfl,rfl⟩:=h;rw[if_neg U];exact⟨rfl,v⟩
   ·rename_i V;refine mu (gP G F C n a L o h B) (λf w v=>v) (λq f w v=>?_) (λf w v=>v);obtain⟨rfl,_⟩:=v;exact absurd h (V q s')
  |_=>simp[pd]at o
 | .loop a,c,s,f,w,e,s',o,h,B=>by
  cases c with
  |loop L=>
   simp only[pd]at o;simp only[jb]at h;refine Kb (λm f w=>∃s,yt β0 h0 io w0 s f w/\iter (jb cf mf n a) m s=Z (e,s')) n ⟨s,B,h⟩ ?_
   rintro m f w ⟨s,B,h⟩
   cases m with
   |zero=>simp[iter]at h
   |succ m=>
    simp only[iter]at h
    split at h
    ·rename_i Q H;refine mu (gP G F C n a L o H B) (λf w v=>⟨m,by omega,Q,v.2,h⟩) (λi f w v=>by cases v.1) (λf w v=>by cases v.1)
    ·rename_i V;refine mu (gP G F C n a L o h B) (λf w v=>?_) (λi f w v=>v) (λf w v=>v);obtain⟨rfl,_⟩:=v;exact absurd h (V s')
  |_=>simp[pd]at o
 | .exit i,c,s,f,w,e,s',o,h,B=>by
  cases c<;>simp[pd]at o
  subst o;simp only[jb,aa,aC]at h;obtain⟨rfl,rfl⟩:=h;exact Ka ⟨rfl,B⟩
 | .ret,c,s,f,w,e,s',o,h,B=>by
  cases c<;>simp[pd]at o
  simp only[jb,aa,aC]at h;obtain⟨rfl,rfl⟩:=h;exact H_ ⟨rfl,B⟩
 | .share r a,c,s,f,w,e,s',o,h,⟨γ,B,R⟩=>by
  have u7:pd P N num a c=I:=by
   cases c<;>simpa [pd] using o
  simp only[jb]at h;obtain⟨S,i',b',_⟩:=B.Bh [r];exact gP G F C n a c u7 h ⟨S,i',λb lK=>by rw[b'];exact R b lK⟩
 | .Kk d a,c,s,f,w,e,s',o,h,⟨γ,B,R⟩=>by
  have u7:pd P N num a c=I:=by
   cases c<;>simpa [pd] using o
  simp only[jb]at h
  split at h
  ·rename_i Q ZH;obtain⟨S,i',b'⟩:=B.s_ ZH;exact gP G F C n a c u7 h ⟨S,i',λb lK=>by rw[b'];exact R b lK⟩
  ·cases h
end
end
section
open Go.RowKit
def Mp(P:Program)(N:Nat):ResultVar->KR->Bool
 | .tmp t,.t d=>t ==d && gh t N
 | .cell a T,.c d n=>a ==d && gh a N && (if n=0 then KA P T ==Z J else KA P T ==Z I && oR P T ==Z n)
 |_,_=>J
def JI(P:Program)(N:Nat):M ResultVar->M KR->Bool
 |[],[]=>I
 |r::rs,k::a=>Mp P N r k && JI P N rs a
 |_,_=>J
def okF(P:Program)(num:Nat->FuncId)(f:Nat)(b:KF):Bool:=
 match P.funcs[num f]? with
 |some a=>match a.body with
  |some c=>pd P a.ntmps num b.body c && nP b.np a.ntmps && JI P a.ntmps a.results.toList b.res
  |none=>J
 |none=>J
def vL(tmps:Array Value):ResultVar->Sem Value
 | .tmp t=>pure (tmps.getD t undef)
 | .cell a t=>do loadVar t (<- asAddr (tmps.getD a undef))
section
variable {P:Program} {γ:Gh} {h0:Nat->Nat} {io:M Nat} {w0:World} {s s':St} {f:Fm} {w:World} {N:Nat} {num:Nat->FuncId}
theorem Xj(m:Inv γ h0 io w0 s f w){Q:ResultVar}{C:KR}{a:A}{l:M Nat}(p:Mp P N Q C=I)(j:JQ s C=Z (a,l)) :
  ∃i F,(vL (fr f N).tmps Q).run P w=.ok i w/\AR γ.h w a i F/\(∀g∈F,∃r∈l,γ.ω g=.row r)/\(l.Nodup->F.Nodup):=by
 cases Q with
 |tmp t=>
  cases C with
  |c d n=>simp[Mp]at p
  |t d=>
   simp only[Mp,ai,beq_iff_eq]at p;obtain⟨rfl,S⟩:=p;have H:t < N:=by simpa using S
   simp only[JQ,aj,aC]at j;obtain⟨k,V,rfl,rfl⟩:=j;obtain⟨k1,k2,k3⟩:=(m.get t).cells (Rf V);obtain⟨F,y,x,q⟩:=Bp m _ k1 V;refine⟨f t,F,by simp[vL,fr,H],?_,x,q⟩;simp only[AR];refine⟨_,y,λK=>?_,λK=>by rw[k2 K]⟩;obtain⟨us,e⟩:=k3 K;rw[e];simp[Value.cells]
 |cell a0 T=>
  cases C with
  |t d=>simp[Mp]at p
  |c d n=>
   simp only[Mp,ai,beq_iff_eq]at p;obtain⟨⟨rfl,S⟩,B⟩:=p;have H:a0 < N:=by simpa using S
   simp only[JQ]at j
   split at j
   ·rename_i b hb;have D:=m.get a0;rw[hb]at D;simp only[CR]at D
    split at j
    ·rename_i cs hl;obtain⟨T',k,h1,G,h3⟩:=m.bx b cs hl;have X:iH w (γ.β b) 0 k:=h1.Oc
     split at j
     ·rename_i U;subst U;simp only[if_true,beq_iff_eq]at B
      split at j
      ·rename_i c;simp only[aj,aC]at j;obtain⟨rs,L,rfl,rfl⟩:=j;obtain⟨F,y,x,q⟩:=Bp m _ G L;have W:=G.length;obtain⟨v,rfl⟩:=dP.1 W;have Y:=X 0 v rfl;simp only[bu]at Y;refine⟨v,F,?_,?_,x,q⟩
       ·simp[vL,fr,H,D,asAddr,loadVar,pV B,load,Sem.run,Y]
       ·simp only[AR];exact⟨[v],y,λh=>by simp at h,λ_=>rfl⟩
      ·cases j
     ·rename_i U;simp only[if_neg U,ai,beq_iff_eq]at B
      split at j
      ·rename_i rH;simp only[aj,aC]at j;obtain⟨rs,L,rfl,rfl⟩:=j;obtain⟨F,y,x,q⟩:=Bp m _ G L;have W:=G.length;have TM:=run_loadCellsFrom (P:=P) (w:=w) (b:=γ.β b) (o:=0) k 0 #[] (by simpa using X);have R:k.length=n:=by omega
       rw[R]at TM;refine⟨.agg k.toArray,F,?_,?_,x,q⟩
       ·simp[vL,fr,H,D,asAddr,loadVar,pV B.1,run_sizeOf B.2,loadCells,TM]
       ·simp only[AR];exact⟨k,y,λ_=>rfl,λh=>by simp at h⟩
      ·cases j
    ·cases j
   ·cases j
theorem HR(t:Inv γ h0 io w0 s f w):∀(d:M ResultVar) (i:M KR) {as:M A} {l:M Nat},JI P N d i=I->zD s i=Z (as,l)->
  ∃k F,(d.mapM (vL (fr f N).tmps)).run P w=.ok k w/\mT γ.h w as k F/\(∀g∈F,∃r∈l,γ.ω g=.row r)/\(l.Nodup->F.Nodup)
 |[],[],as,l,_,j=>by
  simp only[zD,aa,aC]at j;obtain⟨rfl,rfl⟩:=j;exact⟨[],[],by simp,by simp[mT],λ_ h=>by simp at h,λ_=>by simp⟩
 |[],_::_,_,_,h,_=>by simp[JI]at h
 |_::_,[],_,_,h,_=>by simp[JI]at h
 |U::d,X::i,as,l,h,j=>by
  simp only[JI,ai]at h;simp only[zD]at j
  split at j
  ·rename_i a W T;simp only[aj]at j;obtain⟨⟨Y,V⟩,S,x⟩:=j;simp only[aC]at x;obtain⟨rfl,rfl⟩:=x;obtain⟨c,B,K,G,y1,C⟩:=Xj t h.1 T;obtain⟨k,y,H,D,y2,z2⟩:=HR t d i h.2 S;refine⟨c::k,B++y,by simp[K,H],?_,λg n=>?_,λp=>?_⟩
   ·simp only[mT];exact⟨c,k,B,y,rfl,rfl,G,D⟩
   ·rcases aT.1 n with n|n
    ·obtain⟨r,m,o⟩:=y1 g n;exact⟨r,by simp[m],o⟩
    ·obtain⟨r,m,o⟩:=y2 g n;exact⟨r,by simp[m],o⟩
   ·rw[bH]at p;rw[bH];refine⟨C p.1,z2 p.2.1,?_⟩;intro a R b Q e;subst e;obtain⟨r,m,o⟩:=y1 a R;obtain⟨q,L,v⟩:=y2 a Q;rw[o]at v;cases v;exact p.2.2 r m r L rfl
  ·cases j
theorem A_(y:Inv γ h0 io w0 s f w){w1:World}{h1:Nat->Nat}:∀(as:M A) {n:M Value} {Q:M Nat} (p:Nat) {outs:M A} {l:M Nat},vG s p as=Z (outs,l)->mT h1 w1 as n Q->(∀i K g,as[i]?=Z (.box K)->n[i]?=Z (.pointer (Z ⟨g,0,O⟩))->γ.β (900+(p+i))=g)->
  ∃F,mT γ.h w outs (iA as n) F/\(∀g∈F,(∃r∈l,γ.ω g=.row r)\/∃i,p<=i/\γ.ω g=.box (900+i))/\(l.Nodup->F.Nodup)
 |[],n,Q,p,outs,l,j,k,_=>by
  simp only[vG,aa,aC]at j;obtain⟨rfl,rfl⟩:=j;exact⟨[],by simp[mT,iA],λ_ h=>by simp at h,λ_=>by simp⟩
 | .val ag K::as,n,Q,p,outs,l,j,k,L=>by
  simp only[mT]at k;obtain⟨v,fC,F1,F2,rfl,rfl,_,k⟩:=k;simp only[vG,S_,aj]at j;obtain⟨⟨l',r'⟩,V,C⟩:=j;simp only[av,aC]at C;obtain⟨rfl,rfl⟩:=C;obtain⟨F,S,t,R⟩:=A_ y as (p+1) V k (λi U g c d=>by
   rw[show p+1+i=p+(i+1) from by omega];exact L (i+1) U g (by simpa using c) (by simpa using d))
  refine⟨F,by simpa only [iA] using S,λg m=>?_,R⟩;rcases t g m with h|⟨i,c,d⟩
  ·exact .inl h
  ·exact .inr ⟨i,by omega,d⟩
 | .box K::as,n,Q,p,outs,l,j,k,L=>by
  simp only[mT,AR]at k;obtain⟨v,fC,F1,F2,rfl,rfl,⟨H,T0,us0,F0',rfl,_⟩,k⟩:=k;simp only[vG,S_]at j
  split at j
  ·rename_i l1 r1 G
   split at G
   ·rename_i TH hl;simp only[aj,aC]at G;obtain⟨rs,uo,rfl,rfl⟩:=G;simp only[aj]at j;obtain⟨⟨l',r'⟩,V,C⟩:=j;simp only[aC]at C;obtain⟨rfl,rfl⟩:=C;have B:=L 0 K H rfl rfl;rw[dx]at B;obtain⟨T,us,Y,k2,o⟩:=y.bx (900+p) TH hl;obtain⟨X,y1,y2,y3⟩:=Bp y _ k2 uo;obtain⟨F,S,t,R⟩:=A_ y as (p+1) V k (λi U g c d=>by
     rw[show p+1+i=p+(i+1) from by omega];exact L (i+1) U g (by simpa using c) (by simpa using d))
    rw[B]at Y o;refine⟨(H::X)++F,?_,λg m=>?_,λD=>?_⟩
    ·simp only[iA,au,av,mT];refine⟨_,_,H::X,F,rfl,rfl,?_,S⟩;simp only[AR];exact⟨H,T,us,X,rfl,Y,y.nS _ _ o,rfl,y1⟩
    ·rcases aT.1 m with m|m
     ·rcases aI.1 m with rfl|m
      ·exact .inr ⟨p,az _,o⟩
      ·obtain⟨r,x,c⟩:=y2 g m;exact .inl ⟨r,by simp[x],c⟩
     ·rcases t g m with ⟨r,x,c⟩|⟨i,c,d⟩
      ·exact .inl ⟨r,by simp[x],c⟩
      ·exact .inr ⟨i,by omega,d⟩
    ·rw[bH]at D;rw[bH];refine⟨cx.2 ⟨λhm=>?_,y3 D.1⟩,R D.2.1,?_⟩
     ·obtain⟨r,_,c⟩:=y2 _ hm;rw[o]at c;cases c
     ·intro a W b hb e;subst e;rcases aI.1 W with rfl|W
      ·rcases t _ hb with ⟨r,_,c⟩|⟨i,c,d⟩
       ·rw[o]at c;cases c
       ·rw[o]at d;simp only[Own.box.injEq]at d;omega
      ·obtain⟨r,x,c⟩:=y2 a W;rcases t a hb with ⟨q,hq,d⟩|⟨i,_,d⟩
       ·rw[c]at d;cases d;exact D.2.2 r x r hq rfl
       ·rw[c]at d;cases d
   ·cases G
  ·cases j
theorem Mx{b:Func}{a:M Value}(h:(b.results.toList.mapM (vL (fr f N).tmps)).run P w=.ok a w):∃v,(results b (fr f N).tmps).run P w=.ok v w/\YM a v:=by
 have g:(b.results.mapM (vL (fr f N).tmps)).run P w=.ok a.toArray w:=by
  rw[Array.mapM_eq_mapM_toList];simp[h]
 have e:results b (fr f N).tmps=(do
   let c <- b.results.mapM (vL (fr f N).tmps)
   pure (if h:c.size=1 then c[0] else .tuple c)):=by
  unfold results
  congr 1
 rw[e];simp only[Sem.run_bind,g,Result.andThen_ok,Sem.run_pure];by_cases d:a.length=1
 ·obtain⟨v,rfl⟩:=dP.1 d;exact⟨v,by simp,.inl rfl⟩
 ·exact⟨.tuple a.toArray,by simp[d],.inr ⟨d,rfl⟩⟩
end
theorem He{P:Program}{num:Nat->FuncId}{cf:Nat->M A->u (M A×M A)}{mf:Nat->Bool->M D->Int->u (M D×Int)}(hm:P.follows .mixedOrders=I)(hj:Rr P num)(mV:∀g a r o,cf g a=Z (r,o)->oY P (num g) a r o)(nF:∀g T S q R L,mf g T S q=Z (R,L)->CZ P (num g) T S q R L){n f:Nat}{Q:KF}(K:okF P num f Q=I){args rs outs:M A}(k:Fa cf mf n Q args=Z (rs,outs)):oY P (num f) args rs outs:=by
  unfold Fa at k
  split at k
  ·rename_i V1;unfold okF at K
   split at K
   ·rename_i fn Gd
    split at K
    ·rename_i c hc;simp only[ai]at K;obtain⟨⟨LF,ZB⟩,AD⟩:=K;intro w h vs F hL C kl ed fW;have u9:vs.length=args.length:=by
      clear LF ZB AD k V1 kl ed hL
      induction args generalizing vs F with
      |nil=>simp only[mT]at C;simp[C.1]
      |cons a as ih=>
       simp only[mT]at C;obtain⟨v,fC,V,U,rfl,rfl,_,C⟩:=C;simp[ih _ _ C]
     refine enter (N:=fn.ntmps) Gd hc rfl (by simp only[oz,u9,V1];exact ZB) ?_;have i0:Inv ⟨h,λ_=>0,λ_=>undef,λg=>if g∈F then .ej else .free⟩ h F w ⟨[],[],[]⟩ (λi=>vs.toArray.getD i undef) w:={
      sl:=λd c Y=>by simp[look]at Y
      bx:=λd c Y=>by simp[look]at Y
      rw:=λd c Y=>by simp[look]at Y
      own:=λg p=>by
       by_cases hF:g∈F
       ·exact⟨ed g hF,.inr hF⟩
       ·simp[hF]at p
      nS:=λg b p=>by dsimp only at p;split at p<;>cases p
      fW:=fW,os:=rfl,tape:=rfl,output:=rfl,size:=az _,frame:=λ_ _ _=>rfl,cell:=λ_ _ _ _=>rfl,mono:=λ_ _=>az _,hold:=λ_ _ _=>rfl,fX:=λ_ h=>h }
     obtain⟨W,i1,e1,p1,x1⟩:=uV args 0 i0 C kl (λg p=>⟨.inr (by simp[p]),ed g p,.inr p⟩) (λi v hv=>by
      rw[bu];have:=(bh.1 hv)
      obtain⟨hil,hiv⟩:=this;simp[hil,hiv])
     have fin:∀(s:St) y j,leave Q args s=Z (rs,outs)->yt W.β h F w s y j->∃v,(results fn (fr y fn.ntmps).tmps).run P j=.ok v j/\∃v' us V U h',Ending.returned v=.returned v'/\YM us v'/\mT h' j rs us V/\mT h' j outs (iA args vs) U/\(V++U).Nodup/\(∀g∈V++U,(w.heap.size<=g\/g∈F)/\g < j.heap.size)/\Bw h F w j h':=by
      intro s y j m ⟨γ,t,hb⟩;unfold leave at m
      split at m
      ·rename_i Gn l outs' l' hr1 IT
       split at m
       ·rename_i X;rw[tI]at X;simp only[aa,aC]at m;obtain⟨rfl,rfl⟩:=m;obtain⟨us,V,k1,k2,k3,k4⟩:=HR t fn.results.toList Q.res AD hr1;obtain⟨U,y1,y2,y3⟩:=A_ t args 0 IT C (λi cs g B H=>by
         rw[hb _ (by omega)];exact x1 i cs g B H)
        obtain⟨v,z1,z2⟩:=Mx k1;rw[bH]at X;refine⟨v,z1,v,us,V,U,γ.h,rfl,z2,k2,y1,?_,λg p=>?_,⟨t.os,t.tape,t.output,t.size,t.frame,t.cell,t.mono,t.hold,t.fW,t.fX⟩⟩
        ·rw[bH];refine⟨k4 X.1,y3 X.2.1,?_⟩;intro a ha b lK e;subst e;obtain⟨r,hr,B⟩:=k3 a ha;rcases y2 a lK with ⟨q,hq,H⟩|⟨i,_,H⟩
         ·rw[B]at H;cases H;exact X.2.2 r hr r hq rfl
         ·rw[B]at H;cases H
        ·have ic:γ.ω g≠.free:=by
          rcases aT.1 p with p|p
          ·obtain⟨r,_,B⟩:=k3 g p;rw[B];simp
          ·rcases y2 g p with ⟨r,_,B⟩|⟨i,_,B⟩<;>rw[B]<;>simp
         exact⟨(t.own g ic).2,(t.own g ic).1⟩
       ·cases m
      ·cases m
     split at k
     ·rename_i s G;refine mu (gP (β0:=W.β) hm ⟨λg a r o k=>(mV g a r o k).at_ hL,hj⟩ (λg T S q R L k=>(nF g T S q R L k).at_ hL) n Q.body c LF G ⟨W,i1,λ_ _=>rfl⟩) (λy j x=>fin s y j k x.2) (λi y j x=>by cases x.1) (λy j x=>by cases x.1)
     ·rename_i s G;refine mu (gP (β0:=W.β) hm ⟨λg a r o k=>(mV g a r o k).at_ hL,hj⟩ (λg T S q R L k=>(nF g T S q R L k).at_ hL) n Q.body c LF G ⟨W,i1,λ_ _=>rfl⟩) (λy j x=>by cases x.1) (λi y j x=>by cases x.1) (λy j x=>fin s y j k x.2)
     ·cases k
    ·cases K
   ·cases K
  ·cases k
def Yq(P:Program)(num:Nat->FuncId)(f:Nat)(a:KF):Prop:=
 (a.np≠999->okF P num f a=I)/\(a.np=999->∀args b outs,XT f args=Z (b,outs)->oY P (num f) args b outs)
theorem Yq.of{P:Program}{num:Nat->FuncId}{f:Nat}{a:KF}(h:okF P num f a=I)(b:gh a.np 999=I):Yq P num f a:=
 ⟨λ_=>h,λe=>by rw[e]at b;cases b⟩
theorem Yq.ext{P:Program}{num:Nat->FuncId}{f:Nat}{b:K}{r:M KR}(h:∀args a outs,XT f args=Z (a,outs)->oY P (num f) args a outs):Yq P num f ⟨999,b,r⟩:=
 ⟨λe=>absurd rfl e,λ_=>h⟩
theorem v8{P:Program}{num:Nat->FuncId}{T:Nat->u KF}(k:P.follows .mixedOrders=I)(l:Rr P num)(j:∀f d,T f=Z d->Yq P num f d) :
  ∀(n f:Nat) (args c outs:M A),yN T n f args=Z (c,outs)->oY P (num f) args c outs
 |0,f,args,c,outs,b=>by simp[yN]at b
 |n+1,f,args,c,outs,b=>by
  simp only[yN]at b
  split at b
  ·cases b
  ·rename_i d e
   split at b
   ·rename_i i;exact (j f d e).2 i args c outs b
   ·rename_i i;exact He k l (λg a r o=>v8 k l j n g a r o) (λg t s q p m h=>by cases h) ((j f d e).1 i) b
end
section
open Go.RowKit
inductive MC where
 |lst
 |ep (i o:Nat)
 |hd (i o:Nat)
 |sub (i o n:Nat)
 |non
def MC.xo:MC->MC
 | .sub _ _ _=>.non
 |c=>c
def MC.Qk:MC->Bool
 | .sub _ _ _=>I
 |_=>J
structure MS where
 s:St
 sp:List (Nat×MC)
 es:List (List D)
def MS.TX(m:MS):KX->u MC
 | .s d=>look m.sp d
 | .k _=>O
def MS.put(m:MS)(d:Nat)(c:C):MS:=⟨m.s.put (Z d) c,sa m.sp d,m.es⟩
def MS.kU(m:MS)(d:Nat)(c:MC):MS:=⟨m.s.put (Z d) .any,(d,c)::sa m.sp d,m.es⟩
def MS.set(m:MS)(i o:Nat)(a:M D):MS:=⟨m.s,m.sp,match nth m.es i with
 |some e=>m.es.set i (gU e o a)
 |none=>m.es⟩
def MS.xo(m:MS):MS:=⟨m.s,m.sp.map λp=>(p.1,p.2.xo),m.es⟩
def MS.dL(m:MS)(a:mo):MS:=⟨m.s.dL a,iV m.sp a.s,m.es⟩
def MS.at_(m:MS)(i o:Nat):u D:=match nth m.es i with
 |some e=>nth e o
 |none=>O
def xZ:M C->u (M A)
 |[]=>Z []
 | .d x::cs=>if D.plain x then (xZ cs).map (.val J [.d x]::·) else O
 |_=>O
section
variable (cf:Nat->M A->u (M A×M A)) (mf:Nat->Bool->M D->Int->u (M D×Int)) (own:Bool) (k:Nat)
def F8(m:MS)(d f:Nat)(a:M KX):u MS:=
 match xZ (a.map (gj m.s)) with
 |some as=>match cf f as with
  |some ([.val J [.d r]],[])=>if D.plain r then Z (m.put d (.d r)) else O
  |_=>O
 |none=>O
def IJ(m:MS)(d f:Nat)(c:MC)(y:C):u MS:=
 match c,y with
 | .hd i o,.d (.int .i64 q)=>match m.at_ i o with
  |some (.list k g es)=>match mf f J [.list k g es] q with
   |some ([b],a)=>Z ((m.set i o [b]).put d (.d (.int .i64 a)))
   |_=>O
  |_=>O
 | .sub i o n,.d (.int .i64 q)=>match nth m.es i with
  |some e=>match mf f I ((e.drop o).take n) q with
   |some (xs,a)=>if o+n<=e.length/\xs.length=n then Z ((m.set i o xs).put d (.d (.int .i64 a))) else O
   |none=>O
  |none=>O
 |_,_=>O
def Dq(m:MS)(d:Nat):KO->u MS
 | .mv x=>match m.TX x with
  |some c=>Z (m.kU d c)
  |none=>Z (m.put d (gj m.s x))
 | .len x=>match m.TX x with
  |some .lst=>Z (m.put d (.d (.int .i64 m.es.length)))
  |_=>O
 | .ia a x y=>match m.TX x,gj m.s y with
  |some .lst,.d (.int .i64 n)=>if a=k/\0<=n/\n.toNat < m.es.length then Z (m.kU d (.ep n.toNat 0)) else O
  |_,_=>O
 | .fa o x=>match m.TX x with
  |some (.ep i p)=>Z (m.kU d (.ep i (p+o)))
  |_=>O
 | .ld n x=>match m.TX x with
  |some (.ep i o)=>if n=0 then (match m.at_ i o with
    |some (.list _ _ _)=>Z (m.kU d (.hd i o))
    |_=>O) else (match nth m.es i with
    |some e=>if o+n<=e.length then Z (m.kU d (.sub i o n)) else O
    |none=>O)
  |_=>O
 | .call f xs=>match xs with
  |[x,y]=>(match m.TX x with
   |some c=>IJ mf m d f c (gj m.s y)
   |none=>F8 cf m d f xs)
  |_=>F8 cf m d f xs
 |op=>if op.kT then (jj m.s op).map (m.put d) else O
def Vf(m:MS):KO->u MS
 | .st n x y=>match m.TX x,gj m.s y with
  |some (.ep i o),.d v=>match m.at_ i o with
   |some c=>if n=1/\own=I/\D.plain c=I/\D.plain v=I then Z (m.set i o [v]).xo else O
   |none=>O
  |_,_=>O
 |_=>O
def IH(m:MS)(i:KI):u MS:=
 match i.gd with
 |some _=>O
 |none=>match i.dst with
  |some d=>Dq cf mf k m d i.op
  |none=>Vf own m i.op
def sq:M KI->MS->u MS
 |[],m=>Z m
 |i::is,m=>match IH cf mf own k m i with
  |some a=>sq is a
  |none=>O
def iterM(f:MS->u (Ex×MS)):Nat->MS->u (Ex×MS)
 |0,_=>O
 |n+1,s=>match f s with
  |some (.norm,a)=>iterM f n a
  |r=>r
def eB(n:Nat):K->MS->u (Ex×MS)
 | .skip,m=>Z (.norm,m)
 | .Q5 ops f,m=>match sq cf mf own k ops m with
  |some e=>Z (.norm,e.dL f)
  |none=>O
 | .seq a b,m=>match eB n a m with
  |some (.norm,e)=>eB n b e
  |r=>r
 | .cond c a b,m=>match gj m.s c with
  | .d (.bool t)=>if t then eB n a m else eB n b m
  |_=>O
 | .block id a,m=>match eB n a m with
  |some (.exit i,e)=>if i=id then Z (.norm,e) else Z (.exit i,e)
  |r=>r
 | .loop a,m=>iterM (eB n a) n m
 | .exit id,m=>Z (.exit id,m)
 | .ret,m=>Z (.ret,m)
 |_,_=>O
end
def zy(r:Nat):u (Ex×MS)->u (M (M D)×Int)
 |some (.norm,m)=>(match m.s.get r with
  | .d (.int .i64 q)=>Z (m.es,q)
  |_=>O)
 |some (.ret,m)=>(match m.s.get r with
  | .d (.int .i64 q)=>Z (m.es,q)
  |_=>O)
 |_=>O
noncomputable def F7(T:Nat->u KF):Nat->Nat->Bool->M D->Int->u (M D×Int)
 |0,_,_,_,_=>O
 |n+1,f,h,cells,q=>match T f with
  |some ⟨2,body,[.t r]⟩=>
   if h then (match body with
    | .seq (.Q5 (⟨Z b,.box (.s 0),O⟩::is) c) i=>
     (match sq (yN T n) (F7 T n) J cells.length is (MS.kU ⟨⟨[(1,.d (.int .i64 q))],[],[]⟩,[],[cells]⟩ b (.ep 0 0)) with
     |some m=>(match zy r (eB (yN T n) (F7 T n) J cells.length n i (m.dL c)) with
      |some ([sZ],a)=>Z (sZ,a)
      |_=>O)
     |none=>O)
    |_=>O)
   else (match cells with
    |[.list k g es]=>(match zy r (eB (yN T n) (F7 T n) I k n body ⟨⟨[(1,.d (.int .i64 q))],[],[]⟩,[(0,.lst)],es⟩) with
     |some (e,a)=>Z ([.list k g e],a)
     |none=>O)
    |_=>O)
  |_=>O
theorem ir.ofC{w:World}:∀(b:M D) {c:M Value} {G:Fp},fE w b c G->∃a,a.flatten=G/\ir w b c a
 |[],_,_,h=>by
  simp only[fE]at h;exact⟨[],by simp[h.2],by simp[ir,h.1]⟩
 |d::b,_,_,h=>by
  simp only[fE]at h;obtain⟨v,j,e,k,rfl,rfl,i,g⟩:=h;obtain⟨a,rfl,f⟩:=ir.ofC b g;exact⟨e::a,by simp,by simp only[ir];exact⟨v,j,e,a,rfl,rfl,i,f⟩⟩
theorem ir.toC{w:World}:∀(a:M D) {b:M Value} {c:M Fp},ir w a b c->fE w a b c.flatten
 |[],_,_,h=>by
  simp only[ir]at h;simp[fE,h.1,h.2]
 |d::a,_,_,h=>by
  simp only[ir]at h;obtain⟨v,g,F,i,rfl,rfl,f,e⟩:=h;simp only[fE,eH];exact⟨v,g,F,_,rfl,rfl,f,ir.toC a e⟩
theorem fy.toFlat{w:World}:∀(es:M (M D)) {a:M Value} {G:Fp},fy w es a G->fE w es.flatten a G
 |[],_,_,h=>by simpa [fy,fE] using h
 |e::es,_,_,h=>by
  simp only[fy]at h;obtain⟨v1,v2,f,d,rfl,rfl,c,b⟩:=h;rw[eH];exact fE.append e c (fy.toFlat es b)
theorem fy.WR{w:World}:∀(es:M (M D)) {a:M Value} {G:Fp},fE w es.flatten a G->fy w es a G
 |[],_,_,h=>by simpa [fy,fE] using h
 |e::es,_,_,h=>by
  rw[eH]at h;obtain⟨v1,v2,f,d,rfl,rfl,c,b⟩:=fE.gk e h;simp only[fy];exact⟨v1,v2,f,d,rfl,rfl,c,fy.WR es b⟩
theorem ir.length{w:World}:∀(a:M D) {b:M Value} {c:M Fp},ir w a b c->b.length=a.length/\c.length=a.length
 |[],_,_,h=>by simp only[ir]at h;simp[h.1,h.2]
 |d::a,_,_,h=>by
  simp only[ir]at h;obtain⟨v,g,F,i,rfl,rfl,f,e⟩:=h;simp[ir.length a e]
theorem ir.append{w:World}:∀(a:M D) {es:M D} {c e:M Value} {f Gs:M Fp},ir w a c f->ir w es e Gs->ir w (a++es) (c++e) (f++Gs)
 |[],_,_,_,_,_,h,b=>by simp only[ir]at h;obtain⟨rfl,rfl⟩:=h;simpa using b
 |d::a,_,_,_,_,_,h,b=>by
  simp only[ir]at h;obtain⟨v,j,F,k,rfl,rfl,i,g⟩:=h;simp only[au,ir];exact⟨v,_,F,_,rfl,rfl,i,ir.append a g b⟩
theorem ir.drop{w:World}:∀(a:M D) {b:M Value} {c:M Fp} (n:Nat),ir w a b c->ir w (a.drop n) (b.drop n) (c.drop n)
 |_,_,_,0,h=>by simpa using h
 |[],_,_,n+1,h=>by simp only[ir]at h;simp[ir,h.1,h.2]
 |d::a,_,_,n+1,h=>by
  simp only[ir]at h;obtain⟨v,g,F,i,rfl,rfl,f,e⟩:=h
  simpa using ir.drop a n e
theorem ir.take{w:World}:∀(a:M D) {b:M Value} {c:M Fp} (n:Nat),ir w a b c->ir w (a.take n) (b.take n) (c.take n)
 |_,_,_,0,h=>by simp[ir]
 |[],_,_,n+1,h=>by simp only[ir]at h;simp[ir,h.1,h.2]
 |d::a,_,_,n+1,h=>by
  simp only[ir]at h;obtain⟨v,g,F,i,rfl,rfl,f,e⟩:=h;simp only[dy,ir];exact⟨v,_,F,_,rfl,rfl,f,ir.take a n e⟩
theorem ir.xt{w:World}{a b:M D}{c d:M Value}{f Gs:M Fp}(o:Nat)(h:ir w a c f)(e:ir w b d Gs):ir w (gU a o b) (gU c o d) (gU f o Gs):=by
 obtain⟨i,g⟩:=ir.length b e;unfold gU;rw[i,g];exact ir.append _ (ir.append _ (ir.take a o h) e) (ir.drop a _ h)
theorem Bi{a:Type}(l:M a)(o n:Nat)(h:o+n<=l.length):gU l o ((l.drop o).take n)=l:=by
 unfold gU;have e:((l.drop o).take n).length=n:=by simp;omega
 rw[e,bB,show l.drop (o+n)=(l.drop o).drop n by rw[oy],bD,bD]
theorem BV{b:Type}(l a:M b)(o:Nat)(h:o+a.length<=l.length):(gU l o a).length=l.length:=by
 unfold gU;simp;omega
theorem ir.dL{w e:World}:∀(a:M D) {f:M Value} {c:M Fp},ir w a f c->(∀F∈c,∀b∈F,e.heap[b.1]?=w.heap[b.1]?)->ir e a f c
 |[],_,_,h,_=>by simpa only [ir] using h
 |d::a,_,_,h,g=>by
  simp only[ir]at h ⊢;obtain⟨v,n,F,o,rfl,rfl,m,l⟩:=h;exact⟨v,n,F,o,rfl,rfl,m.dL d (λb i j _=>World.cell?_of_block (w:=w) (g F (by simp) b i)),ir.dL a l (λG k=>g G (by simp[k]))⟩
theorem DD{k:Nat}:∀(es:M (M D)) (i o:Nat) (e a:M D),(∀e∈es,e.length=k)->nth es i=Z e->o+a.length<=k->(es.set i (gU e o a)).flatten=gU es.flatten (i * k+o) a
 |[],i,o,e,a,_,h,_=>by simp[nth]at h
 |x::es,0,o,e,a,b,h,c=>by
  simp only[nth,aa]at h;subst h;have g:=b x (by simp);simp only[rZ,eH,rq,bu,gU];rw[gf (by omega),List.drop_append_of_le_length (by omega)];simp
 |x::es,i+1,o,e,a,b,h,c=>by
  simp only[nth]at h;have g:=b x (by simp);have d:=DD es i o e a (λy f=>b y (by simp[f])) h c;have j:(i+1) * k+o=x.length+(i * k+o):=by rw[j5];omega
  rw[lh,eH,d,eH,j];unfold gU;rw[List.take_length_add_append,show x.length+(i * k+o)+a.length=x.length+(i * k+o+a.length) by omega,List.drop_length_add_append];simp
theorem DC{k:Nat}:∀(es:M (M D)),(∀e∈es,e.length=k)->es.flatten.length=es.length * k
 |[],_=>by simp
 |e::es,h=>by
  rw[eH,a_,DC es (λx a=>h x (by simp[a])),h e (by simp),aG,j5];omega
theorem qg{k:Nat}:∀(es:M (M D)) (i o n:Nat) (e:M D),(∀e∈es,e.length=k)->nth es i=Z e->o+n<=k->(es.flatten.drop (i * k+o)).take n=(e.drop o).take n/\i * k+o+n<=es.flatten.length
 |[],i,o,n,e,_,h,_=>by simp[nth]at h
 |x::es,0,o,n,e,a,h,b=>by
  simp only[nth,aa]at h;subst h;have d:=a x (by simp);refine⟨?_,by simp;omega⟩;rw[eH,rq,bu,List.drop_append_of_le_length (by omega),gf (by simp;omega)]
 |x::es,i+1,o,n,e,a,h,b=>by
  simp only[nth]at h;have d:=a x (by simp);obtain⟨f,j⟩:=qg es i o n e (λy c=>a y (by simp[c])) h b;have g:(i+1) * k+o=x.length+(i * k+o):=by rw[j5];omega
  rw[eH,g];refine⟨by rw[List.drop_length_add_append];exact f,by rw[a_];omega⟩
end
section
open Go.RowKit
section
variable {P:Program} {ρ:Operand->Value} {w:World} {dst:u Tmp} {ty:TypeId} {pos:String} {aft:Array Edge} {gd:u (Nat×Bool)}
theorem OG{g i:Nat}{v a:Value}{b:Type}(k:Sem b)(d:w.cell? ⟨g,i,O⟩=Z a)(c:w.frozen? ⟨g,i,O⟩=J)(e:one v=I) :
  (Sem.store .plain ⟨g,i,O⟩ v k).run P w=k.run P (w.setCell ⟨g,i,O⟩ v):=by
 cases v<;>simp_all[Sem.run,one]
theorem Yg{x y:Operand}{g o:Nat}{T:TypeId}{v a:Value}(f:∀w,(mP T).run P w=.ok 1 w)(c:ρ x=.pointer (Z ⟨g,o,O⟩))(b:ρ y=v)(h:one v=I)(e:w.cell? ⟨g,o,O⟩=Z a)(d:w.frozen? ⟨g,o,O⟩=J) :
  (execOp ρ ⟨dst,.store T x y,ty,pos,aft,gd⟩).run P w=.ok .skip (w.setCell ⟨g,o,O⟩ v):=by
 have i:v.cells=#[v]:=by cases v<;>simp_all[Value.cells,one]
 simp[execOp,Instr.storeAt,c,b,Instr.sureAddr,storeVar,f,i,storeCells,store,Addr.add,OG _ e d h]
end
section
variable (w:World) (g i:Nat) (v:Value)
theorem pL{b:Nat}(h:b≠g):(w.setCell ⟨g,i,O⟩ v).heap[b]?=w.heap[b]?:=by
 simp[World.setCell,oU,mR h]
theorem zK:(w.setCell ⟨g,i,O⟩ v).heap.size=w.heap.size:=by simp[World.setCell]
theorem JT{j:Nat}(h:j≠i):(w.setCell ⟨g,i,O⟩ v).cell? ⟨g,j,O⟩=w.cell? ⟨g,j,O⟩:=by
 simp only[World.cell?,World.setCell,oU,if_true];cases w.heap[g]? with
 |none=>rfl
 |some o=>cases o<;>simp[Array.getElem?_setIfInBounds_ne (mR h)]
theorem JU{a:Value}(h:w.cell? ⟨g,i,O⟩=Z a):(w.setCell ⟨g,i,O⟩ v).cell? ⟨g,i,O⟩=Z v:=by
 simp only[World.cell?,World.setCell,oU,if_true]at h ⊢;cases b:w.heap[g]? with
 |none=>rw[b]at h;cases h
 |some o=>
  rw[b]at h;cases o<;>simp at h
  rename_i c e fz;simp[(rY.1 h).1]
theorem Fg(b j:Nat):(w.setCell ⟨g,i,O⟩ v).frozen? ⟨b,j,O⟩=w.frozen? ⟨b,j,O⟩:=by
 by_cases a:b=g
 ·subst a;simp only[World.frozen?,World.setCell,oU,if_true];cases w.heap[b]? with
  |none=>rfl
  |some o=>cases o<;>simp
 ·simp only[World.frozen?,pL w g i v a]
end
structure Tree where
 g:Nat
 p:Nat
 k:Nat
 n:Nat
 Fs:List Fp
 hv:List Value
 pl:List Bool
 ro:Bool
def MT(t:Tree)(w:World)(es:M (M D)):Prop:=
 es.length=t.n/\(∀e∈es,e.length=t.k)/\es.flatten.map D.plain=t.pl/\
  ∃a:M Value,ir w es.flatten a t.Fs/\iH w t.g t.p a/\(∀j:Nat,t.pl[j]?=Z J->a[j]?=t.hv[j]?)/\(t.ro=I->a=t.hv)
def Nk(t:Tree)(w:World):MC->Value->Prop
 | .lst,v=>∃A c,v=.slice A t.n c/\(t.n=0\/A=Z ⟨t.g,t.p,O⟩)/\t.n<=maxLen
 | .ep i o,v=>v=.pointer (Z ⟨t.g,t.p+(i * t.k+o),O⟩)
 | .hd i o,v=>t.hv[i * t.k+o]?=Z v
 | .non,_=>True
 | .sub i o n,v=>0 < t.n/\∃a,v=.agg a.toArray/\a.length=n/\iH w t.g (t.p+(i * t.k+o)) a
structure Tok (t:Tree) (own:Bool) (h:Nat->Nat) (F:List Nat) (w0:World):Prop where
 fs:∀G∈t.Fs,∀be∈G,be.1∈F/\be.1≠t.g
 nd:(t.Fs.flatten.map cr).Nodup
 zero:∀g∈F,h g=0/\oG w0 g/\g < w0.heap.size
 own:own=true->(t.n=0\/t.g∈F)/\t.ro=false
abbrev Rk(h:Nat->Nat)(F:M Nat):Gh:=⟨h,λ_=>0,λ_=>undef,λg=>if g∈F then .ej else .free⟩
structure l_ (t:Tree) (h:Nat->Nat) (F:List Nat) (w0:World) (m:MS) (f:Fm) (w:World):Prop where
 inv:Inv (Rk h F) h F w0 m.s f w
 mt:MT t w m.es
 sp:∀d c,look m.sp d=some c->Nk t w c (f d)
 lt:t.n=0\/t.g < w.heap.size
section
variable {t:Tree} {own:Bool} {h:Nat->Nat} {F:M Nat} {w0:World} {m:MS} {f:Fm} {w w':World}
theorem X5{f:Fm}{d e:Nat}{v:Value}(h:d≠e):B3 f d v e=f e:=by
 unfold B3;cases a:hX e d
 ·rfl
 ·exact absurd (l9 a).symm h
theorem X6{f:Fm}{d:Nat}{v:Value}:B3 f d v d=v:=by simp[B3]
theorem l_.put(b:l_ t h F w0 m f w){d:Nat}{c:C}{v:Value}(i:CR (Rk h F) w c v):l_ t h F w0 (m.put d c) (B3 f d v) w:=
 ⟨b.inv.put d c v i,b.mt,λe j a=>by
  simp only[MS.put,eN]at a
  split at a
  ·cases a
  ·rename_i g;rw[X5 g];exact b.sp e j a,b.lt⟩
theorem l_.kU(b:l_ t h F w0 m f w){d:Nat}{c:MC}{v:Value}(j:Nk t w c v):l_ t h F w0 (m.kU d c) (B3 f d v) w:=
 ⟨b.inv.put d .any v (by simp only[CR]),b.mt,λe k a=>by
  simp only[MS.kU,look,eN]at a
  split at a
  ·rename_i i;subst i;simp only[aa]at a;subst a;rw[X6];exact j
  ·rename_i g;rw[X5 g];exact b.sp e k a,b.lt⟩
theorem l_.go(e:l_ t h F w0 m f w)(k:uC (Rk h F) (λo=>o=.ej) w w'){sp':M (Nat×MC)}{j:M (M D)}(q:MT t w' j)(p:∀d c,look sp' d=Z c->c=.non\/(look m.sp d=Z c/\(c.Qk=I->w'.heap[t.g]?=w.heap[t.g]?))) :
  l_ t h F w0 ⟨m.s,sp',j⟩ f w':=
 ⟨e.inv.Pq k (λh=>by cases h) (λb h=>by cases h) (λr h=>by cases h),q,λd c v=>by
  rcases p d c v with rfl|⟨G,C⟩
  ·trivial
  have a:=e.sp d c G;cases c with
  |non=>trivial
  |lst=>exact a
  |ep i o=>exact a
  |hd i o=>exact a
  |sub i o n=>
   obtain⟨B,l,A,y,x⟩:=a;exact⟨B,l,A,y,x.dL (C rfl)⟩,by
  rcases e.lt with h|h
  ·exact .inl h
  ·exact .inr (bR h k.size)⟩
theorem MT.dL(p:MT t w m.es)(q:∀G∈t.Fs,∀l∈G,w'.heap[l.1]?=w.heap[l.1]?)(b:t.n=0\/w'.heap[t.g]?=w.heap[t.g]?):MT t w' m.es:=by
 obtain⟨k,i,v,c,e,s,r⟩:=p;refine⟨k,i,v,c,ir.dL _ e q,?_,r⟩;rcases b with b|b
 ·have d:=(ir.length _ e).1;rw[DC _ i,k,b,rq]at d;have:c=[]:=cP.1 d;subst this;intro j a o;simp at o
 ·exact s.dL b
theorem Inv.abH(a:Inv (Rk h F) h F w0 m.s f w){g:Nat}(b:g∈F):g < w.heap.size:=(a.own g (by simp[b])).1
theorem tR{N:Nat}(e:l_ t h F w0 m f w){x:Operand}{y:KX}(b:ki N x y=I){c:MC}(a:m.TX y=Z c):Nk t w c ((fr f N).eval x):=by
 cases y with
 |k i=>simp[MS.TX]at a
 |s d=>
  simp only[MS.TX]at a;cases x<;>simp only[ki,ai,beq_iff_eq,aD]at b
  obtain⟨rfl,g⟩:=b;rw[Cz f (by simpa using g)];exact e.sp _ c a
end
end
section
open Go.RowKit
section
variable {P:Program} {N:Nat} {t:Tree} {own:Bool} {h:Nat->Nat} {F:M Nat} {w0:World} {m:MS} {f:Fm} {w w':World}
theorem Pr(l:Inv (Rk h F) h F w0 m.s f w){d:M Nat}{p:Nat->Nat}(a:Bw h d w w' p)(e:∀g∈d,g∈F):uC (Rk h F) (λo=>o=.ej) w w' where
 os:=a.os
 tape:=a.tape
 output:=a.output
 size:=a.size
 block g n i:=a.block g n (λk=>i (by simp[e g k]))
 cell g j c:=by
  rcases dH g w.heap.size with b|b
  ·exact a.cell g j b c
  ·have:=l.fW g b;simp only at this c
   omega
 fX:=a.fX
theorem L7{a β:Type}(f:a->β)(l b:M a)(o:Nat):(gU l o b).map f=gU (l.map f) o (b.map f):=by
 simp[gU,cp,lM,pw]
theorem oB{a:Type}(l:M a)(j n:Nat):l=l.take j++((l.drop j).take n++l.drop (j+n)):=by
 rw[show l.drop (j+n)=(l.drop j).drop n by rw[oy],bD,bD]
theorem MT.mark(r:MT t w m.es)(H:Tok t own h F w0){i o n:Nat}{e:M D}(K:nth m.es i=Z e)(hn:o+n<=t.k){l:M D}{h':Nat->Nat}{c:M Value}(C:ir w m.es.flatten c t.Fs)(hL:iH w t.g t.p c)(hV:(∀j:Nat,t.pl[j]?=Z J->c[j]?=t.hv[j]?)/\(t.ro=I->c=t.hv))
  (s:t.n=0\/t.g < w.heap.size) (hF:∀g∈F,g < w.heap.size)
  (hr:ir w' l ((c.drop (i * t.k+o)).take n) ((t.Fs.drop (i * t.k+o)).take n)) (R:l.map D.plain=((e.drop o).take n).map D.plain) (S:Bw h (((t.Fs.drop (i * t.k+o)).take n).flatten.map cr) w w' h'):MT t w' (m.es.set i (gU e o l))/\(t.n=0\/w'.heap[t.g]?=w.heap[t.g]?):=by
 obtain⟨T,v,h3,_⟩:=r;obtain⟨f1,f2⟩:=qg m.es i o n e v K hn;have AA:e.length=t.k:=v e (dS (by rw[<- eh];exact K));have Y:l.length=n:=by
  have:=congrArg List.length R;simp only[aA,bj,dK]at this;omega
 obtain⟨Q,l2⟩:=ir.length _ C;generalize hj:i * t.k+o=j at *;have Zy:∀G∈(t.Fs.drop j).take n,G∈t.Fs:=λG b=>ff (cn b);have x:t.n=0\/w'.heap[t.g]?=w.heap[t.g]?:=by
  rcases s with s|s
  ·exact .inl s
  ·refine .inr (S.block _ s ?_);intro r;obtain⟨d,q,e⟩:=bZ.1 r;obtain⟨G,b,q⟩:=fx.1 q;exact (H.fs G (Zy G b) d q).2 e
 have A:=H.nd;rw[oB t.Fs j n]at A;simp only[List.flatten_append,cp]at A;have W:∀G,(G∈t.Fs.take j\/G∈t.Fs.drop (j+n))->∀d∈G,w'.heap[d.1]?=w.heap[d.1]?:=by
  intro G b d q;have L:G∈t.Fs:=by
   rcases b with b|b
   ·exact cn b
   ·exact ff b
  refine S.block _ (hF _ (H.fs G L d q).1) ?_;intro r;rw[bH]at A;obtain⟨_,V,X⟩:=A;rw[bH]at V;rcases b with b|b
  ·exact X d.1 (cH (fx.2 ⟨G,b,q⟩)) d.1 (aT.2 (.inl r)) rfl
  ·exact V.2.2 d.1 r d.1 (cH (fx.2 ⟨G,b,q⟩)) rfl
 have U:(m.es.set i (gU e o l)).flatten=gU m.es.flatten j l:=by
  rw[DD m.es i o e l v K (by omega),hj]
 have mb:ir w' (gU m.es.flatten j l) c t.Fs:=by
  have a1:=ir.dL _ (ir.take _ j C) (λG b=>W G (.inl b));have a2:=ir.dL _ (ir.drop _ (j+n) C) (λG b=>W G (.inr b));have a3:=ir.append _ (ir.append _ a1 hr) a2;have e1:c.take j++(c.drop j).take n++c.drop (j+n)=c:=by rw[bB];exact (oB c j n).symm
  have e2:t.Fs.take j++(t.Fs.drop j).take n++t.Fs.drop (j+n)=t.Fs:=by rw[bB];exact (oB t.Fs j n).symm
  rw[e1,e2]at a3;unfold gU;rw[Y];exact a3
 refine⟨⟨by simp[T],λy B=>?_,?_,c,by rw[U];exact mb,?_,hV⟩,x⟩
 ·rcases gW B with B|rfl
  ·exact v y B
  ·rw[BV _ _ _ (by omega)];exact AA
 ·rw[U,L7,R,<- f1,lM,pw,Bi _ _ _ (by rw[aA];exact f2)];exact h3
 ·rcases x with BH|x
  ·rw[DC _ v,T,BH,rq]at Q;have:c=[]:=cP.1 Q;subst this;intro j a hu;simp at hu
  ·exact hL.dL x
theorem E6(j:Inv (Rk h F) h F w0 m.s f w):∀(i:M C) {as:M A} {g:M Value},xZ i=Z as->fu (Rk h F) w i g->mT h w as g []
 |[],as,g,a,d=>by
  simp only[xZ,aa]at a;subst a;simp only[fu]at d;simp[mT,d]
 |c::i,as,g,a,d=>by
  unfold xZ at a
  split at a
  ·rename_i e;cases e
  ·rename_i x p b;simp only[bY]at b;obtain⟨rfl,rfl⟩:=b
   split at a
   ·simp only[aj]at a;obtain⟨q,a,rfl⟩:=a;simp only[fu,CR]at d;obtain⟨v,o,rfl,⟨G,n,l⟩,k⟩:=d;simp only[mT];refine⟨v,o,[],[],rfl,rfl,?_,E6 j i a k⟩;simp only[AR,jd,GD];exact⟨[v],⟨v,[],[],[],rfl,rfl,⟨rfl,G,n,l⟩,rfl,rfl⟩,(λh=>by cases h),λ_=>rfl⟩
   ·cases a
  ·cases a
theorem Rp.OA{d:D}{v:Value}{G:Fp}(h:Rp w d v G)(a:D.plain d=I)(w':World):Rp w' d v []/\G=[]:=by
 cases d with
 |list k c es=>simp[D.plain]at a
 |int k n=>simp only[Rp]at h ⊢;exact⟨⟨h.1,trivial,h.2.2⟩,h.2.1⟩
 |bool b=>simp only[Rp]at h ⊢;exact⟨⟨h.1,trivial⟩,h.2⟩
 |str s=>simp only[Rp]at h ⊢;exact⟨⟨h.1,trivial,h.2.2⟩,h.2.1⟩
variable {num:Nat->FuncId} {cf:Nat->M A->u (M A×M A)} {mf:Nat->Bool->M D->Int->u (M D×Int)} {K':Fm->World->Prop} {d:Nat} {ty:TypeId} {pos:String} {aft:Array Edge} {gd:u (Nat×Bool)} {m':MS}
theorem C7{b:FuncId}(a:kQ P b=I)(args:Array Value)(w:World):(callFunc b args).run P w=.ok (.enter b args) w:=by
 unfold kQ at a
 split at a
 ·rename_i e c;simp only[ai,ck]at a;exact kD c a.1 a.2 args w
 ·cases a
theorem QF(mV:∀g a r o,cf g a=Z (r,o)->xu w0 F P (num g) a r o)(j:l_ t h F w0 m f w)(hk:Tok t own h F w0){g:Nat}{as:Array Operand}{X:Array TypeId}{H:M KX}(hc:kQ P (num g)=I)(hx:Cg N as.toList H=I)(k:F8 cf m d g H=Z m')
  (hK:∀R w',l_ t h F w0 m' R w'->K' R w'):ui P N ⟨Z d,.call {callee:=.value (.func (num g)),args:=as,argTypes:=X },ty,pos,aft,gd⟩ f w K':=by
 unfold F8 at k
 split at k
 ·rename_i cas VR
  split at k
  ·rename_i r B
   split at k
   ·rename_i q;simp only[aa]at k;subst k;have s:=EP j.inv _ _ hx;have hA:=E6 j.inv _ VR s;have Y:=mV _ _ _ _ B w h _ [] j.inv.size j.inv.frame (λg l=>by simp at l) hA (by simp) (λg l=>by simp at l) j.inv.fW;have U:as.map (fr f N).eval=(as.toList.map (fr f N).eval).toArray:=by apply Array.ext';rw[mL]
    refine xV (yh (C7 hc) rfl U) Y λe w' hp=>?_;obtain⟨v,us,F1,F2,h',rfl,V3,K,_,_,_,L⟩:=hp;refine⟨v,rfl,hK _ _ ?_⟩;simp only[mT,AR,jd,GD]at K;obtain⟨b,W,G1,G2,rfl,_,⟨vs,⟨v1,V,H1,H2,rfl,_,⟨_,G,y,_⟩,rfl,_⟩,_,hv⟩,rfl,_⟩:=K;have S:=hv trivial;simp only[bY,and_true]at S;subst S;have e2:v=v1:=by
     rcases V3 with h|⟨h,_⟩
     ·simp only[bY,and_true]at h;exact h.symm
     ·exact absurd rfl h
    subst e2;have ha:=Pr j.inv L (λg l=>by simp at l);have p:∀g,g < w.heap.size->w'.heap[g]?=w.heap[g]?:=λg l=>L.block g l (by simp);have C:t.n=0\/w'.heap[t.g]?=w.heap[t.g]?:=j.lt.imp id (p _);have i1:=j.go (sp':=m.sp) ha (j.mt.dL (λG y T x=>p _ (j.inv.abH (hk.fs G y T x).1)) C) (λd c Q=>.inr ⟨Q,λhs=>by
     cases c with
     |sub i o n=>
      have:=(j.sp d _ Q).1;rcases C with h|h
      ·omega
      ·exact h
     |_=>simp[MC.Qk]at hs⟩)
    refine i1.put ?_;simp only[CR];exact⟨[],(y.OA q w').1,λT x=>by simp at x⟩
   ·cases k
  ·cases k
 ·cases k
theorem QG{Q:Bool}{q T:Int}{U:M D}{g i o n:Nat}{e:M D}{v:Value}(a:l_ t h F w0 m f w)(l:Tok t own h F w0)(K:nth m.es i=Z e)(W:o+n<=t.k)(hM:ru w0 F P (num g) Q ((e.drop o).take n) q U T)
  {as:Array Operand} {ts:Array TypeId} (hc:kQ P (num g)=I) (wm:as.map (fr f N).eval=#[v,.int .i64 q]) (hq:IntKind.i64.wrap q=q)
  (hv:∀b:M Value,ir w m.es.flatten b t.Fs->iH w t.g t.p b->(∀j:Nat,t.pl[j]?=Z J->b[j]?=t.hv[j]?)/\(t.ro=I->b=t.hv)->(Q=I->v=.agg ((b.drop (i * t.k+o)).take n).toArray)/\(Q=J->(b.drop (i * t.k+o)).take n=[v]))
  (hK:∀f' w',l_ t h F w0 ((m.set i o U).put d (.d (.int .i64 T))) f' w'->K' f' w'):ui P N ⟨Z d,.call {callee:=.value (.func (num g)),args:=as,argTypes:=ts },ty,pos,aft,gd⟩ f w K':=by
 obtain⟨h1,h2,h3,b,B,hL,Y⟩:=a.mt;obtain⟨f1,f2⟩:=qg m.es i o n e h2 K W;obtain⟨v1,v2⟩:=hv b B hL Y;have V:=ir.take _ n (ir.drop _ (i * t.k+o) B);rw[f1]at V;have Zy:∀G∈(t.Fs.drop (i * t.k+o)).take n,G∈t.Fs:=λG x=>ff (cn x);have y:=l.nd;rw[oB t.Fs (i * t.k+o) n]at y;simp only[List.flatten_append,cp]at y;rw[bH]at y;have LD:=y.2.1;rw[bH]at LD;have R:∀g∈((t.Fs.drop (i * t.k+o)).take n).flatten.map cr,g∈F:=λg r=>by
  obtain⟨L,s,rfl⟩:=bZ.1 r;obtain⟨G,x,s⟩:=fx.1 s;exact (l.fs G (Zy G x) L s).1
 have qi:=hM w h v _ _ a.inv.size a.inv.frame (λg r=>.inr (R g r)) V v1 v2 hq LD.1 (λG x L s=>by
  have:=l.zero _ (l.fs G (Zy G x) L s).1;exact⟨this.1,a.inv.fX _ this.2.1⟩) a.inv.fW
 refine xV (yh (C7 hc) rfl wm) qi λe' w' hp=>?_;obtain⟨rfl,C,CC,Hi,S⟩:=hp;refine⟨_,rfl,hK _ _ ?_⟩;have ha:=Pr a.inv S R;obtain⟨H,yp⟩:=a.mt.mark l K W B hL Y a.lt (λg r=>a.inv.abH r) CC Hi S;have i1:=a.go (sp':=m.sp) ha H (λd c X=>.inr ⟨X,λhs=>by
  cases c with
  |sub i o n=>
   have:=(a.sp d _ X).1;rcases yp with h|h
   ·omega
   ·exact h
  |_=>simp[MC.Qk]at hs⟩)
 have i2:=i1.put (d:=d) (iP C);simp only[MS.set,K];exact i2
end
end
section
open Go.RowKit
section
variable {P:Program} {N:Nat} {t:Tree} {own:Bool} {h:Nat->Nat} {F:M Nat} {w0:World} {m m':MS} {f:Fm} {w w':World} {num:Nat->FuncId} {cf:Nat->M A->u (M A×M A)} {mf:Nat->Bool->M D->Int->u (M D×Int)} {K':Fm->World->Prop} {d:Nat} {ty:TypeId} {pos:String} {aft:Array Edge} {gd:u (Nat×Bool)}
theorem MT.at_(s:MT t w m.es){i o:Nat}{x:D}(b:m.at_ i o=Z x){c:M Value}(r:ir w m.es.flatten c t.Fs):∃e v,nth m.es i=Z e/\o+1<=t.k/\(e.drop o).take 1=[x]/\c[i * t.k+o]?=Z v/\(c.drop (i * t.k+o)).take 1=[v]/\t.pl[i * t.k+o]?=Z (D.plain x)/\0 < t.n:=by
 obtain⟨C,l,B,_⟩:=s;unfold MS.at_ at b
 split at b
 ·rename_i e g;have Q:e.length=t.k:=l e (dS (by rw[<- eh];exact g));rw[eh]at b;have H:=(bh.1 b).1;have q:(e.drop o).take 1=[x]:=by rw[px,qB,b];rfl
  obtain⟨a,L⟩:=qg m.es i o 1 e l g (by omega);rw[q]at a;have K:=(ir.length _ r).1;have p:i * t.k+o < c.length:=by omega
  have G:0 < t.n:=by
   rw[<- C];have:=(bh.1 (by rw[<- eh];exact g:m.es[i]?=Z e)).1;omega
  refine⟨e,c[i * t.k+o],g,by omega,q,by simp[p],?_,?_,G⟩
  ·rw[px,qB];simp[p]
  ·rw[<- B,List.getElem?_map];have:m.es.flatten[i * t.k+o]?=Z x:=by
    rw[px,qB]at a;cases j:m.es.flatten[i * t.k+o]? with
    |none=>rw[j]at a;cases a
    |some y=>rw[j]at a;simp at a;rw[a]
   rw[this];rfl
 ·cases b
theorem WD(mV:∀g a r o,cf g a=Z (r,o)->xu w0 F P (num g) a r o)(nF:∀g ag ds q iL q',mf g ag ds q=Z (iL,q')->ru w0 F P (num g) ag ds q iL q')(H:l_ t h F w0 m f w)(hk:Tok t own h F w0){op:Op}{pR:KO}(G:(if pR.kT then tK P N op pR else WU P N num op (Z d) pR)=I)(B:Dq cf mf t.k m d pR=Z m')
  (hK:∀f' w',l_ t h F w0 m' f' w'->K' f' w'):ui P N ⟨Z d,op,ty,pos,aft,gd⟩ f w K':=by
 have X8:∀{c:MC} {v:Value},m'=m.kU d c->Nk t w c v->(execOp (fr f N).eval ⟨Z d,op,ty,pos,aft,gd⟩).run P w=.ok (.value v) w->ui P N ⟨Z d,op,ty,pos,aft,gd⟩ f w K':=by
  intro c v e L V;exact eu V (hK _ _ (by rw[e];exact H.kU L))
 have aeG:∀{c:C} {v:Value},m'=m.put d c->CR (Rk h F) w c v->(execOp (fr f N).eval ⟨Z d,op,ty,pos,aft,gd⟩).run P w=.ok (.value v) w->ui P N ⟨Z d,op,ty,pos,aft,gd⟩ f w K':=by
  intro c v e L V;exact eu V (hK _ _ (by rw[e];exact H.put L))
 unfold Dq at B
 split at B
 ·rename_i y;simp only[KO.kT,if_true]at G;have key:∃x,ki N x y=I/\(execOp (fr f N).eval ⟨Z d,op,ty,pos,aft,gd⟩).run P w=.ok (.value ((fr f N).eval x)) w:=by
   unfold tK at G
   split at G<;>first|(cases G;done)|skip
   all_goals first
    |(rename_i x y' S;cases S;exact⟨x,G,il rfl⟩)
    |(rename_i x y' S;cases S;exact⟨x,G,jJ rfl⟩)
    |(rename_i S;cases S)
    |skip
  obtain⟨x,R,V⟩:=key
  split at B
  ·rename_i c Q;simp only[aa]at B;exact X8 B.symm (tR H R Q) V
  ·simp only[aa]at B;exact aeG B.symm (ct H.inv R) V
 ·rename_i y;simp only[KO.kT,if_true]at G
  split at B
  ·rename_i Q;simp only[aa]at B;cases op<;>first|(exfalso;simp[tK]at G;done)|skip
   rename_i c0;simp only[tK]at G
   split at G
   ·rename_i x T lS pn F_;simp only[ai]at G;obtain⟨h1,W⟩:=G;obtain⟨UC,args,M4⟩:=c0;simp only at lS pn F_
    subst lS;have ea:args=#[x]:=by rw[<- pn]
    have et:M4=#[T]:=by rw[<- F_]
    subst ea et;obtain⟨A,c,L,_,hmx⟩:=tR H h1 Q;unfold LL at W
    split at W
    ·rename_i s hu;refine aeG B.symm ?_ (Ia hu L);rw[H.mt.1];exact iP (cD (by simp[maxLen]at hmx;omega))
    ·cases W
   ·cases G
  ·cases B
 ·rename_i k' y j;simp only[KO.kT,if_true]at G
  split at B
  ·rename_i n Q hn
   split at B
   ·rename_i VS;obtain⟨rfl,DN,RZ⟩:=VS;simp only[aa]at B;cases op<;>first|(exfalso;simp[tK]at G;done)|skip
    rename_i T x ix;simp only[tK,ai]at G;obtain⟨⟨R,hj⟩,K⟩:=G;have CD:=ct H.inv hj;rw[hn]at CD;obtain⟨uy,_⟩:=iM CD;obtain⟨A,c,L,hA,_⟩:=tR H R Q;unfold sliceB at K
    split at K
    ·rename_i s hu;simp only[beq_iff_eq]at K;have hA':A=Z ⟨t.g,t.p,O⟩:=by
      rcases hA with h|h
      ·have:=H.mt.1;omega
      ·exact h
     refine X8 B.symm ?_ (Yd hu (λw=>run_sizeOf K w) L hA' uy (i:=n.toNat) (by omega) (by rw[<- H.mt.1];exact RZ));simp only[Nk,dx]
    ·cases K
   ·cases B
  ·cases B
 ·rename_i o y;simp only[KO.kT,if_true]at G
  split at B
  ·rename_i i p Q;simp only[aa]at B;cases op<;>first|(exfalso;simp[tK]at G;done)|skip
   rename_i T x fi;simp only[tK,ai]at G;obtain⟨R,K⟩:=G;have L:=tR H R Q;simp only[Nk]at L;unfold NT at K
   split at K
   ·rename_i fs hu
    split at K
    ·rename_i fd hfd;simp only[ai,beq_iff_eq]at K;obtain⟨ho,nG⟩:=K
     split at nG
     ·rename_i n hn;simp only[nR]at nG;obtain⟨q,rfl⟩:∃q,n=q+1:=⟨n - 1,by omega⟩
      refine X8 B.symm ?_ (Ri hu hfd (λw=>run_sizeOf hn w) ho L);simp only[Nk];rw[cO,cO]
     ·cases nG
    ·cases K
   ·cases K
  ·cases B
 ·rename_i n y;simp only[KO.kT,if_true]at G
  split at B
  ·rename_i i o Q;cases op<;>first|(exfalso;simp[tK]at G;done)|skip
   rename_i T x;simp only[tK,ai]at G;obtain⟨R,K⟩:=G;have L:=tR H R Q;simp only[Nk]at L;obtain⟨h1,W,h3,Y,V,hL,hV⟩:=H.mt
   split at B
   ·rename_i hn;subst hn;simp only[if_true,beq_iff_eq]at K
    split at B
    ·rename_i lk lf les NY;simp only[aa]at B;obtain⟨e,v,q1,q2,q3,q4,q5,q6,q7⟩:=H.mt.at_ NY V;refine X8 B.symm ?_ (Kf (v:=v) (λw=>pV K w) L (hL _ v q4));simp only[Nk];rw[<- hV.1 _ q6];exact q4
    ·cases B
   ·rename_i hn;simp only[if_neg hn,ai,beq_iff_eq]at K
    split at B
    ·rename_i e ic
     split at B
     ·rename_i hle;simp only[aa]at B;have AA:e.length=t.k:=W e (dS (by rw[<- eh];exact ic));obtain⟨f1,f2⟩:=qg m.es i o n e W ic (by omega);have hl:=(ir.length _ V).1;have iy:iH w t.g (t.p+(i * t.k+o)) ((Y.drop (i * t.k+o)).take n):=hL.sub _ _;have X:((Y.drop (i * t.k+o)).take n).length=n:=by simp;omega
      refine X8 B.symm ?_ (Kg (λw=>pV K.1 w) (λw=>run_sizeOf K.2 w) L X iy);have R3:0 < t.n:=by
       rw[<- h1];have:=(bh.1 (by rw[<- eh];exact ic:m.es[i]?=Z e)).1;omega
      exact⟨R3,_,rfl,X,iy⟩
     ·cases B
    ·cases B
  ·cases B
 ·rename_i g Y;simp only[KO.kT,aD,if_false]at G;cases op<;>first|(exfalso;simp[WU]at G;done)|skip
  rename_i c0;simp only[WU]at G
  split at G
  ·rename_i F0 lS;simp only[ai,beq_iff_eq]at G;obtain⟨⟨rfl,Zr⟩,U⟩:=G;obtain⟨UC,args,M4⟩:=c0;simp only at lS U
   subst lS
   split at B
   ·rename_i y y2
    split at B
    ·rename_i c Q;obtain⟨l,hl⟩:∃l,args.toList=l:=⟨_,rfl⟩
     rw[hl]at U
     match l,U with
     |[],h=>simp[Cg]at h
     |[_],h=>simp[Cg]at h
     |_::_::_::_,h=>simp[Cg]at h
     |[x,x2],U=>
      simp only[Cg,ai]at U;have ea:args=#[x,x2]:=by rw[<- hl]
      subst ea;have TR:=tR H U.1 Q;unfold IJ at B
      split at B
      ·rename_i i o q hq;have IT:=ct H.inv U.2.1;rw[hq]at IT;obtain⟨hqv,hqw⟩:=iM IT
       split at B
       ·rename_i lk lf les NY
        split at B
        ·rename_i x1 q1 N3;simp only[aa]at B;subst B;obtain⟨_,_,_,xs0,hr0,_,_⟩:=H.mt;obtain⟨e,v0,p1,p2,p3,p4,p5,p6,p7⟩:=H.mt.at_ NY hr0;have hMk:=nF _ _ _ _ _ _ N3;rw[<- p3]at hMk;refine QG H hk p1 p2 hMk Zr (a2 rfl hqv) hqw (λY R hL hV=>⟨λh=>by (cases h),λ_=>?_⟩) hK;obtain⟨e',v',r1,r2,r3,r4,r5,r6,r7⟩:=H.mt.at_ NY R;rw[r5];simp only[Nk]at TR;have:=hV.1 _ r6;rw[r4,TR]at this;rw[iF this]
        ·cases B
       ·cases B
      ·rename_i i o n q hq;have IT:=ct H.inv U.2.1;rw[hq]at IT;obtain⟨hqv,hqw⟩:=iM IT
       split at B
       ·rename_i e ic
        split at B
        ·rename_i iL q1 N3
         split at B
         ·rename_i hle;simp only[aa]at B;subst B;obtain⟨h1,W,_⟩:=H.mt;have AA:e.length=t.k:=W e (dS (by rw[<- eh];exact ic));refine QG H hk ic (by omega) (nF _ _ _ _ _ _ N3) Zr (a2 rfl hqv) hqw (λY R hL hV=>⟨λ_=>?_,λh=>by (cases h)⟩) hK;simp only[Nk]at TR;obtain⟨_,vs,L,u9,hvL⟩:=TR;rw[L];obtain⟨f1,f2⟩:=qg m.es i o n e W ic (by omega);have hl:=(ir.length _ R).1
          congr 2
          apply eE
          intro b;by_cases hz:b < n
          ·have hz1:b < vs.length:=by omega
           have Qd:i * t.k+o+b < Y.length:=by omega
           have c1:=hvL b vs[b] (by simp[hz1]);have c2:=hL (i * t.k+o+b) Y[i * t.k+o+b] (by simp[Qd]);rw[cO t.p,c2]at c1;have c3:=iF c1;simp[hz,fK,hz1,Qd,c3]
          ·rw[jy (by omega),jy (by simp;omega)]
         ·cases B
        ·cases B
       ·cases B
      ·cases B
    ·exact QF mV H hk Zr U B hK
   ·exact QF mV H hk Zr U B hK
  ·cases G
 ·split at B
  ·rename_i hp;simp only[hp,if_true]at G;simp only[aj]at B;obtain⟨c,Q,B⟩:=B;obtain⟨v,k1,k2⟩:=oq (dst:=Z d) (ty:=ty) (pos:=pos) (aft:=aft) (gd:=gd) H.inv G Q;exact aeG B.symm k1 (k2 w (λ_=>qM.refl _ _ _))
  ·cases B
theorem WC(H:l_ t h F w0 m f w)(S:Tok t own h F w0){op:Op}{pR:KO}(X:(if pR.kT then J else WU P N num op O pR)=I)(v:Vf own m pR=Z m')
  (hK:∀f' w',l_ t h F w0 m' f' w'->K' f' w'):ui P N ⟨O,op,ty,pos,aft,gd⟩ f w K':=by
 unfold Vf at v
 split at v
 ·rename_i n a b;simp only[KO.kT,aD,if_false]at X
  split at v
  ·rename_i i o x hc hb
   split at v
   ·rename_i c NY
    split at v
    ·rename_i VS;obtain⟨rfl,V,B,Q⟩:=VS;simp only[aa]at v;subst v;cases op<;>first|(exfalso;simp[WU]at X;done)|skip
     rename_i T xa xv;simp only[WU,ai,beq_iff_eq]at X;obtain⟨⟨hT,IU⟩,qj⟩:=X;have hv:=tR H IU hc;simp only[Nk]at hv;have hr:=ct H.inv qj;rw[hb]at hr;simp only[CR]at hr;obtain⟨G,hG,_⟩:=hr;obtain⟨h1,h2,h3,W,Y,hL,hV⟩:=H.mt;obtain⟨e,r,q1,q2,q3,q4,q5,q6,q7⟩:=H.mt.at_ NY Y;have C:t.g∈F:=by
      rcases (S.own V).1 with h|h
      ·omega
      ·exact h
     have ud:=hL _ r q4;have yo:=(H.inv.fX _ (S.zero _ C).2.1).2 (t.p+(i * t.k+o));refine JH (Yg (λw=>run_sizeOf hT w) hv rfl hG.qZ ud yo) (hK _ _ ?_);generalize B_:(fr f N).eval xv=val at *;obtain⟨hG',rfl⟩:=hG.OA Q (w.setCell ⟨t.g,t.p+(i * t.k+o),O⟩ val);generalize hj:i * t.k+o=j at *;have ha:uC (Rk h F) (λo=>o=.ej) w (w.setCell ⟨t.g,t.p+j,O⟩ val):={
      os:=rfl,tape:=rfl,output:=rfl
      size:=by rw[zK];exact az _
      block:=λg hg hn=>pL _ _ _ _ (λe=>hn (by rw[e];simp[C]))
      cell:=λg q s=>by
       by_cases U:g=t.g
       ·subst U;have:=(S.zero _ C).1;simp only at s
        omega
       ·exact World.cell?_of_block (w:=w) (pL _ _ _ _ U)
      fX:=λg hg=>⟨by rw[zK];exact hg.1,λq=>by rw[Fg];exact hg.2 q⟩ }
     have AA:e.length=t.k:=h2 e (dS (by rw[<- eh];exact q1));have Ly:(m.es.set i (gU e o [x])).flatten=gU m.es.flatten j [x]:=by
      rw[DD m.es i o e [x] h2 q1 (by simpa using q2),hj]
     obtain⟨f1,f2⟩:=qg m.es i o 1 e h2 q1 q2;rw[hj]at f1 f2;obtain⟨l1,l2⟩:=ir.length _ Y;have RX:j < W.length:=by omega
     have hmt:MT t (w.setCell ⟨t.g,t.p+j,O⟩ val) (m.es.set i (gU e o [x])):=by
      refine⟨by simp[h1],λy hy=>?_,?_,gU W j [val],?_,?_,?_,λL=>by rw[(S.own V).2]at L;cases L⟩
      ·rcases gW hy with hy|rfl
       ·exact h2 y hy
       ·rw[BV _ _ _ (by simpa using (by omega))];exact AA
      ·have hpe:[x].map D.plain=((m.es.flatten.map D.plain).drop j).take 1:=by
        rw[<- pw,<- lM,f1,q3];simp[B,Q]
       rw[Ly,L7,hpe,Bi _ _ _ (by rw[aA];exact f2)];exact h3
      ·rw[Ly];have hFj:(t.Fs.drop j).take 1=[[]]:=by
        have:=ir.take _ 1 (ir.drop _ j Y);rw[f1,q3,q5]at this;simp only[ir]at this;obtain⟨v1,vs1,F1,Fs1,e1,e2,hR,_,rfl⟩:=this;rw[e2,(hR.OA B w).2]
       have RY:ir (w.setCell ⟨t.g,t.p+j,O⟩ val) m.es.flatten W t.Fs:=ir.dL _ Y (λG hG be hb=>pL _ _ _ _ (S.fs G hG be hb).2);have:=ir.xt j RY (show ir (w.setCell ⟨t.g,t.p+j,O⟩ val) [x] [val] [[]] by simp only[ir];exact⟨val,[],[],[],rfl,rfl,hG',rfl,rfl⟩);rw[<- hFj,Bi t.Fs j 1 (by omega)]at this;exact this
      ·intro q y s;have hz':=s;simp only[gU,oX]at s;by_cases K:q=j
       ·subst K;have e1:y=val:=by
         rw[bB,dw (by simp;omega)]at s;simp[cI (by omega:q<=W.length)]at s;exact s.symm
        subst e1;exact JU _ _ _ _ ud
       ·rw[JT _ _ _ _ (by omega)];refine hL q y ?_;rw[bB]at s;rcases dH q j with ed|wT
        ·rw[dd (by simp;omega),cQ,if_pos ed]at s;exact s
        ·rw[dw (by simp;omega),bj,cI (by omega),dw (by simp;omega),fK]at s;simp only[oX]at s;rw[show j+1+(q - j - 1)=q by omega]at s;exact s
      ·intro q s;have K:q≠j:=λe=>by
        subst e;rw[q6,B]at s;cases s
       rw[<- hV.1 q s];simp only[gU,oX,bB];rcases dH q j with ed|wT
       ·rw[dd (by simp;omega),cQ,if_pos ed]
       ·rw[dw (by simp;omega),bj,cI (by omega),dw (by simp;omega),fK];simp only[oX];rw[show j+1+(q - j - 1)=q by omega]
     have i1:=H.go (sp':=m.sp.map λp=>(p.1,p.2.xo)) ha hmt (λd c R=>?_)
     ·simp only[MS.xo,MS.set,q1];exact i1
     ·have key:∀l:M (Nat×MC),look (l.map λp=>(p.1,p.2.xo)) d=(look l d).map MC.xo:=by
       intro l
       induction l with
       |nil=>rfl
       |cons p l ih=>
        simp only[aZ,look,ih]
        split<;>rfl
      rw[key]at R;simp only[aj]at R;obtain⟨c',R,rfl⟩:=R;cases c' with
      |sub i o n=>exact .inl rfl
      |_=>exact .inr ⟨R,λh=>by simp[MC.xo,MC.Qk]at h⟩
    ·cases v
   ·cases v
  ·cases v
 ·cases v
end
end
section
open Go.RowKit
section
variable {P:Program} {N:Nat} {t:Tree} {own:Bool} {h:Nat->Nat} {F:M Nat} {w0:World} {num:Nat->FuncId} {cf:Nat->M A->u (M A×M A)} {mf:Nat->Bool->M D->Int->u (M D×Int)}
theorem zr(C:∀g a r o,cf g a=Z (r,o)->xu w0 F P (num g) a r o)(B:∀g R L q K G,mf g R L q=Z (K,G)->ru w0 F P (num g) R L q K G)(l:Tok t own h F w0){c:Array Oper}{Kn:Fm->World->Prop} :
  ∀(os:M Oper) (e:M KI) {m j:MS} {f:Fm} {w:World},Ce P N num c os e=I->sq cf mf own t.k e m=Z j->l_ t h F w0 m f w->(∀v i,l_ t h F w0 j v i->Kn v i)->Ls P N c Kn os f w
 |[],[],m,j,f,w,_,b,n,p=>by
  simp only[sq,aa]at b;subst b;exact j_ (p f w n)
 |[],_::_,_,_,_,_,h,_,_,_=>by simp[Ce]at h
 |_::_,[],_,_,_,_,h,_,_,_=>by simp[Ce]at h
 |⟨dst,op,ty,pos,T,gd⟩::os,⟨d,V,U⟩::e,m,j,f,w,Q,b,n,p=>by
  simp only[Ce,ai,okI,beq_iff_eq]at Q;obtain⟨⟨⟨⟨rfl,hd⟩,S⟩,X⟩,H⟩:=Q;simp only[sq]at b
  split at b
  ·rename_i W s;unfold IH at s;cases U with
   |some x=>cases s
   |none=>
    cases gd with
    |some x=>simp[Mn]at S
    |none=>
     refine gq wn ?_
     cases dst with
     |some d=>
      refine WD C B n l ?_ s (λv i y=>zr C B l os e H b y p)
      simp_all
     |none=>
      refine WC (num:=num) n l ?_ s (λv i y=>zr C B l os e H b y p)
      simp_all
  ·cases b
theorem l_.dL{m:MS}{f:Fm}{w:World}(b:l_ t h F w0 m f w)(e:mo):l_ t h F w0 (m.dL e) f w:=
 ⟨b.inv.sub (λd c a=>mh _ _ d c a) (λd c a=>mh _ _ d c a) (λd c a=>mh _ _ d c a),b.mt,λd c a=>b.sp d c (mh _ _ d c a),b.lt⟩
theorem ig(L:∀g a r o,cf g a=Z (r,o)->xu w0 F P (num g) a r o)(H:∀g ag ds q iL q',mf g ag ds q=Z (iL,q')->ru w0 F P (num g) ag ds q iL q')(Q:Tok t own h F w0)(n:Nat):∀(k:K) (c:Code) {m:MS} {f:Fm} {w:World} {e:Ex} {G:MS},pd P N num k c=I->eB cf mf own t.k n k m=Z (e,G)->l_ t h F w0 m f w->
  W P N c (λf w=>e=.norm/\l_ t h F w0 G f w) (λi f w=>e=.exit i/\l_ t h F w0 G f w) (λf w=>e=.ret/\l_ t h F w0 G f w) f w
 | .skip,c,m,f,w,e,G,B,s,C=>by
  cases c<;>simp[pd]at B
  simp only[eB,aa,aC]at s;obtain⟨rfl,rfl⟩:=s;exact yf ⟨rfl,C⟩
 | .Q5 is kp,c,m,f,w,e,G,B,s,C=>by
  cases c with
  |region id U draw=>
   cases draw with
   |true=>simp[pd]at B
   |false=>
    simp only[pd]at B;simp only[eB]at s
    split at s
    ·rename_i V S;simp only[aa,aC]at s;obtain⟨rfl,rfl⟩:=s;have hl:=zr (Kn:=λf w=>Ex.norm=.norm/\l_ t h F w0 (V.dL kp) f w) L H Q U.toList is B S C (λf' w' qF=>⟨rfl,qF.dL kp⟩);obtain⟨l⟩:=U;exact fh (l:=l) hl
    ·cases s
  |_=>simp[pd]at B
 | .TK is kp,c,m,f,w,e,G,B,s,C=>by simp[eB]at s
 | .seq a b,c,m,f,w,e,G,B,s,C=>by
  cases c with
  |seq R cb=>
   simp only[pd,ai]at B;simp only[eB]at s;refine jS ?_
   split at s
   ·rename_i V S;refine mu (ig L H Q n a R B.1 S C) (λf w v=>ig L H Q n b cb B.2 s v.2) (λi f w v=>?_) (λf w v=>?_)
    ·cases v.1
    ·cases v.1
   ·rename_i X;refine mu (ig L H Q n a R B.1 s C) (λf w v=>?_) (λi f w v=>v) (λf w v=>v);obtain⟨rfl,_⟩:=v;exact absurd s (X G)
  |_=>simp[pd]at B
 | .cond x a b,c,m,f,w,e,G,B,s,C=>by
  cases c with
  |cond y R cb=>
   simp only[pd,ai]at B;obtain⟨⟨S,h2⟩,h3⟩:=B;simp only[eB]at s;have Y:=ct C.inv S
   split at s
   ·rename_i b0 ht;rw[ht]at Y;have Y:=qR Y;cases b0 with
    |true=>exact Bm Y (ig L H Q n a R h2 (by simpa using s) C)
    |false=>exact ye Y (ig L H Q n b cb h3 (by simpa using s) C)
   ·cases s
  |_=>simp[pd]at B
 | .block i a,c,m,f,w,e,G,B,s,C=>by
  cases c with
  |block j R=>
   simp only[pd,ai,beq_iff_eq]at B;obtain⟨rfl,B⟩:=B;simp only[eB]at s;refine wM ?_
   split at s
   ·rename_i i' V S;refine mu (ig L H Q n a R B S C) (λf w v=>by cases v.1) (λq f w v=>?_) (λf w v=>by cases v.1);obtain⟨e1,v⟩:=v;cases e1
    split at s
    ·rename_i T;simp only[aa,aC]at s;obtain⟨rfl,rfl⟩:=s;rw[if_pos T];exact⟨rfl,v⟩
    ·rename_i T;simp only[aa,aC]at s;obtain⟨rfl,rfl⟩:=s;rw[if_neg T];exact⟨rfl,v⟩
   ·rename_i X;refine mu (ig L H Q n a R B s C) (λf w v=>v) (λq f w v=>?_) (λf w v=>v);obtain⟨rfl,_⟩:=v;exact absurd s (X q G)
  |_=>simp[pd]at B
 | .loop a,c,m,f,w,e,G,B,s,C=>by
  cases c with
  |loop R=>
   simp only[pd]at B;simp only[eB]at s;refine Kb (λp f w=>∃m,l_ t h F w0 m f w/\iterM (eB cf mf own t.k n a) p m=Z (e,G)) n ⟨m,C,s⟩ ?_
   rintro p f w ⟨m,C,s⟩
   cases p with
   |zero=>simp[iterM]at s
   |succ p=>
    simp only[iterM]at s
    split at s
    ·rename_i V S;refine mu (ig L H Q n a R B S C) (λf w v=>⟨p,by omega,V,v.2,s⟩) (λi f w v=>by cases v.1) (λf w v=>by cases v.1)
    ·rename_i X;refine mu (ig L H Q n a R B s C) (λf w v=>?_) (λi f w v=>v) (λf w v=>v);obtain⟨rfl,_⟩:=v;exact absurd s (X G)
  |_=>simp[pd]at B
 | .exit i,c,m,f,w,e,G,B,s,C=>by
  cases c<;>simp[pd]at B
  subst B;simp only[eB,aa,aC]at s;obtain⟨rfl,rfl⟩:=s;exact Ka ⟨rfl,C⟩
 | .ret,c,m,f,w,e,G,B,s,C=>by
  cases c<;>simp[pd]at B
  simp only[eB,aa,aC]at s;obtain⟨rfl,rfl⟩:=s;exact H_ ⟨rfl,C⟩
 | .share r a,c,m,f,w,e,G,B,s,C=>by simp[eB]at s
 | .Kk d a,c,m,f,w,e,G,B,s,C=>by simp[eB]at s
end
theorem E0{r:Nat}{x:u (Ex×MS)}{es:M (M D)}{q:Int}(h:zy r x=Z (es,q)):∃e m,x=Z (e,m)/\(e=.norm\/e=.ret)/\m.s.get r=.d (.int .i64 q)/\m.es=es:=by
 unfold zy at h
 grind
theorem Inv.chg{h:Nat->Nat}{F:M Nat}{b:World}{s:St}{f:Fm}{w:World}(a:Inv (Rk h F) h F b s f w):Bw h F b w h:=
 ⟨a.os,a.tape,a.output,a.size,a.frame,a.cell,a.mono,a.hold,a.fW,a.fX⟩
theorem Zi{es:M (M D)}(h:∀b∈es.flatten.map D.plain,b=I):flat es:=λe c x a=>h _ (cH (fx.2 ⟨e,c,a⟩))
theorem Hb{P:Program}{num:Nat->FuncId}{T:Nat->u KF}(hm:P.follows .mixedOrders=I)(hj:Rr P num)(hT:∀f kf,T f=Z kf->Yq P num f kf) :
  ∀(n f:Nat) (Q:Bool) (C:M D) (q:Int) (S:M D) (R:Int),F7 T n f Q C q=Z (S,R)->CZ P (num f) Q C q S R
 |0,f,Q,C,q,S,R,p=>by simp[F7]at p
 |n+1,f,Q,C,q,S,R,p=>by
  have mV:∀g a r o,yN T n g a=Z (r,o)->oY P (num g) a r o:=λg a r o=>v8 hm hj hT n g a r o;have nF:∀g Q C q S R,F7 T n g Q C q=Z (S,R)->CZ P (num g) Q C q S R:=λg Q C q S R=>Hb hm hj hT n g Q C q S R;simp only[F7]at p
  split at p
  ·rename_i body r hkf;have cR:=(hT f _ hkf).1 (by simp);unfold okF at cR
   split at cR
   ·rename_i K Gd
    split at cR
    ·rename_i c hc;simp only[ai]at cR;obtain⟨⟨LF,ZB⟩,AD⟩:=cR;intro w h v vs L RR hr ajA ajB hq kl hz fW;have ed:∀g∈L.flatten.map cr,g < w.heap.size:=λg H=>by
      obtain⟨be,X,rfl⟩:=bZ.1 H;exact fE.lt _ (ir.toC _ hr) be X
     have U:∀g∈L.flatten.map cr,h g=0/\oG w g/\g < w.heap.size:=λg H=>by
      have B:=ed g H;obtain⟨be,X,rfl⟩:=bZ.1 H;obtain⟨G,hG,X⟩:=fx.1 X;exact⟨(hz G hG be X).1,(hz G hG be X).2,B⟩
     refine enter (N:=K.ntmps) Gd hc rfl ZB ?_;have i0:Inv (Rk h (L.flatten.map cr)) h (L.flatten.map cr) w ⟨[],[],[]⟩ (λi=>#[v,.int .i64 q].getD i undef) w:={
      sl:=λd c B=>by simp[look]at B
      bx:=λd c B=>by simp[look]at B
      rw:=λd c B=>by simp[look]at B
      own:=λg H=>by
       by_cases hF:g∈L.flatten.map cr
       ·exact⟨ed g hF,.inr hF⟩
       ·simp only[if_neg hF]at H;exact absurd rfl H
      nS:=λg b H=>by dsimp only at H;split at H<;>cases H
      fW:=fW,os:=rfl,tape:=rfl,output:=rfl,size:=az _,frame:=λ_ _ _=>rfl,cell:=λ_ _ _ _=>rfl,mono:=λ_ _=>az _,hold:=λ_ _ _=>rfl,fX:=λ_ h=>h }
     have i1:Inv (Rk h (L.flatten.map cr)) h (L.flatten.map cr) w ⟨[(1,.d (.int .i64 q))],[],[]⟩ (λi=>#[v,.int .i64 q].getD i undef) w:=i0.W3 1 _ (iP hq);have ZF:K.results=#[.tmp r]/\gh r K.ntmps=I:=by
      obtain⟨rs⟩:∃rs,rs=K.results.toList:=⟨_,rfl⟩
      match B:K.results.toList,AD with
      |[],h=>rw[B]at AD;simp[JI]at AD
      |_::_::_,h=>rw[B]at AD;simp[JI]at AD
      |[x],h=>
       rw[B]at AD;simp only[JI,gm]at AD;cases x with
       |cell a T=>simp[Mp]at AD
       |tmp a=>
        simp only[Mp,ai,beq_iff_eq]at AD;obtain⟨rfl,h2⟩:=AD;exact⟨by rw[<- yi (xs:=K.results),B],h2⟩
     split at p
     ·rename_i wh;subst wh;have za:=ajA rfl
      split at p
      ·rename_i b is kp By
       split at p
       ·rename_i m1 ajJ
        split at p
        ·rename_i sZ q1 B9;simp only[aa,aC]at p;obtain⟨rfl,rfl⟩:=p;obtain⟨ex,V,hev,hex,VW,xk⟩:=E0 B9;cases c with
         |seq ca cb=>
          simp only[pd,ai]at LF;obtain⟨R1,ajY⟩:=LF;cases ca with
          |region id ops draw=>
           cases draw with
           |true=>simp[pd]at R1
           |false=>
            simp only[pd]at R1;refine jS ?_;obtain⟨l⟩:=ops;refine fh (l:=l) ?_;cases l with
            |nil=>simp[Ce]at R1
            |cons o1 os=>
             obtain⟨dst,op,ty,pos,aft,gd⟩:=o1;simp only[Ce,ai,okI,beq_iff_eq]at R1;obtain⟨⟨⟨⟨rfl,hd⟩,H⟩,kL⟩,po⟩:=R1;cases gd with
             |some x=>simp[Mn]at H
             |none=>
              simp only[KO.kT,aD,if_false]at kL;cases op<;>first|(exfalso;simp[WU]at kL;done)|skip
              rename_i T0 x0;simp only[WU]at kL;have hx0:(fr (λi=>#[v,.int .i64 q].getD i undef) K.ntmps).eval x0=v:=by
               cases x0<;>simp only[ki,ai,beq_iff_eq,aD]at kL
               obtain⟨rfl,hN⟩:=kL;rw[Cz _ (by simpa using hN)];rfl
              refine gq wn ?_;have mF:(execOp (fr (λi=>#[v,.int .i64 q].getD i undef) K.ntmps).eval ⟨Z b,.box T0 x0,ty,pos,aft,O⟩).run P w=.ok (.value (.pointer (Z ⟨w.heap.size,0,O⟩))) (w.alloc (.cells vs.toArray T0)):=by
               have h0:(execOp (fr (λi=>#[v,.int .i64 q].getD i undef) K.ntmps).eval ⟨Z b,.box T0 x0,ty,pos,aft,O⟩).run P w=.ok (.value (.pointer (Z ⟨w.heap.size,0,O⟩))) (w.alloc (.cells ((fr (λi=>#[v,.int .i64 q].getD i undef) K.ntmps).eval x0).cells.toList.toArray T0)):=by
                simp[execOp,Instr.box,newVar,newRow,newObj,Sem.run]
               rw[hx0]at h0;have h3:v.cells.toList.toArray=vs.toArray:=by rw[za];simp[Value.cells]
               rw[h3]at h0;exact h0
              refine HJ mF λw1 ZH RY hB=>?_;obtain⟨l1,l2⟩:=ir.length _ hr;have ZI:Tok ⟨w.heap.size,0,C.length,1,L,vs,C.map D.plain,I⟩ J h (L.flatten.map cr) w:=⟨λG hG be X=>by
                have N3:be.1∈L.flatten.map cr:=cH (fx.2 ⟨G,hG,X⟩);have:=ed _ N3;exact⟨N3,λe=>by simp only at e;omega⟩,kl,U,λh=>by cases h⟩
              have hkr:ir w1 C vs L:=ir.dL _ hr (λG hG be X=>RY.block _ (ed _ (cH (fx.2 ⟨G,hG,X⟩))));have iw:Inv (Rk h (L.flatten.map cr)) h (L.flatten.map cr) w ⟨[(1,.d (.int .i64 q))],[],[]⟩ (λi=>#[v,.int .i64 q].getD i undef) w1:=i1.Co RY;have ajS:l_ ⟨w.heap.size,0,C.length,1,L,vs,C.map D.plain,I⟩ h (L.flatten.map cr) w ⟨⟨[(1,.d (.int .i64 q))],[],[]⟩,[],[C]⟩ (λi=>#[v,.int .i64 q].getD i undef) w1:=
               ⟨iw,⟨rfl,λe p=>(by simp at p;simp[p]),by simp,vs,by simpa using hkr,hB.Oc,λ_ _=>rfl,λ_=>rfl⟩,λd c B=>by simp[look]at B,.inr (by simp only;omega)⟩
              have ajT:=ajS.kU (d:=b) (c:=.ep 0 0) (v:=.pointer (Z ⟨w.heap.size,0,O⟩)) (by simp[Nk]);refine zr (λg a r o p=>(mV g a r o p).at_ RR) (λg Q C q S R p=>(nF g Q C q S R p).at_ RR) ZI os is po ajJ ajT λf2 w2 TO=>?_;have VP:=ig (P:=P) (N:=K.ntmps) (num:=num) (λg a r o p=>(mV g a r o p).at_ RR) (λg Q C q S R p=>(nF g Q C q S R p).at_ RR) ZI n By cb ajY hev (TO.dL kp);have done:∀F s,l_ ⟨w.heap.size,0,C.length,1,L,vs,C.map D.plain,I⟩ h (L.flatten.map cr) w V F s->∃m,(results K (fr F K.ntmps).tmps).run P s=.ok m s/\Ending.returned m=.returned (.int .i64 q1)/\IntKind.i64.wrap q1=q1/\ir s sZ vs L/\sZ.map D.plain=C.map D.plain/\Bw h (L.flatten.map cr) w s h:=by
               intro F s qF;have H:=qF.inv.get r;rw[VW]at H;obtain⟨g1,g2⟩:=iM H;obtain⟨m1',m2',m3',Gv,m4',m5',m6',m7'⟩:=qF.mt;rw[xk]at m3' m4';have e1:=m7' rfl;simp only at e1
               subst e1;refine⟨_,HO ZF.1 g1 ZF.2,rfl,g2,by simpa using m4',by simpa using m3',qF.inv.chg⟩
              refine mu VP (λF s fV=>done F s fV.2) (λi F s fV=>?_) (λF s fV=>done F s fV.2);rcases hex with rfl|rfl<;>cases fV.1
          |_=>simp[pd]at R1
         |_=>simp[pd]at LF
        ·cases p
       ·cases p
      ·cases p
     ·rename_i wh;have wh:Q=J:=by simpa using wh
      subst wh
      split at p
      ·rename_i k fl es
       split at p
       ·rename_i jK q1 B9;simp only[aa,aC]at p;obtain⟨rfl,rfl⟩:=p;obtain⟨ex,V,hev,hex,VW,rfl⟩:=E0 B9;have hv:=ajB rfl;subst hv;simp only[ir]at hr;obtain⟨v',_,Y,_,hvv,rfl,yr,rfl,rfl⟩:=hr;simp only[bY,and_true]at hvv;subst hvv;simp only[eH,List.flatten_nil,aJ]at *;have acF:=yr;simp only[Rp]at yr;obtain⟨A,n0,cc,hvA,DN,CB,Zs,ti,hkp,u6,af2⟩:=yr;have fin:∀(t:Tree),Tok t I h (Y.map cr) w->t.k=k->l_ t h (Y.map cr) w ⟨⟨[(1,.d (.int .i64 q))],[],[]⟩,[(0,.lst)],es⟩ (λi=>#[v,.int .i64 q].getD i undef) w->
          (∀F s,l_ t h (Y.map cr) w V F s->Rp s (.list k fl V.es) v Y)->W P K.ntmps c (λf s=>∃m,(results K (fr f K.ntmps).tmps).run P s=.ok m s/\Ending.returned m=.returned (.int .i64 q1)/\IntKind.i64.wrap q1=q1/\ir s [.list k fl V.es] [v] [Y]/\[D.list k fl V.es].map D.plain=[D.list k fl es].map D.plain/\Bw h (Y.map cr) w s h) (λ_ _ _=>False) (λf s=>∃m,(results K (fr f K.ntmps).tmps).run P s=.ok m s/\Ending.returned m=.returned (.int .i64 q1)/\IntKind.i64.wrap q1=q1/\ir s [.list k fl V.es] [v] [Y]/\[D.list k fl V.es].map D.plain=[D.list k fl es].map D.plain/\Bw h (Y.map cr) w s h) (λi=>#[v,.int .i64 q].getD i undef) w:=by
         intro t ZI TS hmi af0;subst TS;have VP:=ig (P:=P) (N:=K.ntmps) (num:=num) (λg a r o p=>(mV g a r o p).at_ RR) (λg Q C q S R p=>(nF g Q C q S R p).at_ RR) ZI n body c LF hev hmi;have done:∀F s,l_ t h (Y.map cr) w V F s->∃m,(results K (fr F K.ntmps).tmps).run P s=.ok m s/\Ending.returned m=.returned (.int .i64 q1)/\IntKind.i64.wrap q1=q1/\ir s [.list t.k fl V.es] [v] [Y]/\[D.list t.k fl V.es].map D.plain=[D.list t.k fl es].map D.plain/\Bw h (Y.map cr) w s h:=by
          intro F s qF;have H:=qF.inv.get r;rw[VW]at H;obtain⟨g1,g2⟩:=iM H;refine⟨_,HO ZF.1 g1 ZF.2,rfl,g2,?_,rfl,qF.inv.chg⟩;simp only[ir];exact⟨v,[],Y,[],rfl,rfl,af0 F s qF,rfl,rfl⟩
         refine mu VP (λF s fV=>done F s fV.2) (λi F s fV=>?_) (λF s fV=>done F s fV.2);rcases hex with rfl|rfl<;>cases fV.1
        rcases af2 with ⟨age,hF0⟩|⟨V1,b,o,xs,G,hA,hF1,hE,hL⟩
        ·subst hF0;have xk:es=[]:=cP.1 (by omega);subst xk;refine fin ⟨0,0,k,0,[],[],[],J⟩ ⟨λG hG=>by simp at hG,by simp,λg H=>by simp at H,λ_=>⟨.inl rfl,rfl⟩⟩ rfl ⟨i1,⟨rfl,λe p=>by simp at p,rfl,[],by simp[ir],λj m hu=>by simp at hu,λj hj=>by simp at hj,λh=>by cases h⟩,λd c B=>?_,.inl rfl⟩ (λF s qF=>?_)
         ·simp only[look]at B
          split at B
          ·rename_i hd;subst hd;simp only[aa]at B;subst B;simp only[Nk];exact⟨A,cc,by simpa [age] using hvA,.inl trivial,nU _⟩
          ·cases B
         ·have:V.es=[]:=cP.1 qF.mt.1;rw[this];simp only[Rp];exact⟨A,n0,cc,hvA,by simpa using DN,CB,Zs,λ_=>jC,hkp,λe p=>by simp at p,.inl ⟨age,trivial⟩⟩
        ·subst hF1;obtain⟨Gs,rfl,hGs⟩:=ir.ofC _ (fy.toFlat _ hE);simp only[aZ]at kl U i1 fin;obtain⟨Ay,CA⟩:=cx.1 kl;refine fin ⟨b,o,k,n0,Gs,xs,es.flatten.map D.plain,J⟩ ⟨λG hG be X=>?_,CA,U,λ_=>⟨.inr (by simp),rfl⟩⟩ rfl ⟨i1,⟨DN.symm,u6,rfl,xs,hGs,hL,λ_ _=>rfl,λh=>by cases h⟩,λd c B=>?_,.inr (ed b (by simp))⟩ (λF s qF=>?_)
         ·have N3:be.1∈Gs.flatten.map cr:=cH (fx.2 ⟨G,hG,X⟩);exact⟨bT _ N3,λe=>Ay ((show be.1=b from e)▸N3)⟩
         ·simp only[look]at B
          split at B
          ·rename_i hd;subst hd;simp only[aa]at B;subst B;simp only[Nk];exact⟨A,cc,by simpa using hvA,.inr hA,by omega⟩
          ·cases B
         ·obtain⟨m1,m2,m3,Gv,m4,m5,m6⟩:=qF.mt;simp only[Rp];refine⟨A,n0,cc,hvA,m1.symm,CB,Zs,λhf=>?_,hkp,m2,.inr ⟨V1,b,o,Gv,Gs.flatten,hA,rfl,fy.WR _ (ir.toC _ m4),m5⟩⟩;refine Zi λx hx=>?_;simp only at m3
          rw[m3]at hx;obtain⟨y,hy,rfl⟩:=bZ.1 hx;obtain⟨e,p,hy⟩:=fx.1 hy;exact ti hf e p y hy
       ·cases p
      ·cases p
    ·cases cR
   ·cases cR
  ·cases p
end
section
abbrev Cf:=Nat->M A->u (M A×M A)
abbrev Mf:=Nat->Bool->M D->Int->u (M D×Int)
inductive Qu where
 |c (f:Nat) (a:List A) (r:List A×List A)
 |m (f:Nat) (g:Bool) (ds:List D) (q:Int) (r:List D×Int)
def Qu.ok(e:Cf)(b:Mf):Qu->Prop
 | .c f a r=>e f a=Z r
 | .m f g d q r=>b f g d q=Z r
abbrev Bu:=M Qu
def Told(b:Cf)(a:Mf)(L:Bu):Prop:=∀t∈L,t.ok b a
theorem Told.nil{b:Cf}{a:Mf}:Told b a []:=λ_ h=>by simp at h
theorem Told.left{c:Cf}{b:Mf}{L a:Bu}(h:Told c b (L++a)):Told c b L:=λt d=>h t (by simp[d])
theorem Told.right{c:Cf}{b:Mf}{L a:Bu}(h:Told c b (L++a)):Told c b a:=λt d=>h t (by simp[d])
theorem Told.append{d:Cf}{c:Mf}{L a:Bu}(h:Told d c L)(e:Told d c a):Told d c (L++a):=λt b=>by
 rcases aT.1 b with b|b
 ·exact h t b
 ·exact e t b
section
variable {cf:Cf} {mf:Mf}
theorem Zb{s p:St}{d:u Nat}{o:KO}(a:lQ cf mf s d o=Z p):∃L,Told cf mf L/\∀(b:Cf) (e:Mf),Told b e L->lQ b e s d o=Z p:=by
 cases o with
 |call f D=>
  simp only[lQ,xC]at a
  split at a
  ·cases a
  ·rename_i as has
   split at a
   ·rename_i B
    split at a
    ·cases a
    ·rename_i i outs r;refine⟨[.c f as (i,outs)],λt g=>by simp at g;subst g;exact r,λb e h=>?_⟩;have l:b f as=Z (i,outs):=h (.c f as (i,outs)) (by simp);simp only[lQ,xC,has,B,if_true,l];exact a
   ·cases a
 |YD f x y=>
  simp only[lQ]at a
  split at a
  ·rename_i d0 q w
   split at a
   ·rename_i n C
    split at a
    ·rename_i v
     split at a
     ·rename_i k j A;refine⟨[.m f (gj s x).isAgg n q (k,j)],λt g=>by simp at g;subst g;exact A,λb e h=>?_⟩;have l:e f (gj s x).isAgg n q=Z (k,j):=h (.m f (gj s x).isAgg n q (k,j)) (by simp);simp only[lQ,w,C,v,if_true,l];exact a
     ·cases a
    ·cases a
   ·cases a
  ·cases a
 |_=>exact⟨[],Told.nil,λb e _=>a⟩
theorem PI{s f:St}{d:u Nat}{o:KO}(c:B8 cf mf s d o=Z f):∃L,Told cf mf L/\∀(a:Cf) (b:Mf),Told a b L->B8 a b s d o=Z f:=by
 unfold B8 at c
 split at c
 ·rename_i e;exact⟨[],Told.nil,λa b _=>by simp only[B8,e,if_true];exact c⟩
 ·rename_i e;obtain⟨L,i,g⟩:=Zb c;exact⟨L,i,λa b h=>by simp only[B8,e];exact g a b h⟩
theorem IF{s d:St}{i:KI}(a:ux cf mf s i=Z d):∃L,Told cf mf L/\∀(b:Cf) (c:Mf),Told b c L->ux b c s i=Z d:=by
 unfold ux at a ⊢
 split at a
 ·exact PI a
 ·split at a
  ·split at a
   ·obtain⟨L,e,f⟩:=PI a;exact⟨L,e,λb c h=>by simp_all⟩
   ·exact⟨[],Told.nil,λb c _=>by simp_all⟩
  ·exact⟨[],Told.nil,λb c _=>by simp_all⟩
  ·cases a
theorem Hc:∀(f:M KI) {s e:St},nB cf mf f s=Z e->∃L,Told cf mf L/\∀(c:Cf) (d:Mf),Told c d L->nB c d f s=Z e
 |[],s,e,b=>⟨[],Told.nil,λc d _=>b⟩
 |i::f,s,e,b=>by
  simp only[nB]at b
  split at b
  ·rename_i l g;obtain⟨L,a1,a2⟩:=IF g;obtain⟨a,k,j⟩:=Hc f b;exact⟨L++a,a1.append k,λc d h=>by simp only[nB,a2 c d h.left,j c d h.right]⟩
  ·cases b
theorem oJ:∀(l:KT) {o:mo} {m:M (M Nat×Nat)} {s n:St},fU cf mf o l m s=Z n->∃L,Told cf mf L/\∀(f:Cf) (k:Mf),Told f k L->fU f k o l m s=Z n
 | .nil,o,m,s,n,e=>⟨[],Told.nil,λf k _=>e⟩
 | .op ⟨j,q,X,V,i⟩ l,o,m,s,n,e=>by
  simp only[fU]at e;cases q with
  |true=>
   simp only[if_true]at e
   split at e
   ·rename_i p
    split at e
    ·rename_i c b y A;obtain⟨L,a1,a2⟩:=oJ l e;exact⟨L,a1,λf k h=>by simp only[fU,if_true,p,y,A];exact a2 f k h⟩
    ·cases e
   ·rename_i g H p
    split at e
    ·rename_i b G
     split at e
     ·rename_i F
      split at e
      ·rename_i c W y A;obtain⟨L,a1,a2⟩:=oJ l e;exact⟨L,a1,λf k h=>by simp only[fU,if_true,p,G,F,y,A];exact a2 f k h⟩
      ·cases e
     ·rename_i F;obtain⟨L,a1,a2⟩:=oJ l e;exact⟨L,a1,λf k h=>by simp only[fU,if_true,p,G,F,if_false];exact a2 f k h⟩
    ·rename_i U;obtain⟨L,a1,a2⟩:=oJ l e;exact⟨L,a1,λf k h=>by simp only[fU,if_true,p,U];exact a2 f k h⟩
    ·cases e
  |false=>
   simp only[mm,aD,if_false]at e
   split at e
   ·rename_i N B
    split at e
    ·rename_i t;obtain⟨L,a1,a2⟩:=IF B;obtain⟨d,D,C⟩:=oJ l e;exact⟨L++d,a1.append D,λf k h=>by simp only[fU,mm,aD,if_false,a2 f k h.left,t,if_true];exact C f k h.right⟩
    ·cases e
   ·cases e
 | .alt x l r,o,m,s,n,e=>by
  have w:mm cf mf x m s (fU cf mf o l)=Z n/\fU cf mf o r m s=Z n:=by
   simp only[fU,both]at e
   split at e
   ·rename_i a b T S
    split at e
    ·rename_i K;subst K;cases e;exact⟨T,S⟩
    ·cases e
   ·cases e
  obtain⟨e,v⟩:=w;obtain⟨R,Q,P⟩:=oJ r v;simp only[mm]at e
  split at e
  ·rename_i N B
   split at e
   ·rename_i t;obtain⟨L,a1,a2⟩:=IF B;obtain⟨d,D,C⟩:=oJ l e;refine⟨(L++d)++R,(a1.append D).append Q,λf k h=>?_⟩;simp only[fU,mm,a2 f k h.left.left,t,if_true,C f k h.left.right,P f k h.right,both]
   ·cases e
  ·cases e
theorem jB:∀(k:K) {n:Nat} {s:St} {r:Ex×St},jb cf mf n k s=Z r->∃L,Told cf mf L/\∀(j:Cf) (l:Mf) (o:Nat),Told j l L->n<=o->jb j l o k s=Z r
 | .skip,n,s,r,g=>⟨[],Told.nil,λj l o _ _=>by simpa [jb] using g⟩
 | .Q5 is H,n,s,r,g=>by
  simp only[jb]at g
  split at g
  ·rename_i y q;obtain⟨L,a1,a2⟩:=Hc is q;exact⟨L,a1,λj l o h _=>by simp only[jb,a2 j l h];exact g⟩
  ·cases g
 | .TK is H,n,s,r,g=>by
  simp only[jb]at g
  split at g
  ·rename_i y q;obtain⟨L,a1,a2⟩:=oJ is q;exact⟨L,a1,λj l o h _=>by simp only[jb,a2 j l h];exact g⟩
  ·cases g
 | .seq a b,n,s,r,g=>by
  simp only[jb]at g
  split at g
  ·rename_i y q;obtain⟨L,a1,a2⟩:=jB a q;obtain⟨f,F,D⟩:=jB b g;exact⟨L++f,a1.append F,λj l o h p=>by simp only[jb,a2 j l o h.left p];exact D j l o h.right p⟩
  ·rename_i B;obtain⟨L,a1,a2⟩:=jB a g;refine⟨L,a1,λj l o h p=>?_⟩;simp only[jb,a2 j l o h p];obtain⟨e,w⟩:=r;cases e with
   |norm=>exact absurd g (B w)
   |_=>rfl
 | .cond x a b,n,s,r,g=>by
  simp only[jb]at g
  split at g
  ·rename_i t G;cases t with
   |true=>
    simp only[if_true]at g;obtain⟨L,a1,a2⟩:=jB a g;exact⟨L,a1,λj l o h p=>by simp only[jb,G,if_true];exact a2 j l o h p⟩
   |false=>
    simp only[aD,if_false]at g;obtain⟨L,a1,a2⟩:=jB b g;exact⟨L,a1,λj l o h p=>by simp only[jb,G,aD,if_false];exact a2 j l o h p⟩
  ·cases g
 | .block i a,n,s,r,g=>by
  simp only[jb]at g
  split at g
  ·rename_i S y q;obtain⟨L,a1,a2⟩:=jB a q;exact⟨L,a1,λj l o h p=>by simp only[jb,a2 j l o h p];exact g⟩
  ·rename_i B;obtain⟨L,a1,a2⟩:=jB a g;refine⟨L,a1,λj l o h p=>?_⟩;simp only[jb,a2 j l o h p];obtain⟨e,w⟩:=r;cases e with
   |exit i=>exact absurd g (B i w)
   |_=>rfl
 | .loop a,n,s,r,g=>by
  simp only[jb]at g;have go:∀(m:Nat) (s:St),iter (jb cf mf n a) m s=Z r->∃L,Told cf mf L/\∀(j:Cf) (l:Mf) (o v:Nat),Told j l L->n<=o->m<=v->iter (jb j l o a) v s=Z r:=by
   intro m
   induction m with
   |zero=>intro s h;simp[iter]at h
   |succ m N=>
    intro s h;simp only[iter]at h
    split at h
    ·rename_i y q;obtain⟨L,a1,a2⟩:=jB a q;obtain⟨f,F,D⟩:=N y h;refine⟨L++f,a1.append F,λj l o v C p P=>?_⟩;obtain⟨A,rfl⟩:∃c,v=c+1:=⟨v - 1,by omega⟩
     simp only[iter,a2 j l o C.left p];exact D j l o A C.right p (by omega)
    ·rename_i B;obtain⟨L,a1,a2⟩:=jB a h;refine⟨L,a1,λj l o v C p P=>?_⟩;obtain⟨A,rfl⟩:∃c,v=c+1:=⟨v - 1,by omega⟩
     simp only[iter,a2 j l o C p];obtain⟨e,w⟩:=r;cases e with
     |norm=>exact absurd h (B w)
     |_=>rfl
  obtain⟨L,a1,a2⟩:=go n s g;exact⟨L,a1,λj l o h p=>by simp only[jb];exact a2 j l o o h p p⟩
 | .exit i,n,s,r,g=>⟨[],Told.nil,λj l o _ _=>by simpa [jb] using g⟩
 | .ret,n,s,r,g=>⟨[],Told.nil,λj l o _ _=>by simpa [jb] using g⟩
 | .share R a,n,s,r,g=>by
  simp only[jb]at g;obtain⟨L,a1,a2⟩:=jB a g;exact⟨L,a1,λj l o h p=>by simp only[jb];exact a2 j l o h p⟩
 | .Kk d a,n,s,r,g=>by
  simp only[jb]at g
  split at g
  ·rename_i Q hd;obtain⟨L,a1,a2⟩:=jB a g;exact⟨L,a1,λj l o h p=>by simp only[jb,hd];exact a2 j l o h p⟩
  ·cases g
theorem Xl{n:Nat}{e:KF}{args:M A}{r:M A×M A}(a:Fa cf mf n e args=Z r):∃L,Told cf mf L/\∀(c:Cf) (d:Mf) (b:Nat),Told c d L->n<=b->Fa c d b e args=Z r:=by
 unfold Fa at a
 split at a
 ·rename_i i
  split at a
  ·rename_i s g;obtain⟨L,a1,a2⟩:=jB e.body g;exact⟨L,a1,λc d b h f=>by simp only[Fa,i,if_true,a2 c d b h f];exact a⟩
  ·rename_i s g;obtain⟨L,a1,a2⟩:=jB e.body g;exact⟨L,a1,λc d b h f=>by simp only[Fa,i,if_true,a2 c d b h f];exact a⟩
  ·cases a
 ·cases a
end
section
variable {cf:Cf} {mf:Mf} {own:Bool} {k:Nat}
theorem yQ{m g:MS}{d f:Nat}{e:M KX}(a:F8 cf m d f e=Z g):∃L,Told cf mf L/\∀(b:Cf) (j:Mf),Told b j L->F8 b m d f e=Z g:=by
 simp only[F8]at a
 split at a
 ·rename_i as has
  split at a
  ·rename_i r l;refine⟨[.c f as ([.val J [.d r]],[])],λt i=>by simp at i;subst i;exact l,λb j h=>?_⟩;have n:b f as=_:=h (.c f as ([.val J [.d r]],[])) (by simp);simp only[F8,has,n];exact a
  ·cases a
 ·cases a
theorem Vi{m A:MS}{d f:Nat}{c:MC}{y:C}(a:IJ mf m d f c y=Z A):∃L,Told cf mf L/\∀(s:Cf) (b:Mf),Told s b L->IJ b m d f c y=Z A:=by
 unfold IJ at a
 split at a
 ·rename_i i o q
  split at a
  ·rename_i k v es l
   split at a
   ·rename_i x g p;refine⟨[.m f J [.list k v es] q ([x],g)],λt j=>by simp at j;subst j;exact p,λs b h=>?_⟩;have r:b f J [.list k v es] q=_:=h (.m f J [.list k v es] q ([x],g)) (by simp);simp only[IJ,l,r];exact a
   ·cases a
  ·cases a
 ·rename_i i o n q
  split at a
  ·rename_i e l
   split at a
   ·rename_i w g p;refine⟨[.m f I ((e.drop o).take n) q (w,g)],λt j=>by simp at j;subst j;exact p,λs b h=>?_⟩;have r:b f I ((e.drop o).take n) q=_:=h (.m f I ((e.drop o).take n) q (w,g)) (by simp);simp only[IJ,l,r];exact a
   ·cases a
  ·cases a
 ·cases a
theorem Vg{m i:MS}{d:Nat}{o:KO}(b:Dq cf mf k m d o=Z i):∃L,Told cf mf L/\∀(e:Cf) (g:Mf),Told e g L->Dq e g k m d o=Z i:=by
 cases o with
 |call f h=>
  rcases h with _|⟨x,_|⟨y,_|⟨a,h⟩⟩⟩
  ·simp only[Dq]at b ⊢;exact yQ b
  ·simp only[Dq]at b ⊢;exact yQ b
  ·simp only[Dq]at b ⊢;cases j:m.TX x with
   |none=>rw[j]at b;exact yQ b
   |some c=>rw[j]at b;exact Vi b
  ·simp only[Dq]at b ⊢;exact yQ b
 |_=>exact⟨[],Told.nil,λe g _=>b⟩
theorem Vh{m e:MS}{i:KI}(a:IH cf mf own k m i=Z e):∃L,Told cf mf L/\∀(b:Cf) (c:Mf),Told b c L->IH b c own k m i=Z e:=by
 obtain⟨d,o,g⟩:=i;cases g with
 |some g=>simp[IH]at a
 |none=>
  cases d with
  |some d=>exact Vg a
  |none=>exact⟨[],Told.nil,λb c _=>a⟩
theorem Du:∀(f:M KI) {m e:MS},sq cf mf own k f m=Z e->∃L,Told cf mf L/\∀(c:Cf) (d:Mf),Told c d L->sq c d own k f m=Z e
 |[],m,e,b=>⟨[],Told.nil,λc d _=>b⟩
 |i::f,m,e,b=>by
  simp only[sq]at b
  split at b
  ·rename_i n g;obtain⟨L,a1,a2⟩:=Vh g;obtain⟨a,l,j⟩:=Du f b;exact⟨L++a,a1.append l,λc d h=>by simp only[sq,a2 c d h.left,j c d h.right]⟩
  ·cases b
theorem kK:∀(c:K) {n:Nat} {s:MS} {r:Ex×MS},eB cf mf own k n c s=Z r->∃L,Told cf mf L/\∀(o:Cf) (p:Mf) (l:Nat),Told o p L->n<=l->eB o p own k l c s=Z r
 | .skip,n,s,r,j=>⟨[],Told.nil,λo p l _ _=>by simpa [eB] using j⟩
 | .Q5 is N,n,s,r,j=>by
  simp only[eB]at j
  split at j
  ·rename_i C w;obtain⟨L,a1,a2⟩:=Du is w;exact⟨L,a1,λo p l h _=>by simp only[eB,a2 o p h];exact j⟩
  ·cases j
 | .TK is N,n,s,r,j=>by simp[eB]at j
 | .seq a b,n,s,r,j=>by
  simp only[eB]at j
  split at j
  ·rename_i C w;obtain⟨L,a1,a2⟩:=kK a w;obtain⟨g,G,F⟩:=kK b j;exact⟨L++g,a1.append G,λo p l h q=>by simp only[eB,a2 o p l h.left q];exact F o p l h.right q⟩
  ·rename_i B;obtain⟨L,a1,a2⟩:=kK a j;refine⟨L,a1,λo p l h q=>?_⟩;simp only[eB,a2 o p l h q];obtain⟨e,y⟩:=r;cases e with
   |norm=>exact absurd j (B y)
   |_=>rfl
 | .cond x a b,n,s,r,j=>by
  simp only[eB]at j
  split at j
  ·rename_i t H;cases t with
   |true=>
    simp only[if_true]at j;obtain⟨L,a1,a2⟩:=kK a j;exact⟨L,a1,λo p l h q=>by simp only[eB,H,if_true];exact a2 o p l h q⟩
   |false=>
    simp only[aD,if_false]at j;obtain⟨L,a1,a2⟩:=kK b j;exact⟨L,a1,λo p l h q=>by simp only[eB,H,aD,if_false];exact a2 o p l h q⟩
  ·cases j
 | .block i a,n,s,r,j=>by
  simp only[eB]at j
  split at j
  ·rename_i S C w;obtain⟨L,a1,a2⟩:=kK a w;exact⟨L,a1,λo p l h q=>by simp only[eB,a2 o p l h q];exact j⟩
  ·rename_i B;obtain⟨L,a1,a2⟩:=kK a j;refine⟨L,a1,λo p l h q=>?_⟩;simp only[eB,a2 o p l h q];obtain⟨e,y⟩:=r;cases e with
   |exit i=>exact absurd j (B i y)
   |_=>rfl
 | .loop a,n,s,r,j=>by
  simp only[eB]at j;have go:∀(m:Nat) (s:MS),iterM (eB cf mf own k n a) m s=Z r->∃L,Told cf mf L/\∀(o:Cf) (p:Mf) (l v:Nat),Told o p L->n<=l->m<=v->iterM (eB o p own k l a) v s=Z r:=by
   intro m
   induction m with
   |zero=>intro s h;simp[iterM]at h
   |succ m P=>
    intro s h;simp only[iterM]at h
    split at h
    ·rename_i C w;obtain⟨L,a1,a2⟩:=kK a w;obtain⟨g,G,F⟩:=P C h;refine⟨L++g,a1.append G,λo p l v D q Q=>?_⟩;obtain⟨A,rfl⟩:∃f,v=f+1:=⟨v - 1,by omega⟩
     simp only[iterM,a2 o p l D.left q];exact F o p l A D.right q (by omega)
    ·rename_i B;obtain⟨L,a1,a2⟩:=kK a h;refine⟨L,a1,λo p l v D q Q=>?_⟩;obtain⟨A,rfl⟩:∃f,v=f+1:=⟨v - 1,by omega⟩
     simp only[iterM,a2 o p l D q];obtain⟨e,y⟩:=r;cases e with
     |norm=>exact absurd h (B y)
     |_=>rfl
  obtain⟨L,a1,a2⟩:=go n s j;exact⟨L,a1,λo p l h q=>by simp only[eB];exact a2 o p l l h q q⟩
 | .exit i,n,s,r,j=>⟨[],Told.nil,λo p l _ _=>by simpa [eB] using j⟩
 | .ret,n,s,r,j=>⟨[],Told.nil,λo p l _ _=>by simpa [eB] using j⟩
 | .share R a,n,s,r,j=>by simp[eB]at j
 | .Kk d a,n,s,r,j=>by simp[eB]at j
end
def ae3{a:Type}(g:Nat->u a):Prop:=∀n m r,g n=Z r->n<=m->g m=Z r
open Classical in
noncomputable def lm{a:Type}(g:Nat->u a):u a:=if h:∃r n,g n=Z r then Z (Classical.choose h) else O
theorem ED{b:Type}{g:Nat->u b}(c:ae3 g)(r:b):lm g=Z r↔∃n,g n=Z r:=by
 unfold lm;split
 ·rename_i h;obtain⟨k,d⟩:=Classical.choose_spec h
  constructor
  ·intro e;simp only[aa]at e;exact⟨k,e▸d⟩
  ·rintro⟨n,a⟩
   have i:=c _ (max n k) _ d (by omega);have f:=c _ (max n k) _ a (by omega);rw[i]at f;exact f
 ·rename_i h
  constructor
  ·intro e;cases e
  ·rintro⟨n,a⟩;exact absurd ⟨r,n,a⟩ h
theorem abI{a:Type}{g:Nat->u a}(c:ae3 g){o:u a}(e:∀r n,g n=Z r->o=Z r)(d:∀r,o=Z r->∃n,g n=Z r):lm g=o:=by
 apply Option.ext
 intro r;rw[ED c];exact⟨λ⟨n,b⟩=>e r n b,d r⟩
section
variable (T:Nat->u KF)
theorem yO:∀(n b f:Nat) (a:M A) (r:M A×M A),yN T n f a=Z r->n<=b->yN T b f a=Z r
 |0,_,_,_,_,h,_=>by simp[yN]at h
 |n+1,b,f,a,r,h,k=>by
  obtain⟨m,rfl⟩:∃m,b=m+1:=⟨b - 1,by omega⟩
  simp only[yN]at h ⊢
  split at h
  ·cases h
  ·rename_i j i
   split at h
   ·rename_i d;rw[if_pos d];exact h
   ·rename_i d;rw[if_neg d];obtain⟨L,a1,a2⟩:=Xl h;refine a2 (yN T m) _ m (λt e=>?_) (by omega);have:=a1 t e;cases t with
    |c f a r=>exact yO n m _ _ _ this (by omega)
    |m f g l q r=>cases this
noncomputable def ej:Cf:=λf a=>lm λn=>yN T n f a
theorem wz(f:Nat)(a:M A)(r:M A×M A):ej T f a=Z r↔∃n,yN T n f a=Z r:=ED (λn m r h b=>yO T n m f a r h b) r
def HN(cells:M D):u (M (M D)×Int)->u (M D×Int)
 |some ([sZ],a)=>Z (sZ,a)
 |_=>O
def EZ(k:Nat)(c:Bool):u (M (M D)×Int)->u (M D×Int)
 |some (b,a)=>Z ([.list k c b],a)
 |none=>O
def runM(g:Bool->Nat->M KI->MS->u MS)(h:Bool->Nat->K->MS->u (Ex×MS))(c:KF)(f:Bool)(cells:M D)(q:Int):u (M D×Int):=
 match c with
 |⟨2,body,[.t r]⟩=>
   if f then (match body with
    | .seq (.Q5 (⟨Z b,.box (.s 0),O⟩::is) a) i=>
     (match g J cells.length is (MS.kU ⟨⟨[(1,.d (.int .i64 q))],[],[]⟩,[],[cells]⟩ b (.ep 0 0)) with
     |some m=>HN cells (zy r (h J cells.length i (m.dL a)))
     |none=>O)
    |_=>O)
   else (match cells with
    |[.list k e es]=>EZ k e (zy r (h I k body ⟨⟨[(1,.d (.int .i64 q))],[],[]⟩,[(0,.lst)],es⟩))
    |_=>O)
 |_=>O
theorem II(n f:Nat)(c:Bool)(cells:M D)(q:Int):F7 T (n+1) f c cells q=match T f with
  |some a=>runM (λown k=>sq (yN T n) (F7 T n) own k) (λown k=>eB (yN T n) (F7 T n) own k n) a c cells q
  |none=>O:=by
 simp only[F7];cases h:T f with
 |none=>rfl
 |some a=>
  dsimp only;unfold runM;rcases a with ⟨e,b,d⟩;dsimp only;split
  ·split
   ·split
    ·split
     ·rename_i m g;simp only[HN]
      split<;>simp_all
     ·simp_all
    ·simp_all
   ·split
    ·simp only[EZ]
     split<;>simp_all
    ·simp_all
  ·simp_all
end
end
section
theorem EE{a:Type}:∀(l:M (Nat×a)) {f:Nat} {x:a},look l f=Z x->(f,x)∈l
 |[],_,_,h=>by simp[look]at h
 |(k,y)::l,f,x,h=>by
  simp only[look]at h
  split at h
  ·rename_i e;cases h;simp[e]
  ·exact bT _ (EE l h)
section
variable (T:Nat->u KF)
theorem Fe{p:Cf}{o:Mf}{n:Nat}{x:KF}{A:Bool}{cells:M D}{q:Int}{r:M D×Int}(c:runM (λown k=>sq p o own k) (λown k=>eB p o own k n) x A cells q=Z r) :
  ∃L,Told p o L/\∀(f:Cf) (g:Mf) (l:Nat),Told f g L->n<=l->runM (λown k=>sq f g own k) (λown k=>eB f g own k l) x A cells q=Z r:=by
 unfold runM at c
 split at c
 ·rename_i i G
  split at c
  ·rename_i s
   split at c
   ·rename_i b F C B
    split at c
    ·rename_i m y;dsimp only at y c;obtain⟨L,a1,a2⟩:=Du F y;cases j:eB p o J cells.length n B (m.dL C) with
     |none=>rw[j]at c;simp[zy,HN]at c
     |some e=>
      obtain⟨a,w,v⟩:=kK B j;refine⟨L++a,a1.append w,λf g l h t=>?_⟩;simp only[runM,s,if_true,a2 f g h.left,v f g l h.right t];rw[j]at c;exact c
    ·cases c
   ·cases c
  ·rename_i s
   split at c
   ·rename_i k H es;dsimp only at c;cases j:eB p o I k n i ⟨⟨[(1,.d (.int .i64 q))],[],[]⟩,[(0,.lst)],es⟩ with
    |none=>rw[j]at c;simp[zy,EZ]at c
    |some e=>
     obtain⟨a,w,v⟩:=kK i j;refine⟨a,w,λf g l h t=>?_⟩;simp only[runM,s,v f g l h t];rw[j]at c;simp only[aD,if_false];exact c
   ·cases c
 ·cases c
theorem Dt:∀(n b f:Nat) (e:Bool) (d:M D) (q:Int) (r:M D×Int),F7 T n f e d q=Z r->n<=b->F7 T b f e d q=Z r
 |0,_,_,_,_,_,_,h,_=>by simp[F7]at h
 |n+1,b,f,e,d,q,r,h,j=>by
  obtain⟨m,rfl⟩:∃m,b=m+1:=⟨b - 1,by omega⟩
  rw[II]at h ⊢
  split at h
  ·obtain⟨L,a1,a2⟩:=Fe h;refine a2 (yN T m) (F7 T m) m (λt i=>?_) (by omega);have:=a1 t i;cases t with
   |c f a r=>exact yO T n m _ _ _ this (by omega)
   |m f g d q r=>exact Dt n m _ _ _ _ _ this (by omega)
  ·cases h
noncomputable def iD:Mf:=λf b a q=>lm λn=>F7 T n f b a q
theorem EC(f:Nat)(b:Bool)(a:M D)(q:Int)(r:M D×Int):iD T f b a q=Z r↔∃n,F7 T n f b a q=Z r:=ED (λn m r h c=>Dt T n m f b a q r h c) r
theorem zQ:∀(L:Bu),Told (ej T) (iD T) L->∃n,∀m,n<=m->Told (yN T m) (F7 T m) L
 |[],_=>⟨0,λm _ t i=>by simp at i⟩
 |t::L,h=>by
  obtain⟨n,k⟩:=zQ L (λt i=>h t (by simp[i]));have l:=h t (by simp);cases t with
  |c f a r=>
   obtain⟨m,j⟩:=(wz T _ _ _).1 l;refine⟨max n m,λb o d e=>?_⟩;rcases aI.1 e with rfl|e
   ·exact yO T m b _ _ _ j (by omega)
   ·exact k b (by omega) d e
  |m f g p q r=>
   obtain⟨m,j⟩:=(EC T _ _ _ _ _).1 l;refine⟨max n m,λb o d e=>?_⟩;rcases aI.1 e with rfl|e
   ·exact Dt T m b _ _ _ _ _ j (by omega)
   ·exact k b (by omega) d e
theorem abh{n:Nat}{L:Bu}(h:Told (yN T n) (F7 T n) L):Told (ej T) (iD T) L:=λt d=>by
 have b:=h t d;cases t with
 |c f a r=>exact (wz T f a r).2 ⟨n,b⟩
 |m f g e q r=>exact (EC T f g e q r).2 ⟨n,b⟩
abbrev wY:Mf:=λ_ _ _ _=>O
noncomputable def ev(a:Mf)(k:K)(s:St):u (Ex×St):=lm λn=>jb (ej T) a n k s
theorem nA(a:Mf)(k:K)(s:St):∀n m r,jb (ej T) a n k s=Z r->n<=m->jb (ej T) a m k s=Z r:=λn m r h b=>by
 obtain⟨L,a1,a2⟩:=jB k h;exact a2 _ _ m a1 b
theorem jN(a:Mf)(k:K)(s:St)(r:Ex×St):ev T a k s=Z r↔∃n,jb (ej T) a n k s=Z r:=ED (nA T a k s) r
section
variable (mf:Mf)
theorem Dx{k:K}{s:St}{o:u (Ex×St)}(b:∀r n,jb (ej T) mf n k s=Z r->o=Z r)(a:∀r,o=Z r->∃n,jb (ej T) mf n k s=Z r):ev T mf k s=o:=abI (nA T mf k s) b a
theorem uX{k:K}{s:St}{o:u (Ex×St)}(h:∀n,jb (ej T) mf n k s=o):ev T mf k s=o:=
 Dx T mf (λr n e=>by rw[<- h n];exact e) (λr e=>⟨0,by rw[h 0];exact e⟩)
theorem PK(s:St):ev T mf .skip s=Z (.norm,s):=uX T mf λn=>by simp[jb]
theorem Vt(s:St):ev T mf .ret s=Z (.ret,s):=uX T mf λn=>by simp[jb]
theorem PJ(i:Nat)(s:St):ev T mf (.exit i) s=Z (.exit i,s):=uX T mf λn=>by simp[jb]
def nrm(a:mo):u St->u (Ex×St)
 |some s=>Z (.norm,s.dL a)
 |none=>O
theorem Vs(a:M KI)(b:mo)(s:St):ev T mf (.Q5 a b) s=nrm b (nB (ej T) mf a s):=uX T mf λn=>by simp only[jb,nrm];split<;>simp_all
def Mg:u St->u (Ex×St)
 |some s=>Z (.norm,s)
 |none=>O
theorem Vr(a:KT)(b:mo)(s:St):ev T mf (.TK a b) s=Mg (fU (ej T) mf b a [] s):=uX T mf λn=>by simp only[jb,Mg];split<;>simp_all
def Gu(g:St->u (Ex×St)):u (Ex×St)->u (Ex×St)
 |some (.norm,s)=>g s
 |some (.exit i,s)=>Z (.exit i,s)
 |some (.ret,s)=>Z (.ret,s)
 |none=>O
theorem Cy{c:Cf}(n:Nat)(a b:K)(s:St):jb c mf n (.seq a b) s=Gu (jb c mf n b) (jb c mf n a s):=by
 simp only[jb,Gu];split
 ·rename_i h;simp only[h]
 ·rename_i h;split
  ·rename_i d e;exact absurd e (h d)
  ·simp_all
  ·simp_all
  ·simp_all
theorem Vu(a b:K)(s:St):ev T mf (.seq a b) s=Gu (ev T mf b) (ev T mf a s):=by
 apply Dx
 ·intro r n h;rw[Cy]at h;cases c:jb (ej T) mf n a s with
  |none=>rw[c]at h;simp[Gu]at h
  |some x=>
   rw[(jN T mf a s x).2 ⟨n,c⟩];rw[c]at h;rcases x with ⟨_|i|_,d⟩
   ·exact (jN T mf b d r).2 ⟨n,h⟩
   ·exact h
   ·exact h
 ·intro r h;cases c:ev T mf a s with
  |none=>rw[c]at h;simp[Gu]at h
  |some x=>
   obtain⟨n,e⟩:=(jN T mf a s x).1 c;rw[c]at h;rcases x with ⟨_|i|_,d⟩
   ·obtain⟨m,f⟩:=(jN T mf b d r).1 h;refine⟨max n m,?_⟩;rw[Cy,nA T mf a s n (max n m) _ e (by omega)];exact nA T mf b d m (max n m) _ f (by omega)
   ·exact⟨n,by rw[Cy,e];exact h⟩
   ·exact⟨n,by rw[Cy,e];exact h⟩
theorem gX(a:K)(s:St):ev T mf (.loop a) s=Gu (ev T mf (.loop a)) (ev T mf a s):=by
 have one:∀(f:Cf) n m s,iter (jb f mf n a) (m+1) s=Gu (iter (jb f mf n a) m) (jb f mf n a s):=by
  intro f n m s;simp only[iter,Gu];split
  ·rename_i h;simp only[h]
  ·rename_i h;split
   ·rename_i c o;exact absurd o (h c)
   ·simp_all
   ·simp_all
   ·simp_all
 apply Dx
 ·intro r n h;simp only[jb]at h;cases n with
  |zero=>simp[iter]at h
  |succ n=>
   rw[one]at h;cases d:jb (ej T) mf (n+1) a s with
   |none=>rw[d]at h;simp[Gu]at h
   |some x=>
    rw[(jN T mf a s x).2 ⟨n+1,d⟩];rw[d]at h;rcases x with ⟨_|i|_,c⟩
    ·refine (jN T mf (.loop a) c r).2 ⟨n+1,?_⟩;simp only[Gu]at h;have:jb (ej T) mf (n+1) (.loop a) c=Z r:=by
      simp only[jb];have go:∀(m:Nat) (s:St),iter (jb (ej T) mf (n+1) a) m s=Z r->iter (jb (ej T) mf (n+1) a) (m+1) s=Z r:=by
       intro m
       induction m with
       |zero=>intro s h;simp[iter]at h
       |succ m g=>
        intro s h;rw[one]at h ⊢;cases e:jb (ej T) mf (n+1) a s with
        |none=>rw[e]at h;simp[Gu]at h
        |some x=>
         rw[e]at h;rcases x with ⟨_|i|_,c⟩
         ·exact g c h
         ·exact h
         ·exact h
      exact go n c h
     exact this
    ·exact h
    ·exact h
 ·intro r h;cases d:ev T mf a s with
  |none=>rw[d]at h;simp[Gu]at h
  |some x=>
   obtain⟨n,j⟩:=(jN T mf a s x).1 d;rw[d]at h;rcases x with ⟨_|i|_,c⟩
   ·obtain⟨m,l⟩:=(jN T mf (.loop a) c r).1 h;refine⟨max n m+1,?_⟩;have k:=nA T mf (.loop a) c m (max n m) _ l (by omega);simp only[jb]at k ⊢;rw[one,nA T mf a s n (max n m+1) _ j (by omega)];simp only[Gu];have go:∀(b:Nat) (s:St),iter (jb (ej T) mf (max n m) a) b s=Z r->iter (jb (ej T) mf (max n m+1) a) b s=Z r:=by
     intro b
     induction b with
     |zero=>intro s h;simp[iter]at h
     |succ b g=>
      intro s h;rw[one]at h ⊢;cases e:jb (ej T) mf (max n m) a s with
      |none=>rw[e]at h;simp[Gu]at h
      |some x=>
       rw[e]at h;rw[nA T mf a s (max n m) (max n m+1) x e (by omega)];rcases x with ⟨_|i|_,c⟩
       ·exact g c h
       ·exact h
       ·exact h
    exact go _ _ k
   ·refine⟨n+1,?_⟩;simp only[jb];rw[one,nA T mf a s n (n+1) _ j (by omega)];exact h
   ·refine⟨n+1,?_⟩;simp only[jb];rw[one,nA T mf a s n (n+1) _ j (by omega)];exact h
def ife(c:C)(x y:u (Ex×St)):u (Ex×St):=
 match c with
 | .d (.bool t)=>if t then x else y
 |_=>O
theorem Dp{d:Cf}(n:Nat)(c:KX)(a b:K)(s:St):jb d mf n (.cond c a b) s=ife (gj s c) (jb d mf n a s) (jb d mf n b s):=by
 simp only[jb,ife];cases gj s c<;>rfl
theorem IK(c:KX)(a b:K)(s:St):ev T mf (.cond c a b) s=ife (gj s c) (ev T mf a s) (ev T mf b s):=by
 apply Dx
 ·intro r n h;rw[Dp]at h;unfold ife at h ⊢
  split at h
  ·split at h
   ·rename_i d;simp only[d,if_true];exact (jN T mf _ _ _).2 ⟨n,h⟩
   ·rename_i d;simp only[d];exact (jN T mf _ _ _).2 ⟨n,h⟩
  ·cases h
 ·intro r h;unfold ife at h
  split at h
  ·rename_i t f;cases t with
   |true=>obtain⟨n,e⟩:=(jN T mf _ _ _).1 h;exact⟨n,by rw[Dp,f];exact e⟩
   |false=>obtain⟨n,e⟩:=(jN T mf _ _ _).1 h;exact⟨n,by rw[Dp,f];exact e⟩
  ·cases h
def Ux(id:Nat):u (Ex×St)->u (Ex×St)
 |some (.norm,s)=>Z (.norm,s)
 |some (.exit i,s)=>if i=id then Z (.norm,s) else Z (.exit i,s)
 |some (.ret,s)=>Z (.ret,s)
 |none=>O
theorem G_{b:Cf}(n:Nat)(i:Nat)(a:K)(s:St):jb b mf n (.block i a) s=Ux i (jb b mf n a s):=by
 simp only[jb,Ux];split
 ·simp_all
 ·rename_i h;split
  ·simp_all
  ·rename_i j c d;exact absurd d (h j c)
  ·simp_all
  ·simp_all
theorem Lf(i:Nat)(a:K)(s:St):ev T mf (.block i a) s=Ux i (ev T mf a s):=by
 apply Dx
 ·intro r n h;rw[G_]at h;cases b:jb (ej T) mf n a s with
  |none=>rw[b]at h;simp[Ux]at h
  |some x=>rw[(jN T mf a s x).2 ⟨n,b⟩];rw[b]at h;exact h
 ·intro r h;cases b:ev T mf a s with
  |none=>rw[b]at h;simp[Ux]at h
  |some x=>
   obtain⟨n,c⟩:=(jN T mf a s x).1 b;rw[b]at h;exact⟨n,by rw[G_,c];exact h⟩
theorem Lg(q:Nat)(a:K)(s:St):ev T mf (.share q a) s=ev T mf a (fc s [q]):=by
 apply Dx
 ·intro r n h;simp only[jb]at h;exact (jN T mf _ _ _).2 ⟨n,h⟩
 ·intro r h;obtain⟨n,b⟩:=(jN T mf _ _ _).1 h;exact⟨n,by simp only[jb];exact b⟩
theorem Vq(d:Nat)(a:K)(s:St):ev T mf (.Kk d a) s=(s_ s d).bind (ev T mf a):=by
 have b:∀n,jb (ej T) mf n (.Kk d a) s=(s_ s d).bind (jb (ej T) mf n a):=by
  intro n;simp only[jb];cases s_ s d<;>rfl
 apply Dx
 ·intro r n h;rw[b]at h;cases hd:s_ s d with
  |none=>rw[hd]at h;simp at h
  |some c=>rw[hd]at h;exact (jN T mf _ _ _).2 ⟨n,h⟩
 ·intro r h;cases hd:s_ s d with
  |none=>rw[hd]at h;simp at h
  |some c=>rw[hd]at h;obtain⟨n,e⟩:=(jN T mf _ _ _).1 h;exact⟨n,by rw[b,hd];exact e⟩
def fin(a:KF)(args:M A):u (Ex×St)->u (M A×M A)
 |some (.norm,s)=>leave a args s
 |some (.ret,s)=>leave a args s
 |_=>O
noncomputable def run(a:KF)(args:M A):u (M A×M A):=if args.length=a.np then fin a args (ev T mf a.body (jW 0 args ⟨[],[],[]⟩)) else O
theorem Fc(b:Cf)(n:Nat)(a:KF)(args:M A):Fa b mf n a args=if args.length=a.np then fin a args (jb b mf n a.body (jW 0 args ⟨[],[],[]⟩)) else O:=by
 simp only[Fa];split
 ·simp only[fin]
  split<;>simp_all
 ·rfl
theorem aet{n:Nat}{b:KF}{args:M A}{r:M A×M A}(h:run T (iD T) b args=Z r):∃n,∀m,n<=m->Fa (yN T m) (F7 T m) m b args=Z r:=by
 unfold run at h
 split at h
 ·rename_i f;cases c:ev T (iD T) b.body (jW 0 args ⟨[],[],[]⟩) with
  |none=>rw[c]at h;simp[fin]at h
  |some x=>
   obtain⟨n,d⟩:=(jN T (iD T) _ _ _).1 c;obtain⟨L,a1,a2⟩:=jB _ d;obtain⟨m,e⟩:=zQ T L a1;refine⟨max n m,λa g=>?_⟩;rw[Fc,if_pos f,a2 _ _ a (e a (by omega)) (by omega),<- c];exact h
 ·cases h
theorem X2{d:Cf}{i:Mf}{L:Bu}(h:Told d wY L):Told d i L:=λt e=>by
 have b:=h t e;cases t with
 |c f a r=>exact b
 |m f g j q r=>cases b
theorem abg{d:Cf}{mf:Mf}{L:Bu}(h:Told d wY L)(i:∀f a r,d f a=Z r->ej T f a=Z r):Told (ej T) mf L:=λt e=>by
 have b:=h t e;cases t with
 |c f a r=>exact i f a r b
 |m f g j q r=>cases b
theorem WA{f:Nat}{b:K}{r:M KR}(c:T f=Z ⟨999,b,r⟩)(args:M A):ej T f args=XT f args:=by
 apply Option.ext
 intro r;rw[wz]
 constructor
 ·rintro⟨n,a⟩
  cases n with
  |zero=>simp[yN]at a
  |succ n=>simpa only [yN,c,if_true] using a
 ·intro h;exact⟨1,by simpa only [yN,c,if_true] using h⟩
theorem QC{f:Nat}{e:KF}(o:T f=Z e)(i:e.np≠999)(args:M A):ej T f args=run T wY e args:=by
 apply Option.ext
 intro r;rw[wz]
 constructor
 ·rintro⟨n,b⟩
  cases n with
  |zero=>simp[yN]at b
  |succ n=>
   simp only[yN,o,if_neg i]at b;rw[Fc]at b;unfold run
   split at b
   ·rename_i j;rw[if_pos j];cases d:jb (yN T n) wY n e.body (jW 0 args ⟨[],[],[]⟩) with
    |none=>rw[d]at b;simp[fin]at b
    |some x=>
     obtain⟨L,a1,a2⟩:=jB _ d;have k:=a2 (ej T) wY n (abg T a1 (λf a r h=>(wz T f a r).2 ⟨n,h⟩)) (by omega);rw[(jN T wY _ _ _).2 ⟨n,k⟩,<- d];exact b
   ·cases b
 ·intro h;unfold run at h
  split at h
  ·rename_i j;cases d:ev T wY e.body (jW 0 args ⟨[],[],[]⟩) with
   |none=>rw[d]at h;simp[fin]at h
   |some x=>
    obtain⟨n,b⟩:=(jN T wY _ _ _).1 d;obtain⟨L,a1,a2⟩:=jB _ b;obtain⟨m,p⟩:=zQ T L (X2 a1);refine⟨max n m+1,?_⟩;simp only[yN,o,if_neg i];rw[Fc,if_pos j,a2 (yN T (max n m)) wY (max n m) (λt l=>?_) (by omega),<- d]
    ·exact h
    ·have s:=a1 t l;have k:=p (max n m) (by omega) t l;cases t with
     |c f a r=>exact k
     |m f g v q r=>cases s
  ·cases h
end
noncomputable def xD(own:Bool)(k:Nat)(c:K)(s:MS):u (Ex×MS):=lm λn=>eB (ej T) (iD T) own k n c s
variable (own:Bool) (k:Nat)
theorem nc(c:K)(s:MS):∀n m r,eB (ej T) (iD T) own k n c s=Z r->n<=m->eB (ej T) (iD T) own k m c s=Z r:=λn m r h a=>by
 obtain⟨L,a1,a2⟩:=kK c h;exact a2 _ _ m a1 a
theorem jl(c:K)(s:MS)(r:Ex×MS):xD T own k c s=Z r↔∃n,eB (ej T) (iD T) own k n c s=Z r:=ED (nc T own k c s) r
theorem Dy{c:K}{s:MS}{o:u (Ex×MS)}(b:∀r n,eB (ej T) (iD T) own k n c s=Z r->o=Z r)(a:∀r,o=Z r->∃n,eB (ej T) (iD T) own k n c s=Z r):xD T own k c s=o:=abI (nc T own k c s) b a
theorem wb{c:K}{s:MS}{o:u (Ex×MS)}(h:∀n,eB (ej T) (iD T) own k n c s=o):xD T own k c s=o:=
 Dy T own k (λr n e=>by rw[<- h n];exact e) (λr e=>⟨0,by rw[h 0];exact e⟩)
theorem Vx(s:MS):xD T own k .skip s=Z (.norm,s):=wb T own k λn=>by simp[eB]
theorem Zd(s:MS):xD T own k .ret s=Z (.ret,s):=wb T own k λn=>by simp[eB]
theorem Vw(i:Nat)(s:MS):xD T own k (.exit i) s=Z (.exit i,s):=wb T own k λn=>by simp[eB]
def adf(a:mo):u MS->u (Ex×MS)
 |some s=>Z (.norm,s.dL a)
 |none=>O
theorem Zc(a:M KI)(b:mo)(s:MS):xD T own k (.Q5 a b) s=adf b (sq (ej T) (iD T) own k a s):=wb T own k λn=>by simp only[eB,adf]<;>split<;>simp_all
def Bl(g:MS->u (Ex×MS)):u (Ex×MS)->u (Ex×MS)
 |some (.norm,s)=>g s
 |some (.exit i,s)=>Z (.exit i,s)
 |some (.ret,s)=>Z (.ret,s)
 |none=>O
theorem yP{d:Cf}{c:Mf}(n:Nat)(a b:K)(s:MS):eB d c own k n (.seq a b) s=Bl (eB d c own k n b) (eB d c own k n a s):=by
 simp only[eB,Bl];split
 ·rename_i h;simp only[h]
 ·rename_i h;split
  ·rename_i e f;exact absurd f (h e)
  ·simp_all
  ·simp_all
  ·simp_all
theorem Ze(a b:K)(s:MS):xD T own k (.seq a b) s=Bl (xD T own k b) (xD T own k a s):=by
 apply Dy
 ·intro r n h;rw[yP]at h;cases c:eB (ej T) (iD T) own k n a s with
  |none=>rw[c]at h;simp[Bl]at h
  |some x=>
   rw[(jl T own k a s x).2 ⟨n,c⟩];rw[c]at h;rcases x with ⟨_|i|_,d⟩
   ·exact (jl T own k b d r).2 ⟨n,h⟩
   ·exact h
   ·exact h
 ·intro r h;cases c:xD T own k a s with
  |none=>rw[c]at h;simp[Bl]at h
  |some x=>
   obtain⟨n,e⟩:=(jl T own k a s x).1 c;rw[c]at h;rcases x with ⟨_|i|_,d⟩
   ·obtain⟨m,f⟩:=(jl T own k b d r).1 h;refine⟨max n m,?_⟩;rw[yP,nc T own k a s n (max n m) _ e (by omega)];exact nc T own k b d m (max n m) _ f (by omega)
   ·exact⟨n,by rw[yP,e];exact h⟩
   ·exact⟨n,by rw[yP,e];exact h⟩
def ifM(c:C)(x y:u (Ex×MS)):u (Ex×MS):=
 match c with
 | .d (.bool t)=>if t then x else y
 |_=>O
theorem Ar{e:Cf}{d:Mf}(n:Nat)(c:KX)(a b:K)(s:MS):eB e d own k n (.cond c a b) s=ifM (gj s.s c) (eB e d own k n a s) (eB e d own k n b s):=by
 simp only[eB,ifM]<;>cases gj s.s c<;>rfl
theorem Vv(c:KX)(a b:K)(s:MS):xD T own k (.cond c a b) s=ifM (gj s.s c) (xD T own k a s) (xD T own k b s):=by
 apply Dy
 ·intro r n h;rw[Ar]at h;unfold ifM at h ⊢
  split at h
  ·split at h
   ·rename_i d;simp only[d,if_true];exact (jl T own k _ _ _).2 ⟨n,h⟩
   ·rename_i d;simp only[d];exact (jl T own k _ _ _).2 ⟨n,h⟩
  ·cases h
 ·intro r h;unfold ifM at h
  split at h
  ·rename_i t f;cases t with
   |true=>obtain⟨n,e⟩:=(jl T own k _ _ _).1 h;exact⟨n,by rw[Ar,f];exact e⟩
   |false=>obtain⟨n,e⟩:=(jl T own k _ _ _).1 h;exact⟨n,by rw[Ar,f];exact e⟩
  ·cases h
def Nq(id:Nat):u (Ex×MS)->u (Ex×MS)
 |some (.norm,s)=>Z (.norm,s)
 |some (.exit i,s)=>if i=id then Z (.norm,s) else Z (.exit i,s)
 |some (.ret,s)=>Z (.ret,s)
 |none=>O
theorem Dr{c:Cf}{b:Mf}(n:Nat)(i:Nat)(a:K)(s:MS):eB c b own k n (.block i a) s=Nq i (eB c b own k n a s):=by
 simp only[eB,Nq];split
 ·simp_all
 ·rename_i h;split
  ·simp_all
  ·rename_i j d e;exact absurd e (h j d)
  ·simp_all
  ·simp_all
theorem RO(i:Nat)(a:K)(s:MS):xD T own k (.block i a) s=Nq i (xD T own k a s):=by
 apply Dy
 ·intro r n h;rw[Dr]at h;cases b:eB (ej T) (iD T) own k n a s with
  |none=>rw[b]at h;simp[Nq]at h
  |some x=>rw[(jl T own k a s x).2 ⟨n,b⟩];rw[b]at h;exact h
 ·intro r h;cases b:xD T own k a s with
  |none=>rw[b]at h;simp[Nq]at h
  |some x=>
   obtain⟨n,c⟩:=(jl T own k a s x).1 b;rw[b]at h;exact⟨n,by rw[Dr,c];exact h⟩
theorem Lh(a:K)(s:MS):xD T own k (.loop a) s=Bl (xD T own k (.loop a)) (xD T own k a s):=by
 have one:∀(j:Cf) (g:Mf) n m s,iterM (eB j g own k n a) (m+1) s=Bl (iterM (eB j g own k n a) m) (eB j g own k n a s):=by
  intro j g n m s;simp only[iterM,Bl];split
  ·rename_i h;simp only[h]
  ·rename_i h;split
   ·rename_i c q;exact absurd q (h c)
   ·simp_all
   ·simp_all
   ·simp_all
 have up:∀(n m b d:Nat) (s:MS) (r:Ex×MS),n<=m->b<=d->iterM (eB (ej T) (iD T) own k n a) b s=Z r->iterM (eB (ej T) (iD T) own k m a) d s=Z r:=by
  intro n m b
  induction b with
  |zero=>intro d s r _ _ h;simp[iterM]at h
  |succ b p=>
   intro d s r f t h;obtain⟨d,rfl⟩:∃y,d=y+1:=⟨d - 1,by omega⟩
   rw[one]at h ⊢;cases l:eB (ej T) (iD T) own k n a s with
   |none=>rw[l]at h;simp[Bl]at h
   |some x=>
    rw[l]at h;rw[nc T own k a s n m x l f];rcases x with ⟨_|i|_,c⟩
    ·exact p d c r f (by omega) h
    ·exact h
    ·exact h
 apply Dy
 ·intro r n h;simp only[eB]at h;cases n with
  |zero=>simp[iterM]at h
  |succ n=>
   rw[one]at h;cases e:eB (ej T) (iD T) own k (n+1) a s with
   |none=>rw[e]at h;simp[Bl]at h
   |some x=>
    rw[(jl T own k a s x).2 ⟨n+1,e⟩];rw[e]at h;rcases x with ⟨_|i|_,c⟩
    ·exact (jl T own k (.loop a) c r).2 ⟨n+1,by simp only[eB];exact up (n+1) (n+1) n (n+1) c r (by omega) (by omega) h⟩
    ·exact h
    ·exact h
 ·intro r h;cases e:xD T own k a s with
  |none=>rw[e]at h;simp[Bl]at h
  |some x=>
   obtain⟨n,f⟩:=(jl T own k a s x).1 e;rw[e]at h;rcases x with ⟨_|i|_,c⟩
   ·obtain⟨m,o⟩:=(jl T own k (.loop a) c r).1 h;refine⟨max n m+1,?_⟩;simp only[eB]at o ⊢;rw[one,nc T own k a s n (max n m+1) _ f (by omega)];exact up m (max n m+1) m (max n m) c r (by omega) (by omega) o
   ·exact⟨n+1,by simp only[eB];rw[one,nc T own k a s n (n+1) _ f (by omega)];exact h⟩
   ·exact⟨n+1,by simp only[eB];rw[one,nc T own k a s n (n+1) _ f (by omega)];exact h⟩
theorem Wz{f:Nat}{i:KF}(p:T f=Z i)(o:Bool)(g:M D)(q:Int):iD T f o g q=runM (λown k=>sq (ej T) (iD T) own k) (λown k=>xD T own k) i o g q:=by
 apply Option.ext
 intro r;rw[EC]
 constructor
 ·rintro⟨n,c⟩
  cases n with
  |zero=>simp[F7]at c
  |succ n=>
   rw[II,p]at c;obtain⟨L,a1,a2⟩:=Fe c;have a:=a2 (ej T) (iD T) n (abh T a1) (by omega)
   revert a
   unfold runM;split
   ·split
    ·split
     ·split
      ·rename_i m l;dsimp only;intro a;cases b:eB (ej T) (iD T) J g.length n _ (m.dL _) with
       |none=>rw[b]at a;simp[zy,HN]at a
       |some e=>rw[(jl T _ _ _ _ _).2 ⟨n,b⟩,<- b];exact a
      ·simp
     ·simp
    ·split
     ·dsimp only;intro a;rename_i k s es;cases b:eB (ej T) (iD T) I k n _ ⟨⟨[(1,.d (.int .i64 q))],[],[]⟩,[(0,.lst)],es⟩ with
      |none=>rw[b]at a;simp[zy,EZ]at a
      |some e=>rw[(jl T _ _ _ _ _).2 ⟨n,b⟩,<- b];exact a
     ·simp
   ·simp
 ·intro h;have j:∃n,runM (λown k=>sq (ej T) (iD T) own k) (λown k=>eB (ej T) (iD T) own k n) i o g q=Z r:=by
   revert h
   unfold runM;split
   ·split
    ·split
     ·split
      ·rename_i m l;dsimp only;intro a;cases b:xD T J g.length _ (m.dL _) with
       |none=>rw[b]at a;simp[zy,HN]at a
       |some e=>obtain⟨n,c⟩:=(jl T _ _ _ _ _).1 b;exact⟨n,by rw[c,<- b];exact a⟩
      ·simp
     ·simp
    ·split
     ·dsimp only;intro a;rename_i k s es;cases b:xD T I k _ ⟨⟨[(1,.d (.int .i64 q))],[],[]⟩,[(0,.lst)],es⟩ with
      |none=>rw[b]at a;simp[zy,EZ]at a
      |some e=>obtain⟨n,c⟩:=(jl T _ _ _ _ _).1 b;exact⟨n,by rw[c,<- b];exact a⟩
     ·simp
   ·simp
  obtain⟨n,c⟩:=j;obtain⟨L,a1,a2⟩:=Fe c;obtain⟨m,l⟩:=zQ T L a1;refine⟨max n m+1,?_⟩;rw[II,p];exact a2 _ _ (max n m) (l _ (by omega)) (by omega)
end
end
section
open Go.RowKit
inductive Ty where
 |int
 |bool
 |str
 |list (t:Nat)
def Ty.plain:Ty->Bool
 | .list _=>J
 |_=>I
def lay:Nat->M Ty
 |0=>[.str]
 |1=>[.str,.list 0,.int,.bool]
 |2=>[.str,.str,.list 2]
 |3=>[.int,.str,.str,.list 3]
 |4=>[.int,.int,.list 3]
 |5=>[.list 2,.list 4]
 |6=>[.int,.int]
 |7=>[.int,.list 6,.list 0,.str,.str]
 |8=>[.str,.str]
 |9=>[.str,.list 8]
 |10=>[.bool,.int,.list 9]
 |11=>[.int,.int,.str,.bool,.int,.list 9,.list 11]
 |12=>[.int,.str,.int,.list 6,.list 0,.str,.str,.list 0,.list 0,.str,.bool,.bool,.bool,.bool,.int,.int,.list 11,.list 11,.list 12]
 |13=>[.list 2,.int,.int]
 |14=>[.bool,.int,.int,.str,.list 2]
 |15=>[.list 12,.list 2,.list 2,.int,.list 13,.bool,.int,.int,.str,.list 2]
 |_=>[]
abbrev kw(t:Nat):Nat:=(lay t).length
abbrev flT(t:Nat):Bool:=(lay t).all Ty.plain
abbrev lF:Nat:=2147483648
mutual
def Ok(B:Nat):Ty->D->Prop
 | .int,.int k n=>k=.i64/\-9223372036854775808<=n/\n<=9223372036854775807
 | .bool,.bool _=>True
 | .str,.str s=>s.size<=maxLen
 | .list t,.list k f es=>k=kw t/\f=flT t/\es.length<=B/\eJ B t es
 |_,_=>False
def fL(B:Nat):List Ty->List D->Prop
 |[],[]=>True
 |t::ts,d::a=>Ok B t d/\fL B ts a
 |_,_=>False
def eJ(B:Nat)(t:Nat):List (List D)->Prop
 |[]=>True
 |e::es=>fL B (lay t) e/\eJ B t es
end
section
variable {B:Nat}
theorem Ok.mc{d:D}(h:Ok B .int d):∃n,d=.int .i64 n/\-9223372036854775808<=n/\n<=9223372036854775807:=by
 cases d<;>simp only[Ok]at h
 obtain⟨rfl,h⟩:=h;exact⟨_,rfl,h⟩
theorem Ok.qa{d:D}(h:Ok B .bool d):∃b,d=.bool b:=by
 cases d<;>simp only[Ok]at h
 exact⟨_,rfl⟩
theorem Ok.jZ{d:D}(h:Ok B .str d):∃s,d=.str s/\s.size<=maxLen:=by
 cases d<;>simp only[Ok]at h
 exact⟨_,rfl,h⟩
theorem Ok.fY{t:Nat}{d:D}(h:Ok B (.list t) d):∃es,d=.list (kw t) (flT t) es/\es.length<=B/\eJ B t es:=by
 cases d<;>simp only[Ok]at h
 obtain⟨rfl,rfl,h⟩:=h;exact⟨_,rfl,h⟩
theorem fL.jH{a:M D}(h:fL B [] a):a=[]:=by
 cases a with
 |nil=>rfl
 |cons d a=>simp[fL]at h
theorem fL.cons_inv{t:Ty}{ts:M Ty}{a:M D}(h:fL B (t::ts) a):∃x b,a=x::b/\Ok B t x/\fL B ts b:=by
 cases a with
 |nil=>simp[fL]at h
 |cons d a=>simp only[fL]at h;exact⟨d,a,rfl,h⟩
theorem eJ.mem{t:Nat}:∀{es:M (M D)},eJ B t es->∀e∈es,fL B (lay t) e
 |[],_,e,h=>by simp at h
 |x::es,a,e,h=>by
  simp only[eJ]at a;rcases aI.1 h with rfl|h
  ·exact a.1
  ·exact eJ.mem a.2 e h
theorem dz{a:Type}{l:M a}{i:Nat}(h:i < l.length):nth l i=Z l[i]:=by rw[eh];simp[h]
theorem wC{a:Type}{l:M a}{i:Nat}{x:a}(h:nth l i=Z x):x∈l:=by rw[eh]at h;exact dS h
theorem eJ.JE{t:Nat}{es:M (M D)}{i:Nat}{e:M D}(a:eJ B t es)(h:nth es i=Z e):fL B (lay t) e:=a.mem e (wC h)
theorem fL.length{a:M Ty}:∀{b:M D},fL B a b->b.length=a.length:=by
 induction a with
 |nil=>intro b h;rw[h.jH];rfl
 |cons t a c=>intro b h;obtain⟨x,e,rfl,_,d⟩:=h.cons_inv;simp[c d]
mutual
theorem Ok.mono{B b:Nat}(a:B<=b):∀(t:Ty) (d:D),Ok B t d->Ok b t d
 | .int,.int _ _,h=>by simpa only [Ok] using h
 | .bool,.bool _,_=>by simp only[Ok]
 | .str,.str _,h=>by simpa only [Ok] using h
 | .list t,.list k f es,h=>by
  simp only[Ok]at h ⊢;exact⟨h.1,h.2.1,aH h.2.2.1 a,eJ.mono a t es h.2.2.2⟩
 | .int,.bool _,h | .int,.str _,h | .int,.list _ _ _,h | .bool,.int _ _,h | .bool,.str _,h | .bool,.list _ _ _,h | .str,.int _ _,h | .str,.bool _,h | .str,.list _ _ _,h | .list _,.int _ _,h | .list _,.bool _,h | .list _,.str _,h=>by simp only[Ok]at h
theorem fL.mono{B b:Nat}(a:B<=b):∀(c:List Ty) (g:List D),fL B c g->fL b c g
 |[],[],_=>by simp only[fL]
 |t::c,d::g,h=>by
  simp only[fL]at h ⊢;exact⟨Ok.mono a t d h.1,fL.mono a c g h.2⟩
 |[],_::_,h|_::_,[],h=>by simp only[fL]at h
theorem eJ.mono{B b:Nat}(a:B<=b)(t:Nat):∀(es:List (List D)),eJ B t es->eJ b t es
 |[],h=>by simp only[eJ]
 |e::es,h=>by
  simp only[eJ]at h ⊢;exact⟨fL.mono a (lay t) e h.1,eJ.mono a t es h.2⟩
end
end
mutual
def D.sz:D->Nat
 | .str s=>s.size
 | .list _ _ es=>es.length+qy es
 |_=>0
def fm:List D->Nat
 |[]=>0
 |d::a=>d.sz+fm a
def qy:List (List D)->Nat
 |[]=>0
 |e::es=>fm e+qy es
end
mutual
theorem Ok.small{B a:Nat}:∀(t:Ty) (d:D),Ok B t d->d.sz<=a->Ok a t d
 | .int,.int _ _,h,_=>by simpa only [Ok] using h
 | .bool,.bool _,_,_=>by simp only[Ok]
 | .str,.str _,h,_=>by simpa only [Ok] using h
 | .list t,.list k f es,h,b=>by
  simp only[Ok]at h ⊢;simp only[D.sz]at b;exact⟨h.1,h.2.1,by omega,eJ.small t es h.2.2.2 (by omega)⟩
 | .int,.bool _,h,_ | .int,.str _,h,_ | .int,.list _ _ _,h,_ | .bool,.int _ _,h,_ | .bool,.str _,h,_ | .bool,.list _ _ _,h,_ | .str,.int _ _,h,_ | .str,.bool _,h,_ | .str,.list _ _ _,h,_ | .list _,.int _ _,h,_ | .list _,.bool _,h,_ | .list _,.str _,h,_=>by simp only[Ok]at h
theorem fL.small{B a:Nat}:∀(g:List Ty) (c:List D),fL B g c->fm c<=a->fL a g c
 |[],[],_,_=>by simp only[fL]
 |t::g,d::c,h,b=>by
  simp only[fL]at h ⊢;simp only[fm]at b;exact⟨Ok.small t d h.1 (by omega),fL.small g c h.2 (by omega)⟩
 |[],_::_,h,_|_::_,[],h,_=>by simp only[fL]at h
theorem eJ.small{B a:Nat}(t:Nat):∀(es:List (List D)),eJ B t es->qy es<=a->eJ a t es
 |[],h,_=>by simp only[eJ]
 |e::es,h,b=>by
  simp only[eJ]at h ⊢;simp only[qy]at b;exact⟨fL.small (lay t) e h.1 (by omega),eJ.small t es h.2 (by omega)⟩
end
abbrev EY(k:Nat)(a:Bool)(es:M (M D)):Row:=⟨es,k,a,I,I,J⟩
def own:D->RV
 | .list k a es=>.row (EY k a es)
 |d=>.d d
def B7:Nat->Nat->z->z
 |0,_,out=>out
 |f+1,n,out=>if n=0 then out else B7 f (n / 10) (⟨#[dD (48+n % 10)]⟩++out)
def HC(k:Int):z:=if k<=0 then ⟨#[109,48]⟩ else ⟨#[109]⟩++B7 20 k.toNat ⟨#[]⟩
def abL(q:Int):Bool:=Z' (q % 3=0)
mutual
def D.mn:D->Nat
 | .list _ _ es=>ch es
 |_=>1
def Cc:List D->Nat
 |[]=>0
 |d::a=>d.mn+Cc a
def ch:List (List D)->Nat
 |[]=>0
 |e::es=>Cc e+ch es
end
mutual
def D.mk:D->Int->D
 | .int k _,q=>.int k q
 | .bool _,q=>.bool (abL q)
 | .str _,q=>.str (HC q)
 | .list k a es,q=>.list k a (mK es q)
def S4:List D->Int->List D
 |[],_=>[]
 |d::b,q=>d.mk q::S4 b (q+d.mn)
def mK:List (List D)->Int->List (List D)
 |[],_=>[]
 |e::es,q=>S4 e q::mK es (q+Cc e)
end
theorem eD:∀(es:M (M D)) (q:Int),(mK es q).length=es.length
 |[],_=>by simp[mK]
 |e::es,q=>by simp[mK,eD es]
theorem EH:∀(a b:M (M D)) (q:Int),mK (a++b) q=mK a q++mK b (q+ch a)
 |[],b,q=>by simp[mK,ch]
 |e::a,b,q=>by simp[mK,ch,EH a b,Int.add_assoc]
theorem xU:∀(a b:M (M D)),ch (a++b)=ch a+ch b
 |[],b=>by simp[ch]
 |e::a,b=>by simp[ch,xU a b,cO]
theorem Fy:∀(a b:M (M D)),qy (a++b)=qy a+qy b
 |[],b=>by simp[qy]
 |e::a,b=>by simp[qy,Fy a b,cO]
theorem QR:∀(es:M (M D)) (q:Int) (i:Nat) (e:M D),nth es i=Z e->nth (mK es q) i=Z (S4 e (q+ch (es.take i)))
 |[],_,_,_,h=>by simp[nth]at h
 |x::es,q,0,e,h=>by simp only[nth,aa]at h;subst h;simp[mK,nth,ch]
 |x::es,q,i+1,e,h=>by
  simp only[nth]at h;simp only[mK,nth,dy,ch];rw[QR es _ i e h]
  congr 2
  omega
theorem cB{a:Type}:∀(es:M a) (i:Nat) (e:a),nth es i=Z e->es.take (i+1)=es.take i++[e]
 |[],_,_,h=>by simp[nth]at h
 |x::es,0,e,h=>by simp only[nth,aa]at h;simp[h]
 |x::es,i+1,e,h=>by simp only[nth]at h;simp[cB es i e h]
theorem g_{es:M (M D)}{i:Nat}{e:M D}(h:nth es i=Z e):ch (es.take (i+1))=ch (es.take i)+Cc e:=by
 rw[cB es i e h,xU];simp[ch]
theorem jF(es:M (M D))(i:Nat):ch (es.take i)<=ch es:=by
 have:=xU (es.take i) (es.drop i);rw[bD]at this;omega
theorem Lk{c:Type}:∀(es:M c) (a:c) (b:M c) (i:Nat) (e:c),nth es i=Z e->(es.take i++a::b).set i e=es.take (i+1)++b
 |[],_,_,_,_,h=>by simp[nth]at h
 |x::es,a,b,0,e,h=>by
  simp only[nth,aa]at h;subst h;simp
 |x::es,a,b,i+1,e,h=>by
  simp only[nth]at h;simp[Lk es a b i e h]
theorem Vz{b:Type}{es:M b}{a:b}{i:Nat}{e:b}(h:nth es i=Z e):(es.take i++aY (es.length - i) a).set i e=es.take (i+1)++aY (es.length - (i+1)) a:=by
 have c:i < es.length:=by rw[eh]at h;exact (bh.1 h).1
 rw[show es.length - i=(es.length - (i+1))+1 by omega,gK,Lk es a _ i e h]
end
section
section
variable {cf:Cf} {mf:Mf}
@[go_sem] theorem aiZ (g:St->u (Ex×St)) (s:St):Gu g (Z (.norm,s))=g s:=rfl
@[go_sem] theorem aiY (g:St->u (Ex×St)) (i:Nat) (s:St):Gu g (Z (.exit i,s))=Z (.exit i,s):=rfl
@[go_sem] theorem ajc (g:St->u (Ex×St)) (s:St):Gu g (Z (.ret,s))=Z (.ret,s):=rfl
@[go_sem] theorem afg (i:Nat) (s:St):Ux i (Z (.norm,s))=Z (.norm,s):=rfl
@[go_sem] theorem aff (i j:Nat) (s:St):Ux i (Z (.exit j,s))=if j=i then Z (.norm,s) else Z (.exit j,s):=rfl
@[go_sem] theorem ag9 (a:mo) (s:St):nrm a (Z s)=Z (.norm,s.dL a):=rfl
@[go_sem] theorem ag8 (s:St):Mg (Z s)=Z (.norm,s):=rfl
def Jt(a:M KR)(args:M A)(s:St):u (M A×M A):=
 match zD s a,vG s 0 args with
 |some (rs,l),Z (outs,b)=>if kG (l++b) then Z (rs,outs) else O
 |_,_=>O
def VA(a:M KR)(args:M A):u (Ex×St)->u (M A×M A)
 |some (.norm,s)=>Jt a args s
 |some (.ret,s)=>Jt a args s
 |_=>O
@[go_sem] theorem ai_ (a:M KR) (as:M A) (s:St):VA a as (Z (.ret,s))=Jt a as s:=rfl
theorem vr{T:Nat->u KF}{f c:Nat}{a:K}{b:M KR}(g:T f=Z ⟨c,a,b⟩){args:M A}(d:(args.length ==c && gh c 999)=I) :
  ej T f args=VA b args (ev T wY a (jW 0 args ⟨[],[],[]⟩)):=by
 rw[ai,beq_iff_eq,nR]at d;have e:=d.1;rw[QC T g (by simp only;omega)];simp only[run,e,if_true];generalize ev T wY a (jW 0 args ⟨[],[],[]⟩)=x;rcases x with _|⟨_|_|_,s⟩<;>rfl
theorem Xm{T:Nat->u KF}{np:Nat}{a:K}{b:M KR}{args:M A}(c:args.length=np) :
  run T mf ⟨np,a,b⟩ args=VA b args (ev T mf a (jW 0 args ⟨[],[],[]⟩)):=by
 simp only[run,c,if_true];generalize ev T mf a (jW 0 args ⟨[],[],[]⟩)=x;rcases x with _|⟨_|_|_,s⟩<;>rfl
theorem QE{T:Nat->u KF}{body:K}(st:Nat->St){n:Nat}{e:Ex}{s:St}(b:e≠.norm)(c:ev T mf body (st n)=Z (e,s))(a:∀i,i < n->ev T mf body (st i)=Z (.norm,st (i+1))) :
  ∀m i,i+m=n->ev T mf (.loop body) (st i)=Z (e,s)
 |0,i,h=>by
  rw[gX,show i=n by omega,c];cases e with
  |norm=>exact absurd rfl b
  |exit j=>rfl
  |ret=>rfl
 |m+1,i,h=>by
  rw[gX,a i (by omega)];exact QE st b c a m (i+1) (by omega)
theorem abJ{T:Nat->u KF}{body:K}(st:Nat->St)(n:Nat){e:Ex}{s:St}(b:e≠.norm)(c:ev T mf body (st n)=Z (e,s))(a:∀i,i < n->ev T mf body (st i)=Z (.norm,st (i+1))):ev T mf (.loop body) (st 0)=Z (e,s):=
 QE st b c a n 0 (by omega)
@[go_sem] theorem aeZ (c:Bool) (a:M RV):A.short (.val c a)=Z' (a.length<=30):=by
 simp only[A.short];by_cases h:a.length<=30
 ·simp only[h,decide_true];exact Nat.ble_eq_true_of_le h
 ·simp only[h,decide_false];cases b:nP a.length 30 with
  |false=>rfl
  |true=>exact absurd (Nat.le_of_ble_eq_true b) h
@[go_sem] theorem aeV (s:St):nB cf mf [] s=Z s:=rfl
@[go_sem] theorem acj (i:KI) (a:M KI) (s:St):nB cf mf (i::a) s=(ux cf mf s i).bind (nB cf mf a):=by
 simp only[nB];cases ux cf mf s i<;>rfl
@[go_sem] theorem afG (s:St) (d:u Nat) (o:KO):ux cf mf s ⟨d,o,O⟩=B8 cf mf s d o:=rfl
def gdn(cf:Cf)(mf:Mf)(s:St)(d:u Nat)(o:KO)(w:Bool):C->u St
 | .d (.bool b)=>if b=w then B8 cf mf s d o else Z (s.put d .uv)
 | .uv=>Z (s.put d .uv)
 |_=>O
@[go_sem] theorem afH (s:St) (d:u Nat) (o:KO) (g:Nat) (w:Bool):ux cf mf s ⟨d,o,Z (g,w)⟩=gdn cf mf s d o w (s.get g):=by
 simp only[ux,gdn];cases s.get g<;>rfl
@[go_sem] theorem ajt (s:St) (d:u Nat) (o:KO):gdn cf mf s d o J (.d (.bool J))=B8 cf mf s d o:=rfl
@[go_sem] theorem afF (a:mo) (b:M (M Nat×Nat)) (s:St):fU cf mf a .nil b s=Z (s.dL a):=by simp only[fU]
def lod(s:St)(d:u Nat)(e:M Nat)(a:M (M Nat×Nat))(k:M (M Nat×Nat)->St->u St):u C->u (u Nat)->u St
 |some c,Z b=>k (oS e a b) (s.put d c)
 |_,_=>O
@[go_sem] theorem ach (b:mo) (j:Nat) (f e:M Nat) (d:u Nat) (o:KO) (c:KT) (a:M (M Nat×Nat)) (s:St) :
  fU cf mf b (.op ⟨j,I,f,e,⟨d,o,O⟩⟩ c) a s=lod s d e a (fU cf mf b c) (jj s o) (pr s o):=by
 simp only[fU,if_true,lod];cases jj s o<;>cases pr s o<;>rfl
@[go_sem] theorem agP (s:St) (d:u Nat) (e:M Nat) (a:M (M Nat×Nat)) (k:M (M Nat×Nat)->St->u St) (c:C) (b:u Nat):lod s d e a k (Z c) (Z b)=k (oS e a b) (s.put d c):=rfl
@[go_sem] theorem acg (b:mo) (j:Nat) (e d:M Nat) (i:KI) (c:KT) (a:M (M Nat×Nat)) (s:St) :
  fU cf mf b (.op ⟨j,J,e,d,i⟩ c) a s=mm cf mf ⟨j,J,e,d,i⟩ a s (fU cf mf b c):=by simp only[fU,aD,if_false]
def stp(x:KD)(s:St)(a:M (M Nat×Nat))(k:M (M Nat×Nat)->St->u St):u St->u St
 |some b=>if a.all (λp=>!(eW s x.i.dst x.i.op).contains p.2 && (look b.bx p.2).isSome && !(x.i.dst ==Z p.2)) then k a b else O
 |none=>O
@[go_sem] theorem aiq (x:KD) (a:M (M Nat×Nat)) (s:St) (k:M (M Nat×Nat)->St->u St):mm cf mf x a s k=stp x s (jR x.j a) k (ux cf mf s x.i):=by
 simp only[mm,stp];cases ux cf mf s x.i<;>rfl
@[go_sem] theorem ajb (x:KD) (s a:St) (k:M (M Nat×Nat)->St->u St):stp x s [] k (Z a)=k [] a:=rfl
def rsl(s:St)(d:u Nat)(a:M C):u (M A×M A)->u St
 |none=>O
 |some (rs,outs)=>if rs.all A.short then
   let g:=if rs.all A.closed && outs.all A.closed then s else fc s (jE a)
   let f:=fI (fN g (dN s a)) (cX a)
   let e:=l8 f a outs
   let (l,b):=gL (d.getD 0) 0 rs e
   Z (b.put d (match l with|[c]=>c|l=>.ri l))
   else O
def Za(cf:Cf)(s:St)(d:u Nat)(f:Nat)(a:M C):u (M A)->u St
 |some as=>if kG (dN s a) && kG (cX a) && (dN s a).all (λr=>!(jE a).contains r) then rsl s d a (cf f as) else O
 |none=>O
@[go_sem] theorem aeR (s:St) (d:u Nat) (f:Nat) (a:M C):xC cf s d f a=Za cf s d f a (zP s a):=by
 simp only[xC,Za];cases zP s a with
 |none=>rfl
 |some as=>
  dsimp only;split
  ·cases cf f as with
   |none=>rfl
   |some r=>rfl
  ·rfl
@[go_sem] theorem aeQ (s:St) (d:u Nat) (f:Nat) (a:M C) (as:M A):Za cf s d f a (Z as)=if kG (dN s a) && kG (cX a) && (dN s a).all (λr=>!(jE a).contains r) then rsl s d a (cf f as) else O:=rfl
@[go_sem] theorem aij (s:St) (d:u Nat) (a:M C) (b outs:M A):rsl s d a (Z (b,outs))=if b.all A.short then
  let h:=if b.all A.closed && outs.all A.closed then s else fc s (jE a)
  let g:=fI (fN h (dN s a)) (cX a)
  let f:=l8 g a outs
  let (l,e):=gL (d.getD 0) 0 b f
  Z (e.put d (match l with|[c]=>c|l=>.ri l))
  else O:=rfl
end
theorem akn{a:Type}(x:a)(l:M a):nth (x::l) 0=Z x:=rfl
theorem akp{a:Type}(x:a)(l:M a)(i:Nat):nth (x::l) (i+1)=nth l i:=rfl
theorem ako{a:Type}(i:Nat):nth ([]:M a) i=O:=by cases i<;>rfl
attribute [go_sem] Vu IK Lf Vs Vr Vt PJ PK Lg Vq
attribute [go_sem] s_ Jt zD JQ vG S_
attribute [go_sem] sL B8 jj lQ gj KO.kT KO.N_ pr eW oS jR
attribute [go_sem] St.get St.put St.gl St.setRow St.cY St.lY St.newRow St.kill St.dL iV look sa Qo Qn w8 akn akp ako
attribute [go_sem] C.iG C.Be Xi Xh St.iG lr Hl C.kill C.kN C.cells C.const C.cell C.isAgg FQ Dk dW D.plain Ut Uu Us Rx mZ kc gH Tt zP rowsOf sH dN jE cX RV.closed A.closed Row.share fc fv l8 gL kG fN gU fI BD zH Cp kj uO qP Aq jW nu
attribute [go_sem] aG aP aZ cj cV List.all_nil iq wN aJ av au dy bE ja br List.drop_nil List.take_nil List.contains_cons List.contains_nil List.headD_cons
attribute [go_sem] aQ Option.map_none ku Option.getD_none kX Option.toList_some dY
attribute [go_sem] Option.some_beq_some Option.none_beq_some
attribute [go_sem] if_true if_false gm cU kH cM lL gp la lg kg gG and_true true_and and_false false_and
attribute [go_sem] bu dx aD ite_true ite_false decide_true decide_false cd Bool.true_eq_false beq_self_eq_true bne_self_eq_false imp_self false_imp_iff true_imp_iff
theorem wi{i n:Nat}(h:i < n)(a:n<=maxLen):IntKind.i64.wrap ((i:Int)+1)=((i+1:Nat):Int):=by
 rw[cD (by simp[maxLen]at a;omega)];omega
theorem ZN{i n:Nat}(h:i < n):((i:Int) < (n:Int))=True:=by simp;omega
theorem nlt(n:Nat):((n:Int) < (n:Int))=False:=by simp
theorem fL.drop{B:Nat}:∀(o:Nat) (a:M Ty) (b:M D),fL B a b->fL B (a.drop o) (b.drop o)
 |0,_,_,h=>by simpa using h
 |o+1,[],[],h=>by simpa using h
 |o+1,t::a,d::b,h=>by simp only[fL]at h;simpa using fL.drop o a b h.2
 |_,[],_::_,h|_,_::_,[],h=>by simp only[fL]at h
theorem fL.take{B:Nat}:∀(o:Nat) (a:M Ty) (b:M D),fL B a b->fL B (a.take o) (b.take o)
 |0,_,_,_=>by simp[fL]
 |o+1,[],[],h=>by simpa using h
 |o+1,t::a,d::b,h=>by simp only[fL]at h;simp only[dy,fL];exact⟨h.1,fL.take o a b h.2⟩
 |_,[],_::_,h|_,_::_,[],h=>by simp only[fL]at h
theorem fL.sub{B:Nat}(o m:Nat){a:M Ty}{b:M D}(h:fL B a b):fL B ((a.drop o).take m) ((b.drop o).take m):=fL.take m _ _ (fL.drop o _ _ h)
theorem eM{a:Type}:∀(es:M a) (i:Nat) (e:a),nth es i=Z e->es.drop i=e::es.drop (i+1)
 |[],_,_,h=>by simp[nth]at h
 |x::es,0,e,h=>by simp only[nth,aa]at h;simp[h]
 |x::es,i+1,e,h=>by simp only[nth]at h;simp[eM es i e h]
theorem vP{k:Nat}{c:Bool}{x es:M (M D)}{e:M D}(h:D.list k c x∈e)(a:e∈es):aw x < aw es:=by
 have b:=ba h;have d:=ba a;simp only[D.list.sizeOf_spec]at b;omega
end
section
section
variable {cf:Cf} {mf:Mf} {own:Bool} {k:Nat}
@[go_sem] theorem ae1 (g:MS->u (Ex×MS)) (s:MS):Bl g (Z (.norm,s))=g s:=rfl
@[go_sem] theorem ae0 (g:MS->u (Ex×MS)) (i:Nat) (s:MS):Bl g (Z (.exit i,s))=Z (.exit i,s):=rfl
@[go_sem] theorem agr (x y:u (Ex×MS)):ifM (.d (.bool I)) x y=x:=rfl
@[go_sem] theorem aeW (x y:u (Ex×MS)):ifM (.d (.bool J)) x y=y:=rfl
@[go_sem] theorem aeP (i:Nat) (s:MS):Nq i (Z (.norm,s))=Z (.norm,s):=rfl
@[go_sem] theorem aeO (i j:Nat) (s:MS):Nq i (Z (.exit j,s))=if j=i then Z (.norm,s) else Z (.exit j,s):=rfl
@[go_sem] theorem aeY (a:mo) (s:MS):adf a (Z s)=Z (.norm,s.dL a):=rfl
@[go_sem] theorem afI (s:MS):sq cf mf own k [] s=Z s:=rfl
@[go_sem] theorem aeU (i:KI) (a:M KI) (s:MS):sq cf mf own k (i::a) s=(IH cf mf own k s i).bind (sq cf mf own k a):=by
 simp only[sq];cases IH cf mf own k s i<;>rfl
@[go_sem] theorem aeT (s:MS) (d:Nat) (o:KO):IH cf mf own k s ⟨Z d,o,O⟩=Dq cf mf k s d o:=rfl
@[go_sem] theorem aeS (s:MS) (o:KO):IH cf mf own k s ⟨O,o,O⟩=Vf own s o:=rfl
def mpc(m:MS)(d:Nat):u (M A×M A)->u MS
 |some ([.val J [.d r]],[])=>if D.plain r then Z (m.put d (.d r)) else O
 |_=>O
def mpa(cf:Cf)(m:MS)(d f:Nat):u (M A)->u MS
 |some as=>mpc m d (cf f as)
 |none=>O
@[go_sem] theorem ai9 (m:MS) (d f:Nat) (a:M KX):F8 cf m d f a=mpa cf m d f (xZ (a.map (gj m.s))):=by
 unfold F8 mpa mpc;rfl
@[go_sem] theorem agY (m:MS) (d f:Nat) (as:M A):mpa cf m d f (Z as)=mpc m d (cf f as):=rfl
@[go_sem] theorem agZ (m:MS) (d:Nat) (r:D):mpc m d (Z ([.val J [.d r]],[]))=if D.plain r then Z (m.put d (.d r)) else O:=rfl
def mmh(m:MS)(d i o:Nat):u (M D×Int)->u MS
 |some ([a],b)=>Z ((m.set i o [a]).put d (.d (.int .i64 b)))
 |_=>O
def mml(mf:Mf)(m:MS)(d f i o:Nat)(q:Int):u D->u MS
 |some (.list k a es)=>mmh m d i o (mf f J [.list k a es] q)
 |_=>O
@[go_sem] theorem ai8 (m:MS) (d f i o:Nat) (q:Int):IJ mf m d f (.hd i o) (.d (.int .i64 q))=mml mf m d f i o q (m.at_ i o):=by
 unfold IJ mml mmh;rfl
@[go_sem] theorem agW (m:MS) (d f i o:Nat) (q:Int) (k:Nat) (a:Bool) (es:M (M D)):mml mf m d f i o q (Z (.list k a es))=mmh m d i o (mf f J [.list k a es] q):=rfl
@[go_sem] theorem agV (m:MS) (d i o:Nat) (a:D) (b:Int):mmh m d i o (Z ([a],b))=Z ((m.set i o [a]).put d (.d (.int .i64 b))):=rfl
end
attribute [go_sem] Ze Vv RO Zc Zd Vw Vx
attribute [go_sem] MC.xo MS.TX MS.put MS.kU MS.set MS.xo MS.dL MS.at_ xZ Dq Vf zy HN EZ
theorem nf{T:Nat->u KF}{f r:Nat}{body:K}(b:T f=Z ⟨2,body,[.t r]⟩){k:Nat}{a:Bool}{es:M (M D)}{q:Int} :
  iD T f J [.list k a es] q=EZ k a (zy r (xD T I k body ⟨⟨[(1,.d (.int .i64 q))],[],[]⟩,[(0,.lst)],es⟩)):=by
 rw[Wz T b];rfl
theorem abK{T:Nat->u KF}{own:Bool}{k:Nat}{body:K}(st:Nat->MS){n:Nat}{s:MS}(b:xD T own k body (st n)=Z (.exit 0,s))(a:∀i,i < n->xD T own k body (st i)=Z (.norm,st (i+1))) :
  ∀m i,i+m=n->xD T own k (.loop body) (st i)=Z (.exit 0,s)
 |0,i,h=>by rw[Lh,show i=n by omega,b];rfl
 |m+1,i,h=>by
  rw[Lh,a i (by omega)];exact abK st b a m (i+1) (by omega)
theorem vu{T:Nat->u KF}{own:Bool}{k:Nat}{body:K}(st:Nat->MS)(n:Nat){s:MS}(b:xD T own k body (st n)=Z (.exit 0,s))(a:∀i,i < n->xD T own k body (st i)=Z (.norm,st (i+1))):xD T own k (.loop body) (st 0)=Z (.exit 0,s):=
 abK st b a n 0 (by omega)
theorem vA{es:M (M D)}{i:Nat}{e:M D}(q:Int)(h:nth es i=Z e):nth (mK (es.take i) q++es.drop i) i=Z e:=by
 have a:i < es.length:=by rw[eh]at h;exact (bh.1 h).1
 rw[eh,dw (by rw[eD];simp;omega),eD,bj,cI (by omega),oF,eM es i e h];rfl
theorem vz{es:M (M D)}{i:Nat}(q:Int)(a:i<=es.length):(mK (es.take i) q++es.drop i).length=es.length:=by
 rw[a_,eD];simp;omega
theorem vB{es:M (M D)}{i:Nat}{e:M D}(q:Int)(h:nth es i=Z e)(x:M D):(mK (es.take i) q++es.drop i).set i x=mK (es.take i) q++x::es.drop (i+1):=by
 have a:i < es.length:=by rw[eh]at h;exact (bh.1 h).1
 rw[List.set_append_right _ _ (by rw[eD];simp;omega),eD,bj,cI (by omega),oF,eM es i e h];rfl
theorem tE{es:M (M D)}{i:Nat}(q:Int)(a:i < es.length)(x:M D)(t:M (M D)):nth (mK (es.take i) q++x::t) i=Z x:=by
 rw[eh,dw (by rw[eD];simp;omega),eD,bj,cI (by omega),oF];rfl
theorem tD{es:M (M D)}{i:Nat}(q:Int)(a:i < es.length)(x:M D):(mK (es.take i) q++x::es.drop (i+1)).length=es.length:=by
 rw[a_,eD];simp;omega
theorem tF{es:M (M D)}{i:Nat}(q:Int)(a:i < es.length)(x y:M D)(t:M (M D)):(mK (es.take i) q++x::t).set i y=mK (es.take i) q++y::t:=by
 rw[List.set_append_right _ _ (by rw[eD];simp;omega),eD,bj,cI (by omega),oF];rfl
theorem vy{es:M (M D)}{i:Nat}{e:M D}(q:Int)(h:nth es i=Z e):mK (es.take i) q++S4 e (q+ch (es.take i))::es.drop (i+1)=mK (es.take (i+1)) q++es.drop (i+1):=by
 rw[cB es i e h,EH];simp[mK]
theorem Ra(b:UInt8):(⟨#[b]⟩:z).size=1:=rfl
theorem GX:∀(f n:Nat) (out:z),(B7 f n out).size<=out.size+f
 |0,n,out=>by simp[B7]
 |f+1,n,out=>by
  simp only[B7];split
  ·omega
  ·have:=GX f (n / 10) (⟨#[dD (48+n % 10)]⟩++out);rw[ju,Ra]at this;omega
theorem L3(k:Int):(HC k).size<=30:=by
 unfold HC;split
 ·exact (by decide:(2:Nat)<=30)
 ·rw[ju,Ra];have:=GX 20 k.toNat ⟨#[]⟩;have a:(⟨#[]⟩:z).size=0:=rfl;omega
@[go_sem] theorem agR (q:Int):Z' (q % 3=0)=abL q:=rfl
theorem SN(t:Nat):(lay t).length<=32:=by unfold lay;split<;>simp
mutual
theorem ac8{B:Nat}:∀(t:Ty) (d:D),Ok B t d->d.mn<=1+32 * d.sz
 | .int,.int _ _,_=>by simp[D.mn]
 | .bool,.bool _,_=>by simp[D.mn]
 | .str,.str _,_=>by simp[D.mn]
 | .list t,.list k f es,h=>by
  simp only[Ok]at h;have:=rO t es h.2.2.2;simp only[D.mn,D.sz];omega
 | .int,.bool _,h | .int,.str _,h | .int,.list _ _ _,h | .bool,.int _ _,h | .bool,.str _,h | .bool,.list _ _ _,h | .str,.int _ _,h | .str,.bool _,h | .str,.list _ _ _,h | .list _,.int _ _,h | .list _,.bool _,h | .list _,.str _,h=>by simp only[Ok]at h
theorem WL{B:Nat}:∀(b:List Ty) (a:List D),fL B b a->Cc a<=b.length+32 * fm a
 |[],[],_=>by simp[Cc]
 |t::b,d::a,h=>by
  simp only[fL]at h;have g:=ac8 t d h.1;have c:=WL b a h.2;simp only[Cc,fm,aG];omega
 |[],_::_,h|_::_,[],h=>by simp only[fL]at h
theorem rO{B:Nat}(t:Nat):∀(es:List (List D)),eJ B t es->ch es<=32 * es.length+32 * qy es
 |[],_=>by simp[ch]
 |e::es,h=>by
  simp only[eJ]at h;have g:=WL (lay t) e h.1;have c:=rO t es h.2;have i:=SN t;simp only[ch,qy,aG];omega
end
end
section
inductive SK where
 |int (k:IntKind) (n:Int)
 |bool (b:Bool)
 |str (s:ByteArray)
 |nil (k:Nat) (fl:Bool)
 deriving DecidableEq
def SK.d:SK->D
 | .int k n=>.int k n
 | .bool b=>.bool b
 | .str s=>.str s
 | .nil k a=>.list k a []
inductive SE where
 |v (i:Nat)
 |k (x:SK)
 |c (i j:Nat)
 deriving DecidableEq
def elC:D->u (M D)
 | .list _ _ [cs]=>Z cs
 |_=>O
def SE.d(a:M D):SE->u D
 | .v i=>nth a i
 | .k x=>Z x.d
 | .c i j=>match nth a i with
  |some x=>match elC x with
   |some b=>nth b j
   |none=>O
  |none=>O
abbrev Gs:=M (SE×Bool)
def jt(a:M D):Gs->u Bool
 |[]=>Z I
 |(g,w)::gs=>match g.d a with
  |some (.bool b)=>if b=w then jt a gs else Z J
  |_=>O
inductive SB where
 |d (e:SE)
 |nil (k:Nat) (fl:Bool)
 |ref (r:Nat)
 |any
 deriving DecidableEq
inductive SC where
 |b (x:SB)
 |agg (xs:List SB)
 |ri (xs:List (SB ⊕ List SB))
 |ptr (b o:Nat)
 |pj (r k:Nat) (i:SE) (o:Nat)
 |ub (i o:Nat)
 |any
 deriving DecidableEq
structure SG where
 gs:Gs
 c:SC
 deriving DecidableEq
structure SR where
 e:SE
 k:Nat
 fl:Bool
 deep:Bool
 app:Bool
 fz:Bool
 deriving DecidableEq
structure SS where
 sl:List (Nat×SG)
 bx:List (Nat×List SB)
 rw:List (Nat×SR)
 deriving DecidableEq
section
variable (ρ:M D)
def kv:SB->C->Prop
 | .d e,c=>∃x,e.d ρ=Z x/\c=.d x
 | .nil k a,c=>c=.nil k a
 | .ref r,c=>c=.ref r
 | .any,_=>True
def eQ:M SB->M C->Prop
 |[],cs=>cs=[]
 |x::xs,cs=>∃c a,cs=c::a/\kv ρ x c/\eQ xs a
def uF:M (SB ⊕ M SB)->M C->Prop
 |[],cs=>cs=[]
 | .inl x::xs,cs=>∃c a,cs=c::a/\kv ρ x c/\uF xs a
 | .inr l::xs,cs=>∃b a,cs=.agg b::a/\eQ ρ l b/\uF xs a
def lN:SC->C->Prop
 | .b x,c=>kv ρ x c
 | .agg xs,c=>∃a,c=.agg a/\eQ ρ xs a
 | .ri xs,c=>∃a,c=.ri a/\uF ρ xs a
 | .ptr b o,c=>c=.ptr b o
 | .pj r k i o,c=>∃n,i.d ρ=Z (.int .i64 n)/\c=.pj r k n.toNat o
 | .ub i o,c=>∃x a,nth ρ i=Z x/\elC x=Z a/\c=.ub (a.drop o)
 | .any,_=>True
def ry(g:SG)(c:C):Prop:=∃b,jt ρ g.gs=Z b/\(b=I->lN ρ g.c c)/\(b=J->c=.uv)
def Yr(x:SR)(y:Row):Prop:=∃es,x.e.d ρ=Z (.list x.k x.fl es)/\y=⟨es,x.k,x.fl,x.deep,x.app,x.fz⟩
structure Rel (S:SS) (s:St):Prop where
 sl:∀d g,look S.sl d=some g->ry ρ g (s.get d)
 bx:∀b xs,look S.bx b=some xs->∃cs,look s.bx b=some cs/\eQ ρ xs cs
 rw:∀r x,look S.rw r=some x->∃y,look s.rw r=some y/\Yr ρ x y
end
theorem CM{a:Type}:∀{l m:M a} {i:Nat} {x:a},nth l i=Z x->nth (l++m) i=Z x
 |_::_,_,0,_,h=>by simpa [nth] using h
 |_::l,m,i+1,x,h=>by simp only[au,nth]at h ⊢;exact CM h
 |[],_,_,_,h=>by simp[nth]at h
theorem jX{a:Type}:∀(l:M a) (x:a) (m:M a),nth (l++x::m) l.length=Z x
 |[],_,_=>rfl
 |_::l,x,m=>jX l x m
section
variable {ρ:M D} (τ:M D)
theorem SE.mono{e:SE}{x:D}(h:e.d ρ=Z x):e.d (ρ++τ)=Z x:=by
 cases e with
 |v i=>exact CM h
 |k y=>exact h
 |c i j=>
  simp only[SE.d]at h ⊢
  split at h
  ·rename_i y a;rw[CM a];exact h
  ·cases h
theorem lR:∀{c:Gs} {b:Bool},jt ρ c=Z b->jt (ρ++τ) c=Z b
 |[],_,h=>h
 |(g,w)::c,b,h=>by
  simp only[jt]at h ⊢
  split at h
  ·rename_i t d;rw[SE.mono τ d];simp only
   split at h
   ·rename_i a;rw[if_pos a];exact lR h
   ·rename_i a;rw[if_neg a];exact h
  ·cases h
theorem kv.mono:∀{x:SB} {c:C},kv ρ x c->kv (ρ++τ) x c
 | .d e,_,⟨x,b,a⟩=>⟨x,SE.mono τ b,a⟩
 | .nil _ _,_,h=>h
 | .ref _,_,h=>h
 | .any,_,_=>trivial
theorem eQ.mono:∀{a:M SB} {b:M C},eQ ρ a b->eQ (ρ++τ) a b
 |[],_,h=>h
 |_::_,_,⟨c,d,g,f,e⟩=>⟨c,d,g,kv.mono τ f,eQ.mono e⟩
theorem uF.mono:∀{f:M (SB ⊕ M SB)} {g:M C},uF ρ f g->uF (ρ++τ) f g
 |[],_,h=>h
 | .inl _::_,_,⟨c,a,e,d,b⟩=>⟨c,a,e,kv.mono τ d,uF.mono b⟩
 | .inr _::_,_,⟨c,a,e,d,b⟩=>⟨c,a,e,eQ.mono τ d,uF.mono b⟩
theorem lN.mono:∀{x:SC} {c:C},lN ρ x c->lN (ρ++τ) x c
 | .b _,_,h=>kv.mono τ h
 | .agg _,_,⟨cs,d,a⟩=>⟨cs,d,eQ.mono τ a⟩
 | .ri _,_,⟨cs,d,a⟩=>⟨cs,d,uF.mono τ a⟩
 | .ptr _ _,_,h=>h
 | .pj _ _ _ _,_,⟨n,d,a⟩=>⟨n,SE.mono τ d,a⟩
 | .ub _ _,_,⟨x,cs,d,a,e⟩=>⟨x,cs,CM d,a,e⟩
 | .any,_,_=>trivial
theorem ry.mono{g:SG}{c:C}:ry ρ g c->ry (ρ++τ) g c
 |⟨b,e,d,a⟩=>⟨b,lR τ e,λh=>(d h).mono τ,a⟩
theorem Yr.mono{x:SR}{y:Row}:Yr ρ x y->Yr (ρ++τ) x y
 |⟨es,b,a⟩=>⟨es,SE.mono τ b,a⟩
theorem Rel.mono{S:SS}{s:St}(h:Rel ρ S s):Rel (ρ++τ) S s:=
 ⟨λd g a=>(h.sl d g a).mono τ,λb f a=>(h.bx b f a).imp λ_ e=>⟨e.1,e.2.mono τ⟩,λr x a=>(h.rw r x a).imp λ_ c=>⟨c.1,c.2.mono τ⟩⟩
end
def SB.kill(i:Nat):SB->SB
 | .ref r=>if r=i then .any else .ref r
 |x=>x
def SC.kill(i:Nat):SC->SC
 | .b x=>.b (x.kill i)
 | .agg xs=>.agg (xs.map (SB.kill i))
 | .ri xs=>.ri (xs.map λ| .inl x=>.inl (x.kill i) | .inr l=>.inr (l.map (SB.kill i)))
 | .ptr q o=>if q=i then .any else .ptr q o
 | .pj r k a o=>if r=i then .any else .pj r k a o
 |x=>x
def SS.kill(S:SS)(i:Nat):SS:=⟨S.sl.map λp=>(p.1,⟨p.2.gs,p.2.c.kill i⟩),S.bx.map λp=>(p.1,p.2.map (SB.kill i)),S.rw⟩
def SS.put(S:SS)(a:u Nat)(g:SG):SS:=
 match a with
 |some d=>{S with sl:=(d,g)::S.sl }
 |none=>S
def SS.gl(S:SS)(b:Nat)(a:M SB):SS:={S with bx:=(b,a)::sa S.bx b }
def SS.setRow(S:SS)(r:Nat)(x:SR):SS:={S with rw:=(r,x)::sa S.rw r }
def SS.cY(S:SS)(r:Nat):SS:={S with rw:=sa S.rw r }
def SS.lY(S:SS)(b:Nat)(a:M SB):SS:=(S.kill b).gl b a
def SS.newRow(S:SS)(r:Nat)(x:SR):SS:=(S.kill r).setRow r x
def SS.dL(S:SS)(a:mo):SS:=⟨iV S.sl a.s,iV S.bx a.b,iV S.rw a.r⟩
section
variable {ρ:M D}
theorem kv.kill(i:Nat):∀{x:SB} {c:C},kv ρ x c->kv ρ (x.kill i) (c.kill i)
 | .d e,_,⟨x,b,a⟩=>by subst a;exact⟨x,b,rfl⟩
 | .nil _ _,_,h=>by simp only[kv]at h;subst h;rfl
 | .ref r,_,h=>by
  simp only[kv]at h;subst h;simp only[SB.kill,C.kill];split
  ·trivial
  ·rfl
 | .any,_,_=>trivial
theorem eQ.kill(i:Nat):∀{a:M SB} {b:M C},eQ ρ a b->eQ ρ (a.map (SB.kill i)) (C.kN i b)
 |[],_,h=>by simp only[eQ]at h;subst h;rfl
 |_::_,_,⟨c,g,f,e,d⟩=>by subst f;exact⟨_,_,rfl,e.kill i,eQ.kill i d⟩
theorem uF.kill(i:Nat):∀{e:M (SB ⊕ M SB)} {f:M C},uF ρ e f->uF ρ (e.map λ| .inl x=>.inl (x.kill i) | .inr l=>.inr (l.map (SB.kill i))) (C.kN i f)
 |[],_,h=>by simp only[uF]at h;subst h;rfl
 | .inl _::_,_,⟨c,g,d,b,a⟩=>by subst d;exact⟨_,_,rfl,b.kill i,uF.kill i a⟩
 | .inr _::_,_,⟨j,g,d,b,a⟩=>by subst d;exact⟨_,_,rfl,b.kill i,uF.kill i a⟩
theorem lN.kill(i:Nat):∀{x:SC} {c:C},lN ρ x c->lN ρ (x.kill i) (c.kill i)
 | .b _,_,h=>kv.kill i h
 | .agg _,_,⟨cs,e,d⟩=>by subst e;exact⟨_,rfl,d.kill i⟩
 | .ri _,_,⟨cs,e,d⟩=>by subst e;exact⟨_,rfl,d.kill i⟩
 | .ptr b o,_,h=>by
  simp only[lN]at h;subst h;simp only[SC.kill,C.kill];split
  ·trivial
  ·rfl
 | .pj r k a o,_,⟨n,e,d⟩=>by
  subst d;simp only[SC.kill,C.kill];split
  ·trivial
  ·exact⟨n,e,rfl⟩
 | .ub _ _,_,⟨x,cs,e,d,f⟩=>by subst f;exact⟨x,cs,e,d,rfl⟩
 | .any,_,_=>trivial
theorem pT{a β:Type}(f:a->β)(l:M (Nat×a))(d:Nat):look (l.map λp=>(p.1,f p.2)) d=(look l d).map f:=by
 induction l with
 |nil=>rfl
 |cons p l b=>
  obtain⟨k,x⟩:=p;simp only[aZ,look,b]
  split<;>rfl
theorem VH(s:St)(i d:Nat):(s.kill i).get d=(s.get d).kill i:=by
 simp only[St.get,St.kill,xS];cases look s.sl d<;>rfl
variable {S:SS} {s:St}
theorem Rel.kill(h:Rel ρ S s)(i:Nat):Rel ρ (S.kill i) (s.kill i) where
 sl d g a:=by
  simp only[SS.kill]at a;rw[pT (λg:SG=>(⟨g.gs,g.c.kill i⟩:SG)),aj]at a;obtain⟨n,k,rfl⟩:=a;obtain⟨b,j,f,m⟩:=h.sl d n k;rw[VH];exact⟨b,j,λe=>(f e).kill i,λe=>by rw[m e];rfl⟩
 bx b l a:=by
  simp only[SS.kill]at a;rw[pT (λl:M SB=>l.map (SB.kill i)),aj]at a;obtain⟨o,k,rfl⟩:=a;obtain⟨p,j,f⟩:=h.bx b o k;exact⟨_,by simp only[St.kill,xR,j];rfl,f.kill i⟩
 rw r x a:=h.rw r x a
theorem Zk(s:St)(d e:Nat)(c:C):(s.put (Z d) c).get e=if d=e then c else s.get e:=by
 simp only[St.get,St.put,look]
 split<;>rfl
theorem Rel.put(h:Rel ρ S s)(a:u Nat){g:SG}{c:C}(i:ry ρ g c):Rel ρ (S.put a g) (s.put a c):=by
 cases a with
 |none=>exact h
 |some d=>exact {
   sl:=λe j b=>by
    simp only[SS.put,look]at b;rw[Zk]
    split at b
    ·rename_i f;cases b;rw[if_pos f];exact i
    ·rename_i f;rw[if_neg f];exact h.sl e j b
   bx:=h.bx
   rw:=h.rw }
theorem ry.nil{c:SC}{x:C}(h:lN ρ c x):ry ρ ⟨[],c⟩ x:=⟨I,rfl,λ_=>h,λh=>by cases h⟩
theorem Rel.gl(h:Rel ρ S s)(b:Nat){i:M SB}{f:M C}(j:eQ ρ i f):Rel ρ (S.gl b i) (s.gl b f) where
 sl d g a:=h.sl d g a
 bx e ys a:=by
  simp only[SS.gl,look,St.gl,eN]at a ⊢
  split at a
  ·rename_i c;cases a;exact⟨f,by rw[if_pos c],j⟩
  ·rename_i c;rw[if_neg c,if_neg c];exact h.bx e ys a
 rw r x a:=h.rw r x a
theorem Rel.setRow(h:Rel ρ S s)(r:Nat){x:SR}{y:Row}(f:Yr ρ x y):Rel ρ (S.setRow r x) (s.setRow r y) where
 sl d g b:=h.sl d g b
 bx e ys b:=h.bx e ys b
 rw q a b:=by
  simp only[SS.setRow,look,St.setRow,eN]at b ⊢
  split at b
  ·rename_i c;cases b;exact⟨y,by rw[if_pos c],f⟩
  ·rename_i c;rw[if_neg c,if_neg c];exact h.rw q a b
theorem Rel.cY(h:Rel ρ S s)(r:Nat):Rel ρ (S.cY r) (s.cY r) where
 sl d g b:=h.sl d g b
 bx e ys b:=h.bx e ys b
 rw q a b:=by
  simp only[SS.cY,St.cY,eN]at b ⊢
  split at b
  ·cases b
  ·rename_i c;rw[if_neg c];exact h.rw q a b
theorem Rel.lY(h:Rel ρ S s)(b:Nat){a:M SB}{c:M C}(d:eQ ρ a c):Rel ρ (S.lY b a) (s.lY b c):=(h.kill b).gl b d
theorem Rel.newRow(h:Rel ρ S s)(r:Nat){x:SR}{y:Row}(a:Yr ρ x y):Rel ρ (S.newRow r x) (s.newRow r y):=(h.kill r).setRow r a
theorem i_{b:Type}(l:M (Nat×b)):∀(a:M Nat) {e:Nat} {x:b},look (iV l a) e=Z x->look l e=Z x/\e∈a
 |[],_,_,h=>by simp[iV,look]at h
 |d::a,e,x,h=>by
  unfold iV at h;cases hd:look l d with
  |none=>rw[hd]at h;have:=i_ l a h;exact⟨this.1,bT _ this.2⟩
  |some y=>
   rw[hd]at h;simp only[look]at h
   split at h
   ·rename_i c;subst c;cases h;exact⟨hd,bQ⟩
   ·have:=i_ l a h;exact⟨this.1,bT _ this.2⟩
theorem sC{f:Type}(l:M (Nat×f)):∀(a:M Nat) {e:Nat} {x:f},look l e=Z x->e∈a->look (iV l a) e=Z x
 |[],_,_,_,h=>by cases h
 |d::a,e,x,h,g=>by
  unfold iV;by_cases hd:d=e
  ·subst hd;rw[h];simp[look]
  ·have b:e∈a:=by
    rcases aI.1 g with c|c
    ·exact absurd c.symm hd
    ·exact c
   cases look l d with
   |none=>exact sC l a h b
   |some y=>simp only[look,if_neg hd];exact sC l a h b
theorem DT(s:St)(a:mo){d:Nat}(h:d∈a.s):(s.dL a).get d=s.get d:=by
 simp only[St.get,St.dL];cases b:look s.sl d with
 |some x=>rw[sC _ _ b h]
 |none=>
  cases c:look (iV s.sl a.s) d with
  |none=>rfl
  |some x=>rw[(i_ _ _ c).1]at b;cases b
theorem Rel.dL(h:Rel ρ S s)(f:mo):Rel ρ (S.dL f) (s.dL f) where
 sl d g a:=by
  obtain⟨e,c⟩:=i_ _ _ a;rw[DT s f c];exact h.sl d g e
 bx b xs a:=by
  obtain⟨e,c⟩:=i_ _ _ a;obtain⟨k,j,i⟩:=h.bx b xs e;exact⟨k,sC _ _ j c,i⟩
 rw r x a:=by
  obtain⟨e,c⟩:=i_ _ _ a;obtain⟨y,j,i⟩:=h.rw r x e;exact⟨y,sC _ _ j c,i⟩
end
end
section
inductive PO where
 |cel (o:Nat)
 |has (n:Nat)
 |bin (op:BinOp)
 |TI (op:BinOp)
 |not
 |neg
 |conv (k:IntKind)
 |len
 |sln
 |min
 |max
 |Xp
 |el (k:Nat)
 |TJ
 |UY (k o n:Nat) (deep:Bool)
 |ite
 |Ti (hi:Bool)
 |zZ (k:Nat) (hi:Bool)
 |Nu
 |wB (k:Nat) (fl:Bool)
 |make (k by_:Nat) (fl:Bool) (zs:List SK)
 |app (k by_:Nat)
 |set (o:Nat)
 |cut (hi:Bool)
 |GV
 |jnl
 |jnb
 |xt (ins:Bool)
 |lst (k:Nat) (fl:Bool)
 |tru
 |pl
 |TU
 deriving DecidableEq
def dI:D->u Nat
 | .int .i64 n=>if 0<=n then Z n.toNat else O
 |_=>O
def chunk(k:Nat):Nat->M D->u (M (M D))
 |0,[]=>Z []
 |0,_=>O
 |m+1,xs=>if k<=xs.length then (chunk k m (xs.drop k)).map (xs.take k::·) else O
def asD:u C->u D
 |some (.d x)=>Z x
 |_=>O
def aU:PO->M D->u D
 | .cel o,[x]=>match elC x with
  |some l=>nth l o
  |none=>O
 | .has n,[x]=>match elC x with
  |some l=>if n<=l.length then Z (.bool J) else O
  |none=>O
 | .bin op,[x,y]=>asD (Rx op (.d x) (.d y))
 | .TI op,[.bool a,.bool b]=>Us op a b
 | .not,[.bool b]=>Z (.bool (!b))
 | .neg,[.int k a]=>Z (.int k (k.wrap (-a)))
 | .conv k,[.int _ a]=>Z (.int k (k.wrap a))
 | .len,[.list _ _ es]=>Z (.int .i64 es.length)
 | .sln,[.str t]=>Z (.int .i64 t.size)
 | .min,[.int .i64 a,.int .i64 b]=>Z (.int .i64 (if b < a then b else a))
 | .max,[.int .i64 a,.int .i64 b]=>Z (.int .i64 (if a < b then b else a))
 | .Xp,[.str t,.int .i64 n]=>if 0<=n/\n.toNat < t.size then Z (.int .u8 (eA t n.toNat)) else O
 | .el k,[.list g _ es,.int .i64 n]=>if 0<=n/\g=k then (nth es n.toNat).map λe=>.list 0 J [e] else O
 | .TJ,[.list _ _ es,.int .i64 n]=>if 0<=n/\n.toNat < es.length then Z (.bool J) else O
 | .UY k o n deep,[.list g _ es,.int .i64 i]=>match nth es i.toNat with
  |some e=>if g=k/\o+n<=k/\o+n<=e.length/\(dW ((e.drop o).take n) ||!deep)=I then Z (.list 0 J [e]) else O
  |none=>O
 | .ite,[.bool b,x,y]=>Z (if b then x else y)
 | .Ti J,[.str t,h]=>match dI h with
  |some a=>if a<=t.size then Z (.str (t.extract a t.size)) else O
  |none=>O
 | .Ti I,[.str t,h,p]=>match dI h,dI p with
  |some a,Z b=>if a<=b/\b<=t.size then Z (.str (t.extract a b)) else O
  |_,_=>O
 | .zZ k J,[.list g c es,h]=>match dI h with
  |some a=>if g=k/\a<=es.length then Z (.list g c (es.drop a)) else O
  |none=>O
 | .zZ k I,[.list g c es,h,p]=>match dI h,dI p with
  |some a,Z b=>if g=k/\a<=b/\b<=es.length then Z (.list g c ((es.take b).drop a)) else O
  |_,_=>O
 | .Nu,[.list 1 _ es]=>(bytesOf es).map λj=>.str ⟨(j.map λn=>dD n.toNat).toArray⟩
 | .wB k c,j=>if j.length % k=0 then match chunk k (j.length / k) j with
   |some es=>if c=I->es.all dW=I then Z (.list k c es) else O
   |none=>O
  else O
 | .make k m c w,[.int .i64 n]=>if 0<=n/\n.toNat * m<=room/\n<=4611686018427387904 then Z (.list k c (aY n.toNat (w.map SK.d))) else O
 | .app k m,[.list B v es,.list A C f]=>if B=k/\A=k/\v=C/\(es.length+f.length) * m<=room/\es.length+f.length<=maxLen then Z (.list k v (es++f)) else O
 | .set o,.list k c es::.int .i64 i::r=>match nth es i.toNat with
  |some e=>if o+r.length<=k/\(c=I->dW r=I) then Z (.list k c (es.set i.toNat (gU e o r))) else O
  |none=>O
 | .cut J,[.list k c es,h]=>match dI h with
  |some a=>if a<=es.length then Z (.list k c (es.drop a)) else O
  |none=>O
 | .cut I,[.list k c es,h,p]=>match dI h,dI p with
  |some a,Z b=>if a<=b/\b<=es.length then Z (.list k c ((es.take b).drop a)) else O
  |_,_=>O
 | .GV,[.list k c es,.list g q f]=>if g=k/\q=I/\c=I/\f.length=es.length then Z (.list k c f) else O
 | .jnl,[.list k c es,.list g _ f]=>if k=1/\g=1/\c=I/\f.length=es.length/\f≠[] then (match lr es,lr f with
   |some s,Z l=>Z (.list 1 I ((dM s l).map λb=>[D.bool b]))
   |_,_=>O) else O
 | .jnb,[.list _ _ es,.list _ _ f]=>match lr es,lr f with
   |some s,Z l=>Z (.bool (nC s l))
   |_,_=>O
 | .xt J,[.list k c es,.int .i64 a,.int .i64 b]=>if 0<=a/\a < b/\b<=es.length/\es.length * 56<=room then Z (.list k c (es.take a.toNat++es.drop b.toNat)) else O
 | .xt I,[.list k c es,.int .i64 a,.list _ _ f]=>if 0<=a/\a<=es.length/\f≠[]/\(es.length+f.length) * 56<=room then Z (.list k c (es.take a.toNat++f++es.drop a.toNat)) else O
 | .lst k c,[.list g q es]=>if g=k/\q=c then Z (.list k c es) else O
 | .tru,[.bool b]=>Z (.bool b)
 | .pl,j=>if dW j=I then Z (.bool J) else O
 | .TU,j=>if dW j=I then O else Z (.bool J)
 |_,_=>O
def jc(a:M D):M SE->u (M D)
 |[]=>Z []
 |e::es=>match e.d a with
  |some x=>(jc a es).map (x::·)
  |none=>O
abbrev Bs:=M (PO×M SE)
def kV(a:M D):Bs->u (M D)
 |[]=>Z a
 |(o,es)::c=>match jc a es with
  |some b=>match aU o b with
   |some x=>kV (a++[x]) c
   |none=>O
  |none=>O
def fZ(S:SS)(a:Gs):KX->u SC
 | .s d=>match look S.sl d with
  |some g=>if g.gs.all (λp=>Z' (p∈a)) then Z g.c else O
  |none=>O
 | .k (.d (.int k n))=>Z (.b (.d (.k (.int k n))))
 | .k (.d (.bool b))=>Z (.b (.d (.k (.bool b))))
 | .k (.d (.str t))=>Z (.b (.d (.k (.str t))))
 | .k (.nil k e)=>Z (.b (.nil k e))
 |_=>O
def sD:u SC->u SE
 |some (.b (.d e))=>Z e
 |_=>O
section
variable {ρ:M D} {S:SS} {s:St} {gs:Gs}
theorem oc:∀{gs:Gs},jt ρ gs=Z I->∀p∈gs,p.1.d ρ=Z (.bool p.2)
 |[],_,_,a=>by cases a
 |(g,w)::gs,h,p,a=>by
  simp only[jt]at h
  split at h
  ·rename_i b e
   split at h
   ·rename_i c;subst c;rcases aI.1 a with rfl|a
    ·exact e
    ·exact oc h p a
   ·cases h
  ·cases h
theorem Hg:∀{gs:Gs},(∀p∈gs,p.1.d ρ=Z (.bool p.2))->jt ρ gs=Z I
 |[],_=>rfl
 |(g,w)::gs,h=>by
  have a:=h (g,w) (by simp);simp only at a
  simp only[jt,a,if_true];exact Hg λp b=>h p (by simp[b])
theorem NW{gs a:Gs}(h:jt ρ gs=Z I)(b:a.all (λp=>Z' (p∈gs))=I):jt ρ a=Z I:=
 Hg λp c=>oc h p (by simpa using bz.1 b p c)
theorem cT(h:Rel ρ S s)(j:jt ρ gs=Z I){x:KX}{c:SC}(a:fZ S gs x=Z c):lN ρ c (gj s x):=by
 unfold fZ at a
 split at a
 ·rename_i d
  split at a
  ·rename_i g i
   split at a
   ·rename_i f;cases a;obtain⟨b,e,k,_⟩:=h.sl d g i;rw[NW j f]at e;cases e;exact k rfl
   ·cases a
  ·cases a
 ·cases a;exact⟨_,rfl,rfl⟩
 ·cases a;exact⟨_,rfl,rfl⟩
 ·cases a;exact⟨_,rfl,rfl⟩
 ·cases a;rfl
 ·cases a
theorem l7(h:Rel ρ S s)(b:jt ρ gs=Z I){x:KX}{e:SE}(a:sD (fZ S gs x)=Z e):∃y,e.d ρ=Z y/\gj s x=.d y:=by
 unfold sD at a
 split at a
 ·rename_i f c;cases a;exact cT h b c
 ·cases a
theorem fk{e:SE}{a:M D}(h:jc ρ [e]=Z a):∃x,e.d ρ=Z x/\a=[x]:=by
 simp only[jc]at h
 split at h
 ·rename_i x b;simp only[aQ,aa]at h;exact⟨x,b,h.symm⟩
 ·cases h
theorem dJ{e:SE}{es:M SE}{a:M D}(h:jc ρ (e::es)=Z a):∃x ys,e.d ρ=Z x/\jc ρ es=Z ys/\a=x::ys:=by
 simp only[jc]at h
 split at h
 ·rename_i x b;simp only[aj]at h;obtain⟨ys,f,c⟩:=h;exact⟨x,ys,b,f,c.symm⟩
 ·cases h
theorem eO{o:PO}{es:M SE}{b:M D}(h:kV ρ [(o,es)]=Z b):∃a x,jc ρ es=Z a/\aU o a=Z x/\b=ρ++[x]:=by
 simp only[kV]at h
 split at h
 ·rename_i a d
  split at h
  ·rename_i x c;cases h;exact⟨a,x,d,c,rfl⟩
  ·cases h
 ·cases h
theorem qu:∀{c:Bs} {ρ a:M D},kV ρ c=Z a->∃b,a=ρ++b
 |[],ρ,a,h=>by cases h;exact⟨[],by simp⟩
 |(o,es)::c,ρ,a,h=>by
  simp only[kV]at h
  split at h
  ·split at h
   ·rename_i x e;obtain⟨b,d⟩:=qu h;exact⟨x::b,by rw[d];simp⟩
   ·cases h
  ·cases h
end
end
end Go.Proofs.YtgfcijiikgjbcaaGreatDoor
