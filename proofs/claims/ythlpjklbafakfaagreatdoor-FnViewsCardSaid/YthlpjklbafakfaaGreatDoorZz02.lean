/- Part of the proof: a machine over plain data, its proof, the functions of the program run on symbols, what they answer. Condition: none. -/
import Derived.Test.YthlpjklbafakfaaGreatDoorZz01
set_option linter.unusedVariables false
set_option linter.unusedSimpArgs false
open Array renaming toList_map->mB,replicate->p9,getElem?_eq_none->vz
open Bool renaming and_eq_true->af,false_eq_true->aC,not_eq_true'->bY,true_and->cJ,or_eq_true->dr,and_true->ed,false_or->fh,or_true->ft,and_assoc->gR,and_self->kv,true->I,false->J
open Int renaming toNat_natCast->cq,le_refl->yb
open List renaming length_map->aj,cons_append->aq,nil_append->ay,length_cons->aE,length_nil->aJ,mem_cons->aP,append_nil->aQ,length_append->aR,mem_append->aS,mem_cons_self->aU,map_cons->aW,replicate->bc,all_eq_true->bg,take_append_drop->bh,length_take->bj,mem_cons_of_mem->bk,getElem?_eq_some_iff->bm,append_assoc->bE,nodup_append->bG,mem_singleton->bI,all_cons->bJ,take_length->bN,map_append->bR,length_drop->bT,eq_nil_of_length_eq_zero->ck,nodup_cons->cl,mem_map->cm,mem_of_mem_take->cz,length_eq_zero_iff->cG,drop_zero->cK,getElem?_take->da,length_eq_one_iff->db,getElem?_append_left->dW,mem_map_of_mem->ey,ext_getElem?->fi,take_succ_cons->fE,mem_of_getElem?->gD,mem_of_mem_drop->iD,getElem?_drop->jA,drop_drop->kO,take_take->kP,length_pos_iff->mK,filter_filter->nz,size_toArray->nW,take_left->nX,getElem?_eq_none->oD,drop_eq_getElem_cons->sw,drop_left->xX
open List.cons renaming injEq->bZ
open Nat renaming le_refl->au,le_trans->aL,zero_add->bD,lt_of_lt_of_le->cA,add_assoc->cV,lt_or_ge->dU,mul_le_mul_right->ee,min_eq_left->ei,add_zero->eu,blt->gf,ble->gV,blt_eq->oU
open Ne renaming symm->n9
open Option renaming map_eq_some_iff->ak,map_some->aH,isSome_iff_exists->cn,toList->oL,isNone_iff_eq_none->rF,some->Z,none->O
open Option.some renaming injEq->aa
open Prod renaming fst->eK
open Prod.mk renaming injEq->aA
open UInt8 renaming ofNat->dX
open Decidable renaming decide->Z'
namespace Go.Proofs.YthlpjklbafakfaaGreatDoor
section
open Go.RowKit
theorem my:∀(a:M Nat) (s:St) (q:Nat),look (fY s a).rw q=if q∈a then O else look s.rw q
 |[],s,q=>by simp[fY]
 |r::a,s,q=>by
  simp only[fY,my a,St.cQ,fg,aP];by_cases h:q∈a
  ·simp[h]
  ·by_cases b:r=q
   ·simp[b]
   ·simp[h,b,n9 b]
theorem og:∀(a:M Nat) (s:St),(fY s a).sl=s.sl/\(fY s a).bx=s.bx
 |[],s=>⟨rfl,rfl⟩
 |r::a,s=>by simp only[fY];exact og a (s.cQ r)
theorem pO:∀(a:M Nat) (s:St) (q:Nat),look (fW s a).bx q=if q∈a then O else look s.bx q
 |[],s,q=>by simp[fW]
 |r::a,s,q=>by
  simp only[fW,pO a,fg,aP];by_cases h:q∈a
  ·simp[h]
  ·by_cases b:r=q
   ·simp[b]
   ·simp[h,b,n9 b]
theorem o6:∀(a:M Nat) (s:St),(fW s a).sl=s.sl/\(fW s a).rw=s.rw
 |[],s=>⟨rfl,rfl⟩
 |r::a,s=>by simp only[fW];exact o6 a _
theorem wK.weaken{c b:Gh}{a e:Own->Prop}{w d:World}(h:wK c a w d)(n:∀g,a (c.ω g)->e (b.ω g))(l:∀g,b.h g<=c.h g):wK b e w d:=
 ⟨h.os,h.tape,h.output,h.size,λg m f=>h.block g m (λi=>f (n g i)),λg j k=>h.cell g j (cA k (l g)),h.gW⟩
theorem kK{P:Program}{F:FuncId}{a:Func}(d:P.funcs[F]?=Z a)(f:a.body.isSome=I)(c:(a.name == "runtime.NumGoroutine")=J)(args:Array Value)(w:World):(callFunc F args).run P w=.ok (.enter F args) w:=by
 have e:¬a.name = "runtime.NumGoroutine":=by simpa using c
 have b:¬a.body=O:=by cases h:a.body<;>simp_all
 simp[callFunc,d,e,b]
theorem xg{s:St}:∀(f:M C) {as:M A},vu s f=Z as->∀b∈cO f,∃k,look s.bx b=Z k
 |[],_,_,b,d=>by simp[cO]at d
 |c::f,as,h,b,d=>by
  simp only[vu]at h
  split at h
  ·rename_i a e;simp only[ak]at h;obtain⟨o,h,_⟩:=h;by_cases l:∃g,c=.ptr g 0
   ·obtain⟨g,rfl⟩:=l;simp only[cO,aP]at d;rcases d with rfl|d
    ·simp only[Oz]at e
     split at e
     ·rename_i k j;exact⟨k,j⟩
     ·cases e
    ·exact xg f h b d
   ·have i:cO (c::f)=cO f:=by
     unfold Oz at e
     split at e
     ·rename_i g;exact absurd ⟨g,rfl⟩ l
     ·simp only[ak]at e;obtain⟨n,m,_⟩:=e;have wT:=zm m;cases c<;>simp_all[cO,C.cells,C.cell]
    rw[i]at d;exact xg f h b d
  ·cases h
section
variable {P:Program} {γ:Gh} {h0:Nat->Nat} {io:M Nat} {w0:World} {s s':St} {f:Fm} {w:World} {N:Nat} {ty:TypeId} {pos:String} {aft:Array Edge} {gd:u (Nat×Bool)} {K:Fm->World->Prop}
 {cf:Nat->M A->u (M A×M A)} {mf:Nat->Bool->M D->Int->u (M D×Int)}
theorem adX(X:Inv γ h0 io w0 s f w){F0:FuncId}{fn:Func}(Dn:P.funcs[F0]?=Z fn)(Mz:fn.body.isSome=I)(No:(fn.name == "runtime.NumGoroutine")=J){as:Array Operand}{xs:M KX}{ts:Array TypeId}{gn:Nat}(hx:Jh N as.toList xs=I)
  (qe:∀a r o,cf gn a=Z (r,o)->HL w0 io P F0 a r o) {dst:u Nat} (y:ky cf mf s dst (.call gn xs)=Z s') (h:∀γ' p B,Inv γ' h0 io w0 s' p B->Tr dst (eY s dst (.call gn xs)) γ w γ' B f p->K p B) :
  wo P N ⟨dst,.call {callee:=.value (.func F0),args:=as,argTypes:=ts },ty,pos,aft,gd⟩ f w K:=by
 simp only[ky,xl]at y
 split at y
 ·cases y
 ·rename_i cas RF
  split at y
  ·rename_i mb;simp only[af]at mb;obtain⟨⟨ag8,ag9⟩,alg⟩:=mb;rw[pQ]at ag8 ag9
   split at y
   ·cases y
   ·rename_i H outs ade
    split at y
    ·rename_i adp;simp only[aa]at y;generalize vJ:xs.map (fX s)=k at *;have hcr:fF γ w k (as.toList.map (fr f N).eval):=by rw[<- vJ];exact En X _ _ hx
     generalize vM:as.toList.map (fr f N).eval=R at *;obtain⟨B_,iS,bS,slS,mS,gS,wS,e1,e2,e3⟩:=X.xS (ji k);have V:∀r∈dR s k,r∉ji k:=by
      intro r x n;have:=bg.1 alg r x;simp[n]at this
     obtain⟨F,rA,dA,lA,pA⟩:=CT iS bS slS mS e2 gS e3 k hcr RF (λr x=>x) V ag8 ag9;have ltF:∀g∈F,g < w.heap.size:=λg m=>by
      rcases lA g m with ⟨r,_,i⟩|⟨b,_,i,_⟩<;>exact (iS.own g (by rw[i];simp)).1
     have ioF:∀g∈F,w0.heap.size<=g\/g∈io:=λg m=>by
      rcases lA g m with ⟨r,_,i⟩|⟨b,_,i,_⟩<;>exact (iS.own g (by rw[i];simp)).2
     have rQ:=qe _ _ _ ade w B_.h R F X.size X.frame ioF rA dA ltF iS.gy;have ads:as.map (fr f N).eval=R.toArray:=by rw[<- vM];apply Array.ext';rw[mB]
     have x:=Bh (ρ:=(fr f N).eval) (dst:=dst) (ty:=ty) (pos:=pos) (aft:=aft) (gd:=gd) (w:=w) (ts:=ts) (kK Dn Mz No) rfl ads;unfold wo Oper.wp;rw[x,Oper.upon_enter];refine Calls.mono rQ λe B hp=>?_;obtain⟨v,us,F1,F2,h',rfl,VH,sC,BA,GU,RD,ry⟩:=hp;have key:∀(G:Gh) (L:St),Inv G h0 io w0 L f w->G.β=γ.β->(∀g,γ.h g<=G.h g)->(∀g,G.h g<=B_.h g)->(∀g∈F,(∃r∈dR s k,G.ω g=.row r)\/∃b∈cO k,G.ω g=.box b/\g=G.β b)->(∀g,(∃r∈dR s k,G.ω g=.row r)->∃r∈dR s k,γ.ω g=.row r)->(∀g,(∃b∈cO k,G.ω g=.box b)->∃b∈cO k,γ.ω g=.box b)->L.bx=s.bx->
       ((H.all A.closed=I/\outs.all A.closed=I)\/∀g,g < w.heap.size->g∉F->B_.h g<=G.h g)->
       ∃p,(fr f N).put dst v=fr p N/\K p B\/(il (dst.getD 0) 0 H (l_ (fW (fY L (dR s k)) (cO k)) k outs)).2.put dst (match (il (dst.getD 0) 0 H (l_ (fW (fY L (dR s k)) (cO k)) k outs)).1 with|[c]=>c|l=>.rf l)≠s':=by
      intro G L iX bX mX mX2 lX alV alU ebx Q;by_cases U:(il (dst.getD 0) 0 H (l_ (fW (fY L (dR s k)) (cO k)) k outs)).2.put dst (match (il (dst.getD 0) 0 H (l_ (fW (fY L (dR s k)) (cO k)) k outs)).1 with|[c]=>c|l=>.rf l)=s'
      ·have i1:Inv G h0 io w0 (fW (fY L (dR s k)) (cO k)) f w:=iX.sub
        (λd c n=>by rw[(o6 _ _).1,(og _ _).1]at n;exact n)
        (λd c n=>by
         rw[pO,(og _ _).2]at n
         split at n
         ·cases n
         ·exact n)
        (λd c n=>by
         rw[(o6 _ _).2,my]at n
         split at n
         ·cases n
         ·exact n)
       obtain⟨mG,W,i2,b2,v8,m2,k2,n2,o2,x2,f2⟩:=i1.after (mv:=dR s k) (bs:=cO k) ry mX2 (λg m=>by
         rcases lX g m with i|⟨b,t,i,_⟩
         ·exact .inl i
         ·exact .inr ⟨b,t,i⟩) (λr x=>by rw[(o6 _ _).2,my,if_pos x]) (λb t=>by rw[pO,if_pos t]) (λg m b t=>by
         rcases lX g m with ⟨r,_,i⟩|⟨b',lF,i,C⟩
         ·rw[i]at t;cases t
         ·have j:=pA b' lF;rw[bS,<- bX,<- C]at j;exact (BA.ptr g j).1)
       have heq:∀g∈F1++F2,W.h g=h' g:=λg m=>n2 g (RD g m).1;have hle:(H.all A.closed=I/\outs.all A.closed=I)\/∀g,h' g<=W.h g:=by
        rcases Q with Q|Q
        ·exact .inl Q
        ·refine .inr λg=>?_;rcases dU g w.heap.size with i|i
         ·by_cases C:g∈F
          ·rw[n2 g (.inr C)];exact au _
          ·rw[k2 g i C,ry.hold g i C];exact Q g i C
         ·rw[n2 g (.inl i)];exact au _
       have VF:ml W.h B outs (gq cas R) F2:=BA.re (λg m=>heq g (by simp[m])) (hle.imp (λh=>h.2) id);have ZG:ml W.h B H us F1:=sC.re (λg m=>heq g (by simp[m])) (hle.imp (λh=>h.1) id);have abM:∀g∈F1++F2,(W.ω g=.free\/W.ω g=.fP\/Value.pointer (Z ⟨g,0,O⟩)∈gq cas R)/\g < B.heap.size/\(w0.heap.size<=g\/g∈io):=by
        intro g m;obtain⟨i,C⟩:=RD g m;rcases i with i|i
        ·exact⟨.inl (f2 g i),C,.inl (aL X.size i)⟩
        ·rcases lX g i with j|⟨b,t,j,h4⟩
         ·have ho:=o2 g i j;exact⟨.inr (.inl ho),C,(i2.own g (by rw[ho];simp)).2⟩
         ·have ho:=x2 g b j;refine⟨.inr (.inr ?_),C,(i2.own g (by rw[ho];simp)).2⟩;have Y:=pA b t;rw[bS,<- bX,<- h4]at Y;exact Y
       rw[bG]at GU;obtain⟨zN,Nn,sQ⟩:=GU;obtain⟨lZ,i3,b3,j,o3⟩:=Bg k (s':=s) i2 (by rw[b2,bX];exact hcr.Tf) RF VF Nn (λg m=>abM g (by simp[m])) (λb t=>by
         obtain⟨TK,hbl⟩:=xg k RF b t;obtain⟨T,us',_,_,k3⟩:=iX.bx b TK (by rw[ebx];exact hbl);rw[b2];exact x2 _ b k3)
       obtain⟨MK,i4,c4,b4,h4,_⟩:=zn (d:=dst.getD 0) H 0 i3 (by rw[j];exact ZG) zN (λg m=>by
         obtain⟨S,k2',k3⟩:=abM g (by simp[m]);have kU:g∉F2:=λh=>sQ g m g h rfl;refine⟨?_,k2',k3⟩;rw[o3 g kU];rcases S with S|S|S
         ·exact .inl S
         ·exact .inr S
         ·exact absurd (VF.ptr g S).2 kU) (λa ha=>by
         have hs:=bg.1 adp a ha;cases a with
         |val ag R=>exact⟨ag,R,rfl,by simpa [A.short] using hs⟩
         |box R=>simp[A.short]at hs)
       have GO:CR MK B (match (il (dst.getD 0) 0 H (l_ (fW (fY L (dR s k)) (cO k)) k outs)).1 with|[c]=>c|l=>.rf l) v:=by
        generalize (il (dst.getD 0) 0 H (l_ (fW (fY L (dR s k)) (cO k)) k outs)).1=l at c4;have n:=c4.length;rcases VH with rfl|⟨kU,rfl⟩
        ·cases l with
         |nil=>simp at n
         |cons c l=>
          cases l with
          |nil=>exact At c4
          |cons c' l=>simp at n
        ·split
         ·rename_i c;simp at n;exact absurd n kU
         ·simp only[CR];exact⟨us,rfl,c4⟩
       have htr:∀p:Fm,FOk dst f p->Tr dst (eY s dst (.call gn xs)) γ w MK B f p:=λp hfo=>by
        refine⟨mG.weaken (λg m=>?_) mX,λb _=>by rw[b4,b3,b2,bX],λg=>by rw[h4,j];exact aL (mX g) (m2 g),hfo⟩;simp only[eY,vJ,Ce];rcases m with ⟨r,x,Y⟩|⟨b,t,Y⟩
        ·obtain⟨r',B1,h6⟩:=alV g ⟨r,x,Y⟩;exact⟨r',by simp[B1],.inr h6⟩
        ·obtain⟨b',lF,h6⟩:=alU g ⟨b,t,Y⟩;exact⟨b',by simp[lF],.inl h6⟩
       cases dst with
       |none=>
        refine⟨f,.inl ⟨rfl,h MK f B ?_ (htr _ .skip)⟩⟩;rw[<- U];exact i4
       |some d=>
        refine⟨FQ f d v,.inl ⟨qK f N d v,h MK _ B ?_ (htr _ .put)⟩⟩;rw[<- U];exact i4.put d _ v GO
      ·exact⟨f,.inr U⟩
     have lG:∀g∈F,(∃r∈dR s k,γ.ω g=.row r)\/∃b∈cO k,γ.ω g=.box b/\g=γ.β b:=by
      intro g m;rcases lA g m with ⟨r,x,i⟩|⟨b,t,i,C⟩
      ·rcases wS g with j|j|j|⟨q,hq,j⟩
       ·exact .inl ⟨r,x,j.symm.trans i⟩
       ·rw[i]at j;cases j
       ·rw[i]at j;cases j
       ·rw[i]at j;cases j;exact absurd hq (V r x)
      ·rcases wS g with j|j|j|⟨q,hq,j⟩
       ·exact .inr ⟨b,t,j.symm.trans i,by rw[<- bS];exact C⟩
       ·rw[i]at j;cases j
       ·rw[i]at j;cases j
       ·rw[i]at j;cases j
     have fin:∃p,(fr f N).put dst v=fr p N/\K p B:=by
      by_cases Q:(H.all A.closed && outs.all A.closed)=I
      ·rw[if_pos Q]at y;rw[af]at Q;obtain⟨p,i|i⟩:=key γ s X rfl (λ_=>au _) mS lG (λ_ h=>h) (λ_ h=>h) rfl (.inl Q)
       ·exact⟨p,i⟩
       ·exact absurd y i
      ·rw[if_neg Q]at y;obtain⟨p,i|i⟩:=key B_ (eE s (ji k)) iS bS mS (λ_=>au _) lA (λg ⟨r,x,i⟩=>by
         rcases wS g with j|j|j|⟨q,hq,j⟩
         ·exact⟨r,x,j.symm.trans i⟩
         ·rw[i]at j;cases j
         ·rw[i]at j;cases j
         ·rw[i]at j;cases j;exact absurd hq (V r x)) (λg ⟨b,t,i⟩=>by
         rcases wS g with j|j|j|⟨q,hq,j⟩
         ·exact⟨b,t,j.symm.trans i⟩
         ·rw[i]at j;cases j
         ·rw[i]at j;cases j
         ·rw[i]at j;cases j) e2 (.inr λ_ _ _=>au _)
       ·exact⟨p,i⟩
       ·exact absurd y i
     exact fin
    ·cases y
  ·cases y
theorem X4{s:St}:∀(d:M C) {as:M A},vu s d=Z as->as.all A.isVal=I->dR s d=[]/\cO d=[]
 |[],_,_,_=>⟨rfl,rfl⟩
 |c::d,as,h,g=>by
  simp only[vu]at h
  split at h
  ·rename_i a b;simp only[ak]at h;obtain⟨n,h,rfl⟩:=h;rw[bJ,af]at g;obtain⟨m,l⟩:=X4 d h g.2;by_cases i:∃e,c=.ptr e 0
   ·obtain⟨e,rfl⟩:=i;simp only[Oz]at b
    split at b
    ·simp only[ak]at b;obtain⟨k,_,rfl⟩:=b;exact absurd g.1 (by simp[A.isVal])
    ·cases b
   ·unfold Oz at b
    split at b
    ·rename_i e;exact absurd ⟨e,rfl⟩ i
    ·simp only[ak]at b;obtain⟨k,j,_⟩:=b;have wT:=zm j;cases c<;>simp_all[cO,C.cells,C.cell,dR,qy]
  ·cases h
theorem Ax{b:Nat}:∀(a:M RV) (j:Nat) (s:St),C.jD b (er (b+500) j a s).1=(er (b+500) j a s).1
 |[],j,s=>by simp[er,C.jD]
 | .d x::a,j,s=>by simp only[er,C.jD,C.kill,Ax a (j+1) s]
 | .row x::a,j,s=>by
  have h:um (b+500) j≠b:=by unfold um;omega
  simp only[er,C.jD,C.kill,Ax a (j+1),if_neg h]
theorem ah9(p:Inv γ h0 io w0 s f w){F0:FuncId}{V:Func}(Dn:P.funcs[F0]?=Z V)(Mz:V.body.isSome=I)(No:(V.name == "runtime.NumGoroutine")=J){as:Array Operand}{t:M KX}{ts:Array TypeId}{gn:Nat}(L:Jh N as.toList t=I)
  (qe:∀a r o,cf gn a=Z (r,o)->HL w0 io P F0 a r o) {dst:u Nat} (j:ky cf mf s dst (.cbx gn t)=Z s') (h:∀m W k,Inv m h0 io w0 s' W k->Tr dst dst.toList γ w m k f W->K W k) :
  wo P N ⟨dst,.call {callee:=.value (.func F0),args:=as,argTypes:=ts },ty,pos,aft,gd⟩ f w K:=by
 simp only[ky]at j
 split at j
 ·rename_i b cas RF
  split at j
  ·rename_i RT
   split at j
   ·rename_i n ade;simp only[aa]at j;generalize vJ:t.map (fX s)=cs at *;have U:fF γ w cs (as.toList.map (fr f N).eval):=by rw[<- vJ];exact En p _ _ L
    generalize vM:as.toList.map (fr f N).eval=vs at *;obtain⟨B_,G,bS,B,C,gS,wS,e1,e2,e3⟩:=p.xS (ji cs);obtain⟨l,Vv⟩:=X4 cs RF RT;obtain⟨F,rA,dA,lA,pA⟩:=CT G bS B C e2 gS e3 cs U RF (λr i=>i) (by rw[l];simp) (by rw[l];simp) (by rw[Vv];simp);have hF:F=[]:=by
     cases F with
     |nil=>rfl
     |cons g F=>
      rcases lA g (by simp) with ⟨r,i,_⟩|⟨b,hb,_⟩
      ·rw[l]at i;cases i
      ·rw[Vv]at hb;cases hb
    subst hF;have rQ:=qe _ _ _ ade w B_.h vs [] p.size p.frame (λ_ h=>by cases h) rA dA (λ_ h=>by cases h) G.gy;have Y:as.map (fr f N).eval=vs.toArray:=by rw[<- vM];apply Array.ext';rw[mB]
    have i:=Bh (ρ:=(fr f N).eval) (dst:=Z b) (ty:=ty) (pos:=pos) (aft:=aft) (gd:=gd) (w:=w) (ts:=ts) (kK Dn Mz No) rfl Y;unfold wo Oper.wp;rw[i,Oper.upon_enter];refine Calls.mono rQ λe k hp=>?_;obtain⟨v,us,F1,F2,h',rfl,VH,sC,BA,GU,RD,ry⟩:=hp;obtain⟨mG,q,i2,b2,v8,m2,k2,n2,o2,x2,f2⟩:=G.after (mv:=[]) (bs:=[]) ry (λ_=>au _) (λ_ h=>by cases h) (λ_ h=>by cases h) (λ_ h=>by cases h) (λ_ h=>by cases h);simp only[ml]at BA;obtain⟨_,rfl⟩:=BA;rw[aQ]at GU RD;have Q:∀g,h' g<=q.h g:=λg=>by
     rcases dU g w.heap.size with c|c
     ·rw[k2 g c (by simp),ry.hold g c (by simp)];exact au _
     ·rw[n2 g (.inl c)];exact au _
    have ZG:ml q.h k [.box n] us F1:=sC.re (λg S=>n2 g (RD g S).1) (.inr Q);have Ir:∀g∈F1,(q.ω g=.free\/q.ω g=.fP)/\g < k.heap.size/\(w0.heap.size<=g\/g∈io):=λg S=>by
     obtain⟨c,h2⟩:=RD g S;rcases c with c|c
     ·exact⟨.inl (f2 g c),h2,.inl (aL p.size c)⟩
     ·cases c
    simp only[ml,AR]at ZG;obtain⟨v0,us',Fa,Fb,rfl,rfl,⟨g,T,ws,F',rfl,hB,Bx,rfl,X⟩,rfl,rfl⟩:=ZG;rw[aQ]at GU Ir;obtain⟨R,mb⟩:=cl.1 GU;have hv:v=.pointer (Z ⟨g,0,O⟩):=by
     rcases VH with c|⟨c,_⟩
     ·simpa using c.symm
     ·simp at c
    subst hv;obtain⟨lZ,i3,c3,b3,h3,o3,s3⟩:=mT (d:=b+500) n 0 i2 X mb (λy H=>Ir y (by simp[H]));have gg:=Ir g (by simp);obtain⟨MK,i4,j4,k4,l4,m4,w4⟩:=i3.HQ (b:=b) hB (by rw[o3 g R];exact gg.1) gg.2.2 (by rw[h3];exact Bx) c3;rw[Ax]at i4;have i5:=i4.put b (.ptr b 0) (.pointer (Z ⟨g,0,O⟩)) (by simp only[CR,j4]);refine⟨FQ f b (.pointer (Z ⟨g,0,O⟩)),qK f N b _,h MK _ k ?_ ⟨mG.weaken (λy H=>?_) C,λx L=>?_,λy=>?_,.put⟩⟩
    ·rw[<- j];exact i5
    ·rcases H with ⟨r,i,_⟩|⟨r,i,_⟩<;>cases i
    ·rw[k4 x (λe=>L (by rw[e])),b3,b2,bS]
    ·rw[l4,h3];exact aL (C y) (m2 y)
   ·cases j
  ·cases j
 ·cases j
end
end
section
open Go.RowKit
section
variable {P:Program} {γ:Gh} {h0:Nat->Nat} {io:M Nat} {w0:World} {s s':St} {f:Fm} {w w':World} {N:Nat} {num:Nat->FuncId} {K':Fm->World->Prop}
 {cf:Nat->M A->u (M A×M A)} {mf:Nat->Bool->M D->Int->u (M D×Int)}
theorem Ri(hi:Inv γ h0 io w0 s f w){c:C}{v:Value}{x:D}(L:CR γ w c v)(l:kD s c=Z x) :
  ∃G,Rp w x v G/\(G.map eK).Nodup/\(∀q∈G,∃r∈rowsOf [c],γ.ω q.1=.row r/\γ.h q.1=0/\oX w q.1)/\
   ∀r row,c=.ref r->look s.rw r=Z row->∀w' S,Rp w' (.list row.k row.fl S) v G->(∀g,oX w g->oX w' g)->w.heap.size<=w'.heap.size->(x.plain=J)->
    ∃F,oW γ.h w' ⟨S,row.k,row.fl,I,J,J⟩ (γ.sl r) F/\F.Nodup/\∀g∈F,γ.ω g=.row r:=by
 cases c with
 |d y=>
  simp only[CR]at L;obtain⟨F,t,hS⟩:=L;refine⟨F,?_⟩;cases y with
  |list k fl es=>
   cases es with
   |nil=>
    simp only[kD,aa]at l;subst l;have hF0:F=[]:=by
     simp only[Rp]at t;obtain⟨A,n,cc,_,hn,_,_,_,_,_,h|⟨hp,_⟩⟩:=t
     ·exact h.2
     ·simp at hn;omega
    subst hF0;exact⟨t,by simp,λq m=>by simp at m,λr row e=>by cases e⟩
   |cons e es=>simp[kD]at l
  |int k n=>simp only[kD,aa]at l;subst l;obtain rfl:F=[]:=(by simp only[Rp]at t;exact t.2.1);exact⟨t,by simp,λq m=>by simp at m,λr row e=>by cases e⟩
  |bool b=>simp only[kD,aa]at l;subst l;obtain rfl:F=[]:=(by simp only[Rp]at t;exact t.2);exact⟨t,by simp,λq m=>by simp at m,λr row e=>by cases e⟩
  |str b=>simp only[kD,aa]at l;subst l;obtain rfl:F=[]:=(by simp only[Rp]at t;exact t.2.1);exact⟨t,by simp,λq m=>by simp at m,λr row e=>by cases e⟩
 |nil k fl=>
  simp only[kD,aa]at l;subst l;simp only[CR]at L;refine⟨[],?_,by simp,λq m=>by simp at m,λr row e=>by cases e⟩;simp only[Rp];exact⟨O,0,0,L.1,rfl,au _,by simp[maxLen],λ_=>km,L.2,λe he=>by simp at he,.inl ⟨rfl,trivial⟩⟩
 |ref r=>
  simp only[CR]at L;obtain⟨T,_⟩:=L;simp only[kD]at l
  split at l
  ·rename_i row hl
   split at l
   ·rename_i U;simp only[aa]at l;subst l;obtain⟨F,hR,mb,sE⟩:=hi.rw r row hl;obtain⟨A,n,c,B,q2,R,Q,q5,q6,q7,q8⟩:=hR;rcases q8 with ⟨rfl,rfl,rfl⟩|⟨g,o,xs,G,rfl,a2,a3,a4,a5,a6,a7,a8,a9,tM⟩
    ·have Ix:n=0:=by omega
     refine⟨[],?_,by simp,λq m=>by simp at m,λr' L1 e H w' S p _ _ _=>?_⟩
     ·simp only[Rp];exact⟨O,n,0,T.trans B,q2,R,Q,q7,q5,q6,.inl ⟨Ix,trivial⟩⟩
     ·cases e;rw[hl]at H;cases H;simp only[Rp]at p;obtain⟨A',n',c',K,e2,e3,e4,Y,X,W,_⟩:=p;rw[T,B]at K;cases K;exact⟨[],⟨O,n,0,B,e2,R,Q,X,W,Y,.inl ⟨rfl,rfl,rfl⟩⟩,by simp,λg hg=>by simp at hg⟩
    ·obtain⟨V,hz⟩:=a9 U.1;have yI:γ.ω g=.row r:=sE g (by rw[V];simp);by_cases Ix:n=0
     ·refine⟨[],?_,by simp,λq m=>by simp at m,λr' L1 e H w' S p Ns mR _=>?_⟩
      ·simp only[Rp];exact⟨_,n,c,T.trans B,q2,R,Q,q7,q5,q6,.inl ⟨Ix,trivial⟩⟩
      ·cases e;rw[hl]at H;cases H;simp only[Rp]at p;obtain⟨A',n',c',K,e2,e3,e4,Y,X,W,_⟩:=p;rw[T,B]at K;cases K;have Bw:S=[]:=cG.1 (by omega);subst Bw;exact⟨[g],⟨_,n,c,B,e2,R,Q,X,W,Y,.inr ⟨g,o,[],[],rfl,by omega,Ns g a3,by simp[fQ],λj a hu=>by simp at hu,by rw[a7 U.2];omega,λ_=>a7 U.2,(λh=>by cases h),λ_=>⟨rfl,λq m=>by simp at m⟩,(λh=>by cases h)⟩⟩,by simp,λy hy=>by simp at hy;rw[hy];exact yI⟩
     ·refine⟨(g,o+n * row.k)::G,?_,by simpa [V] using mb,λq m=>?_,λr' L1 e H w' S p Ns mR _=>?_⟩
      ·simp only[Rp];exact⟨_,n,c,T.trans B,q2,R,Q,q7,q5,q6,.inr ⟨by omega,g,o,xs,G,rfl,rfl,a4,a5⟩⟩
      ·rcases aP.1 m with rfl|m
       ·exact⟨r,by simp[rowsOf],yI,a7 U.2,a3⟩
       ·exact⟨r,by simp[rowsOf],sE _ (by rw[V];exact bk _ (ey m)),(hz q m).1,(hz q m).2⟩
      ·cases e;rw[hl]at H;cases H;simp only[Rp]at p;obtain⟨A',n',c',K,e2,e3,e4,Y,X,W,e8⟩:=p;rw[T,B]at K;cases K;rcases e8 with ⟨e8,_⟩|⟨_,b',o',JM,G',e9,e10,e11,e12⟩
       ·omega
       ·cases e9;simp only[bZ,true_and]at e10;subst e10;refine⟨g::G.map eK,⟨_,n,c,B,e2,R,Q,X,W,Y,.inr ⟨g,o,JM,G,rfl,by omega,Ns g a3,e11,e12,by rw[a7 U.2];omega,λ_=>a7 U.2,(λh=>by cases h),λ_=>⟨rfl,λq m=>⟨(hz q m).1,Ns _ (hz q m).2⟩⟩,(λh=>by cases h)⟩⟩,by rw[<- V];exact mb,λy hy=>sE y (by rw[V];exact hy)⟩
   ·cases l
  ·cases l
 |ptr b o=>simp[kD]at l
 |oO r k i o=>simp[kD]at l
 |tN cs=>simp[kD]at l
 |agg cs=>simp[kD]at l
 |rf cs=>simp[kD]at l
 |ug=>simp[kD]at l
 |any=>simp[kD]at l
theorem CY(hi:Inv γ h0 io w0 s f w):∀(m:M C) {S:M Value} {W:M D},fF γ w m S->uE s m=Z W->
  ∃R,nB w W S R/\(∀G∈R,∀K∈G,∃r∈rowsOf m,γ.ω K.1=.row r/\γ.h K.1=0/\oX w K.1)/\((rowsOf m).Nodup->(R.flatten.map eK).Nodup)/\
   ∀w' H j t,nB w' H S R->(∀g,oX w g->oX w' g)->w.heap.size<=w'.heap.size->qo s m H j=Z t->t.sl=j.sl/\t.bx=j.bx/\
    ∀q x,look t.rw q=Z x->look j.rw q=Z x\/(q∈rowsOf m/\∃F,oW γ.h w' x (γ.sl q) F/\F.Nodup/\∀g∈F,γ.ω g=.row q)
 |[],S,W,U,hd=>by
  simp only[uE,aa]at hd;subst hd;simp only[fF]at U;subst U;refine⟨[],by simp[nB],λG L=>by simp at L,λ_=>by simp,λw' H j t n _ _ l=>?_⟩;cases H with
  |nil=>simp only[qo,aa]at l;subst l;exact⟨rfl,rfl,λq x h=>.inl h⟩
  |cons d W=>simp[qo]at l
 |c::m,S,W,U,hd=>by
  simp only[uE]at hd
  split at hd
  ·rename_i x p;simp only[ak]at hd;obtain⟨ds0,hd,rfl⟩:=hd;simp only[fF]at U;obtain⟨v,fK,rfl,hv,vM⟩:=U;obtain⟨G0,k1,k2,k3,k4⟩:=Ri hi hv p;obtain⟨R,l1,l2,l3,l4⟩:=CY hi m vM hd;have ZF:∀r∈rowsOf [c],rowsOf (c::m)=r::rowsOf m:=λr n=>by
    cases c<;>simp[rowsOf]at n ⊢
    exact n.symm
   have Y:∀r∈rowsOf m,r∈rowsOf (c::m):=λr n=>by
    cases c<;>simp[rowsOf,n]
   refine⟨G0::R,by simp only[nB];exact⟨v,fK,G0,R,rfl,rfl,k1,l1⟩,λG L K l=>?_,λT=>?_,λw' H j t n Ns mR l=>?_⟩
   ·rcases aP.1 L with rfl|L
    ·obtain⟨r,n,V⟩:=k3 K l;exact⟨r,by rw[ZF r n];simp,V⟩
    ·obtain⟨r,n,V⟩:=l2 G L K l;exact⟨r,Y r n,V⟩
   ·have Nl:(rowsOf m).Nodup:=by
     cases c<;>simp[rowsOf]at T<;>first|exact T|exact T.2
    rw[List.flatten_cons,bR,bG];refine⟨k2,l3 Nl,?_⟩;intro a ha b l e;subst e;obtain⟨K,qd,rfl⟩:=cm.1 ha;obtain⟨YU,Q,e⟩:=cm.1 l;obtain⟨G,L,Q⟩:=List.mem_flatten.1 Q;obtain⟨r,n,V,_⟩:=k3 K qd;obtain⟨q,hq,h2,_⟩:=l2 G L YU Q;rw[e,V]at h2;cases h2;rw[ZF r n]at T;exact (cl.1 T).1 hq
   ·cases H with
    |nil=>simp only[nB]at n;cases n.1
    |cons d' H=>
     simp only[nB]at n;obtain⟨v',anM,F',YN,e1,e2,ZD,RL⟩:=n;cases e1;cases e2;have B:(∀r,c≠.ref r)->qo s m H j=Z t->t.sl=j.sl/\t.bx=j.bx/\∀q x,look t.rw q=Z x->look j.rw q=Z x\/(q∈rowsOf (c::m)/\∃F,oW γ.h w' x (γ.sl q) F/\F.Nodup/\∀g∈F,γ.ω g=.row q):=by
      intro _ l;obtain⟨m1,m2,m3⟩:=l4 w' H j t RL Ns mR l;exact⟨m1,m2,λq x h=>(m3 q x h).imp id (λh=>⟨Y q h.1,h.2⟩)⟩
     cases c with
     |ref r=>
      cases d' with
      |list k fl es=>
       simp only[qo]at l
       split at l
       ·rename_i row hl
        split at l
        ·rename_i hkf;obtain⟨rfl,rfl⟩:=hkf;have qM:x.plain=J:=by
          simp only[kD,hl]at p
          split at p
          ·simp only[aa]at p;rw[<- p];rfl
          ·cases p
         obtain⟨m1,m2,m3⟩:=l4 w' H _ t RL Ns mR l;obtain⟨F,n1,n2,n3⟩:=k4 r row rfl hl w' es ZD Ns mR qM;refine⟨m1,m2,λq y h=>?_⟩;rcases m3 q y h with X|h
         ·rw[u_]at X;clear h
          split at X
          ·rename_i hq;subst hq;cases X;exact .inr ⟨by simp[rowsOf],F,n1,n2,n3⟩
          ·exact .inl X
         ·exact .inr ⟨Y q h.1,h.2⟩
        ·cases l
       ·cases l
      |int _ _=>simp[qo]at l
      |bool _=>simp[qo]at l
      |str _=>simp[qo]at l
     |d y=>exact B (λr h=>by cases h) (by simpa [qo] using l)
     |nil k fl=>exact B (λr h=>by cases h) (by simpa [qo] using l)
     |ptr b o=>simp[kD]at p
     |oO r k i o=>simp[kD]at p
     |tN m=>simp[kD]at p
     |agg m=>simp[kD]at p
     |rf m=>simp[kD]at p
     |ug=>simp[kD]at p
     |any=>simp[kD]at p
  ·cases hd
variable {ty:TypeId} {pos:String} {aft:Array Edge} {gd:u (Nat×Bool)}
theorem adZ(p:Inv γ h0 io w0 s f w){g:Nat}{fn:Func}(Dn:P.funcs[num g]?=Z fn)(Mz:fn.body.isSome=I)(No:(fn.name == "runtime.NumGoroutine")=J){x x2:Operand}{y y2:KX}{ts:Array TypeId}(hx:kX N x y=I)(W:kX N x2 y2=I)
  (sS:∀ag F q S V,mf g ag F q=Z (S,V)->zQ w0 io P (num g) ag F q S V) {d:Nat} (l:ky cf mf s (Z d) (.YF g y y2)=Z s') (hK:∀H f' w',Inv H h0 io w0 s' f' w'->Tr (Z d) (eY s (Z d) (.YF g y y2)) γ w H w' f f'->K' f' w') :
  wo P N ⟨Z d,.call {callee:=.value (.func (num g)),args:=#[x,x2],argTypes:=ts },ty,pos,aft,gd⟩ f w K':=by
 simp only[ky]at l
 split at l
 ·rename_i d0 q Lh hq;cases Lh
  split at l
  ·rename_i F PC
   split at l
   ·rename_i mb;rw[pQ]at mb
    split at l
    ·rename_i S V ald;simp only[ak]at l;obtain⟨R,hb,rfl⟩:=l;have RL:=cy p W;rw[hq]at RL;obtain⟨Y,X⟩:=kL RL;have wT:(fX s y).cells.all C.cell=I:=by
      have:∀(Q:M C) {F:M D},uE s Q=Z F->Q.all C.cell=I:=by
       intro Q
       induction Q with
       |nil=>intro F _;rfl
       |cons c Q ih=>
        intro F h;simp only[uE]at h
        split at h
        ·rename_i a n;simp only[ak]at h;obtain⟨ds1,t,_⟩:=h;simp only[bJ,ih t,ed];cases c<;>simp[kD]at n<;>rfl
        ·cases h
      exact this _ PC
     obtain⟨c1,c2,c3⟩:=(cy p hx).cells wT;obtain⟨Fs,l1,l2,l3,l4⟩:=CY p _ c1 PC;have L:∀a∈Fs.flatten.map eK,∃r∈rowsOf (fX s y).cells,γ.ω a=.row r:=λa n=>by
      obtain⟨be,K,rfl⟩:=cm.1 n;obtain⟨G,hG,K⟩:=List.mem_flatten.1 K;obtain⟨r,B,t,_⟩:=l2 G hG be K;exact⟨r,B,t⟩
     have rQ:=sS _ _ _ _ _ ald w γ.h ((fr f N).eval x) _ Fs p.size p.frame (λa n=>by
       obtain⟨r,_,t⟩:=L a n;exact (p.own a (by rw[t];simp)).2) l1 (λU=>by
       obtain⟨vs,e⟩:=c3 U;rw[e];simp[Value.cells]) (λU=>by rw[c2 U]) X (l3 mb) (λG hG be K=>by
       obtain⟨r,_,_,t,h2⟩:=l2 G hG be K;exact⟨t,h2⟩) p.gy
     refine Ej (Bh (kK Dn Mz No) rfl (a2 rfl Y)) rQ λe w' hp=>?_;obtain⟨rfl,alk,B1,_,m⟩:=hp;refine⟨_,rfl,?_⟩;have v:wK γ (λo=>∃i∈rowsOf (fX s y).cells,o=.row i) w w':={
      os:=m.os,tape:=m.tape,output:=m.output,size:=m.size
      block:=λa n hn=>m.block a n (λhF=>by
       obtain⟨r,B,t⟩:=L a hF;exact hn ⟨r,B,t⟩)
      cell:=λa j hj=>by
       rcases dU a w.heap.size with k|k
       ·exact m.cell a j k hj
       ·have:=p.gy a k;omega
      gW:=m.gW }
     have hlk:∀r∈rowsOf (fX s y).cells,look (fY s (rowsOf (fX s y).cells)).rw r=O:=λr B=>by rw[my,if_pos B]
     have i0:Inv γ h0 io w0 (fY s (rowsOf (fX s y).cells)) f w:=p.sub (λe c k=>by rw[(og _ _).1]at k;exact k) (λe c k=>by rw[(og _ _).2]at k;exact k) (λe c k=>by
      rw[my]at k
      split at k
      ·cases k
      ·exact k)
     have T:=i0.OQ v (by rintro⟨r,_,h⟩;cases h) (λb h=>by obtain⟨r,_,h⟩:=h;cases h) (λr h=>by obtain⟨r',B1,h⟩:=h;cases h;exact hlk r B1);obtain⟨m1,m2,m3⟩:=l4 w' S _ R B1 m.gW m.size hb;have i2:Inv γ h0 io w0 R f w':={T with
      sl:=λe c k=>T.sl e c (by rw[<- m1];exact k)
      bx:=λe c k=>T.bx e c (by rw[<- m2];exact k)
      rw:=λr a k=>by
       rcases m3 r a k with h|⟨_,h⟩
       ·exact T.rw r a h
       ·exact h }
     refine hK γ _ w' (i2.put d _ _ (iQ alk)) ⟨⟨v.os,v.tape,v.output,v.size,λa n hn=>v.block a n (λh=>hn ?_),v.cell,v.gW⟩,λ_ _=>rfl,λ_=>au _,.put⟩;obtain⟨r,B,h⟩:=h;exact⟨r,B,.inr h⟩
    ·cases l
   ·cases l
  ·cases l
 ·cases l
end
end
section
open Go.RowKit
section
variable {P:Program} {γ:Gh} {h0:Nat->Nat} {io:M Nat} {w0:World} {s s':St} {f:Fm} {w:World} {N:Nat} {ty:TypeId} {pos:String} {aft:Array Edge} {gd:u (Nat×Bool)} {K:Fm->World->Prop}
 {cf:Nat->M A->u (M A×M A)} {mf:Nat->Bool->M D->Int->u (M D×Int)}
theorem ah_(Q:Inv γ h0 io w0 s f w){T T' p:TypeId}{k:Nat}{x y:Operand}{a b:KX}{d:Nat}(hU:P.underlying T=Z (.slice p))(hS:nK P p=Z k)(hx:kX N x a=I)(hy:kX N y b=I)(B:ky cf mf s (Z d) (.Gn k a b)=Z s')
  (h:∀U f' w',Inv U h0 io w0 s' f' w'->Tr (Z d) (eY s (Z d) (.Gn k a b)) γ w U w' f f'->K f' w') :
  wo P N ⟨Z d,.call {callee:=.builtin .copy,args:=#[x,y],argTypes:=#[T,T'] },ty,pos,aft,gd⟩ f w K:=by
 have X:=cy Q hx;have YA:=cy Q hy;simp only[ky]at B
 split at B
 ·rename_i d0 r k' qu es Lh Ln hyb;cases Lh;rw[Ln]at X;rw[hyb]at YA;simp only[CR,Rp]at X YA;obtain⟨F,⟨A2,m,c2,y1,y2,y3,y4,y5,y6,y7,y8⟩,lT⟩:=YA
  split at B
  ·rename_i row hl
   split at B
   ·rename_i hc;obtain⟨rfl,rfl,rfl,hrf,Av,qk,hle⟩:=hc;simp only[aa]at B;subst B;obtain⟨lZ,A,n,c,i2,b2,v8,V,o2,l2,q1,q2,q3,q4,q5,q6,q7,q8⟩:=Q.tu hl;have pj:(fr f N).eval x=.slice A n c:=X.1.trans q1;have hrX:r∈eY s (Z d) (.Gn row.k a b):=by simp[eY,Ln,rowsOf]
    have No:n=m:=by omega
    subst No;have Mz:IntKind.i64.wrap (n:Int)=(n:Int):=ij (by simp only[maxLen]at q4;omega);have mu:∀{w':World},(Builtin.copy_ #[T,T'] ty #[(fr f N).eval x,(fr f N).eval y]).run P w=.ok (.int .i64 n) w'->(execOp (fr f N).eval ⟨Z d,.call {callee:=.builtin .copy,args:=#[x,y],argTypes:=#[T,T'] },ty,pos,aft,gd⟩).run P w=.ok (.value (.int .i64 n)) w':=by
     intro w' hr;simp[execOp,resolve,invoke,builtin,hr]
    have o8:goInt n=.int .i64 (n:Int):=rfl;rcases y8 with ⟨y8,rfl⟩|⟨adm,bb,oo,t,G2,rfl,rfl,C,a3'⟩
    ·
     have Bw:es=[]:=ck (by omega);have hre:row.es=[]:=ck (by omega);subst y8;refine vg (mu (w':=w) ?_) ?_
     ·rw[pj,y1];cases A<;>cases A2<;>simp[Builtin.copy_,run_underlying hU,run_sizeOf hS,Builtin.lenOf,Builtin.firstCells,loadCells,loadCellsFrom,storeCells,goInt]
     ·have e1:s.setRow r {row with es:=es }=s.setRow r row:=by rw[Bw,<- hre]
      have i3:Inv γ h0 io w0 (s.setRow r row) f w:={Q with
       rw:=λq e L=>by
        simp only[St.setRow,look]at L;by_cases hq:r=q
        ·subst hq;simp at L;subst L;exact Q.rw r row hl
        ·rw[if_neg hq,fg]at L
         split at L
         ·cases L
         ·exact Q.rw q e L }
      have e2:es.length=0:=by rw[Bw];rfl
      refine h γ _ w ?_ ⟨wK.refl _ _ _,λ_ _=>rfl,λ_=>au _,.put⟩;rw[e1,e2];exact i3.put d _ _ (iQ rfl)
    ·have hG2:G2=[]:=C.plain (y5 rfl);subst hG2;rcases q8 with ⟨rfl,rfl⟩|⟨g,o,xs,G,rfl,a2,a3,a4,a5,a6,a7,a8,a9,tM,CN,a12⟩
     ·omega
     obtain⟨rfl,S,H,hB,vL⟩:=tM qk;have hG:G=[]:=a6.plain (q7 hrf);subst hG;have W:γ.h g=0:=a9 Av;have VB:t.length=n * row.k:=by rw[fQ.length es C y7,y2]
     have hck:n * row.k<=c * row.k:=ee _ q3;have ali:=C.rW;have hf:=run_firstCells_some (P:=P) w row.k n ⟨bb,oo,O⟩ n c2 t VB (λj v hv=>by rw[pz];exact a3' j v hv);have qf:=nu (P:=P) (o:=0) t 0 w H hB (by omega) ali;simp only[eu]at qf;refine vg (mu (w':=gM w g (.cells (cF H 0 t).toArray S (0,0))) ?_) ?_
     ·rw[pj,y1];simp[Builtin.copy_,run_underlying hU,run_sizeOf hS,Builtin.lenOf,hf,qf,goInt]
     have Y:=FY.gM w g (cF H 0 t).toArray S;have mG:wK γ (λo=>∃i∈eY s (Z d) (.Gn row.k a b),o=.box i\/o=.row i) w _:=mC Q Y ⟨r,hrX,.inr a3⟩ (λj hj=>by rw[W]at hj;omega);have h5:=i2.OQ (mC i2 Y (M:=λo=>o=.fP) a4 (λj hj=>by rw[V,W]at hj;omega)) (by simp) (λb R=>by cases R) (λr hr=>by cases hr);have adq:cF H 0 t=t++H.drop t.length:=by simp[cF]
     have jd:jo (gM w g (.cells (cF H 0 t).toArray S (0,0))) g 0 t:=by
      have h7:=(hB.iw S (cF H 0 t)).SN;intro j l hu;refine h7 j l ?_;rw[adq,dW (bm.1 hu).1];exact hu
     have B1:fQ (gM w g (.cells (cF H 0 t).toArray S (0,0))) es t []:=C.eB _ (λbe R=>by simp at R);obtain⟨MK,h6,h7,h8,h9,_,_⟩:=h5.vD (r:=r) (x:={row with es:=es }) (n:=n) (c:=c) (g:=g) (o:=0) y2 q3 q4 q5 y7 (λ_=>y5 rfl)
      (by rw[gm];exact a2) (.inl a4) (i2.own g (by rw[a4];simp)).2 ⟨by rw[gm];omega,Y.fz⟩ B1 jd (by rw[V,W];omega) (λ_=>by rw[V,W]) (λ_=>⟨rfl,S,_,hB.iw S _,by rw[jS (by omega)];exact vL⟩)
      (λbe R=>by simp at R) (λ_=>⟨by simp,λbe R=>by simp at R⟩) (by rw[v8];exact q1)
     have e6:(s.cQ r).setRow r {row with es:=es }=s.setRow r {row with es:=es }:=by
      have:ru (ru s.rw r) r=ru s.rw r:=by simp[ru,nz]
      simp[St.setRow,St.cQ,this]
     rw[e6]at h6;refine h MK _ _ ?_ ⟨mG,λ_ _=>by rw[h8,b2],λe=>by have:=h9 e;rw[V]at this;exact this,.put⟩;rw[<- y2];exact h6.put d _ _ (iQ Mz)
   ·cases B
  ·cases B
 ·cases B
end
end
section
open Go.RowKit
def MQ(P:Program)(F:FuncId):Prop:=
 ∀(w:World) (g:Nat) (T:TypeId) (a es:M Bool) (c:Nat) (b o m f:Nat) (rest:M Value),kQ w g T (a.map Value.bool++rest)->jo w b o (es.map Value.bool)->b≠g->es.length=a.length->a.length<=maxLen->
  Calls P F #[.slice (Z ⟨g,0,O⟩) a.length c,.slice (Z ⟨b,o,O⟩) es.length f] w λe d=>e=.returned (.bool (nd a es))/\d=gM w g (.cells ((dM a es).map Value.bool++rest).toArray T (0,0))
def OP(P:Program)(F:FuncId)(ins:Bool):Prop:=
 ∀(w:World) (A:u Addr) (n c a b m:Nat) (k:Value) (xs h:M Value),n<=c->c<=maxLen->a<=b->b<=n->(n+m) * 56<=room->xs.length=n * 3->h.length=m * 3->(∀v∈xs++h,one v=I)->
  ((A=O/\c=0)\/∃g T l,A=Z ⟨g,0,O⟩/\kQ w g T l/\l.length=c * 3/\l.take (n * 3)=xs)->
  (if ins=I then a=b/\0 < m/\∃q o T d,k=.slice (Z ⟨q,0,O⟩) m o/\kQ w q T d/\d.length=o * 3/\d.take (m * 3)=h/\m<=o/\∀g,A=Z ⟨g,0,O⟩->q≠g else a < b/\m=0/\k=.int .i64 b)->
  Calls P F #[.slice A n c,.int .i64 a,k] w λe i=>∃f j p d,e=.returned (.slice (Z ⟨f,0,O⟩) (n - (b - a)+m) j)/\n - (b - a)+m<=j/\j<=maxLen/\kQ i f p d/\d.length=j * 3/\
   d.take ((n - (b - a)+m) * 3)=xs.take (a * 3)++h++xs.drop (b * 3)/\((A=Z ⟨f,0,O⟩/\FY f w i)\/(f=w.heap.size/\i.heap.size=w.heap.size+1/\Bk w.heap.size w i))
def T_(P:Program)(num:Nat->FuncId):Prop:=
 (num 9004≠1000000->MQ P (num 9004))/\∀ins:Bool,num (if ins=I then 9006 else 9005)≠1000000->OP P (num (if ins=I then 9006 else 9005)) ins
def Cts(b:World)(c:M Nat)(P:Program)(num:Nat->FuncId)(d:Nat->M A->u (M A×M A)):Prop:=
 (∀g a r o,d g a=Z (r,o)->HL b c P (num g) a r o)/\T_ P num
section
variable {P:Program} {γ:Gh} {h0:Nat->Nat} {io:M Nat} {w0:World} {s s':St} {f:Fm} {w:World} {N:Nat} {ty:TypeId} {pos:String} {aft:Array Edge} {gd:u (Nat×Bool)} {K:Fm->World->Prop}
 {cf:Nat->M A->u (M A×M A)} {mf:Nat->Bool->M D->Int->u (M D×Int)}
def Gh.iF(γ:Gh)(q i:Nat):Gh:=⟨γ.h,γ.β,λr=>if r=i then γ.sl q else γ.sl r,λg=>if γ.ω g=.row q then .row i else γ.ω g⟩
mutual
theorem CR.iF(γ:Gh)(w:World)(q i:Nat):∀(c:C) {v:Value},CR γ w c v->CR (γ.iF q i) w (c.iF q i) v
 | .d x,v,h=>by simp only[CR,C.iF,Gh.iF]at h ⊢;exact h
 | .nil k y,v,h=>by simp only[CR,C.iF]at h ⊢;exact h
 | .ref r,v,h=>by
  simp only[CR]at h;simp only[C.iF];split
  ·rename_i e;subst e;simp only[CR,Gh.iF,if_true];exact h
  ·split
   ·simp only[CR]
   ·rename_i t m;simp only[CR,Gh.iF,if_neg m];exact h
 | .ptr b o,v,h=>by simp only[CR,C.iF,Gh.iF]at h ⊢;exact h
 | .oO r k a o,v,h=>by
  simp only[CR]at h;simp only[C.iF];split
  ·rename_i e;subst e;simp only[CR,Gh.iF,if_true];exact h
  ·split
   ·simp only[CR]
   ·rename_i t m;simp only[CR,Gh.iF,if_neg m];exact h
 | .tN cs,v,h=>by simp only[CR,C.iF,Gh.iF]at h ⊢;exact h
 | .agg cs,v,h=>by
  simp only[CR,C.iF]at h ⊢;obtain⟨g,l,j⟩:=h;exact⟨g,l,fF.iF γ w q i cs j⟩
 | .rf cs,v,h=>by
  simp only[CR,C.iF]at h ⊢;obtain⟨g,l,j⟩:=h;exact⟨g,l,fF.iF γ w q i cs j⟩
 | .ug,v,h=>by simp only[CR,C.iF]at h ⊢;exact h
 | .any,v,h=>by simp only[CR,C.iF]
theorem fF.iF(γ:Gh)(w:World)(q i:Nat):∀(cs:List C) {g:List Value},fF γ w cs g->fF (γ.iF q i) w (C.A8 q i cs) g
 |[],g,h=>by simp only[fF,C.A8]at h ⊢;exact h
 |c::cs,g,h=>by
  simp only[fF,C.A8]at h ⊢;obtain⟨v,p,l,j,n⟩:=h;exact⟨v,p,l,CR.iF γ w q i c j,fF.iF γ w q i cs n⟩
end
theorem SQ(q i:Nat)(l:M (Nat×C))(d:Nat):look (Xm q i l) d=(look l d).map (C.iF q i):=by
 induction l with
 |nil=>rfl
 |cons p l a=>
  obtain⟨k,x⟩:=p;unfold Xm at a ⊢;simp only[aW,look,a]
  split<;>rfl
theorem SP(q i:Nat)(l:M (Nat×M C))(d:Nat):look (Xl q i l) d=(look l d).map (C.A8 q i):=by
 induction l with
 |nil=>rfl
 |cons p l a=>
  obtain⟨k,x⟩:=p;unfold Xl at a ⊢;simp only[aW,look,a]
  split<;>rfl
theorem Inv.iF(j:Inv γ h0 io w0 s f w){q i:Nat}{row:Row}(y:look s.rw q=Z row):Inv (γ.iF q i) h0 io w0 (s.iF q i row) f w:={j with
 sl:=λd c h=>by
  simp only[St.iF,SQ,ak]at h;obtain⟨p,k,rfl⟩:=h;exact CR.iF γ w q i p (j.sl d p k)
 bx:=λb C h=>by
  simp only[St.iF,SP,ak]at h;obtain⟨o,k,rfl⟩:=h;obtain⟨T,t,m,l,B⟩:=j.bx b o k;exact⟨T,t,m,fF.iF γ w q i o l,by simp[Gh.iF,B]⟩
 rw:=λr x h=>by
  simp only[St.iF,look]at h;by_cases n:i=r
  ·subst n;simp only[if_true,aa]at h;subst h;obtain⟨F,k,m,l⟩:=j.rw q row y;exact⟨F,by simp only[Gh.iF,if_true];exact k,m,λg a=>by simp[Gh.iF,l g a]⟩
  ·rw[if_neg n,fg,if_neg n,fg]at h
   split at h
   ·cases h
   ·rename_i v;obtain⟨F,k,m,l⟩:=j.rw r x h;exact⟨F,by simp only[Gh.iF,if_neg (n9 n)];exact k,m,λg a=>by simp[Gh.iF,l g a,n9 v]⟩
 own:=λg a=>j.own g (λe=>a (by simp[Gh.iF,e]))
 nE:=λg b a=>j.nE g b (by
  simp only[Gh.iF]at a
  split at a
  ·cases a
  ·exact a) }
theorem ab0(g:Inv γ h0 io w0 s f w){op:Op}{x:Operand}{y:KX}{d:Nat}(p:op=.assign x\/op=.move x)(n:kX N x y=I)(a:ky cf mf s (Z d) (.P9 y)=Z s')
  (h:∀b j e,Inv b h0 io w0 s' j e->Tr (Z d) (eY s (Z d) (.P9 y)) γ w b e f j->K j e):wo P N ⟨Z d,op,ty,pos,aft,gd⟩ f w K:=by
 have c:=cy g n;have l:(execOp (fr f N).eval ⟨Z d,op,ty,pos,aft,gd⟩).run P w=.ok (.value ((fr f N).eval x)) w:=by
  rcases p with rfl|rfl
  ·exact ku rfl
  ·exact iC rfl
 refine eD l ?_;simp only[ky]at a
 split at a
 ·rename_i q k;rw[k]at c
  split at a
  ·rename_i row o;simp only[aa]at a;subst a;have m:=g.iF (i:=um d 0) o;exact h _ _ _ (m.put d (.ref (um d 0)) _ (by
    simp only[CR]at c ⊢
    simpa [Gh.iF] using c)) ⟨wK.refl _ _ _,λ_ _=>rfl,λ_=>au _,.put⟩
  ·cases a
 ·rename_i k;simp only[aa]at a;subst a;exact h _ _ _ (g.put d _ _ c) ⟨wK.refl _ _ _,λ_ _=>rfl,λ_=>au _,.put⟩
theorem zU:∀(es:M (M D)) {c:M Bool} {d:M Value} {G:Fp},lk es=Z c->fQ w es d G->d=c.map Value.bool/\G=[]/\c.length=es.length
 |[],c,d,G,h,a=>by
  simp only[lk,aa]at h;subst h;simp only[fQ]at a;simp[a.1,a.2]
 |e::es,c,d,G,h,a=>by
  match e,h with
  |[.bool b],h=>
   simp only[lk,ak]at h;obtain⟨l,j,rfl⟩:=h;simp only[fQ,fV,Rp]at a;obtain⟨v1,v2,o,n,rfl,rfl,⟨v,k,m,G2,rfl,rfl,⟨rfl,rfl⟩,rfl,rfl⟩,i⟩:=a;obtain⟨rfl,rfl,g⟩:=zU es j i;simp[g]
  |[],h=>simp[lk]at h
  |[.int _ _],h=>simp[lk]at h
  |[.str _],h=>simp[lk]at h
  |[.list _ _ _],h=>simp[lk]at h
  |_::_::_,h=>simp[lk]at h
theorem Hx:∀(a:M Bool),fQ w (a.map λb=>[D.bool b]) (a.map Value.bool) []
 |[]=>by simp[fQ]
 |b::a=>by
  simp only[aW,fQ,fV,Rp];exact⟨[.bool b],_,[],[],rfl,rfl,⟨.bool b,[],[],[],rfl,rfl,⟨rfl,rfl⟩,rfl,rfl⟩,Hx a⟩
theorem ko:∀(a es:M Bool),(dM a es).length=a.length
 |[],es=>by cases es<;>simp[dM]
 |b::a,[]=>by simp[dM]
 |b::a,e::es=>by simp[dM,ko a es]
theorem adC(V:Inv γ h0 io w0 s f w){r:Nat}{c:C}{v:Value}{es:M (M D)}(k:CR γ w c v)(a:GZ s r c=Z es)(T:es≠[]) :
  ∃b o n j d G,v=.slice (Z ⟨b,o,O⟩) n j/\n=es.length/\fQ w es d G/\jo w b o d/\∀g,γ.ω g=.row r->γ.h g=0->b≠g:=by
 have hl:0 < es.length:=mK.2 T;unfold GZ at a
 split at a
 ·rename_i fl Y;simp only[aa]at a;subst a;simp only[CR,Rp]at k;obtain⟨F,⟨A,n,j,m,l,R,Q,L,H,B,i⟩,S⟩:=k;rcases i with ⟨i,_⟩|⟨_,b,o,d,G,rfl,rfl,a2,a3⟩
  ·omega
  ·refine⟨b,o,n,j,d,G,m,l,a2,a3,λg _ p e=>?_⟩;have:=S (b,o+n * 1) (by simp);simp only at this
   rw[e,p]at this;omega
 ·rename_i q
  split at a
  ·rename_i row X
   split at a
   ·rename_i U;simp only[aa]at a;subst a;simp only[CR]at k;obtain⟨F,W,_,y⟩:=V.rw q row X;obtain⟨A,n,j,m,l,R,Q,L,H,B,i⟩:=W;rcases i with ⟨_,i,_⟩|⟨b,o,d,G,rfl,a2,a3,a4,a5,a6,a7,a8,a9,x⟩
    ·omega
    ·have t:γ.ω b=.row q:=y b (by
      cases hd:row.deep with
      |true=>rw[(a9 hd).1];simp
      |false=>rw[(x hd).1];simp)
     refine⟨b,o,n,j,d,G,k.1.trans m,l,a4,a5,λg p _ e=>?_⟩;rw[e,p]at t;simp only[Own.row.injEq]at t;exact U.2 t.symm
   ·cases a
  ·cases a
 ·cases a
theorem alL(Q:Inv γ h0 io w0 s f w){F0:FuncId}{fn:Func}(Dn:P.funcs[F0]?=Z fn)(Mz:fn.body.isSome=I)(No:(fn.name == "runtime.NumGoroutine")=J)(v:MQ P F0){ts:Array TypeId}{x y:Operand}{a b:KX}{d:Nat}(hx:kX N x a=I)(F:kX N y b=I)(q:ky cf mf s (Z d) (.jn a b)=Z s')
  (h:∀C f' W,Inv C h0 io w0 s' f' W->Tr (Z d) (eY s (Z d) (.jn a b)) γ w C W f f'->K f' W) :
  wo P N ⟨Z d,.call {callee:=.value (.func F0),args:=#[x,y],argTypes:=ts },ty,pos,aft,gd⟩ f w K:=by
 have Y:=cy Q hx;have YA:=cy Q F;simp only[ky]at q
 split at q
 ·rename_i d0 r Lh Ln;cases Lh;rw[Ln]at Y;simp only[CR]at Y
  split at q
  ·rename_i row es hl Bw
   split at q
   ·rename_i hc;obtain⟨hk,hrf,Av,qk,hle⟩:=hc
    split at q
    ·rename_i p t hbs vJ
     split at q
     ·rename_i kU;simp only[aa]at q;subst q;obtain⟨lZ,A,n,c,i2,b2,v8,X,o2,l2,q1,q2,q3,q4,q5,q6,q7,q8⟩:=Q.tu hl;have pj:(fr f N).eval x=.slice A n c:=Y.1.trans q1;have hrX:r∈eY s (Z d) (.jn a b):=by simp[eY,Ln,rowsOf]
      have Ix:0 < es.length:=mK.2 kU;rcases q8 with ⟨rfl,rfl⟩|⟨g,o,xs,G,rfl,a2,a3,a4,a5,a6,a7,a8,a9,tM,CN,a12⟩
      ·omega
      obtain⟨rfl,T,B,hB,vL⟩:=tM qk;have V:γ.h g=0:=a9 Av;obtain⟨rfl,rfl,hbl⟩:=zU _ hbs a6;obtain⟨bb,oo,n2,cc,OK,G2,y1,y2,y3,y4,y5⟩:=adC Q YA Bw kU;obtain⟨rfl,rfl,qL⟩:=zU _ vJ y3;have hlc:t.length=p.length:=by omega
      have H:n=p.length:=by omega
      have ZB:B=p.map Value.bool++B.drop p.length:=by
       have:B.take p.length=p.map Value.bool:=by
        apply fi
        intro j;rw[da];by_cases v:j < p.length
        ·rw[if_pos v];have h7:=a7 j (Value.bool p[j]) (by simp[v]);rw[bD,hB.cell]at h7;rw[h7];simp[v]
        ·rw[if_neg v,oD (by simp;omega)]
       conv=>lhs;rw[<- bh p.length B,this]
      have U:=hB;rw[ZB]at U;have rQ:=v w g T p t c bb oo n2 cc (B.drop p.length) U y4 (y5 g a3 V) hlc (by omega);have alr:(fr f N).eval x=.slice (Z ⟨g,0,O⟩) p.length c:=by rw[pj,H]
      have als:(fr f N).eval y=.slice (Z ⟨bb,oo,O⟩) t.length cc:=by rw[y1,y2,qL]
      refine Ej (Bh (kK Dn Mz No) rfl (by simp[alr,als])) rQ λe W hp=>?_;obtain⟨rfl,rfl⟩:=hp;refine⟨_,rfl,?_⟩;have lC:=FY.gM w g ((dM p t).map Value.bool++B.drop p.length).toArray T;have mG:wK γ (λo=>∃i∈eY s (Z d) (.jn a b),o=.box i\/o=.row i) w _:=mC Q lC ⟨r,hrX,.inr a3⟩ (λj v=>by rw[V]at v;omega);have h5:=i2.OQ (mC i2 lC (M:=λo=>o=.fP) a4 (λj v=>by rw[X,V]at v;omega)) (by simp) (λb R=>by cases R) (λr hr=>by cases hr);have S:=hB.iw T ((dM p t).map Value.bool++B.drop p.length);have jd:jo (gM w g (.cells ((dM p t).map Value.bool++B.drop p.length).toArray T (0,0))) g 0 ((dM p t).map Value.bool):=by
       intro j m hu;refine S.SN j m ?_;rw[dW (bm.1 hu).1];exact hu
      have L:=ko p t;have alp:((dM p t).map Value.bool++B.drop p.length).length=c * row.k:=by
       simp only[aR,aj,L,bT];rw[hk]at vL ⊢;omega
      obtain⟨MK,h6,h7,h8,h9,_,_⟩:=h5.vD (r:=r) (x:={row with es:=(dM p t).map λb=>[D.bool b] }) (n:=n) (c:=c) (g:=g) (o:=0) (by simp only[aj,L];exact H) q3 q4 q5
       (λy F=>by obtain⟨l,_,rfl⟩:=cm.1 F;simp[hk]) (λ_ y F l hz=>by obtain⟨m,_,rfl⟩:=cm.1 F;simp at hz;subst hz;rfl)
       (by rw[gm];exact a2) (.inl a4) (i2.own g (by rw[a4];simp)).2 ⟨by rw[gm];omega,lC.fz⟩ (Hx _) jd (by rw[X,V];omega) (λ_=>by rw[X,V]) (λ_=>⟨rfl,T,_,S,alp⟩)
       (λbe R=>by simp at R) (λ_=>⟨by simp,λbe R=>by simp at R⟩) (by rw[v8];exact q1)
      have e6:(s.cQ r).setRow r {row with es:=(dM p t).map λb=>[D.bool b] }=s.setRow r {row with es:=(dM p t).map λb=>[D.bool b] }:=by
       have:ru (ru s.rw r) r=ru s.rw r:=by simp[ru,nz]
       simp[St.setRow,St.cQ,this]
      rw[e6]at h6;exact h MK _ _ (h6.put d _ _ jl) ⟨mG,λ_ _=>by rw[h8,b2],λl=>by have:=h9 l;rw[X]at this;exact this,.put⟩
     ·cases q
    ·cases q
   ·cases q
  ·cases q
 ·cases q
end
end
section
open Go.RowKit
section
variable {P:Program} {γ:Gh} {h0:Nat->Nat} {io:M Nat} {w0:World} {s s':St} {f:Fm} {w:World} {N:Nat} {ty:TypeId} {pos:String} {aft:Array Edge} {gd:u (Nat×Bool)} {K:Fm->World->Prop}
 {cf:Nat->M A->u (M A×M A)} {mf:Nat->Bool->M D->Int->u (M D×Int)}
theorem HF{g:Nat}{T:TypeId}{c a:M Value}(hB:kQ w g T c)(e:jo w g 0 a):c.take a.length=a:=by
 apply fi
 intro j;rw[da];by_cases b:j < a.length
 ·rw[if_pos b];have d:=e j a[j] (by simp[b]);rw[bD,hB.cell]at d;rw[d];simp[b]
 ·rw[if_neg b,oD (by omega)]
theorem pn{g:Nat}{T:TypeId}{d c:M Value}{n:Nat}(hB:kQ w g T d)(e:d.take n=c):jo w g 0 c:=by
 intro j a b;rw[bD,hB.cell];rw[<- e,da]at b
 split at b
 ·exact b
 ·cases b
theorem Hz{w:World}{g:Nat}{T:TypeId}{a:M Value}(h:kQ w g T a):gM w g (.cells a.toArray T (0,0))=w:=by
 unfold gM;have e:w.heap.setIfInBounds g (.cells a.toArray T (0,0))=w.heap:=by
  apply Array.ext_getElem?
  intro k;rw[Array.getElem?_setIfInBounds];split
  ·rename_i b;subst b;rw[if_pos h.lt];exact h.symm
  ·rfl
 rw[e]
theorem Og(H:Inv γ h0 io w0 s f w){c:C}{d:Value}(B:CR γ w c d){ins:Bool}{a b:Int}{es:M (M D)}{W:Bool}{v:St}(j:xT s ins a c=Z (b,es,W,v)) :
  ∃y G i,Inv y h0 io w0 v f w/\fQ w es i G/\Emb γ w W G y/\(∀e∈es,e.length=3)/\(∀r row,look v.rw r=Z row->look s.rw r=Z row)/\
   (if ins=I then b=a/\0 < es.length/\∃q m T p,d=.slice (Z ⟨q,0,O⟩) es.length m/\kQ w q T p/\p.length=m * 3/\p.take (es.length * 3)=i/\es.length<=m/\∀r row,look v.rw r=Z row->γ.ω q≠.row r else a < b/\es=[]/\d=.int .i64 b):=by
 unfold xT at j
 split at j
 ·rename_i b'
  split at j
  ·rename_i k;obtain⟨rfl,Vr⟩:=k;simp only[aa,aA]at j;obtain⟨rfl,rfl,rfl,rfl⟩:=j;obtain⟨hv,_⟩:=kL B;exact⟨γ,[],[],H,by simp[fQ],⟨rfl,rfl,λ_=>au _,λ_ h=>by simp at h,λ_=>by simp,λ_ h=>⟨h,rfl⟩,λ_=>.inl rfl⟩,λ_ h=>by simp at h,λ_ _ h=>h,by simp[Vr,hv]⟩
  ·cases j
 ·rename_i q
  split at j
  ·rename_i row U
   split at j
   ·rename_i k;obtain⟨rfl,V,Y,qk,kU⟩:=k;simp only[aa,aA]at j;obtain⟨rfl,rfl,rfl,rfl⟩:=j;obtain⟨F,hR,mb,sE⟩:=H.rw q row U;obtain⟨A,n,m,q1,q2,q3,q4,q5,q6,q7,Q⟩:=hR;have t:0 < row.es.length:=mK.2 kU;have sV:m_ s 3 J (.ref q)=Z (row.es,row.deep && !row.fz,s.cQ q):=by simp[m_,U,V,Y]
    obtain⟨y,G,i,i1,L,e1,R,_,l⟩:=CQ H B sV;simp only[CR]at B;rcases Q with ⟨_,Q,_⟩|⟨g,o,xs,G',rfl,a2,a3,a4,a5,a6,a7,a8,a9,tM⟩
    ·omega
    ·obtain⟨rfl,T,p,hB,ZI⟩:=a8 qk;have X:γ.ω g=.row q:=sE g (by
      cases hd:row.deep with
      |true=>rw[(a9 hd).1];simp
      |false=>rw[(tM hd).1];simp)
     have S:d=.slice (Z ⟨g,0,O⟩) n m:=B.1.trans q1;have RJ:=fQ.length row.es L R;refine⟨y,G,i,i1,L,e1,R,λr x h=>?_,?_⟩
     ·simp only[St.cQ,fg]at h
      split at h
      ·cases h
      ·exact h
     ·rw[if_pos rfl];refine⟨rfl,t,g,m,T,p,by rw[S,q2],hB,by rw[ZI,V],?_,by omega,λr x h=>?_⟩
      ·rcases l with ⟨l,_⟩|⟨b,o,c2,l,k4⟩
       ·omega
       ·rw[S]at l;simp only[Value.slice.injEq,aa,Addr.mk.injEq,and_true]at l;obtain⟨⟨rfl,rfl⟩,_⟩:=l;rw[<- RJ];exact HF hB k4
      ·rw[X];intro e;simp only[Own.row.injEq]at e;subst e;simp only[St.cQ,fg,if_true]at h;cases h
   ·cases j
  ·cases j
 ·cases j
theorem aib(hi:Inv γ h0 io w0 s f w){F0:FuncId}{fn:Func}(Dn:P.funcs[F0]?=Z fn)(Mz:fn.body.isSome=I)(No:(fn.name == "runtime.NumGoroutine")=J){ins:Bool}(hj:OP P F0 ins){ts:Array TypeId}{x y l:Operand}{a b c:KX}{d:Nat}
  (hx:kX N x a=I) (Y:kX N y b=I) (hz:kX N l c=I) (C:ky cf mf s (Z d) (.zt ins a b c)=Z s') (h:∀Q f' w',Inv Q h0 io w0 s' f' w'->Tr (Z d) (eY s (Z d) (.zt ins a b c)) γ w Q w' f f'->K f' w') :
  wo P N ⟨Z d,.call {callee:=.value (.func F0),args:=#[x,y,l],argTypes:=ts },ty,pos,aft,gd⟩ f w K:=by
 have qM:=cy hi hx;have YA:=cy hi Y;have hpz:=cy hi hz;simp only[ky]at C
 split at C
 ·rename_i d0 p Lh hya;cases Lh;rw[hya]at YA;obtain⟨hyv,_⟩:=kL YA
  split at C
  ·rename_i b' es dp s1 sV;obtain⟨nC,G2,F,i1,r2,e1,hk2,wA,VN⟩:=Og hi hpz sV
   split at C
   ·rename_i r Ln;rw[Ln]at qM;simp only[CR]at qM
    split at C
    ·rename_i row hl
     split at C
     ·rename_i hcc;obtain⟨h3,ub,qk,Av,hp0,hbl,YB⟩:=hcc;simp only[aa]at C;subst C;obtain⟨X,A,n,c',i2,b2,v8,W,o2,l2,q1,q2,q3,q4,q5,q6,q7,q8⟩:=i1.tu hl;rw[e1.sl]at q1;have pj:(fr f N).eval x=.slice A n c':=qM.1.trans q1;have hrX:r∈eY s (Z d) (.zt ins a b c):=by simp[eY,Ln,rowsOf]
      obtain⟨L,rfl⟩:∃L:Nat,p=L:=⟨p.toNat,by omega⟩
      have hpb:(L:Int)<=b':=by
       cases ins with
       |true=>rw[if_pos rfl]at VN;omega
       |false=>rw[if_neg (by simp)]at VN;omega
      obtain⟨H,rfl⟩:∃H:Nat,b'=H:=⟨b'.toNat,by omega⟩
      simp only[cq]at h ⊢;have ahb:L<=H:=by omega
      have Vv:H<=n:=by omega
      have RJ:F.length=es.length * 3:=fQ.length es r2 hk2;have hle:((row.es.take L++es)++row.es.drop H).length=n - (H - L)+es.length:=by
       simp only[aR,bj,bT];rw[ei (by omega)];omega
      have Bv:∀e∈(row.es.take L++es)++row.es.drop H,e.length=row.k:=λe C=>by
       rcases aS.1 C with C|C
       ·rcases aS.1 C with C|C
        ·exact q6 e (cz C)
        ·rw[h3];exact hk2 e C
       ·exact q6 e (iD C)
      obtain⟨R,G,a6,hold,Dp,alc,hAB⟩:∃R G,fQ w row.es R G/\((A=O/\c'=0)\/∃g T vs,A=Z ⟨g,0,O⟩/\kQ w g T vs/\vs.length=c' * 3/\vs.take (n * 3)=R)/\
        (∀m∈G,m.2<=X.h m.1\/(yd X w m.1/\A≠Z ⟨m.1,0,O⟩))/\(row.deep=I->(G.map eK).Nodup/\∀m∈G,yd X w m.1/\nC.ω m.1=.row r/\A≠Z ⟨m.1,0,O⟩)/\
        (∀g,A=Z ⟨g,0,O⟩->g < w.heap.size/\nC.ω g=.row r/\X.ω g=.fP/\nC.h g=0/\oX w g):=by
       rcases q8 with ⟨rfl,rfl⟩|⟨g,o,R,G,rfl,a2,a3,a4,a5,a6,a7,a8,a9,tM,CN,a12⟩
       ·have hre:row.es=[]:=ck (by omega);exact⟨[],[],by rw[hre];simp[fQ],.inl ⟨rfl,rfl⟩,λ_ h=>by simp at h,λ_=>⟨by simp,λ_ h=>by simp at h⟩,λg e=>by cases e⟩
       ·obtain⟨rfl,T,vs,hB,vL⟩:=tM qk;have B2:R.length=n * 3:=by rw[fQ.length _ a6 q6,q2,h3]
        refine⟨R,G,a6,.inr ⟨g,T,vs,rfl,hB,by rw[vL,h3],by rw[<- B2];exact HF hB a7⟩,λm t=>?_,λhd=>?_,λg' e=>?_⟩
        ·rcases CN m t with B|B
         ·exact .inl (by rw[W];exact B)
         ·exact .inr ⟨B.1,λe=>by simp only[aa,Addr.mk.injEq]at e;exact B.2 e.1.symm⟩
        ·obtain⟨d1,d2⟩:=a12 hd;rw[cl]at d1;exact⟨d1.2,λm t=>⟨(d2 m t).1,(d2 m t).2,λe=>by simp only[aa,Addr.mk.injEq]at e;exact d1.1 (e.1▸ey t)⟩⟩
        ·simp only[aa,Addr.mk.injEq]at e;obtain⟨rfl,_⟩:=e;exact⟨a2,a3,a4,a9 Av,a5⟩
      have B2:R.length=n * 3:=by rw[fQ.length _ a6 q6,q2,h3]
      have GX:∀g,A=Z ⟨g,0,O⟩->γ.ω g=.row r:=λg hg=>by
       have a3:=(hAB g hg).2.1;rcases e1.own g with h|h|h
       ·rw[<- h];exact a3
       ·rw[a3]at h;cases h
       ·rw[a3]at h;cases h
      have rQ:=hj w A n c' L H es.length ((fr f N).eval l) R F q3 q4 ahb Vv (by rw[q2];exact YB) B2 RJ (λv hv=>by
        rcases aS.1 hv with hv|hv
        ·exact a6.rW v hv
        ·exact r2.rW v hv) hold (by
        cases ins with
        |true=>
         rw[if_pos rfl]at VN ⊢;obtain⟨z1,z2,q,cc,T,us,z3,z4,z5,z6,z7,z8⟩:=VN;exact⟨by omega,z2,q,cc,T,us,z3,z4,z5,z6,z7,λg hg e=>z8 r row hl (by rw[e];exact GX g hg)⟩
        |false=>
         rw[if_neg (by simp)]at VN ⊢;obtain⟨z1,z2,z3⟩:=VN;exact⟨by omega,by rw[z2,aJ],z3⟩)
      have NI:∀g,yd nC w g->yd X w g:=λg hg=>⟨by rw[o2 _ (by rw[hg.1];simp)];exact hg.1,by rw[W];exact hg.2.1,hg.2.2⟩
      have a6':=a6;rw[<- bh H row.es]at a6';obtain⟨v1,v2,F1,U,GW,hG,k1,k2⟩:=fQ.gE _ a6';rw[<- bh L (row.es.take H)]at k1;obtain⟨V,u2,S,G3,hv1,hF1,m1,m2⟩:=fQ.gE _ k1;rw[kP,ei ahb]at m1;have lv1:v1.length=H * 3:=by
       rw[fQ.length _ k1 (λe C=>q6 e (by rw[bh]at C;exact cz C)),bh,bj,ei (by omega),h3]
      have lu1:V.length=L * 3:=by
       rw[fQ.length _ m1 (λe C=>q6 e (cz C)),bj,ei (by omega),h3]
      have ak3:R.take (L * 3)++F++R.drop (H * 3)=(V++F)++v2:=by
       rw[GW,<- lv1,xX,hv1,bE V,<- lu1,nX]
      have ZE:fQ w ((row.es.take L++es)++row.es.drop H) ((V++F)++v2) ((S++G2)++U):=fQ.append _ (fQ.append _ m1 r2) k2;have PH:∀m,m∈S\/m∈U->m∈G:=λm t=>by
       rw[hG,hF1];rcases t with t|t<;>simp[t]
      have wZ:∀m∈(S++G2)++U,m.2<=X.h m.1\/(yd X w m.1/\A≠Z ⟨m.1,0,O⟩):=by
       intro m t;have lF:(m∈S\/m∈U)\/m∈G2:=by
        simp only[aS]at t;rcases t with (t|t)|t
        ·exact .inl (.inl t)
        ·exact .inr t
        ·exact .inl (.inr t)
       rcases lF with t|t
       ·exact Dp m (PH m t)
       ·rcases e1.some_ m t with B|B
        ·exact .inl (by rw[W];exact B)
        ·refine .inr ⟨NI _ B,λe=>?_⟩;have:=(hAB _ e).2.1;rw[B.1]at this;cases this
      have yq:(row.deep && dp)=I->(((S++G2)++U).map eK).Nodup/\∀m∈(S++G2)++U,yd X w m.1/\A≠Z ⟨m.1,0,O⟩:=by
       intro hd;rw[af]at hd;obtain⟨n1,l1⟩:=e1.deep hd.2;obtain⟨n2,R4⟩:=alc hd.1;have sQ:∀m,(m∈S\/m∈U)->∀YU∈G2,m.1≠YU.1:=λm t YU lF e=>by
        have V:=(R4 m (PH m t)).2.1;have u2:=(l1 YU lF).1.1;rw[e,u2]at V;cases V
       have jY:∀m∈(S++G2)++U,yd X w m.1/\A≠Z ⟨m.1,0,O⟩:=λm t=>by
        rcases wZ m t with B|B
        ·simp only[aS]at t;rcases t with (t|t)|t
         ·have:=R4 m (PH m (.inl t));exact⟨this.1,this.2.2⟩
         ·refine⟨NI _ (l1 m t).1,λe=>?_⟩;have:=(hAB _ e).2.1;rw[(l1 m t).1.1]at this;cases this
         ·have:=R4 m (PH m (.inr t));exact⟨this.1,this.2.2⟩
        ·exact B
       refine⟨?_,jY⟩;rw[hG,hF1,bR,bR,bG,bG]at n2;obtain⟨⟨n3,_,_⟩,n4,n5⟩:=n2;rw[bR,bR,bG,bG];refine⟨⟨n3,n1,λy Y y' JX e=>?_⟩,n4,λy Y y' JX e=>?_⟩
       ·obtain⟨m,t,rfl⟩:=cm.1 Y;obtain⟨YU,lF,rfl⟩:=cm.1 JX;exact sQ m (.inl t) YU lF e
       ·rcases aS.1 Y with Y|Y
        ·exact n5 y (by simp[Y]) y' JX e
        ·obtain⟨m,t,rfl⟩:=cm.1 Y;obtain⟨YU,lF,rfl⟩:=cm.1 JX;exact sQ YU (.inr lF) m t e.symm
      refine Ej (Bh (kK Dn Mz No) rfl (by simp[pj,hyv])) rQ λe w' hp=>?_;obtain⟨g',cap,T',us,rfl,y1,y2,y3,y4,y5,y6⟩:=hp;refine⟨_,rfl,?_⟩;rw[ak3]at y5;have jd:jo w' g' 0 ((V++F)++v2):=pn y3 y5;rcases y6 with ⟨rfl,lC⟩|⟨rfl,mR,Vw⟩
      ·obtain⟨z1,z2,z3,z4,z5⟩:=hAB g' rfl;have Bx:γ.h g'=0:=by have:=e1.h g';omega
       have yI:=GX g' rfl;have i3:=i2.OQ (mC i2 lC (M:=λo=>o=.fP) z3 (λj hj=>by rw[W,z4]at hj;omega)) (by simp) (λb t=>by cases t) (λr hr=>by cases hr);have mG:wK γ (λo=>∃i∈eY s (Z d) (.zt ins a b c),o=.box i\/o=.row i) w w':=mC hi lC ⟨r,hrX,.inr yI⟩ (λj hj=>by rw[Bx]at hj;omega);have adn:fQ w' ((row.es.take L++es)++row.es.drop H) ((V++F)++v2) ((S++G2)++U):=by
        refine ZE.eB _ λm t j hj=>?_;by_cases h8:m.1=g'
        ·rcases wZ m t with B|B
         ·rw[h8,W,z4]at B;omega
         ·exact absurd (by rw[h8]) B.2
        ·exact World.cell?_of_block (w:=w) (lC.block _ h8)
       obtain⟨Q,j1,j2,j3,j4,_⟩:=i3.pE (r:=r) (x:={row with es:=(row.es.take L++es)++row.es.drop H,deep:=row.deep && dp }) (n:=n - (H - L)+es.length) (c:=cap) (g:=g') (o:=0) hle.symm y1 y2 q5 Bv (λhf=>by rw[ub]at hf;cases hf) (by rw[lC.size];exact z1) (.inl z3) (i2.own g' (by rw[z3];simp)).2 ⟨by rw[lC.size];exact z1,lC.fz⟩ adn jd (by rw[W,z4];omega) (λhf=>by rw[W];exact z4) (λ_=>⟨rfl,T',us,y3,by rw[y4,h3]⟩)
        (λm t=>by
         rcases wZ m t with B|B
         ·exact .inl B
         ·exact .inr ⟨⟨B.1.1,B.1.2.1,mG.gW _ B.1.2.2⟩,λe=>B.2 (by rw[e])⟩)
        (λhd=>by
         obtain⟨d1,d2⟩:=yq hd;refine⟨cl.2 ⟨λhm=>?_,d1⟩,λm t=>by have:=(d2 m t).1;exact⟨this.1,this.2.1,mG.gW _ this.2.2⟩⟩;obtain⟨m,t,e⟩:=cm.1 hm;exact (d2 m t).2 (by rw[e]))
       rw[jC]at j1;exact h Q _ _ (j1.put d (.ref r) _ (by simp only[CR,j2];exact⟨trivial,_,_,_,rfl⟩)) ⟨mG,λx _=>by rw[j3,b2,e1.β],λg=>by have:=j4 g;rw[W]at this;exact aL (e1.h g) this,.put⟩
      ·have i3:=i2.Mv Vw;have iM:∀m∈(S++G2)++U,m.1 < w.heap.size:=fQ.lt _ ZE;have BQ:=(kJ hi Vw (λ_=>False)).gW;obtain⟨Q,j1,j2,j3,j4,_⟩:=i3.pE (r:=r) (x:={row with es:=(row.es.take L++es)++row.es.drop H,deep:=row.deep && dp }) (n:=n - (H - L)+es.length) (c:=cap) (g:=w.heap.size) (o:=0) hle.symm y1 y2 q5 Bv (λhf=>by rw[ub]at hf;cases hf) (by omega) (.inr (i2.rk (au _))) (.inl hi.size) ⟨by omega,Vw.FP _ (au _)⟩ (ZE.Mv Vw) jd (by rw[i2.gy _ (au _)];omega) (λ_=>i2.gy _ (au _)) (λ_=>⟨rfl,T',us,y3,by rw[y4,h3]⟩)
        (λm t=>by
         rcases wZ m t with B|B
         ·exact .inl B
         ·exact .inr ⟨⟨B.1.1,B.1.2.1,BQ _ B.1.2.2⟩,by have:=iM m t;omega⟩)
        (λhd=>by
         obtain⟨d1,d2⟩:=yq hd;refine⟨cl.2 ⟨λhm=>?_,d1⟩,λm t=>by have:=(d2 m t).1;exact⟨this.1,this.2.1,BQ _ this.2.2⟩⟩;obtain⟨m,t,e⟩:=cm.1 hm;have:=iM m t;omega)
       rw[jC]at j1;exact h Q _ w' (j1.put d (.ref r) _ (by simp only[CR,j2];exact⟨trivial,_,_,_,rfl⟩)) ⟨kJ hi Vw _,λx _=>by rw[j3,b2,e1.β],λg=>by have:=j4 g;rw[W]at this;exact aL (e1.h g) this,.put⟩
     ·cases C
    ·cases C
   ·cases C
  ·cases C
 ·cases C
end
end
section
open Go.RowKit
def noD(a:M Nat)(l:Array Bool):Prop:=∀m∈a,l.getD m J=J
def Cons(a:M (M Nat×(World->Prop)))(l:Array Bool)(w:World):Prop:=∀p∈a,noD p.1 l->p.2 w
theorem Vl{l:Array Bool}{i m:Nat}(h:(l.setIfInBounds i I).getD m J=J):l.getD m J=J:=by
 cases a:l.getD m J with
 |false=>rfl
 |true=>rw[getD_set_true a]at h;cases h
theorem aah{a:M Nat}{l:Array Bool}{i:Nat}(h:noD a (l.setIfInBounds i I)):noD a l:=λm b=>Vl (h m b)
theorem y_{a:M Nat}{l:Array Bool}{i:Nat}(h:noD a l)(c:i∉a):noD a (l.setIfInBounds i I):=λm b=>by
 rw[getD_set_ne J (by intro e;subst e;exact c b)];exact h m b
theorem Cons.set{a:M (M Nat×(World->Prop))}{l:Array Bool}{w:World}(h:Cons a l w)(i:Nat):Cons a (l.setIfInBounds i I) w:=λp b c=>h p b (aah c)
theorem Cons.akj{a:M (M Nat×(World->Prop))}{l:Array Bool}{w:World}{i:Nat}(h:Cons a (l.setIfInBounds i I) w)(d:∀p∈a,i∉p.1):Cons a l w:=λp b c=>h p b (y_ c (d p b))
section
variable {P:Program} {ops:Array Oper} {Q:Exit->Act->World->Prop} {md:Region.Mode}
def ri(P:Program)(md:Region.Mode)(ops:Array Oper)(Q:Exit->Act->World->Prop)(c:M (M Nat×(World->Prop))):Nat->Array Bool->Act->World->Prop
 |0,listed,a,w=>Region.ready md ops listed=[]/\Q .normal a w
 |fuel+1,listed,a,w=>
  (Region.ready md ops listed=[]->Q .normal a w)/\
  ∀i∈Region.ready md ops listed,wpOp P ops Q i (λd b=>Cons c (listed.setIfInBounds i I) b/\ri P md ops Q c fuel (listed.setIfInBounds i I) d b) a w
theorem E5{f:M (M Nat×(World->Prop))}:∀(fuel:Nat) (listed:Array Bool) (a:Act) (w:World),ri P md ops Q f fuel listed a w->wpAny P md ops Q fuel listed a w
 |0,_,_,_,h=>h
 |fuel+1,_,_,_,h=>⟨h.1,λi c=>wpOp_mono (λe b d=>E5 fuel _ e b d.2) (h.2 i c)⟩
def okD(md:Region.Mode)(ops:Array Oper)(i:Nat)(a:M Nat):Bool:=a.all λj=>match ops[j]? with
 |some o=>o.after.any λe=>Region.binds md e && (e.on ==i ||a.contains e.on)
 |none=>J
theorem WG{i:Nat}{d:M Nat}(h:okD md ops i d=I){listed:Array Bool}(p:listed.getD i J=J)(l:noD d listed){j:Nat}(n:j∈Region.ready md ops listed):j∉d:=by
 intro m;have f:=bg.1 h j m;obtain⟨_,o,k,g⟩:=mem_ready.1 n;rw[k]at f;obtain⟨e,q,b⟩:=Array.any_eq_true'.1 f;simp only[af,dr,beq_iff_eq,List.contains_iff_mem]at b;have a:=g e q b.1;rcases b.2 with c|c
 ·rw[c,p]at a;cases a
 ·rw[l _ c]at a;cases a
theorem akg{x:M (M Nat×(World->Prop))}{i:Nat}{q:Oper}{v:Value}{V:World->Prop}{W F:M Nat}(hi:ops[i]?=Z q)(K:∀(j:Nat) (o:Oper) G b,ops[j]?=Z o->o.op≠.select G b)
  (hQ:∀c a w,Q (.panic c) (a.put q.dst v) w->Q (.panic c) a w) (hD:okD md ops i W=I) (Li:∀m∈F,m∈W) (hid:i∉F) (hCi:∀p∈x,i∉p.1) :
  ∀(f:Nat) (d:Array Bool) (a:Act) (w:World),
   (∀j n,ops[j]?=Z n->j≠i->d.getD j I=J->(∀e∈n.after,Region.binds md e=I->e.on≠i)->q.apart ops n=I)->
   i∈Region.ready md ops d->noD W d->YieldsIf P ops V q v a->V w->Cons x d w->
   ri P md ops Q ((F,V)::x) f (d.setIfInBounds i I) (a.put q.dst v) w->ri P md ops Q x (f+1) d a w:=by
 intro f;have l:∀(f:Nat) (d:Array Bool) (a:Act) (w:World),ri P md ops Q ((F,V)::x) f d a w->ri P md ops Q x f d a w:=by
  intro f
  induction f with
  |zero=>intro d a w h;exact h
  |succ f X=>intro d a w h;exact⟨h.1,λj t=>wpOp_mono (λa' A y=>⟨λp Y=>y.1 p (by simp[Y]),X _ a' A y.2⟩) (h.2 j t)⟩
 induction f with
 |zero=>
  intro d a w _ r T R hV hC H;refine⟨λh=>(by rw[h]at r;cases r),λj t=>?_⟩;by_cases g:j=i
  ·subst g;exact R.wpOp hi hV ⟨hC.set j,l _ _ _ _ H⟩
  ·have:=ready_mono t g;rw[H.1]at this;cases this
 |succ f X=>
  intro d a w Ll r T R hV hC H;refine⟨λh=>(by rw[h]at r;cases r),λj t=>?_⟩;by_cases g:j=i
  ·subst g;exact R.wpOp hi hV ⟨hC.set j,l _ _ _ _ H⟩
  ·have U:=H.2 j (ready_mono t g);obtain⟨L,n,s,jY⟩:=mem_ready.1 t;have N:d.getD i J=J:=by
    have h0:=(mem_ready.1 r).1;rcases dU i d.size with y|y
    ·simp[y]at h0 ⊢;exact h0
    ·simp[vz y]at h0
   have D:=WG hD N T t;have alh:∀e∈n.after,Region.binds md e=I->e.on≠i:=λe he hb heq=>by
    have U:=jY e he hb;rw[heq,N]at U;cases U
   have h2:=wpOp_putIf (S:=V) s (Ll j n s g L alh) (λG b=>K i q G b hi) (λG b=>K j n G b s) hQ R U;have adf:∀k ok,ops[k]?=Z ok->k≠i->(d.setIfInBounds j I).getD k I=J->
     (∀e∈ok.after,Region.binds md e=I->e.on≠i)->q.apart ops ok=I:=λk ok hk hki B TT=>by
    refine Ll k ok hk hki ?_ TT;by_cases C:j=k
    ·subst C;exact L
    ·rw[getD_set_ne I C]at B;exact B
   refine wpOp_mono (λa' A h3=>?_) h2;obtain⟨h3,h4,h5⟩:=h3;have Zq:Cons x (d.setIfInBounds j I) A:=by
    rw[Array.setIfInBounds_comm _ _ (n9 g)]at h4;exact Cons.akj (i:=i) (λp Y=>h4 p (by simp[Y])) hCi
   have hnj:noD W (d.setIfInBounds j I):=y_ T D;have hV':V A:=h4 (F,V) (by simp) (y_ (y_ (λm hm=>T m (Li m hm)) hid) (λhm=>D (Li j hm)));refine⟨Zq,X (d.setIfInBounds j I) a' A adf (ready_mono r (n9 g)) hnj h3 hV' Zq ?_⟩;rw[Array.setIfInBounds_comm _ _ g];exact h5
end
section
variable {P:Program} {N:Nat} {Kn:Fm->World->Prop} {Ke:Nat->Fm->World->Prop} {Kr:Fm->World->Prop} {f:Fm} {w:World} {ops:Array Oper}
structure Ent where
 i:Nat
 q:Bool
 al:List Nat
 dn:List Nat
inductive ET where
 |nil
 |op (e:Ent) (t:ET)
 |alt (e:Ent) (t r:ET)
def ET.len:ET->Nat
 | .nil=>0
 | .op _ t=>t.len+1
 | .alt _ t _=>t.len+1
def ET.BV(p:Ent->Bool):ET->Bool
 | .nil=>I
 | .op e t=>p e && t.BV p
 | .alt e t r=>p e && t.BV p && r.BV p
def ET.Lk:ET->M Nat
 | .nil=>[]
 | .op e _=>[e.i]
 | .alt e _ r=>e.i::r.Lk
def HZ(ops:Array Oper):Bool->ET->Array Bool->Bool
 |top,.nil,listed=>top && (Region.ready .any ops listed).isEmpty
 |top,.op e s,listed=>(if e.q then top && (Region.ready .any ops listed).contains e.i && Region.free .any ops listed e.i && okD .any ops e.i e.al && e.al.all (λm=>!listed.getD m J) && e.dn.all e.al.contains && !e.dn.contains e.i && s.BV (λa=>!a.q ||!e.dn.contains a.i) else !top ||Region.ready .any ops listed ==[e.i]) && HZ ops I s (listed.setIfInBounds e.i I)
 |top,.alt e s r,listed=>(!top ||Region.ready .any ops listed ==e.i::r.Lk) && !e.q && s.len+1 ==r.len && HZ ops I s (listed.setIfInBounds e.i I) && HZ ops J r listed
def Dv(P:Program)(N:Nat)(ops:Array Oper)(Kn:Fm->World->Prop):M (M Nat×(World->Prop))->ET->Array Bool->Fm->World->Prop
 |_,.nil,_,f,w=>Kn f w
 |b,.op e s,l,f,w=>if e.q then
   ∃o v a V,ops[e.i]?=Z o/\YieldsIf P ops V o v (fr f N)/\(fr f N).put o.dst v=fr a N/\V w/\Dv P N ops Kn ((e.dn,V)::b) s (l.setIfInBounds e.i I) a w
  else wpOp P ops (Td N Kn (λ_ _ _=>False) (λ_ _=>False)) e.i (λd c=>Cons b (l.setIfInBounds e.i I) c/\∃a,d=fr a N/\Dv P N ops Kn b s (l.setIfInBounds e.i I) a c) (fr f N) w
 |b,.alt e s r,l,f,w=>wpOp P ops (Td N Kn (λ_ _ _=>False) (λ_ _=>False)) e.i (λd c=>Cons b (l.setIfInBounds e.i I) c/\∃a,d=fr a N/\Dv P N ops Kn b s (l.setIfInBounds e.i I) a c) (fr f N) w/\Dv P N ops Kn b r l f w
theorem yu(G:Region.noSelect ops=I):∀(s:ET) (d:M (M Nat×(World->Prop))) (listed:Array Bool) (f:Fm) (w:World) (k:Bool),HZ ops k s listed=I->(∀p∈d,s.BV (λe=>!e.q ||!p.1.contains e.i)=I)->Cons d listed w->Dv P N ops Kn d s listed f w->
  (k=I->ri P .any ops (Td N Kn (λ_ _ _=>False) (λ_ _=>False)) d s.len listed (fr f N) w)/\
  (k=J->∀j∈s.Lk,∃n,s.len=n+1/\wpOp P ops (Td N Kn (λ_ _ _=>False) (λ_ _=>False)) j (λD t=>Cons d (listed.setIfInBounds j I) t/\ri P .any ops (Td N Kn (λ_ _ _=>False) (λ_ _=>False)) d n (listed.setIfInBounds j I) D t) (fr f N) w)
 | .nil,d,listed,f,w,k,A,_,_,h=>by
  simp only[HZ,af]at A;refine⟨λ_=>?_,λB=>(by rw[B]at A;cases A.1)⟩;have U:Region.ready .any ops listed=[]:=by simpa using A.2
  exact⟨U,f,rfl,h⟩
 | .op e s,d,listed,f,w,k,A,H,S,h=>by
  simp only[HZ,af]at A;obtain⟨y,T⟩:=A;have l:∀p∈d,(!e.q ||!p.1.contains e.i)=I/\s.BV (λe=>!e.q ||!p.1.contains e.i)=I:=λp x=>by
   have:=H p x
   simpa only [ET.BV,af] using this
  simp only[Dv]at h;cases heq:e.q with
  |true=>
   rw[heq]at h y;simp only[if_true,af,bY]at h y;obtain⟨⟨⟨⟨⟨⟨⟨B,U⟩,k1⟩,k2⟩,k3⟩,k4⟩,k5⟩,k6⟩:=y;refine⟨λ_=>?_,λF=>(by rw[B]at F;cases F)⟩;obtain⟨o,v,L,V,ho,hy,x,hV,hd⟩:=h;have Li:∀m∈e.dn,m∈e.al:=λm W=>by simpa using bg.1 k4 m W
   have ale:noD e.al listed:=λm W=>by simpa using bg.1 k3 m W
   refine akg ho (Region.noSelect_spec G) (λc a w H=>H.elim) k2 Li (by simpa using k5) (λp C=>by have:=(l p C).1;simpa [heq] using this) s.len listed (fr f N) w (Region.free_spec ho k1) (by simpa using U) ale hy hV S ?_;rw[x];refine (yu G s _ _ L w I T (λp C=>?_) (λp C hn=>?_) hd).1 rfl
   ·rcases aP.1 C with rfl|C
    ·exact k6
    ·exact (l p C).2
   ·rcases aP.1 C with rfl|C
    ·exact hV
    ·exact (S.set e.i) p C hn
  |false=>
   rw[heq]at h y;simp only[aC,if_false,dr,bY,beq_iff_eq]at h y;have step:wpOp P ops (Td N Kn (λ_ _ _=>False) (λ_ _=>False)) e.i (λD t=>Cons d (listed.setIfInBounds e.i I) t/\ri P .any ops (Td N Kn (λ_ _ _=>False) (λ_ _=>False)) d s.len (listed.setIfInBounds e.i I) D t) (fr f N) w:=by
    refine wpOp_mono ?_ h
    rintro D t ⟨R,L,rfl,hd⟩
    exact⟨R,(yu G s d _ L t I T (λp x=>(l p x).2) R hd).1 rfl⟩
   refine⟨λB=>⟨λK=>?_,λj g=>?_⟩,λ_ j g=>?_⟩
   ·rcases y with b|b
    ·rw[B]at b;cases b
    ·rw[b]at K;cases K
   ·rcases y with b|b
    ·rw[B]at b;cases b
    ·rw[b]at g;simp only[bI]at g;subst g;exact step
   ·simp only[ET.Lk,bI]at g;subst g;exact⟨s.len,rfl,step⟩
 | .alt e s r,d,listed,f,w,k,A,H,S,h=>by
  simp only[HZ,af,dr,bY,beq_iff_eq]at A;obtain⟨⟨⟨⟨y,T⟩,JT⟩,Y⟩,X⟩:=A;have l:∀p∈d,s.BV (λe=>!e.q ||!p.1.contains e.i)=I/\r.BV (λe=>!e.q ||!p.1.contains e.i)=I:=λp x=>by
   have:=H p x;simp only[ET.BV,af]at this;exact⟨this.1.2,this.2⟩
  simp only[Dv]at h;have Q:∀j∈e.i::r.Lk,wpOp P ops (Td N Kn (λ_ _ _=>False) (λ_ _=>False)) j (λD t=>Cons d (listed.setIfInBounds j I) t/\ri P .any ops (Td N Kn (λ_ _ _=>False) (λ_ _=>False)) d s.len (listed.setIfInBounds j I) D t) (fr f N) w:=by
   intro j g;rcases aP.1 g with rfl|g
   ·refine wpOp_mono ?_ h.1
    rintro D t ⟨R,L,rfl,hd⟩
    exact⟨R,(yu G s d _ L t I Y (λp x=>(l p x).1) R hd).1 rfl⟩
   ·obtain⟨n,hn,hw⟩:=(yu G r d listed f w J X (λp x=>(l p x).2) S h.2).2 rfl j g;have:n=s.len:=by omega
    subst this;exact hw
  refine⟨λB=>⟨λK=>?_,λj g=>?_⟩,λ_ j g=>⟨s.len,rfl,Q j g⟩⟩
  ·rcases y with b|b
   ·rw[B]at b;cases b
   ·rw[b]at K;cases K
  ·rcases y with b|b
   ·rw[B]at b;cases b
   ·rw[b]at g;exact Q j g
theorem abu{id:Nat}{l:M Oper}(s:ET)(k:P.follows .mixedOrders=I)(i:Region.noSelect l.toArray=I)(j:s.len=l.toArray.size)
  (m:HZ l.toArray I s (p9 l.toArray.size J)=I) (h:Dv P N l.toArray Kn [] s (p9 l.toArray.size J) f w.drew):W P N (.region id l.toArray I) Kn Ke Kr f w:=by
 have g:=(yu i s [] _ f w.drew I m (λp d=>by simp at d) (λp d=>by simp at d) h).1 rfl;rw[j]at g;unfold W;refine wp_mono (wp_region_any k (E5 _ _ _ _ g)) ?_;intro e a w b;cases e with
 |normal=>exact b
 |exit id=>obtain⟨_,_,h⟩:=b;exact h.elim
 |ret=>obtain⟨_,_,h⟩:=b;exact h.elim
 |goto l=>exact b.elim
 |panic c=>exact b.elim
 |outgrown=>exact b.elim
variable {Cl:M (M Nat×(World->Prop))} {s:ET} {e:Ent} {lst:Array Bool} {o:Oper}
theorem akl(h:Kn f w):Dv P N ops Kn Cl .nil lst f w:=h
theorem anz(d:e.q=J)(g:ops[e.i]?=Z o)(j:qm N ops f o.guard)(h:wo P N o f w (λb a=>Cons Cl (lst.setIfInBounds e.i I) a/\Dv P N ops Kn Cl s (lst.setIfInBounds e.i I) b a)):Dv P N ops Kn Cl (.op e s) lst f w:=by
 simp only[Dv,d,aC,if_false,wpOp,g];rw[if_pos (show Region.wanted o _=I from j)];exact .inl (h.afr λb a c=>⟨c.1,b,rfl,c.2⟩)
theorem akk{t:ET}(d:ops[e.i]?=Z o)(g:qm N ops f o.guard)(h:wo P N o f w (λb a=>Cons Cl (lst.setIfInBounds e.i I) a/\Dv P N ops Kn Cl s (lst.setIfInBounds e.i I) b a))(j:Dv P N ops Kn Cl t lst f w):Dv P N ops Kn Cl (.alt e s t) lst f w:=by
 refine⟨?_,j⟩;simp only[wpOp,d];rw[if_pos (show Region.wanted o _=I from g)];exact .inl (h.afr λb a c=>⟨c.1,b,rfl,c.2⟩)
theorem v_q(b:e.q=I)(c:ops[e.i]?=Z o){d:Nat}(hd:o.dst=Z d)(g:qm N ops f o.guard){v:Value}(V:World->Prop)(a:∀w,V w->(execOp (fr f N).eval o).run P w=.ok (.value v) w)(j:V w)
  (h:Dv P N ops Kn ((e.dn,V)::Cl) s (lst.setIfInBounds e.i I) (FQ f d v) w):Dv P N ops Kn Cl (.op e s) lst f w:=by
 simp only[Dv,b,if_true];refine⟨_,v,_,V,c,.inl ⟨g,a⟩,?_,j,h⟩;rw[hd];exact qK f N d v
variable {d:Nat} {op:Op} {ty:TypeId} {pos:String} {aft:Array Edge} {gd:u (Nat×Bool)}
theorem afv(a:e.q=I)(b:ops[e.i]?=Z ⟨Z d,op,ty,pos,aft,gd⟩)(c:jB N ops f gd)
  (h:Dv P N ops Kn ((e.dn,λ_=>True)::Cl) s (lst.setIfInBounds e.i I) (FQ f d undef) w):Dv P N ops Kn Cl (.op e s) lst f w:=by
 simp only[Dv,a,if_true];exact⟨_,undef,_,λ_=>True,b,.inr ⟨c,rfl⟩,qK f N d _,trivial,h⟩
theorem abp(a:e.q=J)(b:ops[e.i]?=Z ⟨Z d,op,ty,pos,aft,gd⟩)(c:jB N ops f gd)(g:Cons Cl (lst.setIfInBounds e.i I) w)
  (h:Dv P N ops Kn Cl s (lst.setIfInBounds e.i I) (FQ f d undef) w):Dv P N ops Kn Cl (.op e s) lst f w:=by
 simp only[Dv,a,aC,if_false,wpOp,b];rw[if_neg (c.to _ _ _ _ _)];exact⟨g,_,qK f N d _,h⟩
theorem afu{t:ET}(a:ops[e.i]?=Z ⟨Z d,op,ty,pos,aft,gd⟩)(b:jB N ops f gd)(c:Cons Cl (lst.setIfInBounds e.i I) w)
  (h:Dv P N ops Kn Cl s (lst.setIfInBounds e.i I) (FQ f d undef) w) (g:Dv P N ops Kn Cl t lst f w):Dv P N ops Kn Cl (.alt e s t) lst f w:=by
 refine⟨?_,g⟩;simp only[wpOp,a];rw[if_neg (b.to _ _ _ _ _)];exact⟨c,_,qK f N d _,h⟩
end
end
section
open Go.RowKit
section
variable (P:Program) (N:Nat) (num:Nat->FuncId)
def O_(T:TypeId):u (TypeId×TypeInfo×Value):=
 match P.underlying T with
 |some (.slice b)=>match P.info? b with
  |some i=>match i.zero with
   |some a=>Z (b,i,a)
   |none=>O
  |none=>O
 |_=>O
def mA(F:FuncId):Bool:=
 match P.funcs[F]? with
 |some a=>a.body.isSome && !(a.name == "runtime.NumGoroutine")
 |none=>J
def okN:Op->u Tmp->KO->Bool
 | .alloc T,Z _,.alloc j=>(match sv P T with
   |some d=>Ji d j
   |none=>J)
 | .box _ x,Z _,.box y=>kX N x y
 | .buildSlice T n l,Z _,.qx k _ ys=>(match P.underlying T with
   |some (.slice f)=>nK P f ==Z k && (n ==0 ||(sv P f).isSome) && BF N 0 l.toList ys && n ==l.size && gV (n * k) 16777216
   |_=>J)
 | .makeSlice T a b,Z _,.make k h q j y=>kX N a y && kX N b y && (match O_ P T with
   |some (_,i,d)=>i.size ==k && i.bytes ==h && gf 0 k && Eo d.cells.toList j && j.length ==k && (!q ||cD j)
   |none=>J)
 | .store T x v,O,.st n a b=>nK P T ==Z n && kX N x a && kX N v b
 | .call c,Z _,.app k h _ a b=>(match c.callee,c.args.toList,c.argTypes.toList with
   | .builtin .append,[x,y],[T,r]=>T ==r && kX N x a && kX N y b && (match O_ P T with
    |some (_,i,d)=>i.size ==k && i.bytes ==h && d.cells.size ==k && gf 0 k
    |none=>J)
   |_,_,_=>J)
 | .call c,_,.call g xs=>(match c.callee with
   | .value (.func F)=>F ==num g && mA P F && Jh N c.args.toList xs
   |_=>J)
 | .call c,_,.cbx g xs=>(match c.callee with
   | .value (.func F)=>F ==num g && mA P F && Jh N c.args.toList xs
   |_=>J)
 | .call c,Z _,.YF g y y2=>(match c.callee,c.args.toList with
   | .value (.func F),[x,m]=>F ==num g && mA P F && kX N x y && kX N m y2
   |_,_=>J)
 | .assign x,Z _,.P9 y=>kX N x y
 | .move x,Z _,.P9 y=>kX N x y
 | .call c,Z _,.jn a b=>(match c.callee,c.args.toList with
   | .value (.func F),[x,y]=>F ==num 9004 && !(num 9004 ==1000000) && mA P F && kX N x a && kX N y b
   |_,_=>J)
 | .call c,Z _,.zt ins a b d=>(match c.callee,c.args.toList with
   | .value (.func F),[x,y,e]=>F ==num (if ins=I then 9006 else 9005) && !(num (if ins=I then 9006 else 9005) ==1000000) && mA P F && kX N x a && kX N y b && kX N e d
   |_,_=>J)
 | .call c,Z _,.Gn k a b=>(match c.callee,c.args.toList,c.argTypes.toList with
   | .builtin .copy,[x,y],[T,_]=>kX N x a && kX N y b && (match P.underlying T with
    |some (.slice f)=>nK P f ==Z k
    |_=>J)
   |_,_,_=>J)
 | .slice T x o p O,Z _,.cut k y b c=>(match P.underlying T with
   |some (.slice f)=>nK P f ==Z k && kX N x y && El N o b && El N p c
   |_=>J)
 | .buildSlice T n l,Z _,.Wt k _ ys=>(match P.underlying T with
   |some (.slice f)=>nK P f ==Z k && (n ==0 ||(sv P f).isSome) && BF N 0 l.toList ys && n ==l.size && gV (n * k) 16777216
   |_=>J)
 |_,_,_=>J
def NZ(a:Array Oper):u (Nat×Bool)->u (Nat×Bool)->Bool
 |none,O=>I
 |some (j,want),Z (g,b)=>want ==b && (match a[j]? with
   |some o=>o.dst ==Z g && gf g N
   |none=>J)
 |_,_=>J
def okI(a:Array Oper)(o:Oper)(i:KI):Bool:=
 o.dst ==i.dst && (match i.dst with
  |some d=>gf d N && gf d 900
  |none=>I) && NZ N a o.guard i.gd && (if i.op.pU then i.dst.isSome && zf P N o.op i.op else okN P N num o.op i.dst i.op)
def S4(a:Array Oper):M Oper->M KI->Bool
 |[],[]=>I
 |o::os,i::is=>okI P N num a o i && S4 a os is
 |_,_=>J
def KD.zK(x:KD):Ent:=⟨x.j,x.q,x.al,x.dn⟩
def KT.zK:KT->ET
 | .nil=>.nil
 | .op x t=>.op x.zK t.zK
 | .alt x t r=>.alt x.zK t.zK r.zK
def NY(a:Array Oper):KT->Bool
 | .nil=>I
 | .op ⟨j,q,_,_,i⟩ is=>(match a[j]? with
   |some o=>okI P N num a o i && (!q ||i.op.pU) && (i.gd.isNone ||i.dst.isSome)
   |none=>J) && NY a is
 | .alt ⟨j,q,_,_,i⟩ is r=>(match a[j]? with
   |some o=>okI P N num a o i && !q && (i.gd.isNone ||i.dst.isSome)
   |none=>J) && NY a is && NY a r
def uk:K->Code->Bool
 | .skip,.skip=>I
 | .QH [] _,.skip=>I
 | .QH is _,.region _ ops J=>S4 P N num ops ops.toList is
 | .UK is _,.region _ ops I=>NY P N num ops is && Region.noSelect ops && is.zK.len ==ops.size && HZ ops I is.zK (p9 ops.size J)
 | .seq a b,.seq c d=>uk a c && uk b d
 | .cond x a b,.cond y c d=>kX N y x && uk a c && uk b d
 | .block i a,.block j c=>i ==j && uk a c
 | .loop a,.loop c=>uk a c
 | .exit i,.exit j=>i ==j
 | .ret,.ret=>I
 | .share _ a,c=>uk a c
 | .Ci _ a,c=>uk a c
 | .seq a (.Ci _ .skip),c=>uk a c
 |_,_=>J
end
theorem KP{P:Program}{T:TypeId}{b:TypeId}{i:TypeInfo}{a:Value}(h:O_ P T=Z (b,i,a)):P.underlying T=Z (.slice b)/\P.info? b=Z i/\i.zero=Z a:=by
 unfold O_ at h
 split at h
 ·rename_i j d
  split at h
  ·rename_i g e
   split at h
   ·rename_i f c;simp only[aa,aA]at h;obtain⟨rfl,rfl,rfl⟩:=h;exact⟨d,e,c⟩
   ·cases h
  ·cases h
 ·cases h
section
variable {P:Program} {γ:Gh} {h0:Nat->Nat} {io:M Nat} {w0:World} {s s':St} {f:Fm} {w:World} {N:Nat} {num:Nat->FuncId} {K':Fm->World->Prop}
 {cf:Nat->M A->u (M A×M A)} {mf:Nat->Bool->M D->Int->u (M D×Int)}
theorem vf(qe:Cts w0 io P num cf)(sS:∀g ag ds q mY q',mf g ag ds q=Z (mY,q')->zQ w0 io P (num g) ag ds q mY q')(B:Inv γ h0 io w0 s f w){op:Op}{H:u Tmp}{tS:KO}{ty:TypeId}{pos:String}{aft:Array Edge}{gd:u (Nat×Bool)}(m:okN P N num op H tS=I)(t:ky cf mf s H tS=Z s')
  (h:∀R X V,Inv R h0 io w0 s' X V->Tr H (eY s H tS) γ w R V f X->K' X V):wo P N ⟨H,op,ty,pos,aft,gd⟩ f w K':=by
 unfold okN at m
 split at m
 ·split at m
  ·rename_i e W;exact aag B W m t (by simpa only [eY,oL] using h)
  ·cases m
 ·exact ah8 B m t (by simpa only [eY,oL] using h)
 ·split at m
  ·rename_i l G;simp only[af,dr,beq_iff_eq]at m;obtain⟨⟨⟨⟨n,p⟩,o⟩,S⟩,h5⟩:=m;exact P_ B G n p o S h5 t (by simpa only [eY,oL,List.singleton_append] using h)
  ·cases m
 ·simp only[af]at m;obtain⟨⟨n,p⟩,o⟩:=m
  split at o
  ·rename_i l i e JV;obtain⟨G,hI,W⟩:=KP JV;simp only[af,beq_iff_eq,oU,dr,bY]at o;obtain⟨⟨⟨⟨⟨k1,k2⟩,k3⟩,k4⟩,k5⟩,k6⟩:=o;exact adY B G hI W k1 k2 k3 k4 k5 (λhf=>by rcases k6 with h|h<;>simp_all) n p t (by simpa only [eY,oL] using h)
  ·cases o
 ·simp only[af,beq_iff_eq]at m;obtain⟨⟨n,p⟩,o⟩:=m;exact alM B n p o t h
 ·rename_i c d k by_ fl a b
  split at m
  ·rename_i x y T T' v C Y;simp only[af,beq_iff_eq]at m;obtain⟨⟨⟨rfl,n⟩,p⟩,o⟩:=m;obtain⟨U,args,Q⟩:=c;simp only at v C Y
   subst v;have K:args=#[x,y]:=by rw[<- C]
   have et:Q=#[T,T]:=by rw[<- Y]
   subst K et
   split at o
   ·rename_i l i e JV;obtain⟨G,hI,W⟩:=KP JV;simp only[af,beq_iff_eq,oU]at o;obtain⟨⟨⟨k1,k2⟩,k3⟩,k4⟩:=o;exact ah7 B G hI W k1 k2 k3 k4 n p t h
   ·cases o
  ·cases m
 ·rename_i c g xs
  split at m
  ·rename_i F v;simp only[af,beq_iff_eq]at m;obtain⟨⟨rfl,n⟩,p⟩:=m;obtain⟨U,args,Q⟩:=c;simp only at v
   subst v;unfold mA at n
   split at n
   ·rename_i fn L;simp only[af,bY]at n;exact adX B L n.1 n.2 p (qe.1 g) t h
   ·cases n
  ·cases m
 ·rename_i c g xs
  split at m
  ·rename_i F v;simp only[af,beq_iff_eq]at m;obtain⟨⟨rfl,n⟩,p⟩:=m;obtain⟨U,args,Q⟩:=c;simp only at v
   subst v;unfold mA at n
   split at n
   ·rename_i fn L;simp only[af,bY]at n;exact ah9 B L n.1 n.2 p (qe.1 g) t h
   ·cases n
  ·cases m
 ·rename_i c d g y y2
  split at m
  ·rename_i F x x2 v C;simp only[af,beq_iff_eq]at m;obtain⟨⟨⟨rfl,n⟩,p⟩,o⟩:=m;obtain⟨U,args,Q⟩:=c;simp only at v C
   subst v;have K:args=#[x,x2]:=by rw[<- C]
   subst K;unfold mA at n
   split at n
   ·rename_i fn L;simp only[af,bY]at n;exact adZ B L n.1 n.2 p o (sS g) t h
   ·cases n
  ·cases m
 ·exact ab0 B (.inl rfl) m t h
 ·exact ab0 B (.inr rfl) m t h
 ·rename_i c d a b
  split at m
  ·rename_i F x y v C;simp only[af,beq_iff_eq,bY,beq_eq_false_iff_ne]at m;obtain⟨⟨⟨⟨rfl,hn⟩,n⟩,p⟩,o⟩:=m;obtain⟨U,args,Q⟩:=c;simp only at v C
   subst v;have K:args=#[x,y]:=by rw[<- C]
   subst K;unfold mA at n
   split at n
   ·rename_i fn L;simp only[af,bY]at n;exact alL B L n.1 n.2 (qe.2.1 hn) p o t h
   ·cases n
  ·cases m
 ·rename_i c d ins a b e
  split at m
  ·rename_i F x y j v C;simp only[af,beq_iff_eq,bY,beq_eq_false_iff_ne]at m;obtain⟨⟨⟨⟨⟨rfl,hn⟩,n⟩,p⟩,o⟩,S⟩:=m;obtain⟨U,args,Q⟩:=c;simp only at v C
   subst v;have K:args=#[x,y,j]:=by rw[<- C]
   subst K;unfold mA at n
   split at n
   ·rename_i fn L;simp only[af,bY]at n;exact aib B L n.1 n.2 (qe.2.2 ins hn) p o S t h
   ·cases n
  ·cases m
 ·rename_i c d k a b
  split at m
  ·rename_i x y T T' v C Y;simp only[af]at m;obtain⟨⟨n,p⟩,o⟩:=m;obtain⟨U,args,Q⟩:=c;simp only at v C Y
   subst v;have K:args=#[x,y]:=by rw[<- C]
   have et:Q=#[T,T']:=by rw[<- Y]
   subst K et
   split at o
   ·rename_i l G;simp only[beq_iff_eq]at o;exact ah_ B G o n p t h
   ·cases o
  ·cases m
 ·split at m
  ·rename_i l G;simp only[af,beq_iff_eq]at m;obtain⟨⟨⟨n,p⟩,o⟩,S⟩:=m;exact aia B G n p o S t h
  ·cases m
 ·split at m
  ·rename_i l G;simp only[af,dr,beq_iff_eq]at m;obtain⟨⟨⟨⟨n,p⟩,o⟩,S⟩,h5⟩:=m;rename_i r k fl ys _;simp only[ky]at t
   split at t
   ·rename_i es dp s1 hem
    split at t
    ·rename_i uV;refine P_ (fl:=fl) (cf:=cf) (mf:=mf) (s':=(s1.newRow r ⟨es,k,fl,dp,I,J⟩).put (Z r) (.ref r)) B G n p o S h5 (by simp only[ky,hem];rw[if_pos uV]) λR X V i' t'=>?_;obtain⟨lZ,i2,b2,m2⟩:=i'.oZ t;exact h lZ X V i2 ⟨t'.OQ,λb hb=>by rw[b2];exact t'.β b hb,λg=>aL (t'.h g) (m2 g),t'.fr⟩
    ·cases t
   ·cases t
  ·cases m
 ·cases m
theorem qv{a:Array Oper}(p:Inv γ h0 io w0 s f w){j g:Nat}{want:Bool}(c:NZ N a (Z (j,want)) (Z (g,want))=I):(∀b,s.get g=.d (.bool b)->b=want->qm N a f (Z (j,want)))/\(∀b,s.get g=.d (.bool b)->b≠want->jB N a f (Z (j,want)))/\(s.get g=.ug->jB N a f (Z (j,want))):=by
 simp only[NZ,af]at c;obtain⟨_,c⟩:=c
 split at c
 ·rename_i o n;simp only[af,beq_iff_eq]at c;have i:(a[j]?).bind (·.dst)=Z g:=by rw[n];exact c.1
  have e:=p.get g;refine⟨λb k l=>?_,λb k l=>?_,λm=>?_⟩
  ·rw[k]at e;have h:=sK e;subst l;exact wy h i c.2
  ·rw[k]at e;have h:=sK e;have:b=!want:=by cases b<;>cases want<;>simp_all
   rw[this]at h;exact wx h i c.2
  ·rw[m]at e;simp only[CR]at e;exact wu e i c.2
 ·cases c
def yc(a:Nat->Nat)(h0:Nat->Nat)(io:M Nat)(w0:World)(s:St)(f:Fm)(w:World):Prop:=∃γ,Inv γ h0 io w0 s f w/\∀b,900<=b->γ.β b=a b
variable {β0:Nat->Nat}
theorem yc.eB(h:yc β0 h0 io w0 s f w)(b:n_):yc β0 h0 io w0 (s.eB b) f w:=by
 obtain⟨γ,e,g⟩:=h;exact⟨γ,e.sub (λd c a=>r6 _ _ d c a) (λd c a=>r6 _ _ d c a) (λd c a=>r6 _ _ d c a),g⟩
theorem Aj{d:u Nat}{o:KO}(a:Cq cf mf s d o=Z s'):(o.pU=I/\∃c,jm s o=Z c/\s'=s.put d c)\/(o.pU=J/\ky cf mf s d o=Z s'):=by
 unfold Cq at a
 split at a
 ·rename_i b;simp only[ak]at a;obtain⟨c,g,e⟩:=a;exact .inl ⟨b,c,g,e.symm⟩
 ·rename_i b;exact .inr ⟨by simpa using b,a⟩
theorem r9(r:Cts w0 io P num cf)(p:∀g X W q V U,mf g X W q=Z (V,U)->zQ w0 io P (num g) X W q V U){a:Array Oper}{Kn:Fm->World->Prop}:∀(os:M Oper) (m:M KI) {s s':St} {f:Fm} {w:World},S4 P N num a os m=I->mQ cf mf m s=Z s'->yc β0 h0 io w0 s f w->(∀R K,yc β0 h0 io w0 s' R K->Kn R K)->Ls P N a Kn os f w
 |[],[],s,s',f,w,_,k,l,n=>by
  simp only[mQ,aa]at k;subst k;exact kF (n f w l)
 |[],_::_,_,_,_,_,h,_,_,_=>by simp[S4]at h
 |_::_,[],_,_,_,_,h,_,_,_=>by simp[S4]at h
 |⟨dst,op,ty,pos,aft,gd⟩::os,⟨d,tS,Nz⟩::m,s,s',f,w,h,k,⟨γ,l,G⟩,n=>by
  simp only[S4,af,okI,beq_iff_eq]at h;obtain⟨⟨⟨⟨rfl,hd⟩,t⟩,B⟩,C⟩:=h;simp only[mQ]at k
  split at k
  ·rename_i T i;have go:qm N a f gd->Cq cf mf s dst tS=Z T->Ls P N a Kn (⟨dst,op,ty,pos,aft,gd⟩::os) f w:=by
    intro F i;refine gz F ?_;rcases Aj i with ⟨Q,c,hc,rfl⟩|⟨Q,hn⟩
    ·simp only[Q,if_true,af]at B;obtain⟨d,rfl⟩:=cn.1 B.1;obtain⟨v,k1,k2⟩:=pV (dst:=Z d) (ty:=ty) (pos:=pos) (aft:=aft) (gd:=gd) l B.2 hc;exact eD (k2 w (λ_=>rG.refl _ _ _)) (r9 r p os m C k ⟨γ,l.put d c v k1,G⟩ n)
    ·simp only[Q,aC,if_false]at B;refine vf r p l B hn λH R K i' tr=>r9 r p os m C k ⟨H,i',λb lF=>?_⟩ n;rw[tr.β b (λe=>by
      rw[e]at hd;simp at hd;omega)]
     exact G b lF
   have skip:jB N a f gd->T=s.put dst .ug->Ls P N a Kn (⟨dst,op,ty,pos,aft,gd⟩::os) f w:=by
    intro F e;subst e;cases dst with
    |none=>exact Z_ F (r9 r p os m C k ⟨γ,l,G⟩ n)
    |some d=>exact AU F (r9 r p os m C k ⟨γ,l.put d .ug undef (by simp only[CR]),G⟩ n)
   simp only[vG]at i;cases Nz with
   |none=>
    cases gd with
    |none=>exact go wn i
    |some x=>simp[NZ]at t
   |some x=>
    obtain⟨g,o⟩:=x;cases gd with
    |none=>simp[NZ]at t
    |some y=>
     obtain⟨j,zD⟩:=y;have L:zD=o:=by simp[NZ]at t;exact t.1
     subst L;obtain⟨g1,g2,g3⟩:=qv l t;simp only at i
     split at i
     ·rename_i b Y
      split at i
      ·rename_i S;exact go (g1 b Y S) i
      ·rename_i S;simp only[aa]at i;exact skip (g2 b Y S) i.symm
     ·rename_i Zw;simp only[aa]at i;exact skip (g3 Zw) i.symm
     ·cases i
  ·cases k
theorem Inv.drew(a:Inv γ h0 io w0 s f w):Inv γ h0 io w0 s f w.drew:=
 a.OQ (M:=λ_=>False) ⟨rfl,rfl,rfl,au _,λ_ _ _=>rfl,λ_ _ _=>rfl,λ_ h=>h⟩ (λh=>h) (λ_ h=>h.elim) (λ_ h=>h.elim)
def Sq(a:Gh)(e:u Nat)(d c:World):Prop:=(∀g j,j < a.h g->c.cell? ⟨g,j,O⟩=d.cell? ⟨g,j,O⟩)/\∀b,e=Z b->c.heap[a.β b]?=d.heap[a.β b]?
def St.only(s:St)(a:u Nat):St:=⟨s.sl,iV s.bx a.toList,[]⟩
theorem U5{d:KO}{c:C}{g:u Nat}(i:d.Nx=I)(e:qw s d=Z g)(a:jm s d=Z c):jm (s.only g) d=Z c:=by
 cases d<;>simp[KO.Nx]at i
 rotate_left
 ·simp[qw]at e
 rename_i n x;have k:fX (s.only g) x=fX s x:=by cases x<;>rfl
 simp only[qw]at e;simp only[jm,k]at a ⊢
 split at e
 ·rename_i b o j;cases e;rw[j]at a ⊢;simp only at a ⊢
  have:look (s.only (Z b)).bx b=look s.bx b:=by
   simp only[St.only,oL,iV];cases h:look s.bx b<;>simp[look]
  rw[this];exact a
 ·rename_i l j;rw[j]at a ⊢;exact a
 ·cases e
theorem Hh{a:u Nat}{b:Nat}{d:M C}(h:look (s.only a).bx b=Z d):a=Z b/\look s.bx b=Z d:=by
 cases a with
 |none=>simp[St.only,iV,look]at h
 |some g=>
  simp only[St.only,oL,iV]at h;cases c:look s.bx g with
  |none=>rw[c]at h;simp[look]at h
  |some i=>
   rw[c]at h;simp only[look]at h
   split at h
   ·rename_i e;subst e;exact⟨rfl,by rw[c];exact h⟩
   ·cases h
def Tk(j:M (M Nat×(World->Prop)))(i:M (M Nat×Nat))(lst:Array Bool)(γ:Gh)(s:St)(w:World):Prop:=
 ∀p∈j,(∃m∈p.1,lst.getD m J=I)\/∃a e c,(∀d,Sq a c e d->p.2 d)/\Sq a c e w/\(∀g,a.h g<=γ.h g)/\∀b,c=Z b->γ.β b=a.β b/\(look s.bx b).isSome=I/\(p.1,b)∈i
theorem Tk.cons{a:M (M Nat×(World->Prop))}{c:M (M Nat×Nat)}{lst:Array Bool}(h:Tk a c lst γ s w):Cons a lst w:=by
 intro p d g;rcases h p d with ⟨m,i,e⟩|⟨b,n,l,k,j,_⟩
 ·rw[g m i]at e;cases e
 ·exact k w j
theorem Tk.quiet{v:M (M Nat×(World->Prop))}{r:M (M Nat×Nat)}{lst:Array Bool}(h:Tk v r lst γ s w)(i:Nat)(t:M Nat)(g:u Nat)(d:u Nat)(c:C)(V:World->Prop)(B:∀q,Sq γ g w q->V q)(y:∀b,g=Z b->(look s.bx b).isSome=I) :
  Tk ((t,V)::v) (p7 t r g) (lst.setIfInBounds i I) γ (s.put d c) w:=by
 have o:(s.put d c).bx=s.bx:=by cases d<;>rfl
 intro p l;rw[o];rcases aP.1 l with rfl|l
 ·refine .inr ⟨γ,w,g,B,⟨λ_ _ _=>rfl,λ_ _=>rfl⟩,λ_=>au _,λb a=>⟨rfl,y b a,?_⟩⟩;subst a;simp[p7]
 ·rcases h p l with ⟨m,x,e⟩|⟨j,K,k,H,G,F,n⟩
  ·exact .inl ⟨m,x,getD_set_true e⟩
  ·refine .inr ⟨j,K,k,H,G,F,λb a=>⟨(n b a).1,(n b a).2.1,?_⟩⟩;have:=(n b a).2.2;cases g<;>simp[p7,this]
theorem Tk.LI{H:M (M Nat×(World->Prop))}{n:M (M Nat×Nat)}{lst:Array Bool}(h:Tk H n lst γ s w){j:Nat}(V:j < lst.size)(W:Inv γ h0 io w0 s f w){c:Gh}{v:World}{f':Fm}{x:St}{k:u Nat}{X:M Nat}(l:Tr k X γ w c v f f')
  (t:∀p∈kt j n,(p.2∉X/\(look x.bx p.2).isSome=I)/\¬k=Z p.2):Tk H (kt j n) (lst.setIfInBounds j I) c x v:=by
 intro p S;rcases h p S with ⟨m,U,e⟩|⟨r,YJ,y,Y,F,C,q⟩
 ·exact .inl ⟨m,U,getD_set_true e⟩
 ·by_cases d:j∈p.1
  ·refine .inl ⟨j,d,?_⟩;simp[Array.getD,V]
  ·have o:∀b,y=Z b->(p.1,b)∈kt j n:=λb a=>by
    simp only[kt,List.mem_filter];exact⟨(q b a).2.2,by simpa using d⟩
   refine .inr ⟨r,YJ,y,Y,⟨λg B G=>(l.OQ.cell g B (cA G (C g))).trans (F.1 g B G),λb a=>?_⟩,λg=>aL (C g) (l.h g),λb a=>⟨?_,(t _ (o b a)).1.2,o b a⟩⟩
   ·obtain⟨cs,K⟩:=cn.1 (q b a).2.1;obtain⟨T,vs,R,k2,Q⟩:=W.bx b cs K;rw[<- F.2 b a,<- (q b a).1];refine l.OQ.block _ R.lt ?_;rw[Q]
    rintro⟨i,L,e|e⟩
    ·cases e;exact (t _ (o b a)).1.1 L
    ·cases e
   ·rw[l.β b (t _ (o b a)).2];exact (q b a).1
theorem pF(qe:Cts w0 io P num cf)(sS:∀g ag ds q mY q',mf g ag ds q=Z (mY,q')->zQ w0 io P (num g) ag ds q mY q'){ops:Array Oper}{Kn:Fm->World->Prop} :
  ∀(t:KT) {kp:n_} {Cl:M (M Nat×(World->Prop))} {lst:Array Bool} {tk:M (M Nat×Nat)} {γ:Gh} {s s':St} {f:Fm} {w:World},NY P N num ops t=I->gQ cf mf kp t tk s=Z s'->lst.size=ops.size->Tk Cl tk lst γ s w->Inv γ h0 io w0 s f w->(∀b,900<=b->γ.β b=β0 b)->
   (∀S U B,s'=S.eB kp->yc β0 h0 io w0 S U B->Kn U B)->Dv P N ops Kn Cl t.zK lst f w
 | .nil,kp,Cl,lst,tk,γ,s,s',f,w,_,i,_,_,m,H,hk=>by
  simp only[gQ,aa]at i;exact akl (hk s f w i.symm ⟨γ,m,H⟩)
 | .op ⟨j,qt,al,L,⟨d,l,R⟩⟩ t,kp,Cl,lst,tk,γ,s,s',f,w,h,i,mR,ht,m,H,hk=>by
  simp only[NY,af]at h;obtain⟨h,uX⟩:=h;have RQ:(lst.setIfInBounds j I).size=ops.size:=by simpa using mR
  split at h
  ·rename_i o ho;have hjl:j < lst.size:=by rw[mR];exact (Array.getElem?_eq_some_iff.1 ho).1
   obtain⟨dst,op,ty,pos,aft,gd⟩:=o;simp only[af,okI,beq_iff_eq,dr,bY,rF]at h;obtain⟨⟨⟨⟨⟨hdd,hd⟩,F⟩,K⟩,hqp⟩,hgd⟩:=h;subst hdd;cases qt with
   |true=>
    have hpu:l.pU=I:=by simpa using hqp
    simp only[hpu,if_true,af]at K;obtain⟨d,rfl⟩:=cn.1 K.1;simp only[gQ,if_true]at i;have go:∀c qb,jm s l=Z c->qw s l=Z qb->gQ cf mf kp t (p7 L tk qb) (s.put (Z d) c)=Z s'->qm N ops f gd->Dv P N ops Kn Cl (.op (KD.zK ⟨j,I,al,L,⟨Z d,l,R⟩⟩) t.zK) lst f w:=by
     intro c qb Q V i T;cases hld:l.Nx with
     |true=>
      have hio:Inv γ h0 io w0 (s.only qb) f w:=m.sub (λ_ _ h=>h) (λd c hl=>(Hh hl).2) (λd c hl=>by simp[St.only,look]at hl);obtain⟨v,k1,k2⟩:=pV (dst:=Z d) (ty:=ty) (pos:=pos) (aft:=aft) (gd:=gd) hio K.2 (U5 hld V Q);have ag4:∀b,qb=Z b->(look s.bx b).isSome=I:=λb H=>by
       subst H;cases l<;>simp[KO.Nx]at hld
       rotate_left
       ·simp[qw]at V
       rename_i n x;simp only[qw]at V
       split at V
       ·rename_i b' o hx;cases V;simp only[jm,hx]at Q;cases hl:look s.bx b with
        |none=>rw[hl]at Q;cases Q
        |some cs=>rfl
       ·cases V
       ·cases V
      exact v_q rfl ho rfl T (Sq γ qb w) (λB hs=>k2 B (λ_=>⟨hs.1,λb cs hl=>hs.2 b (Hh hl).1,λr x hl=>by simp[St.only,look]at hl⟩)) ⟨λ_ _ _=>rfl,λ_ _=>rfl⟩
       (pF qe sS t uX i RQ (ht.quiet j L qb (Z d) c _ (λ_ h=>h) ag4) (m.put d c v k1) H hk)
     |false=>
      have eqb:qb=O:=by
       cases l<;>simp[KO.Nx]at hld<;>simpa [qw] using V.symm
      subst eqb;obtain⟨v,k1,k2⟩:=pV (dst:=Z d) (ty:=ty) (pos:=pos) (aft:=aft) (gd:=gd) m K.2 Q;exact v_q rfl ho rfl T (λ_=>True) (λB _=>k2 B (λh=>by rw[hld]at h;cases h)) trivial
       (pF qe sS t uX i RQ (ht.quiet j L O (Z d) c _ (λ_ _=>trivial) (λb H=>by cases H)) (m.put d c v k1) H hk)
    have skip:gQ cf mf kp t tk (s.put (Z d) .ug)=Z s'->jB N ops f gd->Dv P N ops Kn Cl (.op (KD.zK ⟨j,I,al,L,⟨Z d,l,R⟩⟩) t.zK) lst f w:=by
     intro i T;exact afv rfl ho T (pF qe sS t uX i RQ (ht.quiet j L O (Z d) .ug _ (λ_ _=>trivial) (λb H=>by cases H)) (m.put d .ug undef (by simp only[CR])) H hk)
    cases R with
    |none=>
     cases gd with
     |some x=>simp[NZ]at F
     |none=>
      simp only at i
      split at i
      ·rename_i c b Q V;exact go c b Q V i wn
      ·cases i
    |some x=>
     obtain⟨g,C⟩:=x;cases gd with
     |none=>simp[NZ]at F
     |some y=>
      obtain⟨j',zD⟩:=y;have W:zD=C:=by simp[NZ]at F;exact F.1
      subst W;obtain⟨g1,g2,g3⟩:=qv m F;simp only at i
      split at i
      ·rename_i b GQ
       split at i
       ·rename_i FC
        split at i
        ·rename_i c b' Q V;exact go c b' Q V i (g1 b GQ FC)
        ·cases i
       ·rename_i FC;exact skip i (g2 b GQ FC)
      ·rename_i Zw;exact skip i (g3 Zw)
      ·cases i
   |false=>
    simp only[gQ,ny,aC,if_false]at i
    split at i
    ·rename_i S k
     split at i
     ·rename_i jY;have Nt:∀p∈kt j tk,(p.2∉eY s dst l/\(look S.bx p.2).isSome=I)/\¬dst=Z p.2:=λp Y=>by
       have:=bg.1 jY p Y
       simpa using this
      have next:∀G U B,Inv G h0 io w0 S U B->Tr dst (eY s dst l) γ w G B f U->Cons Cl (lst.setIfInBounds j I) B/\Dv P N ops Kn Cl t.zK (lst.setIfInBounds j I) U B:=by
       intro G U B i' tr;have X:=ht.LI hjl m tr Nt;refine⟨X.cons,pF qe sS t uX i RQ X i' (λb lF=>?_) hk⟩;rw[tr.β b (λe=>by
         rw[e]at hd;simp at hd;omega)]
       exact H b lF
      have go:qm N ops f gd->Cq cf mf s dst l=Z S->Dv P N ops Kn Cl (.op (KD.zK ⟨j,J,al,L,⟨dst,l,R⟩⟩) t.zK) lst f w:=by
       intro T k;refine anz rfl ho T ?_;rcases Aj k with ⟨Y,c,Q,rfl⟩|⟨Y,hn⟩
       ·simp only[Y,if_true,af]at K;obtain⟨d,rfl⟩:=cn.1 K.1;obtain⟨v,k1,k2⟩:=pV (dst:=Z d) (ty:=ty) (pos:=pos) (aft:=aft) (gd:=gd) m K.2 Q;exact eD (k2 w (λ_=>rG.refl _ _ _)) (next γ _ w (m.put d c v k1) ⟨wK.refl _ _ _,λ_ _=>rfl,λ_=>au _,.put⟩)
       ·simp only[Y,aC,if_false]at K;exact vf qe sS m K hn next
      have skip:jB N ops f gd->dst.isSome=I->S=s.put dst .ug->Dv P N ops Kn Cl (.op (KD.zK ⟨j,J,al,L,⟨dst,l,R⟩⟩) t.zK) lst f w:=by
       intro T PC e;subst e;obtain⟨d,rfl⟩:=cn.1 PC;have nx:=next γ _ w (m.put d .ug undef (by simp only[CR])) ⟨wK.refl _ _ _,λ_ _=>rfl,λ_=>au _,.put⟩
       exact abp rfl ho T nx.1 nx.2
      simp only[vG]at k;cases R with
      |none=>
       cases gd with
       |none=>exact go wn k
       |some x=>simp[NZ]at F
      |some x=>
       obtain⟨g,C⟩:=x;have PC:dst.isSome=I:=by rcases hgd with h|h;cases h;exact h
       cases gd with
       |none=>simp[NZ]at F
       |some y=>
        obtain⟨j',zD⟩:=y;have W:zD=C:=by simp[NZ]at F;exact F.1
        subst W;obtain⟨g1,g2,g3⟩:=qv m F;simp only at k
        split at k
        ·rename_i b GQ
         split at k
         ·rename_i FC;exact go (g1 b GQ FC) k
         ·rename_i FC;simp only[aa]at k;exact skip (g2 b GQ FC) PC k.symm
        ·rename_i Zw;simp only[aa]at k;exact skip (g3 Zw) PC k.symm
        ·cases k
     ·cases i
    ·cases i
  ·cases h
 | .alt ⟨j,qt,al,L,⟨d,l,R⟩⟩ t r,kp,Cl,lst,tk,γ,s,s',f,w,h,i,mR,ht,m,H,hk=>by
  simp only[NY,af]at h;obtain⟨⟨h,uX⟩,hr⟩:=h;have RQ:(lst.setIfInBounds j I).size=ops.size:=by simpa using mR
  have hee:ny cf mf ⟨j,qt,al,L,⟨d,l,R⟩⟩ tk s (gQ cf mf kp t)=Z s'/\gQ cf mf kp r tk s=Z s':=by
   simp only[gQ,both]at i
   split at i
   ·rename_i a b ha lF
    split at i
    ·rename_i Vr;subst Vr;cases i;exact⟨ha,lF⟩
    ·cases i
   ·cases i
  obtain⟨i,her⟩:=hee
  split at h
  ·rename_i o ho;have hjl:j < lst.size:=by rw[mR];exact (Array.getElem?_eq_some_iff.1 ho).1
   obtain⟨dst,op,ty,pos,aft,gd⟩:=o;simp only[af,okI,beq_iff_eq,bY,rF,dr]at h;obtain⟨⟨⟨⟨⟨hdd,hd⟩,F⟩,K⟩,hqp⟩,hgd⟩:=h;subst hdd;simp only[ny]at i
   split at i
   ·rename_i S k
    split at i
    ·rename_i jY;have Nt:∀p∈kt j tk,(p.2∉eY s dst l/\(look S.bx p.2).isSome=I)/\¬dst=Z p.2:=λp Y=>by
      have:=bg.1 jY p Y
      simpa using this
     have next:∀G U B,Inv G h0 io w0 S U B->Tr dst (eY s dst l) γ w G B f U->Cons Cl (lst.setIfInBounds j I) B/\Dv P N ops Kn Cl t.zK (lst.setIfInBounds j I) U B:=by
      intro G U B i' tr;have X:=ht.LI hjl m tr Nt;refine⟨X.cons,pF qe sS t uX i RQ X i' (λb lF=>?_) hk⟩;rw[tr.β b (λe=>by
        rw[e]at hd;simp at hd;omega)]
      exact H b lF
     have rest:=pF qe sS r hr her mR ht m H hk;have go:qm N ops f gd->Cq cf mf s dst l=Z S->Dv P N ops Kn Cl (.alt (KD.zK ⟨j,qt,al,L,⟨dst,l,R⟩⟩) t.zK r.zK) lst f w:=by
      intro T k;refine akk (e:=KD.zK ⟨j,qt,al,L,⟨dst,l,R⟩⟩) ho T ?_ rest;rcases Aj k with ⟨Y,c,Q,rfl⟩|⟨Y,hn⟩
      ·simp only[Y,if_true,af]at K;obtain⟨d,rfl⟩:=cn.1 K.1;obtain⟨v,k1,k2⟩:=pV (dst:=Z d) (ty:=ty) (pos:=pos) (aft:=aft) (gd:=gd) m K.2 Q;exact eD (k2 w (λ_=>rG.refl _ _ _)) (next γ _ w (m.put d c v k1) ⟨wK.refl _ _ _,λ_ _=>rfl,λ_=>au _,.put⟩)
      ·simp only[Y,aC,if_false]at K;exact vf qe sS m K hn next
     have skip:jB N ops f gd->dst.isSome=I->S=s.put dst .ug->Dv P N ops Kn Cl (.alt (KD.zK ⟨j,qt,al,L,⟨dst,l,R⟩⟩) t.zK r.zK) lst f w:=by
      intro T PC e;subst e;obtain⟨d,rfl⟩:=cn.1 PC;have nx:=next γ _ w (m.put d .ug undef (by simp only[CR])) ⟨wK.refl _ _ _,λ_ _=>rfl,λ_=>au _,.put⟩
      exact afu (e:=KD.zK ⟨j,qt,al,L,⟨Z d,l,R⟩⟩) ho T nx.1 nx.2 rest
     simp only[vG]at k;cases R with
     |none=>
      cases gd with
      |none=>exact go wn k
      |some x=>simp[NZ]at F
     |some x=>
      obtain⟨g,C⟩:=x;have PC:dst.isSome=I:=by rcases hgd with h|h;cases h;exact h
      cases gd with
      |none=>simp[NZ]at F
      |some y=>
       obtain⟨j',zD⟩:=y;have W:zD=C:=by simp[NZ]at F;exact F.1
       subst W;obtain⟨g1,g2,g3⟩:=qv m F;simp only at k
       split at k
       ·rename_i b GQ
        split at k
        ·rename_i FC;exact go (g1 b GQ FC) k
        ·rename_i FC;simp only[aa]at k;exact skip (g2 b GQ FC) PC k.symm
       ·rename_i Zw;simp only[aa]at k;exact skip (g3 Zw) PC k.symm
       ·cases k
    ·cases i
   ·cases i
  ·cases h
theorem gj(G:P.follows .mixedOrders=I)(F:Cts w0 io P num cf)(C:∀g ag ds q mY q',mf g ag ds q=Z (mY,q')->zQ w0 io P (num g) ag ds q mY q')(n:Nat):∀(k:K) (c:Code) {s:St} {f:Fm} {w:World} {e:Ex} {s':St},uk P N num k c=I->iR cf mf n k s=Z (e,s')->yc β0 h0 io w0 s f w->
  W P N c (λf w=>e=.norm/\yc β0 h0 io w0 s' f w) (λi f w=>e=.exit i/\yc β0 h0 io w0 s' f w) (λf w=>e=.ret/\yc β0 h0 io w0 s' f w) f w
 | .skip,c,s,f,w,e,s',v,h,B=>by
  cases c<;>simp[uk]at v
  simp only[iR,aa,aA]at h;obtain⟨rfl,rfl⟩:=h;exact xU ⟨rfl,B⟩
 | .QH Y kp,c,s,f,w,e,s',v,h,B=>by
  cases c with
  |region id ops draw=>
   cases draw with
   |true=>simp[uk]at v
   |false=>
    simp only[uk]at v;simp only[iR]at h
    split at h
    ·rename_i S H;simp only[aa,aA]at h;obtain⟨rfl,rfl⟩:=h;have hl:=r9 (Kn:=λf w=>Ex.norm=.norm/\yc β0 h0 io w0 (S.eB kp) f w) F C ops.toList Y v H B (λf' w' T=>⟨rfl,T.eB kp⟩);obtain⟨l⟩:=ops;exact fL (l:=l) hl
    ·cases h
  |skip=>
   cases Y with
   |nil=>
    simp only[iR,mQ,aa,aA]at h;obtain⟨rfl,rfl⟩:=h;exact xU ⟨rfl,B.eB kp⟩
   |cons i Y=>simp[uk]at v
  |_=>simp[uk]at v
 | .UK Y kp,c,s,f,w,e,s',v,h,⟨γ,B,Q⟩=>by
  cases c with
  |region id ops draw=>
   cases draw with
   |false=>simp[uk]at v
   |true=>
    simp only[uk,af,beq_iff_eq]at v;obtain⟨⟨⟨H,h2⟩,h3⟩,h4⟩:=v;simp only[iR]at h
    split at h
    ·rename_i S h5;simp only[aa,aA]at h;obtain⟨rfl,rfl⟩:=h;have hd:=pF (P:=P) (N:=N) (num:=num) (ops:=ops) (β0:=β0) (Kn:=λf w=>Ex.norm=.norm/\yc β0 h0 io w0 S f w) (Cl:=[]) (lst:=p9 ops.size J) (tk:=[]) F C Y H h5 (by simp) (λp hp=>by simp at hp) B.drew Q (λs2 f' w' e T=>⟨rfl,by rw[e];exact T.eB kp⟩);obtain⟨l⟩:=ops;exact abu (l:=l) Y.zK G h2 h3 h4 hd
    ·cases h
  |_=>simp[uk]at v
 | .seq a b,c,s,f,w,e,s',v,h,B=>by
  cases c with
  |seq R cb=>
   simp only[uk,af]at v;simp only[iR]at h;refine kH ?_
   split at h
   ·rename_i S H;refine rh (gj G F C n a R v.1 H B) (λf w o=>gj G F C n b cb v.2 h o.2) (λi f w o=>?_) (λf w o=>?_)
    ·cases o.1
    ·cases o.1
   ·rename_i U;refine rh (gj G F C n a R v.1 h B) (λf w o=>?_) (λi f w o=>o) (λf w o=>o);obtain⟨rfl,_⟩:=o;exact absurd h (U s')
  |_=>
   obtain⟨d,Q,v⟩:∃d,b=.Ci d .skip/\uk P N num a _=I:=by
    cases b with
    |Ci d X=>
     cases X with
     |skip=>exact⟨d,rfl,by simpa [uk] using v⟩
     |_=>simp[uk]at v
    |_=>simp[uk]at v
   subst Q;simp only[iR]at h
   split at h
   ·rename_i S H
    split at h
    ·rename_i s2 h2;cases h;refine rh (gj G F C n a _ v H B) (λf w o=>⟨rfl,?_⟩) (λi f w o=>by cases o.1) (λf w o=>by cases o.1);obtain⟨γ,i2,b2⟩:=o.2;obtain⟨L,i',X,_⟩:=i2.oZ h2;exact⟨L,i',λb lF=>by rw[X];exact b2 b lF⟩
    ·cases h
   ·rename_i U;refine rh (gj G F C n a _ v h B) (λf w o=>?_) (λi f w o=>o) (λf w o=>o);obtain⟨rfl,_⟩:=o;exact absurd h (U s')
 | .cond x a b,c,s,f,w,e,s',v,h,B=>by
  cases c with
  |cond y R cb=>
   simp only[uk,af]at v;obtain⟨⟨H,h2⟩,h3⟩:=v;simp only[iR]at h;obtain⟨γ,T,Q⟩:=B;have hv:=cy T H
   split at h
   ·rename_i t ht;rw[ht]at hv;have hv:=sK hv;cases t with
    |true=>exact E4 hv (gj G F C n a R h2 (by simpa using h) ⟨γ,T,Q⟩)
    |false=>exact Be hv (gj G F C n b cb h3 (by simpa using h) ⟨γ,T,Q⟩)
   ·cases h
  |_=>simp[uk]at v
 | .block i a,c,s,f,w,e,s',v,h,B=>by
  cases c with
  |block j R=>
   simp only[uk,af,beq_iff_eq]at v;obtain⟨rfl,v⟩:=v;simp only[iR]at h;refine zC ?_
   split at h
   ·rename_i i' S H;refine rh (gj G F C n a R v H B) (λf w o=>by cases o.1) (λq f w o=>?_) (λf w o=>by cases o.1);obtain⟨e1,o⟩:=o;cases e1
    split at h
    ·rename_i V;simp only[aa,aA]at h;obtain⟨rfl,rfl⟩:=h;rw[if_pos V];exact⟨rfl,o⟩
    ·rename_i V;simp only[aa,aA]at h;obtain⟨rfl,rfl⟩:=h;rw[if_neg V];exact⟨rfl,o⟩
   ·rename_i U;refine rh (gj G F C n a R v h B) (λf w o=>o) (λq f w o=>?_) (λf w o=>o);obtain⟨rfl,_⟩:=o;exact absurd h (U q s')
  |_=>simp[uk]at v
 | .loop a,c,s,f,w,e,s',v,h,B=>by
  cases c with
  |loop R=>
   simp only[uk]at v;simp only[iR]at h;refine OF (λm f w=>∃s,yc β0 h0 io w0 s f w/\iter (iR cf mf n a) m s=Z (e,s')) n ⟨s,B,h⟩ ?_
   rintro m f w ⟨s,B,h⟩
   cases m with
   |zero=>simp[iter]at h
   |succ m=>
    simp only[iter]at h
    split at h
    ·rename_i S H;refine rh (gj G F C n a R v H B) (λf w o=>⟨m,by omega,S,o.2,h⟩) (λi f w o=>by cases o.1) (λf w o=>by cases o.1)
    ·rename_i U;refine rh (gj G F C n a R v h B) (λf w o=>?_) (λi f w o=>o) (λf w o=>o);obtain⟨rfl,_⟩:=o;exact absurd h (U s')
  |_=>simp[uk]at v
 | .exit i,c,s,f,w,e,s',v,h,B=>by
  cases c<;>simp[uk]at v
  subst v;simp only[iR,aa,aA]at h;obtain⟨rfl,rfl⟩:=h;exact OE ⟨rfl,B⟩
 | .ret,c,s,f,w,e,s',v,h,B=>by
  cases c<;>simp[uk]at v
  simp only[iR,aa,aA]at h;obtain⟨rfl,rfl⟩:=h;exact Ml ⟨rfl,B⟩
 | .share r a,c,s,f,w,e,s',v,h,⟨γ,B,Q⟩=>by
  have uW:uk P N num a c=I:=by
   cases c<;>simpa [uk] using v
  simp only[iR]at h;obtain⟨L,i',X,_⟩:=B.xS [r];exact gj G F C n a c uW h ⟨L,i',λb lF=>by rw[X];exact Q b lF⟩
 | .Ci d a,c,s,f,w,e,s',v,h,⟨γ,B,Q⟩=>by
  have uW:uk P N num a c=I:=by
   cases c<;>simpa [uk] using v
  simp only[iR]at h
  split at h
  ·rename_i S hs1;obtain⟨L,i',X,_⟩:=B.oZ hs1;exact gj G F C n a c uW h ⟨L,i',λb lF=>by rw[X];exact Q b lF⟩
  ·cases h
end
end
section
open Go.RowKit
def Jf(P:Program)(N:Nat):ResultVar->KR->Bool
 | .tmp t,.t d=>t ==d && gf t N
 | .tmp t,.b d=>t ==d && gf t N
 | .cell a T,.c d n=>a ==d && gf a N && (if n=0 then J9 P T ==Z J else J9 P T ==Z I && nK P T ==Z n)
 |_,_=>J
def Em(P:Program)(N:Nat):M ResultVar->M KR->Bool
 |[],[]=>I
 |r::rs,k::a=>Jf P N r k && Em P N rs a
 |_,_=>J
def okF(P:Program)(num:Nat->FuncId)(f:Nat)(kf:KF):Bool:=
 match P.funcs[num f]? with
 |some a=>match a.body with
  |some c=>uk P a.ntmps num kf.body c && gV kf.np a.ntmps && Em P a.ntmps a.results.toList kf.res
  |none=>J
 |none=>J
def q9(tmps:Array Value):ResultVar->Sem Value
 | .tmp t=>pure (tmps.getD t undef)
 | .cell a t=>do loadVar t (<- asAddr (tmps.getD a undef))
section
variable {P:Program} {γ:Gh} {h0:Nat->Nat} {io:M Nat} {w0:World} {s s':St} {f:Fm} {w:World} {N:Nat} {num:Nat->FuncId}
theorem Xn(p:Inv γ h0 io w0 s f w){L:ResultVar}{kr:KR}{a:A}{l:M Nat}(k:Jf P N L kr=I)(j:Ez s kr=Z (a,l)) :
  ∃i F,(q9 (fr f N).tmps L).run P w=.ok i w/\AR γ.h w a i F/\(∀g∈F,∃r∈l,γ.ω g=.row r)/\(l.Nodup->F.Nodup):=by
 cases L with
 |tmp t=>
  cases kr with
  |c d n=>simp[Jf]at k
  |b d=>simp[Ez]at j
  |t d=>
   simp only[Jf,af,beq_iff_eq]at k;obtain⟨rfl,R⟩:=k;have C:t < N:=by simpa using R
   simp only[Ez,ak,aA]at j;obtain⟨m,U,rfl,rfl⟩:=j;obtain⟨k1,k2,k3⟩:=(p.get t).cells (Q0 U);obtain⟨F,y,x,q⟩:=xW p _ k1 U;refine⟨f t,F,by simp[q9,fr,C],?_,x,q⟩;simp only[AR];refine⟨_,y,λH=>?_,λH=>by rw[k2 H]⟩;obtain⟨us,e⟩:=k3 H;rw[e];simp[Value.cells]
 |cell a0 T=>
  cases kr with
  |t d=>simp[Jf]at k
  |b d=>simp[Jf]at k
  |c d n=>
   simp only[Jf,af,beq_iff_eq]at k;obtain⟨⟨rfl,R⟩,B⟩:=k;have C:a0 < N:=by simpa using R
   simp only[Ez]at j
   split at j
   ·rename_i b hb;have D:=p.get a0;rw[hb]at D;simp only[CR]at D
    split at j
    ·rename_i cs hl;obtain⟨T',m,h1,G,h3⟩:=p.bx b cs hl;have W:jo w (γ.β b) 0 m:=h1.SN
     split at j
     ·rename_i S;subst S;simp only[if_true,beq_iff_eq]at B
      split at j
      ·rename_i c;simp only[ak,aA]at j;obtain⟨rs,K,rfl,rfl⟩:=j;obtain⟨F,y,x,q⟩:=xW p _ G K;have V:=G.length;obtain⟨v,rfl⟩:=db.1 V;have X:=W 0 v rfl;simp only[bD]at X;refine⟨v,F,?_,?_,x,q⟩
       ·simp[q9,fr,C,D,asAddr,loadVar,v7 B,load,Sem.run,X]
       ·simp only[AR];exact⟨[v],y,λh=>by simp at h,λ_=>rfl⟩
      ·cases j
     ·rename_i S;simp only[if_neg S,af,beq_iff_eq]at B
      split at j
      ·rename_i qL;simp only[ak,aA]at j;obtain⟨rs,K,rfl,rfl⟩:=j;obtain⟨F,y,x,q⟩:=xW p _ G K;have V:=G.length;have Y:=run_loadCellsFrom (P:=P) (w:=w) (b:=γ.β b) (o:=0) m 0 #[] (by simpa using W);have Q:m.length=n:=by omega
       rw[Q]at Y;refine⟨.agg m.toArray,F,?_,?_,x,q⟩
       ·simp[q9,fr,C,D,asAddr,loadVar,v7 B.1,run_sizeOf B.2,loadCells,Y]
       ·simp only[AR];exact⟨m,y,λ_=>rfl,λh=>by simp at h⟩
      ·cases j
    ·cases j
   ·cases j
theorem Hv(t:Inv γ h0 io w0 s f w):∀(d:M ResultVar) (i:M KR) {as:M A} {l:M Nat},Em P N d i=I->wX s i=Z (as,l)->
  ∃k F,(d.mapM (q9 (fr f N).tmps)).run P w=.ok k w/\ml γ.h w as k F/\(∀g∈F,∃r∈l,γ.ω g=.row r)/\(l.Nodup->F.Nodup)
 |[],[],as,l,_,j=>by
  simp only[wX,aa,aA]at j;obtain⟨rfl,rfl⟩:=j;exact⟨[],[],by simp,by simp[ml],λ_ h=>by simp at h,λ_=>by simp⟩
 |[],_::_,_,_,h,_=>by simp[Em]at h
 |_::_,[],_,_,h,_=>by simp[Em]at h
 |U::d,kr::i,as,l,h,j=>by
  simp only[Em,af]at h;simp only[wX]at j
  split at j
  ·rename_i a W T;simp only[ak]at j;obtain⟨⟨X,V⟩,S,x⟩:=j;simp only[aA]at x;obtain⟨rfl,rfl⟩:=x;obtain⟨c,B,K,G,y1,C⟩:=Xn t h.1 T;obtain⟨k,y,H,D,y2,z2⟩:=Hv t d i h.2 S;refine⟨c::k,B++y,by simp[K,H],?_,λg n=>?_,λp=>?_⟩
   ·simp only[ml];exact⟨c,k,B,y,rfl,rfl,G,D⟩
   ·rcases aS.1 n with n|n
    ·obtain⟨r,m,o⟩:=y1 g n;exact⟨r,by simp[m],o⟩
    ·obtain⟨r,m,o⟩:=y2 g n;exact⟨r,by simp[m],o⟩
   ·rw[bG]at p;rw[bG];refine⟨C p.1,z2 p.2.1,?_⟩;intro a R b Q e;subst e;obtain⟨r,m,o⟩:=y1 a R;obtain⟨q,L,v⟩:=y2 a Q;rw[o]at v;cases v;exact p.2.2 r m r L rfl
  ·cases j
theorem NG(l:Inv γ h0 io w0 s f w){e:M ResultVar}{i:M KR}{args q outs:M A}(c:Em P N e i=I)(a:xE i args s=Z (q,outs)) :
  ∃k F,(e.mapM (q9 (fr f N).tmps)).run P w=.ok k w/\ml γ.h w q k F/\(∀g∈F,γ.ω g≠.free)/\F.Nodup/\outs=[]/\args.all A.isVal=I:=by
 unfold xE at a
 split at a
 ·rename_i d
  split at a
  ·rename_i D
   split at a
   ·rename_i b K
    split at a
    ·rename_i R H
     split at a
     ·rename_i v;simp only[ak,aA]at a;obtain⟨S,B,rfl,rfl⟩:=a
      match e,c with
      |[.tmp t],c=>
       simp only[Em,Jf,af,beq_iff_eq]at c;obtain⟨⟨rfl,G⟩,_⟩:=c;have C:t < N:=by simpa using G
       have n:=l.get t;rw[K]at n;simp only[CR]at n;obtain⟨T,k,Q,L,o⟩:=l.bx b R H;obtain⟨F,y,p,x⟩:=xW l _ L B;rw[pQ]at v;refine⟨[f t],γ.β b::F,by simp[q9,fr,C],?_,?_,?_,rfl,D⟩
       ·simp only[ml,AR];exact⟨_,[],γ.β b::F,[],rfl,by simp,⟨_,T,k,F,n,Q,l.nE _ _ o,rfl,y⟩,rfl,rfl⟩
       ·intro g j;rcases aP.1 j with rfl|j
        ·rw[o];simp
        ·obtain⟨r,_,m⟩:=p g j;rw[m];simp
       ·refine cl.2 ⟨λj=>?_,x v⟩;obtain⟨r,_,m⟩:=p _ j;rw[o]at m;cases m
      |[],c=>simp[Em]at c
      |[.cell _ _],c=>simp[Em,Jf]at c
      |_::_::_,c=>simp[Em]at c
     ·cases a
    ·cases a
   ·cases a
  ·cases a
 ·cases a
theorem LV:∀{args:M A} {a:M Value},args.all A.isVal=I->gq args a=[]
 |[],_,_=>by simp[gq]
 | .val _ _::as,[],_=>by simp[gq]
 | .val _ _::as,v::a,h=>by
  rw[bJ,af]at h;simp only[gq];exact LV h.2
 | .box _::_,_,h=>by simp[A.isVal]at h
theorem A4(y:Inv γ h0 io w0 s f w){w1:World}{h1:Nat->Nat}:∀(as:M A) {n:M Value} {L:M Nat} (p:Nat) {outs:M A} {l:M Nat},vi s p as=Z (outs,l)->ml h1 w1 as n L->(∀i H g,as[i]?=Z (.box H)->n[i]?=Z (.pointer (Z ⟨g,0,O⟩))->γ.β (900+(p+i))=g)->
  ∃F,ml γ.h w outs (gq as n) F/\(∀g∈F,(∃r∈l,γ.ω g=.row r)\/∃i,p<=i/\γ.ω g=.box (900+i))/\(l.Nodup->F.Nodup)
 |[],n,L,p,outs,l,j,k,_=>by
  simp only[vi,aa,aA]at j;obtain⟨rfl,rfl⟩:=j;exact⟨[],by simp[ml,gq],λ_ h=>by simp at h,λ_=>by simp⟩
 | .val ag H::as,n,L,p,outs,l,j,k,K=>by
  simp only[ml]at k;obtain⟨v,fK,F1,F2,rfl,rfl,_,k⟩:=k;simp only[vi,S7,ak]at j;obtain⟨⟨l',r'⟩,U,B⟩:=j;simp only[ay,aA]at B;obtain⟨rfl,rfl⟩:=B;obtain⟨F,R,t,Q⟩:=A4 y as (p+1) U k (λi S g c d=>by
   rw[show p+1+i=p+(i+1) from by omega];exact K (i+1) S g (by simpa using c) (by simpa using d))
  refine⟨F,by simpa only [gq] using R,λg m=>?_,Q⟩;rcases t g m with h|⟨i,c,d⟩
  ·exact .inl h
  ·exact .inr ⟨i,by omega,d⟩
 | .box H::as,n,L,p,outs,l,j,k,K=>by
  simp only[ml,AR]at k;obtain⟨v,fK,F1,F2,rfl,rfl,⟨G,T0,us0,F0',rfl,_⟩,k⟩:=k;simp only[vi,S7]at j
  split at j
  ·rename_i l1 r1 D
   split at D
   ·rename_i TK hl;simp only[ak,aA]at D;obtain⟨rs,sC,rfl,rfl⟩:=D;simp only[ak]at j;obtain⟨⟨l',r'⟩,U,B⟩:=j;simp only[aA]at B;obtain⟨rfl,rfl⟩:=B;have Vv:=K 0 H G rfl rfl;rw[eu]at Vv;obtain⟨T,us,X,k2,o⟩:=y.bx (900+p) TK hl;obtain⟨W,y1,y2,y3⟩:=xW y _ k2 sC;obtain⟨F,R,t,Q⟩:=A4 y as (p+1) U k (λi S g c d=>by
     rw[show p+1+i=p+(i+1) from by omega];exact K (i+1) S g (by simpa using c) (by simpa using d))
    rw[Vv]at X o;refine⟨(G::W)++F,?_,λg m=>?_,λC=>?_⟩
    ·simp only[gq,aq,ay,ml];refine⟨_,_,G::W,F,rfl,rfl,?_,R⟩;simp only[AR];exact⟨G,T,us,W,rfl,X,y.nE _ _ o,rfl,y1⟩
    ·rcases aS.1 m with m|m
     ·rcases aP.1 m with rfl|m
      ·exact .inr ⟨p,au _,o⟩
      ·obtain⟨r,x,c⟩:=y2 g m;exact .inl ⟨r,by simp[x],c⟩
     ·rcases t g m with ⟨r,x,c⟩|⟨i,c,d⟩
      ·exact .inl ⟨r,by simp[x],c⟩
      ·exact .inr ⟨i,by omega,d⟩
    ·rw[bG]at C;rw[bG];refine⟨cl.2 ⟨λhm=>?_,y3 C.1⟩,Q C.2.1,?_⟩
     ·obtain⟨r,_,c⟩:=y2 _ hm;rw[o]at c;cases c
     ·intro a V b Y e;subst e;rcases aP.1 V with rfl|V
      ·rcases t _ Y with ⟨r,_,c⟩|⟨i,c,d⟩
       ·rw[o]at c;cases c
       ·rw[o]at d;simp only[Own.box.injEq]at d;omega
      ·obtain⟨r,x,c⟩:=y2 a V;rcases t a Y with ⟨q,hq,d⟩|⟨i,_,d⟩
       ·rw[c]at d;cases d;exact C.2.2 r x r hq rfl
       ·rw[c]at d;cases d
   ·cases D
  ·cases j
theorem BI{b:Func}{a:M Value}(h:(b.results.toList.mapM (q9 (fr f N).tmps)).run P w=.ok a w):∃v,(results b (fr f N).tmps).run P w=.ok v w/\YQ a v:=by
 have g:(b.results.mapM (q9 (fr f N).tmps)).run P w=.ok a.toArray w:=by
  rw[Array.mapM_eq_mapM_toList];simp[h]
 have e:results b (fr f N).tmps=(do
   let c <- b.results.mapM (q9 (fr f N).tmps)
   pure (if h:c.size=1 then c[0] else .tuple c)):=by
  unfold results
  congr 1
 rw[e];simp only[Sem.run_bind,g,Result.andThen_ok,Sem.run_pure];by_cases d:a.length=1
 ·obtain⟨v,rfl⟩:=db.1 d;exact⟨v,by simp,.inl rfl⟩
 ·exact⟨.tuple a.toArray,by simp[d],.inr ⟨d,rfl⟩⟩
end
theorem RC{P:Program}{num:Nat->FuncId}{cf:Nat->M A->u (M A×M A)}{mf:Nat->Bool->M D->Int->u (M D×Int)}(hm:P.follows .mixedOrders=I)(hj:T_ P num)(qe:∀g a r o,cf g a=Z (r,o)->px P (num g) a r o)(sS:∀g W V q U T,mf g W V q=Z (U,T)->MR P (num g) W V q U T){n f:Nat}{kf:KF}(L:okF P num f kf=I){args rs outs:M A}(p:FM cf mf n kf args=Z (rs,outs)):px P (num f) args rs outs:=by
  unfold FM at p
  split at p
  ·rename_i Zz;unfold okF at L
   split at L
   ·rename_i fn Dn
    split at L
    ·rename_i c hc;simp only[af]at L;obtain⟨⟨R,aha⟩,Q⟩:=L;intro w h vs F hL C mb iM gy;have vL:vs.length=args.length:=by
      clear R aha Q p Zz mb iM hL
      induction args generalizing vs F with
      |nil=>simp only[ml]at C;simp[C.1]
      |cons a as ih=>
       simp only[ml]at C;obtain⟨v,fK,G,X,rfl,rfl,_,C⟩:=C;simp[ih _ _ C]
     refine enter (N:=fn.ntmps) Dn hc rfl (by simp only[nW,vL,Zz];exact aha) ?_;have i0:Inv ⟨h,λ_=>0,λ_=>undef,λg=>if g∈F then .fP else .free⟩ h F w ⟨[],[],[]⟩ (λi=>vs.toArray.getD i undef) w:={
      sl:=λd c hl=>by simp[look]at hl
      bx:=λd c hl=>by simp[look]at hl
      rw:=λd c hl=>by simp[look]at hl
      own:=λg k=>by
       by_cases hF:g∈F
       ·exact⟨iM g hF,.inr hF⟩
       ·simp[hF]at k
      nE:=λg b k=>by dsimp only at k;split at k<;>cases k
      gy:=gy,os:=rfl,tape:=rfl,output:=rfl,size:=au _,frame:=λ_ _ _=>rfl,cell:=λ_ _ _ _=>rfl,mono:=λ_ _=>au _,hold:=λ_ _ _=>rfl,gW:=λ_ h=>h }
     obtain⟨Y,i1,e1,p1,x1⟩:=uO args 0 i0 C mb (λg k=>⟨.inr (by simp[k]),iM g k,.inr k⟩) (λi v hv=>by
      rw[bD];have:=(bm.1 hv)
      obtain⟨hil,hiv⟩:=this;simp[hil,hiv])
     have fin:∀(s:St) y m,leave kf args s=Z (rs,outs)->yc Y.β h F w s y m->∃v,(results fn (fr y fn.ntmps).tmps).run P m=.ok v m/\∃v' S G X h',Ending.returned v=.returned v'/\YQ S v'/\ml h' m rs S G/\ml h' m outs (gq args vs) X/\(G++X).Nodup/\(∀g∈G++X,(w.heap.size<=g\/g∈F)/\g < m.heap.size)/\HM h F w m h':=by
      intro s y m t ⟨γ,j,hb⟩;unfold leave at t
      split at t
      ·rename_i EB l outs' l' ZD RL
       split at t
       ·rename_i hn;rw[pQ]at hn;simp only[aa,aA]at t;obtain⟨rfl,rfl⟩:=t;obtain⟨S,G,k1,k2,k3,k4⟩:=Hv j fn.results.toList kf.res Q ZD;obtain⟨X,y1,y2,y3⟩:=A4 j args 0 RL C (λi cs g B K=>by
         rw[hb _ (by omega)];exact x1 i cs g B K)
        obtain⟨v,z1,z2⟩:=BI k1;rw[bG]at hn;refine⟨v,z1,v,S,G,X,γ.h,rfl,z2,k2,y1,?_,λg k=>?_,⟨j.os,j.tape,j.output,j.size,j.frame,j.cell,j.mono,j.hold,j.gy,j.gW⟩⟩
        ·rw[bG];refine⟨k4 hn.1,y3 hn.2.1,?_⟩;intro a ha b lF e;subst e;obtain⟨r,hr,B⟩:=k3 a ha;rcases y2 a lF with ⟨q,hq,K⟩|⟨i,_,K⟩
         ·rw[B]at K;cases K;exact hn.2.2 r hr r hq rfl
         ·rw[B]at K;cases K
        ·have kU:γ.ω g≠.free:=by
          rcases aS.1 k with k|k
          ·obtain⟨r,_,B⟩:=k3 g k;rw[B];simp
          ·rcases y2 g k with ⟨r,_,B⟩|⟨i,_,B⟩<;>rw[B]<;>simp
         exact⟨(j.own g kU).2,(j.own g kU).1⟩
       ·cases t
      ·obtain⟨S,G,k1,k2,k3,k4,rfl,k5⟩:=NG j Q t;obtain⟨v,z1,z2⟩:=BI k1;refine⟨v,z1,v,S,G,[],γ.h,rfl,z2,k2,?_,by rw[aQ];exact k4,λg k=>?_,⟨j.os,j.tape,j.output,j.size,j.frame,j.cell,j.mono,j.hold,j.gy,j.gW⟩⟩
       ·rw[LV k5];simp[ml]
       ·rw[aQ]at k;exact⟨(j.own g (k3 g k)).2,(j.own g (k3 g k)).1⟩
     split at p
     ·rename_i s H;refine rh (gj (β0:=Y.β) hm ⟨λg a r o p=>(qe g a r o p).at_ hL,hj⟩ (λg W V q U T p=>(sS g W V q U T p).at_ hL) n kf.body c R H ⟨Y,i1,λ_ _=>rfl⟩) (λy m x=>fin s y m p x.2) (λi y m x=>by cases x.1) (λy m x=>by cases x.1)
     ·rename_i s H;refine rh (gj (β0:=Y.β) hm ⟨λg a r o p=>(qe g a r o p).at_ hL,hj⟩ (λg W V q U T p=>(sS g W V q U T p).at_ hL) n kf.body c R H ⟨Y,i1,λ_ _=>rfl⟩) (λy m x=>by cases x.1) (λi y m x=>by cases x.1) (λy m x=>fin s y m p x.2)
     ·cases p
    ·cases L
   ·cases L
  ·cases p
def YP(P:Program)(num:Nat->FuncId)(f:Nat)(kf:KF):Prop:=
 (kf.np≠999->okF P num f kf=I)/\(kf.np=999->∀args a outs,XT f args=Z (a,outs)->px P (num f) args a outs)
theorem YP.of{P:Program}{num:Nat->FuncId}{f:Nat}{kf:KF}(h:okF P num f kf=I)(a:gf kf.np 999=I):YP P num f kf:=
 ⟨λ_=>h,λe=>by rw[e]at a;cases a⟩
theorem YP.ext{P:Program}{num:Nat->FuncId}{f:Nat}{b:K}{r:M KR}(h:∀args a outs,XT f args=Z (a,outs)->px P (num f) args a outs):YP P num f ⟨999,b,r⟩:=
 ⟨λe=>absurd rfl e,λ_=>h⟩
theorem Ai{P:Program}{num:Nat->FuncId}{T:Nat->u KF}(j:P.follows .mixedOrders=I)(k:T_ P num)(i:∀f kf,T f=Z kf->YP P num f kf) :
  ∀(n f:Nat) (args c outs:M A),Bq T n f args=Z (c,outs)->px P (num f) args c outs
 |0,f,args,c,outs,b=>by simp[Bq]at b
 |n+1,f,args,c,outs,b=>by
  simp only[Bq]at b
  split at b
  ·cases b
  ·rename_i kf d
   split at b
   ·rename_i e;exact (i f kf d).2 e args c outs b
   ·rename_i e;exact RC j k (λg a r o=>Ai j k i n g a r o) (λg s p q m l h=>by cases h) ((i f kf d).1 e) b
end
section
open Go.RowKit
inductive MC where
 |lst
 |ep (i o:Nat)
 |hd (i o:Nat)
 |sub (i o n:Nat)
 |non
def MC.Wz:MC->MC
 | .sub _ _ _=>.non
 |c=>c
structure MS where
 s:St
 sp:List (Nat×MC)
 es:List (List D)
def MS.spx(m:MS):KX->u MC
 | .s d=>look m.sp d
 | .k _=>O
def MS.put(m:MS)(d:Nat)(c:C):MS:=⟨m.s.put (Z d) c,ru m.sp d,m.es⟩
def MS.qX(m:MS)(d:Nat)(c:MC):MS:=⟨m.s.put (Z d) .any,(d,c)::ru m.sp d,m.es⟩
def MS.set(m:MS)(i o:Nat)(a:M D):MS:=⟨m.s,m.sp,match nth m.es i with
 |some e=>m.es.set i (mi e o a)
 |none=>m.es⟩
def MS.Wz(m:MS):MS:=⟨m.s,m.sp.map λp=>(p.1,p.2.Wz),m.es⟩
def MS.eB(m:MS)(a:n_):MS:=⟨m.s.eB a,iV m.sp a.s,m.es⟩
def MS.at_(m:MS)(i o:Nat):u D:=match nth m.es i with
 |some e=>nth e o
 |none=>O
def WS:M C->u (M A)
 |[]=>Z []
 | .d x::cs=>if D.plain x then (WS cs).map (.val J [.d x]::·) else O
 |_=>O
section
variable (cf:Nat->M A->u (M A×M A)) (mf:Nat->Bool->M D->Int->u (M D×Int)) (own:Bool) (k:Nat)
def Ru(m:MS)(d f:Nat)(a:M KX):u MS:=
 match WS (a.map (fX m.s)) with
 |some as=>match cf f as with
  |some ([.val J [.d r]],[])=>if D.plain r then Z (m.put d (.d r)) else O
  |_=>O
 |none=>O
def Rs(m:MS)(d f:Nat)(c:MC)(y:C):u MS:=
 match c,y with
 | .hd i o,.d (.int .i64 q)=>match m.at_ i o with
  |some (.list k g es)=>match mf f J [.list k g es] q with
   |some ([b],a)=>Z ((m.set i o [b]).put d (.d (.int .i64 a)))
   |_=>O
  |_=>O
 | .sub i o n,.d (.int .i64 q)=>match nth m.es i with
  |some e=>match mf f I ((e.drop o).take n) q with
   |some (xs,a)=>if o+n<=e.length/\xs.length=n then Z ((m.set i o xs).put d (.d (.int .i64 a))) else O
   |none=>O
  |none=>O
 |_,_=>O
def Na(m:MS)(d:Nat):KO->u MS
 | .mv x=>match m.spx x with
  |some c=>Z (m.qX d c)
  |none=>Z (m.put d (fX m.s x))
 | .len x=>match m.spx x with
  |some .lst=>Z (m.put d (.d (.int .i64 m.es.length)))
  |_=>O
 | .ia a x y=>match m.spx x,fX m.s y with
  |some .lst,.d (.int .i64 n)=>if a=k/\0<=n/\n.toNat < m.es.length then Z (m.qX d (.ep n.toNat 0)) else O
  |_,_=>O
 | .fa o x=>match m.spx x with
  |some (.ep i p)=>Z (m.qX d (.ep i (p+o)))
  |_=>O
 | .ld n x=>match m.spx x with
  |some (.ep i o)=>if n=0 then (match m.at_ i o with
    |some (.list _ _ _)=>Z (m.qX d (.hd i o))
    |_=>O) else (match nth m.es i with
    |some e=>if o+n<=e.length then Z (m.qX d (.sub i o n)) else O
    |none=>O)
  |_=>O
 | .call f xs=>match xs with
  |[x,y]=>(match m.spx x with
   |some c=>Rs mf m d f c (fX m.s y)
   |none=>Ru cf m d f xs)
  |_=>Ru cf m d f xs
 |op=>if op.pU then (jm m.s op).map (m.put d) else O
def akR(m:MS):KO->u MS
 | .st n x y=>match m.spx x,fX m.s y with
  |some (.ep i o),.d v=>match m.at_ i o with
   |some c=>if n=1/\own=I/\D.plain c=I/\D.plain v=I then Z (m.set i o [v]).Wz else O
   |none=>O
  |_,_=>O
 |_=>O
def Za(m:MS)(i:KI):u MS:=
 match i.gd with
 |some _=>O
 |none=>match i.dst with
  |some d=>Na cf mf k m d i.op
  |none=>akR own m i.op
def FB:M KI->MS->u MS
 |[],m=>Z m
 |i::is,m=>match Za cf mf own k m i with
  |some a=>FB is a
  |none=>O
def iterM(f:MS->u (Ex×MS)):Nat->MS->u (Ex×MS)
 |0,_=>O
 |n+1,s=>match f s with
  |some (.norm,a)=>iterM f n a
  |r=>r
def lz(n:Nat):K->MS->u (Ex×MS)
 | .skip,m=>Z (.norm,m)
 | .QH ops f,m=>match FB cf mf own k ops m with
  |some e=>Z (.norm,e.eB f)
  |none=>O
 | .seq a b,m=>match lz n a m with
  |some (.norm,e)=>lz n b e
  |r=>r
 | .cond c a b,m=>match fX m.s c with
  | .d (.bool t)=>if t then lz n a m else lz n b m
  |_=>O
 | .block id a,m=>match lz n a m with
  |some (.exit i,e)=>if i=id then Z (.norm,e) else Z (.exit i,e)
  |r=>r
 | .loop a,m=>iterM (lz n a) n m
 | .exit id,m=>Z (.exit id,m)
 | .ret,m=>Z (.ret,m)
 |_,_=>O
end
def S8(r:Nat):u (Ex×MS)->u (M (M D)×Int)
 |some (.norm,m)=>(match m.s.get r with
  | .d (.int .i64 q)=>Z (m.es,q)
  |_=>O)
 |some (.ret,m)=>(match m.s.get r with
  | .d (.int .i64 q)=>Z (m.es,q)
  |_=>O)
 |_=>O
noncomputable def Pc(T:Nat->u KF):Nat->Nat->Bool->M D->Int->u (M D×Int)
 |0,_,_,_,_=>O
 |n+1,f,h,cells,q=>match T f with
  |some ⟨2,body,[.t r]⟩=>
   if h then (match body with
    | .seq (.QH (⟨Z b,.box (.s 0),O⟩::is) c) i=>
     (match FB (Bq T n) (Pc T n) J cells.length is (MS.qX ⟨⟨[(1,.d (.int .i64 q))],[],[]⟩,[],[cells]⟩ b (.ep 0 0)) with
     |some m=>(match S8 r (lz (Bq T n) (Pc T n) J cells.length n i (m.eB c)) with
      |some ([zW],a)=>Z (zW,a)
      |_=>O)
     |none=>O)
    |_=>O)
   else (match cells with
    |[.list k g es]=>(match S8 r (lz (Bq T n) (Pc T n) I k n body ⟨⟨[(1,.d (.int .i64 q))],[],[]⟩,[(0,.lst)],es⟩) with
     |some (e,a)=>Z ([.list k g e],a)
     |none=>O)
    |_=>O)
  |_=>O
theorem nB.ofC{w:World}:∀(b:M D) {c:M Value} {G:Fp},fV w b c G->∃a,a.flatten=G/\nB w b c a
 |[],_,_,h=>by
  simp only[fV]at h;exact⟨[],by simp[h.2],by simp[nB,h.1]⟩
 |d::b,_,_,h=>by
  simp only[fV]at h;obtain⟨v,j,e,k,rfl,rfl,i,g⟩:=h;obtain⟨a,rfl,f⟩:=nB.ofC b g;exact⟨e::a,by simp,by simp only[nB];exact⟨v,j,e,a,rfl,rfl,i,f⟩⟩
theorem nB.length{w:World}:∀(a:M D) {b:M Value} {c:M Fp},nB w a b c->b.length=a.length/\c.length=a.length
 |[],_,_,h=>by simp only[nB]at h;simp[h.1,h.2]
 |d::a,_,_,h=>by
  simp only[nB]at h;obtain⟨v,g,F,i,rfl,rfl,f,e⟩:=h;simp[nB.length a e]
theorem nB.append{w:World}:∀(a:M D) {es:M D} {c e:M Value} {f Gs:M Fp},nB w a c f->nB w es e Gs->nB w (a++es) (c++e) (f++Gs)
 |[],_,_,_,_,_,h,b=>by simp only[nB]at h;obtain⟨rfl,rfl⟩:=h;simpa using b
 |d::a,_,_,_,_,_,h,b=>by
  simp only[nB]at h;obtain⟨v,j,F,k,rfl,rfl,i,g⟩:=h;simp only[aq,nB];exact⟨v,_,F,_,rfl,rfl,i,nB.append a g b⟩
theorem nB.drop{w:World}:∀(a:M D) {b:M Value} {c:M Fp} (n:Nat),nB w a b c->nB w (a.drop n) (b.drop n) (c.drop n)
 |_,_,_,0,h=>by simpa using h
 |[],_,_,n+1,h=>by simp only[nB]at h;simp[nB,h.1,h.2]
 |d::a,_,_,n+1,h=>by
  simp only[nB]at h;obtain⟨v,g,F,i,rfl,rfl,f,e⟩:=h
  simpa using nB.drop a n e
theorem nB.take{w:World}:∀(a:M D) {b:M Value} {c:M Fp} (n:Nat),nB w a b c->nB w (a.take n) (b.take n) (c.take n)
 |_,_,_,0,h=>by simp[nB]
 |[],_,_,n+1,h=>by simp only[nB]at h;simp[nB,h.1,h.2]
 |d::a,_,_,n+1,h=>by
  simp only[nB]at h;obtain⟨v,g,F,i,rfl,rfl,f,e⟩:=h;simp only[fE,nB];exact⟨v,_,F,_,rfl,rfl,f,nB.take a n e⟩
theorem nB.zt{w:World}{a b:M D}{c d:M Value}{f Gs:M Fp}(o:Nat)(h:nB w a c f)(e:nB w b d Gs):nB w (mi a o b) (mi c o d) (mi f o Gs):=by
 obtain⟨i,g⟩:=nB.length b e;unfold mi;rw[i,g];exact nB.append _ (nB.append _ (nB.take a o h) e) (nB.drop a _ h)
theorem nB.eB{w e:World}:∀(a:M D) {f:M Value} {c:M Fp},nB w a f c->(∀F∈c,∀b∈F,e.heap[b.1]?=w.heap[b.1]?)->nB e a f c
 |[],_,_,h,_=>by simpa only [nB] using h
 |d::a,_,_,h,g=>by
  simp only[nB]at h ⊢;obtain⟨v,n,F,o,rfl,rfl,m,l⟩:=h;exact⟨v,n,F,o,rfl,rfl,m.eB d (λb i j _=>World.cell?_of_block (w:=w) (g F (by simp) b i)),nB.eB a l (λG k=>g G (by simp[k]))⟩
end
section
open Go.RowKit
structure Tree where
 g:Nat
 p:Nat
 k:Nat
 n:Nat
 Fs:List Fp
 hv:List Value
 pl:List Bool
 ro:Bool
end
section
open Go.RowKit
section
variable {P:Program} {N:Nat} {t:Tree} {own:Bool} {h:Nat->Nat} {F:M Nat} {w0:World} {m:MS} {f:Fm} {w w':World}
variable {num:Nat->FuncId} {cf:Nat->M A->u (M A×M A)} {mf:Nat->Bool->M D->Int->u (M D×Int)} {K':Fm->World->Prop} {d:Nat} {ty:TypeId} {pos:String} {aft:Array Edge} {gd:u (Nat×Bool)} {m':MS}
end
end
section
open Go.RowKit
end
section
open Go.RowKit
end
section
abbrev Cf:=Nat->M A->u (M A×M A)
abbrev Mf:=Nat->Bool->M D->Int->u (M D×Int)
inductive Qu where
 |c (f:Nat) (a:List A) (r:List A×List A)
 |m (f:Nat) (g:Bool) (ds:List D) (q:Int) (r:List D×Int)
def Qu.ok(e:Cf)(b:Mf):Qu->Prop
 | .c f a r=>e f a=Z r
 | .m f g d q r=>b f g d q=Z r
abbrev CJ:=M Qu
def Told(b:Cf)(a:Mf)(L:CJ):Prop:=∀t∈L,t.ok b a
theorem Told.nil{b:Cf}{a:Mf}:Told b a []:=λ_ h=>by simp at h
theorem Told.left{c:Cf}{b:Mf}{L a:CJ}(h:Told c b (L++a)):Told c b L:=λt d=>h t (by simp[d])
theorem Told.right{c:Cf}{b:Mf}{L a:CJ}(h:Told c b (L++a)):Told c b a:=λt d=>h t (by simp[d])
theorem Told.append{d:Cf}{c:Mf}{L a:CJ}(h:Told d c L)(e:Told d c a):Told d c (L++a):=λt b=>by
 rcases aS.1 b with b|b
 ·exact h t b
 ·exact e t b
section
variable {cf:Cf} {mf:Mf}
theorem Zc{s A:St}{d:u Nat}{o:KO}(a:ky cf mf s d o=Z A):∃L,Told cf mf L/\∀(g:Cf) (i:Mf),Told g i L->ky g i s d o=Z A:=by
 cases o with
 |call f B=>
  simp only[ky,xl]at a
  split at a
  ·cases a
  ·rename_i as has
   split at a
   ·rename_i v
    split at a
    ·cases a
    ·rename_i l outs n;refine⟨[.c f as (l,outs)],λt e=>by simp at e;subst e;exact n,λg i h=>?_⟩;have j:g f as=Z (l,outs):=h (.c f as (l,outs)) (by simp);simp only[ky,xl,has,v,if_true,j];exact a
   ·cases a
 |cbx f B=>
  simp only[ky]at a
  split at a
  ·rename_i b as has
   split at a
   ·rename_i v
    split at a
    ·rename_i k n;refine⟨[.c f as ([.box k],[])],λt e=>by simp at e;subst e;exact n,λg i h=>?_⟩;have j:g f as=Z ([.box k],[]):=h (.c f as ([.box k],[])) (by simp);simp only[ky,has,v,if_true,j];exact a
    ·cases a
   ·cases a
  ·cases a
 |YF f x y=>
  simp only[ky]at a
  split at a
  ·rename_i d0 q D
   split at a
   ·rename_i w G
    split at a
    ·rename_i C
     split at a
     ·rename_i r p F;refine⟨[.m f (fX s x).isAgg w q (r,p)],λt e=>by simp at e;subst e;exact F,λg i h=>?_⟩;have j:i f (fX s x).isAgg w q=Z (r,p):=h (.m f (fX s x).isAgg w q (r,p)) (by simp);simp only[ky,D,G,C,if_true,j];exact a
     ·cases a
    ·cases a
   ·cases a
  ·cases a
 |_=>exact⟨[],Told.nil,λg i _=>a⟩
theorem Pd{s f:St}{d:u Nat}{o:KO}(c:Cq cf mf s d o=Z f):∃L,Told cf mf L/\∀(a:Cf) (b:Mf),Told a b L->Cq a b s d o=Z f:=by
 unfold Cq at c
 split at c
 ·rename_i e;exact⟨[],Told.nil,λa b _=>by simp only[Cq,e,if_true];exact c⟩
 ·rename_i e;obtain⟨L,i,g⟩:=Zc c;exact⟨L,i,λa b h=>by simp only[Cq,e];exact g a b h⟩
theorem Ik{s d:St}{i:KI}(a:vG cf mf s i=Z d):∃L,Told cf mf L/\∀(b:Cf) (c:Mf),Told b c L->vG b c s i=Z d:=by
 unfold vG at a ⊢
 split at a
 ·exact Pd a
 ·split at a
  ·split at a
   ·obtain⟨L,e,f⟩:=Pd a;exact⟨L,e,λb c h=>by simp_all⟩
   ·exact⟨[],Told.nil,λb c _=>by simp_all⟩
  ·exact⟨[],Told.nil,λb c _=>by simp_all⟩
  ·cases a
theorem GC:∀(f:M KI) {s e:St},mQ cf mf f s=Z e->∃L,Told cf mf L/\∀(c:Cf) (d:Mf),Told c d L->mQ c d f s=Z e
 |[],s,e,b=>⟨[],Told.nil,λc d _=>b⟩
 |i::f,s,e,b=>by
  simp only[mQ]at b
  split at b
  ·rename_i l g;obtain⟨L,a1,a2⟩:=Ik g;obtain⟨a,k,j⟩:=GC f b;exact⟨L++a,a1.append k,λc d h=>by simp only[mQ,a2 c d h.left,j c d h.right]⟩
  ·cases b
theorem om:∀(l:KT) {o:n_} {m:M (M Nat×Nat)} {s n:St},gQ cf mf o l m s=Z n->∃L,Told cf mf L/\∀(f:Cf) (k:Mf),Told f k L->gQ f k o l m s=Z n
 | .nil,o,m,s,n,e=>⟨[],Told.nil,λf k _=>e⟩
 | .op ⟨j,q,X,V,i⟩ l,o,m,s,n,e=>by
  simp only[gQ]at e;cases q with
  |true=>
   simp only[if_true]at e
   split at e
   ·rename_i p
    split at e
    ·rename_i c b y A;obtain⟨L,a1,a2⟩:=om l e;exact⟨L,a1,λf k h=>by simp only[gQ,if_true,p,y,A];exact a2 f k h⟩
    ·cases e
   ·rename_i g G p
    split at e
    ·rename_i b H
     split at e
     ·rename_i F
      split at e
      ·rename_i c W y A;obtain⟨L,a1,a2⟩:=om l e;exact⟨L,a1,λf k h=>by simp only[gQ,if_true,p,H,F,y,A];exact a2 f k h⟩
      ·cases e
     ·rename_i F;obtain⟨L,a1,a2⟩:=om l e;exact⟨L,a1,λf k h=>by simp only[gQ,if_true,p,H,F,if_false];exact a2 f k h⟩
    ·rename_i T;obtain⟨L,a1,a2⟩:=om l e;exact⟨L,a1,λf k h=>by simp only[gQ,if_true,p,T];exact a2 f k h⟩
    ·cases e
  |false=>
   simp only[ny,aC,if_false]at e
   split at e
   ·rename_i K B
    split at e
    ·rename_i t;obtain⟨L,a1,a2⟩:=Ik B;obtain⟨d,D,C⟩:=om l e;exact⟨L++d,a1.append D,λf k h=>by simp only[gQ,ny,aC,if_false,a2 f k h.left,t,if_true];exact C f k h.right⟩
    ·cases e
   ·cases e
 | .alt x l r,o,m,s,n,e=>by
  have w:ny cf mf x m s (gQ cf mf o l)=Z n/\gQ cf mf o r m s=Z n:=by
   simp only[gQ,both]at e
   split at e
   ·rename_i a b S Q
    split at e
    ·rename_i U;subst U;cases e;exact⟨S,Q⟩
    ·cases e
   ·cases e
  obtain⟨e,v⟩:=w;obtain⟨R,P,N⟩:=om r v;simp only[ny]at e
  split at e
  ·rename_i K B
   split at e
   ·rename_i t;obtain⟨L,a1,a2⟩:=Ik B;obtain⟨d,D,C⟩:=om l e;refine⟨(L++d)++R,(a1.append D).append P,λf k h=>?_⟩;simp only[gQ,ny,a2 f k h.left.left,t,if_true,C f k h.left.right,N f k h.right,both]
   ·cases e
  ·cases e
theorem j5:∀(k:K) {n:Nat} {s:St} {r:Ex×St},iR cf mf n k s=Z r->∃L,Told cf mf L/\∀(j:Cf) (l:Mf) (o:Nat),Told j l L->n<=o->iR j l o k s=Z r
 | .skip,n,s,r,g=>⟨[],Told.nil,λj l o _ _=>by simpa [iR] using g⟩
 | .QH is H,n,s,r,g=>by
  simp only[iR]at g
  split at g
  ·rename_i y q;obtain⟨L,a1,a2⟩:=GC is q;exact⟨L,a1,λj l o h _=>by simp only[iR,a2 j l h];exact g⟩
  ·cases g
 | .UK is H,n,s,r,g=>by
  simp only[iR]at g
  split at g
  ·rename_i y q;obtain⟨L,a1,a2⟩:=om is q;exact⟨L,a1,λj l o h _=>by simp only[iR,a2 j l h];exact g⟩
  ·cases g
 | .seq a b,n,s,r,g=>by
  simp only[iR]at g
  split at g
  ·rename_i y q;obtain⟨L,a1,a2⟩:=j5 a q;obtain⟨f,F,D⟩:=j5 b g;exact⟨L++f,a1.append F,λj l o h p=>by simp only[iR,a2 j l o h.left p];exact D j l o h.right p⟩
  ·rename_i B;obtain⟨L,a1,a2⟩:=j5 a g;refine⟨L,a1,λj l o h p=>?_⟩;simp only[iR,a2 j l o h p];obtain⟨e,w⟩:=r;cases e with
   |norm=>exact absurd g (B w)
   |_=>rfl
 | .cond x a b,n,s,r,g=>by
  simp only[iR]at g
  split at g
  ·rename_i t G;cases t with
   |true=>
    simp only[if_true]at g;obtain⟨L,a1,a2⟩:=j5 a g;exact⟨L,a1,λj l o h p=>by simp only[iR,G,if_true];exact a2 j l o h p⟩
   |false=>
    simp only[aC,if_false]at g;obtain⟨L,a1,a2⟩:=j5 b g;exact⟨L,a1,λj l o h p=>by simp only[iR,G,aC,if_false];exact a2 j l o h p⟩
  ·cases g
 | .block i a,n,s,r,g=>by
  simp only[iR]at g
  split at g
  ·rename_i S y q;obtain⟨L,a1,a2⟩:=j5 a q;exact⟨L,a1,λj l o h p=>by simp only[iR,a2 j l o h p];exact g⟩
  ·rename_i B;obtain⟨L,a1,a2⟩:=j5 a g;refine⟨L,a1,λj l o h p=>?_⟩;simp only[iR,a2 j l o h p];obtain⟨e,w⟩:=r;cases e with
   |exit i=>exact absurd g (B i w)
   |_=>rfl
 | .loop a,n,s,r,g=>by
  simp only[iR]at g;have go:∀(m:Nat) (s:St),iter (iR cf mf n a) m s=Z r->∃L,Told cf mf L/\∀(j:Cf) (l:Mf) (o v:Nat),Told j l L->n<=o->m<=v->iter (iR j l o a) v s=Z r:=by
   intro m
   induction m with
   |zero=>intro s h;simp[iter]at h
   |succ m N=>
    intro s h;simp only[iter]at h
    split at h
    ·rename_i y q;obtain⟨L,a1,a2⟩:=j5 a q;obtain⟨f,F,D⟩:=N y h;refine⟨L++f,a1.append F,λj l o v C p P=>?_⟩;obtain⟨A,rfl⟩:∃c,v=c+1:=⟨v - 1,by omega⟩
     simp only[iter,a2 j l o C.left p];exact D j l o A C.right p (by omega)
    ·rename_i B;obtain⟨L,a1,a2⟩:=j5 a h;refine⟨L,a1,λj l o v C p P=>?_⟩;obtain⟨A,rfl⟩:∃c,v=c+1:=⟨v - 1,by omega⟩
     simp only[iter,a2 j l o C p];obtain⟨e,w⟩:=r;cases e with
     |norm=>exact absurd h (B w)
     |_=>rfl
  obtain⟨L,a1,a2⟩:=go n s g;exact⟨L,a1,λj l o h p=>by simp only[iR];exact a2 j l o o h p p⟩
 | .exit i,n,s,r,g=>⟨[],Told.nil,λj l o _ _=>by simpa [iR] using g⟩
 | .ret,n,s,r,g=>⟨[],Told.nil,λj l o _ _=>by simpa [iR] using g⟩
 | .share R a,n,s,r,g=>by
  simp only[iR]at g;obtain⟨L,a1,a2⟩:=j5 a g;exact⟨L,a1,λj l o h p=>by simp only[iR];exact a2 j l o h p⟩
 | .Ci d a,n,s,r,g=>by
  simp only[iR]at g
  split at g
  ·rename_i Q hd;obtain⟨L,a1,a2⟩:=j5 a g;exact⟨L,a1,λj l o h p=>by simp only[iR,hd];exact a2 j l o h p⟩
  ·cases g
theorem Xs{n:Nat}{kf:KF}{args:M A}{r:M A×M A}(a:FM cf mf n kf args=Z r):∃L,Told cf mf L/\∀(c:Cf) (d:Mf) (b:Nat),Told c d L->n<=b->FM c d b kf args=Z r:=by
 unfold FM at a
 split at a
 ·rename_i g
  split at a
  ·rename_i s f;obtain⟨L,a1,a2⟩:=j5 kf.body f;exact⟨L,a1,λc d b h e=>by simp only[FM,g,if_true,a2 c d b h e];exact a⟩
  ·rename_i s f;obtain⟨L,a1,a2⟩:=j5 kf.body f;exact⟨L,a1,λc d b h e=>by simp only[FM,g,if_true,a2 c d b h e];exact a⟩
  ·cases a
 ·cases a
end
section
variable {cf:Cf} {mf:Mf} {own:Bool} {k:Nat}
theorem yz{m g:MS}{d f:Nat}{e:M KX}(a:Ru cf m d f e=Z g):∃L,Told cf mf L/\∀(b:Cf) (j:Mf),Told b j L->Ru b m d f e=Z g:=by
 simp only[Ru]at a
 split at a
 ·rename_i as has
  split at a
  ·rename_i r l;refine⟨[.c f as ([.val J [.d r]],[])],λt i=>by simp at i;subst i;exact l,λb j h=>?_⟩;have n:b f as=_:=h (.c f as ([.val J [.d r]],[])) (by simp);simp only[Ru,has,n];exact a
  ·cases a
 ·cases a
theorem UZ{m A:MS}{d f:Nat}{c:MC}{y:C}(a:Rs mf m d f c y=Z A):∃L,Told cf mf L/\∀(r:Cf) (b:Mf),Told r b L->Rs b m d f c y=Z A:=by
 unfold Rs at a
 split at a
 ·rename_i i o q
  split at a
  ·rename_i k s es v
   split at a
   ·rename_i x g l;refine⟨[.m f J [.list k s es] q ([x],g)],λt j=>by simp at j;subst j;exact l,λr b h=>?_⟩;have p:b f J [.list k s es] q=_:=h (.m f J [.list k s es] q ([x],g)) (by simp);simp only[Rs,v,p];exact a
   ·cases a
  ·cases a
 ·rename_i i o n q
  split at a
  ·rename_i e v
   split at a
   ·rename_i w g l;refine⟨[.m f I ((e.drop o).take n) q (w,g)],λt j=>by simp at j;subst j;exact l,λr b h=>?_⟩;have p:b f I ((e.drop o).take n) q=_:=h (.m f I ((e.drop o).take n) q (w,g)) (by simp);simp only[Rs,v,p];exact a
   ·cases a
  ·cases a
 ·cases a
theorem UX{m i:MS}{d:Nat}{o:KO}(b:Na cf mf k m d o=Z i):∃L,Told cf mf L/\∀(e:Cf) (g:Mf),Told e g L->Na e g k m d o=Z i:=by
 cases o with
 |call f h=>
  rcases h with _|⟨x,_|⟨y,_|⟨a,h⟩⟩⟩
  ·simp only[Na]at b ⊢;exact yz b
  ·simp only[Na]at b ⊢;exact yz b
  ·simp only[Na]at b ⊢;cases j:m.spx x with
   |none=>rw[j]at b;exact yz b
   |some c=>rw[j]at b;exact UZ b
  ·simp only[Na]at b ⊢;exact yz b
 |_=>exact⟨[],Told.nil,λe g _=>b⟩
theorem UY{m e:MS}{i:KI}(a:Za cf mf own k m i=Z e):∃L,Told cf mf L/\∀(b:Cf) (c:Mf),Told b c L->Za b c own k m i=Z e:=by
 obtain⟨d,o,g⟩:=i;cases g with
 |some g=>simp[Za]at a
 |none=>
  cases d with
  |some d=>exact UX a
  |none=>exact⟨[],Told.nil,λb c _=>a⟩
theorem Db:∀(f:M KI) {m e:MS},FB cf mf own k f m=Z e->∃L,Told cf mf L/\∀(c:Cf) (d:Mf),Told c d L->FB c d own k f m=Z e
 |[],m,e,b=>⟨[],Told.nil,λc d _=>b⟩
 |i::f,m,e,b=>by
  simp only[FB]at b
  split at b
  ·rename_i n g;obtain⟨L,a1,a2⟩:=UY g;obtain⟨a,l,j⟩:=Db f b;exact⟨L++a,a1.append l,λc d h=>by simp only[FB,a2 c d h.left,j c d h.right]⟩
  ·cases b
theorem lL:∀(c:K) {n:Nat} {s:MS} {r:Ex×MS},lz cf mf own k n c s=Z r->∃L,Told cf mf L/\∀(o:Cf) (p:Mf) (l:Nat),Told o p L->n<=l->lz o p own k l c s=Z r
 | .skip,n,s,r,j=>⟨[],Told.nil,λo p l _ _=>by simpa [lz] using j⟩
 | .QH is N,n,s,r,j=>by
  simp only[lz]at j
  split at j
  ·rename_i C w;obtain⟨L,a1,a2⟩:=Db is w;exact⟨L,a1,λo p l h _=>by simp only[lz,a2 o p h];exact j⟩
  ·cases j
 | .UK is N,n,s,r,j=>by simp[lz]at j
 | .seq a b,n,s,r,j=>by
  simp only[lz]at j
  split at j
  ·rename_i C w;obtain⟨L,a1,a2⟩:=lL a w;obtain⟨g,G,F⟩:=lL b j;exact⟨L++g,a1.append G,λo p l h q=>by simp only[lz,a2 o p l h.left q];exact F o p l h.right q⟩
  ·rename_i B;obtain⟨L,a1,a2⟩:=lL a j;refine⟨L,a1,λo p l h q=>?_⟩;simp only[lz,a2 o p l h q];obtain⟨e,y⟩:=r;cases e with
   |norm=>exact absurd j (B y)
   |_=>rfl
 | .cond x a b,n,s,r,j=>by
  simp only[lz]at j
  split at j
  ·rename_i t H;cases t with
   |true=>
    simp only[if_true]at j;obtain⟨L,a1,a2⟩:=lL a j;exact⟨L,a1,λo p l h q=>by simp only[lz,H,if_true];exact a2 o p l h q⟩
   |false=>
    simp only[aC,if_false]at j;obtain⟨L,a1,a2⟩:=lL b j;exact⟨L,a1,λo p l h q=>by simp only[lz,H,aC,if_false];exact a2 o p l h q⟩
  ·cases j
 | .block i a,n,s,r,j=>by
  simp only[lz]at j
  split at j
  ·rename_i S C w;obtain⟨L,a1,a2⟩:=lL a w;exact⟨L,a1,λo p l h q=>by simp only[lz,a2 o p l h q];exact j⟩
  ·rename_i B;obtain⟨L,a1,a2⟩:=lL a j;refine⟨L,a1,λo p l h q=>?_⟩;simp only[lz,a2 o p l h q];obtain⟨e,y⟩:=r;cases e with
   |exit i=>exact absurd j (B i y)
   |_=>rfl
 | .loop a,n,s,r,j=>by
  simp only[lz]at j;have go:∀(m:Nat) (s:MS),iterM (lz cf mf own k n a) m s=Z r->∃L,Told cf mf L/\∀(o:Cf) (p:Mf) (l v:Nat),Told o p L->n<=l->m<=v->iterM (lz o p own k l a) v s=Z r:=by
   intro m
   induction m with
   |zero=>intro s h;simp[iterM]at h
   |succ m P=>
    intro s h;simp only[iterM]at h
    split at h
    ·rename_i C w;obtain⟨L,a1,a2⟩:=lL a w;obtain⟨g,G,F⟩:=P C h;refine⟨L++g,a1.append G,λo p l v D q Q=>?_⟩;obtain⟨A,rfl⟩:∃f,v=f+1:=⟨v - 1,by omega⟩
     simp only[iterM,a2 o p l D.left q];exact F o p l A D.right q (by omega)
    ·rename_i B;obtain⟨L,a1,a2⟩:=lL a h;refine⟨L,a1,λo p l v D q Q=>?_⟩;obtain⟨A,rfl⟩:∃f,v=f+1:=⟨v - 1,by omega⟩
     simp only[iterM,a2 o p l D q];obtain⟨e,y⟩:=r;cases e with
     |norm=>exact absurd h (B y)
     |_=>rfl
  obtain⟨L,a1,a2⟩:=go n s j;exact⟨L,a1,λo p l h q=>by simp only[lz];exact a2 o p l l h q q⟩
 | .exit i,n,s,r,j=>⟨[],Told.nil,λo p l _ _=>by simpa [lz] using j⟩
 | .ret,n,s,r,j=>⟨[],Told.nil,λo p l _ _=>by simpa [lz] using j⟩
 | .share R a,n,s,r,j=>by simp[lz]at j
 | .Ci d a,n,s,r,j=>by simp[lz]at j
end
def afI{a:Type}(g:Nat->u a):Prop:=∀n m r,g n=Z r->n<=m->g m=Z r
open Classical in
noncomputable def lm{a:Type}(g:Nat->u a):u a:=if h:∃r n,g n=Z r then Z (Classical.choose h) else O
theorem I_{b:Type}{g:Nat->u b}(c:afI g)(r:b):lm g=Z r↔∃n,g n=Z r:=by
 unfold lm;split
 ·rename_i h;obtain⟨k,d⟩:=Classical.choose_spec h
  constructor
  ·intro e;simp only[aa]at e;exact⟨k,e▸d⟩
  ·rintro⟨n,a⟩
   have i:=c _ (max n k) _ d (by omega);have f:=c _ (max n k) _ a (by omega);rw[i]at f;exact f
 ·rename_i h
  constructor
  ·intro e;cases e
  ·rintro⟨n,a⟩;exact absurd ⟨r,n,a⟩ h
theorem ahW{a:Type}{g:Nat->u a}(c:afI g){o:u a}(e:∀r n,g n=Z r->o=Z r)(d:∀r,o=Z r->∃n,g n=Z r):lm g=o:=by
 apply Option.ext
 intro r;rw[I_ c];exact⟨λ⟨n,b⟩=>e r n b,d r⟩
section
variable (T:Nat->u KF)
theorem yy:∀(n b f:Nat) (a:M A) (r:M A×M A),Bq T n f a=Z r->n<=b->Bq T b f a=Z r
 |0,_,_,_,_,h,_=>by simp[Bq]at h
 |n+1,b,f,a,r,h,j=>by
  obtain⟨m,rfl⟩:∃m,b=m+1:=⟨b - 1,by omega⟩
  simp only[Bq]at h ⊢
  split at h
  ·cases h
  ·rename_i kf i
   split at h
   ·rename_i d;rw[if_pos d];exact h
   ·rename_i d;rw[if_neg d];obtain⟨L,a1,a2⟩:=Xs h;refine a2 (Bq T m) _ m (λt e=>?_) (by omega);have:=a1 t e;cases t with
    |c f a r=>exact yy n m _ _ _ this (by omega)
    |m f g k q r=>cases this
noncomputable def fP:Cf:=λf a=>lm λn=>Bq T n f a
theorem vS(f:Nat)(a:M A)(r:M A×M A):fP T f a=Z r↔∃n,Bq T n f a=Z r:=I_ (λn m r h b=>yy T n m f a r h b) r
def WN(cells:M D):u (M (M D)×Int)->u (M D×Int)
 |some ([zW],a)=>Z (zW,a)
 |_=>O
def WO(k:Nat)(c:Bool):u (M (M D)×Int)->u (M D×Int)
 |some (b,a)=>Z ([.list k c b],a)
 |none=>O
def runM(g:Bool->Nat->M KI->MS->u MS)(h:Bool->Nat->K->MS->u (Ex×MS))(kf:KF)(e:Bool)(cells:M D)(q:Int):u (M D×Int):=
 match kf with
 |⟨2,body,[.t r]⟩=>
   if e then (match body with
    | .seq (.QH (⟨Z b,.box (.s 0),O⟩::is) a) f=>
     (match g J cells.length is (MS.qX ⟨⟨[(1,.d (.int .i64 q))],[],[]⟩,[],[cells]⟩ b (.ep 0 0)) with
     |some m=>WN cells (S8 r (h J cells.length f (m.eB a)))
     |none=>O)
    |_=>O)
   else (match cells with
    |[.list k c es]=>WO k c (S8 r (h I k body ⟨⟨[(1,.d (.int .i64 q))],[],[]⟩,[(0,.lst)],es⟩))
    |_=>O)
 |_=>O
theorem Zb(n f:Nat)(a:Bool)(cells:M D)(q:Int):Pc T (n+1) f a cells q=match T f with
  |some kf=>runM (λown k=>FB (Bq T n) (Pc T n) own k) (λown k=>lz (Bq T n) (Pc T n) own k n) kf a cells q
  |none=>O:=by
 simp only[Pc];cases e:T f with
 |none=>rfl
 |some kf=>
  dsimp only;unfold runM;rcases kf with ⟨c,body,b⟩;dsimp only;split
  ·split
   ·split
    ·split
     ·rename_i m d;simp only[WN]
      split<;>simp_all
     ·simp_all
    ·simp_all
   ·split
    ·simp only[WO]
     split<;>simp_all
    ·simp_all
  ·simp_all
end
end
section
theorem Ef{a:Type}:∀(l:M (Nat×a)) {f:Nat} {x:a},look l f=Z x->(f,x)∈l
 |[],_,_,h=>by simp[look]at h
 |(k,y)::l,f,x,h=>by
  simp only[look]at h
  split at h
  ·rename_i e;cases h;simp[e]
  ·exact bk _ (Ef l h)
section
variable (T:Nat->u KF)
theorem Xt{o:Cf}{l:Mf}{n:Nat}{kf:KF}{x:Bool}{cells:M D}{q:Int}{r:M D×Int}(c:runM (λown k=>FB o l own k) (λown k=>lz o l own k n) kf x cells q=Z r) :
  ∃L,Told o l L/\∀(f:Cf) (g:Mf) (j:Nat),Told f g L->n<=j->runM (λown k=>FB f g own k) (λown k=>lz f g own k j) kf x cells q=Z r:=by
 unfold runM at c
 split at c
 ·rename_i body C
  split at c
  ·rename_i p
   split at c
   ·rename_i b B A y
    split at c
    ·rename_i m w;dsimp only at w c;obtain⟨L,a1,a2⟩:=Db B w;cases i:lz o l J cells.length n y (m.eB A) with
     |none=>rw[i]at c;simp[S8,WN]at c
     |some e=>
      obtain⟨a,v,t⟩:=lL y i;refine⟨L++a,a1.append v,λf g j h s=>?_⟩;simp only[runM,p,if_true,a2 f g h.left,t f g j h.right s];rw[i]at c;exact c
    ·cases c
   ·cases c
  ·rename_i p
   split at c
   ·rename_i k F es;dsimp only at c;cases i:lz o l I k n body ⟨⟨[(1,.d (.int .i64 q))],[],[]⟩,[(0,.lst)],es⟩ with
    |none=>rw[i]at c;simp[S8,WO]at c
    |some e=>
     obtain⟨a,v,t⟩:=lL body i;refine⟨a,v,λf g j h s=>?_⟩;simp only[runM,p,t f g j h s];rw[i]at c;simp only[aC,if_false];exact c
   ·cases c
 ·cases c
theorem Da:∀(n b f:Nat) (e:Bool) (d:M D) (q:Int) (r:M D×Int),Pc T n f e d q=Z r->n<=b->Pc T b f e d q=Z r
 |0,_,_,_,_,_,_,h,_=>by simp[Pc]at h
 |n+1,b,f,e,d,q,r,h,j=>by
  obtain⟨m,rfl⟩:∃m,b=m+1:=⟨b - 1,by omega⟩
  rw[Zb]at h ⊢
  split at h
  ·obtain⟨L,a1,a2⟩:=Xt h;refine a2 (Bq T m) (Pc T m) m (λt i=>?_) (by omega);have:=a1 t i;cases t with
   |c f a r=>exact yy T n m _ _ _ this (by omega)
   |m f g d q r=>exact Da n m _ _ _ _ _ this (by omega)
  ·cases h
noncomputable def ahU:Mf:=λf b a q=>lm λn=>Pc T n f b a q
theorem Wk(f:Nat)(b:Bool)(a:M D)(q:Int)(r:M D×Int):ahU T f b a q=Z r↔∃n,Pc T n f b a q=Z r:=I_ (λn m r h c=>Da T n m f b a q r h c) r
theorem Mh:∀(L:CJ),Told (fP T) (ahU T) L->∃n,∀m,n<=m->Told (Bq T m) (Pc T m) L
 |[],_=>⟨0,λm _ t i=>by simp at i⟩
 |t::L,h=>by
  obtain⟨n,k⟩:=Mh L (λt i=>h t (by simp[i]));have l:=h t (by simp);cases t with
  |c f a r=>
   obtain⟨m,j⟩:=(vS T _ _ _).1 l;refine⟨max n m,λb o d e=>?_⟩;rcases aP.1 e with rfl|e
   ·exact yy T m b _ _ _ j (by omega)
   ·exact k b (by omega) d e
  |m f g p q r=>
   obtain⟨m,j⟩:=(Wk T _ _ _ _ _).1 l;refine⟨max n m,λb o d e=>?_⟩;rcases aP.1 e with rfl|e
   ·exact Da T m b _ _ _ _ _ j (by omega)
   ·exact k b (by omega) d e
abbrev ya:Mf:=λ_ _ _ _=>O
noncomputable def ev(a:Mf)(k:K)(s:St):u (Ex×St):=lm λn=>iR (fP T) a n k s
theorem nc(a:Mf)(k:K)(s:St):∀n m r,iR (fP T) a n k s=Z r->n<=m->iR (fP T) a m k s=Z r:=λn m r h b=>by
 obtain⟨L,a1,a2⟩:=j5 k h;exact a2 _ _ m a1 b
theorem kj(a:Mf)(k:K)(s:St)(r:Ex×St):ev T a k s=Z r↔∃n,iR (fP T) a n k s=Z r:=I_ (nc T a k s) r
section
variable (mf:Mf)
theorem Dc{k:K}{s:St}{o:u (Ex×St)}(b:∀r n,iR (fP T) mf n k s=Z r->o=Z r)(a:∀r,o=Z r->∃n,iR (fP T) mf n k s=Z r):ev T mf k s=o:=ahW (nc T mf k s) b a
theorem uP{k:K}{s:St}{o:u (Ex×St)}(h:∀n,iR (fP T) mf n k s=o):ev T mf k s=o:=
 Dc T mf (λr n e=>by rw[<- h n];exact e) (λr e=>⟨0,by rw[h 0];exact e⟩)
theorem Pf(s:St):ev T mf .skip s=Z (.norm,s):=uP T mf λn=>by simp[iR]
theorem U9(s:St):ev T mf .ret s=Z (.ret,s):=uP T mf λn=>by simp[iR]
theorem Pe(i:Nat)(s:St):ev T mf (.exit i) s=Z (.exit i,s):=uP T mf λn=>by simp[iR]
def nrm(a:n_):u St->u (Ex×St)
 |some s=>Z (.norm,s.eB a)
 |none=>O
theorem U8(a:M KI)(b:n_)(s:St):ev T mf (.QH a b) s=nrm b (mQ (fP T) mf a s):=uP T mf λn=>by simp only[iR,nrm];split<;>simp_all
def ME:u St->u (Ex×St)
 |some s=>Z (.norm,s)
 |none=>O
theorem U7(a:KT)(b:n_)(s:St):ev T mf (.UK a b) s=ME (gQ (fP T) mf b a [] s):=uP T mf λn=>by simp only[iR,ME];split<;>simp_all
def JD(g:St->u (Ex×St)):u (Ex×St)->u (Ex×St)
 |some (.norm,s)=>g s
 |some (.exit i,s)=>Z (.exit i,s)
 |some (.ret,s)=>Z (.ret,s)
 |none=>O
theorem Cp{c:Cf}(n:Nat)(a b:K)(s:St):iR c mf n (.seq a b) s=JD (iR c mf n b) (iR c mf n a s):=by
 simp only[iR,JD];split
 ·rename_i h;simp only[h]
 ·rename_i h;split
  ·rename_i d e;exact absurd e (h d)
  ·simp_all
  ·simp_all
  ·simp_all
theorem U_(a b:K)(s:St):ev T mf (.seq a b) s=JD (ev T mf b) (ev T mf a s):=by
 apply Dc
 ·intro r n h;rw[Cp]at h;cases c:iR (fP T) mf n a s with
  |none=>rw[c]at h;simp[JD]at h
  |some x=>
   rw[(kj T mf a s x).2 ⟨n,c⟩];rw[c]at h;rcases x with ⟨_|i|_,d⟩
   ·exact (kj T mf b d r).2 ⟨n,h⟩
   ·exact h
   ·exact h
 ·intro r h;cases c:ev T mf a s with
  |none=>rw[c]at h;simp[JD]at h
  |some x=>
   obtain⟨n,e⟩:=(kj T mf a s x).1 c;rw[c]at h;rcases x with ⟨_|i|_,d⟩
   ·obtain⟨m,f⟩:=(kj T mf b d r).1 h;refine⟨max n m,?_⟩;rw[Cp,nc T mf a s n (max n m) _ e (by omega)];exact nc T mf b d m (max n m) _ f (by omega)
   ·exact⟨n,by rw[Cp,e];exact h⟩
   ·exact⟨n,by rw[Cp,e];exact h⟩
theorem jh(a:K)(s:St):ev T mf (.loop a) s=JD (ev T mf (.loop a)) (ev T mf a s):=by
 have one:∀(f:Cf) n m s,iter (iR f mf n a) (m+1) s=JD (iter (iR f mf n a) m) (iR f mf n a s):=by
  intro f n m s;simp only[iter,JD];split
  ·rename_i h;simp only[h]
  ·rename_i h;split
   ·rename_i c o;exact absurd o (h c)
   ·simp_all
   ·simp_all
   ·simp_all
 apply Dc
 ·intro r n h;simp only[iR]at h;cases n with
  |zero=>simp[iter]at h
  |succ n=>
   rw[one]at h;cases d:iR (fP T) mf (n+1) a s with
   |none=>rw[d]at h;simp[JD]at h
   |some x=>
    rw[(kj T mf a s x).2 ⟨n+1,d⟩];rw[d]at h;rcases x with ⟨_|i|_,c⟩
    ·refine (kj T mf (.loop a) c r).2 ⟨n+1,?_⟩;simp only[JD]at h;have:iR (fP T) mf (n+1) (.loop a) c=Z r:=by
      simp only[iR];have go:∀(m:Nat) (s:St),iter (iR (fP T) mf (n+1) a) m s=Z r->iter (iR (fP T) mf (n+1) a) (m+1) s=Z r:=by
       intro m
       induction m with
       |zero=>intro s h;simp[iter]at h
       |succ m g=>
        intro s h;rw[one]at h ⊢;cases e:iR (fP T) mf (n+1) a s with
        |none=>rw[e]at h;simp[JD]at h
        |some x=>
         rw[e]at h;rcases x with ⟨_|i|_,c⟩
         ·exact g c h
         ·exact h
         ·exact h
      exact go n c h
     exact this
    ·exact h
    ·exact h
 ·intro r h;cases d:ev T mf a s with
  |none=>rw[d]at h;simp[JD]at h
  |some x=>
   obtain⟨n,j⟩:=(kj T mf a s x).1 d;rw[d]at h;rcases x with ⟨_|i|_,c⟩
   ·obtain⟨m,l⟩:=(kj T mf (.loop a) c r).1 h;refine⟨max n m+1,?_⟩;have k:=nc T mf (.loop a) c m (max n m) _ l (by omega);simp only[iR]at k ⊢;rw[one,nc T mf a s n (max n m+1) _ j (by omega)];simp only[JD];have go:∀(b:Nat) (s:St),iter (iR (fP T) mf (max n m) a) b s=Z r->iter (iR (fP T) mf (max n m+1) a) b s=Z r:=by
     intro b
     induction b with
     |zero=>intro s h;simp[iter]at h
     |succ b g=>
      intro s h;rw[one]at h ⊢;cases e:iR (fP T) mf (max n m) a s with
      |none=>rw[e]at h;simp[JD]at h
      |some x=>
       rw[e]at h;rw[nc T mf a s (max n m) (max n m+1) x e (by omega)];rcases x with ⟨_|i|_,c⟩
       ·exact g c h
       ·exact h
       ·exact h
    exact go _ _ k
   ·refine⟨n+1,?_⟩;simp only[iR];rw[one,nc T mf a s n (n+1) _ j (by omega)];exact h
   ·refine⟨n+1,?_⟩;simp only[iR];rw[one,nc T mf a s n (n+1) _ j (by omega)];exact h
def ife(c:C)(x y:u (Ex×St)):u (Ex×St):=
 match c with
 | .d (.bool t)=>if t then x else y
 |_=>O
theorem C_{d:Cf}(n:Nat)(c:KX)(a b:K)(s:St):iR d mf n (.cond c a b) s=ife (fX s c) (iR d mf n a s) (iR d mf n b s):=by
 simp only[iR,ife];cases fX s c<;>rfl
theorem Im(c:KX)(a b:K)(s:St):ev T mf (.cond c a b) s=ife (fX s c) (ev T mf a s) (ev T mf b s):=by
 apply Dc
 ·intro r n h;rw[C_]at h;unfold ife at h ⊢
  split at h
  ·split at h
   ·rename_i d;simp only[d,if_true];exact (kj T mf _ _ _).2 ⟨n,h⟩
   ·rename_i d;simp only[d];exact (kj T mf _ _ _).2 ⟨n,h⟩
  ·cases h
 ·intro r h;unfold ife at h
  split at h
  ·rename_i t f;cases t with
   |true=>obtain⟨n,e⟩:=(kj T mf _ _ _).1 h;exact⟨n,by rw[C_,f];exact e⟩
   |false=>obtain⟨n,e⟩:=(kj T mf _ _ _).1 h;exact⟨n,by rw[C_,f];exact e⟩
  ·cases h
def YY(id:Nat):u (Ex×St)->u (Ex×St)
 |some (.norm,s)=>Z (.norm,s)
 |some (.exit i,s)=>if i=id then Z (.norm,s) else Z (.exit i,s)
 |some (.ret,s)=>Z (.ret,s)
 |none=>O
theorem GA{b:Cf}(n:Nat)(i:Nat)(a:K)(s:St):iR b mf n (.block i a) s=YY i (iR b mf n a s):=by
 simp only[iR,YY];split
 ·simp_all
 ·rename_i h;split
  ·simp_all
  ·rename_i j c d;exact absurd d (h j c)
  ·simp_all
  ·simp_all
theorem K1(i:Nat)(a:K)(s:St):ev T mf (.block i a) s=YY i (ev T mf a s):=by
 apply Dc
 ·intro r n h;rw[GA]at h;cases b:iR (fP T) mf n a s with
  |none=>rw[b]at h;simp[YY]at h
  |some x=>rw[(kj T mf a s x).2 ⟨n,b⟩];rw[b]at h;exact h
 ·intro r h;cases b:ev T mf a s with
  |none=>rw[b]at h;simp[YY]at h
  |some x=>
   obtain⟨n,c⟩:=(kj T mf a s x).1 b;rw[b]at h;exact⟨n,by rw[GA,c];exact h⟩
theorem K2(q:Nat)(a:K)(s:St):ev T mf (.share q a) s=ev T mf a (eE s [q]):=by
 apply Dc
 ·intro r n h;simp only[iR]at h;exact (kj T mf _ _ _).2 ⟨n,h⟩
 ·intro r h;obtain⟨n,b⟩:=(kj T mf _ _ _).1 h;exact⟨n,by simp only[iR];exact b⟩
theorem U6(d:Nat)(a:K)(s:St):ev T mf (.Ci d a) s=(oZ s d).bind (ev T mf a):=by
 have b:∀n,iR (fP T) mf n (.Ci d a) s=(oZ s d).bind (iR (fP T) mf n a):=by
  intro n;simp only[iR];cases oZ s d<;>rfl
 apply Dc
 ·intro r n h;rw[b]at h;cases hd:oZ s d with
  |none=>rw[hd]at h;simp at h
  |some c=>rw[hd]at h;exact (kj T mf _ _ _).2 ⟨n,h⟩
 ·intro r h;cases hd:oZ s d with
  |none=>rw[hd]at h;simp at h
  |some c=>rw[hd]at h;obtain⟨n,e⟩:=(kj T mf _ _ _).1 h;exact⟨n,by rw[b,hd];exact e⟩
def fin(kf:KF)(args:M A):u (Ex×St)->u (M A×M A)
 |some (.norm,s)=>leave kf args s
 |some (.ret,s)=>leave kf args s
 |_=>O
noncomputable def run(kf:KF)(args:M A):u (M A×M A):=if args.length=kf.np then fin kf args (ev T mf kf.body (lS 0 args ⟨[],[],[]⟩)) else O
theorem L6(a:Cf)(n:Nat)(kf:KF)(args:M A):FM a mf n kf args=if args.length=kf.np then fin kf args (iR a mf n kf.body (lS 0 args ⟨[],[],[]⟩)) else O:=by
 simp only[FM];split
 ·simp only[fin]
  split<;>simp_all
 ·rfl
theorem XY{d:Cf}{i:Mf}{L:CJ}(h:Told d ya L):Told d i L:=λt e=>by
 have b:=h t e;cases t with
 |c f a r=>exact b
 |m f g j q r=>cases b
theorem abo{d:Cf}{mf:Mf}{L:CJ}(h:Told d ya L)(i:∀f a r,d f a=Z r->fP T f a=Z r):Told (fP T) mf L:=λt e=>by
 have b:=h t e;cases t with
 |c f a r=>exact i f a r b
 |m f g j q r=>cases b
theorem Wm{f:Nat}{b:K}{r:M KR}(c:T f=Z ⟨999,b,r⟩)(args:M A):fP T f args=XT f args:=by
 apply Option.ext
 intro r;rw[vS]
 constructor
 ·rintro⟨n,a⟩
  cases n with
  |zero=>simp[Bq]at a
  |succ n=>simpa only [Bq,c,if_true] using a
 ·intro h;exact⟨1,by simpa only [Bq,c,if_true] using h⟩
theorem P0{f:Nat}{kf:KF}(l:T f=Z kf)(e:kf.np≠999)(args:M A):fP T f args=run T ya kf args:=by
 apply Option.ext
 intro r;rw[vS]
 constructor
 ·rintro⟨n,b⟩
  cases n with
  |zero=>simp[Bq]at b
  |succ n=>
   simp only[Bq,l,if_neg e]at b;rw[L6]at b;unfold run
   split at b
   ·rename_i i;rw[if_pos i];cases d:iR (Bq T n) ya n kf.body (lS 0 args ⟨[],[],[]⟩) with
    |none=>rw[d]at b;simp[fin]at b
    |some x=>
     obtain⟨L,a1,a2⟩:=j5 _ d;have j:=a2 (fP T) ya n (abo T a1 (λf a r h=>(vS T f a r).2 ⟨n,h⟩)) (by omega);rw[(kj T ya _ _ _).2 ⟨n,j⟩,<- d];exact b
   ·cases b
 ·intro h;unfold run at h
  split at h
  ·rename_i i;cases d:ev T ya kf.body (lS 0 args ⟨[],[],[]⟩) with
   |none=>rw[d]at h;simp[fin]at h
   |some x=>
    obtain⟨n,b⟩:=(kj T ya _ _ _).1 d;obtain⟨L,a1,a2⟩:=j5 _ b;obtain⟨m,o⟩:=Mh T L (XY a1);refine⟨max n m+1,?_⟩;simp only[Bq,l,if_neg e];rw[L6,if_pos i,a2 (Bq T (max n m)) ya (max n m) (λt k=>?_) (by omega),<- d]
    ·exact h
    ·have p:=a1 t k;have j:=o (max n m) (by omega) t k;cases t with
     |c f a r=>exact j
     |m f g s q r=>cases p
  ·cases h
end
variable (own:Bool) (k:Nat)
end
end
section
inductive SK where
 |int (k:IntKind) (n:Int)
 |bool (b:Bool)
 |str (s:ByteArray)
 |nil (k:Nat) (fl:Bool)
 deriving DecidableEq
def SK.d:SK->D
 | .int k n=>.int k n
 | .bool b=>.bool b
 | .str s=>.str s
 | .nil k a=>.list k a []
inductive SE where
 |v (i:Nat)
 |k (x:SK)
 |c (i j:Nat)
 deriving DecidableEq
def TM:D->u (M D)
 | .list _ _ [cs]=>Z cs
 |_=>O
def SE.d(a:M D):SE->u D
 | .v i=>nth a i
 | .k x=>Z x.d
 | .c i j=>match nth a i with
  |some x=>match TM x with
   |some b=>nth b j
   |none=>O
  |none=>O
abbrev Gs:=M (SE×Bool)
def iJ(a:M D):Gs->u Bool
 |[]=>Z I
 |(g,w)::gs=>match g.d a with
  |some (.bool b)=>if b=w then iJ a gs else Z J
  |_=>O
inductive SB where
 |d (e:SE)
 |nil (k:Nat) (fl:Bool)
 |ref (r:Nat)
 |any
 deriving DecidableEq
inductive SC where
 |b (x:SB)
 |agg (xs:List SB)
 |rf (xs:List (SB ⊕ List SB))
 |ptr (b o:Nat)
 |oO (r k:Nat) (i:SE) (o:Nat)
 |tN (i o:Nat)
 |any
 deriving DecidableEq
structure SG where
 gs:Gs
 c:SC
 deriving DecidableEq
structure SR where
 e:SE
 k:Nat
 fl:Bool
 deep:Bool
 app:Bool
 fz:Bool
 deriving DecidableEq
structure SS where
 sl:List (Nat×SG)
 bx:List (Nat×List SB)
 rw:List (Nat×SR)
 deriving DecidableEq
section
variable (ρ:M D)
def kI:SB->C->Prop
 | .d e,c=>∃x,e.d ρ=Z x/\c=.d x
 | .nil k a,c=>c=.nil k a
 | .ref r,c=>c=.ref r
 | .any,_=>True
def eR:M SB->M C->Prop
 |[],cs=>cs=[]
 |x::xs,cs=>∃c a,cs=c::a/\kI ρ x c/\eR xs a
def uw:M (SB ⊕ M SB)->M C->Prop
 |[],cs=>cs=[]
 | .inl x::xs,cs=>∃c a,cs=c::a/\kI ρ x c/\uw xs a
 | .inr l::xs,cs=>∃b a,cs=.agg b::a/\eR ρ l b/\uw xs a
def lD:SC->C->Prop
 | .b x,c=>kI ρ x c
 | .agg xs,c=>∃a,c=.agg a/\eR ρ xs a
 | .rf xs,c=>∃a,c=.rf a/\uw ρ xs a
 | .ptr b o,c=>c=.ptr b o
 | .oO r k i o,c=>∃n,i.d ρ=Z (.int .i64 n)/\c=.oO r k n.toNat o
 | .tN i o,c=>∃x a,nth ρ i=Z x/\TM x=Z a/\c=.tN (a.drop o)
 | .any,_=>True
def qg(g:SG)(c:C):Prop:=∃b,iJ ρ g.gs=Z b/\(b=I->lD ρ g.c c)/\(b=J->c=.ug)
def Yp(x:SR)(y:Row):Prop:=∃es,x.e.d ρ=Z (.list x.k x.fl es)/\y=⟨es,x.k,x.fl,x.deep,x.app,x.fz⟩
structure Rel (S:SS) (s:St):Prop where
 sl:∀d g,look S.sl d=some g->qg ρ g (s.get d)
 bx:∀b xs,look S.bx b=some xs->∃cs,look s.bx b=some cs/\eR ρ xs cs
 rw:∀r x,look S.rw r=some x->∃y,look s.rw r=some y/\Yp ρ x y
end
theorem Cx{a:Type}:∀{l m:M a} {i:Nat} {x:a},nth l i=Z x->nth (l++m) i=Z x
 |_::_,_,0,_,h=>by simpa [nth] using h
 |_::l,m,i+1,x,h=>by simp only[aq,nth]at h ⊢;exact Cx h
 |[],_,_,_,h=>by simp[nth]at h
theorem j8{a:Type}:∀(l:M a) (x:a) (m:M a),nth (l++x::m) l.length=Z x
 |[],_,_=>rfl
 |_::l,x,m=>j8 l x m
section
variable {ρ:M D} (τ:M D)
theorem SE.mono{e:SE}{x:D}(h:e.d ρ=Z x):e.d (ρ++τ)=Z x:=by
 cases e with
 |v i=>exact Cx h
 |k y=>exact h
 |c i j=>
  simp only[SE.d]at h ⊢
  split at h
  ·rename_i y a;rw[Cx a];exact h
  ·cases h
theorem kT:∀{c:Gs} {b:Bool},iJ ρ c=Z b->iJ (ρ++τ) c=Z b
 |[],_,h=>h
 |(g,w)::c,b,h=>by
  simp only[iJ]at h ⊢
  split at h
  ·rename_i t d;rw[SE.mono τ d];simp only
   split at h
   ·rename_i a;rw[if_pos a];exact kT h
   ·rename_i a;rw[if_neg a];exact h
  ·cases h
theorem kI.mono:∀{x:SB} {c:C},kI ρ x c->kI (ρ++τ) x c
 | .d e,_,⟨x,b,a⟩=>⟨x,SE.mono τ b,a⟩
 | .nil _ _,_,h=>h
 | .ref _,_,h=>h
 | .any,_,_=>trivial
theorem eR.mono:∀{a:M SB} {b:M C},eR ρ a b->eR (ρ++τ) a b
 |[],_,h=>h
 |_::_,_,⟨c,d,g,f,e⟩=>⟨c,d,g,kI.mono τ f,eR.mono e⟩
theorem uw.mono:∀{f:M (SB ⊕ M SB)} {g:M C},uw ρ f g->uw (ρ++τ) f g
 |[],_,h=>h
 | .inl _::_,_,⟨c,a,e,d,b⟩=>⟨c,a,e,kI.mono τ d,uw.mono b⟩
 | .inr _::_,_,⟨c,a,e,d,b⟩=>⟨c,a,e,eR.mono τ d,uw.mono b⟩
theorem lD.mono:∀{x:SC} {c:C},lD ρ x c->lD (ρ++τ) x c
 | .b _,_,h=>kI.mono τ h
 | .agg _,_,⟨cs,d,a⟩=>⟨cs,d,eR.mono τ a⟩
 | .rf _,_,⟨cs,d,a⟩=>⟨cs,d,uw.mono τ a⟩
 | .ptr _ _,_,h=>h
 | .oO _ _ _ _,_,⟨n,d,a⟩=>⟨n,SE.mono τ d,a⟩
 | .tN _ _,_,⟨x,cs,d,a,e⟩=>⟨x,cs,Cx d,a,e⟩
 | .any,_,_=>trivial
theorem qg.mono{g:SG}{c:C}:qg ρ g c->qg (ρ++τ) g c
 |⟨b,e,d,a⟩=>⟨b,kT τ e,λh=>(d h).mono τ,a⟩
theorem Yp.mono{x:SR}{y:Row}:Yp ρ x y->Yp (ρ++τ) x y
 |⟨es,b,a⟩=>⟨es,SE.mono τ b,a⟩
theorem Rel.mono{S:SS}{s:St}(h:Rel ρ S s):Rel (ρ++τ) S s:=
 ⟨λd g a=>(h.sl d g a).mono τ,λb f a=>(h.bx b f a).imp λ_ e=>⟨e.1,e.2.mono τ⟩,λr x a=>(h.rw r x a).imp λ_ c=>⟨c.1,c.2.mono τ⟩⟩
end
def SB.kill(i:Nat):SB->SB
 | .ref r=>if r=i then .any else .ref r
 |x=>x
def SC.kill(i:Nat):SC->SC
 | .b x=>.b (x.kill i)
 | .agg xs=>.agg (xs.map (SB.kill i))
 | .rf xs=>.rf (xs.map λ| .inl x=>.inl (x.kill i) | .inr l=>.inr (l.map (SB.kill i)))
 | .ptr q o=>if q=i then .any else .ptr q o
 | .oO r k a o=>if r=i then .any else .oO r k a o
 |x=>x
def SS.kill(S:SS)(i:Nat):SS:=⟨S.sl.map λp=>(p.1,⟨p.2.gs,p.2.c.kill i⟩),S.bx.map λp=>(p.1,p.2.map (SB.kill i)),S.rw⟩
def SS.put(S:SS)(a:u Nat)(g:SG):SS:=
 match a with
 |some d=>{S with sl:=(d,g)::S.sl }
 |none=>S
def SS.gk(S:SS)(b:Nat)(a:M SB):SS:={S with bx:=(b,a)::ru S.bx b }
def SS.setRow(S:SS)(r:Nat)(x:SR):SS:={S with rw:=(r,x)::ru S.rw r }
def SS.cQ(S:SS)(r:Nat):SS:={S with rw:=ru S.rw r }
def SS.jQ(S:SS)(b:Nat)(a:M SB):SS:=(S.kill b).gk b a
def SS.newRow(S:SS)(r:Nat)(x:SR):SS:=(S.kill r).setRow r x
def SS.eB(S:SS)(a:n_):SS:=⟨iV S.sl a.s,iV S.bx a.b,iV S.rw a.r⟩
section
variable {ρ:M D}
theorem kI.kill(i:Nat):∀{x:SB} {c:C},kI ρ x c->kI ρ (x.kill i) (c.kill i)
 | .d e,_,⟨x,b,a⟩=>by subst a;exact⟨x,b,rfl⟩
 | .nil _ _,_,h=>by simp only[kI]at h;subst h;rfl
 | .ref r,_,h=>by
  simp only[kI]at h;subst h;simp only[SB.kill,C.kill];split
  ·trivial
  ·rfl
 | .any,_,_=>trivial
theorem eR.kill(i:Nat):∀{a:M SB} {b:M C},eR ρ a b->eR ρ (a.map (SB.kill i)) (C.jD i b)
 |[],_,h=>by simp only[eR]at h;subst h;rfl
 |_::_,_,⟨c,g,f,e,d⟩=>by subst f;exact⟨_,_,rfl,e.kill i,eR.kill i d⟩
theorem uw.kill(i:Nat):∀{e:M (SB ⊕ M SB)} {f:M C},uw ρ e f->uw ρ (e.map λ| .inl x=>.inl (x.kill i) | .inr l=>.inr (l.map (SB.kill i))) (C.jD i f)
 |[],_,h=>by simp only[uw]at h;subst h;rfl
 | .inl _::_,_,⟨c,g,d,b,a⟩=>by subst d;exact⟨_,_,rfl,b.kill i,uw.kill i a⟩
 | .inr _::_,_,⟨j,g,d,b,a⟩=>by subst d;exact⟨_,_,rfl,b.kill i,uw.kill i a⟩
theorem lD.kill(i:Nat):∀{x:SC} {c:C},lD ρ x c->lD ρ (x.kill i) (c.kill i)
 | .b _,_,h=>kI.kill i h
 | .agg _,_,⟨cs,e,d⟩=>by subst e;exact⟨_,rfl,d.kill i⟩
 | .rf _,_,⟨cs,e,d⟩=>by subst e;exact⟨_,rfl,d.kill i⟩
 | .ptr b o,_,h=>by
  simp only[lD]at h;subst h;simp only[SC.kill,C.kill];split
  ·trivial
  ·rfl
 | .oO r k a o,_,⟨n,e,d⟩=>by
  subst d;simp only[SC.kill,C.kill];split
  ·trivial
  ·exact⟨n,e,rfl⟩
 | .tN _ _,_,⟨x,cs,e,d,f⟩=>by subst f;exact⟨x,cs,e,d,rfl⟩
 | .any,_,_=>trivial
theorem pq{a β:Type}(f:a->β)(l:M (Nat×a))(d:Nat):look (l.map λp=>(p.1,f p.2)) d=(look l d).map f:=by
 induction l with
 |nil=>rfl
 |cons p l b=>
  obtain⟨k,x⟩:=p;simp only[aW,look,b]
  split<;>rfl
theorem Vm(s:St)(i d:Nat):(s.kill i).get d=(s.get d).kill i:=by
 simp only[St.get,St.kill,xG];cases look s.sl d<;>rfl
variable {S:SS} {s:St}
theorem Rel.kill(h:Rel ρ S s)(i:Nat):Rel ρ (S.kill i) (s.kill i) where
 sl d g a:=by
  simp only[SS.kill]at a;rw[pq (λg:SG=>(⟨g.gs,g.c.kill i⟩:SG)),ak]at a;obtain⟨n,k,rfl⟩:=a;obtain⟨b,j,f,m⟩:=h.sl d n k;rw[Vm];exact⟨b,j,λe=>(f e).kill i,λe=>by rw[m e];rfl⟩
 bx b l a:=by
  simp only[SS.kill]at a;rw[pq (λl:M SB=>l.map (SB.kill i)),ak]at a;obtain⟨o,k,rfl⟩:=a;obtain⟨p,j,f⟩:=h.bx b o k;exact⟨_,by simp only[St.kill,xF,j];rfl,f.kill i⟩
 rw r x a:=h.rw r x a
theorem Ps(s:St)(d e:Nat)(c:C):(s.put (Z d) c).get e=if d=e then c else s.get e:=by
 simp only[St.get,St.put,look]
 split<;>rfl
theorem Rel.put(h:Rel ρ S s)(a:u Nat){g:SG}{c:C}(i:qg ρ g c):Rel ρ (S.put a g) (s.put a c):=by
 cases a with
 |none=>exact h
 |some d=>exact {
   sl:=λe j b=>by
    simp only[SS.put,look]at b;rw[Ps]
    split at b
    ·rename_i f;cases b;rw[if_pos f];exact i
    ·rename_i f;rw[if_neg f];exact h.sl e j b
   bx:=h.bx
   rw:=h.rw }
theorem qg.nil{c:SC}{x:C}(h:lD ρ c x):qg ρ ⟨[],c⟩ x:=⟨I,rfl,λ_=>h,λh=>by cases h⟩
theorem Rel.gk(h:Rel ρ S s)(b:Nat){i:M SB}{f:M C}(j:eR ρ i f):Rel ρ (S.gk b i) (s.gk b f) where
 sl d g a:=h.sl d g a
 bx e ys a:=by
  simp only[SS.gk,look,St.gk,fg]at a ⊢
  split at a
  ·rename_i c;cases a;exact⟨f,by rw[if_pos c],j⟩
  ·rename_i c;rw[if_neg c,if_neg c];exact h.bx e ys a
 rw r x a:=h.rw r x a
theorem Rel.setRow(h:Rel ρ S s)(r:Nat){x:SR}{y:Row}(f:Yp ρ x y):Rel ρ (S.setRow r x) (s.setRow r y) where
 sl d g b:=h.sl d g b
 bx e ys b:=h.bx e ys b
 rw q a b:=by
  simp only[SS.setRow,look,St.setRow,fg]at b ⊢
  split at b
  ·rename_i c;cases b;exact⟨y,by rw[if_pos c],f⟩
  ·rename_i c;rw[if_neg c,if_neg c];exact h.rw q a b
theorem Rel.cQ(h:Rel ρ S s)(r:Nat):Rel ρ (S.cQ r) (s.cQ r) where
 sl d g b:=h.sl d g b
 bx e ys b:=h.bx e ys b
 rw q a b:=by
  simp only[SS.cQ,St.cQ,fg]at b ⊢
  split at b
  ·cases b
  ·rename_i c;rw[if_neg c];exact h.rw q a b
theorem Rel.jQ(h:Rel ρ S s)(b:Nat){a:M SB}{c:M C}(d:eR ρ a c):Rel ρ (S.jQ b a) (s.jQ b c):=(h.kill b).gk b d
theorem Rel.newRow(h:Rel ρ S s)(r:Nat){x:SR}{y:Row}(a:Yp ρ x y):Rel ρ (S.newRow r x) (s.newRow r y):=(h.kill r).setRow r a
theorem i_{b:Type}(l:M (Nat×b)):∀(a:M Nat) {e:Nat} {x:b},look (iV l a) e=Z x->look l e=Z x/\e∈a
 |[],_,_,h=>by simp[iV,look]at h
 |d::a,e,x,h=>by
  unfold iV at h;cases hd:look l d with
  |none=>rw[hd]at h;have:=i_ l a h;exact⟨this.1,bk _ this.2⟩
  |some y=>
   rw[hd]at h;simp only[look]at h
   split at h
   ·rename_i c;subst c;cases h;exact⟨hd,aU⟩
   ·have:=i_ l a h;exact⟨this.1,bk _ this.2⟩
theorem rX{f:Type}(l:M (Nat×f)):∀(a:M Nat) {e:Nat} {x:f},look l e=Z x->e∈a->look (iV l a) e=Z x
 |[],_,_,_,h=>by cases h
 |d::a,e,x,h,g=>by
  unfold iV;by_cases hd:d=e
  ·subst hd;rw[h];simp[look]
  ·have b:e∈a:=by
    rcases aP.1 g with c|c
    ·exact absurd c.symm hd
    ·exact c
   cases look l d with
   |none=>exact rX l a h b
   |some y=>simp only[look,if_neg hd];exact rX l a h b
theorem Dy(s:St)(a:n_){d:Nat}(h:d∈a.s):(s.eB a).get d=s.get d:=by
 simp only[St.get,St.eB];cases b:look s.sl d with
 |some x=>rw[rX _ _ b h]
 |none=>
  cases c:look (iV s.sl a.s) d with
  |none=>rfl
  |some x=>rw[(i_ _ _ c).1]at b;cases b
theorem Rel.eB(h:Rel ρ S s)(f:n_):Rel ρ (S.eB f) (s.eB f) where
 sl d g a:=by
  obtain⟨e,c⟩:=i_ _ _ a;rw[Dy s f c];exact h.sl d g e
 bx b xs a:=by
  obtain⟨e,c⟩:=i_ _ _ a;obtain⟨k,j,i⟩:=h.bx b xs e;exact⟨k,rX _ _ j c,i⟩
 rw r x a:=by
  obtain⟨e,c⟩:=i_ _ _ a;obtain⟨y,j,i⟩:=h.rw r x e;exact⟨y,rX _ _ j c,i⟩
end
end
section
inductive PO where
 |OX (o:Nat)
 |has (n:Nat)
 |bin (op:BinOp)
 |TL (op:BinOp)
 |not
 |neg
 |conv (k:IntKind)
 |len
 |sln
 |min
 |max
 |XA
 |el (k:Nat)
 |FA
 |Gv (k o n:Nat) (deep:Bool)
 |ite
 |MI (hi:Bool)
 |v8 (k:Nat) (hi:Bool)
 |Mw
 |mW (k:Nat) (fl:Bool)
 |make (k by_:Nat) (fl:Bool) (zs:List SK)
 |app (k by_:Nat)
 |set (o:Nat)
 |cut (hi:Bool)
 |Gn
 |jnl
 |jnb
 |zt (ins:Bool)
 |lst (k:Nat) (fl:Bool)
 |tru
 |pl
 |LJ
 deriving DecidableEq
def dI:D->u Nat
 | .int .i64 n=>if 0<=n then Z n.toNat else O
 |_=>O
def chunk(k:Nat):Nat->M D->u (M (M D))
 |0,[]=>Z []
 |0,_=>O
 |m+1,xs=>if k<=xs.length then (chunk k m (xs.drop k)).map (xs.take k::·) else O
def asD:u C->u D
 |some (.d x)=>Z x
 |_=>O
def aK:PO->M D->u D
 | .OX o,[x]=>match TM x with
  |some l=>nth l o
  |none=>O
 | .has n,[x]=>match TM x with
  |some l=>if n<=l.length then Z (.bool J) else O
  |none=>O
 | .bin op,[x,y]=>asD (Kf op (.d x) (.d y))
 | .TL op,[.bool a,.bool b]=>Ul op a b
 | .not,[.bool b]=>Z (.bool (!b))
 | .neg,[.int k a]=>Z (.int k (k.wrap (-a)))
 | .conv k,[.int _ a]=>Z (.int k (k.wrap a))
 | .len,[.list _ _ es]=>Z (.int .i64 es.length)
 | .sln,[.str t]=>Z (.int .i64 t.size)
 | .min,[.int .i64 a,.int .i64 b]=>Z (.int .i64 (if b < a then b else a))
 | .max,[.int .i64 a,.int .i64 b]=>Z (.int .i64 (if a < b then b else a))
 | .XA,[.str t,.int .i64 n]=>if 0<=n/\n.toNat < t.size then Z (.int .u8 (cr t n.toNat)) else O
 | .el k,[.list g _ es,.int .i64 n]=>if 0<=n/\g=k then (nth es n.toNat).map λe=>.list 0 J [e] else O
 | .FA,[.list _ _ es,.int .i64 n]=>if 0<=n/\n.toNat < es.length then Z (.bool J) else O
 | .Gv k o n deep,[.list g _ es,.int .i64 i]=>match nth es i.toNat with
  |some e=>if g=k/\o+n<=k/\o+n<=e.length/\(cD ((e.drop o).take n) ||!deep)=I then Z (.list 0 J [e]) else O
  |none=>O
 | .ite,[.bool b,x,y]=>Z (if b then x else y)
 | .MI J,[.str t,h]=>match dI h with
  |some a=>if a<=t.size then Z (.str (t.extract a t.size)) else O
  |none=>O
 | .MI I,[.str t,h,p]=>match dI h,dI p with
  |some a,Z b=>if a<=b/\b<=t.size then Z (.str (t.extract a b)) else O
  |_,_=>O
 | .v8 k J,[.list g c es,h]=>match dI h with
  |some a=>if g=k/\a<=es.length then Z (.list g c (es.drop a)) else O
  |none=>O
 | .v8 k I,[.list g c es,h,p]=>match dI h,dI p with
  |some a,Z b=>if g=k/\a<=b/\b<=es.length then Z (.list g c ((es.take b).drop a)) else O
  |_,_=>O
 | .Mw,[.list 1 _ es]=>(bytesOf es).map λj=>.str ⟨(j.map λn=>dX n.toNat).toArray⟩
 | .mW k c,j=>if j.length % k=0 then match chunk k (j.length / k) j with
   |some es=>if c=I->es.all cD=I then Z (.list k c es) else O
   |none=>O
  else O
 | .make k m c w,[.int .i64 n]=>if 0<=n/\n.toNat * m<=room/\n<=4611686018427387904 then Z (.list k c (bc n.toNat (w.map SK.d))) else O
 | .app k m,[.list B v es,.list A C f]=>if B=k/\A=k/\v=C/\(es.length+f.length) * m<=room/\es.length+f.length<=maxLen then Z (.list k v (es++f)) else O
 | .set o,.list k c es::.int .i64 i::r=>match nth es i.toNat with
  |some e=>if o+r.length<=k/\(c=I->cD r=I) then Z (.list k c (es.set i.toNat (mi e o r))) else O
  |none=>O
 | .cut J,[.list k c es,h]=>match dI h with
  |some a=>if a<=es.length then Z (.list k c (es.drop a)) else O
  |none=>O
 | .cut I,[.list k c es,h,p]=>match dI h,dI p with
  |some a,Z b=>if a<=b/\b<=es.length then Z (.list k c ((es.take b).drop a)) else O
  |_,_=>O
 | .Gn,[.list k c es,.list g q f]=>if g=k/\q=I/\c=I/\f.length=es.length then Z (.list k c f) else O
 | .jnl,[.list k c es,.list g _ f]=>if k=1/\g=1/\c=I/\f.length=es.length/\f≠[] then (match lk es,lk f with
   |some s,Z l=>Z (.list 1 I ((dM s l).map λb=>[D.bool b]))
   |_,_=>O) else O
 | .jnb,[.list _ _ es,.list _ _ f]=>match lk es,lk f with
   |some s,Z l=>Z (.bool (nd s l))
   |_,_=>O
 | .zt J,[.list k c es,.int .i64 a,.int .i64 b]=>if 0<=a/\a < b/\b<=es.length/\es.length * 56<=room then Z (.list k c (es.take a.toNat++es.drop b.toNat)) else O
 | .zt I,[.list k c es,.int .i64 a,.list _ _ f]=>if 0<=a/\a<=es.length/\f≠[]/\(es.length+f.length) * 56<=room then Z (.list k c (es.take a.toNat++f++es.drop a.toNat)) else O
 | .lst k c,[.list g q es]=>if g=k/\q=c then Z (.list k c es) else O
 | .tru,[.bool b]=>Z (.bool b)
 | .pl,j=>if cD j=I then Z (.bool J) else O
 | .LJ,j=>if cD j=I then O else Z (.bool J)
 |_,_=>O
def iT(a:M D):M SE->u (M D)
 |[]=>Z []
 |e::es=>match e.d a with
  |some x=>(iT a es).map (x::·)
  |none=>O
abbrev Bs:=M (PO×M SE)
def kC(a:M D):Bs->u (M D)
 |[]=>Z a
 |(o,es)::c=>match iT a es with
  |some b=>match aK o b with
   |some x=>kC (a++[x]) c
   |none=>O
  |none=>O
def fZ(S:SS)(a:Gs):KX->u SC
 | .s d=>match look S.sl d with
  |some g=>if g.gs.all (λp=>Z' (p∈a)) then Z g.c else O
  |none=>O
 | .k (.d (.int k n))=>Z (.b (.d (.k (.int k n))))
 | .k (.d (.bool b))=>Z (.b (.d (.k (.bool b))))
 | .k (.d (.str t))=>Z (.b (.d (.k (.str t))))
 | .k (.nil k e)=>Z (.b (.nil k e))
 | .k .any=>Z .any
 |_=>O
def sD:u SC->u SE
 |some (.b (.d e))=>Z e
 |_=>O
section
variable {ρ:M D} {S:SS} {s:St} {gs:Gs}
theorem nO:∀{gs:Gs},iJ ρ gs=Z I->∀p∈gs,p.1.d ρ=Z (.bool p.2)
 |[],_,_,a=>by cases a
 |(g,w)::gs,h,p,a=>by
  simp only[iJ]at h
  split at h
  ·rename_i b e
   split at h
   ·rename_i c;subst c;rcases aP.1 a with rfl|a
    ·exact e
    ·exact nO h p a
   ·cases h
  ·cases h
theorem GM:∀{gs:Gs},(∀p∈gs,p.1.d ρ=Z (.bool p.2))->iJ ρ gs=Z I
 |[],_=>rfl
 |(g,w)::gs,h=>by
  have a:=h (g,w) (by simp);simp only at a
  simp only[iJ,a,if_true];exact GM λp b=>h p (by simp[b])
theorem Ng{gs a:Gs}(h:iJ ρ gs=Z I)(b:a.all (λp=>Z' (p∈gs))=I):iJ ρ a=Z I:=
 GM λp c=>nO h p (by simpa using bg.1 b p c)
theorem cH(h:Rel ρ S s)(j:iJ ρ gs=Z I){x:KX}{c:SC}(a:fZ S gs x=Z c):lD ρ c (fX s x):=by
 unfold fZ at a
 split at a
 ·rename_i d
  split at a
  ·rename_i g i
   split at a
   ·rename_i f;cases a;obtain⟨b,e,k,_⟩:=h.sl d g i;rw[Ng j f]at e;cases e;exact k rfl
   ·cases a
  ·cases a
 ·cases a;exact⟨_,rfl,rfl⟩
 ·cases a;exact⟨_,rfl,rfl⟩
 ·cases a;exact⟨_,rfl,rfl⟩
 ·cases a;rfl
 ·cases a;trivial
 ·cases a
theorem lN(h:Rel ρ S s)(b:iJ ρ gs=Z I){x:KX}{e:SE}(a:sD (fZ S gs x)=Z e):∃y,e.d ρ=Z y/\fX s x=.d y:=by
 unfold sD at a
 split at a
 ·rename_i f c;cases a;exact cH h b c
 ·cases a
theorem fv{e:SE}{a:M D}(h:iT ρ [e]=Z a):∃x,e.d ρ=Z x/\a=[x]:=by
 simp only[iT]at h
 split at h
 ·rename_i x b;simp only[aH,aa]at h;exact⟨x,b,h.symm⟩
 ·cases h
theorem dx{e:SE}{es:M SE}{a:M D}(h:iT ρ (e::es)=Z a):∃x ys,e.d ρ=Z x/\iT ρ es=Z ys/\a=x::ys:=by
 simp only[iT]at h
 split at h
 ·rename_i x b;simp only[ak]at h;obtain⟨ys,f,c⟩:=h;exact⟨x,ys,b,f,c.symm⟩
 ·cases h
theorem eN{o:PO}{es:M SE}{b:M D}(h:kC ρ [(o,es)]=Z b):∃a x,iT ρ es=Z a/\aK o a=Z x/\b=ρ++[x]:=by
 simp only[kC]at h
 split at h
 ·rename_i a d
  split at h
  ·rename_i x c;cases h;exact⟨a,x,d,c,rfl⟩
  ·cases h
 ·cases h
theorem oA:∀{c:Bs} {ρ a:M D},kC ρ c=Z a->∃b,a=ρ++b
 |[],ρ,a,h=>by cases h;exact⟨[],by simp⟩
 |(o,es)::c,ρ,a,h=>by
  simp only[kC]at h
  split at h
  ·split at h
   ·rename_i x e;obtain⟨b,d⟩:=oA h;exact⟨x::b,by rw[d];simp⟩
   ·cases h
  ·cases h
end
end
section
def SC.cells:SC->u (M SB)
 | .b x=>Z [x]
 | .agg xs=>Z xs
 |_=>O
def SB.cell:SB->Bool
 | .any=>J
 |_=>I
def aa4{a:Type}(l:M a)(o:Nat)(n:M a):M a:=l.take o++n++l.drop (o+n.length)
def uH:C->u SB
 | .d (.int k n)=>Z (.d (.k (.int k n)))
 | .d (.bool b)=>Z (.d (.k (.bool b)))
 | .d (.str t)=>Z (.d (.k (.str t)))
 | .nil k a=>Z (.nil k a)
 |_=>O
def CB(S:SS)(d:Gs)(a:M SB):M (Nat×Nat×KX)->u (M SB)
 |[]=>Z a
 |(o,n,x)::e=>match fZ S d x with
  |some c=>match c.cells with
   |some b=>if b.length=n/\o+n<=a.length/\b.all SB.cell=I then CB S d (aa4 a o b) e else O
   |none=>O
  |none=>O
def Cg(i o:Nat):Nat->M SB
 |0=>[]
 |n+1=>.d (.c i o)::Cg i (o+1) n
def vN(n:Nat):SC:=.b (.d (.v n))
def LU(n:Nat)(o:PO):M (u SE)->u (Bs×SC)
 |[Z a]=>Z ([(o,[a])],vN n)
 |[Z a,Z b]=>Z ([(o,[a,b])],vN n)
 |[Z a,Z b,Z c]=>Z ([(o,[a,b,c])],vN n)
 |_=>O
def uC(S:SS)(a:Gs):u KX->u SE
 |none=>Z (.k (.int .i64 0))
 |some x=>sD (fZ S a x)
def aba(S:SS)(a:Gs)(n:Nat):KO->u (Bs×SC)
 | .mv x=>(fZ S a x).map λc=>([],c)
 | .pick c x y=>match sD (fZ S a c) with
  |some e=>if (e,I)∈a then (fZ S a x).map λc=>([],c) else if (e,J)∈a then (fZ S a y).map λc=>([],c)
   else LU n .ite [Z e,sD (fZ S ((e,I)::a) x),sD (fZ S ((e,J)::a) y)]
  |none=>O
 | .build t w=>match gJ uH t with
  |some s=>(CB S a s w).map λl=>([],.agg l)
  |none=>O
 | .ld m x=>match fZ S a x with
  |some (.ptr b o)=>match look S.bx b with
   |some f=>if m=0 then (nth f o).map λy=>([],.b y) else if o+m<=f.length then Z ([],.agg ((f.drop o).take m)) else O
   |none=>O
  |some (.tN i o)=>if m=0 then Z ([(.OX o,[.v i])],vN n) else Z ([(.has (o+m),[.v i])],.agg (Cg i o m))
  |some (.oO r k i o)=>match look S.rw r with
   |some row=>if row.k=k then (if m=0 then Z ([(.Gv k o 1 row.deep,[row.e,i]),(.OX o,[.v n])],vN (n+1)) else Z ([(.Gv k o m row.deep,[row.e,i])],.agg (Cg n o m))) else O
   |none=>O
  |_=>O
 | .fa o x=>match fZ S a x with
  |some (.ptr b p)=>Z ([],.ptr b (p+o))
  |some (.tN i p)=>Z ([],.tN i (p+o))
  |some (.oO r k i p)=>Z ([],.oO r k i (p+o))
  |_=>O
 | .ia k x i=>match fZ S a x,sD (fZ S a i) with
  |some (.b (.d e)),Z j=>Z ([(.el k,[e,j])],.tN n 0)
  |some (.b (.ref r)),Z j=>match look S.rw r with
   |some row=>if row.k=k then Z ([(.FA,[row.e,j])],.oO r k j 0) else O
   |none=>O
  |_,_=>O
 | .XA x i=>LU n .XA [sD (fZ S a x),sD (fZ S a i)]
 | .bin op x y=>LU n (.bin op) [sD (fZ S a x),sD (fZ S a y)]
 | .TL op x y=>LU n (.TL op) [sD (fZ S a x),sD (fZ S a y)]
 | .not x=>LU n .not [sD (fZ S a x)]
 | .neg x=>LU n .neg [sD (fZ S a x)]
 | .conv k x=>LU n (.conv k) [sD (fZ S a x)]
 | .len x=>match fZ S a x with
  |some (.b (.d e))=>Z ([(.len,[e])],vN n)
  |some (.b (.nil _ _))=>Z ([],.b (.d (.k (.int .i64 0))))
  |some (.b (.ref r))=>match look S.rw r with
   |some row=>Z ([(.len,[row.e])],vN n)
   |none=>O
  |_=>O
 | .sln x=>LU n .sln [sD (fZ S a x)]
 | .min x y=>LU n .min [sD (fZ S a x),sD (fZ S a y)]
 | .max x y=>LU n .max [sD (fZ S a x),sD (fZ S a y)]
 | .ext x i=>match fZ S a x with
  |some (.rf f)=>match nth f i with
   |some (.inl y)=>Z ([],.b y)
   |some (.inr l)=>Z ([],.agg l)
   |none=>O
  |_=>O
 | .slc x q=>LU n (.cut I) [sD (fZ S a x),Z (.k (.int .i64 0)),sD (fZ S a q)]
 | .MI x g q=>match q with
  |none=>LU n (.MI J) [sD (fZ S a x),uC S a g]
  |some h=>LU n (.MI I) [sD (fZ S a x),uC S a g,sD (fZ S a h)]
 | .v8 k x g q=>match q with
  |none=>LU n (.v8 k J) [sD (fZ S a x),uC S a g]
  |some h=>LU n (.v8 k I) [sD (fZ S a x),uC S a g,sD (fZ S a h)]
 | .nck x=>match fZ S a x with
  |some (.ptr b o)=>Z ([],.ptr b o)
  |some (.tN i o)=>Z ([],.tN i o)
  |some (.oO r k i o)=>Z ([],.oO r k i o)
  |_=>O
 | .Mw x=>match fZ S a x with
  |some (.b (.ref r))=>match look S.rw r with
   |some row=>if row.k=1 then Z ([(.Mw,[row.e])],vN n) else O
   |none=>O
  |_=>O
 |_=>O
section
variable {ρ iy:M D} {S:SS} {s:St} {gs:Gs} {bs:Bs} {c:SC}
theorem eR.nth:∀{xs:M SB} {b:M C} {i:Nat} {x:SB},eR ρ xs b->nth xs i=Z x->∃c,nth b i=Z c/\kI ρ x c
 |_::_,_,0,_,⟨c,_,a,e,_⟩,h=>by cases h;subst a;exact⟨c,rfl,e⟩
 |_::xs,_,i+1,_,⟨_,b,a,_,d⟩,h=>by subst a;exact eR.nth (xs:=xs) (i:=i) d h
 |[],_,_,_,_,h=>by cases h
theorem eR.len:∀{a:M SB} {b:M C},eR ρ a b->b.length=a.length
 |[],_,h=>by simp only[eR]at h;subst h;rfl
 |_::_,_,⟨_,_,e,_,d⟩=>by subst e;simp[eR.len d]
theorem eR.drop:∀(n:Nat) {a:M SB} {b:M C},eR ρ a b->eR ρ (a.drop n) (b.drop n)
 |0,_,_,h=>h
 |_+1,[],_,h=>by simp only[eR]at h;subst h;rfl
 |n+1,_::_,_,⟨_,_,e,_,d⟩=>by subst e;exact eR.drop n d
theorem eR.take:∀(n:Nat) {a:M SB} {b:M C},eR ρ a b->eR ρ (a.take n) (b.take n)
 |0,_,_,_=>rfl
 |_+1,[],_,h=>by simp only[eR]at h;subst h;rfl
 |n+1,_::_,_,⟨c,_,f,e,d⟩=>by subst f;exact⟨c,_,rfl,e,eR.take n d⟩
theorem eR.app:∀{b ys:M SB} {e d:M C},eR ρ b e->eR ρ ys d->eR ρ (b++ys) (e++d)
 |[],_,_,_,h,a=>by simp only[eR]at h;subst h;exact a
 |_::_,_,_,_,⟨c,_,i,g,f⟩,a=>by subst i;exact⟨c,_,rfl,g,eR.app f a⟩
theorem eR.zt(o:Nat){a ys:M SB}{e d:M C}(h:eR ρ a e)(b:eR ρ ys d):eR ρ (aa4 a o ys) (mi e o d):=by
 unfold aa4 mi;rw[b.len];exact ((h.take o).app b).app (h.drop _)
theorem kI.cell{x:SB}{c:C}(h:kI ρ x c)(a:x.cell=I):c.cell=I:=by
 cases x with
 |d e=>obtain⟨y,_,rfl⟩:=h;rfl
 |nil k b=>simp only[kI]at h;subst h;rfl
 |ref r=>simp only[kI]at h;subst h;rfl
 |any=>cases a
theorem eR.cell:∀{a:M SB} {b:M C},eR ρ a b->a.all SB.cell=I->b.all C.cell=I
 |[],_,h,_=>by simp only[eR]at h;subst h;rfl
 |_::_,_,⟨_,_,f,e,d⟩,h=>by
  subst f;simp only[bJ,af]at h ⊢;exact⟨e.cell h.1,eR.cell d h.2⟩
theorem lD.cells{x:SC}{c:C}{a:M SB}(h:lD ρ x c)(d:x.cells=Z a)(e:a.all SB.cell=I):eR ρ a c.cells:=by
 cases x with
 |b y=>
  cases d;simp only[bJ,List.all_nil,ed]at e;refine⟨c,[],?_,h,rfl⟩;have:=kI.cell h e;cases c<;>simp_all[C.cell,C.cells]
 |agg ys=>
  cases d;obtain⟨g,rfl,f⟩:=h;exact f
 |_=>cases d
theorem M4{a:C}{x:SB}(h:uH a=Z x):kI ρ x a:=by
 unfold uH at h
 split at h<;>first|(cases h;exact⟨_,rfl,rfl⟩)|(cases h;rfl)|cases h
theorem xh:∀{b:M C} {d:M SB},gJ uH b=Z d->eR ρ d b
 |[],_,h=>by simp only[gJ,aa]at h;subst h;rfl
 |a::b,d,h=>by
  simp only[gJ]at h
  split at h
  ·rename_i y e;simp only[ak]at h;obtain⟨ys,f,rfl⟩:=h;exact⟨a,b,rfl,M4 e,xh f⟩
  ·cases h
theorem BP(h:Rel ρ S s)(k:iJ ρ gs=Z I):∀(e:M (Nat×Nat×KX)) {d l:M SB} {b:M C},CB S gs d e=Z l->eR ρ d b->∃f,Br b (e.map λp=>(p.1,p.2.1,(fX s p.2.2).cells))=Z f/\eR ρ l f
 |[],d,l,b,a,g=>by cases a;exact⟨b,rfl,g⟩
 |(o,n,x)::e,d,l,b,a,g=>by
  simp only[CB]at a
  split at a
  ·rename_i c r
   split at a
   ·rename_i ys q
    split at a
    ·rename_i j;obtain⟨j,w,m⟩:=j;have i:=(cH h k r).cells q m;obtain⟨f,v,t⟩:=BP h k e a (g.zt o i);refine⟨f,?_,t⟩;simp only[aW,Br];rw[if_pos ⟨by rw[i.len,j],by rw[g.len];exact w,i.cell m⟩];exact v
    ·cases a
   ·cases a
  ·cases a
theorem uD{i:Nat}{x:D}{a:M D}(b:nth ρ i=Z x)(f:TM x=Z a):∀(n o:Nat),o+n<=a.length->eR ρ (Cg i o n) (((a.drop o).take n).map .d)
 |0,o,_=>rfl
 |n+1,o,h=>by
  have e:o < a.length:=by omega
  rw[sw e,fE,aW];exact⟨_,_,rfl,⟨a[o],by simp only[SE.d,b,f,fU];simp[e],rfl⟩,uD b f n (o+1) (by omega)⟩
theorem g_{n:Nat}{o:PO}{l:M (u SE)}(h:LU n o l=Z (bs,c))(e:n=ρ.length)(f:kC ρ bs=Z iy):∃es a x,l=es.map Z/\iT ρ es=Z a/\aK o a=Z x/\iy=ρ++[x]/\lD iy c (.d x):=by
 have fin:∀{es:M SE},bs=[(o,es)]->c=vN n->l=es.map Z->∃es a x,l=es.map Z/\iT ρ es=Z a/\aK o a=Z x/\iy=ρ++[x]/\lD iy c (.d x):=by
  intro es m k j;subst m k;obtain⟨a,x,i,g,b⟩:=eN f;refine⟨es,a,x,j,i,g,b,?_⟩;subst b e;exact⟨x,j8 ρ x [],rfl⟩
 unfold LU at h
 split at h
 ·simp only[aa,aA]at h;exact fin h.1.symm h.2.symm rfl
 ·simp only[aa,aA]at h;exact fin h.1.symm h.2.symm rfl
 ·simp only[aa,aA]at h;exact fin h.1.symm h.2.symm rfl
 ·cases h
theorem opD(h:Rel ρ S s)(g:iJ ρ gs=Z I):∀(b:M KX) {es:M SE} {ys:M D},b.map (λx=>sD (fZ S gs x))=es.map Z->iT ρ es=Z ys->b.map (fX s)=ys.map .d
 |[],es,ys,a,f=>by
  have:es=[]:=by simpa using a.symm
  subst this;cases f;rfl
 |x::b,[],ys,a,f=>by simp at a
 |x::b,e::es,ys,a,f=>by
  simp only[aW,bZ]at a;obtain⟨y,m,l,k,rfl⟩:=dx f;obtain⟨n,i,j⟩:=lN h g a.1;rw[l]at i;cases i;simp only[aW,j,opD h g b a.2 k]
theorem aap(h:Rel ρ S s)(g:iJ ρ gs=Z I){x:KX}{es:M SE}{e:M D}(f:[sD (fZ S gs x)]=es.map Z)(i:iT ρ es=Z e):∃a,e=[a]/\fX s x=.d a:=by
 have:=opD h g [x] f i;rcases e with _|⟨a,_|⟨b,l⟩⟩
 ·simp at this
 ·simp_all
 ·simp at this
theorem X1(h:Rel ρ S s)(g:iJ ρ gs=Z I){x y:KX}{es:M SE}{e:M D}(f:[sD (fZ S gs x),sD (fZ S gs y)]=es.map Z)(i:iT ρ es=Z e):∃a b,e=[a,b]/\fX s x=.d a/\fX s y=.d b:=by
 have:=opD h g [x,y] f i;rcases e with _|⟨a,_|⟨b,_|⟨c,l⟩⟩⟩
 ·simp at this
 ·simp at this
 ·simp_all
 ·simp at this
theorem Jy(h:Rel ρ S s)(l:iJ ρ gs=Z I){lo:u KX}{e:SE}{x:D}{a:Nat}(f:uC S gs lo=Z e)(g:e.d ρ=Z x)(hd:dI x=Z a):∀b,(lo=O->b=0)->sa s lo b=Z a:=by
 intro b j;cases lo with
 |none=>
  simp only[uC,aa]at f;subst f;cases g;simp only[SK.d,dI]at hd;simp only[sa,j rfl]
  simpa using hd
 |some y=>
  obtain⟨v,i,n⟩:=lN h l f;rw[g]at i;cases i;simp only[sa,n];cases x with
  |int k m=>cases k<;>simp_all[dI]
  |_=>simp[dI]at hd
theorem lr{es:M SE}{a:M D}(h:iT ρ es=Z a):a.length=es.length:=by
 induction es generalizing a with
 |nil=>cases h;rfl
 |cons e es b=>
  obtain⟨x,ys,_,d,rfl⟩:=dx h;simp[b d]
theorem EU(h:Rel ρ S s)(G:iJ ρ gs=Z I){n:Nat}(R:n=ρ.length){o:KO}(g:aba S gs n o=Z (bs,c))(H:kC ρ bs=Z iy):∃v,jm s o=Z v/\lD iy c v:=by
 unfold aba at g
 split at g
 ·
  simp only[ak,aA]at g;obtain⟨c',A,rfl,rfl⟩:=g;cases H;exact⟨_,rfl,cH h G A⟩
 ·
  split at g
  ·rename_i e he;obtain⟨cv,L,V⟩:=lN h G he
   split at g
   ·rename_i X;have:=nO G _ X;rw[L]at this;cases this;simp only[ak,aA]at g;obtain⟨c',A,rfl,rfl⟩:=g;cases H;exact⟨_,by simp only[jm,V,if_true],cH h G A⟩
   ·split at g
    ·rename_i X;have:=nO G _ X;rw[L]at this;cases this;simp only[ak,aA]at g;obtain⟨c',A,rfl,rfl⟩:=g;cases H;exact⟨_,by simp only[jm,V,aC,if_false],cH h G A⟩
    ·obtain⟨es,Q,x,A,F,w,T,B⟩:=g_ g R H;rcases es with _|⟨e0,_|⟨e1,_|⟨e2,_|⟨e3,l⟩⟩⟩⟩<;>simp at A
     obtain⟨rfl,K,Y⟩:=A;obtain⟨c0,ys,g1,g2,rfl⟩:=dx F;obtain⟨a,zs,g3,g4,rfl⟩:=dx g2;obtain⟨b,g5,rfl⟩:=fv g4;rw[g1]at L;cases L;cases cv with
     |bool t=>
      simp only[aK,aa]at w;cases t with
      |true=>
       have hg':iJ ρ ((e,I)::gs)=Z I:=by simp only[iJ,g1,if_true];exact G
       obtain⟨a',N,W⟩:=lN h hg' K;rw[g3]at N;cases N;refine⟨_,by simp only[jm,V,if_true];rfl,?_⟩;rw[W];simp only[if_true]at w;rw[w];exact B
      |false=>
       have hg':iJ ρ ((e,J)::gs)=Z I:=by simp only[iJ,g1,if_true];exact G
       obtain⟨b',N,W⟩:=lN h hg' Y;rw[g5]at N;cases N;refine⟨_,by simp only[jm,V];rfl,?_⟩;simp only[aC,if_false]at w ⊢;rw[W,w];exact B
     |int k m=>simp[aK]at w
     |str t=>simp[aK]at w
     |list k fl es=>simp[aK]at w
  ·cases g
 ·
  split at g
  ·rename_i zs' hz;simp only[ak,aA]at g;obtain⟨l,A,rfl,rfl⟩:=g;cases H;obtain⟨jP,F,w⟩:=BP h G _ A (xh hz);exact⟨_,by simp only[jm,F,aH],⟨jP,rfl,w⟩⟩
  ·cases g
 ·
  rename_i m x
  split at g
  ·rename_i b o K;have P:=cH h G K;simp only[lD]at P
   split at g
   ·rename_i ys hl;obtain⟨cs,A,F⟩:=h.bx b ys hl
    split at g
    ·rename_i X;simp only[ak,aA]at g;obtain⟨y,w,rfl,rfl⟩:=g;cases H;obtain⟨cv,T,B⟩:=F.nth w;exact⟨cv,by simp only[jm,P,A,if_pos X,T],B⟩
    ·rename_i X
     split at g
     ·rename_i hle;simp only[aa,aA]at g;obtain⟨rfl,rfl⟩:=g;cases H;exact⟨_,by simp only[jm,P,A,if_neg X];rw[if_pos (by rw[F.len];exact hle)],⟨_,rfl,(F.drop o).take m⟩⟩
     ·cases g
   ·cases g
  ·rename_i i o K;obtain⟨el,cs,A,F,w⟩:=cH h G K
   split at g
   ·rename_i X;simp only[aa,aA]at g;obtain⟨rfl,rfl⟩:=g;obtain⟨Q,y,T,B,rfl⟩:=eN H;obtain⟨a,L,rfl⟩:=fv T;simp only[SE.d,A,aa]at L;subst L;simp only[aK,F]at B;refine⟨.d y,?_,⟨y,by subst R;exact j8 ρ y [],rfl⟩⟩;simp only[jm,w,if_pos X];rw[fU,jA,eu,<- fU,B];rfl
   ·rename_i X;simp only[aa,aA]at g;obtain⟨rfl,rfl⟩:=g;obtain⟨Q,y,T,B,rfl⟩:=eN H;obtain⟨a,L,rfl⟩:=fv T;simp only[SE.d,A,aa]at L;subst L;simp only[aK,F]at B
    split at B
    ·rename_i hle;refine⟨_,?_,⟨_,rfl,(uD A F m o hle).mono _⟩⟩;simp only[jm,w,if_neg X];rw[if_pos (by rw[bT];omega)]
    ·cases B
  ·rename_i r k i o K;obtain⟨iv,A,F⟩:=cH h G K
   split at g
   ·rename_i row hl;obtain⟨y,w,es,T,rfl⟩:=h.rw r row hl
    split at g
    ·rename_i hk;subst hk;have key:∀{q:Nat} {el:D},aK (.Gv row.k o q row.deep) [.list row.k row.fl es,.int .i64 iv]=Z el->∃e,nth es iv.toNat=Z e/\o+q<=row.k/\o+q<=e.length/\(cD ((e.drop o).take q) ||!row.deep)=I/\el=.list 0 J [e]:=by
      intro q el he;simp only[aK]at he
      split at he
      ·rename_i e kU
       split at he
       ·rename_i U;cases he;exact⟨e,kU,U.2.1,U.2.2.1,U.2.2.2,rfl⟩
       ·cases he
      ·cases he
     split at g
     ·rename_i X;simp only[aa,aA]at g;obtain⟨rfl,rfl⟩:=g;simp only[kC]at H
      split at H
      ·rename_i Q GW
       split at H
       ·rename_i el JV;obtain⟨f,zs,N,W,rfl⟩:=dx GW;obtain⟨z2,q3,rfl⟩:=fv W;rw[T]at N;cases N;rw[A]at q3;cases q3;obtain⟨e,e1,e2,e3,e4,rfl⟩:=key JV
        split at H
        ·rename_i OK alq
         split at H
         ·rename_i v hv;cases H;obtain⟨w0,w1,rfl⟩:=fv alq;simp only[SE.d,R,j8,aa]at w1;subst w1;simp only[aK,TM]at hv;refine⟨.d v,?_,⟨v,by subst R;have:=j8 (ρ++[.list 0 J [e]]) v [];simpa [SE.d] using this,rfl⟩⟩;subst X;simp only[jm,F,w,e1];rw[if_pos ⟨trivial,by simpa using e2,by simpa using e4⟩,if_pos trivial,hv];rfl
         ·cases H
        ·cases H
       ·cases H
      ·cases H
     ·rename_i X;simp only[aa,aA]at g;obtain⟨rfl,rfl⟩:=g;obtain⟨Q,el,GW,JV,rfl⟩:=eN H;obtain⟨f,zs,N,W,rfl⟩:=dx GW;obtain⟨z2,q3,rfl⟩:=fv W;rw[T]at N;cases N;rw[A]at q3;cases q3;obtain⟨e,e1,e2,e3,e4,rfl⟩:=key JV;have adi:Max.max m 1=m:=by omega
      refine⟨_,?_,⟨_,rfl,uD (x:=.list 0 J [e]) (by rw[R];exact j8 ρ _ []) rfl m o e3⟩⟩;simp only[jm,F,w,e1,adi];rw[if_pos ⟨trivial,e2,e4⟩,if_neg X]
    ·cases g
   ·cases g
  ·cases g
 ·
  split at g
  ·rename_i b p K;simp only[aa,aA]at g;obtain⟨rfl,rfl⟩:=g;cases H;have P:=cH h G K;simp only[lD]at P;exact⟨_,by simp only[jm,P],rfl⟩
  ·rename_i i p K;simp only[aa,aA]at g;obtain⟨rfl,rfl⟩:=g;cases H;obtain⟨x,cs,A,F,w⟩:=cH h G K;exact⟨_,by simp only[jm,w];rfl,x,cs,A,F,by rw[kO]⟩
  ·rename_i r k i p K;simp only[aa,aA]at g;obtain⟨rfl,rfl⟩:=g;cases H;obtain⟨iv,A,F⟩:=cH h G K;exact⟨_,by simp only[jm,F],iv,A,rfl⟩
  ·cases g
 ·
  split at g
  ·rename_i e j K hj;simp only[aa,aA]at g;obtain⟨rfl,rfl⟩:=g;obtain⟨Q,y,T,B,rfl⟩:=eN H;obtain⟨a,zs,L,V,rfl⟩:=dx T;obtain⟨b,h8,rfl⟩:=fv V;obtain⟨a',h9,Cs⟩:=cH h G K;obtain⟨b',Is,JS⟩:=lN h G hj;rw[L]at h9;cases h9;rw[h8]at Is;cases Is;cases a with
   |list k' fl es=>
    cases b with
    |int kk m=>
     cases kk<;>first|(simp[aK]at B;done)|skip
     simp only[aK]at B
     split at B
     ·rename_i U;simp only[ak]at B;obtain⟨el,N,rfl⟩:=B;exact⟨_,by simp only[jm,Cs,JS];rw[if_pos U,N];rfl,_,_,by rw[R];exact j8 ρ _ [],rfl,rfl⟩
     ·cases B
    |_=>simp[aK]at B
   |_=>cases b<;>simp[aK]at B
  ·rename_i r j K hj
   split at g
   ·rename_i row hl;obtain⟨y,A,es,F,rfl⟩:=h.rw r row hl
    split at g
    ·rename_i hk;simp only[aa,aA]at g;obtain⟨rfl,rfl⟩:=g;obtain⟨Q,y,T,B,rfl⟩:=eN H;obtain⟨a,zs,L,V,rfl⟩:=dx T;obtain⟨b,h8,rfl⟩:=fv V;obtain⟨b',Is,JS⟩:=lN h G hj;rw[F]at L;cases L;rw[h8]at Is;cases Is;have P:=cH h G K;simp only[lD,kI]at P;cases b with
     |int kk m=>
      cases kk<;>first|(simp[aK]at B;done)|skip
      simp only[aK]at B
      split at B
      ·rename_i U;exact⟨_,by simp only[jm,P,JS,A];rw[if_pos ⟨U.1,U.2,hk⟩],m,SE.mono _ h8,rfl⟩
      ·cases B
     |_=>simp[aK]at B
    ·cases g
   ·cases g
  ·cases g
 ·
  obtain⟨es,Q,y,A,F,w,rfl,B⟩:=g_ g R H;obtain⟨a,b,rfl,L,V⟩:=X1 h G A F;refine⟨_,?_,B⟩;simp only[jm,L,V];cases a<;>cases b<;>first|(simp[aK]at w;done)|skip
  rename_i t k m;cases k<;>first|(simp[aK]at w;done)|skip
  simp only[aK]at w
  split at w
  ·rename_i U;cases w;simp only;rw[if_pos U]
  ·cases w
 ·
  obtain⟨es,Q,y,A,F,w,rfl,B⟩:=g_ g R H;obtain⟨a,b,rfl,L,V⟩:=X1 h G A F;refine⟨_,?_,B⟩;simp only[jm,L,V];simp only[aK]at w;unfold asD at w
  split at w
  ·rename_i f hz;cases w;exact hz
  ·cases w
 ·
  obtain⟨es,Q,y,A,F,w,rfl,B⟩:=g_ g R H;obtain⟨a,b,rfl,L,V⟩:=X1 h G A F;refine⟨_,?_,B⟩;simp only[jm,L,V];cases a<;>cases b<;>first|(simp[aK]at w;done)|skip
  simp only[aK]at w;simp only[w,aH]
 ·
  obtain⟨es,Q,y,A,F,w,rfl,B⟩:=g_ g R H;obtain⟨a,rfl,L⟩:=aap h G A F;refine⟨_,?_,B⟩;simp only[jm,L];cases a<;>first|(simp[aK]at w;done)|skip
  simp only[aK,aa]at w;simp only[w]
 ·
  obtain⟨es,Q,y,A,F,w,rfl,B⟩:=g_ g R H;obtain⟨a,rfl,L⟩:=aap h G A F;refine⟨_,?_,B⟩;simp only[jm,L];cases a<;>first|(simp[aK]at w;done)|skip
  simp only[aK,aa]at w;simp only[w]
 ·
  obtain⟨es,Q,y,A,F,w,rfl,B⟩:=g_ g R H;obtain⟨a,rfl,L⟩:=aap h G A F;refine⟨_,?_,B⟩;simp only[jm,L];cases a<;>first|(simp[aK]at w;done)|skip
  simp only[aK,aa]at w;simp only[w]
 ·
  split at g
  ·rename_i e K;simp only[aa,aA]at g;obtain⟨rfl,rfl⟩:=g;obtain⟨Q,y,T,B,rfl⟩:=eN H;obtain⟨a,L,rfl⟩:=fv T;obtain⟨a',h9,Cs⟩:=cH h G K;rw[L]at h9;cases h9;refine⟨.d y,?_,y,by subst R;exact j8 ρ y [],rfl⟩;simp only[jm,Cs];cases a<;>first|(simp[aK]at B;done)|skip
   simp only[aK,aa]at B;simp only[B]
  ·rename_i k fl K;simp only[aa,aA]at g;obtain⟨rfl,rfl⟩:=g;cases H;have P:=cH h G K;simp only[lD,kI]at P;exact⟨_,by simp only[jm,P];rfl,_,rfl,rfl⟩
  ·rename_i r K
   split at g
   ·rename_i row hl;obtain⟨y,A,es,F,rfl⟩:=h.rw r row hl;simp only[aa,aA]at g;obtain⟨rfl,rfl⟩:=g;obtain⟨Q,y,T,B,rfl⟩:=eN H;obtain⟨a,L,rfl⟩:=fv T;rw[F]at L;cases L;have P:=cH h G K;simp only[lD,kI]at P;simp only[aK,aa]at B;exact⟨.d y,by simp only[jm,P,A,<- B],y,by subst R;exact j8 ρ y [],rfl⟩
   ·cases g
  ·cases g
 ·
  obtain⟨es,Q,y,A,F,w,rfl,B⟩:=g_ g R H;obtain⟨a,rfl,L⟩:=aap h G A F;refine⟨_,?_,B⟩;simp only[jm,L];cases a<;>first|(simp[aK]at w;done)|skip
  simp only[aK,aa]at w;simp only[w]
 ·
  obtain⟨es,Q,y,A,F,w,rfl,B⟩:=g_ g R H;obtain⟨a,b,rfl,L,V⟩:=X1 h G A F;refine⟨_,?_,B⟩;simp only[jm,L,V];cases a<;>cases b<;>first|(simp[aK]at w;done)|skip
  rename_i k1 a k2 b;cases k1<;>cases k2<;>first|(simp[aK]at w;done)|skip
  simp only[aK,aa]at w;simp only[w]
 ·
  obtain⟨es,Q,y,A,F,w,rfl,B⟩:=g_ g R H;obtain⟨a,b,rfl,L,V⟩:=X1 h G A F;refine⟨_,?_,B⟩;simp only[jm,L,V];cases a<;>cases b<;>first|(simp[aK]at w;done)|skip
  rename_i k1 a k2 b;cases k1<;>cases k2<;>first|(simp[aK]at w;done)|skip
  simp only[aK,aa]at w;simp only[w]
 ·
  split at g
  ·rename_i ys K;obtain⟨cs,A,F⟩:=cH h G K;have key:∀{ys:M (SB ⊕ M SB)} {cs:M C} (i:Nat),uw ρ ys cs->(∀y,nth ys i=Z (.inl y)->∃c,nth cs i=Z c/\kI ρ y c)/\(∀l,nth ys i=Z (.inr l)->∃ds,nth cs i=Z (.agg ds)/\eR ρ l ds):=by
    intro ys
    induction ys with
    |nil=>intro cs i _;exact⟨λ_ h=>by simp[nth]at h,λ_ h=>by simp[nth]at h⟩
    |cons y ys ih=>
     intro cs i P;cases y with
     |inl y=>
      obtain⟨c,jP,rfl,g1,g2⟩:=P;cases i with
      |zero=>exact⟨λf hz=>by cases hz;exact⟨c,rfl,g1⟩,λl hl=>by cases hl⟩
      |succ i=>exact ih i g2
     |inr l=>
      obtain⟨ds,jP,rfl,g1,g2⟩:=P;cases i with
      |zero=>exact⟨λf hz=>(by cases hz),λl hl=>by cases hl;exact⟨ds,rfl,g1⟩⟩
      |succ i=>exact ih i g2
   split at g
   ·rename_i y Y;simp only[aa,aA]at g;obtain⟨rfl,rfl⟩:=g;cases H;obtain⟨cv,w,T⟩:=(key _ F).1 y Y;exact⟨cv,by simp only[jm,A,w],T⟩
   ·rename_i l Y;simp only[aa,aA]at g;obtain⟨rfl,rfl⟩:=g;cases H;obtain⟨ds,w,T⟩:=(key _ F).2 l Y;exact⟨_,by simp only[jm,A,w],⟨ds,rfl,T⟩⟩
   ·cases g
  ·cases g
 ·
  obtain⟨es,Q,y,A,F,w,rfl,B⟩:=g_ g R H;rcases es with _|⟨e0,_|⟨e1,_|⟨e2,_|⟨e3,l⟩⟩⟩⟩<;>simp at A
  obtain⟨K,rfl,Y⟩:=A;obtain⟨a,ys,g1,g2,rfl⟩:=dx F;obtain⟨f,zs,g3,g4,rfl⟩:=dx g2;obtain⟨b,g5,rfl⟩:=fv g4;cases g3;obtain⟨a',N,W⟩:=lN h G K;obtain⟨b',q3,q4⟩:=lN h G Y;rw[g1]at N;cases N;rw[g5]at q3;cases q3;refine⟨_,?_,B⟩;cases a<;>first|(simp[aK]at w;done)|skip
  cases b<;>first|(simp[aK,dI,SK.d]at w;done)|skip
  rename_i k m;cases k<;>first|(simp[aK,dI,SK.d]at w;done)|skip
  simp only[aK,dI,SK.d,yb,if_true,Int.toNat_zero]at w
  split at w
  ·rename_i a b ha lF;cases ha
   split at lF
   ·rename_i X;cases lF
    split at w
    ·rename_i U;cases w;simp only[jm,W,q4];rw[if_pos ⟨X,U.2⟩,cK]
    ·cases w
   ·cases lF
  ·cases w
 ·
  split at g
  ·obtain⟨es,Q,y,A,F,w,rfl,B⟩:=g_ g R H;rcases es with _|⟨e0,_|⟨e1,_|⟨e2,l⟩⟩⟩<;>simp at A
   obtain⟨K,Y⟩:=A;obtain⟨a,ys,g1,g2,rfl⟩:=dx F;obtain⟨f,g3,rfl⟩:=fv g2;obtain⟨a',N,W⟩:=lN h G K;rw[g1]at N;cases N;refine⟨_,?_,B⟩;cases a<;>first|(simp[aK]at w;done)|skip
   simp only[aK]at w
   split at w
   ·rename_i a ha;have MD:=Jy h G Y g3 ha 0 (λ_=>rfl)
    split at w
    ·rename_i U;cases w;simp only[jm,W,MD];simp only[sa];rw[if_pos ⟨U,au _⟩]
    ·cases w
   ·cases w
  ·obtain⟨es,Q,y,A,F,w,rfl,B⟩:=g_ g R H;rcases es with _|⟨e0,_|⟨e1,_|⟨e2,_|⟨e3,l⟩⟩⟩⟩<;>simp at A
   obtain⟨K,Y,hz⟩:=A;obtain⟨a,ys,g1,g2,rfl⟩:=dx F;obtain⟨f,zs,g3,g4,rfl⟩:=dx g2;obtain⟨b,g5,rfl⟩:=fv g4;obtain⟨a',N,W⟩:=lN h G K;rw[g1]at N;cases N;refine⟨_,?_,B⟩;cases a<;>first|(simp[aK]at w;done)|skip
   simp only[aK]at w
   split at w
   ·rename_i a b ha lF;have MD:=Jy h G Y g3 ha 0 (λ_=>rfl)
    split at w
    ·rename_i U;cases w;have hhi:=λf=>Jy (lo:=Z _) h G hz g5 lF f (λh=>by cases h);simp only[jm,W,MD,hhi];rw[if_pos U]
    ·cases w
   ·cases w
 ·
  split at g
  ·obtain⟨es,Q,y,A,F,w,rfl,B⟩:=g_ g R H;rcases es with _|⟨e0,_|⟨e1,_|⟨e2,l⟩⟩⟩<;>simp at A
   obtain⟨K,Y⟩:=A;obtain⟨a,ys,g1,g2,rfl⟩:=dx F;obtain⟨f,g3,rfl⟩:=fv g2;obtain⟨a',N,W⟩:=lN h G K;rw[g1]at N;cases N;refine⟨_,?_,B⟩;cases a<;>first|(simp[aK]at w;done)|skip
   simp only[aK]at w
   split at w
   ·rename_i a ha;have MD:=Jy h G Y g3 ha 0 (λ_=>rfl)
    split at w
    ·rename_i U;cases w;simp only[jm,W,MD];simp only[sa];rw[if_pos ⟨U.1,U.2,au _⟩,bN]
    ·cases w
   ·cases w
  ·obtain⟨es,Q,y,A,F,w,rfl,B⟩:=g_ g R H;rcases es with _|⟨e0,_|⟨e1,_|⟨e2,_|⟨e3,l⟩⟩⟩⟩<;>simp at A
   obtain⟨K,Y,hz⟩:=A;obtain⟨a,ys,g1,g2,rfl⟩:=dx F;obtain⟨f,zs,g3,g4,rfl⟩:=dx g2;obtain⟨b,g5,rfl⟩:=fv g4;obtain⟨a',N,W⟩:=lN h G K;rw[g1]at N;cases N;refine⟨_,?_,B⟩;cases a<;>first|(simp[aK]at w;done)|skip
   simp only[aK]at w
   split at w
   ·rename_i a b ha lF;have MD:=Jy h G Y g3 ha 0 (λ_=>rfl)
    split at w
    ·rename_i U;cases w;have hhi:=λf=>Jy (lo:=Z _) h G hz g5 lF f (λh=>by cases h);simp only[jm,W,MD,hhi];rw[if_pos U]
    ·cases w
   ·cases w
 ·
  split at g
  ·rename_i b p K;simp only[aa,aA]at g;obtain⟨rfl,rfl⟩:=g;cases H;have P:=cH h G K;simp only[lD]at P;exact⟨_,by simp only[jm,P],rfl⟩
  ·rename_i i p K;simp only[aa,aA]at g;obtain⟨rfl,rfl⟩:=g;cases H;obtain⟨x,cs,A,F,w⟩:=cH h G K;exact⟨_,by simp only[jm,w],x,cs,A,F,rfl⟩
  ·rename_i r k i p K;simp only[aa,aA]at g;obtain⟨rfl,rfl⟩:=g;cases H;obtain⟨iv,A,F⟩:=cH h G K;exact⟨_,by simp only[jm,F],iv,A,rfl⟩
  ·cases g
 ·
  split at g
  ·rename_i r K
   split at g
   ·rename_i row hl;obtain⟨y,A,es,F,rfl⟩:=h.rw r row hl
    split at g
    ·rename_i hk;simp only[aa,aA]at g;obtain⟨rfl,rfl⟩:=g;obtain⟨Q,y,T,B,rfl⟩:=eN H;obtain⟨a,L,rfl⟩:=fv T;rw[F]at L;cases L;have P:=cH h G K;simp only[lD,kI]at P;rw[hk]at B;simp only[aK]at B;refine⟨.d y,?_,y,by subst R;exact j8 ρ y [],rfl⟩;simp only[jm,P,A];rw[if_pos hk];rw[ak]at B ⊢;obtain⟨zs,z1,z2⟩:=B;exact⟨zs,z1,by rw[z2]⟩
    ·cases g
   ·cases g
  ·cases g
 ·cases g
end
end
section
def pX(S:SS):M SB->u (M SE×M SE×Bool×SS)
 |[]=>Z ([],[],I,S)
 | .d e::xs=>match e with
  | .k (.nil _ _)=>O
  | .k x=>(pX S xs).map λp=>(.k x::p.1,p.2.1,p.2.2.1,p.2.2.2)
  |e=>(pX S xs).map λp=>(e::p.1,e::p.2.1,p.2.2.1,p.2.2.2)
 | .nil k a::xs=>(pX S xs).map λp=>(.k (.nil k a)::p.1,p.2.1,p.2.2.1,p.2.2.2)
 | .ref r::xs=>match look S.rw r with
  |some x=>(pX (S.cQ r) xs).map λp=>(x.e::p.1,p.2.1,x.deep && !x.fz && p.2.2.1,p.2.2.2)
  |none=>O
 | .any::_=>O
def pf(k:Nat):SS->M SC->u (M SE×M SE×Bool×SS)
 |S,[]=>Z ([],[],I,S)
 |S,c::cs=>match c.cells with
  |some a=>if a.all SB.cell=I then (match pX S a with
   |some p=>if p.1.length=k then (pf k p.2.2.2 cs).map λq=>(p.1++q.1,p.2.1++q.2.1,p.2.2.1 && q.2.2.1,q.2.2.2) else O
   |none=>O) else O
  |none=>O
def HO(a:M D):M SC->M C->Prop
 |[],cs=>cs=[]
 |x::xs,cs=>∃c b,cs=c::b/\lD a x c/\HO a xs b
section
variable {ρ iy:M D} {S:SS} {s:St} {gs:Gs}
theorem qq:∀{es fs:M SE} {b ys:M D},iT ρ es=Z b->iT ρ fs=Z ys->iT ρ (es++fs)=Z (b++ys)
 |[],_,_,_,h,a=>by cases h;exact a
 |e::es,_,_,_,h,a=>by
  obtain⟨x,ys,d,c,rfl⟩:=dx h;simp only[aq,iT,d,qq c a,aH]
theorem GB:∀{es fs:M SE} {c a:M D},iT ρ es=Z c->iT ρ (es++fs)=Z a->∃ys,a=c++ys/\iT ρ fs=Z ys
 |[],_,_,a,h,b=>by cases h;exact⟨a,rfl,b⟩
 |e::es,_,_,_,h,b=>by
  obtain⟨x,ys,k,j,rfl⟩:=dx h;obtain⟨m,l,d,i,rfl⟩:=dx (es:=es++_) b;rw[k]at d;cases d;obtain⟨f,rfl,g⟩:=GB j i;exact⟨f,rfl,g⟩
theorem yx(a:M D):∀{es:M SE} {b:M D},iT ρ es=Z b->iT (ρ++a) es=Z b
 |[],_,h=>by cases h;rfl
 |e::es,_,h=>by
  obtain⟨x,ys,d,c,rfl⟩:=dx h;simp only[iT,SE.mono a d,yx a c,aH]
theorem oz(x:D)(a:M D):cD (x::a)=(x.plain && cD a):=rfl
theorem xN(a ys:M D):cD (a++ys)=(cD a && cD ys):=List.all_append
theorem Pb:∀{B:M SB} {P:M C} {S A:SS} {s:St} {es pl:M SE} {q:Bool},Rel ρ S s->eR ρ B P->pX S B=Z (es,pl,q,A)->
  ∃m l g,Fk s P=Z (m,q && cD l,g)/\iT ρ es=Z m/\iT ρ pl=Z l/\Rel ρ A g:=by
 intro B
 induction B with
 |nil=>
  intro P S A s es pl q h L f;simp only[eR]at L;subst L;simp only[pX,aa,aA]at f;obtain⟨rfl,rfl,rfl,rfl⟩:=f;exact⟨[],[],s,rfl,rfl,rfl,h⟩
 |cons x B K=>
  intro P S A s es pl q h L f;obtain⟨c,T,rfl,G,N⟩:=L;have w:∀{e:SE},x=.d e->(pX S B).map (λp=>(e::p.1,e::p.2.1,p.2.2.1,p.2.2.2))=Z (es,pl,q,A)->∃m l g,Fk s (c::T)=Z (m,q && cD l,g)/\iT ρ es=Z m/\iT ρ pl=Z l/\Rel ρ A g:=by
   intro e he X;subst he;obtain⟨⟨a1,a2,a3,a4⟩,F,o⟩:=ak.1 X;simp only[aA]at o;obtain⟨rfl,rfl,rfl,rfl⟩:=o;obtain⟨y,H,rfl⟩:=G;obtain⟨m,l,g,g1,g2,g3,g4⟩:=K h N F;refine⟨y::m,y::l,g,?_,by simp only[iT,H,g2,aH],by simp only[iT,H,g3,aH],g4⟩;simp only[Fk,g1,aH,oz,aa,aA,true_and,and_true];cases D.plain y<;>simp
  cases x with
  |d e=>
   cases e with
   |v i=>exact w rfl f
   |c i j=>exact w rfl f
   |k a=>
    have Q:∀{y:D},a.d=y->D.plain y=I->(pX S B).map (λp=>(SE.k a::p.1,p.2.1,p.2.2.1,p.2.2.2))=Z (es,pl,q,A)->∃m l g,Fk s (c::T)=Z (m,q && cD l,g)/\iT ρ es=Z m/\iT ρ pl=Z l/\Rel ρ A g:=by
     intro y H hp f;obtain⟨⟨a1,a2,a3,a4⟩,F,o⟩:=ak.1 f;simp only[aA]at o;obtain⟨rfl,rfl,rfl,rfl⟩:=o;obtain⟨y',R,rfl⟩:=G;simp only[SE.d,aa]at R;rw[H]at R;subst R;obtain⟨m,l,g,g1,g2,g3,g4⟩:=K h N F;exact⟨y::m,l,g,by simp only[Fk,g1,aH,hp,cJ],by simp only[iT,SE.d,H,g2,aH],g3,g4⟩
    cases a with
    |nil k U=>cases f
    |int k n=>exact Q rfl rfl f
    |bool b=>exact Q rfl rfl f
    |str t=>exact Q rfl rfl f
  |nil k U=>
   obtain⟨⟨a1,a2,a3,a4⟩,F,o⟩:=ak.1 f;simp only[aA]at o;obtain⟨rfl,rfl,rfl,rfl⟩:=o;simp only[kI]at G;subst G;obtain⟨m,l,g,g1,g2,g3,g4⟩:=K h N F;exact⟨D.list k U []::m,l,g,by simp only[Fk,g1,aH],by simp only[iT,SE.d,SK.d,g2,aH],g3,g4⟩
  |ref r=>
   simp only[pX]at f
   split at f
   ·rename_i row hl;obtain⟨⟨a1,a2,a3,a4⟩,F,o⟩:=ak.1 f;simp only[aA]at o;obtain⟨rfl,rfl,rfl,rfl⟩:=o;simp only[kI]at G;subst G;obtain⟨y,W,Y,V,rfl⟩:=h.rw r row hl;obtain⟨m,l,g,g1,g2,g3,g4⟩:=K (h.cQ r) N F;exact⟨D.list row.k row.fl Y::m,l,g,by simp only[Fk,W,g1,aH,gR],by simp only[iT,V,g2,aH],g3,g4⟩
   ·cases f
  |any=>cases f
theorem Gy:∀{i:M C} {s j:St} {f:M D} {g:Bool},Fk s i=Z (f,g,j)->cD f=I->g=I:=by
 intro i
 induction i with
 |nil=>intro s j f g h _;simp only[Fk,aa,aA]at h;exact h.2.1.symm
 |cons c i l=>
  intro s j f g h b;cases c with
  |d x=>
   obtain⟨⟨a1,a2,a3⟩,e,a⟩:=ak.1 h;simp only[aA]at a;obtain⟨rfl,rfl,rfl⟩:=a;rw[oz,af]at b;rw[b.1,l e b.2];rfl
  |nil k m=>
   obtain⟨⟨a1,a2,a3⟩,e,a⟩:=ak.1 h;simp only[aA]at a;obtain⟨rfl,rfl,rfl⟩:=a;rw[oz,af]at b;exact l e b.2
  |ref r=>
   simp only[Fk]at h
   split at h
   ·obtain⟨⟨a1,a2,a3⟩,e,a⟩:=ak.1 h;simp only[aA]at a;obtain⟨rfl,rfl,rfl⟩:=a;rw[oz,af]at b;exact absurd b.1 (by simp[D.plain])
   ·cases h
  |ptr _ _=>cases h
  |oO _ _ _ _=>cases h
  |tN _=>cases h
  |agg _=>cases h
  |rf _=>cases h
  |ug=>cases h
  |any=>cases h
theorem UN{k:Nat}{fl:Bool}:∀{e:M SC} {l:M C} {S t:SS} {s:St} {es pl:M SE} {r:Bool} {q:M D} {i:M (M D)},Rel ρ S s->HO ρ e l->pf k S e=Z (es,pl,r,t)->
  iT ρ es=Z q->chunk k e.length q=Z i->(fl=I->i.all cD=I)->∃n m,BY k fl s l=Z (i,r && cD n,m)/\iT ρ pl=Z n/\Rel ρ t m:=by
 intro e
 induction e with
 |nil=>
  intro l S t s es pl r q i h o a G g f;simp only[HO]at o;subst o;simp only[pf,aa,aA]at a;obtain⟨rfl,rfl,rfl,rfl⟩:=a;cases G;cases g;exact⟨[],s,rfl,rfl,h⟩
 |cons c e T=>
  intro l S t s es pl r q i h o a G g f;obtain⟨v,fK,rfl,A,y⟩:=o;simp only[pf]at a
  split at a
  ·rename_i xs U
   split at a
   ·rename_i L
    split at a
    ·rename_i p W;obtain⟨p1,p2,R,p4⟩:=p;simp only at a
     split at a
     ·rename_i X;obtain⟨⟨a1,a2,a3,a4⟩,Y,K⟩:=ak.1 a;simp only[aA]at K;obtain⟨rfl,rfl,rfl,rfl⟩:=K;obtain⟨b,x,s1,g1,g2,g3,g4⟩:=Pb h (A.cells U L) W;have j:b.length=k:=by rw[lr g2,X]
      have B:=GB g2 G;obtain⟨d,rfl,F⟩:=B;simp only[aE,chunk,aR,j]at g;rw[if_pos (by omega)]at g;obtain⟨akP,H,rfl⟩:=ak.1 g;have V:(b++d).take k=b:=by rw[<- j];exact nX
      have hd:(b++d).drop k=d:=by rw[<- j];exact xX
      rw[hd]at H;rw[V]at f ⊢;simp only[bJ,af]at f;obtain⟨n,m,Q,P,N⟩:=T g4 y Y F H (λw=>(f w).2);refine⟨x++n,m,?_,qq g3 P,N⟩;simp only[BY,g1];rw[if_pos ⟨j,λw=>(f w).1⟩,Q];simp only[aH,xN,aa,aA,true_and,and_true];cases R<;>cases a3<;>simp
     ·cases a
    ·cases a
   ·cases a
  ·cases a
end
end
section
def afb:D->u SK
 | .int k n=>Z (.int k n)
 | .bool b=>Z (.bool b)
 | .str t=>Z (.str t)
 | .list k a []=>Z (.nil k a)
 |_=>O
def SB.iF(q i:Nat):SB->SB
 | .ref r=>if r=q then .ref i else if r=i then .any else .ref r
 |x=>x
def SC.iF(q i:Nat):SC->SC
 | .b x=>.b (x.iF q i)
 | .agg xs=>.agg (xs.map (SB.iF q i))
 | .rf xs=>.rf (xs.map λ| .inl x=>.inl (x.iF q i) | .inr l=>.inr (l.map (SB.iF q i)))
 | .oO r k a o=>if r=q then .oO i k a o else if r=i then .any else .oO r k a o
 |x=>x
def SS.iF(S:SS)(q i:Nat)(row:SR):SS:=⟨S.sl.map λp=>(p.1,⟨p.2.gs,p.2.c.iF q i⟩),S.bx.map λp=>(p.1,p.2.map (SB.iF q i)),(i,row)::ru (ru S.rw q) i⟩
def zx(S:SS)(a:Gs):M KX->u (M SC)
 |[]=>Z []
 |x::xs=>match fZ S a x with
  |some c=>(zx S a xs).map (c::·)
  |none=>O
def S9(hint:M Nat)(d:Nat)(a b:Bool)(pl:M SE):Bs×Bool:=
 if a=I then ([],I) else if b=J then ([],J) else match pl with
  |[]=>([],I)
  |pl=>if hint.contains (1000 * d+pl.length) then ([(.LJ,pl)],J) else ([(.pl,pl)],I)
def Ot(S:SS)(k:Nat)(a:Bool):SC->u (SE×Bool×SS)
 | .b (.d e)=>Z (e,a,S)
 | .b (.nil _ _)=>Z (.k (.nil k a),I,S)
 | .b (.ref q)=>match look S.rw q with
  |some row=>if row.k=k/\row.fl=a then Z (row.e,(row.deep && !row.fz) ||a,S.cQ q) else O
  |none=>O
 |_=>O
def Y5(S:SS)(a:Gs)(e:SE)(b c:u KX):u (PO×M SE):=
 match c with
 |none=>match uC S a b with
  |some l=>Z (.cut J,[e,l])
  |none=>O
 |some h=>match uC S a b,sD (fZ S a h) with
  |some l,Z h=>Z (.cut I,[e,l,h])
  |_,_=>O
def SR.share(r:SR):SR:={r with fz:=I,deep:=r.fl }
def nS(S:SS):M Nat->u SS
 |[]=>Z S
 |r::rs=>match look S.rw r with
  |some x=>nS (S.setRow r x.share) rs
  |none=>O
def nF(hint:M Nat)(S:SS)(h:Gs)(n:Nat)(d:u Nat):KO->u (Bs×SS)
 | .alloc w=>match d,gJ uH w with
  |some b,Z j=>Z ([],(S.jQ b j).put d ⟨[],.ptr b 0⟩)
  |_,_=>O
 | .box x=>match d,fZ S h x with
  |some b,Z c=>match c.cells with
   |some j=>if j.all SB.cell=I then Z ([],(S.jQ b (j.map (SB.kill b))).put d ⟨[],.ptr b 0⟩) else O
   |none=>O
  |_,_=>O
 | .qx k g j=>match d,zx S h j with
  |some r,Z cs=>match pf k S cs with
   |some p=>if 0 < k then (match S9 hint r g p.2.2.1 p.2.1 with
    |(s,deep)=>Z (s++[(.mW k g,p.1)],(p.2.2.2.newRow r ⟨.v (n+s.length),k,g,deep,I,J⟩).put d ⟨[],.b (.ref r)⟩)) else O
   |none=>O
  |_,_=>O
 | .Wt k g j=>match d,zx S h j with
  |some r,Z cs=>match pf k S cs with
   |some p=>if 0 < k then (match S9 hint r g p.2.2.1 p.2.1 with
    |(s,deep)=>Z (s++[(.mW k g,p.1)],(((p.2.2.2.newRow r ⟨.v (n+s.length),k,g,deep,I,J⟩).put (Z r) ⟨[],.b (.ref r)⟩).setRow r (SR.share ⟨.v (n+s.length),k,g,deep,I,J⟩)).put (Z r) ⟨[],.b (.d (.v (n+s.length)))⟩)) else O
   |none=>O
  |_,_=>O
 | .make k l g w x=>match d,sD (fZ S h x),gJ afb w with
  |some r,Z e,Z F=>Z ([(.make k l g F,[e])],(S.newRow r ⟨.v n,k,g,I,I,J⟩).put d ⟨[],.b (.ref r)⟩)
  |_,_,_=>O
 | .st m x y=>match fZ S h x,fZ S h y with
  |some (.ptr b o),Z c=>match look S.bx b,c.cells with
   |some j,Z ys=>if ys.all SB.cell=I/\ys.length=m/\o+m<=j.length then Z ([],S.gk b (aa4 j o ys)) else O
   |_,_=>O
  |some (.oO r k i o),Z c=>match c.cells with
   |some ys=>match pX S ys with
    |some p=>match look p.2.2.2.rw r with
     |some row=>if ys.all SB.cell=I/\row.k=k/\row.fz=J/\row.app=I/\p.1.length=m/\o+m<=k/\(p.2.2.1 ||!row.deep ||row.fl)=I then
       Z (if row.fl ||!row.deep then ([(.set o,row.e::i::p.1)],p.2.2.2.setRow r ⟨.v n,row.k,row.fl,row.deep,row.app,row.fz⟩)
        else ([(.pl,p.2.1),(.set o,row.e::i::p.1)],p.2.2.2.setRow r ⟨.v (n+1),row.k,row.fl,row.deep,row.app,row.fz⟩)) else O
     |none=>O
    |none=>O
   |none=>O
  |_,_=>O
 | .app k l g x y=>match d,fZ S h y with
  |some d0,Z c=>match Ot S k g c with
   |some p=>match fZ S h x with
    |some (.b (.nil t D))=>if t=k/\D=g then Z ([(.app k l,[.k (.nil k g),p.1])],(p.2.2.newRow d0 ⟨.v n,k,g,p.2.1,I,J⟩).put d ⟨[],.b (.ref d0)⟩) else O
    |some (.b (.ref r))=>match look p.2.2.rw r with
     |some row=>if row.k=k/\row.fl=g/\row.app=I then Z ([(.app k l,[row.e,p.1])],(p.2.2.newRow r ⟨.v n,row.k,row.fl,row.deep && p.2.1,row.app,row.fz⟩).put d ⟨[],.b (.ref r)⟩) else O
     |none=>O
    |_=>O
   |none=>O
  |_,_=>O
 | .cut k x A C=>match d,fZ S h x with
  |some _,Z (.b (.nil t g))=>match Y5 S h (.k (.nil k g)) A C with
   |some b=>if t=k then Z ([b],S.put d ⟨[],.b (.nil t g)⟩) else O
   |none=>O
  |some _,Z (.b (.ref r))=>match look S.rw r with
   |some row=>match Y5 S h row.e A C with
    |some b=>if row.k=k/\row.fz=J then Z ([b],(S.newRow r ⟨.v n,row.k,row.fl,row.deep,row.app && A.isNone,row.fz⟩).put d ⟨[],.b (.ref r)⟩) else O
    |none=>O
   |none=>O
  |_,_=>O
 | .Gn k x y=>match d,fZ S h x,sD (fZ S h y) with
  |some _,Z (.b (.ref r)),Z e=>match look S.rw r with
   |some row=>if row.k=k/\row.fl=I/\row.fz=J/\row.app=I then Z ([(.Gn,[row.e,e]),(.len,[.v n])],(S.setRow r ⟨.v n,row.k,row.fl,row.deep,row.app,row.fz⟩).put d ⟨[],vN (n+1)⟩) else O
   |none=>O
  |_,_,_=>O
 | .P9 x=>match d,fZ S h x with
  |some d0,Z (.b (.ref q))=>match look S.rw q with
   |some row=>Z ([],(S.iF q (um d0 0) row).put d ⟨[],.b (.ref (um d0 0))⟩)
   |none=>O
  |some _,Z (.b (.nil k g))=>Z ([],S.put d ⟨[],.b (.nil k g)⟩)
  |some _,Z (.b (.d e))=>Z ([],S.put d ⟨[],.b (.d e)⟩)
  |_,_=>O
 | .jn x y=>match d,fZ S h x,fZ S h y with
  |some _,Z (.b (.ref r)),Z c=>match look S.rw r with
   |some row=>if row.k=1/\row.fl=I/\row.fz=J/\row.app=I then (match c with
    | .b (.d e)=>Z ([(.jnl,[row.e,e]),(.jnb,[row.e,e])],(S.setRow r ⟨.v n,row.k,row.fl,row.deep,row.app,row.fz⟩).put d ⟨[],vN (n+1)⟩)
    | .b (.ref q)=>match look S.rw q with
     |some B=>if B.k=1/\q≠r then Z ([(.jnl,[row.e,B.e]),(.jnb,[row.e,B.e])],(S.setRow r ⟨.v n,row.k,row.fl,row.deep,row.app,row.fz⟩).put d ⟨[],vN (n+1)⟩) else O
     |none=>O
    |_=>O) else O
   |none=>O
  |_,_,_=>O
 | .zt ins x i f=>match d,sD (fZ S h i),fZ S h f,fZ S h x with
  |some _,Z a,Z c,Z (.b (.ref r))=>match look S.rw r with
   |some row=>if row.k=3/\row.fl=J/\row.app=I/\row.fz=J then (match c with
    | .b (.d e)=>if ins=J then Z ([(.zt J,[row.e,a,e])],(S.newRow r ⟨.v n,row.k,row.fl,row.deep,row.app,row.fz⟩).put d ⟨[],.b (.ref r)⟩) else O
    | .b (.ref q)=>match look S.rw q with
     |some y=>if ins=I/\q≠r/\y.k=3/\y.fl=J/\y.app=I then Z ([(.zt I,[row.e,a,y.e])],((S.cQ q).newRow r ⟨.v n,row.k,row.fl,row.deep && (y.deep && !y.fz),row.app,row.fz⟩).put d ⟨[],.b (.ref r)⟩) else O
     |none=>O
    |_=>O) else O
   |none=>O
  |_,_,_,_=>O
 |_=>O
section
variable {ρ iy:M D} {S S':SS} {s:St} {gs:Gs} {bs:Bs} {cf:Nat->M A->u (M A×M A)} {mf:Nat->Bool->M D->Int->u (M D×Int)} {hint:M Nat} {n:Nat} {d:u Nat}
theorem vn:∀{bs cs:Bs} {ρ iy:M D},kC ρ (bs++cs)=Z iy->∃a,kC ρ bs=Z a/\kC a cs=Z iy
 |[],_,ρ,_,h=>⟨ρ,rfl,h⟩
 |(o,es)::bs,cs,ρ,iy,h=>by
  simp only[aq,kC]at h ⊢
  split at h
  ·rename_i e g
   split at h
   ·rename_i x f;obtain⟨a,c,b⟩:=vn h;exact⟨a,c,b⟩
   ·cases h
  ·cases h
theorem sh:∀{bs:Bs} {ρ iy:M D},kC ρ bs=Z iy->iy.length=ρ.length+bs.length
 |[],ρ,_,h=>by cases h;rfl
 |(o,es)::bs,ρ,iy,h=>by
  simp only[kC]at h
  split at h
  ·split at h
   ·have:=sh h;simp only[aR,aE,aJ]at this ⊢;omega
   ·cases h
  ·cases h
theorem HO.mono(b:M D):∀{c:M SC} {a:M C},HO ρ c a->HO (ρ++b) c a
 |[],_,h=>h
 |_::_,_,⟨v,a,g,f,e⟩=>⟨v,a,g,f.mono b,e.mono b⟩
theorem wb(h:Rel ρ S s)(f:iJ ρ gs=Z I):∀{b:M KX} {e:M SC},zx S gs b=Z e->HO ρ e (b.map (fX s))
 |[],_,h=>by cases h;rfl
 |x::b,_,a=>by
  simp only[zx]at a
  split at a
  ·rename_i c g;obtain⟨e,i,rfl⟩:=ak.1 a;exact⟨_,_,rfl,cH h f g,wb h f i⟩
  ·cases a
theorem nn(g:n=ρ.length){x:D}{k:Nat}{e:Bool}{es:M (M D)}(f:x=.list k e es){a b c:Bool}:Yp (ρ++[x]) ⟨.v n,k,e,a,b,c⟩ ⟨es,k,e,a,b,c⟩:=by
 subst g f;exact⟨es,j8 ρ _ [],rfl⟩
theorem qg.ref{r:Nat}:qg ρ ⟨[],.b (.ref r)⟩ (.ref r):=qg.nil (by simp only[lD,kI])
theorem qg.ptr{b o:Nat}:qg ρ ⟨[],.ptr b o⟩ (.ptr b o):=qg.nil (by simp only[lD])
theorem qg.new(a:n=ρ.length){x:D}:qg (ρ++[x]) ⟨[],vN n⟩ (.d x):=by
 subst a;exact qg.nil ⟨x,j8 ρ _ [],rfl⟩
theorem Ia{a:C}{x:SB}(h:uH a=Z x):a.const=I:=by
 unfold uH at h
 split at h<;>first|rfl|cases h
theorem yo:∀{b:M C} {c:M SB},gJ uH b=Z c->b.all C.const=I
 |[],_,_=>rfl
 |a::b,c,h=>by
  simp only[gJ]at h
  split at h
  ·rename_i y e;obtain⟨ys,f,rfl⟩:=ak.1 h;simp only[bJ,Ia e,yo f,kv]
  ·cases h
theorem Oo(h:Rel ρ S s){c:M C}(a:nF hint S gs n d (.alloc c)=Z (bs,S'))(g:kC ρ bs=Z iy):∃e,ky cf mf s d (.alloc c)=Z e/\Rel iy S' e:=by
 simp only[nF]at a
 split at a
 ·rename_i b i f;simp only[aa,aA]at a;obtain⟨rfl,rfl⟩:=a;cases g;exact⟨_,by simp only[ky,yo f,if_true],(h.jQ b (xh f)).put _ qg.ptr⟩
 ·cases a
theorem XI(h:Rel ρ S s)(j:iJ ρ gs=Z I){x:KX}(a:nF hint S gs n d (.box x)=Z (bs,S'))(l:kC ρ bs=Z iy):∃e,ky cf mf s d (.box x)=Z e/\Rel iy S' e:=by
 simp only[nF]at a
 split at a
 ·rename_i b c i
  split at a
  ·rename_i m k
   split at a
   ·rename_i f;simp only[aa,aA]at a;obtain⟨rfl,rfl⟩:=a;cases l;have g:=(cH h j i).cells k f;exact⟨_,by simp only[ky,g.cell f,if_true],(h.jQ b (g.kill b)).put _ qg.ptr⟩
   ·cases a
  ·cases a
 ·cases a
theorem BO{k:Nat}:∀{b:M SC} {S S':SS} {es pl:M SE} {i:Bool},pf k S b=Z (es,pl,i,S')->es.length=k * b.length
 |[],_,_,_,_,_,h=>by
  simp only[pf,aa,aA]at h;obtain⟨rfl,_⟩:=h;rfl
 |c::b,_,_,_,_,_,a=>by
  simp only[pf]at a
  split at a
  ·split at a
   ·split at a
    ·split at a
     ·rename_i f;obtain⟨⟨a1,a2,a3,a4⟩,g,e⟩:=ak.1 a;simp only[aA]at e;obtain⟨rfl,_⟩:=e;rw[aR,f,BO g,aE,Nat.mul_succ,Nat.add_comm]
     ·cases a
    ·cases a
   ·cases a
  ·cases a
theorem C7{k:Nat}{e:Bool}:∀{g:M C} {s i:St} {es:M (M D)} {f:Bool},BY k e s g=Z (es,f,i)->e=I->f=I
 |[],_,_,_,_,h,_=>by simp only[BY,aa,aA]at h;exact h.2.1.symm
 |c::g,_,_,_,_,h,a=>by
  simp only[BY]at h
  split at h
  ·rename_i q o p l
   split at h
   ·rename_i j;obtain⟨⟨a1,a2,a3⟩,m,b⟩:=ak.1 h;simp only[aA]at b;obtain⟨rfl,rfl,rfl⟩:=b;rw[C7 m a,Gy l (j.2 a)];rfl
   ·cases h
  ·cases h
theorem aat{r:Nat}{i j deep:Bool}{pl:M SE}{k f:M D}(a:S9 hint r i j pl=(bs,deep))(l:kC ρ bs=Z iy)(c:iT (ρ++f) pl=Z k):deep=(i ||(j && cD k)):=by
 unfold S9 at a
 split at a
 ·rename_i e;cases a;simp[e]
 ·rename_i e;have e:i=J:=by simpa using e
  subst e
  split at a
  ·rename_i hd;cases a;simp[hd]
  ·rename_i hd;have hd:j=I:=by simpa using hd
   subst hd
   split at a
   ·cases a;cases c;rfl
   ·split at a
    ·cases a;obtain⟨m,x,h,b,rfl⟩:=eN l;rw[yx f h]at c;cases c;simp only[aK]at b
     split at b
     ·cases b
     ·rename_i g;simpa using g
    ·cases a;obtain⟨m,x,h,b,rfl⟩:=eN l;rw[yx f h]at c;cases c;simp only[aK]at b
     split at b
     ·rename_i g;simpa using g
     ·cases b
theorem EP(h:Rel ρ S s)(H:iJ ρ gs=Z I)(F:n=ρ.length){k:Nat}{fl:Bool}{j:M KX}(a:nF hint S gs n d (.qx k fl j)=Z (bs,S'))(L:kC ρ bs=Z iy):∃e,ky cf mf s d (.qx k fl j)=Z e/\Rel iy S' e:=by
 simp only[nF]at a
 split at a
 ·rename_i r N y
  split at a
  ·rename_i p l;obtain⟨es,pl,v,U⟩:=p;simp only at a
   split at a
   ·rename_i m;generalize C:S9 hint r fl v pl=q at a;obtain⟨P,deep⟩:=q;simp only[aa,aA]at a;obtain⟨rfl,rfl⟩:=a;obtain⟨T,g,R⟩:=vn L;obtain⟨Q,x,t,b,rfl⟩:=eN R;obtain⟨i,rfl⟩:=oA g;have G:=sh g;have B:=wb h H y;simp only[aK]at b
    split at b
    ·split at b
     ·rename_i V o
      split at b
      ·rename_i K;cases b;have c:Q.length=k * N.length:=by rw[lr t,BO l]
       rw[c,Nat.mul_div_cancel_left _ m]at o;obtain⟨w,e,g1,g2,g3⟩:=UN (fl:=fl) (h.mono i) (B.mono i) l t o K;have hd:=aat C g g2;have f:(v && cD w)=deep:=by
        cases fl with
        |true=>rw[C7 g1 rfl,hd];rfl
        |false=>rw[hd,fh]
       rw[f]at g1;refine⟨_,by simp only[ky,g1];rw[if_pos m],((g3.mono [_]).newRow r (nn (by rw[F,G]) rfl)).put _ qg.ref⟩
      ·cases b
     ·cases b
    ·cases b
   ·cases a
  ·cases a
 ·cases a
theorem nT:∀{rs:M Nat} {S S':SS} {s:St},Rel ρ S s->nS S rs=Z S'->Rel ρ S' (eE s rs)
 |[],S,S',s,h,a=>by cases a;exact h
 |r::rs,S,S',s,h,a=>by
  simp only[nS]at a
  split at a
  ·rename_i x b;obtain⟨y,e,es,c,rfl⟩:=h.rw r x b;simp only[eE,e];exact nT (h.setRow r (x:=x.share) (y:=Row.share _) ⟨es,c,rfl⟩) a
  ·cases a
theorem XL(h:Rel ρ S s)(K:iJ ρ gs=Z I)(H:n=ρ.length){k:Nat}{f:Bool}{j:M KX}(e:nF hint S gs n d (.Wt k f j)=Z (bs,S'))(L:kC ρ bs=Z iy):∃t,ky cf mf s d (.Wt k f j)=Z t/\Rel iy S' t:=by
 simp only[nF]at e
 split at e
 ·rename_i r Q C
  split at e
  ·rename_i p F
   split at e
   ·rename_i l;generalize G:S9 hint r f p.2.2.1 p.2.1=q at e;obtain⟨a,deep⟩:=q;simp only[aa,aA]at e;obtain⟨rfl,rfl⟩:=e;have B:nF hint S gs n (Z r) (.qx k f j)=Z (a++[(.mW k f,p.1)],(p.2.2.2.newRow r ⟨.v (n+a.length),k,f,deep,I,J⟩).put (Z r) ⟨[],.b (.ref r)⟩):=by
     simp only[nF,C,F,G];rw[if_pos l]
    obtain⟨N,i,w⟩:=EP (cf:=cf) (mf:=mf) h K H B L;simp only[ky]at i
    split at i
    ·rename_i es x o m;rw[if_pos l]at i;cases i;have g:look (((p.2.2.2.newRow r ⟨.v (n+a.length),k,f,deep,I,J⟩).put (Z r) ⟨[],.b (.ref r)⟩).rw) r=Z ⟨.v (n+a.length),k,f,deep,I,J⟩:=by
      simp[SS.put,SS.newRow,SS.setRow,look]
     obtain⟨y,y1,P,y2,y3⟩:=w.rw r _ g;have hd:Proofs.YthlpjklbafakfaaGreatDoor.oZ ((o.newRow r ⟨es,k,f,x,I,J⟩).put (Z r) (.ref r)) r=Z ((eE ((o.newRow r ⟨es,k,f,x,I,J⟩).put (Z r) (.ref r)) [r]).put (Z r) (.d (.list y.k y.fl y.es))):=by
      simp only[oZ,Ps,if_true,y1]
     refine⟨_,by simp only[ky,m];rw[if_pos l];exact hd,?_⟩;subst y3;exact Rel.put (nT (rs:=[r]) w (by simp[nS,g])) _ (qg.nil (c:=.b (.d (.v (n+a.length)))) ⟨_,y2,rfl⟩)
    ·cases i
   ·cases e
  ·cases e
 ·cases e
theorem XC:∀{b:M D} {c:M SK},gJ afb b=Z c->c.map SK.d=b
 |[],_,h=>by cases h;rfl
 |a::b,c,h=>by
  simp only[gJ]at h
  split at h
  ·rename_i y e;obtain⟨ys,f,rfl⟩:=ak.1 h;rw[aW,XC f];unfold afb at e
   split at e<;>cases e<;>rfl
  ·cases h
theorem Rv{k c:Nat}{g:Bool}{f:M SK}{e:M D}{x:D}(h:aK (.make k c g f) e=Z x):∃m,e=[.int .i64 m]/\(0<=m/\m.toNat * c<=room/\m<=4611686018427387904)/\x=.list k g (bc m.toNat (f.map SK.d)):=by
 rcases e with _|⟨a,_|⟨b,l⟩⟩
 ·simp[aK]at h
 ·cases a with
  |int i m=>
   cases i<;>simp only[aK]at h<;>try cases h
   split at h
   ·rename_i j;cases h;exact⟨m,rfl,j,rfl⟩
   ·cases h
  |_=>simp[aK]at h
 ·simp[aK]at h
theorem K0{k e:Nat}{g:M D}{x:D}(h:aK (.app k e) g=Z x):∃i es f,g=[.list k i es,.list k i f]/\(es.length+f.length) * e<=room/\es.length+f.length<=maxLen/\x=.list k i (es++f):=by
 rcases g with _|⟨a,_|⟨b,_|⟨c,l⟩⟩⟩
 ·simp[aK]at h
 ·cases a<;>simp[aK]at h
 ·cases a<;>cases b<;>simp only[aK]at h<;>try cases h
  split at h
  ·rename_i j;obtain⟨rfl,rfl,rfl,o,m⟩:=j;cases h;exact⟨_,_,_,rfl,o,m,rfl⟩
  ·cases h
 ·cases a<;>cases b<;>simp[aK]at h
theorem U4{o:Nat}{g:M D}{x:D}(h:aK (.set o) g=Z x):∃k c es i f e,g=.list k c es::.int .i64 i::f/\nth es i.toNat=Z e/\o+f.length<=k/\(c=I->cD f=I)/\x=.list k c (es.set i.toNat (mi e o f)):=by
 rcases g with _|⟨a,_|⟨b,l⟩⟩
 ·simp[aK]at h
 ·cases a<;>simp[aK]at h
 ·cases a with
  |list k c es=>
   cases b with
   |int m i=>
    cases m<;>simp only[aK]at h<;>try cases h
    split at h
    ·rename_i e p
     split at h
     ·rename_i j;cases h;exact⟨_,_,_,_,_,_,rfl,p,j.1,j.2,rfl⟩
     ·cases h
    ·cases h
   |_=>simp[aK]at h
  |_=>simp[aK]at h
theorem U0{e:M D}{x:D}(h:aK .Gn e=Z x):∃k es f,e=[.list k I es,.list k I f]/\f.length=es.length/\x=.list k I f:=by
 rcases e with _|⟨a,_|⟨b,_|⟨c,l⟩⟩⟩
 ·simp[aK]at h
 ·cases a<;>simp[aK]at h
 ·cases a<;>cases b<;>simp only[aK]at h<;>try cases h
  split at h
  ·rename_i g;obtain⟨rfl,rfl,rfl,i⟩:=g;cases h;exact⟨_,_,_,rfl,i,rfl⟩
  ·cases h
 ·cases a<;>cases b<;>simp[aK]at h
theorem U2{f:M D}{x:D}(h:aK .jnl f=Z x):∃es j e bs g,f=[.list 1 I es,.list 1 j e]/\e.length=es.length/\e≠[]/\lk es=Z bs/\lk e=Z g/\x=.list 1 I ((dM bs g).map λb=>[D.bool b]):=by
 rcases f with _|⟨a,_|⟨b,_|⟨c,l⟩⟩⟩
 ·simp[aK]at h
 ·cases a<;>simp[aK]at h
 ·cases a<;>cases b<;>simp only[aK]at h<;>try cases h
  split at h
  ·rename_i k;obtain⟨rfl,rfl,rfl,p,o⟩:=k
   split at h
   ·rename_i bs g m i;cases h;exact⟨_,_,_,_,_,rfl,p,o,m,i,rfl⟩
   ·cases h
  ·cases h
 ·cases a<;>cases b<;>simp[aK]at h
theorem U1{e:M D}{x:D}(h:aK .jnb e=Z x):∃k p es m j g bs f,e=[.list k p es,.list m j g]/\lk es=Z bs/\lk g=Z f/\x=.bool (nd bs f):=by
 rcases e with _|⟨a,_|⟨b,_|⟨c,l⟩⟩⟩
 ·simp[aK]at h
 ·cases a<;>simp[aK]at h
 ·cases a<;>cases b<;>simp only[aK]at h<;>try cases h
  split at h
  ·rename_i bs f o i;cases h;exact⟨_,_,_,_,_,_,_,_,rfl,o,i,rfl⟩
  ·cases h
 ·cases a<;>cases b<;>simp[aK]at h
theorem U3{c:M D}{x:D}(h:aK .len c=Z x):∃k e es,c=[.list k e es]/\x=.int .i64 es.length:=by
 rcases c with _|⟨a,_|⟨b,l⟩⟩
 ·simp[aK]at h
 ·cases a<;>simp only[aK]at h<;>cases h
  exact⟨_,_,_,rfl,rfl⟩
 ·cases a<;>simp[aK]at h
theorem To(h:Rel ρ S s)(t:iJ ρ gs=Z I)(p:n=ρ.length){k c:Nat}{j:Bool}{f:M D}{x:KX}(b:nF hint S gs n d (.make k c j f x)=Z (bs,S'))(w:kC ρ bs=Z iy):∃g,ky cf mf s d (.make k c j f x)=Z g/\Rel iy S' g:=by
 simp only[nF]at b
 split at b
 ·rename_i r e H o l;simp only[aa,aA]at b;obtain⟨rfl,rfl⟩:=b;obtain⟨L,G,F,C,rfl⟩:=eN w;obtain⟨a,B,rfl⟩:=fv F;obtain⟨K,i,y⟩:=lN h t o;rw[B]at i;cases i;obtain⟨m,q,v,rfl⟩:=Rv C;cases q;refine⟨_,by simp only[ky,y];rw[if_pos v],((h.mono [_]).newRow r (nn p (by rw[XC l]))).put _ qg.ref⟩
 ·cases b
theorem lD.zW{x:SC}{c:C}{a:M SB}(h:lD ρ x c)(e:x.cells=Z a)(b:a.all SB.cell=I):eR ρ a c.cells/\c.cells.all C.cell=I:=⟨h.cells e b,(h.cells e b).cell b⟩
theorem aa_(h:Rel ρ S s)(H:iJ ρ gs=Z I)(hn:n=ρ.length){m:Nat}{x y:KX}(g:nF hint S gs n d (.st m x y)=Z (bs,S'))(X:kC ρ bs=Z iy):∃s',ky cf mf s d (.st m x y)=Z s'/\Rel iy S' s':=by
 simp only[nF]at g
 split at g
 ·rename_i b o c R Q
  split at g
  ·rename_i q ys U W
   split at g
   ·rename_i V;obtain⟨P,G,F⟩:=V;simp only[aa,aA]at g;obtain⟨rfl,rfl⟩:=g;cases X;have w:=cH h H R;simp only[lD]at w;obtain⟨cs,g1,g2⟩:=h.bx b q U;obtain⟨g3,g4⟩:=(cH h H Q).zW W P;refine⟨_,by simp only[ky,w,g1];rw[if_pos ⟨g4,by rw[g3.len,G],by rw[g2.len];exact F⟩],h.gk b (g2.zt o g3)⟩
   ·cases g
  ·cases g
 ·rename_i r k i o c R Q;obtain⟨iv,hi,w⟩:=cH h H R
  split at g
  ·rename_i ys W
   split at g
   ·rename_i p hp;obtain⟨es,pl,dp,S1⟩:=p;simp only at g
    split at g
    ·rename_i row U
     split at g
     ·rename_i V;obtain⟨P,G,F,k4,k5,k6,k7⟩:=V;obtain⟨g3,g4⟩:=(cH h H Q).zW W P;obtain⟨ds,ps,s1,N,L,q3,K⟩:=Pb h g3 hp;obtain⟨f,w1,JR,w2,rfl⟩:=K.rw r row U;have t:∀{σ:M D} {q:M D} {v:D},iT (ρ++σ) (row.e::i::es)=Z q->aK (.set o) q=Z v->∃e,nth JR iv.toNat=Z e/\o+ds.length<=row.k/\(row.fl=I->cD ds=I)/\v=.list row.k row.fl (JR.set iv.toNat (mi e o ds)):=by
       intro σ q v C B;obtain⟨a,MJ,j1,j2,rfl⟩:=dx C;obtain⟨b,zs',j3,j4,rfl⟩:=dx j2;rw[SE.mono σ w2]at j1;cases j1;rw[SE.mono σ hi]at j3;cases j3;rw[yx σ L]at j4;cases j4;obtain⟨k',qu,ju,i',mY,e,j,t2,t3,t4,rfl⟩:=U4 B;simp only[bZ,D.list.injEq,D.int.injEq,true_and]at j;obtain⟨⟨rfl,rfl,rfl⟩,rfl,rfl⟩:=j;exact⟨e,t2,t3,t4,rfl⟩
      split at g
      ·rename_i l;simp only[aa,aA]at g;obtain⟨rfl,rfl⟩:=g;obtain⟨JM,v,C,B,rfl⟩:=eN X;obtain⟨e,j,t2,t3,rfl⟩:=t (σ:=[]) (by simpa using C) B;refine⟨_,by
        simp only[ky,w,N,w1,j];rw[if_pos ⟨G,F,k4,by rw[lr L,k5],k6,t3,by
         cases ub:row.fl with
         |true=>rw[Gy N (t3 ub)];rfl
         |false=>rw[ub,fh]at l;rw[l,ft]⟩],?_⟩
       exact (K.mono [_]).setRow r (nn hn rfl)
      ·rename_i l;simp only[aa,aA]at g;obtain⟨rfl,rfl⟩:=g;obtain⟨TY,BZ,Ar⟩:=vn (bs:=[_]) (cs:=[_]) X;obtain⟨xs1,v1,f1,Y,rfl⟩:=eN BZ;obtain⟨JM,v,C,B,rfl⟩:=eN Ar;obtain⟨e,j,t2,t3,rfl⟩:=t C B;rw[q3]at f1;cases f1;simp only[aK]at Y
       split at Y
       ·rename_i T;refine⟨_,by
         simp only[ky,w,N,w1,j];rw[if_pos ⟨G,F,k4,by rw[lr L,k5],k6,t3,by
          rw[T,ed];cases dp with
          |true=>rfl
          |false=>
           simp only[Bool.not_eq_true,Bool.or_eq_false_iff]at l;simp only[l.1,l.2,Bool.or_self,aC]at k7⟩],?_⟩
        exact (K.mono [_] |>.mono [_]).setRow r (nn (by rw[hn];simp) rfl)
       ·cases Y
     ·cases g
    ·cases g
   ·cases g
  ·cases g
 ·cases g
theorem Tp(h:Rel ρ S s){k:Nat}{i:Bool}{c:SC}{v:C}{e:SE}{l:Bool}{m:SS}(f:lD ρ c v)(b:Ot S k i c=Z (e,l,m)):∃x j,e.d ρ=Z x/\Rel ρ m j/\∀es,x=.list k i es->m_ s k i v=Z (es,l,j):=by
 unfold Ot at b
 split at b
 ·cases b;obtain⟨x,t,rfl⟩:=f;refine⟨x,s,t,h,?_⟩
  rintro es rfl
  simp[m_]
 ·cases b;simp only[lD,kI]at f;subst f;refine⟨_,s,rfl,h,?_⟩;intro es g;cases g;simp[m_]
 ·split at b
  ·rename_i row q
   split at b
   ·rename_i r;obtain⟨rfl,rfl⟩:=r;cases b;simp only[lD,kI]at f;subst f;obtain⟨a,p,w,o,rfl⟩:=h.rw _ row q;refine⟨_,_,o,h.cQ _,?_⟩;intro es g;cases g;simp[m_,p]
   ·cases b
  ·cases b
 ·cases b
theorem XH(h:Rel ρ S s)(G:iJ ρ gs=Z I)(T:n=ρ.length){k m:Nat}{o:Bool}{x y:KX}(g:nF hint S gs n d (.app k m o x y)=Z (bs,S'))(U:kC ρ bs=Z iy):∃P,ky cf mf s d (.app k m o x y)=Z P/\Rel iy S' P:=by
 simp only[nF]at g
 split at g
 ·rename_i d0 c Y
  split at g
  ·rename_i p hp;obtain⟨e,dp,S1⟩:=p;simp only at g
   obtain⟨v,s1,R,t,Q⟩:=Tp h (cH h G Y) hp
   split at g
   ·rename_i k' qu C;have j:=cH h G C;simp only[lD,kI]at j
    split at g
    ·rename_i F;obtain⟨rfl,rfl⟩:=F;simp only[aa,aA]at g;obtain⟨rfl,rfl⟩:=g;obtain⟨JM,W,K,H,rfl⟩:=eN U;obtain⟨a,MJ,q,L,rfl⟩:=dx K;obtain⟨b,l,rfl⟩:=fv L;rw[R]at l;cases l;simp only[SE.d,SK.d,aa]at q;subst q;obtain⟨o,es,B,i,t2,t3,rfl⟩:=K0 H;simp only[bZ,D.list.injEq,true_and,and_true]at i;obtain⟨⟨rfl,rfl⟩,rfl⟩:=i;have w:=Q B rfl;simp only[aJ,bD]at t2 t3;refine⟨_,by simp only[ky,w,j];rw[if_pos ⟨trivial,trivial,t2,t3⟩],?_⟩;exact ((t.mono [_]).newRow d0 (nn T (by simp))).put _ qg.ref
    ·cases g
   ·rename_i r C;have j:=cH h G C;simp only[lD,kI]at j
    split at g
    ·rename_i row hl
     split at g
     ·rename_i F;obtain⟨rfl,rfl,X⟩:=F;simp only[aa,aA]at g;obtain⟨rfl,rfl⟩:=g;obtain⟨JM,W,K,H,rfl⟩:=eN U;obtain⟨a,MJ,q,L,rfl⟩:=dx K;obtain⟨b,l,rfl⟩:=fv L;rw[R]at l;cases l;obtain⟨o,es,B,i,t2,t3,rfl⟩:=K0 H;simp only[bZ,and_true]at i;obtain⟨rfl,rfl⟩:=i;obtain⟨f,V,JR,N,rfl⟩:=t.rw r row hl;rw[q]at N;cases N;have w:=Q B rfl;refine⟨_,by simp only[ky,w,j,V];rw[if_pos ⟨trivial,trivial,X,t2,t3⟩],?_⟩;exact ((t.mono [_]).newRow r (nn T rfl)).put _ qg.ref
     ·cases g
    ·cases g
   ·cases g
  ·cases g
 ·cases g
theorem O1(h:Rel ρ S s)(p:iJ ρ gs=Z I){e:SE}{lo w:u KX}{b:PO×M SE}(i:Y5 S gs e lo w=Z b){k:Nat}{F:Bool}{es:M (M D)}(B:e.d ρ=Z (.list k F es))(C:kC ρ [b]=Z iy):∃x y,sa s lo 0=Z x/\sa s w es.length=Z y/\x<=y/\y<=es.length/\iy=ρ++[.list k F ((es.take y).drop x)]:=by
 unfold Y5 at i
 split at i
 ·split at i
  ·rename_i l o;cases i;obtain⟨T,v,q,f,rfl⟩:=eN C;obtain⟨a,Q,j,t,rfl⟩:=dx q;obtain⟨b,r,rfl⟩:=fv t;rw[B]at j;cases j;simp only[aK]at f
   split at f
   ·rename_i x m
    split at f
    ·rename_i g;cases f;refine⟨x,es.length,Jy h p o r m 0 (λ_=>rfl),rfl,g,au _,by rw[bN]⟩
    ·cases f
   ·cases f
  ·cases i
 ·rename_i L
  split at i
  ·rename_i l y o K;cases i;obtain⟨T,v,q,f,rfl⟩:=eN C;obtain⟨a,Q,j,t,rfl⟩:=dx q;obtain⟨b,G,r,P,rfl⟩:=dx t;obtain⟨c,N,rfl⟩:=fv P;rw[B]at j;cases j;simp only[aK]at f
   split at f
   ·rename_i x H m R
    split at f
    ·rename_i g;cases f;refine⟨x,H,Jy h p o r m 0 (λ_=>rfl),Jy (lo:=Z L) h p K N R _ (λh=>by cases h),g.1,g.2,rfl⟩
    ·cases f
   ·cases f
  ·cases i
theorem XK(h:Rel ρ S s)(m:iJ ρ gs=Z I)(F:n=ρ.length){k:Nat}{x:KX}{v w:u KX}(e:nF hint S gs n d (.cut k x v w)=Z (bs,S'))(y:kC ρ bs=Z iy):∃t,ky cf mf s d (.cut k x v w)=Z t/\Rel iy S' t:=by
 simp only[nF]at e
 split at e
 ·rename_i d0 K L p;have f:=cH h m p;simp only[lD,kI]at f
  split at e
  ·rename_i b q
   split at e
   ·rename_i l;subst l;simp only[aa,aA]at e;obtain⟨rfl,rfl⟩:=e;obtain⟨a,H,o,j,i,g,rfl⟩:=O1 (es:=[]) h m q rfl y;simp only[aJ,Nat.le_zero]at g j;subst g;simp only[Nat.le_zero]at i;subst i;refine⟨_,by simp only[ky,f,o,j];rw[if_pos ⟨trivial,trivial,trivial⟩],(h.mono _).put _ (qg.nil (by simp only[lD,kI]))⟩
   ·cases e
  ·cases e
 ·rename_i d0 r p;have f:=cH h m p;simp only[lD,kI]at f
  split at e
  ·rename_i row G;obtain⟨c,C,N,B,rfl⟩:=h.rw r row G
   split at e
   ·rename_i b q
    split at e
    ·rename_i l;simp only[aa,aA]at e;obtain⟨rfl,rfl⟩:=e;obtain⟨a,H,o,j,i,g,rfl⟩:=O1 h m q B y;refine⟨_,by simp only[ky,f,C,o,j];rw[if_pos ⟨l.1,i,g,l.2⟩],?_⟩;exact ((h.mono [_]).newRow r (nn F rfl)).put _ qg.ref
    ·cases e
   ·cases e
  ·cases e
 ·cases e
theorem XJ(h:Rel ρ S s)(t:iJ ρ gs=Z I)(i:n=ρ.length){k:Nat}{x y:KX}(g:nF hint S gs n d (.Gn k x y)=Z (bs,S'))(U:kC ρ bs=Z iy):∃l,ky cf mf s d (.Gn k x y)=Z l/\Rel iy S' l:=by
 simp only[nF]at g
 split at g
 ·rename_i d0 r e Q P;have q:=cH h t Q;simp only[lD,kI]at q;obtain⟨v,N,L⟩:=lN h t P
  split at g
  ·rename_i row R;obtain⟨f,C,JR,B,rfl⟩:=h.rw r row R
   split at g
   ·rename_i T;obtain⟨o,K,G,F⟩:=T;simp only[aa,aA]at g;obtain⟨rfl,rfl⟩:=g;obtain⟨TY,BZ,Ar⟩:=vn (bs:=[_]) (cs:=[_]) U;obtain⟨w,v1,f1,Y,rfl⟩:=eN BZ;obtain⟨JM,v',W,V,rfl⟩:=eN Ar;obtain⟨a,MJ,j,t2,rfl⟩:=dx f1;obtain⟨b,t3,rfl⟩:=fv t2;rw[B]at j;cases j;rw[N]at t3;cases t3;obtain⟨k',es,ju,p,i2,rfl⟩:=U0 Y;simp only[bZ,D.list.injEq,and_true]at p;obtain⟨⟨i3,i4,rfl⟩,rfl⟩:=p;obtain⟨c,c1,rfl⟩:=fv W;obtain⟨H,X,es2,m,rfl⟩:=U3 V;simp only[SE.d,i,j8,aa]at c1;subst c1;simp only[bZ,D.list.injEq,and_true]at m;obtain⟨rfl,rfl,rfl⟩:=m;refine⟨_,by simp only[ky,q,L,C];rw[if_pos ⟨o,by rw[<- i3,o],trivial,K,G,F,i2⟩],?_⟩;refine Rel.put ?_ _ (qg.new (by rw[i];simp));exact ((h.mono [_]).setRow r (nn i (by rw[i3,i4]))).mono [_]
   ·cases g
  ·cases g
 ·cases g
theorem aa9(h:Rel ρ S s)(V:iJ ρ gs=Z I)(U:n=ρ.length){x y:KX}(g:nF hint S gs n d (.jn x y)=Z (bs,S'))(w:kC ρ bs=Z iy):∃m,ky cf mf s d (.jn x y)=Z m/\Rel iy S' m:=by
 simp only[nF]at g
 split at g
 ·rename_i d0 r c hx hy;have T:=cH h V hx;simp only[lD,kI]at T;have i:=cH h V hy
  split at g
  ·rename_i row hl;obtain⟨f,X,JR,H,rfl⟩:=h.rw r row hl
   split at g
   ·rename_i hk;obtain⟨Q,P,k3,k4⟩:=hk;have p:∀{e:SE} {v:D},e.d ρ=Z v->(∀o j,v=.list 1 o j->GZ s r (fX s y)=Z j)->kC ρ [(.jnl,[row.e,e]),(.jnb,[row.e,e])]=Z iy->S'=(S.setRow r ⟨.v n,row.k,row.fl,row.deep,row.app,row.fz⟩).put (Z d0) ⟨[],vN (n+1)⟩->∃m,ky cf mf s (Z d0) (.jn x y)=Z m/\Rel iy S' m:=by
     rintro e v t sV w rfl
     obtain⟨TY,BZ,Ar⟩:=vn (bs:=[_]) (cs:=[_]) w;obtain⟨W,v1,f1,f2,rfl⟩:=eN BZ;obtain⟨JM,v',h1,h2,rfl⟩:=eN Ar;obtain⟨a,MJ,l,t2,rfl⟩:=dx f1;obtain⟨b,t3,rfl⟩:=fv t2;rw[H]at l;cases l;rw[t]at t3;cases t3;obtain⟨es,o,j,bs,cs,R,i2,i3,i4,i5,rfl⟩:=U2 f2;simp only[bZ,D.list.injEq,and_true]at R;obtain⟨⟨_,_,rfl⟩,rfl⟩:=R;obtain⟨a,MJ,l,t2,rfl⟩:=dx h1;obtain⟨b,t3,rfl⟩:=fv t2;rw[SE.mono _ H]at l;cases l;rw[SE.mono _ t]at t3;cases t3;obtain⟨_,_,es2,_,_,anD,bs',jP,N,L,K,rfl⟩:=U1 h2;simp only[bZ,D.list.injEq,and_true]at N;obtain⟨⟨_,_,rfl⟩,⟨_,_,rfl⟩⟩:=N;rw[i4]at L;cases L;rw[i5]at K;cases K;refine⟨_,by simp only[ky,T,sV o j rfl,X];rw[if_pos ⟨Q,P,k3,k4,i2⟩];simp only[i4,i5];rw[if_pos i3],?_⟩;refine Rel.put ?_ _ (qg.new (by rw[U];simp));exact ((h.mono [_]).setRow r (nn U (by rw[Q,P]))).mono [_]
    split at g
    ·rename_i e;simp only[aa,aA]at g;obtain⟨rfl,G⟩:=g;obtain⟨v,t,j2⟩:=i;exact p t (λo j F=>by rw[j2,F];rfl) w G.symm
    ·rename_i q
     split at g
     ·rename_i L1 Y
      split at g
      ·rename_i hq;simp only[aa,aA]at g;obtain⟨rfl,G⟩:=g;simp only[lD,kI]at i;obtain⟨z',C,akP,B,rfl⟩:=h.rw q L1 Y;refine p B (λo j F=>?_) w G.symm
       injection F with e1 e2 e3
       subst e3;simp only[i,GZ,C];rw[if_pos hq]
      ·cases g
     ·cases g
    ·cases g
   ·cases g
  ·cases g
 ·cases g
theorem kI.iF(q i:Nat):∀{x:SB} {c:C},kI ρ x c->kI ρ (x.iF q i) (c.iF q i)
 | .d e,_,⟨x,b,a⟩=>by subst a;exact⟨x,b,rfl⟩
 | .nil _ _,_,h=>by simp only[kI]at h;subst h;rfl
 | .ref r,_,h=>by
  simp only[kI]at h;subst h;simp only[SB.iF,C.iF];split
  ·rfl
  ·split
   ·trivial
   ·rfl
 | .any,_,_=>trivial
theorem eR.iF(q i:Nat):∀{a:M SB} {b:M C},eR ρ a b->eR ρ (a.map (SB.iF q i)) (C.A8 q i b)
 |[],_,h=>by simp only[eR]at h;subst h;rfl
 |_::_,_,⟨c,j,g,f,e⟩=>by subst g;exact⟨_,_,rfl,f.iF q i,eR.iF q i e⟩
theorem uw.iF(q i:Nat):∀{f:M (SB ⊕ M SB)} {g:M C},uw ρ f g->uw ρ (f.map λ| .inl x=>.inl (x.iF q i) | .inr l=>.inr (l.map (SB.iF q i))) (C.A8 q i g)
 |[],_,h=>by simp only[uw]at h;subst h;rfl
 | .inl _::_,_,⟨c,j,e,b,a⟩=>by subst e;exact⟨_,_,rfl,b.iF q i,uw.iF q i a⟩
 | .inr _::_,_,⟨k,j,e,b,a⟩=>by subst e;exact⟨_,_,rfl,b.iF q i,uw.iF q i a⟩
theorem lD.iF(q i:Nat):∀{x:SC} {c:C},lD ρ x c->lD ρ (x.iF q i) (c.iF q i)
 | .b _,_,h=>kI.iF q i h
 | .agg _,_,⟨cs,e,f⟩=>by subst e;exact⟨_,rfl,f.iF q i⟩
 | .rf _,_,⟨cs,e,f⟩=>by subst e;exact⟨_,rfl,f.iF q i⟩
 | .ptr b o,_,h=>by simp only[lD]at h;subst h;rfl
 | .oO r k a o,_,⟨n,e,f⟩=>by
  subst f;simp only[SC.iF,C.iF];split
  ·exact⟨n,e,rfl⟩
  ·split
   ·trivial
   ·exact⟨n,e,rfl⟩
 | .tN _ _,_,⟨x,cs,e,f,g⟩=>by subst g;exact⟨x,cs,e,f,rfl⟩
 | .any,_,_=>trivial
theorem Rel.iF(h:Rel ρ S s)(q i:Nat){row:SR}{y:Row}(o:Yp ρ row y):Rel ρ (S.iF q i row) (s.iF q i y) where
 sl d g a:=by
  simp only[SS.iF]at a;rw[pq (λg:SG=>(⟨g.gs,g.c.iF q i⟩:SG)),ak]at a;obtain⟨t,e,rfl⟩:=a;obtain⟨b,l,k,p⟩:=h.sl d t e;have:(s.iF q i y).get d=(s.get d).iF q i:=by
   simp only[St.get,St.iF,Xm];rw[pq (C.iF q i)];cases look s.sl d<;>rfl
  rw[this];exact⟨b,l,λj=>(k j).iF q i,λj=>by rw[p j];rfl⟩
 bx b m a:=by
  simp only[SS.iF]at a;rw[pq (λm:M SB=>m.map (SB.iF q i)),ak]at a;obtain⟨w,e,rfl⟩:=a;obtain⟨v,l,k⟩:=h.bx b w e;refine⟨C.A8 q i v,?_,k.iF q i⟩;simp only[St.iF,Xl];rw[pq (C.A8 q i),l];rfl
 rw r x a:=by
  simp only[SS.iF,look,fg]at a;simp only[St.iF,look,fg]
  split at a
  ·rename_i f;cases a;exact⟨y,by rw[if_pos f],o⟩
  ·rename_i f;rw[if_neg f]
   split at a
   ·cases a
   ·rename_i e;rw[if_neg f,if_neg e];exact h.rw r x a
theorem XM(h:Rel ρ S s)(f:iJ ρ gs=Z I){x:KX}(a:nF hint S gs n d (.P9 x)=Z (bs,S'))(g:kC ρ bs=Z iy):∃i,ky cf mf s d (.P9 x)=Z i/\Rel iy S' i:=by
 simp only[nF]at a
 split at a
 ·rename_i d0 q b;have c:=cH h f b;simp only[lD,kI]at c
  split at a
  ·rename_i row p;simp only[aa,aA]at a;obtain⟨rfl,rfl⟩:=a;cases g;obtain⟨y,l,j⟩:=h.rw q row p;exact⟨_,by simp only[ky,c,l],(h.iF q (um d0 0) j).put _ qg.ref⟩
  ·cases a
 ·rename_i d0 k r b;have c:=cH h f b;simp only[lD,kI]at c;simp only[aa,aA]at a;obtain⟨rfl,rfl⟩:=a;cases g;exact⟨s.put (Z d0) (.nil k r),by simp only[ky,c],h.put _ (qg.nil (by simp only[lD,kI]))⟩
 ·rename_i d0 e b;obtain⟨v,o,m⟩:=cH h f b;simp only[aa,aA]at a;obtain⟨rfl,rfl⟩:=a;cases g;exact⟨_,by simp only[ky,m],h.put _ (qg.nil ⟨v,o,rfl⟩)⟩
 ·cases a
theorem Rw{x y c v:D}(h:aK (.zt J) [x,y,c]=Z v):∃k f es a b,x=.list k f es/\y=.int .i64 a/\c=.int .i64 b/\0<=a/\a < b/\b<=es.length/\es.length * 56<=room/\v=.list k f (es.take a.toNat++es.drop b.toNat):=by
 cases x<;>cases y<;>cases c<;>first|(simp[aK]at h;done)|skip
 rename_i k f es i a g b;cases i<;>first|(simp[aK]at h;done)|skip
 cases g<;>first|(simp[aK]at h;done)|skip
 simp only[aK]at h
 split at h
 ·rename_i e;cases h;exact⟨_,_,_,_,_,rfl,rfl,rfl,e.1,e.2.1,e.2.2.1,e.2.2.2,rfl⟩
 ·cases h
theorem Rx{x y b v:D}(h:aK (.zt I) [x,y,b]=Z v):∃k f es a i g c,x=.list k f es/\y=.int .i64 a/\b=.list i g c/\0<=a/\a<=es.length/\c≠[]/\(es.length+c.length) * 56<=room/\v=.list k f (es.take a.toNat++c++es.drop a.toNat):=by
 cases x<;>cases y<;>cases b<;>first|(simp[aK]at h;done)|skip
 rename_i k f es j a i g c;cases j<;>first|(simp[aK]at h;done)|skip
 simp only[aK]at h
 split at h
 ·rename_i e;cases h;exact⟨_,_,_,_,_,_,_,rfl,rfl,rfl,e.1,e.2.1,e.2.2.1,e.2.2.2,rfl⟩
 ·cases h
theorem XN(h:Rel ρ S s)(H:iJ ρ gs=Z I)(hn:n=ρ.length){ins:Bool}{x i b:KX}(f:nF hint S gs n d (.zt ins x i b)=Z (bs,S'))(hb:kC ρ bs=Z iy):∃V,ky cf mf s d (.zt ins x i b)=Z V/\Rel iy S' V:=by
 simp only[nF]at f
 split at f
 ·rename_i d0 a c r hi hz hx;have C:=cH h H hx;have g:=cH h H hz;simp only[lD,kI]at C;obtain⟨va,j1,j2⟩:=lN h H hi
  split at f
  ·rename_i row hl;obtain⟨zz,U,JR,T,rfl⟩:=h.rw r row hl
   split at f
   ·rename_i hk;obtain⟨k1,Y,X,W⟩:=hk
    split at f
    ·rename_i e;obtain⟨ve,g1,g2⟩:=g
     split at f
     ·rename_i Q;subst Q;simp only[aa,aA]at f;obtain⟨rfl,rfl⟩:=f;obtain⟨JM,v',L,K,rfl⟩:=eN hb;obtain⟨a1,MJ,o,P,rfl⟩:=dx L;obtain⟨a2,t,m,N,rfl⟩:=dx P;obtain⟨a3,l,rfl⟩:=fv N;rw[T]at o;cases o;rw[j1]at m;cases m;rw[g1]at l;cases l;obtain⟨k,fl,es,p,q,j,rfl,rfl,t2,t3,t4,t5,rfl⟩:=Rw K;simp only[D.list.injEq]at j;obtain⟨w,v,rfl⟩:=j;have B:xT s J p (fX s b)=Z (q,[],I,s):=by rw[g2];simp only[xT];rw[if_pos ⟨trivial,t3⟩]
      refine⟨_,by simp only[ky,j2,B,C,U];rw[if_pos ⟨k1,Y,X,W,t2,t4,by simpa using t5⟩],?_⟩;exact ((h.mono [_]).newRow r (by rw[ed,aQ];exact nn hn (by rw[w,v]))).put _ qg.ref
     ·cases f
    ·rename_i q;simp only[lD,kI]at g
     split at f
     ·rename_i y G;obtain⟨z2,w3,R,w4,rfl⟩:=h.rw q y G
      split at f
      ·rename_i hc;obtain⟨rfl,F,y1,y2,y3⟩:=hc;simp only[aa,aA]at f;obtain⟨rfl,rfl⟩:=f;obtain⟨JM,v',L,K,rfl⟩:=eN hb;obtain⟨a1,MJ,o,P,rfl⟩:=dx L;obtain⟨a2,t,m,N,rfl⟩:=dx P;obtain⟨a3,l,rfl⟩:=fv N;rw[T]at o;cases o;rw[j1]at m;cases m;rw[w4]at l;cases l;obtain⟨k,fl,es,p,k',qu,ju,j,rfl,t0,t2,t4,t5,t8,rfl⟩:=Rx K;simp only[D.list.injEq]at j t0;obtain⟨w,v,rfl⟩:=j;obtain⟨_,_,rfl⟩:=t0;have B:xT s I p (fX s b)=Z (p,R,y.deep && !y.fz,s.cQ q):=by rw[g];simp only[xT,w3];rw[if_pos ⟨trivial,y1,y2,y3,t5⟩]
       have w5:look (s.cQ q).rw r=Z ⟨JR,row.k,row.fl,row.deep,row.app,row.fz⟩:=by simp only[St.cQ,fg];rw[if_neg F];exact U
       refine⟨_,by simp only[ky,j2,B,C,w5];rw[if_pos ⟨k1,Y,X,W,t2,t4,t8⟩],?_⟩;exact (((h.cQ q).mono [_]).newRow r (nn hn (by rw[w,v]))).put _ qg.ref
      ·cases f
     ·cases f
    ·cases f
   ·cases f
  ·cases f
 ·cases f
theorem Oq(h:Rel ρ S s)(f:iJ ρ gs=Z I)(g:n=ρ.length){o:KO}(c:nF hint S gs n d o=Z (bs,S'))(e:kC ρ bs=Z iy):o.pU=J/\∃l,ky cf mf s d o=Z l/\Rel iy S' l:=by
 cases o with
 |alloc p=>exact⟨rfl,Oo h c e⟩
 |box x=>exact⟨rfl,XI h f c e⟩
 |qx k j q=>exact⟨rfl,EP h f g c e⟩
 |Wt k j q=>exact⟨rfl,XL h f g c e⟩
 |make k b j p x=>exact⟨rfl,To h f g c e⟩
 |st m x y=>exact⟨rfl,aa_ h f g c e⟩
 |app k b j x y=>exact⟨rfl,XH h f g c e⟩
 |cut k x r t=>exact⟨rfl,XK h f g c e⟩
 |Gn k x y=>exact⟨rfl,XJ h f g c e⟩
 |jn x y=>exact⟨rfl,aa9 h f g c e⟩
 |zt ins x i a=>exact⟨rfl,XN h f g c e⟩
 |P9 x=>exact⟨rfl,XM h f c e⟩
 |_=>cases c
end
end
section
open Go.RowKit
inductive Ty where
 |int
 |bool
 |str
 |byte
 |list (t:Nat)
def Ty.plain:Ty->Bool
 | .list _=>J
 |_=>I
def lay:Nat->M Ty
 |0=>[.str]
 |1=>[.str,.list 0,.int,.bool]
 |2=>[.str,.str,.list 2]
 |3=>[.int,.str,.str,.list 3]
 |4=>[.int,.int,.list 3]
 |5=>[.list 2,.list 4]
 |6=>[.int,.int]
 |7=>[.int,.list 6,.list 0,.str,.str]
 |8=>[.str,.str]
 |9=>[.str,.list 8]
 |10=>[.bool,.int,.list 9]
 |11=>[.int,.int,.str,.bool,.int,.list 9,.list 11]
 |12=>[.int,.str,.int,.list 6,.list 0,.str,.str,.list 0,.list 0,.str,.bool,.bool,.bool,.bool,.int,.int,.list 11,.list 11,.list 12]
 |13=>[.list 2,.int,.int]
 |14=>[.bool,.int,.int,.str,.list 2]
 |15=>[.list 12,.list 2,.list 2,.int,.list 13,.bool,.int,.int,.str,.list 2]
 |16=>[.byte]
 |_=>[]
abbrev kw(t:Nat):Nat:=(lay t).length
abbrev Bt(t:Nat):Bool:=(lay t).all Ty.plain
mutual
def Ok(B:Nat):Ty->D->Prop
 | .int,.int k n=>k=.i64/\-9223372036854775808<=n/\n<=9223372036854775807
 | .bool,.bool _=>True
 | .str,.str s=>s.size<=maxLen
 | .byte,.int k n=>k=.u8/\0<=n/\n<=255
 | .list t,.list k f es=>k=kw t/\f=Bt t/\es.length<=B/\hO B t es
 |_,_=>False
def gX(B:Nat):List Ty->List D->Prop
 |[],[]=>True
 |t::ts,d::a=>Ok B t d/\gX B ts a
 |_,_=>False
def hO(B:Nat)(t:Nat):List (List D)->Prop
 |[]=>True
 |e::es=>gX B (lay t) e/\hO B t es
end
section
variable {B:Nat}
theorem Ok.lU{d:D}(h:Ok B .int d):∃n,d=.int .i64 n/\-9223372036854775808<=n/\n<=9223372036854775807:=by
 cases d<;>simp only[Ok]at h
 obtain⟨rfl,h⟩:=h;exact⟨_,rfl,h⟩
theorem Ok.na{d:D}(h:Ok B .bool d):∃b,d=.bool b:=by
 cases d<;>simp only[Ok]at h
 exact⟨_,rfl⟩
theorem Ok.j9{d:D}(h:Ok B .str d):∃s,d=.str s/\s.size<=maxLen:=by
 cases d<;>simp only[Ok]at h
 exact⟨_,rfl,h⟩
theorem Ok.rI{d:D}(h:Ok B .byte d):∃n,d=.int .u8 n/\0<=n/\n<=255:=by
 cases d<;>simp only[Ok]at h
 obtain⟨rfl,h⟩:=h;exact⟨_,rfl,h⟩
theorem Ok.jE{t:Nat}{d:D}(h:Ok B (.list t) d):∃es,d=.list (kw t) (Bt t) es/\es.length<=B/\hO B t es:=by
 cases d<;>simp only[Ok]at h
 obtain⟨rfl,rfl,h⟩:=h;exact⟨_,rfl,h⟩
theorem gX.jF{a:M D}(h:gX B [] a):a=[]:=by
 cases a with
 |nil=>rfl
 |cons d a=>simp[gX]at h
theorem gX.cons_inv{t:Ty}{ts:M Ty}{a:M D}(h:gX B (t::ts) a):∃x b,a=x::b/\Ok B t x/\gX B ts b:=by
 cases a with
 |nil=>simp[gX]at h
 |cons d a=>simp only[gX]at h;exact⟨d,a,rfl,h⟩
theorem hO.mem{t:Nat}:∀{es:M (M D)},hO B t es->∀e∈es,gX B (lay t) e
 |[],_,e,h=>by simp at h
 |x::es,a,e,h=>by
  simp only[hO]at a;rcases aP.1 h with rfl|h
  ·exact a.1
  ·exact hO.mem a.2 e h
theorem dV{a:Type}{l:M a}{i:Nat}(h:i < l.length):nth l i=Z l[i]:=by rw[fU];simp[h]
theorem zd{a:Type}{l:M a}{i:Nat}{x:a}(h:nth l i=Z x):x∈l:=by rw[fU]at h;exact gD h
theorem hO.WA{t:Nat}{es:M (M D)}{i:Nat}{e:M D}(a:hO B t es)(h:nth es i=Z e):gX B (lay t) e:=a.mem e (zd h)
theorem gX.length{a:M Ty}:∀{b:M D},gX B a b->b.length=a.length:=by
 induction a with
 |nil=>intro b h;rw[h.jF];rfl
 |cons t a c=>intro b h;obtain⟨x,e,rfl,_,d⟩:=h.cons_inv;simp[c d]
mutual
theorem Ok.mono{B b:Nat}(a:B<=b):∀(t:Ty) (d:D),Ok B t d->Ok b t d
 | .int,.int _ _,h=>by simpa only [Ok] using h
 | .bool,.bool _,_=>by simp only[Ok]
 | .str,.str _,h=>by simpa only [Ok] using h
 | .byte,.int _ _,h=>by simpa only [Ok] using h
 | .list t,.list k f es,h=>by
  simp only[Ok]at h ⊢;exact⟨h.1,h.2.1,aL h.2.2.1 a,hO.mono a t es h.2.2.2⟩
 | .int,.bool _,h | .int,.str _,h | .int,.list _ _ _,h | .bool,.int _ _,h | .bool,.str _,h | .bool,.list _ _ _,h | .str,.int _ _,h | .str,.bool _,h | .str,.list _ _ _,h | .list _,.int _ _,h | .list _,.bool _,h | .list _,.str _,h | .byte,.bool _,h | .byte,.str _,h | .byte,.list _ _ _,h=>by simp only[Ok]at h
theorem gX.mono{B b:Nat}(a:B<=b):∀(c:List Ty) (g:List D),gX B c g->gX b c g
 |[],[],_=>by simp only[gX]
 |t::c,d::g,h=>by
  simp only[gX]at h ⊢;exact⟨Ok.mono a t d h.1,gX.mono a c g h.2⟩
 |[],_::_,h|_::_,[],h=>by simp only[gX]at h
theorem hO.mono{B b:Nat}(a:B<=b)(t:Nat):∀(es:List (List D)),hO B t es->hO b t es
 |[],h=>by simp only[hO]
 |e::es,h=>by
  simp only[hO]at h ⊢;exact⟨gX.mono a (lay t) e h.1,hO.mono a t es h.2⟩
end
end
mutual
def D.sz:D->Nat
 | .str s=>s.size
 | .list _ _ es=>es.length+nG es
 |_=>0
def fN:List D->Nat
 |[]=>0
 |d::a=>d.sz+fN a
def nG:List (List D)->Nat
 |[]=>0
 |e::es=>fN e+nG es
end
mutual
theorem Ok.small{B a:Nat}:∀(t:Ty) (d:D),Ok B t d->d.sz<=a->Ok a t d
 | .int,.int _ _,h,_=>by simpa only [Ok] using h
 | .bool,.bool _,_,_=>by simp only[Ok]
 | .str,.str _,h,_=>by simpa only [Ok] using h
 | .byte,.int _ _,h,_=>by simpa only [Ok] using h
 | .list t,.list k f es,h,b=>by
  simp only[Ok]at h ⊢;simp only[D.sz]at b;exact⟨h.1,h.2.1,by omega,hO.small t es h.2.2.2 (by omega)⟩
 | .int,.bool _,h,_ | .int,.str _,h,_ | .int,.list _ _ _,h,_ | .bool,.int _ _,h,_ | .bool,.str _,h,_ | .bool,.list _ _ _,h,_ | .str,.int _ _,h,_ | .str,.bool _,h,_ | .str,.list _ _ _,h,_ | .list _,.int _ _,h,_ | .list _,.bool _,h,_ | .list _,.str _,h,_ | .byte,.bool _,h,_ | .byte,.str _,h,_ | .byte,.list _ _ _,h,_=>by simp only[Ok]at h
theorem gX.small{B a:Nat}:∀(g:List Ty) (c:List D),gX B g c->fN c<=a->gX a g c
 |[],[],_,_=>by simp only[gX]
 |t::g,d::c,h,b=>by
  simp only[gX]at h ⊢;simp only[fN]at b;exact⟨Ok.small t d h.1 (by omega),gX.small g c h.2 (by omega)⟩
 |[],_::_,h,_|_::_,[],h,_=>by simp only[gX]at h
theorem hO.small{B a:Nat}(t:Nat):∀(es:List (List D)),hO B t es->nG es<=a->hO a t es
 |[],h,_=>by simp only[hO]
 |e::es,h,b=>by
  simp only[hO]at h ⊢;simp only[nG]at b;exact⟨gX.small (lay t) e h.1 (by omega),hO.small t es h.2 (by omega)⟩
end
abbrev alT(k:Nat)(a:Bool)(es:M (M D)):Row:=⟨es,k,a,I,I,J⟩
def own:D->RV
 | .list k a es=>.row (alT k a es)
 |d=>.d d
def agn:Nat->Nat->z->z
 |0,_,out=>out
 |f+1,n,out=>if n=0 then out else agn f (n / 10) (⟨#[dX (48+n % 10)]⟩++out)
def ah0(k:Int):z:=if k<=0 then ⟨#[109,48]⟩ else ⟨#[109]⟩++agn 20 k.toNat ⟨#[]⟩
def ahZ(q:Int):Bool:=Z' (q % 3=0)
mutual
def D.mn:D->Nat
 | .list _ _ es=>mnE es
 |_=>1
def mnC:List D->Nat
 |[]=>0
 |d::a=>d.mn+mnC a
def mnE:List (List D)->Nat
 |[]=>0
 |e::es=>mnC e+mnE es
end
mutual
def D.mk:D->Int->D
 | .int k _,q=>.int k q
 | .bool _,q=>.bool (ahZ q)
 | .str _,q=>.str (ah0 q)
 | .list k a es,q=>.list k a (mkE es q)
def mkC:List D->Int->List D
 |[],_=>[]
 |d::b,q=>d.mk q::mkC b (q+d.mn)
def mkE:List (List D)->Int->List (List D)
 |[],_=>[]
 |e::es,q=>mkC e q::mkE es (q+mnC e)
end
theorem NN:∀(a b:M (M D)),mnE (a++b)=mnE a+mnE b
 |[],b=>by simp[mnE]
 |e::a,b=>by simp[mnE,NN a b,cV]
theorem tI:∀(a b:M (M D)),nG (a++b)=nG a+nG b
 |[],b=>by simp[nG]
 |e::a,b=>by simp[nG,tI a b,cV]
theorem cx{a:Type}:∀(es:M a) (i:Nat) (e:a),nth es i=Z e->es.take (i+1)=es.take i++[e]
 |[],_,_,h=>by simp[nth]at h
 |x::es,0,e,h=>by simp only[nth,aa]at h;simp[h]
 |x::es,i+1,e,h=>by simp only[nth]at h;simp[cx es i e h]
end
end Go.Proofs.YthlpjklbafakfaaGreatDoor
