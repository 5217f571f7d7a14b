/- Part of the proof: a machine over plain data, its proof, the functions of the program run on symbols, what they answer. Condition: none. -/
import Derived.Attr
import Derived.Test.YtcdjbelccndadaaGreatDoorZz01
set_option linter.unusedVariables false
set_option linter.unusedSimpArgs false
open Array renaming getElem?_modify->mI,toList_map->mW,replicate->nY,getElem?_eq_some_iff->pg,getElem?_eq_none->sF
open Bool renaming and_eq_true->ab,false_eq_true->au,true_and->bU,not_eq_true'->ck,false_and->df,or_eq_true->dE,and_true->fj,false_or->fQ,not_false->fX,or_false->iM,and_false->iU,or_true->jo,not_true->jB,true_or->l6
open ByteArray renaming size_append->gL
open Go renaming sizeOf->kB
open Int renaming toNat_natCast->cB
open List renaming cons_append->ai,nil_append->ak,length_map->av,mem_cons->ay,replicate->aC,append_nil->aD,length_cons->aE,getElem?_eq_some_iff->aI,mem_append->aL,map_cons->aN,length_append->aO,length_nil->aQ,all_eq_true->aS,sizeOf_lt_of_mem->aU,drop_zero->aX,length_take->aY,take_append_drop->a_,take_zero->bg,append_assoc->bh,nodup_append->bj,mem_of_mem_take->bM,mem_map->bQ,eq_nil_of_length_eq_zero->bT,all_cons->bW,nodup_cons->bZ,getElem?_append_left->cl,length_eq_zero_iff->cn,mem_cons_of_mem->cp,getElem?_append_right->cr,mem_singleton->ct,take_succ_cons->cD,length_eq_one_iff->cJ,mem_of_getElem?->cK,mem_map_of_mem->cR,map_append->dc,flatten_cons->dh,getElem?_take->dt,map_nil->dD,mem_cons_self->dQ,mem_flatten->dX,ext_getElem?->ed,replicate_succ->fp,drop_succ_cons->gu,length_drop->gN,getElem?_drop->gW,mem_of_mem_drop->iz,getElem?_eq_none->jN,mem_or_eq_of_mem_set->kD,filter_filter->lE,length_singleton->mJ,take_one->ng,head?_drop->nZ,drop_drop->pj,size_toArray->pX,map_take->qJ
open List.cons renaming injEq->bq
open Nat renaming le_refl->aj,le_trans->az,lt_of_lt_of_le->bn,zero_add->bo,lt_or_ge->cY,add_assoc->dv,min_eq_left->dU,mul_le_mul_right->er,add_zero->eA,blt->fh,succ_mul->iE,beq->jy,blt_eq->lH,eq_of_beq_eq_true->mY,ble->ny,sub_self->oP,zero_mul->oQ,zero_le->qL
open Ne renaming symm->kF
open Option renaming map_eq_some_iff->ad,map_some->aB,isSome_iff_exists->bF,bind_some->cO,isSome_some->gR,getD_some->mK,toList->mZ,isNone_iff_eq_none->pw
open Option.some renaming injEq->aa,inj->eJ
open Prod renaming fst->bG
open Prod.mk renaming injEq->ao
open SizeOf renaming sizeOf->ah
open UInt8 renaming ofNat->cL
namespace Go.Proofs.YtcdjbelccndadaaGreatDoor
section
open Go.RowKit
theorem kq:∀(rs:List Nat) (s:St) (q:Nat),look (eu s rs).rw q=if q∈rs then none else look s.rw q
 |[],s,q=>by simp[eu]
 |r::rs,s,q=>by
  simp only[eu,kq rs,St.cM,dM,ay];by_cases h:q∈rs
  ·simp[h]
  ·by_cases h2:r=q
   ·simp[h2]
   ·simp[h,h2,kF h2]
theorem mo:∀(rs:List Nat) (s:St),(eu s rs).sl=s.sl/\(eu s rs).bx=s.bx
 |[],s=>⟨rfl,rfl⟩
 |r::rs,s=>by simp only[eu];exact mo rs (s.cM r)
theorem nU:∀(rs:List Nat) (s:St) (q:Nat),look (ek s rs).bx q=if q∈rs then none else look s.bx q
 |[],s,q=>by simp[ek]
 |r::rs,s,q=>by
  simp only[ek,nU rs,dM,ay];by_cases h:q∈rs
  ·simp[h]
  ·by_cases h2:r=q
   ·simp[h2]
   ·simp[h,h2,kF h2]
theorem nj:∀(rs:List Nat) (s:St),(ek s rs).sl=s.sl/\(ek s rs).rw=s.rw
 |[],s=>⟨rfl,rfl⟩
 |r::rs,s=>by simp only[ek];exact nj rs _
theorem sG.weaken{γ γ':Gh}{M M':Own->Prop}{w w':World}(h:sG γ M w w')(hM:∀g,M (γ.ω g)->M' (γ'.ω g))(hh:∀g,γ'.h g<=γ.h g):sG γ' M' w w':=
 ⟨h.os,h.tape,h.output,h.size,λg hg hn=>h.block g hg (λhm=>hn (hM g hm)),λg j hj=>h.cell g j (bn hj (hh g)),h.eV⟩
theorem jT{P:Program}{F:FuncId}{fn:Func}(hf:P.funcs[F]?=some fn)(hb:fn.body.isSome=true)(hn:(fn.name == "runtime.NumGoroutine")=false)(args:Array Value)(w:World):(callFunc F args).run P w=.ok (.enter F args) w:=by
 have XW:¬fn.name = "runtime.NumGoroutine":=by simpa using hn
 have kU:¬fn.body=none:=by cases h:fn.body<;>simp_all
 simp[callFunc,hf,XW,kU]
theorem tN{s:St}:∀(cs:List C) {as:List A},vI s cs=some as->∀b∈cd cs,∃OQ,look s.bx b=some OQ
 |[],_,_,b,hb=>by simp[cd]at hb
 |c::cs,as,h,b,hb=>by
  simp only[vI]at h
  split at h
  ·rename_i a ha;simp only[ad]at h;obtain⟨Lc,h,_⟩:=h;by_cases hp:∃b',c=.ptr b' 0
   ·obtain⟨b',rfl⟩:=hp;simp only[cd,ay]at hb;rcases hb with rfl|hb
    ·simp only[OF]at ha
     split at ha
     ·rename_i OQ XI;exact⟨OQ,XI⟩
     ·cases ha
    ·exact tN cs h b hb
   ·have Wa:cd (c::cs)=cd cs:=by
     unfold OF at ha
     split at ha
     ·rename_i b';exact absurd ⟨b',rfl⟩ hp
     ·simp only[ad]at ha;obtain⟨rs,qX,_⟩:=ha;have qO:=zo qX;cases c<;>simp_all[cd,C.cells,C.cell]
    rw[Wa]at hb;exact tN cs h b hb
  ·cases h
section
variable {P:Program} {γ:Gh} {h0:Nat->Nat} {io:List Nat} {w0:World} {s s':St} {f:Fm} {w:World} {N:Nat} {ty:TypeId} {pos:String} {aft:Array Edge} {gd:Option (Nat×Bool)} {K:Fm->World->Prop}
 {cf:Nat->List A->Option (List A×List A)} {mf:Nat->Bool->List D->Int->Option (List D×Int)}
theorem Yu(hi:Inv γ h0 io w0 s f w){F0:FuncId}{fn:Func}(EC:P.funcs[F0]?=some fn)(Ts:fn.body.isSome=true)(QR:(fn.name == "runtime.NumGoroutine")=false){as:Array Operand}{xs:List KX}{ts:Array TypeId}{gn:Nat}(hx:yD N as.toList xs=true)
  (kN:∀a r o,cf gn a=some (r,o)->tI w0 io P F0 a r o) {dst:Option Nat} (he:kc cf mf s dst (.call gn xs)=some s') (h:∀γ' f' w',Inv γ' h0 io w0 s' f' w'->Tr dst (dW s dst (.call gn xs)) γ w γ' w' f f'->K f' w') :
  ri P N ⟨dst,.call {callee:=.value (.func F0),args:=as,argTypes:=ts },ty,pos,aft,gd⟩ f w K:=by
 simp only[kc,tR]at he
 split at he
 ·cases he
 ·rename_i cas QJ
  split at he
  ·rename_i jk;simp only[ab]at jk;obtain⟨⟨abr,HH⟩,agE⟩:=jk;rw[qx]at abr HH
   split at he
   ·cases he
   ·rename_i rs outs XL
    split at he
    ·rename_i X4;simp only[aa]at he;generalize Dd:xs.map (eU s)=cs at *;have hcr:dS γ w cs (as.toList.map (fr f N).eval):=by rw[<- Dd];exact Bq hi _ _ hx
     generalize yz:as.toList.map (fr f N).eval=vs at *;obtain⟨B4,iS,bS,slS,mS,gS,wS,e1,e2,e3⟩:=hi.xx (hH cs);have Wi:∀r∈cH s cs,r∉hH cs:=by
      intro r hr hl;have:=aS.1 agE r hr;simp[hl]at this
     obtain⟨F,rA,dA,lA,pA⟩:=GO iS bS slS mS e2 gS e3 cs hcr QJ (λr hr=>hr) Wi abr HH;have ltF:∀g∈F,g < w.heap.size:=λg hg=>by
      rcases lA g hg with ⟨r,_,h1⟩|⟨b,_,h1,_⟩<;>exact (iS.own g (by rw[h1];simp)).1
     have ioF:∀g∈F,w0.heap.size<=g\/g∈io:=λg hg=>by
      rcases lA g hg with ⟨r,_,h1⟩|⟨b,_,h1,_⟩<;>exact (iS.own g (by rw[h1];simp)).2
     have pG:=kN _ _ _ XL w B4.h vs F hi.size hi.frame ioF rA dA ltF iS.eM;have agN:as.map (fr f N).eval=vs.toArray:=by rw[<- yz];apply Array.ext';rw[mW]
     have hr:=xH (ρ:=(fr f N).eval) (dst:=dst) (ty:=ty) (pos:=pos) (aft:=aft) (gd:=gd) (w:=w) (ts:=ts) (jT EC Ts QR) rfl agN;unfold ri Oper.wp;rw[hr,Oper.upon_enter];refine Calls.mono pG λe w' hp=>?_;obtain⟨v,us,F1,F2,h',rfl,QU,qX,HJ,Wj,abd,oW⟩:=hp;have key:∀(OZ:Gh) (sX:St),Inv OZ h0 io w0 sX f w->OZ.β=γ.β->(∀g,γ.h g<=OZ.h g)->(∀g,OZ.h g<=B4.h g)->(∀g∈F,(∃r∈cH s cs,OZ.ω g=.row r)\/∃b∈cd cs,OZ.ω g=.box b/\g=OZ.β b)->(∀g,(∃r∈cH s cs,OZ.ω g=.row r)->∃r∈cH s cs,γ.ω g=.row r)->(∀g,(∃b∈cd cs,OZ.ω g=.box b)->∃b∈cd cs,γ.ω g=.box b)->sX.bx=s.bx->
       ((rs.all A.closed=true/\outs.all A.closed=true)\/∀g,g < w.heap.size->g∉F->B4.h g<=OZ.h g)->
       ∃f',(fr f N).put dst v=fr f' N/\K f' w'\/(ft (dst.getD 0) 0 rs (jM (ek (eu sX (cH s cs)) (cd cs)) cs outs)).2.put dst (match (ft (dst.getD 0) 0 rs (jM (ek (eu sX (cH s cs)) (cd cs)) cs outs)).1 with|[c]=>c|l=>.oK l)≠s':=by
      intro OZ sX iX bX mX mX2 lX ahb aha ebx rk;by_cases hse:(ft (dst.getD 0) 0 rs (jM (ek (eu sX (cH s cs)) (cd cs)) cs outs)).2.put dst (match (ft (dst.getD 0) 0 rs (jM (ek (eu sX (cH s cs)) (cd cs)) cs outs)).1 with|[c]=>c|l=>.oK l)=s'
      ·have i1:Inv OZ h0 io w0 (ek (eu sX (cH s cs)) (cd cs)) f w:=iX.sub
        (λd c hl=>by rw[(nj _ _).1,(mo _ _).1]at hl;exact hl)
        (λd c hl=>by
         rw[nU,(mo _ _).2]at hl
         split at hl
         ·cases hl
         ·exact hl)
        (λd c hl=>by
         rw[(nj _ _).2,kq]at hl
         split at hl
         ·cases hl
         ·exact hl)
       obtain⟨mP,pf,i2,b2,yi,m2,k2,n2,o2,x2,f2⟩:=i1.after (mv:=cH s cs) (bs:=cd cs) oW mX2 (λg hg=>by
         rcases lX g hg with h1|⟨b,hb,h1,_⟩
         ·exact .inl h1
         ·exact .inr ⟨b,hb,h1⟩) (λr hr=>by rw[(nj _ _).2,kq,if_pos hr]) (λb hb=>by rw[nU,if_pos hb]) (λg hg b hb=>by
         rcases lX g hg with ⟨r,_,h1⟩|⟨b',kU,h1,h2⟩
         ·rw[h1]at hb;cases hb
         ·have h3:=pA b' kU;rw[bS,<- bX,<- h2]at h3;exact (HJ.ptr g h3).1)
       have heq:∀g∈F1++F2,pf.h g=h' g:=λg hg=>n2 g (abd g hg).1;have hle:(rs.all A.closed=true/\outs.all A.closed=true)\/∀g,h' g<=pf.h g:=by
        rcases rk with rk|rk
        ·exact .inl rk
        ·refine .inr λg=>?_;rcases cY g w.heap.size with h1|h1
         ·by_cases h2:g∈F
          ·rw[n2 g (.inr h2)];exact aj _
          ·rw[k2 g h1 h2,oW.hold g h1 h2];exact rk g h1 h2
         ·rw[n2 g (.inl h1)];exact aj _
       have QT:kG pf.h w' outs (fS cas vs) F2:=HJ.re (λg hg=>heq g (by simp[hg])) (hle.imp (λh=>h.2) id);have agK:kG pf.h w' rs us F1:=qX.re (λg hg=>heq g (by simp[hg])) (hle.imp (λh=>h.1) id);have V7:∀g∈F1++F2,(pf.ω g=.free\/pf.ω g=.dd\/Value.pointer (some ⟨g,0,none⟩)∈fS cas vs)/\g < w'.heap.size/\(w0.heap.size<=g\/g∈io):=by
        intro g hg;obtain⟨h1,h2⟩:=abd g hg;rcases h1 with h1|h1
        ·exact⟨.inl (f2 g h1),h2,.inl (az hi.size h1)⟩
        ·rcases lX g h1 with h3|⟨b,hb,h3,h4⟩
         ·have ho:=o2 g h1 h3;exact⟨.inr (.inl ho),h2,(i2.own g (by rw[ho];simp)).2⟩
         ·have ho:=x2 g b h3;refine⟨.inr (.inr ?_),h2,(i2.own g (by rw[ho];simp)).2⟩;have h5:=pA b hb;rw[bS,<- bX,<- h4]at h5;exact h5
       rw[bj]at Wj;obtain⟨vR,JZ,qW⟩:=Wj;obtain⟨lN,i3,b3,h3,o3⟩:=xF cs (s':=s) i2 (by rw[b2,bX];exact hcr.Ou) QJ QT JZ (λg hg=>V7 g (by simp[hg])) (λb hb=>by
         obtain⟨OQ,XI⟩:=tN cs QJ b hb;obtain⟨T,us',_,_,k3⟩:=iX.bx b OQ (by rw[ebx];exact XI);rw[b2];exact x2 _ b k3)
       obtain⟨MY,i4,c4,b4,h4,_⟩:=vC (d:=dst.getD 0) rs 0 i3 (by rw[h3];exact agK) vR (λg hg=>by
         obtain⟨k1,k2',k3⟩:=V7 g (by simp[hg]);have iO:g∉F2:=λh=>qW g hg g h rfl;refine⟨?_,k2',k3⟩;rw[o3 g iO];rcases k1 with k1|k1|k1
         ·exact .inl k1
         ·exact .inr k1
         ·exact absurd (QT.ptr g k1).2 iO) (λa ha=>by
         have hs:=aS.1 X4 a ha;cases a with
         |val ag vs=>exact⟨ag,vs,rfl,by simpa [A.short] using hs⟩
         |box vs=>simp[A.short]at hs)
       have LN:CR MY w' (match (ft (dst.getD 0) 0 rs (jM (ek (eu sX (cH s cs)) (cd cs)) cs outs)).1 with|[c]=>c|l=>.oK l) v:=by
        generalize (ft (dst.getD 0) 0 rs (jM (ek (eu sX (cH s cs)) (cd cs)) cs outs)).1=l at c4;have hl:=c4.length;rcases QU with rfl|⟨iO,rfl⟩
        ·cases l with
         |nil=>simp at hl
         |cons c l=>
          cases l with
          |nil=>exact wG c4
          |cons c' l=>simp at hl
        ·split
         ·rename_i c;simp at hl;exact absurd hl iO
         ·simp only[CR];exact⟨us,rfl,c4⟩
       have htr:∀f':Fm,FOk dst f f'->Tr dst (dW s dst (.call gn xs)) γ w MY w' f f':=λf' hfo=>by
        refine⟨mP.weaken (λg hg=>?_) mX,λb _=>by rw[b4,b3,b2,bX],λg=>by rw[h4,h3];exact az (mX g) (m2 g),hfo⟩;simp only[dW,Dd,yL];rcases hg with ⟨r,hr,h5⟩|⟨b,hb,h5⟩
        ·obtain⟨r',yW,h6⟩:=ahb g ⟨r,hr,h5⟩;exact⟨r',by simp[yW],.inr h6⟩
        ·obtain⟨b',kU,h6⟩:=aha g ⟨b,hb,h5⟩;exact⟨b',by simp[kU],.inl h6⟩
       cases dst with
       |none=>
        refine⟨f,.inl ⟨rfl,h MY f w' ?_ (htr _ .skip)⟩⟩;rw[<- hse];exact i4
       |some d=>
        refine⟨yo f d v,.inl ⟨qj f N d v,h MY _ w' ?_ (htr _ .put)⟩⟩;rw[<- hse];exact i4.put d _ v LN
      ·exact⟨f,.inr hse⟩
     have lG:∀g∈F,(∃r∈cH s cs,γ.ω g=.row r)\/∃b∈cd cs,γ.ω g=.box b/\g=γ.β b:=by
      intro g hg;rcases lA g hg with ⟨r,hr,h1⟩|⟨b,hb,h1,h2⟩
      ·rcases wS g with h3|h3|h3|⟨q,hq,h3⟩
       ·exact .inl ⟨r,hr,h3.symm.trans h1⟩
       ·rw[h1]at h3;cases h3
       ·rw[h1]at h3;cases h3
       ·rw[h1]at h3;cases h3;exact absurd hq (Wi r hr)
      ·rcases wS g with h3|h3|h3|⟨q,hq,h3⟩
       ·exact .inr ⟨b,hb,h3.symm.trans h1,by rw[<- bS];exact h2⟩
       ·rw[h1]at h3;cases h3
       ·rw[h1]at h3;cases h3
       ·rw[h1]at h3;cases h3
     have fin:∃f',(fr f N).put dst v=fr f' N/\K f' w':=by
      by_cases rk:(rs.all A.closed && outs.all A.closed)=true
      ·rw[if_pos rk]at he;rw[ab]at rk;obtain⟨f',h1|h1⟩:=key γ s hi rfl (λ_=>aj _) mS lG (λ_ h=>h) (λ_ h=>h) rfl (.inl rk)
       ·exact⟨f',h1⟩
       ·exact absurd he h1
      ·rw[if_neg rk]at he;obtain⟨f',h1|h1⟩:=key B4 (dJ s (hH cs)) iS bS mS (λ_=>aj _) lA (λg ⟨r,hr,h1⟩=>by
         rcases wS g with h3|h3|h3|⟨q,hq,h3⟩
         ·exact⟨r,hr,h3.symm.trans h1⟩
         ·rw[h1]at h3;cases h3
         ·rw[h1]at h3;cases h3
         ·rw[h1]at h3;cases h3;exact absurd hq (Wi r hr)) (λg ⟨b,hb,h1⟩=>by
         rcases wS g with h3|h3|h3|⟨q,hq,h3⟩
         ·exact⟨b,hb,h3.symm.trans h1⟩
         ·rw[h1]at h3;cases h3
         ·rw[h1]at h3;cases h3
         ·rw[h1]at h3;cases h3) e2 (.inr λ_ _ _=>aj _)
       ·exact⟨f',h1⟩
       ·exact absurd he h1
     exact fin
    ·cases he
  ·cases he
end
end
section
open Go.RowKit
section
variable {P:Program} {γ:Gh} {h0:Nat->Nat} {io:List Nat} {w0:World} {s s':St} {f:Fm} {w w':World} {N:Nat} {num:Nat->FuncId} {K':Fm->World->Prop}
 {cf:Nat->List A->Option (List A×List A)} {mf:Nat->Bool->List D->Int->Option (List D×Int)}
theorem Nb (hi : Inv γ h0 io w0 s f w) {c : C} {v : Value} {x : D} (hc : CR γ w c v) (hx : iP s c = some x) :
    ∃ G, Rp w x v G /\ (G.map bG).Nodup /\ (∀ be ∈ G, ∃ r ∈ rowsOf [c], γ.ω be.1 = .row r /\ γ.h be.1 = 0 /\ mM w be.1) /\
      ∀ r row, c = .ref r -> look s.rw r = some row -> ∀ w' iY, Rp w' (.list row.k row.fl iY) v G -> (∀ g, mM w g -> mM w' g) -> w.heap.size <= w'.heap.size -> (x.plain = false) ->
        ∃ F, ni γ.h w' ⟨iY, row.k, row.fl, true, false, false⟩ (γ.sl r) F /\ F.Nodup /\ ∀ g ∈ F, γ.ω g = .row r := by
  cases c with
  | d y =>
    simp only [CR] at hc
    obtain ⟨F, hF, hS⟩ := hc
    refine ⟨F, ?_⟩
    cases y with
    | list k fl es =>
      cases es with
      | nil =>
        simp only [iP, aa] at hx
        subst hx
        have hF0 : F = [] := by
          simp only [Rp] at hF
          obtain ⟨A, n, cc, _, hn, _, _, _, _, _, h | ⟨hp, _⟩⟩ := hF
          · exact h.2
          · simp at hn; omega
        subst hF0
        exact ⟨hF, by simp, λbe hb => by simp at hb, λr row e => by cases e⟩
      | cons e es => simp [iP] at hx
    | int k n => simp only [iP, aa] at hx; subst hx; have : F = [] := by (simp only [Rp] at hF; exact hF.2.1)
                 subst this; exact ⟨hF, by simp, λbe hb => by simp at hb, λr row e => by cases e⟩
    | bool b => simp only [iP, aa] at hx; subst hx; have : F = [] := by (simp only [Rp] at hF; exact hF.2)
                subst this; exact ⟨hF, by simp, λbe hb => by simp at hb, λr row e => by cases e⟩
    | str b => simp only [iP, aa] at hx; subst hx; have : F = [] := by (simp only [Rp] at hF; exact hF.2.1)
               subst this; exact ⟨hF, by simp, λbe hb => by simp at hb, λr row e => by cases e⟩
  | nil k fl =>
    simp only [iP, aa] at hx
    subst hx
    simp only [CR] at hc
    refine ⟨[], ?_, by simp, λbe hb => by simp at hb, λr row e => by cases e⟩
    simp only [Rp]
    exact ⟨none, 0, 0, hc.1, rfl, aj _, by simp [maxLen], λ_ => ja, hc.2, λe he => by simp at he, .inl ⟨rfl, trivial⟩⟩
  | ref r =>
    simp only [CR] at hc
    obtain ⟨hv, _⟩ := hc
    simp only [iP] at hx
    split at hx
    · rename_i row hl
      split at hx
      · rename_i Nv
        simp only [aa] at hx
        subst hx
        obtain ⟨F, hR, jk, qP⟩ := hi.rw r row hl
        obtain ⟨A, n, c, q1, q2, q3, q4, q5, q6, q7, q8⟩ := hR
        rcases q8 with ⟨rfl, rfl, rfl⟩ | ⟨g, o, xs, G, rfl, a2, a3, a4, a5, a6, a7, a8, a9, sI⟩
        · have As : n = 0 := by omega
          refine ⟨[], ?_, by simp, λbe hb => by simp at hb, λr' IE e rq w' iY V_ _ _ _ => ?_⟩
          · simp only [Rp]
            exact ⟨none, n, 0, hv.trans q1, q2, q3, q4, q7, q5, q6, .inl ⟨As, trivial⟩⟩
          · cases e
            rw [hl] at rq
            cases rq
            simp only [Rp] at V_
            obtain ⟨A', n', c', e1, e2, e3, e4, e5, e6, e7, _⟩ := V_
            rw [hv, q1] at e1
            cases e1
            exact ⟨[], ⟨none, n, 0, q1, e2, q3, q4, e6, e7, e5, .inl ⟨rfl, rfl, rfl⟩⟩, by simp, λg hg => by simp at hg⟩
        · obtain ⟨eF, hz⟩ := a9 Nv.1
          have Cr : γ.ω g = .row r := qP g (by rw [eF]; simp)
          by_cases As : n = 0
          · refine ⟨[], ?_, by simp, λbe hb => by simp at hb, λr' IE e rq w' iY V_ J2 mH _ => ?_⟩
            · simp only [Rp]
              exact ⟨_, n, c, hv.trans q1, q2, q3, q4, q7, q5, q6, .inl ⟨As, trivial⟩⟩
            · cases e
              rw [hl] at rq
              cases rq
              simp only [Rp] at V_
              obtain ⟨A', n', c', e1, e2, e3, e4, e5, e6, e7, _⟩ := V_
              rw [hv, q1] at e1
              cases e1
              have vQ : iY = [] := cn.1 (by omega)
              subst vQ
              exact ⟨[g], ⟨_, n, c, q1, e2, q3, q4, e6, e7, e5, .inr ⟨g, o, [], [], rfl, by omega, J2 g a3, by simp [eD], λj u hu => by simp at hu, by rw [a7 Nv.2]; omega, λ_ => a7 Nv.2, (λh => by cases h), λ_ => ⟨rfl, λbe hb => by simp at hb⟩, (λh => by cases h)⟩⟩, by simp, λy hy => by simp at hy; rw [hy]; exact Cr⟩
          · refine ⟨(g, o + n * row.k) :: G, ?_, by simpa [eF] using jk, λbe hb => ?_, λr' IE e rq w' iY V_ J2 mH _ => ?_⟩
            · simp only [Rp]
              exact ⟨_, n, c, hv.trans q1, q2, q3, q4, q7, q5, q6, .inr ⟨by omega, g, o, xs, G, rfl, rfl, a4, a5⟩⟩
            · rcases ay.1 hb with rfl | hb
              · exact ⟨r, by simp [rowsOf], Cr, a7 Nv.2, a3⟩
              · exact ⟨r, by simp [rowsOf], qP _ (by rw [eF]; exact cp _ (cR hb)), (hz be hb).1, (hz be hb).2⟩
            · cases e
              rw [hl] at rq
              cases rq
              simp only [Rp] at V_
              obtain ⟨A', n', c', e1, e2, e3, e4, e5, e6, e7, e8⟩ := V_
              rw [hv, q1] at e1
              cases e1
              rcases e8 with ⟨e8, _⟩ | ⟨_, b', o', Gq, G', e9, e10, e11, e12⟩
              · omega
              · cases e9
                simp only [bq, true_and] at e10
                subst e10
                refine ⟨g :: G.map bG, ⟨_, n, c, q1, e2, q3, q4, e6, e7, e5, .inr ⟨g, o, Gq, G, rfl, by omega, J2 g a3, e11, e12, by rw [a7 Nv.2]; omega, λ_ => a7 Nv.2, (λh => by cases h), λ_ => ⟨rfl, λbe hb => ⟨(hz be hb).1, J2 _ (hz be hb).2⟩⟩, (λh => by cases h)⟩⟩, by rw [<- eF]; exact jk, λy hy => qP y (by rw [eF]; exact hy)⟩
      · cases hx
    · cases hx
  | ptr b o => simp [iP] at hx
  | na r k i o => simp [iP] at hx
  | qN cs => simp [iP] at hx
  | agg cs => simp [iP] at hx
  | oK cs => simp [iP] at hx
  | rf => simp [iP] at hx
  | any => simp [iP] at hx
theorem zN(hi:Inv γ h0 io w0 s f w):∀(cs:List C) {vs:List Value} {ds:List D},dS γ w cs vs->rJ s cs=some ds->
  ∃Fs,fO w ds vs Fs/\(∀G∈Fs,∀be∈G,∃r∈rowsOf cs,γ.ω be.1=.row r/\γ.h be.1=0/\mM w be.1)/\((rowsOf cs).Nodup->(Fs.flatten.map bG).Nodup)/\
   ∀w' ga acc jR,fO w' ga vs Fs->(∀g,mM w g->mM w' g)->w.heap.size<=w'.heap.size->ou s cs ga acc=some jR->jR.sl=acc.sl/\jR.bx=acc.bx/\
    ∀q x,look jR.rw q=some x->look acc.rw q=some x\/(q∈rowsOf cs/\∃F,ni γ.h w' x (γ.sl q) F/\F.Nodup/\∀g∈F,γ.ω g=.row q)
 |[],vs,ds,hc,hd=>by
  simp only[rJ,aa]at hd;subst hd;simp only[dS]at hc;subst hc;refine⟨[],by simp[fO],λG hG=>by simp at hG,λ_=>by simp,λw' ga acc jR hr _ _ hb=>?_⟩;cases ga with
  |nil=>simp only[ou,aa]at hb;subst hb;exact⟨rfl,rfl,λq x h=>.inl h⟩
  |cons d ds=>simp[ou]at hb
 |c::cs,vs,ds,hc,hd=>by
  simp only[rJ]at hd
  split at hd
  ·rename_i x hx;simp only[ad]at hd;obtain⟨ds0,hd,rfl⟩:=hd;simp only[dS]at hc;obtain⟨v,eb,rfl,hv,yz⟩:=hc;obtain⟨G0,k1,k2,k3,k4⟩:=Nb hi hv hx;obtain⟨Fs,l1,l2,l3,l4⟩:=zN hi cs yz hd;have Un:∀r∈rowsOf [c],rowsOf (c::cs)=r::rowsOf cs:=λr hr=>by
    cases c<;>simp[rowsOf]at hr ⊢
    exact hr.symm
   have tW:∀r∈rowsOf cs,r∈rowsOf (c::cs):=λr hr=>by
    cases c<;>simp[rowsOf,hr]
   refine⟨G0::Fs,by simp only[fO];exact⟨v,eb,G0,Fs,rfl,rfl,k1,l1⟩,λG hG be hb=>?_,λhn=>?_,λw' ga acc jR hr J2 mH hb=>?_⟩
   ·rcases ay.1 hG with rfl|hG
    ·obtain⟨r,hr,h1⟩:=k3 be hb;exact⟨r,by rw[Un r hr];simp,h1⟩
    ·obtain⟨r,hr,h1⟩:=l2 G hG be hb;exact⟨r,tW r hr,h1⟩
   ·have XW:(rowsOf cs).Nodup:=by
     cases c<;>simp[rowsOf]at hn<;>first|exact hn|exact hn.2
    rw[dh,dc,bj];refine⟨k2,l3 XW,?_⟩;intro a ha b hb e;subst e;obtain⟨be,n5,rfl⟩:=bQ.1 ha;obtain⟨be',XG,e⟩:=bQ.1 hb;obtain⟨G,hG,XG⟩:=dX.1 XG;obtain⟨r,hr,h1,_⟩:=k3 be n5;obtain⟨q,hq,h2,_⟩:=l2 G hG be' XG;rw[e,h1]at h2;cases h2;rw[Un r hr]at hn;exact (bZ.1 hn).1 hq
   ·cases ga with
    |nil=>simp only[fO]at hr;cases hr.1
    |cons d' ga=>
     simp only[fO]at hr;obtain⟨v',aiu,F',Ti,e1,e2,X0,EF⟩:=hr;cases e1;cases e2;have other:(∀r,c≠.ref r)->ou s cs ga acc=some jR->jR.sl=acc.sl/\jR.bx=acc.bx/\∀q x,look jR.rw q=some x->look acc.rw q=some x\/(q∈rowsOf (c::cs)/\∃F,ni γ.h w' x (γ.sl q) F/\F.Nodup/\∀g∈F,γ.ω g=.row q):=by
      intro _ hb;obtain⟨m1,m2,m3⟩:=l4 w' ga acc jR EF J2 mH hb;exact⟨m1,m2,λq x h=>(m3 q x h).imp id (λh=>⟨tW q h.1,h.2⟩)⟩
     cases c with
     |ref r=>
      cases d' with
      |list k fl es=>
       simp only[ou]at hb
       split at hb
       ·rename_i row hl
        split at hb
        ·rename_i XR;obtain⟨rfl,rfl⟩:=XR;have ql:x.plain=false:=by
          simp only[iP,hl]at hx
          split at hx
          ·simp only[aa]at hx;rw[<- hx];rfl
          ·cases hx
         obtain⟨m1,m2,m3⟩:=l4 w' ga _ jR EF J2 mH hb;obtain⟨F,n1,n2,n3⟩:=k4 r row rfl hl w' es X0 J2 mH ql;refine⟨m1,m2,λq y h=>?_⟩;rcases m3 q y h with h5|h
         ·rw[sd]at h5;clear h
          split at h5
          ·rename_i hq;subst hq;cases h5;exact .inr ⟨by simp[rowsOf],F,n1,n2,n3⟩
          ·exact .inl h5
         ·exact .inr ⟨tW q h.1,h.2⟩
        ·cases hb
       ·cases hb
      |int _ _=>simp[ou]at hb
      |bool _=>simp[ou]at hb
      |str _=>simp[ou]at hb
     |d y=>exact other (λr h=>by cases h) (by simpa [ou] using hb)
     |nil k fl=>exact other (λr h=>by cases h) (by simpa [ou] using hb)
     |ptr b o=>simp[iP]at hx
     |na r k i o=>simp[iP]at hx
     |qN cs=>simp[iP]at hx
     |agg cs=>simp[iP]at hx
     |oK cs=>simp[iP]at hx
     |rf=>simp[iP]at hx
     |any=>simp[iP]at hx
  ·cases hd
variable {ty:TypeId} {pos:String} {aft:Array Edge} {gd:Option (Nat×Bool)}
theorem Yw(hi:Inv γ h0 io w0 s f w){g:Nat}{fn:Func}(EC:P.funcs[num g]?=some fn)(Ts:fn.body.isSome=true)(QR:(fn.name == "runtime.NumGoroutine")=false){x x2:Operand}{y y2:KX}{ts:Array TypeId}(hx:jl N x y=true)(hx2:jl N x2 y2=true)
  (lh:∀ag ds q ga q',mf g ag ds q=some (ga,q')->oR w0 io P (num g) ag ds q ga q') {d:Nat} (he:kc cf mf s (some d) (.Mp g y y2)=some s') (hK:∀γ' f' w',Inv γ' h0 io w0 s' f' w'->Tr (some d) (dW s (some d) (.Mp g y y2)) γ w γ' w' f f'->K' f' w') :
  ri P N ⟨some d,.call {callee:=.value (.func (num g)),args:=#[x,x2],argTypes:=ts },ty,pos,aft,gd⟩ f w K':=by
 simp only[kc]at he
 split at he
 ·rename_i d0 q OT hq;cases OT
  split at he
  ·rename_i ds LO
   split at he
   ·rename_i jk;rw[qx]at jk
    split at he
    ·rename_i ga q' agz;simp only[ad]at he;obtain⟨acc,hb,rfl⟩:=he;have EF:=bH hi hx2;rw[hq]at EF;obtain⟨hqv,hqw⟩:=gT EF;have qO:(eU s y).cells.all C.cell=true:=by
      have:∀(cs:List C) {ds:List D},rJ s cs=some ds->cs.all C.cell=true:=by
       intro cs
       induction cs with
       |nil=>intro ds _;rfl
       |cons c cs ih=>
        intro ds h;simp only[rJ]at h
        split at h
        ·rename_i z hz;simp only[ad]at h;obtain⟨ds1,h1,_⟩:=h;simp only[bW,ih h1,fj];cases c<;>simp[iP]at hz<;>rfl
        ·cases h
      exact this _ LO
     obtain⟨c1,c2,c3⟩:=(bH hi hx).cells qO;obtain⟨Fs,l1,l2,l3,l4⟩:=zN hi _ c1 LO;have hFb:∀z∈Fs.flatten.map bG,∃r∈rowsOf (eU s y).cells,γ.ω z=.row r:=λz hz=>by
      obtain⟨be,n5,rfl⟩:=bQ.1 hz;obtain⟨G,hG,n5⟩:=dX.1 n5;obtain⟨r,hr,h1,_⟩:=l2 G hG be n5;exact⟨r,hr,h1⟩
     have pG:=lh _ _ _ _ _ agz w γ.h ((fr f N).eval x) _ Fs hi.size hi.frame (λz hz=>by
       obtain⟨r,_,h1⟩:=hFb z hz;exact (hi.own z (by rw[h1];simp)).2) l1 (λsQ=>by
       obtain⟨vs,e⟩:=c3 sQ;rw[e];simp[Value.cells]) (λsQ=>by rw[c2 sQ]) hqw (l3 jk) (λG hG be n5=>by
       obtain⟨r,_,_,h1,h2⟩:=l2 G hG be n5;exact⟨h1,h2⟩) hi.eM
     refine xj (xH (jT EC Ts QR) rfl (a2 rfl hqv)) pG λe w' hp=>?_;obtain⟨rfl,agI,yW,_,oW⟩:=hp;refine⟨_,rfl,?_⟩;have mP:sG γ (λo=>∃i∈rowsOf (eU s y).cells,o=.row i) w w':={
      os:=oW.os,tape:=oW.tape,output:=oW.output,size:=oW.size
      block:=λz hz hn=>oW.block z hz (λhF=>by
       obtain⟨r,hr,h1⟩:=hFb z hF;exact hn ⟨r,hr,h1⟩)
      cell:=λz j hj=>by
       rcases cY z w.heap.size with hl|hl
       ·exact oW.cell z j hl hj
       ·have:=hi.eM z hl;omega
      eV:=oW.eV }
     have hlk:∀r∈rowsOf (eU s y).cells,look (eu s (rowsOf (eU s y).cells)).rw r=none:=λr hr=>by rw[kq,if_pos hr]
     have i0:Inv γ h0 io w0 (eu s (rowsOf (eU s y).cells)) f w:=hi.sub (λe c hl=>by rw[(mo _ _).1]at hl;exact hl) (λe c hl=>by rw[(mo _ _).2]at hl;exact hl) (λe c hl=>by
      rw[kq]at hl
      split at hl
      ·cases hl
      ·exact hl)
     have i1:=i0.M6 mP (by rintro⟨r,_,h⟩;cases h) (λb h=>by obtain⟨r,_,h⟩:=h;cases h) (λr h=>by obtain⟨r',yW,h⟩:=h;cases h;exact hlk r yW);obtain⟨m1,m2,m3⟩:=l4 w' ga _ acc yW oW.eV oW.size hb;have i2:Inv γ h0 io w0 acc f w':={i1 with
      sl:=λe c hl=>i1.sl e c (by rw[<- m1];exact hl)
      bx:=λe c hl=>i1.bx e c (by rw[<- m2];exact hl)
      rw:=λr z hl=>by
       rcases m3 r z hl with h|⟨_,h⟩
       ·exact i1.rw r z h
       ·exact h }
     refine hK γ _ w' (i2.put d _ _ (gj agI)) ⟨⟨mP.os,mP.tape,mP.output,mP.size,λz hz hn=>mP.block z hz (λh=>hn ?_),mP.cell,mP.eV⟩,λ_ _=>rfl,λ_=>aj _,.put⟩;obtain⟨r,hr,h⟩:=h;exact⟨r,hr,.inr h⟩
    ·cases he
   ·cases he
  ·cases he
 ·cases he
end
end
section
open Go.RowKit
section
variable {P:Program} {γ:Gh} {h0:Nat->Nat} {io:List Nat} {w0:World} {s s':St} {f:Fm} {w:World} {N:Nat} {ty:TypeId} {pos:String} {aft:Array Edge} {gd:Option (Nat×Bool)} {K:Fm->World->Prop}
 {cf:Nat->List A->Option (List A×List A)} {mf:Nat->Bool->List D->Int->Option (List D×Int)}
theorem ab7(hi:Inv γ h0 io w0 s f w){T T' E:TypeId}{k:Nat}{x y:Operand}{a b:KX}{d:Nat}(hU:P.underlying T=some (.slice E))(hS:mE P E=some k)(hx:jl N x a=true)(hy:jl N y b=true)(he:kc cf mf s (some d) (.xP k a b)=some s')
  (h:∀γ' f' w',Inv γ' h0 io w0 s' f' w'->Tr (some d) (dW s (some d) (.xP k a b)) γ w γ' w' f f'->K f' w') :
  ri P N ⟨some d,.call {callee:=.builtin .copy,args:=#[x,y],argTypes:=#[T,T'] },ty,pos,aft,gd⟩ f w K:=by
 have ql:=bH hi hx;have XY:=bH hi hy;simp only[kc]at he
 split at he
 ·rename_i d0 r k' sO es OT Jd hyb;cases OT;rw[Jd]at ql;rw[hyb]at XY;simp only[CR,Rp]at ql XY;obtain⟨F,⟨A2,m,c2,y1,y2,y3,y4,y5,y6,y7,y8⟩,jV⟩:=XY
  split at he
  ·rename_i row hl
   split at he
   ·rename_i hc;obtain⟨rfl,rfl,rfl,hrf,Gw,qV,hle⟩:=hc;simp only[aa]at he;subst he;obtain⟨lN,A,n,c,i2,b2,yi,n6,o2,l2,q1,q2,q3,q4,q5,q6,q7,q8⟩:=hi.tf hl;have oc:(fr f N).eval x=.slice A n c:=ql.1.trans q1;have hrX:r∈dW s (some d) (.xP row.k a b):=by simp[dW,Jd,rowsOf]
    have QR:n=m:=by omega
    subst QR;have Ts:IntKind.i64.wrap (n:Int)=(n:Int):=bN (by simp only[maxLen]at q4;omega);have lQ:∀{w':World},(Builtin.copy_ #[T,T'] ty #[(fr f N).eval x,(fr f N).eval y]).run P w=.ok (.int .i64 n) w'->(execOp (fr f N).eval ⟨some d,.call {callee:=.builtin .copy,args:=#[x,y],argTypes:=#[T,T'] },ty,pos,aft,gd⟩).run P w=.ok (.value (.int .i64 n)) w':=by
     intro w' hr;simp[execOp,resolve,invoke,builtin,hr]
    have nA:goInt n=.int .i64 (n:Int):=rfl;rcases y8 with ⟨y8,rfl⟩|⟨NA,bb,oo,I2,G2,rfl,rfl,a2',a3'⟩
    ·
     have vQ:es=[]:=bT (by omega);have hre:row.es=[]:=bT (by omega);subst y8;refine sn (lQ (w':=w) ?_) ?_
     ·rw[oc,y1];cases A<;>cases A2<;>simp[Builtin.copy_,run_underlying hU,run_sizeOf hS,Builtin.lenOf,Builtin.firstCells,loadCells,loadCellsFrom,storeCells,goInt]
     ·have e1:s.setRow r {row with es:=es }=s.setRow r row:=by rw[vQ,<- hre]
      have i3:Inv γ h0 io w0 (s.setRow r row) f w:={hi with
       rw:=λq z hz=>by
        simp only[St.setRow,look]at hz;by_cases hq:r=q
        ·subst hq;simp at hz;subst hz;exact hi.rw r row hl
        ·rw[if_neg hq,dM]at hz
         split at hz
         ·cases hz
         ·exact hi.rw q z hz }
      have e2:es.length=0:=by rw[vQ];rfl
      refine h γ _ w ?_ ⟨sG.refl _ _ _,λ_ _=>rfl,λ_=>aj _,.put⟩;rw[e1,e2];exact i3.put d _ _ (gj rfl)
    ·have hG2:G2=[]:=a2'.plain (y5 rfl);subst hG2;rcases q8 with ⟨rfl,rfl⟩|⟨g,o,xs,G,rfl,a2,a3,a4,a5,a6,a7,a8,a9,sI,Tm,a12⟩
     ·omega
     obtain⟨rfl,GK,vs,hB,HN⟩:=sI qV;have hG:G=[]:=a6.plain (q7 hrf);subst hG;have yU:γ.h g=0:=a9 Gw;have QO:I2.length=n * row.k:=by rw[eD.length es a2' y7,y2]
     have hck:n * row.k<=c * row.k:=er _ q3;have agH:=a2'.qQ;have hf:=run_firstCells_some (P:=P) w row.k n ⟨bb,oo,none⟩ n c2 I2 QO (λj v hv=>by rw[nH];exact a3' j v hv);have Ct:=lz (P:=P) (o:=0) I2 0 w vs hB (by omega) agH;simp only[eA]at Ct;refine sn (lQ (w':=gk w g (.cells (cZ vs 0 I2).toArray GK (0,0))) ?_) ?_
     ·rw[oc,y1];simp[Builtin.copy_,run_underlying hU,run_sizeOf hS,Builtin.lenOf,hf,Ct,goInt]
     have lj:=Tj.gk w g (cZ vs 0 I2).toArray GK;have mP:sG γ (λo=>∃i∈dW s (some d) (.xP row.k a b),o=.box i\/o=.row i) w _:=l9 hi lj ⟨r,hrX,.inr a3⟩ (λj hj=>by rw[yU]at hj;omega);have h5:=i2.M6 (l9 i2 lj (M:=λo=>o=.dd) a4 (λj hj=>by rw[n6,yU]at hj;omega)) (by simp) (λb hb=>by cases hb) (λr hr=>by cases hr);have X5:cZ vs 0 I2=I2++vs.drop I2.length:=by simp[cZ]
     have gF:gz (gk w g (.cells (cZ vs 0 I2).toArray GK (0,0))) g 0 I2:=by
      have h7:=(hB.kz GK (cZ vs 0 I2)).J9;intro j u hu;refine h7 j u ?_;rw[X5,cl (aI.1 hu).1];exact hu
     have yW:eD (gk w g (.cells (cZ vs 0 I2).toArray GK (0,0))) es I2 []:=a2'.cG _ (λbe hb=>by simp at hb);obtain⟨MY,h6,h7,h8,h9,_,_⟩:=h5.sJ (r:=r) (x:={row with es:=es }) (n:=n) (c:=c) (g:=g) (o:=0) y2 q3 q4 q5 y7 (λ_=>y5 rfl)
      (by rw[fD];exact a2) (.inl a4) (i2.own g (by rw[a4];simp)).2 ⟨by rw[fD];omega,lj.fz⟩ yW gF (by rw[n6,yU];omega) (λ_=>by rw[n6,yU]) (λ_=>⟨rfl,GK,_,hB.kz GK _,by rw[uC (by omega)];exact HN⟩)
      (λbe hb=>by simp at hb) (λ_=>⟨by simp,λbe hb=>by simp at hb⟩) (by rw[yi];exact q1)
     have e6:(s.cM r).setRow r {row with es:=es }=s.setRow r {row with es:=es }:=by
      have:po (po s.rw r) r=po s.rw r:=by simp[po,lE]
      simp[St.setRow,St.cM,this]
     rw[e6]at h6;refine h MY _ _ ?_ ⟨mP,λ_ _=>by rw[h8,b2],λz=>by have:=h9 z;rw[n6]at this;exact this,.put⟩;rw[<- y2];exact h6.put d _ _ (gj Ts)
   ·cases he
  ·cases he
 ·cases he
end
end
section
open Go.RowKit
def ry(P:Program)(F:FuncId):Prop:=
 ∀(w:World) (g:Nat) (T:TypeId) (bs es:List Bool) (c:Nat) (b o m cc:Nat) (rest:List Value),kX w g T (bs.map Value.bool++rest)->gz w b o (es.map Value.bool)->b≠g->es.length=bs.length->bs.length<=maxLen->
  Calls P F #[.slice (some ⟨g,0,none⟩) bs.length c,.slice (some ⟨b,o,none⟩) es.length cc] w λe w'=>e=.returned (.bool (lg bs es))/\w'=gk w g (.cells ((cF bs es).map Value.bool++rest).toArray T (0,0))
def Cts(w0:World)(io:List Nat)(P:Program)(num:Nat->FuncId)(cf:Nat->List A->Option (List A×List A)):Prop:=
 (∀g a r o,cf g a=some (r,o)->tI w0 io P (num g) a r o)/\(num 9004≠1000000->ry P (num 9004))
section
variable {P:Program} {γ:Gh} {h0:Nat->Nat} {io:List Nat} {w0:World} {s s':St} {f:Fm} {w:World} {N:Nat} {ty:TypeId} {pos:String} {aft:Array Edge} {gd:Option (Nat×Bool)} {K:Fm->World->Prop}
 {cf:Nat->List A->Option (List A×List A)} {mf:Nat->Bool->List D->Int->Option (List D×Int)}
def Gh.fY(γ:Gh)(q i:Nat):Gh:=⟨γ.h,γ.β,λr=>if r=i then γ.sl q else γ.sl r,λg=>if γ.ω g=.row q then .row i else γ.ω g⟩
mutual
theorem CR.fY(γ:Gh)(w:World)(q i:Nat):∀(c:C) {v:Value},CR γ w c v->CR (γ.fY q i) w (c.fY q i) v
 | .d x,v,h=>by simp only[CR,C.fY,Gh.fY]at h ⊢;exact h
 | .nil k fl,v,h=>by simp only[CR,C.fY]at h ⊢;exact h
 | .ref r,v,h=>by
  simp only[CR]at h;simp only[C.fY];split
  ·rename_i e;subst e;simp only[CR,Gh.fY,if_true];exact h
  ·split
   ·simp only[CR]
   ·rename_i e1 e2;simp only[CR,Gh.fY,if_neg e2];exact h
 | .ptr b o,v,h=>by simp only[CR,C.fY,Gh.fY]at h ⊢;exact h
 | .na r k a o,v,h=>by
  simp only[CR]at h;simp only[C.fY];split
  ·rename_i e;subst e;simp only[CR,Gh.fY,if_true];exact h
  ·split
   ·simp only[CR]
   ·rename_i e1 e2;simp only[CR,Gh.fY,if_neg e2];exact h
 | .qN cs,v,h=>by simp only[CR,C.fY,Gh.fY]at h ⊢;exact h
 | .agg cs,v,h=>by
  simp only[CR,C.fY]at h ⊢;obtain⟨vs,h1,h2⟩:=h;exact⟨vs,h1,dS.fY γ w q i cs h2⟩
 | .oK cs,v,h=>by
  simp only[CR,C.fY]at h ⊢;obtain⟨vs,h1,h2⟩:=h;exact⟨vs,h1,dS.fY γ w q i cs h2⟩
 | .rf,v,h=>by simp only[CR,C.fY]at h ⊢;exact h
 | .any,v,h=>by simp only[CR,C.fY]
theorem dS.fY(γ:Gh)(w:World)(q i:Nat):∀(cs:List C) {vs:List Value},dS γ w cs vs->dS (γ.fY q i) w (C.xq q i cs) vs
 |[],vs,h=>by simp only[dS,C.xq]at h ⊢;exact h
 |c::cs,vs,h=>by
  simp only[dS,C.xq]at h ⊢;obtain⟨v,eb,h1,h2,h3⟩:=h;exact⟨v,eb,h1,CR.fY γ w q i c h2,dS.fY γ w q i cs h3⟩
end
theorem Oe(q i:Nat)(l:List (Nat×C))(d:Nat):look (R4 q i l) d=(look l d).map (C.fY q i):=by
 induction l with
 |nil=>rfl
 |cons p l ih=>
  obtain⟨k,x⟩:=p;unfold R4 at ih ⊢;simp only[aN,look,ih]
  split<;>rfl
theorem Od(q i:Nat)(l:List (Nat×List C))(d:Nat):look (R3 q i l) d=(look l d).map (C.xq q i):=by
 induction l with
 |nil=>rfl
 |cons p l ih=>
  obtain⟨k,x⟩:=p;unfold R3 at ih ⊢;simp only[aN,look,ih]
  split<;>rfl
theorem Inv.fY(hi:Inv γ h0 io w0 s f w){q i:Nat}{row:Row}(hl:look s.rw q=some row):Inv (γ.fY q i) h0 io w0 (s.fY q i row) f w:={hi with
 sl:=λd c h=>by
  simp only[St.fY,Oe,ad]at h;obtain⟨c',h1,rfl⟩:=h;exact CR.fY γ w q i c' (hi.sl d c' h1)
 bx:=λb cs h=>by
  simp only[St.fY,Od,ad]at h;obtain⟨iA,h1,rfl⟩:=h;obtain⟨T,vs,h2,h3,h4⟩:=hi.bx b iA h1;exact⟨T,vs,h2,dS.fY γ w q i iA h3,by simp[Gh.fY,h4]⟩
 rw:=λr x h=>by
  simp only[St.fY,look]at h;by_cases hr:i=r
  ·subst hr;simp only[if_true,aa]at h;subst h;obtain⟨F,h1,h2,h3⟩:=hi.rw q row hl;exact⟨F,by simp only[Gh.fY,if_true];exact h1,h2,λg hg=>by simp[Gh.fY,h3 g hg]⟩
  ·rw[if_neg hr,dM,if_neg hr,dM]at h
   split at h
   ·cases h
   ·rename_i hq;obtain⟨F,h1,h2,h3⟩:=hi.rw r x h;exact⟨F,by simp only[Gh.fY,if_neg (kF hr)];exact h1,h2,λg hg=>by simp[Gh.fY,h3 g hg,kF hq]⟩
 own:=λg hg=>hi.own g (λe=>hg (by simp[Gh.fY,e]))
 lJ:=λg b hg=>hi.lJ g b (by
  simp only[Gh.fY]at hg
  split at hg
  ·cases hg
  ·exact hg) }
theorem WE(hi:Inv γ h0 io w0 s f w){op:Op}{x:Operand}{y:KX}{d:Nat}(jb:op=.assign x\/op=.move x)(hx:jl N x y=true)(he:kc cf mf s (some d) (.Mq y)=some s')
  (h:∀γ' f' w',Inv γ' h0 io w0 s' f' w'->Tr (some d) (dW s (some d) (.Mq y)) γ w γ' w' f f'->K f' w'):ri P N ⟨some d,op,ty,pos,aft,gd⟩ f w K:=by
 have ql:=bH hi hx;have lQ:(execOp (fr f N).eval ⟨some d,op,ty,pos,aft,gd⟩).run P w=.ok (.value ((fr f N).eval x)) w:=by
  rcases jb with rfl|rfl
  ·exact hY rfl
  ·exact fN rfl
 refine cX lQ ?_;simp only[kc]at he
 split at he
 ·rename_i q hq;rw[hq]at ql
  split at he
  ·rename_i row hl;simp only[aa]at he;subst he;have i1:=hi.fY (i:=tw d 0) hl;exact h _ _ _ (i1.put d (.ref (tw d 0)) _ (by
    simp only[CR]at ql ⊢
    simpa [Gh.fY] using ql)) ⟨sG.refl _ _ _,λ_ _=>rfl,λ_=>aj _,.put⟩
  ·cases he
 ·rename_i hq;simp only[aa]at he;subst he;exact h _ _ _ (hi.put d _ _ ql) ⟨sG.refl _ _ _,λ_ _=>rfl,λ_=>aj _,.put⟩
theorem vW:∀(es:List (List D)) {bs:List Bool} {xs:List Value} {G:Fp},jq es=some bs->eD w es xs G->xs=bs.map Value.bool/\G=[]/\bs.length=es.length
 |[],bs,xs,G,h,hr=>by
  simp only[jq,aa]at h;subst h;simp only[eD]at hr;simp[hr.1,hr.2]
 |e::es,bs,xs,G,h,hr=>by
  match e,h with
  |[.bool b],h=>
   simp only[jq,ad]at h;obtain⟨cs,h1,rfl⟩:=h;simp only[eD,ee,Rp]at hr;obtain⟨v1,v2,F1,F2,rfl,rfl,⟨v,eb,G1,G2,rfl,rfl,⟨rfl,rfl⟩,rfl,rfl⟩,h2⟩:=hr;obtain⟨rfl,rfl,h3⟩:=vW es h1 h2;simp[h3]
  |[],h=>simp[jq]at h
  |[.int _ _],h=>simp[jq]at h
  |[.str _],h=>simp[jq]at h
  |[.list _ _ _],h=>simp[jq]at h
  |_::_::_,h=>simp[jq]at h
theorem DR:∀(bs:List Bool),eD w (bs.map λb=>[D.bool b]) (bs.map Value.bool) []
 |[]=>by simp[eD]
 |b::bs=>by
  simp only[aN,eD,ee,Rp];exact⟨[.bool b],_,[],[],rfl,rfl,⟨.bool b,[],[],[],rfl,rfl,⟨rfl,rfl⟩,rfl,rfl⟩,DR bs⟩
theorem iH:∀(bs es:List Bool),(cF bs es).length=bs.length
 |[],es=>by cases es<;>simp[cF]
 |b::bs,[]=>by simp[cF]
 |b::bs,e::es=>by simp[cF,iH bs es]
theorem Yj(hi:Inv γ h0 io w0 s f w){r:Nat}{c:C}{v:Value}{es:List (List D)}(hc:CR γ w c v)(he:Dj s r c=some es)(iO:es≠[]) :
  ∃b o n cc xs G,v=.slice (some ⟨b,o,none⟩) n cc/\n=es.length/\eD w es xs G/\gz w b o xs/\∀g,γ.ω g=.row r->γ.h g=0->b≠g:=by
 have hl:0 < es.length:=List.length_pos_iff.2 iO;unfold Dj at he
 split at he
 ·rename_i fl iY;simp only[aa]at he;subst he;simp only[CR,Rp]at hc;obtain⟨F,⟨A,n,cc,q1,q2,q3,q4,q5,q6,q7,q8⟩,jV⟩:=hc;rcases q8 with ⟨q8,_⟩|⟨_,b,o,xs,G,rfl,rfl,a2,a3⟩
  ·omega
  ·refine⟨b,o,n,cc,xs,G,q1,q2,a2,a3,λg _ hg e=>?_⟩;have:=jV (b,o+n * 1) (by simp);simp only at this
   rw[e,hg]at this;omega
 ·rename_i q
  split at he
  ·rename_i row Un
   split at he
   ·rename_i hq;simp only[aa]at he;subst he;simp only[CR]at hc;obtain⟨F,hR,_,qP⟩:=hi.rw q row Un;obtain⟨A,n,cc,q1,q2,q3,q4,q5,q6,q7,q8⟩:=hR;rcases q8 with ⟨_,q8,_⟩|⟨b,o,xs,G,rfl,a2,a3,a4,a5,a6,a7,a8,a9,sI⟩
    ·omega
    ·have hb:γ.ω b=.row q:=qP b (by
      cases hd:row.deep with
      |true=>rw[(a9 hd).1];simp
      |false=>rw[(sI hd).1];simp)
     refine⟨b,o,n,cc,xs,G,hc.1.trans q1,q2,a4,a5,λg hg _ e=>?_⟩;rw[e,hg]at hb;simp only[Own.row.injEq]at hb;exact hq.2 hb.symm
   ·cases he
  ·cases he
 ·cases he
theorem agX(hi:Inv γ h0 io w0 s f w){F0:FuncId}{fn:Func}(EC:P.funcs[F0]?=some fn)(Ts:fn.body.isSome=true)(QR:(fn.name == "runtime.NumGoroutine")=false)(hj:ry P F0){ts:Array TypeId}{x y:Operand}{a b:KX}{d:Nat}(hx:jl N x a=true)(hy:jl N y b=true)(he:kc cf mf s (some d) (.jn a b)=some s')
  (h:∀γ' f' w',Inv γ' h0 io w0 s' f' w'->Tr (some d) (dW s (some d) (.jn a b)) γ w γ' w' f f'->K f' w') :
  ri P N ⟨some d,.call {callee:=.value (.func F0),args:=#[x,y],argTypes:=ts },ty,pos,aft,gd⟩ f w K:=by
 have ql:=bH hi hx;have XY:=bH hi hy;simp only[kc]at he
 split at he
 ·rename_i d0 r OT Jd;cases OT;rw[Jd]at ql;simp only[CR]at ql
  split at he
  ·rename_i row es hl vQ
   split at he
   ·rename_i hc;obtain⟨hk,hrf,Gw,qV,hle⟩:=hc
    split at he
    ·rename_i bs cs hbs Dd
     split at he
     ·rename_i iO;simp only[aa]at he;subst he;obtain⟨lN,A,n,c,i2,b2,yi,n6,o2,l2,q1,q2,q3,q4,q5,q6,q7,q8⟩:=hi.tf hl;have oc:(fr f N).eval x=.slice A n c:=ql.1.trans q1;have hrX:r∈dW s (some d) (.jn a b):=by simp[dW,Jd,rowsOf]
      have As:0 < es.length:=List.length_pos_iff.2 iO;rcases q8 with ⟨rfl,rfl⟩|⟨g,o,xs,G,rfl,a2,a3,a4,a5,a6,a7,a8,a9,sI,Tm,a12⟩
      ·omega
      obtain⟨rfl,T,vs,hB,HN⟩:=sI qV;have yU:γ.h g=0:=a9 Gw;obtain⟨rfl,rfl,XI⟩:=vW _ hbs a6;obtain⟨bb,oo,n2,cc,I2,G2,y1,y2,y3,y4,y5⟩:=Yj hi XY vQ iO;obtain⟨rfl,rfl,rk⟩:=vW _ Dd y3;have hlc:cs.length=bs.length:=by omega
      have hnb:n=bs.length:=by omega
      have Uk:vs=bs.map Value.bool++vs.drop bs.length:=by
       have:vs.take bs.length=bs.map Value.bool:=by
        apply ed
        intro j;rw[dt];by_cases hj:j < bs.length
        ·rw[if_pos hj];have h7:=a7 j (Value.bool bs[j]) (by simp[hj]);rw[bo,hB.cell]at h7;rw[h7];simp[hj]
        ·rw[if_neg hj,jN (by simp;omega)]
       conv=>lhs;rw[<- a_ bs.length vs,this]
      have V9:=hB;rw[Uk]at V9;have pG:=hj w g T bs cs c bb oo n2 cc (vs.drop bs.length) V9 y4 (y5 g a3 yU) hlc (by omega);have agP:(fr f N).eval x=.slice (some ⟨g,0,none⟩) bs.length c:=by rw[oc,hnb]
      have agQ:(fr f N).eval y=.slice (some ⟨bb,oo,none⟩) cs.length cc:=by rw[y1,y2,rk]
      refine xj (xH (jT EC Ts QR) rfl (by simp[agP,agQ])) pG λe w' hp=>?_;obtain⟨rfl,rfl⟩:=hp;refine⟨_,rfl,?_⟩;have lj:=Tj.gk w g ((cF bs cs).map Value.bool++vs.drop bs.length).toArray T;have mP:sG γ (λo=>∃i∈dW s (some d) (.jn a b),o=.box i\/o=.row i) w _:=l9 hi lj ⟨r,hrX,.inr a3⟩ (λj hj=>by rw[yU]at hj;omega);have h5:=i2.M6 (l9 i2 lj (M:=λo=>o=.dd) a4 (λj hj=>by rw[n6,yU]at hj;omega)) (by simp) (λb hb=>by cases hb) (λr hr=>by cases hr);have hB2:=hB.kz T ((cF bs cs).map Value.bool++vs.drop bs.length);have gF:gz (gk w g (.cells ((cF bs cs).map Value.bool++vs.drop bs.length).toArray T (0,0))) g 0 ((cF bs cs).map Value.bool):=by
       intro j u hu;refine hB2.J9 j u ?_;rw[cl (aI.1 hu).1];exact hu
      have Uf:=iH bs cs;have agM:((cF bs cs).map Value.bool++vs.drop bs.length).length=c * row.k:=by
       simp only[aO,av,Uf,gN];rw[hk]at HN ⊢;omega
      obtain⟨MY,h6,h7,h8,h9,_,_⟩:=h5.sJ (r:=r) (x:={row with es:=(cF bs cs).map λb=>[D.bool b] }) (n:=n) (c:=c) (g:=g) (o:=0) (by simp only[av,Uf];exact hnb) q3 q4 q5
       (λy hy=>by obtain⟨z,_,rfl⟩:=bQ.1 hy;simp[hk]) (λ_ y hy z hz=>by obtain⟨u,_,rfl⟩:=bQ.1 hy;simp at hz;subst hz;rfl)
       (by rw[fD];exact a2) (.inl a4) (i2.own g (by rw[a4];simp)).2 ⟨by rw[fD];omega,lj.fz⟩ (DR _) gF (by rw[n6,yU];omega) (λ_=>by rw[n6,yU]) (λ_=>⟨rfl,T,_,hB2,agM⟩)
       (λbe hb=>by simp at hb) (λ_=>⟨by simp,λbe hb=>by simp at hb⟩) (by rw[yi];exact q1)
      have e6:(s.cM r).setRow r {row with es:=(cF bs cs).map λb=>[D.bool b] }=s.setRow r {row with es:=(cF bs cs).map λb=>[D.bool b] }:=by
       have:po (po s.rw r) r=po s.rw r:=by simp[po,lE]
       simp[St.setRow,St.cM,this]
      rw[e6]at h6;exact h MY _ _ (h6.put d _ _ gJ) ⟨mP,λ_ _=>by rw[h8,b2],λz=>by have:=h9 z;rw[n6]at this;exact this,.put⟩
     ·cases he
    ·cases he
   ·cases he
  ·cases he
 ·cases he
end
end
section
open Go.RowKit
def UX(Ds:List Nat)(l:Array Bool):Prop:=∀m∈Ds,l.getD m false=false
def Cons(Cl:List (List Nat×(World->Prop)))(l:Array Bool)(w:World):Prop:=∀p∈Cl,UX p.1 l->p.2 w
theorem Qz{l:Array Bool}{i m:Nat}(h:(l.setIfInBounds i true).getD m false=false):l.getD m false=false:=by
 cases h2:l.getD m false with
 |false=>rfl
 |true=>rw[getD_set_true h2]at h;cases h
theorem UY{Ds:List Nat}{l:Array Bool}{i:Nat}(h:UX Ds (l.setIfInBounds i true)):UX Ds l:=λm hm=>Qz (h m hm)
theorem vt{Ds:List Nat}{l:Array Bool}{i:Nat}(h:UX Ds l)(hi:i∉Ds):UX Ds (l.setIfInBounds i true):=λm hm=>by
 rw[getD_set_ne false (by intro e;subst e;exact hi hm)];exact h m hm
theorem Cons.set{Cl:List (List Nat×(World->Prop))}{l:Array Bool}{w:World}(h:Cons Cl l w)(i:Nat):Cons Cl (l.setIfInBounds i true) w:=λp hp hn=>h p hp (UY hn)
theorem Cons.afW{Cl:List (List Nat×(World->Prop))}{l:Array Bool}{w:World}{i:Nat}(h:Cons Cl (l.setIfInBounds i true) w)(hi:∀p∈Cl,i∉p.1):Cons Cl l w:=λp hp hn=>h p hp (vt hn (hi p hp))
section
variable {P:Program} {ops:Array Oper} {Q:Exit->Act->World->Prop} {md:Region.Mode}
def pe(P:Program)(md:Region.Mode)(ops:Array Oper)(Q:Exit->Act->World->Prop)(Cl:List (List Nat×(World->Prop))):Nat->Array Bool->Act->World->Prop
 |0,listed,a,w=>Region.ready md ops listed=[]/\Q .normal a w
 |fuel+1,listed,a,w=>
  (Region.ready md ops listed=[]->Q .normal a w)/\
  ∀i∈Region.ready md ops listed,wpOp P ops Q i (λa' w'=>Cons Cl (listed.setIfInBounds i true) w'/\pe P md ops Q Cl fuel (listed.setIfInBounds i true) a' w') a w
theorem BZ{Cl:List (List Nat×(World->Prop))}:∀(fuel:Nat) (listed:Array Bool) (a:Act) (w:World),pe P md ops Q Cl fuel listed a w->wpAny P md ops Q fuel listed a w
 |0,_,_,_,h=>h
 |fuel+1,_,_,_,h=>⟨h.1,λi hi=>wpOp_mono (λa' w' h'=>BZ fuel _ a' w' h'.2) (h.2 i hi)⟩
def okD(md:Region.Mode)(ops:Array Oper)(i:Nat)(al:List Nat):Bool:=al.all λj=>match ops[j]? with
 |some o=>o.after.any λe=>Region.binds md e && (e.on ==i ||al.contains e.on)
 |none=>false
theorem RI{i:Nat}{al:List Nat}(h:okD md ops i al=true){listed:Array Bool}(hi:listed.getD i false=false)(hn:UX al listed){j:Nat}(hj:j∈Region.ready md ops listed):j∉al:=by
 intro hm;have h1:=aS.1 h j hm;obtain⟨_,o,ho,jU⟩:=mem_ready.1 hj;rw[ho]at h1;obtain⟨e,he,hb⟩:=Array.any_eq_true'.1 h1;simp only[ab,dE,beq_iff_eq,List.contains_iff_mem]at hb;have h2:=jU e he hb.1;rcases hb.2 with h3|h3
 ·rw[h3,hi]at h2;cases h2
 ·rw[hn _ h3]at h2;cases h2
theorem afT{Cl:List (List Nat×(World->Prop))}{i:Nat}{oi:Oper}{v:Value}{V:World->Prop}{al dn:List Nat}(hi:ops[i]?=some oi)(abz:∀(j:Nat) (o:Oper) cs b,ops[j]?=some o->o.op≠.select cs b)
  (hQ:∀c a w,Q (.panic c) (a.put oi.dst v) w->Q (.panic c) a w) (hD:okD md ops i al=true) (HC:∀m∈dn,m∈al) (hid:i∉dn) (hCi:∀p∈Cl,i∉p.1) :
  ∀(fuel:Nat) (listed:Array Bool) (a:Act) (w:World),
   (∀j oj,ops[j]?=some oj->j≠i->listed.getD j true=false->(∀e∈oj.after,Region.binds md e=true->e.on≠i)->oi.apart ops oj=true)->
   i∈Region.ready md ops listed->UX al listed->YieldsIf P ops V oi v a->V w->Cons Cl listed w->
   pe P md ops Q ((dn,V)::Cl) fuel (listed.setIfInBounds i true) (a.put oi.dst v) w->pe P md ops Q Cl (fuel+1) listed a w:=by
 intro fuel;have down:∀(fuel:Nat) (listed:Array Bool) (a:Act) (w:World),pe P md ops Q ((dn,V)::Cl) fuel listed a w->pe P md ops Q Cl fuel listed a w:=by
  intro fuel
  induction fuel with
  |zero=>intro listed a w h;exact h
  |succ fuel ih=>intro listed a w h;exact⟨h.1,λj hj=>wpOp_mono (λa' w' h'=>⟨λp hp=>h'.1 p (by simp[hp]),ih _ a' w' h'.2⟩) (h.2 j hj)⟩
 induction fuel with
 |zero=>
  intro listed a w _ hr hn hy hV hC H;refine⟨λh=>(by rw[h]at hr;cases hr),λj hj=>?_⟩;by_cases Ue:j=i
  ·subst Ue;exact hy.wpOp hi hV ⟨hC.set j,down _ _ _ _ H⟩
  ·have:=ready_mono hj Ue;rw[H.1]at this;cases this
 |succ fuel ih=>
  intro listed a w HG hr hn hy hV hC H;refine⟨λh=>(by rw[h]at hr;cases hr),λj hj=>?_⟩;by_cases Ue:j=i
  ·subst Ue;exact hy.wpOp hi hV ⟨hC.set j,down _ _ _ _ H⟩
  ·have h1:=H.2 j (ready_mono hj Ue);obtain⟨abl,oj,hoj,jU⟩:=mem_ready.1 hj;have abk:listed.getD i false=false:=by
    have h0:=(mem_ready.1 hr).1;rcases cY i listed.size with h'|h'
    ·simp[h']at h0 ⊢;exact h0
    ·simp[sF h']at h0
   have hja:=RI hD abk hn hj;have agF:∀e∈oj.after,Region.binds md e=true->e.on≠i:=λe he hb heq=>by
    have h1:=jU e he hb;rw[heq,abk]at h1;cases h1
   have h2:=wpOp_putIf (S:=V) hoj (HG j oj hoj Ue abl agF) (λcs b=>abz i oi cs b hi) (λcs b=>abz j oj cs b hoj) hQ hy h1;have XN:∀k ok,ops[k]?=some ok->k≠i->(listed.setIfInBounds j true).getD k true=false->
     (∀e∈ok.after,Region.binds md e=true->e.on≠i)->oi.apart ops ok=true:=λk ok hk hki hun hno=>by
    refine HG k ok hk hki ?_ hno;by_cases hjk:j=k
    ·subst hjk;exact abl
    ·rw[getD_set_ne true hjk]at hun;exact hun
   refine wpOp_mono (λa' w' h3=>?_) h2;obtain⟨h3,h4,h5⟩:=h3;have T7:Cons Cl (listed.setIfInBounds j true) w':=by
    rw[Array.setIfInBounds_comm _ _ (kF Ue)]at h4;exact Cons.afW (i:=i) (λp hp=>h4 p (by simp[hp])) hCi
   have hnj:UX al (listed.setIfInBounds j true):=vt hn hja;have hV':V w':=h4 (dn,V) (by simp) (vt (vt (λm hm=>hn m (HC m hm)) hid) (λhm=>hja (HC j hm)));refine⟨T7,ih (listed.setIfInBounds j true) a' w' XN (ready_mono hr (kF Ue)) hnj h3 hV' T7 ?_⟩;rw[Array.setIfInBounds_comm _ _ Ue];exact h5
end
section
variable {P:Program} {N:Nat} {Kn:Fm->World->Prop} {Ke:Nat->Fm->World->Prop} {Kr:Fm->World->Prop} {f:Fm} {w:World} {ops:Array Oper}
structure Ent where
 i:Nat
 q:Bool
 al:List Nat
 dn:List Nat
inductive ET where
 |nil
 |op (e:Ent) (t:ET)
 |alt (e:Ent) (t r:ET)
def ET.len:ET->Nat
 | .nil=>0
 | .op _ t=>t.len+1
 | .alt _ t _=>t.len+1
def ET.Ci(p:Ent->Bool):ET->Bool
 | .nil=>true
 | .op e t=>p e && t.Ci p
 | .alt e t r=>p e && t.Ci p && r.Ci p
def ET.HD:ET->List Nat
 | .nil=>[]
 | .op e _=>[e.i]
 | .alt e _ r=>e.i::r.HD
def Ec(ops:Array Oper):Bool->ET->Array Bool->Bool
 |top,.nil,listed=>top && (Region.ready .any ops listed).isEmpty
 |top,.op e s,listed=>(if e.q then top && (Region.ready .any ops listed).contains e.i && Region.free .any ops listed e.i && okD .any ops e.i e.al && e.al.all (λm=>!listed.getD m false) && e.dn.all e.al.contains && !e.dn.contains e.i && s.Ci (λe'=>!e'.q ||!e.dn.contains e'.i) else !top ||Region.ready .any ops listed ==[e.i]) && Ec ops true s (listed.setIfInBounds e.i true)
 |top,.alt e s r,listed=>(!top ||Region.ready .any ops listed ==e.i::r.HD) && !e.q && s.len+1 ==r.len && Ec ops true s (listed.setIfInBounds e.i true) && Ec ops false r listed
def Dv(P:Program)(N:Nat)(ops:Array Oper)(Kn:Fm->World->Prop):List (List Nat×(World->Prop))->ET->Array Bool->Fm->World->Prop
 |_,.nil,_,f,w=>Kn f w
 |Cl,.op e s,l,f,w=>if e.q then
   ∃o v f' V,ops[e.i]?=some o/\YieldsIf P ops V o v (fr f N)/\(fr f N).put o.dst v=fr f' N/\V w/\Dv P N ops Kn ((e.dn,V)::Cl) s (l.setIfInBounds e.i true) f' w
  else wpOp P ops (Ot N Kn (λ_ _ _=>False) (λ_ _=>False)) e.i (λa' w'=>Cons Cl (l.setIfInBounds e.i true) w'/\∃f',a'=fr f' N/\Dv P N ops Kn Cl s (l.setIfInBounds e.i true) f' w') (fr f N) w
 |Cl,.alt e s r,l,f,w=>wpOp P ops (Ot N Kn (λ_ _ _=>False) (λ_ _=>False)) e.i (λa' w'=>Cons Cl (l.setIfInBounds e.i true) w'/\∃f',a'=fr f' N/\Dv P N ops Kn Cl s (l.setIfInBounds e.i true) f' w') (fr f N) w/\Dv P N ops Kn Cl r l f w
theorem uZ(hs:Region.noSelect ops=true):∀(s:ET) (Cl:List (List Nat×(World->Prop))) (listed:Array Bool) (f:Fm) (w:World) (top:Bool),Ec ops top s listed=true->(∀p∈Cl,s.Ci (λe=>!e.q ||!p.1.contains e.i)=true)->Cons Cl listed w->Dv P N ops Kn Cl s listed f w->
  (top=true->pe P .any ops (Ot N Kn (λ_ _ _=>False) (λ_ _=>False)) Cl s.len listed (fr f N) w)/\
  (top=false->∀j∈s.HD,∃n,s.len=n+1/\wpOp P ops (Ot N Kn (λ_ _ _=>False) (λ_ _=>False)) j (λa' w'=>Cons Cl (listed.setIfInBounds j true) w'/\pe P .any ops (Ot N Kn (λ_ _ _=>False) (λ_ _=>False)) Cl n (listed.setIfInBounds j true) a' w') (fr f N) w)
 | .nil,Cl,listed,f,w,top,hc,_,_,h=>by
  simp only[Ec,ab]at hc;refine⟨λ_=>?_,λht=>(by rw[ht]at hc;cases hc.1)⟩;have hr:Region.ready .any ops listed=[]:=by simpa using hc.2
  exact⟨hr,f,rfl,h⟩
 | .op e s,Cl,listed,f,w,top,hc,hq,hC,h=>by
  simp only[Ec,ab]at hc;obtain⟨kl,nR⟩:=hc;have hq1:∀p∈Cl,(!e.q ||!p.1.contains e.i)=true/\s.Ci (λe=>!e.q ||!p.1.contains e.i)=true:=λp hp=>by
   have:=hq p hp
   simpa only [ET.Ci,ab] using this
  simp only[Dv]at h;cases heq:e.q with
  |true=>
   rw[heq]at h kl;simp only[if_true,ab,ck]at h kl;obtain⟨⟨⟨⟨⟨⟨⟨ht,hr⟩,k1⟩,k2⟩,k3⟩,k4⟩,k5⟩,k6⟩:=kl;refine⟨λ_=>?_,λWp=>(by rw[ht]at Wp;cases Wp)⟩;obtain⟨o,v,f',V,ho,hy,hp,hV,hd⟩:=h;have HC:∀m∈e.dn,m∈e.al:=λm hm=>by simpa using aS.1 k4 m hm
   have agC:UX e.al listed:=λm hm=>by simpa using aS.1 k3 m hm
   refine afT ho (Region.noSelect_spec hs) (λc a w hq=>hq.elim) k2 HC (by simpa using k5) (λp Gx=>by have:=(hq1 p Gx).1;simpa [heq] using this) s.len listed (fr f N) w (Region.free_spec ho k1) (by simpa using hr) agC hy hV hC ?_;rw[hp];refine (uZ hs s _ _ f' w true nR (λp Gx=>?_) (λp Gx hn=>?_) hd).1 rfl
   ·rcases ay.1 Gx with rfl|Gx
    ·exact k6
    ·exact (hq1 p Gx).2
   ·rcases ay.1 Gx with rfl|Gx
    ·exact hV
    ·exact (hC.set e.i) p Gx hn
  |false=>
   rw[heq]at h kl;simp only[au,if_false,dE,ck,beq_iff_eq]at h kl;have step:wpOp P ops (Ot N Kn (λ_ _ _=>False) (λ_ _=>False)) e.i (λa' w'=>Cons Cl (listed.setIfInBounds e.i true) w'/\pe P .any ops (Ot N Kn (λ_ _ _=>False) (λ_ _=>False)) Cl s.len (listed.setIfInBounds e.i true) a' w') (fr f N) w:=by
    refine wpOp_mono ?_ h
    rintro a' w' ⟨T7,f',rfl,hd⟩
    exact⟨T7,(uZ hs s Cl _ f' w' true nR (λp hp=>(hq1 p hp).2) T7 hd).1 rfl⟩
   refine⟨λht=>⟨λh0=>?_,λj hj=>?_⟩,λ_ j hj=>?_⟩
   ·rcases kl with h1|h1
    ·rw[ht]at h1;cases h1
    ·rw[h1]at h0;cases h0
   ·rcases kl with h1|h1
    ·rw[ht]at h1;cases h1
    ·rw[h1]at hj;simp only[ct]at hj;subst hj;exact step
   ·simp only[ET.HD,ct]at hj;subst hj;exact⟨s.len,rfl,step⟩
 | .alt e s r,Cl,listed,f,w,top,hc,hq,hC,h=>by
  simp only[Ec,ab,dE,ck,beq_iff_eq]at hc;obtain⟨⟨⟨⟨kl,nR⟩,Cq⟩,hc4⟩,hc5⟩:=hc;have hq1:∀p∈Cl,s.Ci (λe=>!e.q ||!p.1.contains e.i)=true/\r.Ci (λe=>!e.q ||!p.1.contains e.i)=true:=λp hp=>by
   have:=hq p hp;simp only[ET.Ci,ab]at this;exact⟨this.1.2,this.2⟩
  simp only[Dv]at h;have all:∀j∈e.i::r.HD,wpOp P ops (Ot N Kn (λ_ _ _=>False) (λ_ _=>False)) j (λa' w'=>Cons Cl (listed.setIfInBounds j true) w'/\pe P .any ops (Ot N Kn (λ_ _ _=>False) (λ_ _=>False)) Cl s.len (listed.setIfInBounds j true) a' w') (fr f N) w:=by
   intro j hj;rcases ay.1 hj with rfl|hj
   ·refine wpOp_mono ?_ h.1
    rintro a' w' ⟨T7,f',rfl,hd⟩
    exact⟨T7,(uZ hs s Cl _ f' w' true hc4 (λp hp=>(hq1 p hp).1) T7 hd).1 rfl⟩
   ·obtain⟨n,hn,hw⟩:=(uZ hs r Cl listed f w false hc5 (λp hp=>(hq1 p hp).2) hC h.2).2 rfl j hj;have:n=s.len:=by omega
    subst this;exact hw
  refine⟨λht=>⟨λh0=>?_,λj hj=>?_⟩,λ_ j hj=>⟨s.len,rfl,all j hj⟩⟩
  ·rcases kl with h1|h1
   ·rw[ht]at h1;cases h1
   ·rw[h1]at h0;cases h0
  ·rcases kl with h1|h1
   ·rw[ht]at h1;cases h1
   ·rw[h1]at hj;exact all j hj
theorem VP{id:Nat}{l:List Oper}(s:ET)(hm:P.follows .mixedOrders=true)(hs:Region.noSelect l.toArray=true)(hn:s.len=l.toArray.size)
  (hc:Ec l.toArray true s (nY l.toArray.size false)=true) (h:Dv P N l.toArray Kn [] s (nY l.toArray.size false) f w.drew):W P N (.region id l.toArray true) Kn Ke Kr f w:=by
 have h1:=(uZ hs s [] _ f w.drew true hc (λp hp=>by simp at hp) (λp hp=>by simp at hp) h).1 rfl;rw[hn]at h1;unfold W;refine wp_mono (wp_region_any hm (BZ _ _ _ _ h1)) ?_;intro e a w hq;cases e with
 |normal=>exact hq
 |exit id=>obtain⟨_,_,h⟩:=hq;exact h.elim
 |ret=>obtain⟨_,_,h⟩:=hq;exact h.elim
 |goto l=>exact hq.elim
 |panic c=>exact hq.elim
 |outgrown=>exact hq.elim
variable {Cl:List (List Nat×(World->Prop))} {s:ET} {e:Ent} {lst:Array Bool} {o:Oper}
theorem afY(h:Kn f w):Dv P N ops Kn Cl .nil lst f w:=h
theorem ail(hq:e.q=false)(hi:ops[e.i]?=some o)(hg:oq N ops f o.guard)(h:ri P N o f w (λf' w'=>Cons Cl (lst.setIfInBounds e.i true) w'/\Dv P N ops Kn Cl s (lst.setIfInBounds e.i true) f' w')):Dv P N ops Kn Cl (.op e s) lst f w:=by
 simp only[Dv,hq,au,if_false,wpOp,hi];rw[if_pos (show Region.wanted o _=true from hg)];exact .inl (h.ZM λf' w' hk=>⟨hk.1,f',rfl,hk.2⟩)
theorem afX{t:ET}(hi:ops[e.i]?=some o)(hg:oq N ops f o.guard)(h:ri P N o f w (λf' w'=>Cons Cl (lst.setIfInBounds e.i true) w'/\Dv P N ops Kn Cl s (lst.setIfInBounds e.i true) f' w'))(h2:Dv P N ops Kn Cl t lst f w):Dv P N ops Kn Cl (.alt e s t) lst f w:=by
 refine⟨?_,h2⟩;simp only[wpOp,hi];rw[if_pos (show Region.wanted o _=true from hg)];exact .inl (h.ZM λf' w' hk=>⟨hk.1,f',rfl,hk.2⟩)
theorem v_q(hq:e.q=true)(hi:ops[e.i]?=some o){d:Nat}(hd:o.dst=some d)(hg:oq N ops f o.guard){v:Value}(V:World->Prop)(hr:∀w,V w->(execOp (fr f N).eval o).run P w=.ok (.value v) w)(hV:V w)
  (h:Dv P N ops Kn ((e.dn,V)::Cl) s (lst.setIfInBounds e.i true) (yo f d v) w):Dv P N ops Kn Cl (.op e s) lst f w:=by
 simp only[Dv,hq,if_true];refine⟨_,v,_,V,hi,.inl ⟨hg,hr⟩,?_,hV,h⟩;rw[hd];exact qj f N d v
variable {d:Nat} {op:Op} {ty:TypeId} {pos:String} {aft:Array Edge} {gd:Option (Nat×Bool)}
theorem ZQ(hq:e.q=true)(hi:ops[e.i]?=some ⟨some d,op,ty,pos,aft,gd⟩)(hg:gX N ops f gd)
  (h:Dv P N ops Kn ((e.dn,λ_=>True)::Cl) s (lst.setIfInBounds e.i true) (yo f d undef) w):Dv P N ops Kn Cl (.op e s) lst f w:=by
 simp only[Dv,hq,if_true];exact⟨_,undef,_,λ_=>True,hi,.inr ⟨hg,rfl⟩,qj f N d _,trivial,h⟩
theorem VN(hq:e.q=false)(hi:ops[e.i]?=some ⟨some d,op,ty,pos,aft,gd⟩)(hg:gX N ops f gd)(hC:Cons Cl (lst.setIfInBounds e.i true) w)
  (h:Dv P N ops Kn Cl s (lst.setIfInBounds e.i true) (yo f d undef) w):Dv P N ops Kn Cl (.op e s) lst f w:=by
 simp only[Dv,hq,au,if_false,wpOp,hi];rw[if_neg (hg.to _ _ _ _ _)];exact⟨hC,_,qj f N d _,h⟩
theorem ZP{t:ET}(hi:ops[e.i]?=some ⟨some d,op,ty,pos,aft,gd⟩)(hg:gX N ops f gd)(hC:Cons Cl (lst.setIfInBounds e.i true) w)
  (h:Dv P N ops Kn Cl s (lst.setIfInBounds e.i true) (yo f d undef) w) (h2:Dv P N ops Kn Cl t lst f w):Dv P N ops Kn Cl (.alt e s t) lst f w:=by
 refine⟨?_,h2⟩;simp only[wpOp,hi];rw[if_neg (hg.to _ _ _ _ _)];exact⟨hC,_,qj f N d _,h⟩
end
end
section
open Go.RowKit
section
variable (P:Program) (N:Nat) (num:Nat->FuncId)
def Lq(T:TypeId):Option (TypeId×TypeInfo×Value):=
 match P.underlying T with
 |some (.slice E)=>match P.info? E with
  |some i=>match i.zero with
   |some z=>some (E,i,z)
   |none=>none
  |none=>none
 |_=>none
def kt(F:FuncId):Bool:=
 match P.funcs[F]? with
 |some fn=>fn.body.isSome && !(fn.name == "runtime.NumGoroutine")
 |none=>false
def RJ:Op->Option Tmp->KO->Bool
 | .alloc T,some _,.alloc zs=>(match qU P T with
   |some z=>FH z zs
   |none=>false)
 | .box _ x,some _,.box y=>jl N x y
 | .buildSlice T n ps,some _,.nf k _ ys=>(match P.underlying T with
   |some (.slice E)=>mE P E ==some k && (n ==0 ||(qU P E).isSome) && Bp N 0 ps.toList ys && n ==ps.size && ny (n * k) 16777216
   |_=>false)
 | .makeSlice T a b,some _,.make k by_ fl zs y=>jl N a y && jl N b y && (match Lq P T with
   |some (_,i,z)=>i.size ==k && i.bytes ==by_ && fh 0 k && Br z.cells.toList zs && zs.length ==k && (!fl ||cQ zs)
   |none=>false)
 | .store T x v,none,.st n a b=>mE P T ==some n && jl N x a && jl N v b
 | .call c,some _,.app k by_ _ a b=>(match c.callee,c.args.toList,c.argTypes.toList with
   | .builtin .append,[x,y],[T,T']=>T ==T' && jl N x a && jl N y b && (match Lq P T with
    |some (_,i,z)=>i.size ==k && i.bytes ==by_ && z.cells.size ==k && fh 0 k
    |none=>false)
   |_,_,_=>false)
 | .call c,_,.call g xs=>(match c.callee with
   | .value (.func F)=>F ==num g && kt P F && yD N c.args.toList xs
   |_=>false)
 | .call c,some _,.Mp g y y2=>(match c.callee,c.args.toList with
   | .value (.func F),[x,x2]=>F ==num g && kt P F && jl N x y && jl N x2 y2
   |_,_=>false)
 | .assign x,some _,.Mq y=>jl N x y
 | .move x,some _,.Mq y=>jl N x y
 | .call c,some _,.jn a b=>(match c.callee,c.args.toList with
   | .value (.func F),[x,y]=>F ==num 9004 && !(num 9004 ==1000000) && kt P F && jl N x a && jl N y b
   |_,_=>false)
 | .call c,some _,.xP k a b=>(match c.callee,c.args.toList,c.argTypes.toList with
   | .builtin .copy,[x,y],[T,_]=>jl N x a && jl N y b && (match P.underlying T with
    |some (.slice E)=>mE P E ==some k
    |_=>false)
   |_,_,_=>false)
 | .slice T x lo hi none,some _,.cut k y b c=>(match P.underlying T with
   |some (.slice E)=>mE P E ==some k && jl N x y && yB N lo b && yB N hi c
   |_=>false)
 |_,_,_=>false
def Iv(ops:Array Oper):Option (Nat×Bool)->Option (Nat×Bool)->Bool
 |none,none=>true
 |some (j,want),some (g,vL)=>want ==vL && (match ops[j]? with
   |some o=>o.dst ==some g && fh g N
   |none=>false)
 |_,_=>false
def WM(ops:Array Oper)(o:Oper)(i:KI):Bool:=
 o.dst ==i.dst && (match i.dst with
  |some d=>fh d N && fh d 900
  |none=>true) && Iv N ops o.guard i.gd && (if i.op.jg then i.dst.isSome && qz P N o.op i.op else RJ P N num o.op i.dst i.op)
def yC(ops:Array Oper):List Oper->List KI->Bool
 |[],[]=>true
 |o::os,i::is=>WM P N num ops o i && yC ops os is
 |_,_=>false
def KD.vO(x:KD):Ent:=⟨x.j,x.q,x.al,x.dn⟩
def KT.vO:KT->ET
 | .nil=>.nil
 | .op x t=>.op x.vO t.vO
 | .alt x t r=>.alt x.vO t.vO r.vO
def Ki(ops:Array Oper):KT->Bool
 | .nil=>true
 | .op ⟨j,q,_,_,i⟩ is=>(match ops[j]? with
   |some o=>WM P N num ops o i && (!q ||i.op.jg) && (i.gd.isNone ||i.dst.isSome)
   |none=>false) && Ki ops is
 | .alt ⟨j,q,_,_,i⟩ is r=>(match ops[j]? with
   |some o=>WM P N num ops o i && !q && (i.gd.isNone ||i.dst.isSome)
   |none=>false) && Ki ops is && Ki ops r
def mT:K->Code->Bool
 | .skip,.skip=>true
 | .cz is _,.region _ ops false=>yC P N num ops ops.toList is
 | .Lp is _,.region _ ops true=>Ki P N num ops is && Region.noSelect ops && is.vO.len ==ops.size && Ec ops true is.vO (nY ops.size false)
 | .seq a b,.seq c d=>mT a c && mT b d
 | .cond x a b,.cond y c d=>jl N y x && mT a c && mT b d
 | .block i a,.block j c=>i ==j && mT a c
 | .loop a,.loop c=>mT a c
 | .exit i,.exit j=>i ==j
 | .ret,.ret=>true
 | .share _ a,c=>mT a c
 | .I9 _ a,c=>mT a c
 |_,_=>false
end
theorem Hh{P:Program}{T:TypeId}{E:TypeId}{i:TypeInfo}{z:Value}(h:Lq P T=some (E,i,z)):P.underlying T=some (.slice E)/\P.info? E=some i/\i.zero=some z:=by
 unfold Lq at h
 split at h
 ·rename_i E' hu
  split at h
  ·rename_i i' hi
   split at h
   ·rename_i z' hz;simp only[aa,ao]at h;obtain⟨rfl,rfl,rfl⟩:=h;exact⟨hu,hi,hz⟩
   ·cases h
  ·cases h
 ·cases h
section
variable {P:Program} {γ:Gh} {h0:Nat->Nat} {io:List Nat} {w0:World} {s s':St} {f:Fm} {w:World} {N:Nat} {num:Nat->FuncId} {K':Fm->World->Prop}
 {cf:Nat->List A->Option (List A×List A)} {mf:Nat->Bool->List D->Int->Option (List D×Int)}
theorem sj(kN:Cts w0 io P num cf)(lh:∀g ag ds q ga q',mf g ag ds q=some (ga,q')->oR w0 io P (num g) ag ds q ga q')(hi:Inv γ h0 io w0 s f w){op:Op}{dst:Option Tmp}{nB:KO}{ty:TypeId}{pos:String}{aft:Array Edge}{gd:Option (Nat×Bool)}(bY:RJ P N num op dst nB=true)(he:kc cf mf s dst nB=some s')
  (h:∀γ' f' w',Inv γ' h0 io w0 s' f' w'->Tr dst (dW s dst nB) γ w γ' w' f f'->K' f' w'):ri P N ⟨dst,op,ty,pos,aft,gd⟩ f w K':=by
 unfold RJ at bY
 split at bY
 ·split at bY
  ·rename_i z hz;exact UU hi hz bY he (by simpa only [dW,mZ] using h)
  ·cases bY
 ·exact ab6 hi bY he (by simpa only [dW,mZ] using h)
 ·split at bY
  ·rename_i E hU;simp only[ab,dE,beq_iff_eq]at bY;obtain⟨⟨⟨⟨h1,h2⟩,h3⟩,h4⟩,h5⟩:=bY;exact UW hi hU h1 h2 h3 h4 h5 he (by simpa only [dW,mZ,List.singleton_append] using h)
  ·cases bY
 ·simp only[ab]at bY;obtain⟨⟨h1,h2⟩,h3⟩:=bY
  split at h3
  ·rename_i E i z yw;obtain⟨hU,hI,hz⟩:=Hh yw;simp only[ab,beq_iff_eq,lH,dE,ck]at h3;obtain⟨⟨⟨⟨⟨k1,k2⟩,k3⟩,k4⟩,k5⟩,k6⟩:=h3;exact Yv hi hU hI hz k1 k2 k3 k4 k5 (λhf=>by rcases k6 with h|h<;>simp_all) h1 h2 he (by simpa only [dW,mZ] using h)
  ·cases h3
 ·simp only[ab,beq_iff_eq]at bY;obtain⟨⟨h1,h2⟩,h3⟩:=bY;exact agY hi h1 h2 h3 he h
 ·rename_i c d k by_ fl a b
  split at bY
  ·rename_i x y T T' kl nR Cq;simp only[ab,beq_iff_eq]at bY;obtain⟨⟨⟨rfl,h1⟩,h2⟩,h3⟩:=bY;obtain⟨Tp,args,Jq⟩:=c;simp only at kl nR Cq
   subst kl;have ea:args=#[x,y]:=by rw[<- nR]
   have et:Jq=#[T,T]:=by rw[<- Cq]
   subst ea et
   split at h3
   ·rename_i E i z yw;obtain⟨hU,hI,hz⟩:=Hh yw;simp only[ab,beq_iff_eq,lH]at h3;obtain⟨⟨⟨k1,k2⟩,k3⟩,k4⟩:=h3;exact ab5 hi hU hI hz k1 k2 k3 k4 h1 h2 he h
   ·cases h3
  ·cases bY
 ·rename_i c g xs
  split at bY
  ·rename_i F kl;simp only[ab,beq_iff_eq]at bY;obtain⟨⟨rfl,h1⟩,h2⟩:=bY;obtain⟨Tp,args,Jq⟩:=c;simp only at kl
   subst kl;unfold kt at h1
   split at h1
   ·rename_i fn EC;simp only[ab,ck]at h1;exact Yu hi EC h1.1 h1.2 h2 (kN.1 g) he h
   ·cases h1
  ·cases bY
 ·rename_i c d g y y2
  split at bY
  ·rename_i F x x2 kl nR;simp only[ab,beq_iff_eq]at bY;obtain⟨⟨⟨rfl,h1⟩,h2⟩,h3⟩:=bY;obtain⟨Tp,args,Jq⟩:=c;simp only at kl nR
   subst kl;have ea:args=#[x,x2]:=by rw[<- nR]
   subst ea;unfold kt at h1
   split at h1
   ·rename_i fn EC;simp only[ab,ck]at h1;exact Yw hi EC h1.1 h1.2 h2 h3 (lh g) he h
   ·cases h1
  ·cases bY
 ·exact WE hi (.inl rfl) bY he h
 ·exact WE hi (.inr rfl) bY he h
 ·rename_i c d a b
  split at bY
  ·rename_i F x y kl nR;simp only[ab,beq_iff_eq,ck,beq_eq_false_iff_ne]at bY;obtain⟨⟨⟨⟨rfl,hn⟩,h1⟩,h2⟩,h3⟩:=bY;obtain⟨Tp,args,Jq⟩:=c;simp only at kl nR
   subst kl;have ea:args=#[x,y]:=by rw[<- nR]
   subst ea;unfold kt at h1
   split at h1
   ·rename_i fn EC;simp only[ab,ck]at h1;exact agX hi EC h1.1 h1.2 (kN.2 hn) h2 h3 he h
   ·cases h1
  ·cases bY
 ·rename_i c d k a b
  split at bY
  ·rename_i x y T T' kl nR Cq;simp only[ab]at bY;obtain⟨⟨h1,h2⟩,h3⟩:=bY;obtain⟨Tp,args,Jq⟩:=c;simp only at kl nR Cq
   subst kl;have ea:args=#[x,y]:=by rw[<- nR]
   have et:Jq=#[T,T']:=by rw[<- Cq]
   subst ea et
   split at h3
   ·rename_i E hU;simp only[beq_iff_eq]at h3;exact ab7 hi hU h3 h1 h2 he h
   ·cases h3
  ·cases bY
 ·split at bY
  ·rename_i E hU;simp only[ab,beq_iff_eq]at bY;obtain⟨⟨⟨h1,h2⟩,h3⟩,h4⟩:=bY;exact ab8 hi hU h1 h2 h3 h4 he h
  ·cases bY
 ·cases bY
theorem oD{ops:Array Oper}(hi:Inv γ h0 io w0 s f w){j g:Nat}{want:Bool}(bY:Iv N ops (some (j,want)) (some (g,want))=true):(∀b,s.get g=.d (.bool b)->b=want->oq N ops f (some (j,want)))/\(∀b,s.get g=.d (.bool b)->b≠want->gX N ops f (some (j,want)))/\(s.get g=.rf->gX N ops f (some (j,want))):=by
 simp only[Iv,ab]at bY;obtain⟨_,bY⟩:=bY
 split at bY
 ·rename_i o ho;simp only[ab,beq_iff_eq]at bY;have hj:(ops[j]?).bind (·.dst)=some g:=by rw[ho];exact bY.1
  have hg:=hi.get g;refine⟨λb hb hw=>?_,λb hb hw=>?_,λhu=>?_⟩
  ·rw[hb]at hg;have hv:=ox hg;subst hw;exact wy hv hj bY.2
  ·rw[hb]at hg;have hv:=ox hg;have:b=!want:=by cases b<;>cases want<;>simp_all
   rw[this]at hv;exact wx hv hj bY.2
  ·rw[hu]at hg;simp only[CR]at hg;exact wu hg hj bY.2
 ·cases bY
def uM(β0:Nat->Nat)(h0:Nat->Nat)(io:List Nat)(w0:World)(s:St)(f:Fm)(w:World):Prop:=∃γ,Inv γ h0 io w0 s f w/\∀b,900<=b->γ.β b=β0 b
variable {β0:Nat->Nat}
theorem uM.cG(h:uM β0 h0 io w0 s f w)(kp:j7):uM β0 h0 io w0 (s.cG kp) f w:=by
 obtain⟨γ,hi,hb⟩:=h;exact⟨γ,hi.sub (λd c hl=>jW _ _ d c hl) (λd c hl=>jW _ _ d c hl) (λd c hl=>jW _ _ d c hl),hb⟩
theorem wv{d:Option Nat}{o:KO}(he:yu cf mf s d o=some s'):(o.jg=true/\∃c,gH s o=some c/\s'=s.put d c)\/(o.jg=false/\kc cf mf s d o=some s'):=by
 unfold yu at he
 split at he
 ·rename_i hp;simp only[ad]at he;obtain⟨c,h1,h2⟩:=he;exact .inl ⟨hp,c,h1,h2.symm⟩
 ·rename_i hp;exact .inr ⟨by simpa using hp,he⟩
theorem pN(kN:Cts w0 io P num cf)(lh:∀g ag ds q ga q',mf g ag ds q=some (ga,q')->oR w0 io P (num g) ag ds q ga q'){ops:Array Oper}{Kn:Fm->World->Prop}:∀(os:List Oper) (is:List KI) {s s':St} {f:Fm} {w:World},yC P N num ops os is=true->k9 cf mf is s=some s'->uM β0 h0 io w0 s f w->(∀f' w',uM β0 h0 io w0 s' f' w'->Kn f' w')->Ls P N ops Kn os f w
 |[],[],s,s',f,w,_,he,hi,hk=>by
  simp only[k9,aa]at he;subst he;exact iI (hk f w hi)
 |[],_::_,_,_,_,_,h,_,_,_=>by simp[yC]at h
 |_::_,[],_,_,_,_,h,_,_,_=>by simp[yC]at h
 |⟨dst,op,ty,pos,aft,gd⟩::os,⟨d,nB,HS⟩::is,s,s',f,w,h,he,⟨γ,hi,hb⟩,hk=>by
  simp only[yC,ab,WM,beq_iff_eq]at h;obtain⟨⟨⟨⟨rfl,hd⟩,hg⟩,jb⟩,nb⟩:=h;simp only[k9]at he
  split at he
  ·rename_i s1 h1;have go:oq N ops f gd->yu cf mf s dst nB=some s1->Ls P N ops Kn (⟨dst,op,ty,pos,aft,gd⟩::os) f w:=by
    intro hw h1;refine eP hw ?_;rcases wv h1 with ⟨hp,c,hc,rfl⟩|⟨hp,hn⟩
    ·simp only[hp,if_true,ab]at jb;obtain⟨d,rfl⟩:=bF.1 jb.1;obtain⟨v,k1,k2⟩:=lW (dst:=some d) (ty:=ty) (pos:=pos) (aft:=aft) (gd:=gd) hi jb.2 hc;exact cX (k2 w (λ_=>om.refl _ _ _)) (pN kN lh os is nb he ⟨γ,hi.put d c v k1,hb⟩ hk)
    ·simp only[hp,au,if_false]at jb;refine sj kN lh hi jb hn λγ' f' w' i' tr=>pN kN lh os is nb he ⟨γ',i',λb kU=>?_⟩ hk;rw[tr.β b (λe=>by
      rw[e]at hd;simp at hd;omega)]
     exact hb b kU
   have skip:gX N ops f gd->s1=s.put dst .rf->Ls P N ops Kn (⟨dst,op,ty,pos,aft,gd⟩::os) f w:=by
    intro hw e;subst e;cases dst with
    |none=>exact UO hw (pN kN lh os is nb he ⟨γ,hi,hb⟩ hk)
    |some d=>exact xf hw (pN kN lh os is nb he ⟨γ,hi.put d .rf undef (by simp only[CR]),hb⟩ hk)
   simp only[rj]at h1;cases HS with
   |none=>
    cases gd with
    |none=>exact go wn h1
    |some x=>simp[Iv]at hg
   |some x=>
    obtain⟨g,want⟩:=x;cases gd with
    |none=>simp[Iv]at hg
    |some y=>
     obtain⟨j,vL⟩:=y;have X_:vL=want:=by simp[Iv]at hg;exact hg.1
     subst X_;obtain⟨g1,g2,g3⟩:=oD hi hg;simp only at h1
     split at h1
     ·rename_i b uJ
      split at h1
      ·rename_i Ey;exact go (g1 b uJ Ey) h1
      ·rename_i Ey;simp only[aa]at h1;exact skip (g2 b uJ Ey) h1.symm
     ·rename_i Uc;simp only[aa]at h1;exact skip (g3 Uc) h1.symm
     ·cases h1
  ·cases he
theorem Inv.drew(hi:Inv γ h0 io w0 s f w):Inv γ h0 io w0 s f w.drew:=
 hi.M6 (M:=λ_=>False) ⟨rfl,rfl,rfl,aj _,λ_ _ _=>rfl,λ_ _ _=>rfl,λ_ h=>h⟩ (λh=>h) (λ_ h=>h.elim) (λ_ h=>h.elim)
def Sq(γ0:Gh)(qb:Option Nat)(Tv w':World):Prop:=(∀g j,j < γ0.h g->w'.cell? ⟨g,j,none⟩=Tv.cell? ⟨g,j,none⟩)/\∀b,qb=some b->w'.heap[γ0.β b]?=Tv.heap[γ0.β b]?
def St.only(s:St)(qb:Option Nat):St:=⟨s.sl,gl s.bx qb.toList,[]⟩
theorem Qi{nB:KO}{c:C}{qb:Option Nat}(hld:nB.J6=true)(hb:nc s nB=some qb)(hc:gH s nB=some c):gH (s.only qb) nB=some c:=by
 cases nB<;>simp[KO.J6]at hld
 rotate_left
 ·simp[nc]at hb
 rename_i n x;have hx:eU (s.only qb) x=eU s x:=by cases x<;>rfl
 simp only[nc]at hb;simp only[gH,hx]at hc ⊢
 split at hb
 ·rename_i b o he;cases hb;rw[he]at hc ⊢;simp only at hc ⊢
  have:look (s.only (some b)).bx b=look s.bx b:=by
   simp only[St.only,mZ,gl];cases h:look s.bx b<;>simp[look]
  rw[this];exact hc
 ·rename_i cs he;rw[he]at hc ⊢;exact hc
 ·cases hb
theorem Dz{qb:Option Nat}{b:Nat}{cs:List C}(h:look (s.only qb).bx b=some cs):qb=some b/\look s.bx b=some cs:=by
 cases qb with
 |none=>simp[St.only,gl,look]at h
 |some b'=>
  simp only[St.only,mZ,gl]at h;cases h':look s.bx b' with
  |none=>rw[h']at h;simp[look]at h
  |some iA=>
   rw[h']at h;simp only[look]at h
   split at h
   ·rename_i he;subst he;exact⟨rfl,by rw[h'];exact h⟩
   ·cases h
def Tk(Cl:List (List Nat×(World->Prop)))(tk:List (List Nat×Nat))(lst:Array Bool)(γ:Gh)(s:St)(w:World):Prop:=
 ∀p∈Cl,(∃m∈p.1,lst.getD m false=true)\/∃γ0 Tv qb,(∀w',Sq γ0 qb Tv w'->p.2 w')/\Sq γ0 qb Tv w/\(∀g,γ0.h g<=γ.h g)/\∀b,qb=some b->γ.β b=γ0.β b/\(look s.bx b).isSome=true/\(p.1,b)∈tk
theorem Tk.cons{Cl:List (List Nat×(World->Prop))}{tk:List (List Nat×Nat)}{lst:Array Bool}(h:Tk Cl tk lst γ s w):Cons Cl lst w:=by
 intro p hp hn;rcases h p hp with ⟨m,hm,e⟩|⟨γ0,Tv,qb,h1,h2,_⟩
 ·rw[hn m hm]at e;cases e
 ·exact h1 w h2
theorem Tk.quiet{Cl:List (List Nat×(World->Prop))}{tk:List (List Nat×Nat)}{lst:Array Bool}(h:Tk Cl tk lst γ s w)(i:Nat)(dn:List Nat)(qb:Option Nat)(d:Option Nat)(c:C)(V:World->Prop)(hV:∀w',Sq γ qb w w'->V w')(hl:∀b,qb=some b->(look s.bx b).isSome=true) :
  Tk ((dn,V)::Cl) (mF dn tk qb) (lst.setIfInBounds i true) γ (s.put d c) w:=by
 have ebx:(s.put d c).bx=s.bx:=by cases d<;>rfl
 intro p hp;rw[ebx];rcases ay.1 hp with rfl|hp
 ·refine .inr ⟨γ,w,qb,hV,⟨λ_ _ _=>rfl,λ_ _=>rfl⟩,λ_=>aj _,λb hb=>⟨rfl,hl b hb,?_⟩⟩;subst hb;simp[mF]
 ·rcases h p hp with ⟨m,hm,e⟩|⟨γ0,Tv,qb',h1,h2,h3,h4⟩
  ·exact .inl ⟨m,hm,getD_set_true e⟩
  ·refine .inr ⟨γ0,Tv,qb',h1,h2,h3,λb hb=>⟨(h4 b hb).1,(h4 b hb).2.1,?_⟩⟩;have:=(h4 b hb).2.2;cases qb<;>simp[mF,this]
theorem Tk.Im{Cl:List (List Nat×(World->Prop))}{tk:List (List Nat×Nat)}{lst:Array Bool}(h:Tk Cl tk lst γ s w){j:Nat}(hj:j < lst.size)(hi:Inv γ h0 io w0 s f w){γ':Gh}{w':World}{f':Fm}{s1:St}{dst:Option Nat}{X:List Nat}(tr:Tr dst X γ w γ' w' f f')
  (jU:∀p∈il j tk,(p.2∉X/\(look s1.bx p.2).isSome=true)/\¬dst=some p.2):Tk Cl (il j tk) (lst.setIfInBounds j true) γ' s1 w':=by
 intro p hp;rcases h p hp with ⟨m,hm,e⟩|⟨γ0,Tv,qb,h1,h2,h3,h4⟩
 ·exact .inl ⟨m,hm,getD_set_true e⟩
 ·by_cases hjp:j∈p.1
  ·refine .inl ⟨j,hjp,?_⟩;simp[Array.getD,hj]
  ·have JW:∀b,qb=some b->(p.1,b)∈il j tk:=λb hb=>by
    simp only[il,List.mem_filter];exact⟨(h4 b hb).2.2,by simpa using hjp⟩
   refine .inr ⟨γ0,Tv,qb,h1,⟨λg j' LP=>(tr.M6.cell g j' (bn LP (h3 g))).trans (h2.1 g j' LP),λb hb=>?_⟩,λg=>az (h3 g) (tr.h g),λb hb=>⟨?_,(jU _ (JW b hb)).1.2,JW b hb⟩⟩
   ·obtain⟨cs,Dd⟩:=bF.1 (h4 b hb).2.1;obtain⟨T,vs,k1,k2,k3⟩:=hi.bx b cs Dd;rw[<- h2.2 b hb,<- (h4 b hb).1];refine tr.M6.block _ k1.lt ?_;rw[k3]
    rintro⟨i,oX,e|e⟩
    ·cases e;exact (jU _ (JW b hb)).1.1 oX
    ·cases e
   ·rw[tr.β b (jU _ (JW b hb)).2];exact (h4 b hb).1
theorem nL(kN:Cts w0 io P num cf)(lh:∀g ag ds q ga q',mf g ag ds q=some (ga,q')->oR w0 io P (num g) ag ds q ga q'){ops:Array Oper}{Kn:Fm->World->Prop} :
  ∀(is:KT) {kp:j7} {Cl:List (List Nat×(World->Prop))} {lst:Array Bool} {tk:List (List Nat×Nat)} {γ:Gh} {s s':St} {f:Fm} {w:World},Ki P N num ops is=true->eH cf mf kp is tk s=some s'->lst.size=ops.size->Tk Cl tk lst γ s w->Inv γ h0 io w0 s f w->(∀b,900<=b->γ.β b=β0 b)->
   (∀s1 f' w',s'=s1.cG kp->uM β0 h0 io w0 s1 f' w'->Kn f' w')->Dv P N ops Kn Cl is.vO lst f w
 | .nil,kp,Cl,lst,tk,γ,s,s',f,w,_,he,_,_,hi,hb,hk=>by
  simp only[eH,aa]at he;exact afY (hk s f w he.symm ⟨γ,hi,hb⟩)
 | .op ⟨j,qt,al,dn,⟨d,nB,HS⟩⟩ is,kp,Cl,lst,tk,γ,s,s',f,w,h,he,mH,ht,hi,hb,hk=>by
  simp only[Ki,ab]at h;obtain⟨h,nb⟩:=h;have NF:(lst.setIfInBounds j true).size=ops.size:=by simpa using mH
  split at h
  ·rename_i o ho;have Uf:j < lst.size:=by rw[mH];exact (pg.1 ho).1
   obtain⟨dst,op,ty,pos,aft,gd⟩:=o;simp only[ab,WM,beq_iff_eq,dE,ck,pw]at h;obtain⟨⟨⟨⟨⟨hdd,hd⟩,hg⟩,jb⟩,hqp⟩,hgd⟩:=h;subst hdd;cases qt with
   |true=>
    have hpu:nB.jg=true:=by simpa using hqp
    simp only[hpu,if_true,ab]at jb;obtain⟨d,rfl⟩:=bF.1 jb.1;simp only[eH,if_true]at he;have go:∀c qb,gH s nB=some c->nc s nB=some qb->eH cf mf kp is (mF dn tk qb) (s.put (some d) c)=some s'->oq N ops f gd->Dv P N ops Kn Cl (.op (KD.vO ⟨j,true,al,dn,⟨some d,nB,HS⟩⟩) is.vO) lst f w:=by
     intro c qb hc OU he hw;cases hld:nB.J6 with
     |true=>
      have Wg:Inv γ h0 io w0 (s.only qb) f w:=hi.sub (λ_ _ h=>h) (λd c hl=>(Dz hl).2) (λd c hl=>by simp[St.only,look]at hl);obtain⟨v,k1,k2⟩:=lW (dst:=some d) (ty:=ty) (pos:=pos) (aft:=aft) (gd:=gd) Wg jb.2 (Qi hld OU hc);have abm:∀b,qb=some b->(look s.bx b).isSome=true:=λb hb=>by
       subst hb;cases nB<;>simp[KO.J6]at hld
       rotate_left
       ·simp[nc]at OU
       rename_i n x;simp only[nc]at OU
       split at OU
       ·rename_i b' o hx;cases OU;simp only[gH,hx]at hc;cases hl:look s.bx b with
        |none=>rw[hl]at hc;cases hc
        |some cs=>rfl
       ·cases OU
       ·cases OU
      exact v_q rfl ho rfl hw (Sq γ qb w) (λw' hs=>k2 w' (λ_=>⟨hs.1,λb cs hl=>hs.2 b (Dz hl).1,λr x hl=>by simp[St.only,look]at hl⟩)) ⟨λ_ _ _=>rfl,λ_ _=>rfl⟩
       (nL kN lh is nb he NF (ht.quiet j dn qb (some d) c _ (λ_ h=>h) abm) (hi.put d c v k1) hb hk)
     |false=>
      have eqb:qb=none:=by
       cases nB<;>simp[KO.J6]at hld<;>simpa [nc] using OU.symm
      subst eqb;obtain⟨v,k1,k2⟩:=lW (dst:=some d) (ty:=ty) (pos:=pos) (aft:=aft) (gd:=gd) hi jb.2 hc;exact v_q rfl ho rfl hw (λ_=>True) (λw' _=>k2 w' (λh=>by rw[hld]at h;cases h)) trivial
       (nL kN lh is nb he NF (ht.quiet j dn none (some d) c _ (λ_ _=>trivial) (λb hb=>by cases hb)) (hi.put d c v k1) hb hk)
    have skip:eH cf mf kp is tk (s.put (some d) .rf)=some s'->gX N ops f gd->Dv P N ops Kn Cl (.op (KD.vO ⟨j,true,al,dn,⟨some d,nB,HS⟩⟩) is.vO) lst f w:=by
     intro he hw;exact ZQ rfl ho hw (nL kN lh is nb he NF (ht.quiet j dn none (some d) .rf _ (λ_ _=>trivial) (λb hb=>by cases hb)) (hi.put d .rf undef (by simp only[CR])) hb hk)
    cases HS with
    |none=>
     cases gd with
     |some x=>simp[Iv]at hg
     |none=>
      simp only at he
      split at he
      ·rename_i c b hc OU;exact go c b hc OU he wn
      ·cases he
    |some x=>
     obtain⟨g,want⟩:=x;cases gd with
     |none=>simp[Iv]at hg
     |some y=>
      obtain⟨j',vL⟩:=y;have X_:vL=want:=by simp[Iv]at hg;exact hg.1
      subst X_;obtain⟨g1,g2,g3⟩:=oD hi hg;simp only at he
      split at he
      ·rename_i b uJ
       split at he
       ·rename_i Ey
        split at he
        ·rename_i c b' hc OU;exact go c b' hc OU he (g1 b uJ Ey)
        ·cases he
       ·rename_i Ey;exact skip he (g2 b uJ Ey)
      ·rename_i Uc;exact skip he (g3 Uc)
      ·cases he
   |false=>
    simp only[eH,j6,au,if_false]at he
    split at he
    ·rename_i s1 h1
     split at he
     ·rename_i jU;have J3:∀p∈il j tk,(p.2∉dW s dst nB/\(look s1.bx p.2).isSome=true)/\¬dst=some p.2:=λp hp=>by
       have:=aS.1 jU p hp
       simpa using this
      have next:∀γ' f' w',Inv γ' h0 io w0 s1 f' w'->Tr dst (dW s dst nB) γ w γ' w' f f'->Cons Cl (lst.setIfInBounds j true) w'/\Dv P N ops Kn Cl is.vO (lst.setIfInBounds j true) f' w':=by
       intro γ' f' w' i' tr;have Wp:=ht.Im Uf hi tr J3;refine⟨Wp.cons,nL kN lh is nb he NF Wp i' (λb kU=>?_) hk⟩;rw[tr.β b (λe=>by
         rw[e]at hd;simp at hd;omega)]
       exact hb b kU
      have go:oq N ops f gd->yu cf mf s dst nB=some s1->Dv P N ops Kn Cl (.op (KD.vO ⟨j,false,al,dn,⟨dst,nB,HS⟩⟩) is.vO) lst f w:=by
       intro hw h1;refine ail rfl ho hw ?_;rcases wv h1 with ⟨hp,c,hc,rfl⟩|⟨hp,hn⟩
       ·simp only[hp,if_true,ab]at jb;obtain⟨d,rfl⟩:=bF.1 jb.1;obtain⟨v,k1,k2⟩:=lW (dst:=some d) (ty:=ty) (pos:=pos) (aft:=aft) (gd:=gd) hi jb.2 hc;exact cX (k2 w (λ_=>om.refl _ _ _)) (next γ _ w (hi.put d c v k1) ⟨sG.refl _ _ _,λ_ _=>rfl,λ_=>aj _,.put⟩)
       ·simp only[hp,au,if_false]at jb;exact sj kN lh hi jb hn next
      have skip:gX N ops f gd->dst.isSome=true->s1=s.put dst .rf->Dv P N ops Kn Cl (.op (KD.vO ⟨j,false,al,dn,⟨dst,nB,HS⟩⟩) is.vO) lst f w:=by
       intro hw LO e;subst e;obtain⟨d,rfl⟩:=bF.1 LO;have nx:=next γ _ w (hi.put d .rf undef (by simp only[CR])) ⟨sG.refl _ _ _,λ_ _=>rfl,λ_=>aj _,.put⟩
       exact VN rfl ho hw nx.1 nx.2
      simp only[rj]at h1;cases HS with
      |none=>
       cases gd with
       |none=>exact go wn h1
       |some x=>simp[Iv]at hg
      |some x=>
       obtain⟨g,want⟩:=x;have LO:dst.isSome=true:=by rcases hgd with h|h;cases h;exact h
       cases gd with
       |none=>simp[Iv]at hg
       |some y=>
        obtain⟨j',vL⟩:=y;have X_:vL=want:=by simp[Iv]at hg;exact hg.1
        subst X_;obtain⟨g1,g2,g3⟩:=oD hi hg;simp only at h1
        split at h1
        ·rename_i b uJ
         split at h1
         ·rename_i Ey;exact go (g1 b uJ Ey) h1
         ·rename_i Ey;simp only[aa]at h1;exact skip (g2 b uJ Ey) LO h1.symm
        ·rename_i Uc;simp only[aa]at h1;exact skip (g3 Uc) LO h1.symm
        ·cases h1
     ·cases he
    ·cases he
  ·cases h
 | .alt ⟨j,qt,al,dn,⟨d,nB,HS⟩⟩ is r,kp,Cl,lst,tk,γ,s,s',f,w,h,he,mH,ht,hi,hb,hk=>by
  simp only[Ki,ab]at h;obtain⟨⟨h,nb⟩,hr⟩:=h;have NF:(lst.setIfInBounds j true).size=ops.size:=by simpa using mH
  have hee:j6 cf mf ⟨j,qt,al,dn,⟨d,nB,HS⟩⟩ tk s (eH cf mf kp is)=some s'/\eH cf mf kp r tk s=some s':=by
   simp only[eH,both]at he
   split at he
   ·rename_i a b ha kU
    split at he
    ·rename_i hab;subst hab;cases he;exact⟨ha,kU⟩
    ·cases he
   ·cases he
  obtain⟨he,her⟩:=hee
  split at h
  ·rename_i o ho;have Uf:j < lst.size:=by rw[mH];exact (pg.1 ho).1
   obtain⟨dst,op,ty,pos,aft,gd⟩:=o;simp only[ab,WM,beq_iff_eq,ck,pw,dE]at h;obtain⟨⟨⟨⟨⟨hdd,hd⟩,hg⟩,jb⟩,hqp⟩,hgd⟩:=h;subst hdd;simp only[j6]at he
   split at he
   ·rename_i s1 h1
    split at he
    ·rename_i jU;have J3:∀p∈il j tk,(p.2∉dW s dst nB/\(look s1.bx p.2).isSome=true)/\¬dst=some p.2:=λp hp=>by
      have:=aS.1 jU p hp
      simpa using this
     have next:∀γ' f' w',Inv γ' h0 io w0 s1 f' w'->Tr dst (dW s dst nB) γ w γ' w' f f'->Cons Cl (lst.setIfInBounds j true) w'/\Dv P N ops Kn Cl is.vO (lst.setIfInBounds j true) f' w':=by
      intro γ' f' w' i' tr;have Wp:=ht.Im Uf hi tr J3;refine⟨Wp.cons,nL kN lh is nb he NF Wp i' (λb kU=>?_) hk⟩;rw[tr.β b (λe=>by
        rw[e]at hd;simp at hd;omega)]
      exact hb b kU
     have rest:=nL kN lh r hr her mH ht hi hb hk;have go:oq N ops f gd->yu cf mf s dst nB=some s1->Dv P N ops Kn Cl (.alt (KD.vO ⟨j,qt,al,dn,⟨dst,nB,HS⟩⟩) is.vO r.vO) lst f w:=by
      intro hw h1;refine afX (e:=KD.vO ⟨j,qt,al,dn,⟨dst,nB,HS⟩⟩) ho hw ?_ rest;rcases wv h1 with ⟨hp,c,hc,rfl⟩|⟨hp,hn⟩
      ·simp only[hp,if_true,ab]at jb;obtain⟨d,rfl⟩:=bF.1 jb.1;obtain⟨v,k1,k2⟩:=lW (dst:=some d) (ty:=ty) (pos:=pos) (aft:=aft) (gd:=gd) hi jb.2 hc;exact cX (k2 w (λ_=>om.refl _ _ _)) (next γ _ w (hi.put d c v k1) ⟨sG.refl _ _ _,λ_ _=>rfl,λ_=>aj _,.put⟩)
      ·simp only[hp,au,if_false]at jb;exact sj kN lh hi jb hn next
     have skip:gX N ops f gd->dst.isSome=true->s1=s.put dst .rf->Dv P N ops Kn Cl (.alt (KD.vO ⟨j,qt,al,dn,⟨dst,nB,HS⟩⟩) is.vO r.vO) lst f w:=by
      intro hw LO e;subst e;obtain⟨d,rfl⟩:=bF.1 LO;have nx:=next γ _ w (hi.put d .rf undef (by simp only[CR])) ⟨sG.refl _ _ _,λ_ _=>rfl,λ_=>aj _,.put⟩
      exact ZP (e:=KD.vO ⟨j,qt,al,dn,⟨some d,nB,HS⟩⟩) ho hw nx.1 nx.2 rest
     simp only[rj]at h1;cases HS with
     |none=>
      cases gd with
      |none=>exact go wn h1
      |some x=>simp[Iv]at hg
     |some x=>
      obtain⟨g,want⟩:=x;have LO:dst.isSome=true:=by rcases hgd with h|h;cases h;exact h
      cases gd with
      |none=>simp[Iv]at hg
      |some y=>
       obtain⟨j',vL⟩:=y;have X_:vL=want:=by simp[Iv]at hg;exact hg.1
       subst X_;obtain⟨g1,g2,g3⟩:=oD hi hg;simp only at h1
       split at h1
       ·rename_i b uJ
        split at h1
        ·rename_i Ey;exact go (g1 b uJ Ey) h1
        ·rename_i Ey;simp only[aa]at h1;exact skip (g2 b uJ Ey) LO h1.symm
       ·rename_i Uc;simp only[aa]at h1;exact skip (g3 Uc) LO h1.symm
       ·cases h1
    ·cases he
   ·cases he
  ·cases h
theorem fx(hm:P.follows .mixedOrders=true)(kN:Cts w0 io P num cf)(lh:∀g ag ds q ga q',mf g ag ds q=some (ga,q')->oR w0 io P (num g) ag ds q ga q')(n:Nat):∀(k:K) (c:Code) {s:St} {f:Fm} {w:World} {e:Ex} {s':St},mT P N num k c=true->gx cf mf n k s=some (e,s')->uM β0 h0 io w0 s f w->
  W P N c (λf w=>e=.norm/\uM β0 h0 io w0 s' f w) (λi f w=>e=.exit i/\uM β0 h0 io w0 s' f w) (λf w=>e=.ret/\uM β0 h0 io w0 s' f w) f w
 | .skip,c,s,f,w,e,s',bY,he,hi=>by
  cases c<;>simp[mT]at bY
  simp only[gx,aa,ao]at he;obtain⟨rfl,rfl⟩:=he;exact uE ⟨rfl,hi⟩
 | .cz is kp,c,s,f,w,e,s',bY,he,hi=>by
  cases c with
  |region id ops draw=>
   cases draw with
   |true=>simp[mT]at bY
   |false=>
    simp only[mT]at bY;simp only[gx]at he
    split at he
    ·rename_i s1 h1;simp only[aa,ao]at he;obtain⟨rfl,rfl⟩:=he;have hl:=pN (Kn:=λf w=>Ex.norm=.norm/\uM β0 h0 io w0 (s1.cG kp) f w) kN lh ops.toList is bY h1 hi (λf' w' oX=>⟨rfl,oX.cG kp⟩);obtain⟨l⟩:=ops;exact dP (l:=l) hl
    ·cases he
  |_=>simp[mT]at bY
 | .Lp is kp,c,s,f,w,e,s',bY,he,⟨γ,hi,hb⟩=>by
  cases c with
  |region id ops draw=>
   cases draw with
   |false=>simp[mT]at bY
   |true=>
    simp only[mT,ab,beq_iff_eq]at bY;obtain⟨⟨⟨h1,h2⟩,h3⟩,h4⟩:=bY;simp only[gx]at he
    split at he
    ·rename_i s1 h5;simp only[aa,ao]at he;obtain⟨rfl,rfl⟩:=he;have hd:=nL (P:=P) (N:=N) (num:=num) (ops:=ops) (β0:=β0) (Kn:=λf w=>Ex.norm=.norm/\uM β0 h0 io w0 s1 f w) (Cl:=[]) (lst:=nY ops.size false) (tk:=[]) kN lh is h1 h5 (by simp) (λp hp=>by simp at hp) hi.drew hb (λs2 f' w' e oX=>⟨rfl,by rw[e];exact oX.cG kp⟩);obtain⟨l⟩:=ops;exact VP (l:=l) is.vO hm h2 h3 h4 hd
    ·cases he
  |_=>simp[mT]at bY
 | .seq a b,c,s,f,w,e,s',bY,he,hi=>by
  cases c with
  |seq ca cb=>
   simp only[mT,ab]at bY;simp only[gx]at he;refine iq ?_
   split at he
   ·rename_i s1 h1;refine kb (fx hm kN lh n a ca bY.1 h1 hi) (λf w hk=>fx hm kN lh n b cb bY.2 he hk.2) (λi f w hk=>?_) (λf w hk=>?_)
    ·cases hk.1
    ·cases hk.1
   ·rename_i iO;refine kb (fx hm kN lh n a ca bY.1 he hi) (λf w hk=>?_) (λi f w hk=>hk) (λf w hk=>hk);obtain⟨rfl,_⟩:=hk;exact absurd he (iO s')
  |_=>simp[mT]at bY
 | .cond x a b,c,s,f,w,e,s',bY,he,hi=>by
  cases c with
  |cond y ca cb=>
   simp only[mT,ab]at bY;obtain⟨⟨h1,h2⟩,h3⟩:=bY;simp only[gx]at he;obtain⟨γ,oX,hb⟩:=hi;have hv:=bH oX h1
   split at he
   ·rename_i t ht;rw[ht]at hv;have hv:=ox hv;cases t with
    |true=>exact xD hv (fx hm kN lh n a ca h2 (by simpa using he) ⟨γ,oX,hb⟩)
    |false=>exact uD hv (fx hm kN lh n b cb h3 (by simpa using he) ⟨γ,oX,hb⟩)
   ·cases he
  |_=>simp[mT]at bY
 | .block i a,c,s,f,w,e,s',bY,he,hi=>by
  cases c with
  |block j ca=>
   simp only[mT,ab,beq_iff_eq]at bY;obtain⟨rfl,bY⟩:=bY;simp only[gx]at he;refine tj ?_
   split at he
   ·rename_i i' s1 h1;refine kb (fx hm kN lh n a ca bY h1 hi) (λf w hk=>by cases hk.1) (λq f w hk=>?_) (λf w hk=>by cases hk.1);obtain⟨e1,hk⟩:=hk;cases e1
    split at he
    ·rename_i XP;simp only[aa,ao]at he;obtain⟨rfl,rfl⟩:=he;rw[if_pos XP];exact⟨rfl,hk⟩
    ·rename_i XP;simp only[aa,ao]at he;obtain⟨rfl,rfl⟩:=he;rw[if_neg XP];exact⟨rfl,hk⟩
   ·rename_i iO;refine kb (fx hm kN lh n a ca bY he hi) (λf w hk=>hk) (λq f w hk=>?_) (λf w hk=>hk);obtain⟨rfl,_⟩:=hk;exact absurd he (iO q s')
  |_=>simp[mT]at bY
 | .loop a,c,s,f,w,e,s',bY,he,hi=>by
  cases c with
  |loop ca=>
   simp only[mT]at bY;simp only[gx]at he;refine Gj (λm f w=>∃s,uM β0 h0 io w0 s f w/\iter (gx cf mf n a) m s=some (e,s')) n ⟨s,hi,he⟩ ?_
   rintro m f w ⟨s,hi,he⟩
   cases m with
   |zero=>simp[iter]at he
   |succ m=>
    simp only[iter]at he
    split at he
    ·rename_i s1 h1;refine kb (fx hm kN lh n a ca bY h1 hi) (λf w hk=>⟨m,by omega,s1,hk.2,he⟩) (λi f w hk=>by cases hk.1) (λf w hk=>by cases hk.1)
    ·rename_i iO;refine kb (fx hm kN lh n a ca bY he hi) (λf w hk=>?_) (λi f w hk=>hk) (λf w hk=>hk);obtain⟨rfl,_⟩:=hk;exact absurd he (iO s')
  |_=>simp[mT]at bY
 | .exit i,c,s,f,w,e,s',bY,he,hi=>by
  cases c<;>simp[mT]at bY
  subst bY;simp only[gx,aa,ao]at he;obtain⟨rfl,rfl⟩:=he;exact Gi ⟨rfl,hi⟩
 | .ret,c,s,f,w,e,s',bY,he,hi=>by
  cases c<;>simp[mT]at bY
  simp only[gx,aa,ao]at he;obtain⟨rfl,rfl⟩:=he;exact DY ⟨rfl,hi⟩
 | .share r a,c,s,f,w,e,s',bY,he,⟨γ,hi,hb⟩=>by
  have rX:mT P N num a c=true:=by
   cases c<;>simpa [mT] using bY
  simp only[gx]at he;obtain⟨γ',i',b',_⟩:=hi.xx [r];exact fx hm kN lh n a c rX he ⟨γ',i',λb kU=>by rw[b'];exact hb b kU⟩
 | .I9 d a,c,s,f,w,e,s',bY,he,⟨γ,hi,hb⟩=>by
  have rX:mT P N num a c=true:=by
   cases c<;>simpa [mT] using bY
  simp only[gx]at he
  split at he
  ·rename_i s1 X3;obtain⟨γ',i',b'⟩:=hi.qe X3;exact fx hm kN lh n a c rX he ⟨γ',i',λb kU=>by rw[b'];exact hb b kU⟩
  ·cases he
end
end
section
open Go.RowKit
def Ix(P:Program)(N:Nat):ResultVar->KR->Bool
 | .tmp t,.t d=>t ==d && fh t N
 | .cell a T,.c d n=>a ==d && fh a N && (if n=0 then GL P T ==some false else GL P T ==some true && mE P T ==some n)
 |_,_=>false
def FG(P:Program)(N:Nat):List ResultVar->List KR->Bool
 |[],[]=>true
 |r::rs,k::ks=>Ix P N r k && FG P N rs ks
 |_,_=>false
def okF(P:Program)(num:Nat->FuncId)(f:Nat)(kf:KF):Bool:=
 match P.funcs[num f]? with
 |some fn=>match fn.body with
  |some c=>mT P fn.ntmps num kf.body c && ny kf.np fn.ntmps && FG P fn.ntmps fn.results.toList kf.res
  |none=>false
 |none=>false
def sw(tmps:Array Value):ResultVar->Sem Value
 | .tmp t=>pure (tmps.getD t undef)
 | .cell a t=>do loadVar t (<- asAddr (tmps.getD a undef))
section
variable {P:Program} {γ:Gh} {h0:Nat->Nat} {io:List Nat} {w0:World} {s s':St} {f:Fm} {w:World} {N:Nat} {num:Nat->FuncId}
theorem R5(hi:Inv γ h0 io w0 s f w){rv:ResultVar}{kr:KR}{a:A}{l:List Nat}(bY:Ix P N rv kr=true)(he:FQ s kr=some (a,l)) :
  ∃u F,(sw (fr f N).tmps rv).run P w=.ok u w/\AR γ.h w a u F/\(∀g∈F,∃r∈l,γ.ω g=.row r)/\(l.Nodup->F.Nodup):=by
 cases rv with
 |tmp t=>
  cases kr with
  |c d n=>simp[Ix]at bY
  |t d=>
   simp only[Ix,ab,beq_iff_eq]at bY;obtain⟨rfl,ht⟩:=bY;have ic:t < N:=by simpa using ht
   simp only[FQ,ad,ao]at he;obtain⟨vs,yz,rfl,rfl⟩:=he;obtain⟨k1,k2,k3⟩:=(hi.get t).cells (MR yz);obtain⟨F,x1,x2,x3⟩:=xG hi _ k1 yz;refine⟨f t,F,by simp[sw,fr,ic],?_,x2,x3⟩;simp only[AR];refine⟨_,x1,λsQ=>?_,λsQ=>by rw[k2 sQ]⟩;obtain⟨us,e⟩:=k3 sQ;rw[e];simp[Value.cells]
 |cell a0 T=>
  cases kr with
  |t d=>simp[Ix]at bY
  |c d n=>
   simp only[Ix,ab,beq_iff_eq]at bY;obtain⟨⟨rfl,ht⟩,jO⟩:=bY;have ic:a0 < N:=by simpa using ht
   simp only[FQ]at he
   split at he
   ·rename_i b hb;have hg:=hi.get a0;rw[hb]at hg;simp only[CR]at hg
    split at he
    ·rename_i cs hl;obtain⟨T',vs,h1,h2,h3⟩:=hi.bx b cs hl;have gF:gz w (γ.β b) 0 vs:=h1.J9
     split at he
     ·rename_i hn;subst hn;simp only[if_true,beq_iff_eq]at jO
      split at he
      ·rename_i c;simp only[ad,ao]at he;obtain⟨rs,qX,rfl,rfl⟩:=he;obtain⟨F,x1,x2,x3⟩:=xG hi _ h2 qX;have HN:=h2.length;obtain⟨v,rfl⟩:=cJ.1 HN;have hc:=gF 0 v rfl;simp only[bo]at hc;refine⟨v,F,?_,?_,x2,x3⟩
       ·simp[sw,fr,ic,hg,asAddr,loadVar,nD jO,load,Sem.run,hc]
       ·simp only[AR];exact⟨[v],x1,λh=>by simp at h,λ_=>rfl⟩
      ·cases he
     ·rename_i hn;simp only[if_neg hn,ab,beq_iff_eq]at jO
      split at he
      ·rename_i rk;simp only[ad,ao]at he;obtain⟨rs,qX,rfl,rfl⟩:=he;obtain⟨F,x1,x2,x3⟩:=xG hi _ h2 qX;have HN:=h2.length;have OS:=run_loadCellsFrom (P:=P) (w:=w) (b:=γ.β b) (o:=0) vs 0 #[] (by simpa using gF);have hvn:vs.length=n:=by omega
       rw[hvn]at OS;refine⟨.agg vs.toArray,F,?_,?_,x2,x3⟩
       ·simp[sw,fr,ic,hg,asAddr,loadVar,nD jO.1,run_sizeOf jO.2,loadCells,OS]
       ·simp only[AR];exact⟨vs,x1,λ_=>rfl,λh=>by simp at h⟩
      ·cases he
    ·cases he
   ·cases he
theorem DO(hi:Inv γ h0 io w0 s f w):∀(rvs:List ResultVar) (krs:List KR) {as:List A} {l:List Nat},FG P N rvs krs=true->vB s krs=some (as,l)->
  ∃us F,(rvs.mapM (sw (fr f N).tmps)).run P w=.ok us w/\kG γ.h w as us F/\(∀g∈F,∃r∈l,γ.ω g=.row r)/\(l.Nodup->F.Nodup)
 |[],[],as,l,_,he=>by
  simp only[vB,aa,ao]at he;obtain⟨rfl,rfl⟩:=he;exact⟨[],[],by simp,by simp[kG],λ_ h=>by simp at h,λ_=>by simp⟩
 |[],_::_,_,_,h,_=>by simp[FG]at h
 |_::_,[],_,_,h,_=>by simp[FG]at h
 |rv::rvs,kr::krs,as,l,h,he=>by
  simp only[FG,ab]at h;simp only[vB]at he
  split at he
  ·rename_i a l1 h1;simp only[ad]at he;obtain⟨⟨Lc,l2⟩,h2,h3⟩:=he;simp only[ao]at h3;obtain⟨rfl,rfl⟩:=h3;obtain⟨u,F1,r1,x1,y1,z1⟩:=R5 hi h.1 h1;obtain⟨us,F2,r2,x2,y2,z2⟩:=DO hi rvs krs h.2 h2;refine⟨u::us,F1++F2,by simp[r1,r2],?_,λg hg=>?_,λhn=>?_⟩
   ·simp only[kG];exact⟨u,us,F1,F2,rfl,rfl,x1,x2⟩
   ·rcases aL.1 hg with hg|hg
    ·obtain⟨r,hr,h4⟩:=y1 g hg;exact⟨r,by simp[hr],h4⟩
    ·obtain⟨r,hr,h4⟩:=y2 g hg;exact⟨r,by simp[hr],h4⟩
   ·rw[bj]at hn;rw[bj];refine⟨z1 hn.1,z2 hn.2.1,?_⟩;intro a ha b hb e;subst e;obtain⟨r,hr,h4⟩:=y1 a ha;obtain⟨q,hq,h5⟩:=y2 a hb;rw[h4]at h5;cases h5;exact hn.2.2 r hr r hq rfl
  ·cases he
theorem xn(hi:Inv γ h0 io w0 s f w){w1:World}{h1:Nat->Nat}:∀(as:List A) {vs:List Value} {F0:List Nat} (p:Nat) {outs:List A} {l:List Nat},sq s p as=some (outs,l)->kG h1 w1 as vs F0->(∀i cs g,as[i]?=some (.box cs)->vs[i]?=some (.pointer (some ⟨g,0,none⟩))->γ.β (900+(p+i))=g)->
  ∃F,kG γ.h w outs (fS as vs) F/\(∀g∈F,(∃r∈l,γ.ω g=.row r)\/∃i,p<=i/\γ.ω g=.box (900+i))/\(l.Nodup->F.Nodup)
 |[],vs,F0,p,outs,l,he,ha,_=>by
  simp only[sq,aa,ao]at he;obtain⟨rfl,rfl⟩:=he;exact⟨[],by simp[kG,fS],λ_ h=>by simp at h,λ_=>by simp⟩
 | .val ag cs::as,vs,F0,p,outs,l,he,ha,Gy=>by
  simp only[kG]at ha;obtain⟨v,eb,F1,F2,rfl,rfl,_,ha⟩:=ha;simp only[sq,On,ad]at he;obtain⟨⟨l',r'⟩,h2,h3⟩:=he;simp only[ak,ao]at h3;obtain⟨rfl,rfl⟩:=h3;obtain⟨F,x1,x2,x3⟩:=xn hi as (p+1) h2 ha (λi iA g h4 h5=>by
   rw[show p+1+i=p+(i+1) from by omega];exact Gy (i+1) iA g (by simpa using h4) (by simpa using h5))
  refine⟨F,by simpa only [fS] using x1,λg hg=>?_,x3⟩;rcases x2 g hg with h|⟨i,h4,h5⟩
  ·exact .inl h
  ·exact .inr ⟨i,by omega,h5⟩
 | .box cs::as,vs,F0,p,outs,l,he,ha,Gy=>by
  simp only[kG,AR]at ha;obtain⟨v,eb,F1,F2,rfl,rfl,⟨g0,T0,us0,F0',rfl,_⟩,ha⟩:=ha;simp only[sq,On]at he
  split at he
  ·rename_i l1 r1 hh
   split at hh
   ·rename_i OQ hl;simp only[ad,ao]at hh;obtain⟨rs,qX,rfl,rfl⟩:=hh;simp only[ad]at he;obtain⟨⟨l',r'⟩,h2,h3⟩:=he;simp only[ao]at h3;obtain⟨rfl,rfl⟩:=h3;have hb0:=Gy 0 cs g0 rfl rfl;rw[eA]at hb0;obtain⟨T,us,k1,k2,k3⟩:=hi.bx (900+p) OQ hl;obtain⟨Fr,y1,y2,y3⟩:=xG hi _ k2 qX;obtain⟨F,x1,x2,x3⟩:=xn hi as (p+1) h2 ha (λi iA g h4 h5=>by
     rw[show p+1+i=p+(i+1) from by omega];exact Gy (i+1) iA g (by simpa using h4) (by simpa using h5))
    rw[hb0]at k1 k3;refine⟨(g0::Fr)++F,?_,λg hg=>?_,λhn=>?_⟩
    ·simp only[fS,ai,ak,kG];refine⟨_,_,g0::Fr,F,rfl,rfl,?_,x1⟩;simp only[AR];exact⟨g0,T,us,Fr,rfl,k1,hi.lJ _ _ k3,rfl,y1⟩
    ·rcases aL.1 hg with hg|hg
     ·rcases ay.1 hg with rfl|hg
      ·exact .inr ⟨p,aj _,k3⟩
      ·obtain⟨r,hr,h4⟩:=y2 g hg;exact .inl ⟨r,by simp[hr],h4⟩
     ·rcases x2 g hg with ⟨r,hr,h4⟩|⟨i,h4,h5⟩
      ·exact .inl ⟨r,by simp[hr],h4⟩
      ·exact .inr ⟨i,by omega,h5⟩
    ·rw[bj]at hn;rw[bj];refine⟨bZ.2 ⟨λhm=>?_,y3 hn.1⟩,x3 hn.2.1,?_⟩
     ·obtain⟨r,_,h4⟩:=y2 _ hm;rw[k3]at h4;cases h4
     ·intro a LL b hb e;subst e;rcases ay.1 LL with rfl|LL
      ·rcases x2 _ hb with ⟨r,_,h4⟩|⟨i,h4,h5⟩
       ·rw[k3]at h4;cases h4
       ·rw[k3]at h5;simp only[Own.box.injEq]at h5;omega
      ·obtain⟨r,hr,h4⟩:=y2 a LL;rcases x2 a hb with ⟨q,hq,h5⟩|⟨i,_,h5⟩
       ·rw[h4]at h5;cases h5;exact hn.2.2 r hr r hq rfl
       ·rw[h4]at h5;cases h5
   ·cases hh
  ·cases he
theorem ID{fn:Func}{us:List Value}(h:(fn.results.toList.mapM (sw (fr f N).tmps)).run P w=.ok us w):∃v,(results fn (fr f N).tmps).run P w=.ok v w/\TE us v:=by
 have h':(fn.results.mapM (sw (fr f N).tmps)).run P w=.ok us.toArray w:=by
  rw[Array.mapM_eq_mapM_toList];simp[h]
 have e:results fn (fr f N).tmps=(do
   let vs <- fn.results.mapM (sw (fr f N).tmps)
   pure (if h:vs.size=1 then vs[0] else .tuple vs)):=by
  unfold results
  congr 1
 rw[e];simp only[Sem.run_bind,h',Result.andThen_ok,Sem.run_pure];by_cases hl:us.length=1
 ·obtain⟨v,rfl⟩:=cJ.1 hl;exact⟨v,by simp,.inl rfl⟩
 ·exact⟨.tuple us.toArray,by simp[hl],.inr ⟨hl,rfl⟩⟩
end
theorem C_ {P : Program} {num : Nat -> FuncId} {cf : Nat -> List A -> Option (List A × List A)} {mf : Nat -> Bool -> List D -> Int -> Option (List D × Int)} (hm : P.follows .mixedOrders = true) (hj : num 9004 ≠ 1000000 -> ry P (num 9004)) (kN : ∀ g a r o, cf g a = some (r, o) -> mL P (num g) a r o) (lh : ∀ g ag ds q ga q', mf g ag ds q = some (ga, q') -> zz P (num g) ag ds q ga q') {n f : Nat} {kf : KF} (bY : okF P num f kf = true) {args rs outs : List A} (he : BF cf mf n kf args = some (rs, outs)) : mL P (num f) args rs outs := by
      unfold BF at he
      split at he
      · rename_i QS
        unfold okF at bY
        split at bY
        · rename_i fn EC
          split at bY
          · rename_i c hc
            simp only [ab] at bY
            obtain ⟨⟨HI, Uj⟩, wI⟩ := bY
            intro w h vs F hL hA jk ic eM
            have HN : vs.length = args.length := by
              clear HI Uj wI he QS jk ic hL
              induction args generalizing vs F with
              | nil => simp only [kG] at hA; simp [hA.1]
              | cons a as ih =>
                simp only [kG] at hA
                obtain ⟨v, eb, F1, F2, rfl, rfl, _, hA⟩ := hA
                simp [ih _ _ hA]
            refine enter (N := fn.ntmps) EC hc rfl (by simp only [pX, HN, QS]; exact Uj) ?_
            have i0 : Inv ⟨h, λ_ => 0, λ_ => undef, λg => if g ∈ F then .dd else .free⟩ h F w ⟨[], [], []⟩ (λi => vs.toArray.getD i undef) w := {
              sl := λd c hl => by simp [look] at hl
              bx := λd c hl => by simp [look] at hl
              rw := λd c hl => by simp [look] at hl
              own := λg hg => by
                by_cases hF : g ∈ F
                · exact ⟨ic g hF, .inr hF⟩
                · simp [hF] at hg
              lJ := λg b hg => by dsimp only at hg; split at hg <;> cases hg
              eM := eM, os := rfl, tape := rfl, output := rfl, size := aj _, frame := λ_ _ _ => rfl, cell := λ_ _ _ _ => rfl, mono := λ_ _ => aj _, hold := λ_ _ _ => rfl, eV := λ_ h => h }
            obtain ⟨pf, i1, e1, p1, x1⟩ := rR args 0 i0 hA jk (λg hg => ⟨.inr (by simp [hg]), ic g hg, .inr hg⟩) (λi v hv => by
              rw [bo]
              have := (aI.1 hv)
              obtain ⟨hil, hiv⟩ := this
              simp [hil, hiv])
            have fin : ∀ (s : St) f' w', leave kf args s = some (rs, outs) -> uM pf.β h F w s f' w' -> ∃ v, (results fn (fr f' fn.ntmps).tmps).run P w' = .ok v w' /\ ∃ v' us F1 F2 h', Ending.returned v = .returned v' /\ TE us v' /\ kG h' w' rs us F1 /\ kG h' w' outs (fS args vs) F2 /\ (F1 ++ F2).Nodup /\ (∀ g ∈ F1 ++ F2, (w.heap.size <= g \/ g ∈ F) /\ g < w'.heap.size) /\ xL h F w w' h' := by
              intro s f' w' XU ⟨γ, hi, hb⟩
              unfold leave at XU
              split at XU
              · rename_i Cx l outs' l' X0 EF
                split at XU
                · rename_i hn
                  rw [qx] at hn
                  simp only [aa, ao] at XU
                  obtain ⟨rfl, rfl⟩ := XU
                  obtain ⟨us, F1, k1, k2, k3, k4⟩ := DO hi fn.results.toList kf.res wI X0
                  obtain ⟨F2, y1, y2, y3⟩ := xn hi args 0 EF hA (λi cs g h4 h5 => by
                    rw [hb _ (by omega)]
                    exact x1 i cs g h4 h5)
                  obtain ⟨v, z1, z2⟩ := ID k1
                  rw [bj] at hn
                  refine ⟨v, z1, v, us, F1, F2, γ.h, rfl, z2, k2, y1, ?_, λg hg => ?_, ⟨hi.os, hi.tape, hi.output, hi.size, hi.frame, hi.cell, hi.mono, hi.hold, hi.eM, hi.eV⟩⟩
                  · rw [bj]
                    refine ⟨k4 hn.1, y3 hn.2.1, ?_⟩
                    intro a ha b kU e
                    subst e
                    obtain ⟨r, hr, h4⟩ := k3 a ha
                    rcases y2 a kU with ⟨q, hq, h5⟩ | ⟨i, _, h5⟩
                    · rw [h4] at h5; cases h5; exact hn.2.2 r hr r hq rfl
                    · rw [h4] at h5; cases h5
                  · have iO : γ.ω g ≠ .free := by
                      rcases aL.1 hg with hg | hg
                      · obtain ⟨r, _, h4⟩ := k3 g hg
                        rw [h4]; simp
                      · rcases y2 g hg with ⟨r, _, h4⟩ | ⟨i, _, h4⟩ <;> rw [h4] <;> simp
                    exact ⟨(hi.own g iO).2, (hi.own g iO).1⟩
                · cases XU
              · cases XU
            split at he
            · rename_i s XM
              refine kb (fx (β0 := pf.β) hm ⟨λg a r o he => (kN g a r o he).at_ hL, hj⟩ (λg ag ds q ga q' he => (lh g ag ds q ga q' he).at_ hL) n kf.body c HI XM ⟨pf, i1, λ_ _ => rfl⟩) (λf' w' hk => fin s f' w' he hk.2) (λi f' w' hk => by cases hk.1) (λf' w' hk => by cases hk.1)
            · rename_i s XM
              refine kb (fx (β0 := pf.β) hm ⟨λg a r o he => (kN g a r o he).at_ hL, hj⟩ (λg ag ds q ga q' he => (lh g ag ds q ga q' he).at_ hL) n kf.body c HI XM ⟨pf, i1, λ_ _ => rfl⟩) (λf' w' hk => by cases hk.1) (λi f' w' hk => by cases hk.1) (λf' w' hk => fin s f' w' he hk.2)
            · cases he
          · cases bY
        · cases bY
      · cases he
def O_(P:Program)(num:Nat->FuncId)(f:Nat)(kf:KF):Prop:=
 (kf.np≠999->okF P num f kf=true)/\(kf.np=999->∀args rs outs,XT f args=some (rs,outs)->mL P (num f) args rs outs)
theorem O_.of{P:Program}{num:Nat->FuncId}{f:Nat}{kf:KF}(h:okF P num f kf=true)(hn:fh kf.np 999=true):O_ P num f kf:=
 ⟨λ_=>h,λe=>by rw[e]at hn;cases hn⟩
theorem O_.ext{P:Program}{num:Nat->FuncId}{f:Nat}{b:K}{r:List KR}(h:∀args rs outs,XT f args=some (rs,outs)->mL P (num f) args rs outs):O_ P num f ⟨999,b,r⟩:=
 ⟨λe=>absurd rfl e,λ_=>h⟩
theorem sM{P:Program}{num:Nat->FuncId}{T:Nat->Option KF}(hm:P.follows .mixedOrders=true)(hj:num 9004≠1000000->ry P (num 9004))(hT:∀f kf,T f=some kf->O_ P num f kf) :
  ∀(n f:Nat) (args rs outs:List A),u7 T n f args=some (rs,outs)->mL P (num f) args rs outs
 |0,f,args,rs,outs,he=>by simp[u7]at he
 |n+1,f,args,rs,outs,he=>by
  simp only[u7]at he
  split at he
  ·cases he
  ·rename_i kf XR
   split at he
   ·rename_i hx;exact (hT f kf XR).2 hx args rs outs he
   ·rename_i hx;exact C_ hm hj (λg a r o=>sM hm hj hT n g a r o) (λg ag ds q ga q' h=>by cases h) ((hT f kf XR).1 hx) he
end
section
open Go.RowKit
inductive MC where
 |lst
 |ep (i o:Nat)
 |hd (i o:Nat)
 |sub (i o n:Nat)
 |non
def MC.tG:MC->MC
 | .sub _ _ _=>.non
 |c=>c
def MC.LX:MC->Bool
 | .sub _ _ _=>true
 |_=>false
structure MS where
 s:St
 sp:List (Nat×MC)
 es:List (List D)
def MS.OY(m:MS):KX->Option MC
 | .s d=>look m.sp d
 | .k _=>none
def MS.put(m:MS)(d:Nat)(c:C):MS:=⟨m.s.put (some d) c,po m.sp d,m.es⟩
def MS.vA(m:MS)(d:Nat)(c:MC):MS:=⟨m.s.put (some d) .any,(d,c)::po m.sp d,m.es⟩
def MS.set(m:MS)(i o:Nat)(ds:List D):MS:=⟨m.s,m.sp,match nth m.es i with
 |some e=>m.es.set i (fP e o ds)
 |none=>m.es⟩
def MS.tG(m:MS):MS:=⟨m.s,m.sp.map λp=>(p.1,p.2.tG),m.es⟩
def MS.cG(m:MS)(kp:j7):MS:=⟨m.s.cG kp,gl m.sp kp.s,m.es⟩
def MS.at_(m:MS)(i o:Nat):Option D:=match nth m.es i with
 |some e=>nth e o
 |none=>none
def uy:List C->Option (List A)
 |[]=>some []
 | .d x::cs=>if D.plain x then (uy cs).map (.val false [.d x]::·) else none
 |_=>none
section
variable (cf:Nat->List A->Option (List A×List A)) (mf:Nat->Bool->List D->Int->Option (List D×Int)) (own:Bool) (k:Nat)
def Cp(m:MS)(d f:Nat)(xs:List KX):Option MS:=
 match uy (xs.map (eU m.s)) with
 |some as=>match cf f as with
  |some ([.val false [.d r]],[])=>if D.plain r then some (m.put d (.d r)) else none
  |_=>none
 |none=>none
def Eu(m:MS)(d f:Nat)(c:MC)(y:C):Option MS:=
 match c,y with
 | .hd i o,.d (.int .i64 q)=>match m.at_ i o with
  |some (.list k fl es)=>match mf f false [.list k fl es] q with
   |some ([x'],q')=>some ((m.set i o [x']).put d (.d (.int .i64 q')))
   |_=>none
  |_=>none
 | .sub i o n,.d (.int .i64 q)=>match nth m.es i with
  |some e=>match mf f true ((e.drop o).take n) q with
   |some (xs,q')=>if o+n<=e.length/\xs.length=n then some ((m.set i o xs).put d (.d (.int .i64 q'))) else none
   |none=>none
  |none=>none
 |_,_=>none
def z7(m:MS)(d:Nat):KO->Option MS
 | .mv x=>match m.OY x with
  |some c=>some (m.vA d c)
  |none=>some (m.put d (eU m.s x))
 | .len x=>match m.OY x with
  |some .lst=>some (m.put d (.d (.int .i64 m.es.length)))
  |_=>none
 | .ia k' x y=>match m.OY x,eU m.s y with
  |some .lst,.d (.int .i64 n)=>if k'=k/\0<=n/\n.toNat < m.es.length then some (m.vA d (.ep n.toNat 0)) else none
  |_,_=>none
 | .fa o x=>match m.OY x with
  |some (.ep i p)=>some (m.vA d (.ep i (p+o)))
  |_=>none
 | .ld n x=>match m.OY x with
  |some (.ep i o)=>if n=0 then (match m.at_ i o with
    |some (.list _ _ _)=>some (m.vA d (.hd i o))
    |_=>none) else (match nth m.es i with
    |some e=>if o+n<=e.length then some (m.vA d (.sub i o n)) else none
    |none=>none)
  |_=>none
 | .call f xs=>match xs with
  |[x,y]=>(match m.OY x with
   |some c=>Eu mf m d f c (eU m.s y)
   |none=>Cp cf m d f xs)
  |_=>Cp cf m d f xs
 |op=>if op.jg then (gH m.s op).map (m.put d) else none
def P_(m:MS):KO->Option MS
 | .st n x y=>match m.OY x,eU m.s y with
  |some (.ep i o),.d v=>match m.at_ i o with
   |some c=>if n=1/\own=true/\D.plain c=true/\D.plain v=true then some (m.set i o [v]).tG else none
   |none=>none
  |_,_=>none
 |_=>none
def Es(m:MS)(i:KI):Option MS:=
 match i.gd with
 |some _=>none
 |none=>match i.dst with
  |some d=>z7 cf mf k m d i.op
  |none=>P_ own m i.op
def pD:List KI->MS->Option MS
 |[],m=>some m
 |i::is,m=>match Es cf mf own k m i with
  |some m'=>pD is m'
  |none=>none
def iterM(f:MS->Option (Ex×MS)):Nat->MS->Option (Ex×MS)
 |0,_=>none
 |n+1,s=>match f s with
  |some (.norm,s')=>iterM f n s'
  |r=>r
def db(n:Nat):K->MS->Option (Ex×MS)
 | .skip,m=>some (.norm,m)
 | .cz ops kp,m=>match pD cf mf own k ops m with
  |some m'=>some (.norm,m'.cG kp)
  |none=>none
 | .seq a b,m=>match db n a m with
  |some (.norm,m')=>db n b m'
  |r=>r
 | .cond c a b,m=>match eU m.s c with
  | .d (.bool t)=>if t then db n a m else db n b m
  |_=>none
 | .block id a,m=>match db n a m with
  |some (.exit i,m')=>if i=id then some (.norm,m') else some (.exit i,m')
  |r=>r
 | .loop a,m=>iterM (db n a) n m
 | .exit id,m=>some (.exit id,m)
 | .ret,m=>some (.ret,m)
 |_,_=>none
end
def vy(r:Nat):Option (Ex×MS)->Option (List (List D)×Int)
 |some (.norm,m)=>(match m.s.get r with
  | .d (.int .i64 q)=>some (m.es,q)
  |_=>none)
 |some (.ret,m)=>(match m.s.get r with
  | .d (.int .i64 q)=>some (m.es,q)
  |_=>none)
 |_=>none
noncomputable def Co(T:Nat->Option KF):Nat->Nat->Bool->List D->Int->Option (List D×Int)
 |0,_,_,_,_=>none
 |n+1,f,ag,cells,q=>match T f with
  |some ⟨2,body,[.t r]⟩=>
   if ag then (match body with
    | .seq (.cz (⟨some b,.box (.s 0),none⟩::is) kp) xM=>
     (match pD (u7 T n) (Co T n) false cells.length is (MS.vA ⟨⟨[(1,.d (.int .i64 q))],[],[]⟩,[],[cells]⟩ b (.ep 0 0)) with
     |some m=>(match vy r (db (u7 T n) (Co T n) false cells.length n xM (m.cG kp)) with
      |some ([qc],q')=>some (qc,q')
      |_=>none)
     |none=>none)
    |_=>none)
   else (match cells with
    |[.list k fl es]=>(match vy r (db (u7 T n) (Co T n) true k n body ⟨⟨[(1,.d (.int .i64 q))],[],[]⟩,[(0,.lst)],es⟩) with
     |some (iY,q')=>some ([.list k fl iY],q')
     |none=>none)
    |_=>none)
  |_=>none
theorem fO.ofC{w:World}:∀(ds:List D) {vs:List Value} {G:Fp},ee w ds vs G->∃Fs,Fs.flatten=G/\fO w ds vs Fs
 |[],_,_,h=>by
  simp only[ee]at h;exact⟨[],by simp[h.2],by simp[fO,h.1]⟩
 |d::ds,_,_,h=>by
  simp only[ee]at h;obtain⟨v,eb,F1,F2,rfl,rfl,h1,h2⟩:=h;obtain⟨Fs,rfl,h3⟩:=fO.ofC ds h2;exact⟨F1::Fs,by simp,by simp only[fO];exact⟨v,eb,F1,Fs,rfl,rfl,h1,h3⟩⟩
theorem fO.toC{w:World}:∀(ds:List D) {vs:List Value} {Fs:List Fp},fO w ds vs Fs->ee w ds vs Fs.flatten
 |[],_,_,h=>by
  simp only[fO]at h;simp[ee,h.1,h.2]
 |d::ds,_,_,h=>by
  simp only[fO]at h;obtain⟨v,eb,F,Ti,rfl,rfl,h1,h2⟩:=h;simp only[ee,dh];exact⟨v,eb,F,_,rfl,rfl,h1,fO.toC ds h2⟩
theorem eD.toFlat{w:World}:∀(es:List (List D)) {vs:List Value} {G:Fp},eD w es vs G->ee w es.flatten vs G
 |[],_,_,h=>by simpa [eD,ee] using h
 |e::es,_,_,h=>by
  simp only[eD]at h;obtain⟨v1,v2,F1,F2,rfl,rfl,h1,h2⟩:=h;rw[dh];exact ee.append e h1 (eD.toFlat es h2)
theorem eD.RG{w:World}:∀(es:List (List D)) {vs:List Value} {G:Fp},ee w es.flatten vs G->eD w es vs G
 |[],_,_,h=>by simpa [eD,ee] using h
 |e::es,_,_,h=>by
  rw[dh]at h;obtain⟨v1,v2,F1,F2,rfl,rfl,h1,h2⟩:=ee.fv e h;simp only[eD];exact⟨v1,v2,F1,F2,rfl,rfl,h1,eD.RG es h2⟩
theorem fO.length{w:World}:∀(ds:List D) {vs:List Value} {Fs:List Fp},fO w ds vs Fs->vs.length=ds.length/\Fs.length=ds.length
 |[],_,_,h=>by simp only[fO]at h;simp[h.1,h.2]
 |d::ds,_,_,h=>by
  simp only[fO]at h;obtain⟨v,eb,F,Ti,rfl,rfl,h1,h2⟩:=h;simp[fO.length ds h2]
theorem fO.append{w:World}:∀(ds:List D) {es:List D} {vs us:List Value} {Fs Gs:List Fp},fO w ds vs Fs->fO w es us Gs->fO w (ds++es) (vs++us) (Fs++Gs)
 |[],_,_,_,_,_,h,h'=>by simp only[fO]at h;obtain⟨rfl,rfl⟩:=h;simpa using h'
 |d::ds,_,_,_,_,_,h,h'=>by
  simp only[fO]at h;obtain⟨v,eb,F,Ti,rfl,rfl,h1,h2⟩:=h;simp only[ai,fO];exact⟨v,_,F,_,rfl,rfl,h1,fO.append ds h2 h'⟩
theorem fO.drop{w:World}:∀(ds:List D) {vs:List Value} {Fs:List Fp} (n:Nat),fO w ds vs Fs->fO w (ds.drop n) (vs.drop n) (Fs.drop n)
 |_,_,_,0,h=>by simpa using h
 |[],_,_,n+1,h=>by simp only[fO]at h;simp[fO,h.1,h.2]
 |d::ds,_,_,n+1,h=>by
  simp only[fO]at h;obtain⟨v,eb,F,Ti,rfl,rfl,h1,h2⟩:=h
  simpa using fO.drop ds n h2
theorem fO.take{w:World}:∀(ds:List D) {vs:List Value} {Fs:List Fp} (n:Nat),fO w ds vs Fs->fO w (ds.take n) (vs.take n) (Fs.take n)
 |_,_,_,0,h=>by simp[fO]
 |[],_,_,n+1,h=>by simp only[fO]at h;simp[fO,h.1,h.2]
 |d::ds,_,_,n+1,h=>by
  simp only[fO]at h;obtain⟨v,eb,F,Ti,rfl,rfl,h1,h2⟩:=h;simp only[cD,fO];exact⟨v,_,F,_,rfl,rfl,h1,fO.take ds n h2⟩
theorem fO.ZG{w:World}{ds ns:List D}{vs us:List Value}{Fs Gs:List Fp}(o:Nat)(h:fO w ds vs Fs)(h':fO w ns us Gs):fO w (fP ds o ns) (fP vs o us) (fP Fs o Gs):=by
 obtain⟨e1,e2⟩:=fO.length ns h';unfold fP;rw[e1,e2];exact fO.append _ (fO.append _ (fO.take ds o h) h') (fO.drop ds _ h)
theorem xy{α:Type}(l:List α)(o n:Nat)(h:o+n<=l.length):fP l o ((l.drop o).take n)=l:=by
 unfold fP;have e:((l.drop o).take n).length=n:=by simp;omega
 rw[e,bh,show l.drop (o+n)=(l.drop o).drop n by rw[pj],a_,a_]
theorem yj{α:Type}(l ns:List α)(o:Nat)(h:o+ns.length<=l.length):(fP l o ns).length=l.length:=by
 unfold fP;simp;omega
theorem fO.cG{w w':World}:∀(ds:List D) {vs:List Value} {Fs:List Fp},fO w ds vs Fs->(∀F∈Fs,∀be∈F,w'.heap[be.1]?=w.heap[be.1]?)->fO w' ds vs Fs
 |[],_,_,h,_=>by simpa only [fO] using h
 |d::ds,_,_,h,hk=>by
  simp only[fO]at h ⊢;obtain⟨v,eb,F,Ti,rfl,rfl,h1,h2⟩:=h;exact⟨v,eb,F,Ti,rfl,rfl,h1.cG d (λbe hb j _=>World.cell?_of_block (w:=w) (hk F (by simp) be hb)),fO.cG ds h2 (λG hG=>hk G (by simp[hG]))⟩
theorem Ai{k:Nat}:∀(es:List (List D)) (i o:Nat) (e ds:List D),(∀e∈es,e.length=k)->nth es i=some e->o+ds.length<=k->(es.set i (fP e o ds)).flatten=fP es.flatten (i * k+o) ds
 |[],i,o,e,ds,_,h,_=>by simp[nth]at h
 |x::es,0,o,e,ds,hk,h,ho=>by
  simp only[nth,aa]at h;subst h;have hx:=hk x (by simp);simp only[List.set_cons_zero,dh,oQ,bo,fP];rw[List.take_append_of_le_length (by omega),List.drop_append_of_le_length (by omega)];simp
 |x::es,i+1,o,e,ds,hk,h,ho=>by
  simp only[nth]at h;have hx:=hk x (by simp);have ih:=Ai es i o e ds (λy hy=>hk y (by simp[hy])) h ho;have e1:(i+1) * k+o=x.length+(i * k+o):=by rw[iE];omega
  rw[List.set_cons_succ,dh,ih,dh,e1];unfold fP;rw[List.take_length_add_append,show x.length+(i * k+o)+ds.length=x.length+(i * k+o+ds.length) by omega,List.drop_length_add_append];simp
theorem Ah{k:Nat}:∀(es:List (List D)),(∀e∈es,e.length=k)->es.flatten.length=es.length * k
 |[],_=>by simp
 |e::es,h=>by
  rw[dh,aO,Ah es (λx hx=>h x (by simp[hx])),h e (by simp),aE,iE];omega
theorem nO{k:Nat}:∀(es:List (List D)) (i o n:Nat) (e:List D),(∀e∈es,e.length=k)->nth es i=some e->o+n<=k->(es.flatten.drop (i * k+o)).take n=(e.drop o).take n/\i * k+o+n<=es.flatten.length
 |[],i,o,n,e,_,h,_=>by simp[nth]at h
 |x::es,0,o,n,e,hk,h,ho=>by
  simp only[nth,aa]at h;subst h;have hx:=hk x (by simp);refine⟨?_,by simp;omega⟩;rw[dh,oQ,bo,List.drop_append_of_le_length (by omega),List.take_append_of_le_length (by simp;omega)]
 |x::es,i+1,o,n,e,hk,h,ho=>by
  simp only[nth]at h;have hx:=hk x (by simp);obtain⟨h1,h2⟩:=nO es i o n e (λy hy=>hk y (by simp[hy])) h ho;have e1:(i+1) * k+o=x.length+(i * k+o):=by rw[iE];omega
  rw[dh,e1];refine⟨by rw[List.drop_length_add_append];exact h1,by rw[aO];omega⟩
end
section
open Go.RowKit
section
variable {P:Program} {ρ:Operand->Value} {w:World} {dst:Option Tmp} {ty:TypeId} {pos:String} {aft:Array Edge} {gd:Option (Nat×Bool)}
theorem Kt{g i:Nat}{v u:Value}{α:Type}(k:Sem α)(hc:w.cell? ⟨g,i,none⟩=some u)(hf:w.frozen? ⟨g,i,none⟩=false)(h1:one v=true) :
  (Sem.store .plain ⟨g,i,none⟩ v k).run P w=k.run P (w.setCell ⟨g,i,none⟩ v):=by
 cases v<;>simp_all[Sem.run,one]
theorem Ta{x y:Operand}{g o:Nat}{T:TypeId}{v u:Value}(hS:∀w,(kB T).run P w=.ok 1 w)(hx:ρ x=.pointer (some ⟨g,o,none⟩))(hy:ρ y=v)(h1:one v=true)(hc:w.cell? ⟨g,o,none⟩=some u)(hf:w.frozen? ⟨g,o,none⟩=false) :
  (execOp ρ ⟨dst,.store T x y,ty,pos,aft,gd⟩).run P w=.ok .skip (w.setCell ⟨g,o,none⟩ v):=by
 have LM:v.cells=#[v]:=by cases v<;>simp_all[Value.cells,one]
 simp[execOp,Instr.storeAt,hx,hy,Instr.sureAddr,storeVar,hS,LM,storeCells,store,Addr.add,Kt _ hc hf h1]
end
section
variable (w:World) (g i:Nat) (v:Value)
theorem nt{b:Nat}(h:b≠g):(w.setCell ⟨g,i,none⟩ v).heap[b]?=w.heap[b]?:=by
 simp[World.setCell,mI,kF h]
theorem vE:(w.setCell ⟨g,i,none⟩ v).heap.size=w.heap.size:=by simp[World.setCell]
theorem FU{j:Nat}(h:j≠i):(w.setCell ⟨g,i,none⟩ v).cell? ⟨g,j,none⟩=w.cell? ⟨g,j,none⟩:=by
 simp only[World.cell?,World.setCell,mI,if_true];cases w.heap[g]? with
 |none=>rfl
 |some o=>cases o<;>simp[Array.getElem?_setIfInBounds_ne (kF h)]
theorem FV{u:Value}(h:w.cell? ⟨g,i,none⟩=some u):(w.setCell ⟨g,i,none⟩ v).cell? ⟨g,i,none⟩=some v:=by
 simp only[World.cell?,World.setCell,mI,if_true]at h ⊢;cases hg:w.heap[g]? with
 |none=>rw[hg]at h;cases h
 |some o=>
  rw[hg]at h;cases o<;>simp at h
  rename_i c e fz;simp[(pg.1 h).1]
theorem BK(b j:Nat):(w.setCell ⟨g,i,none⟩ v).frozen? ⟨b,j,none⟩=w.frozen? ⟨b,j,none⟩:=by
 by_cases hb:b=g
 ·subst hb;simp only[World.frozen?,World.setCell,mI,if_true];cases w.heap[b]? with
  |none=>rfl
  |some o=>cases o<;>simp
 ·simp only[World.frozen?,nt w g i v hb]
end
structure Tree where
 g:Nat
 p:Nat
 k:Nat
 n:Nat
 Fs:List Fp
 hv:List Value
 pl:List Bool
 ro:Bool
def MT(t:Tree)(w:World)(es:List (List D)):Prop:=
 es.length=t.n/\(∀e∈es,e.length=t.k)/\es.flatten.map D.plain=t.pl/\
  ∃xs:List Value,fO w es.flatten xs t.Fs/\gz w t.g t.p xs/\(∀j:Nat,t.pl[j]?=some false->xs[j]?=t.hv[j]?)/\(t.ro=true->xs=t.hv)
def Jm(t:Tree)(w:World):MC->Value->Prop
 | .lst,v=>∃A c,v=.slice A t.n c/\(t.n=0\/A=some ⟨t.g,t.p,none⟩)/\t.n<=maxLen
 | .ep i o,v=>v=.pointer (some ⟨t.g,t.p+(i * t.k+o),none⟩)
 | .hd i o,v=>t.hv[i * t.k+o]?=some v
 | .non,_=>True
 | .sub i o n,v=>0 < t.n/\∃vs,v=.agg vs.toArray/\vs.length=n/\gz w t.g (t.p+(i * t.k+o)) vs
structure Tok (t:Tree) (own:Bool) (h:Nat->Nat) (F:List Nat) (w0:World):Prop where
 fs:∀G∈t.Fs,∀be∈G,be.1∈F/\be.1≠t.g
 nd:(t.Fs.flatten.map bG).Nodup
 zero:∀g∈F,h g=0/\mM w0 g/\g < w0.heap.size
 own:own=true->(t.n=0\/t.g∈F)/\t.ro=false
abbrev MZ(h:Nat->Nat)(F:List Nat):Gh:=⟨h,λ_=>0,λ_=>undef,λg=>if g∈F then .dd else .free⟩
structure jP (t:Tree) (h:Nat->Nat) (F:List Nat) (w0:World) (m:MS) (f:Fm) (w:World):Prop where
 inv:Inv (MZ h F) h F w0 m.s f w
 mt:MT t w m.es
 sp:∀d c,look m.sp d=some c->Jm t w c (f d)
 lt:t.n=0\/t.g < w.heap.size
section
variable {t:Tree} {own:Bool} {h:Nat->Nat} {F:List Nat} {w0:World} {m:MS} {f:Fm} {w w':World}
theorem SV{f:Fm}{d e:Nat}{v:Value}(h:d≠e):yo f d v e=f e:=by
 unfold yo;cases hb:jy e d
 ·rfl
 ·exact absurd (mY hb).symm h
theorem SW{f:Fm}{d:Nat}{v:Value}:yo f d v d=v:=by simp[yo]
theorem jP.put(hi:jP t h F w0 m f w){d:Nat}{c:C}{v:Value}(hc:CR (MZ h F) w c v):jP t h F w0 (m.put d c) (yo f d v) w:=
 ⟨hi.inv.put d c v hc,hi.mt,λe c' hl=>by
  simp only[MS.put,dM]at hl
  split at hl
  ·cases hl
  ·rename_i iO;rw[SV iO];exact hi.sp e c' hl,hi.lt⟩
theorem jP.vA(hi:jP t h F w0 m f w){d:Nat}{c:MC}{v:Value}(hc:Jm t w c v):jP t h F w0 (m.vA d c) (yo f d v) w:=
 ⟨hi.inv.put d .any v (by simp only[CR]),hi.mt,λe c' hl=>by
  simp only[MS.vA,look,dM]at hl
  split at hl
  ·rename_i he;subst he;simp only[aa]at hl;subst hl;rw[SW];exact hc
  ·rename_i iO;rw[SV iO];exact hi.sp e c' hl,hi.lt⟩
theorem jP.go(hi:jP t h F w0 m f w)(ha:sG (MZ h F) (λo=>o=.dd) w w'){sp':List (Nat×MC)}{iY:List (List D)}(hm:MT t w' iY)(hs:∀d c,look sp' d=some c->c=.non\/(look m.sp d=some c/\(c.LX=true->w'.heap[t.g]?=w.heap[t.g]?))) :
  jP t h F w0 ⟨m.s,sp',iY⟩ f w':=
 ⟨hi.inv.M6 ha (λh=>by cases h) (λb h=>by cases h) (λr h=>by cases h),hm,λd c hl=>by
  rcases hs d c hl with rfl|⟨h1,h2⟩
  ·trivial
  have h3:=hi.sp d c h1;cases c with
  |non=>trivial
  |lst=>exact h3
  |ep i o=>exact h3
  |hd i o=>exact h3
  |sub i o n=>
   obtain⟨h4,vs,h5,h6,h7⟩:=h3;exact⟨h4,vs,h5,h6,h7.cG (h2 rfl)⟩,by
  rcases hi.lt with h|h
  ·exact .inl h
  ·exact .inr (bn h ha.size)⟩
theorem MT.cG(hm:MT t w m.es)(hF:∀G∈t.Fs,∀be∈G,w'.heap[be.1]?=w.heap[be.1]?)(hg:t.n=0\/w'.heap[t.g]?=w.heap[t.g]?):MT t w' m.es:=by
 obtain⟨h1,h2,h3,xs,h4,h5,h6⟩:=hm;refine⟨h1,h2,h3,xs,fO.cG _ h4 hF,?_,h6⟩;rcases hg with hg|hg
 ·have hl:=(fO.length _ h4).1;rw[Ah _ h2,h1,hg,oQ]at hl;have:xs=[]:=cn.1 hl;subst this;intro j u hu;simp at hu
 ·exact h5.cG hg
theorem Inv.Wy(hi:Inv (MZ h F) h F w0 m.s f w){g:Nat}(hg:g∈F):g < w.heap.size:=(hi.own g (by simp[hg])).1
theorem qE{N:Nat}(hi:jP t h F w0 m f w){x:Operand}{y:KX}(bY:jl N x y=true){c:MC}(hc:m.OY y=some c):Jm t w c ((fr f N).eval x):=by
 cases y with
 |k c'=>simp[MS.OY]at hc
 |s d=>
  simp only[MS.OY]at hc;cases x<;>simp only[jl,ab,beq_iff_eq,au]at bY
  obtain⟨rfl,hN⟩:=bY;rw[yT f (by simpa using hN)];exact hi.sp _ c hc
end
end
section
open Go.RowKit
section
variable {P:Program} {N:Nat} {t:Tree} {own:Bool} {h:Nat->Nat} {F:List Nat} {w0:World} {m:MS} {f:Fm} {w w':World}
theorem Lb(hi:Inv (MZ h F) h F w0 m.s f w){Fb:List Nat}{h':Nat->Nat}(hc:xL h Fb w w' h')(hs:∀g∈Fb,g∈F):sG (MZ h F) (λo=>o=.dd) w w' where
 os:=hc.os
 tape:=hc.tape
 output:=hc.output
 size:=hc.size
 block g hg hn:=hc.block g hg (λhm=>hn (by simp[hs g hm]))
 cell g j hj:=by
  rcases cY g w.heap.size with hl|hl
  ·exact hc.cell g j hl hj
  ·have:=hi.eM g hl;simp only at this hj
   omega
 eV:=hc.eV
theorem Ih{α β:Type}(f:α->β)(l ns:List α)(o:Nat):(fP l o ns).map f=fP (l.map f) o (ns.map f):=by
 simp[fP,dc,qJ,List.map_drop]
theorem ma{α:Type}(l:List α)(j n:Nat):l=l.take j++((l.drop j).take n++l.drop (j+n)):=by
 rw[show l.drop (j+n)=(l.drop j).drop n by rw[pj],a_,a_]
theorem MT.mark(hm:MT t w m.es)(hk:Tok t own h F w0){i o n:Nat}{e:List D}(he:nth m.es i=some e)(hn:o+n<=t.k){ga:List D}{h':Nat->Nat}{xs:List Value}(hx:fO w m.es.flatten xs t.Fs)(hL:gz w t.g t.p xs)(hV:(∀j:Nat,t.pl[j]?=some false->xs[j]?=t.hv[j]?)/\(t.ro=true->xs=t.hv))
  (hg:t.n=0\/t.g < w.heap.size) (hF:∀g∈F,g < w.heap.size)
  (hr:fO w' ga ((xs.drop (i * t.k+o)).take n) ((t.Fs.drop (i * t.k+o)).take n)) (hp:ga.map D.plain=((e.drop o).take n).map D.plain) (hc:xL h (((t.Fs.drop (i * t.k+o)).take n).flatten.map bG) w w' h'):MT t w' (m.es.set i (fP e o ga))/\(t.n=0\/w'.heap[t.g]?=w.heap[t.g]?):=by
 obtain⟨h1,h2,h3,_⟩:=hm;obtain⟨f1,f2⟩:=nO m.es i o n e h2 he hn;have yw:e.length=t.k:=h2 e (cK (by rw[<- cV];exact he));have xW:ga.length=n:=by
  have:=congrArg List.length hp;simp only[av,aY,gN]at this;omega
 obtain⟨l1,l2⟩:=fO.length _ hx;generalize hj:i * t.k+o=j at *;have Uh:∀G∈(t.Fs.drop j).take n,G∈t.Fs:=λG hG=>iz (bM hG);have uJ:t.n=0\/w'.heap[t.g]?=w.heap[t.g]?:=by
  rcases hg with hg|hg
  ·exact .inl hg
  ·refine .inr (hc.block _ hg ?_);intro hm;obtain⟨be,hb,e⟩:=bQ.1 hm;obtain⟨G,hG,hb⟩:=dX.1 hb;exact (hk.fs G (Uh G hG) be hb).2 e
 have jk:=hk.nd;rw[ma t.Fs j n]at jk;simp only[List.flatten_append,dc]at jk;have yy:∀G,(G∈t.Fs.take j\/G∈t.Fs.drop (j+n))->∀be∈G,w'.heap[be.1]?=w.heap[be.1]?:=by
  intro G hG be hb;have hGF:G∈t.Fs:=by
   rcases hG with hG|hG
   ·exact bM hG
   ·exact iz hG
  refine hc.block _ (hF _ (hk.fs G hGF be hb).1) ?_;intro hm;rw[bj]at jk;obtain⟨_,HH,qW⟩:=jk;rw[bj]at HH;rcases hG with hG|hG
  ·exact qW be.1 (cR (dX.2 ⟨G,hG,hb⟩)) be.1 (aL.2 (.inl hm)) rfl
  ·exact HH.2.2 be.1 hm be.1 (cR (dX.2 ⟨G,hG,hb⟩)) rfl
 have HF:(m.es.set i (fP e o ga)).flatten=fP m.es.flatten j ga:=by
  rw[Ai m.es i o e ga h2 he (by omega),hj]
 have jU:fO w' (fP m.es.flatten j ga) xs t.Fs:=by
  have a1:=fO.cG _ (fO.take _ j hx) (λG hG=>yy G (.inl hG));have a2:=fO.cG _ (fO.drop _ (j+n) hx) (λG hG=>yy G (.inr hG));have a3:=fO.append _ (fO.append _ a1 hr) a2;have e1:xs.take j++(xs.drop j).take n++xs.drop (j+n)=xs:=by rw[bh];exact (ma xs j n).symm
  have e2:t.Fs.take j++(t.Fs.drop j).take n++t.Fs.drop (j+n)=t.Fs:=by rw[bh];exact (ma t.Fs j n).symm
  rw[e1,e2]at a3;unfold fP;rw[xW];exact a3
 refine⟨⟨by simp[h1],λy hy=>?_,?_,xs,by rw[HF];exact jU,?_,hV⟩,uJ⟩
 ·rcases kD hy with hy|rfl
  ·exact h2 y hy
  ·rw[yj _ _ _ (by omega)];exact yw
 ·rw[HF,Ih,hp,<- f1,qJ,List.map_drop,xy _ _ _ (by rw[av];exact f2)];exact h3
 ·rcases uJ with yU|uJ
  ·rw[Ah _ h2,h1,yU,oQ]at l1;have:xs=[]:=cn.1 l1;subst this;intro j u hu;simp at hu
  ·exact hL.cG uJ
theorem BB(hi:Inv (MZ h F) h F w0 m.s f w):∀(cs:List C) {as:List A} {vs:List Value},uy cs=some as->dS (MZ h F) w cs vs->kG h w as vs []
 |[],as,vs,hp,hc=>by
  simp only[uy,aa]at hp;subst hp;simp only[dS]at hc;simp[kG,hc]
 |c::cs,as,vs,hp,hc=>by
  unfold uy at hp
  split at hp
  ·rename_i e;cases e
  ·rename_i x iA heq;simp only[bq]at heq;obtain⟨rfl,rfl⟩:=heq
   split at hp
   ·simp only[ad]at hp;obtain⟨Lc,hp,rfl⟩:=hp;simp only[dS,CR]at hc;obtain⟨v,eb,rfl,⟨G,h1,h2⟩,h3⟩:=hc;simp only[kG];refine⟨v,eb,[],[],rfl,rfl,?_,BB hi cs hp h3⟩;simp only[AR,gA,CF];exact⟨[v],⟨v,[],[],[],rfl,rfl,⟨rfl,G,h1,h2⟩,rfl,rfl⟩,(λh=>by cases h),λ_=>rfl⟩
   ·cases hp
  ·cases hp
theorem Rp.Km{d:D}{v:Value}{G:Fp}(h:Rp w d v G)(hp:D.plain d=true)(w':World):Rp w' d v []/\G=[]:=by
 cases d with
 |list k fl es=>simp[D.plain]at hp
 |int k n=>simp only[Rp]at h ⊢;exact⟨⟨h.1,trivial,h.2.2⟩,h.2.1⟩
 |bool b=>simp only[Rp]at h ⊢;exact⟨⟨h.1,trivial⟩,h.2⟩
 |str s=>simp only[Rp]at h ⊢;exact⟨⟨h.1,trivial,h.2.2⟩,h.2.1⟩
variable {num:Nat->FuncId} {cf:Nat->List A->Option (List A×List A)} {mf:Nat->Bool->List D->Int->Option (List D×Int)} {K':Fm->World->Prop} {d:Nat} {ty:TypeId} {pos:String} {aft:Array Edge} {gd:Option (Nat×Bool)} {m':MS}
theorem zJ{F0:FuncId}(hc:kt P F0=true)(args:Array Value)(w:World):(callFunc F0 args).run P w=.ok (.enter F0 args) w:=by
 unfold kt at hc
 split at hc
 ·rename_i fn EC;simp only[ab,ck]at hc;exact jT EC hc.1 hc.2 args w
 ·cases hc
theorem Mm(kN:∀g a r o,cf g a=some (r,o)->tI w0 F P (num g) a r o)(hi:jP t h F w0 m f w)(hk:Tok t own h F w0){g:Nat}{as:Array Operand}{ts:Array TypeId}{xs:List KX}(hc:kt P (num g)=true)(hx:yD N as.toList xs=true)(he:Cp cf m d g xs=some m')
  (hK:∀f' w',jP t h F w0 m' f' w'->K' f' w'):ri P N ⟨some d,.call {callee:=.value (.func (num g)),args:=as,argTypes:=ts },ty,pos,aft,gd⟩ f w K':=by
 unfold Cp at he
 split at he
 ·rename_i cas QJ
  split at he
  ·rename_i r XL
   split at he
   ·rename_i hpl;simp only[aa]at he;subst he;have hcr:=Bq hi.inv _ _ hx;have hA:=BB hi.inv _ QJ hcr;have pG:=kN _ _ _ _ XL w h _ [] hi.inv.size hi.inv.frame (λg hg=>by simp at hg) hA (by simp) (λg hg=>by simp at hg) hi.inv.eM;have yz:as.map (fr f N).eval=(as.toList.map (fr f N).eval).toArray:=by apply Array.ext';rw[mW]
    refine xj (xH (zJ hc) rfl yz) pG λe w' hp=>?_;obtain⟨v,us,F1,F2,h',rfl,QU,qX,_,_,_,oW⟩:=hp;refine⟨v,rfl,hK _ _ ?_⟩;simp only[kG,AR,gA,CF]at qX;obtain⟨u,us',G1,G2,rfl,_,⟨vs,⟨v1,ZS,H1,H2,rfl,_,⟨_,G,hG,_⟩,rfl,_⟩,_,hv⟩,rfl,_⟩:=qX;have e1:=hv trivial;simp only[bq,and_true]at e1;subst e1;have e2:v=v1:=by
     rcases QU with h|⟨h,_⟩
     ·simp only[bq,and_true]at h;exact h.symm
     ·exact absurd rfl h
    subst e2;have ha:=Lb hi.inv oW (λg hg=>by simp at hg);have Wn:∀g,g < w.heap.size->w'.heap[g]?=w.heap[g]?:=λg hg=>oW.block g hg (by simp);have uJ:t.n=0\/w'.heap[t.g]?=w.heap[t.g]?:=hi.lt.imp id (Wn _);have i1:=hi.go (sp':=m.sp) ha (hi.mt.cG (λG hG be hb=>Wn _ (hi.inv.Wy (hk.fs G hG be hb).1)) uJ) (λd c hl=>.inr ⟨hl,λhs=>by
     cases c with
     |sub i o n=>
      have:=(hi.sp d _ hl).1;rcases uJ with h|h
      ·omega
      ·exact h
     |_=>simp[MC.LX]at hs⟩)
    refine i1.put ?_;simp only[CR];exact⟨[],(hG.Km hpl w').1,λbe hb=>by simp at hb⟩
   ·cases he
  ·cases he
 ·cases he
theorem Mn{ag:Bool}{q q':Int}{ga:List D}{g i o n:Nat}{e:List D}{v:Value}(hi:jP t h F w0 m f w)(hk:Tok t own h F w0)(he:nth m.es i=some e)(hn:o+n<=t.k)(hM:oR w0 F P (num g) ag ((e.drop o).take n) q ga q')
  {as:Array Operand} {ts:Array TypeId} (hc:kt P (num g)=true) (yz:as.map (fr f N).eval=#[v,.int .i64 q]) (hq:IntKind.i64.wrap q=q)
  (hv:∀xs:List Value,fO w m.es.flatten xs t.Fs->gz w t.g t.p xs->(∀j:Nat,t.pl[j]?=some false->xs[j]?=t.hv[j]?)/\(t.ro=true->xs=t.hv)->(ag=true->v=.agg ((xs.drop (i * t.k+o)).take n).toArray)/\(ag=false->(xs.drop (i * t.k+o)).take n=[v]))
  (hK:∀f' w',jP t h F w0 ((m.set i o ga).put d (.d (.int .i64 q'))) f' w'->K' f' w'):ri P N ⟨some d,.call {callee:=.value (.func (num g)),args:=as,argTypes:=ts },ty,pos,aft,gd⟩ f w K':=by
 obtain⟨h1,h2,h3,xs,hx,hL,hV⟩:=hi.mt;obtain⟨f1,f2⟩:=nO m.es i o n e h2 he hn;obtain⟨v1,v2⟩:=hv xs hx hL hV;have hr:=fO.take _ n (fO.drop _ (i * t.k+o) hx);rw[f1]at hr;have Uh:∀G∈(t.Fs.drop (i * t.k+o)).take n,G∈t.Fs:=λG hG=>iz (bM hG);have jk:=hk.nd;rw[ma t.Fs (i * t.k+o) n]at jk;simp only[List.flatten_append,dc]at jk;rw[bj]at jk;have HH:=jk.2.1;rw[bj]at HH;have tW:∀g∈((t.Fs.drop (i * t.k+o)).take n).flatten.map bG,g∈F:=λg hg=>by
  obtain⟨be,hb,rfl⟩:=bQ.1 hg;obtain⟨G,hG,hb⟩:=dX.1 hb;exact (hk.fs G (Uh G hG) be hb).1
 have pG:=hM w h v _ _ hi.inv.size hi.inv.frame (λg hg=>.inr (tW g hg)) hr v1 v2 hq HH.1 (λG hG be hb=>by
  have:=hk.zero _ (hk.fs G (Uh G hG) be hb).1;exact⟨this.1,hi.inv.eV _ this.2.1⟩) hi.inv.eM
 refine xj (xH (zJ hc) rfl yz) pG λe' w' hp=>?_;obtain⟨rfl,hq',yW,Gx,oW⟩:=hp;refine⟨_,rfl,hK _ _ ?_⟩;have ha:=Lb hi.inv oW tW;obtain⟨hmt,uJ⟩:=hi.mt.mark hk he hn hx hL hV hi.lt (λg hg=>hi.inv.Wy hg) yW Gx oW;have i1:=hi.go (sp':=m.sp) ha hmt (λd c hl=>.inr ⟨hl,λhs=>by
  cases c with
  |sub i o n=>
   have:=(hi.sp d _ hl).1;rcases uJ with h|h
   ·omega
   ·exact h
  |_=>simp[MC.LX]at hs⟩)
 have i2:=i1.put (d:=d) (gj hq');simp only[MS.set,he];exact i2
end
end
section
open Go.RowKit
section
variable {P:Program} {N:Nat} {t:Tree} {own:Bool} {h:Nat->Nat} {F:List Nat} {w0:World} {m m':MS} {f:Fm} {w w':World} {num:Nat->FuncId} {cf:Nat->List A->Option (List A×List A)} {mf:Nat->Bool->List D->Int->Option (List D×Int)} {K':Fm->World->Prop} {d:Nat} {ty:TypeId} {pos:String} {aft:Array Edge} {gd:Option (Nat×Bool)}
theorem MT.at_(hm:MT t w m.es){i o:Nat}{x:D}(hx:m.at_ i o=some x){xs:List Value}(hr:fO w m.es.flatten xs t.Fs):∃e v,nth m.es i=some e/\o+1<=t.k/\(e.drop o).take 1=[x]/\xs[i * t.k+o]?=some v/\(xs.drop (i * t.k+o)).take 1=[v]/\t.pl[i * t.k+o]?=some (D.plain x)/\0 < t.n:=by
 obtain⟨h1,h2,h3,_⟩:=hm;unfold MS.at_ at hx
 split at hx
 ·rename_i e he;have yw:e.length=t.k:=h2 e (cK (by rw[<- cV];exact he));rw[cV]at hx;have ho:=(aI.1 hx).1;have e1:(e.drop o).take 1=[x]:=by rw[ng,nZ,hx];rfl
  obtain⟨f1,f2⟩:=nO m.es i o 1 e h2 he (by omega);rw[e1]at f1;have hl:=(fO.length _ hr).1;have ic:i * t.k+o < xs.length:=by omega
  have NA:0 < t.n:=by
   rw[<- h1];have:=(aI.1 (by rw[<- cV];exact he:m.es[i]?=some e)).1;omega
  refine⟨e,xs[i * t.k+o],he,by omega,e1,by simp[ic],?_,?_,NA⟩
  ·rw[ng,nZ];simp[ic]
  ·rw[<- h3,List.getElem?_map];have:m.es.flatten[i * t.k+o]?=some x:=by
    rw[ng,nZ]at f1;cases hh:m.es.flatten[i * t.k+o]? with
    |none=>rw[hh]at f1;cases f1
    |some y=>rw[hh]at f1;simp at f1;rw[f1]
   rw[this];rfl
 ·cases hx
theorem Ry(kN:∀g a r o,cf g a=some (r,o)->tI w0 F P (num g) a r o)(lh:∀g ag ds q ga q',mf g ag ds q=some (ga,q')->oR w0 F P (num g) ag ds q ga q')(hi:jP t h F w0 m f w)(hk:Tok t own h F w0){op:Op}{nB:KO}(jb:(if nB.jg then qz P N op nB else RJ P N num op (some d) nB)=true)(he:z7 cf mf t.k m d nB=some m')
  (hK:∀f' w',jP t h F w0 m' f' w'->K' f' w'):ri P N ⟨some d,op,ty,pos,aft,gd⟩ f w K':=by
 have SY:∀{c:MC} {v:Value},m'=m.vA d c->Jm t w c v->(execOp (fr f N).eval ⟨some d,op,ty,pos,aft,gd⟩).run P w=.ok (.value v) w->ri P N ⟨some d,op,ty,pos,aft,gd⟩ f w K':=by
  intro c v e hv hr;exact cX hr (hK _ _ (by rw[e];exact hi.vA hv))
 have ZR:∀{c:C} {v:Value},m'=m.put d c->CR (MZ h F) w c v->(execOp (fr f N).eval ⟨some d,op,ty,pos,aft,gd⟩).run P w=.ok (.value v) w->ri P N ⟨some d,op,ty,pos,aft,gd⟩ f w K':=by
  intro c v e hv hr;exact cX hr (hK _ _ (by rw[e];exact hi.put hv))
 unfold z7 at he
 split at he
 ·rename_i y;simp only[KO.jg,if_true]at jb;have key:∃x,jl N x y=true/\(execOp (fr f N).eval ⟨some d,op,ty,pos,aft,gd⟩).run P w=.ok (.value ((fr f N).eval x)) w:=by
   unfold qz at jb
   split at jb<;>first|(cases jb;done)|skip
   all_goals first
    |(rename_i x y' heq;cases heq;exact⟨x,jb,fN rfl⟩)
    |(rename_i x y' heq;cases heq;exact⟨x,jb,hY rfl⟩)
    |(rename_i heq;cases heq)
    |skip
  obtain⟨x,hx,hr⟩:=key
  split at he
  ·rename_i c hc;simp only[aa]at he;exact SY he.symm (qE hi hx hc) hr
  ·simp only[aa]at he;exact ZR he.symm (bH hi.inv hx) hr
 ·rename_i y;simp only[KO.jg,if_true]at jb
  split at he
  ·rename_i hc;simp only[aa]at he;cases op<;>first|(exfalso;simp[qz]at jb;done)|skip
   rename_i c0;simp only[qz]at jb
   split at jb
   ·rename_i x T kl nR Cq;simp only[ab]at jb;obtain⟨h1,h2⟩:=jb;obtain⟨Tp,args,Jq⟩:=c0;simp only at kl nR Cq
    subst kl;have ea:args=#[x]:=by rw[<- nR]
    have et:Jq=#[T]:=by rw[<- Cq]
    subst ea et;obtain⟨A,c,hv,_,hmx⟩:=qE hi h1 hc;unfold HQ at h2
    split at h2
    ·rename_i E hu;refine ZR he.symm ?_ (DZ hu hv);rw[hi.mt.1];exact gj (bN (by simp[maxLen]at hmx;omega))
    ·cases h2
   ·cases jb
  ·cases he
 ·rename_i k' y j;simp only[KO.jg,if_true]at jb
  split at he
  ·rename_i n hc hn
   split at he
   ·rename_i hcc;obtain⟨rfl,As,Ui⟩:=hcc;simp only[aa]at he;cases op<;>first|(exfalso;simp[qz]at jb;done)|skip
    rename_i T x ix;simp only[qz,ab]at jb;obtain⟨⟨hx,hj⟩,jO⟩:=jb;have yX:=bH hi.inv hj;rw[hn]at yX;obtain⟨rn,_⟩:=gT yX;obtain⟨A,c,hv,hA,_⟩:=qE hi hx hc;unfold sliceB at jO
    split at jO
    ·rename_i E hu;simp only[beq_iff_eq]at jO;have XB:A=some ⟨t.g,t.p,none⟩:=by
      rcases hA with h|h
      ·have:=hi.mt.1;omega
      ·exact h
     refine SY he.symm ?_ (S7 hu (λw=>run_sizeOf jO w) hv XB rn (i:=n.toNat) (by omega) (by rw[<- hi.mt.1];exact Ui));simp only[Jm,eA]
    ·cases jO
   ·cases he
  ·cases he
 ·rename_i o y;simp only[KO.jg,if_true]at jb
  split at he
  ·rename_i i p hc;simp only[aa]at he;cases op<;>first|(exfalso;simp[qz]at jb;done)|skip
   rename_i T x fi;simp only[qz,ab]at jb;obtain⟨hx,jO⟩:=jb;have hv:=qE hi hx hc;simp only[Jm]at hv;unfold JN at jO
   split at jO
   ·rename_i fs hu
    split at jO
    ·rename_i fd hfd;simp only[ab,beq_iff_eq]at jO;obtain⟨ho,mH⟩:=jO
     split at mH
     ·rename_i n hn;simp only[lH]at mH;obtain⟨q,rfl⟩:∃q,n=q+1:=⟨n - 1,by omega⟩
      refine SY he.symm ?_ (MW hu hfd (λw=>run_sizeOf hn w) ho hv);simp only[Jm];rw[dv,dv]
     ·cases mH
    ·cases jO
   ·cases jO
  ·cases he
 ·rename_i n y;simp only[KO.jg,if_true]at jb
  split at he
  ·rename_i i o hc;cases op<;>first|(exfalso;simp[qz]at jb;done)|skip
   rename_i T x;simp only[qz,ab]at jb;obtain⟨hx,jO⟩:=jb;have hv:=qE hi hx hc;simp only[Jm]at hv;obtain⟨h1,h2,h3,xs,hr,hL,hV⟩:=hi.mt
   split at he
   ·rename_i hn;subst hn;simp only[if_true,beq_iff_eq]at jO
    split at he
    ·rename_i lk lf les JT;simp only[aa]at he;obtain⟨e,v,q1,q2,q3,q4,q5,q6,q7⟩:=hi.mt.at_ JT hr;refine SY he.symm ?_ (Gl (v:=v) (λw=>nD jO w) hv (hL _ v q4));simp only[Jm];rw[<- hV.1 _ q6];exact q4
    ·cases he
   ·rename_i hn;simp only[if_neg hn,ab,beq_iff_eq]at jO
    split at he
    ·rename_i e iO
     split at he
     ·rename_i hle;simp only[aa]at he;have yw:e.length=t.k:=h2 e (cK (by rw[<- cV];exact iO));obtain⟨f1,f2⟩:=nO m.es i o n e h2 iO (by omega);have hl:=(fO.length _ hr).1;have gF:gz w t.g (t.p+(i * t.k+o)) ((xs.drop (i * t.k+o)).take n):=hL.sub _ _;have hlen:((xs.drop (i * t.k+o)).take n).length=n:=by simp;omega
      refine SY he.symm ?_ (Gn (λw=>nD jO.1 w) (λw=>run_sizeOf jO.2 w) hv hlen gF);have NA:0 < t.n:=by
       rw[<- h1];have:=(aI.1 (by rw[<- cV];exact iO:m.es[i]?=some e)).1;omega
      exact⟨NA,_,rfl,hlen,gF⟩
     ·cases he
    ·cases he
  ·cases he
 ·rename_i g xs;simp only[KO.jg,au,if_false]at jb;cases op<;>first|(exfalso;simp[RJ]at jb;done)|skip
  rename_i c0;simp only[RJ]at jb
  split at jb
  ·rename_i F0 kl;simp only[ab,beq_iff_eq]at jb;obtain⟨⟨rfl,T_⟩,HO⟩:=jb;obtain⟨Tp,args,Jq⟩:=c0;simp only at kl HO
   subst kl
   split at he
   ·rename_i y y2
    split at he
    ·rename_i c hc;obtain⟨l,hl⟩:∃l,args.toList=l:=⟨_,rfl⟩
     rw[hl]at HO
     match l,HO with
     |[],h=>simp[yD]at h
     |[_],h=>simp[yD]at h
     |_::_::_::_,h=>simp[yD]at h
     |[x,x2],HO=>
      simp only[yD,ab]at HO;have ea:args=#[x,x2]:=by rw[<- hl]
      subst ea;have hsp:=qE hi HO.1 hc;unfold Eu at he
      split at he
      ·rename_i i o q hq;have EF:=bH hi.inv HO.2.1;rw[hq]at EF;obtain⟨hqv,hqw⟩:=gT EF
       split at he
       ·rename_i lk lf les JT
        split at he
        ·rename_i x1 q1 JY;simp only[aa]at he;subst he;obtain⟨_,_,_,xs0,hr0,_,_⟩:=hi.mt;obtain⟨e,v0,p1,p2,p3,p4,p5,p6,p7⟩:=hi.mt.at_ JT hr0;have hMk:=lh _ _ _ _ _ _ JY;rw[<- p3]at hMk;refine Mn hi hk p1 p2 hMk T_ (a2 rfl hqv) hqw (λxs hx hL hV=>⟨λh=>by (cases h),λ_=>?_⟩) hK;obtain⟨e',v',r1,r2,r3,r4,r5,r6,r7⟩:=hi.mt.at_ JT hx;rw[r5];simp only[Jm]at hsp;have:=hV.1 _ r6;rw[r4,hsp]at this;rw[eJ this]
        ·cases he
       ·cases he
      ·rename_i i o n q hq;have EF:=bH hi.inv HO.2.1;rw[hq]at EF;obtain⟨hqv,hqw⟩:=gT EF
       split at he
       ·rename_i e iO
        split at he
        ·rename_i ga q1 JY
         split at he
         ·rename_i hle;simp only[aa]at he;subst he;obtain⟨h1,h2,_⟩:=hi.mt;have yw:e.length=t.k:=h2 e (cK (by rw[<- cV];exact iO));refine Mn hi hk iO (by omega) (lh _ _ _ _ _ _ JY) T_ (a2 rfl hqv) hqw (λxs hx hL hV=>⟨λ_=>?_,λh=>by (cases h)⟩) hK;simp only[Jm]at hsp;obtain⟨_,vs,hv,HN,hvL⟩:=hsp;rw[hv];obtain⟨f1,f2⟩:=nO m.es i o n e h2 iO (by omega);have hl:=(fO.length _ hx).1
          congr 2
          apply ed
          intro z;by_cases hz:z < n
          ·have hz1:z < vs.length:=by omega
           have hz2:i * t.k+o+z < xs.length:=by omega
           have c1:=hvL z vs[z] (by simp[hz1]);have c2:=hL (i * t.k+o+z) xs[i * t.k+o+z] (by simp[hz2]);rw[dv t.p,c2]at c1;have c3:=eJ c1;simp[hz,gW,hz1,hz2,c3]
          ·rw[jN (by omega),jN (by simp;omega)]
         ·cases he
        ·cases he
       ·cases he
      ·cases he
    ·exact Mm kN hi hk T_ HO he hK
   ·exact Mm kN hi hk T_ HO he hK
  ·cases jb
 ·split at he
  ·rename_i hp;simp only[hp,if_true]at jb;simp only[ad]at he;obtain⟨c,hc,he⟩:=he;obtain⟨v,k1,k2⟩:=lW (dst:=some d) (ty:=ty) (pos:=pos) (aft:=aft) (gd:=gd) hi.inv jb hc;exact ZR he.symm k1 (k2 w (λ_=>om.refl _ _ _))
  ·cases he
theorem Rx(hi:jP t h F w0 m f w)(hk:Tok t own h F w0){op:Op}{nB:KO}(jb:(if nB.jg then false else RJ P N num op none nB)=true)(he:P_ own m nB=some m')
  (hK:∀f' w',jP t h F w0 m' f' w'->K' f' w'):ri P N ⟨none,op,ty,pos,aft,gd⟩ f w K':=by
 unfold P_ at he
 split at he
 ·rename_i n a b;simp only[KO.jg,au,if_false]at jb
  split at he
  ·rename_i i o x hc hb
   split at he
   ·rename_i c JT
    split at he
    ·rename_i hcc;obtain⟨rfl,abt,hpc,hpv⟩:=hcc;simp only[aa]at he;subst he;cases op<;>first|(exfalso;simp[RJ]at jb;done)|skip
     rename_i T xa xv;simp only[RJ,ab,beq_iff_eq]at jb;obtain⟨⟨hT,Jd⟩,oc⟩:=jb;have hv:=qE hi Jd hc;simp only[Jm]at hv;have hr:=bH hi.inv oc;rw[hb]at hr;simp only[CR]at hr;obtain⟨G,hG,_⟩:=hr;obtain⟨h1,h2,h3,xs,hx,hL,hV⟩:=hi.mt;obtain⟨e,u,q1,q2,q3,q4,q5,q6,q7⟩:=hi.mt.at_ JT hx;have We:t.g∈F:=by
      rcases (hk.own abt).1 with h|h
      ·omega
      ·exact h
     have qO:=hL _ u q4;have Gw:=(hi.inv.eV _ (hk.zero _ We).2.1).2 (t.p+(i * t.k+o));refine FF (Ta (λw=>run_sizeOf hT w) hv rfl hG.qQ qO Gw) (hK _ _ ?_);generalize J4:(fr f N).eval xv=val at *;obtain⟨hG',rfl⟩:=hG.Km hpv (w.setCell ⟨t.g,t.p+(i * t.k+o),none⟩ val);generalize hj:i * t.k+o=j at *;have ha:sG (MZ h F) (λo=>o=.dd) w (w.setCell ⟨t.g,t.p+j,none⟩ val):={
      os:=rfl,tape:=rfl,output:=rfl
      size:=by rw[vE];exact aj _
      block:=λg hg hn=>nt _ _ _ _ (λe=>hn (by rw[e];simp[We]))
      cell:=λg z hz=>by
       by_cases XO:g=t.g
       ·subst XO;have:=(hk.zero _ We).1;simp only at hz
        omega
       ·exact World.cell?_of_block (w:=w) (nt _ _ _ _ XO)
      eV:=λg hg=>⟨by rw[vE];exact hg.1,λz=>by rw[BK];exact hg.2 z⟩ }
     have yw:e.length=t.k:=h2 e (cK (by rw[<- cV];exact q1));have HF:(m.es.set i (fP e o [x])).flatten=fP m.es.flatten j [x]:=by
      rw[Ai m.es i o e [x] h2 q1 (by simpa using q2),hj]
     obtain⟨f1,f2⟩:=nO m.es i o 1 e h2 q1 q2;rw[hj]at f1 f2;obtain⟨l1,l2⟩:=fO.length _ hx;have Uf:j < xs.length:=by omega
     have hmt:MT t (w.setCell ⟨t.g,t.p+j,none⟩ val) (m.es.set i (fP e o [x])):=by
      refine⟨by simp[h1],λy hy=>?_,?_,fP xs j [val],?_,?_,?_,λhro=>by rw[(hk.own abt).2]at hro;cases hro⟩
      ·rcases kD hy with hy|rfl
       ·exact h2 y hy
       ·rw[yj _ _ _ (by simpa using (by omega))];exact yw
      ·have hpe:[x].map D.plain=((m.es.flatten.map D.plain).drop j).take 1:=by
        rw[<- List.map_drop,<- qJ,f1,q3];simp[hpc,hpv]
       rw[HF,Ih,hpe,xy _ _ _ (by rw[av];exact f2)];exact h3
      ·rw[HF];have hFj:(t.Fs.drop j).take 1=[[]]:=by
        have:=fO.take _ 1 (fO.drop _ j hx);rw[f1,q3,q5]at this;simp only[fO]at this;obtain⟨v1,ZS,F1,Fs1,e1,e2,hR,_,rfl⟩:=this;rw[e2,(hR.Km hpc w).2]
       have Ny:fO (w.setCell ⟨t.g,t.p+j,none⟩ val) m.es.flatten xs t.Fs:=fO.cG _ hx (λG hG be hb=>nt _ _ _ _ (hk.fs G hG be hb).2);have:=fO.ZG j Ny (show fO (w.setCell ⟨t.g,t.p+j,none⟩ val) [x] [val] [[]] by simp only[fO];exact⟨val,[],[],[],rfl,rfl,hG',rfl,rfl⟩);rw[<- hFj,xy t.Fs j 1 (by omega)]at this;exact this
      ·intro z y hz;have hz':=hz;simp only[fP,mJ]at hz;by_cases hzj:z=j
       ·subst hzj;have e1:y=val:=by
         rw[bh,cr (by simp;omega)]at hz;simp[dU (by omega:z<=xs.length)]at hz;exact hz.symm
        subst e1;exact FV _ _ _ _ qO
       ·rw[FU _ _ _ _ (by omega)];refine hL z y ?_;rw[bh]at hz;rcases cY z j with ic|yx
        ·rw[cl (by simp;omega),dt,if_pos ic]at hz;exact hz
        ·rw[cr (by simp;omega),aY,dU (by omega),cr (by simp;omega),gW]at hz;simp only[mJ]at hz;rw[show j+1+(z - j - 1)=z by omega]at hz;exact hz
      ·intro z hz;have hzj:z≠j:=λe=>by
        subst e;rw[q6,hpc]at hz;cases hz
       rw[<- hV.1 z hz];simp only[fP,mJ,bh];rcases cY z j with ic|yx
       ·rw[cl (by simp;omega),dt,if_pos ic]
       ·rw[cr (by simp;omega),aY,dU (by omega),cr (by simp;omega),gW];simp only[mJ];rw[show j+1+(z - j - 1)=z by omega]
     have i1:=hi.go (sp':=m.sp.map λp=>(p.1,p.2.tG)) ha hmt (λd c hl=>?_)
     ·simp only[MS.tG,MS.set,q1];exact i1
     ·have key:∀l:List (Nat×MC),look (l.map λp=>(p.1,p.2.tG)) d=(look l d).map MC.tG:=by
       intro l
       induction l with
       |nil=>rfl
       |cons p l ih=>
        simp only[aN,look,ih]
        split<;>rfl
      rw[key]at hl;simp only[ad]at hl;obtain⟨c',hl,rfl⟩:=hl;cases c' with
      |sub i o n=>exact .inl rfl
      |_=>exact .inr ⟨hl,λh=>by simp[MC.tG,MC.LX]at h⟩
    ·cases he
   ·cases he
  ·cases he
 ·cases he
end
end
section
open Go.RowKit
section
variable {P:Program} {N:Nat} {t:Tree} {own:Bool} {h:Nat->Nat} {F:List Nat} {w0:World} {num:Nat->FuncId} {cf:Nat->List A->Option (List A×List A)} {mf:Nat->Bool->List D->Int->Option (List D×Int)}
theorem vr(kN:∀g a r o,cf g a=some (r,o)->tI w0 F P (num g) a r o)(lh:∀g ag ds q ga q',mf g ag ds q=some (ga,q')->oR w0 F P (num g) ag ds q ga q')(hk:Tok t own h F w0){ops:Array Oper}{Kn:Fm->World->Prop} :
  ∀(os:List Oper) (is:List KI) {m m':MS} {f:Fm} {w:World},yC P N num ops os is=true->pD cf mf own t.k is m=some m'->jP t h F w0 m f w->(∀f' w',jP t h F w0 m' f' w'->Kn f' w')->Ls P N ops Kn os f w
 |[],[],m,m',f,w,_,he,hi,hK=>by
  simp only[pD,aa]at he;subst he;exact iI (hK f w hi)
 |[],_::_,_,_,_,_,h,_,_,_=>by simp[yC]at h
 |_::_,[],_,_,_,_,h,_,_,_=>by simp[yC]at h
 |⟨dst,op,ty,pos,aft,gd⟩::os,⟨d,nB,HS⟩::is,m,m',f,w,bY,he,hi,hK=>by
  simp only[yC,ab,WM,beq_iff_eq]at bY;obtain⟨⟨⟨⟨rfl,hd⟩,hg⟩,jb⟩,nb⟩:=bY;simp only[pD]at he
  split at he
  ·rename_i m1 h1;unfold Es at h1;cases HS with
   |some x=>cases h1
   |none=>
    cases gd with
    |some x=>simp[Iv]at hg
    |none=>
     refine eP wn ?_;simp only at h1
     cases dst with
     |some d=>
      simp only at h1
      refine Ry kN lh hi hk ?_ h1 (λf' w' oX=>vr kN lh hk os is nb he oX hK)
      split at jb
      ·rename_i hp;simp only[hp,if_true];simp only[gR,bU]at jb;exact jb
      ·rename_i hp;simp only[hp];exact jb
     |none=>
      simp only at h1
      refine Rx (num:=num) hi hk ?_ h1 (λf' w' oX=>vr kN lh hk os is nb he oX hK)
      split at jb
      ·simp at jb
      ·rename_i hp;simp only[hp];exact jb
  ·cases he
theorem jP.cG{m:MS}{f:Fm}{w:World}(hi:jP t h F w0 m f w)(kp:j7):jP t h F w0 (m.cG kp) f w:=
 ⟨hi.inv.sub (λd c hl=>jW _ _ d c hl) (λd c hl=>jW _ _ d c hl) (λd c hl=>jW _ _ d c hl),hi.mt,λd c hl=>hi.sp d c (jW _ _ d c hl),hi.lt⟩
theorem fM(kN:∀g a r o,cf g a=some (r,o)->tI w0 F P (num g) a r o)(lh:∀g ag ds q ga q',mf g ag ds q=some (ga,q')->oR w0 F P (num g) ag ds q ga q')(hk:Tok t own h F w0)(n:Nat):∀(k:K) (c:Code) {m:MS} {f:Fm} {w:World} {e:Ex} {m':MS},mT P N num k c=true->db cf mf own t.k n k m=some (e,m')->jP t h F w0 m f w->
  W P N c (λf w=>e=.norm/\jP t h F w0 m' f w) (λi f w=>e=.exit i/\jP t h F w0 m' f w) (λf w=>e=.ret/\jP t h F w0 m' f w) f w
 | .skip,c,m,f,w,e,m',bY,he,hi=>by
  cases c<;>simp[mT]at bY
  simp only[db,aa,ao]at he;obtain⟨rfl,rfl⟩:=he;exact uE ⟨rfl,hi⟩
 | .cz is kp,c,m,f,w,e,m',bY,he,hi=>by
  cases c with
  |region id ops draw=>
   cases draw with
   |true=>simp[mT]at bY
   |false=>
    simp only[mT]at bY;simp only[db]at he
    split at he
    ·rename_i m1 h1;simp only[aa,ao]at he;obtain⟨rfl,rfl⟩:=he;have hl:=vr (Kn:=λf w=>Ex.norm=.norm/\jP t h F w0 (m1.cG kp) f w) kN lh hk ops.toList is bY h1 hi (λf' w' oX=>⟨rfl,oX.cG kp⟩);obtain⟨l⟩:=ops;exact dP (l:=l) hl
    ·cases he
  |_=>simp[mT]at bY
 | .Lp is kp,c,m,f,w,e,m',bY,he,hi=>by simp[db]at he
 | .seq a b,c,m,f,w,e,m',bY,he,hi=>by
  cases c with
  |seq ca cb=>
   simp only[mT,ab]at bY;simp only[db]at he;refine iq ?_
   split at he
   ·rename_i m1 h1;refine kb (fM kN lh hk n a ca bY.1 h1 hi) (λf w gf=>fM kN lh hk n b cb bY.2 he gf.2) (λi f w gf=>?_) (λf w gf=>?_)
    ·cases gf.1
    ·cases gf.1
   ·rename_i iO;refine kb (fM kN lh hk n a ca bY.1 he hi) (λf w gf=>?_) (λi f w gf=>gf) (λf w gf=>gf);obtain⟨rfl,_⟩:=gf;exact absurd he (iO m')
  |_=>simp[mT]at bY
 | .cond x a b,c,m,f,w,e,m',bY,he,hi=>by
  cases c with
  |cond y ca cb=>
   simp only[mT,ab]at bY;obtain⟨⟨h1,h2⟩,h3⟩:=bY;simp only[db]at he;have hv:=bH hi.inv h1
   split at he
   ·rename_i b0 ht;rw[ht]at hv;have hv:=ox hv;cases b0 with
    |true=>exact xD hv (fM kN lh hk n a ca h2 (by simpa using he) hi)
    |false=>exact uD hv (fM kN lh hk n b cb h3 (by simpa using he) hi)
   ·cases he
  |_=>simp[mT]at bY
 | .block i a,c,m,f,w,e,m',bY,he,hi=>by
  cases c with
  |block j ca=>
   simp only[mT,ab,beq_iff_eq]at bY;obtain⟨rfl,bY⟩:=bY;simp only[db]at he;refine tj ?_
   split at he
   ·rename_i i' m1 h1;refine kb (fM kN lh hk n a ca bY h1 hi) (λf w gf=>by cases gf.1) (λq f w gf=>?_) (λf w gf=>by cases gf.1);obtain⟨e1,gf⟩:=gf;cases e1
    split at he
    ·rename_i XP;simp only[aa,ao]at he;obtain⟨rfl,rfl⟩:=he;rw[if_pos XP];exact⟨rfl,gf⟩
    ·rename_i XP;simp only[aa,ao]at he;obtain⟨rfl,rfl⟩:=he;rw[if_neg XP];exact⟨rfl,gf⟩
   ·rename_i iO;refine kb (fM kN lh hk n a ca bY he hi) (λf w gf=>gf) (λq f w gf=>?_) (λf w gf=>gf);obtain⟨rfl,_⟩:=gf;exact absurd he (iO q m')
  |_=>simp[mT]at bY
 | .loop a,c,m,f,w,e,m',bY,he,hi=>by
  cases c with
  |loop ca=>
   simp only[mT]at bY;simp only[db]at he;refine Gj (λz f w=>∃m,jP t h F w0 m f w/\iterM (db cf mf own t.k n a) z m=some (e,m')) n ⟨m,hi,he⟩ ?_
   rintro z f w ⟨m,hi,he⟩
   cases z with
   |zero=>simp[iterM]at he
   |succ z=>
    simp only[iterM]at he
    split at he
    ·rename_i m1 h1;refine kb (fM kN lh hk n a ca bY h1 hi) (λf w gf=>⟨z,by omega,m1,gf.2,he⟩) (λi f w gf=>by cases gf.1) (λf w gf=>by cases gf.1)
    ·rename_i iO;refine kb (fM kN lh hk n a ca bY he hi) (λf w gf=>?_) (λi f w gf=>gf) (λf w gf=>gf);obtain⟨rfl,_⟩:=gf;exact absurd he (iO m')
  |_=>simp[mT]at bY
 | .exit i,c,m,f,w,e,m',bY,he,hi=>by
  cases c<;>simp[mT]at bY
  subst bY;simp only[db,aa,ao]at he;obtain⟨rfl,rfl⟩:=he;exact Gi ⟨rfl,hi⟩
 | .ret,c,m,f,w,e,m',bY,he,hi=>by
  cases c<;>simp[mT]at bY
  simp only[db,aa,ao]at he;obtain⟨rfl,rfl⟩:=he;exact DY ⟨rfl,hi⟩
 | .share r a,c,m,f,w,e,m',bY,he,hi=>by simp[db]at he
 | .I9 d a,c,m,f,w,e,m',bY,he,hi=>by simp[db]at he
end
theorem By{r:Nat}{x:Option (Ex×MS)}{es:List (List D)}{q:Int}(h:vy r x=some (es,q)):∃e m,x=some (e,m)/\(e=.norm\/e=.ret)/\m.s.get r=.d (.int .i64 q)/\m.es=es:=by
 unfold vy at h
 split at h
 ·rename_i m
  split at h
  ·rename_i q' hq;simp only[aa,ao]at h;obtain⟨rfl,rfl⟩:=h;exact⟨_,m,rfl,.inl rfl,hq,rfl⟩
  ·cases h
 ·rename_i m
  split at h
  ·rename_i q' hq;simp only[aa,ao]at h;obtain⟨rfl,rfl⟩:=h;exact⟨_,m,rfl,.inr rfl,hq,rfl⟩
  ·cases h
 ·cases h
theorem Inv.chg{h:Nat->Nat}{F:List Nat}{w0:World}{s:St}{f:Fm}{w:World}(hi:Inv (MZ h F) h F w0 s f w):xL h F w0 w h:=
 ⟨hi.os,hi.tape,hi.output,hi.size,hi.frame,hi.cell,hi.mono,hi.hold,hi.eM,hi.eV⟩
theorem TZ{es:List (List D)}(h:∀b∈es.flatten.map D.plain,b=true):flat es:=λe he x hx=>h _ (cR (dX.2 ⟨e,he,hx⟩))
theorem C5{P:Program}{num:Nat->FuncId}{T:Nat->Option KF}(hm:P.follows .mixedOrders=true)(hj:num 9004≠1000000->ry P (num 9004))(hT:∀f kf,T f=some kf->O_ P num f kf) :
  ∀(n f:Nat) (ag:Bool) (ds:List D) (q:Int) (ga:List D) (q':Int),Co T n f ag ds q=some (ga,q')->zz P (num f) ag ds q ga q'
 |0,f,ag,ds,q,ga,q',he=>by simp[Co]at he
 |n+1,f,ag,ds,q,ga,q',he=>by
  have kN:∀g a r o,u7 T n g a=some (r,o)->mL P (num g) a r o:=λg a r o=>sM hm hj hT n g a r o;have lh:∀g ag ds q ga q',Co T n g ag ds q=some (ga,q')->zz P (num g) ag ds q ga q':=λg ag ds q ga q'=>C5 hm hj hT n g ag ds q ga q';simp only[Co]at he
  split at he
  ·rename_i body r XR;have bY:=(hT f _ XR).1 (by simp);unfold okF at bY
   split at bY
   ·rename_i fn EC
    split at bY
    ·rename_i c hc;simp only[ab]at bY;obtain⟨⟨HI,Uj⟩,wI⟩:=bY;intro w h v vs Fs Ns hr ago agp hq jk hz eM;have ic:∀g∈Fs.flatten.map bG,g < w.heap.size:=λg hg=>by
      obtain⟨be,hb,rfl⟩:=bQ.1 hg;exact ee.lt _ (fO.toC _ hr) be hb
     have hzero:∀g∈Fs.flatten.map bG,h g=0/\mM w g/\g < w.heap.size:=λg hg=>by
      have hl:=ic g hg;obtain⟨be,hb,rfl⟩:=bQ.1 hg;obtain⟨G,hG,hb⟩:=dX.1 hb;exact⟨(hz G hG be hb).1,(hz G hG be hb).2,hl⟩
     refine enter (N:=fn.ntmps) EC hc rfl Uj ?_;have i0:Inv (MZ h (Fs.flatten.map bG)) h (Fs.flatten.map bG) w ⟨[],[],[]⟩ (λi=>#[v,.int .i64 q].getD i undef) w:={
      sl:=λd c hl=>by simp[look]at hl
      bx:=λd c hl=>by simp[look]at hl
      rw:=λd c hl=>by simp[look]at hl
      own:=λg hg=>by
       by_cases hF:g∈Fs.flatten.map bG
       ·exact⟨ic g hF,.inr hF⟩
       ·simp only[if_neg hF]at hg;exact absurd rfl hg
      lJ:=λg b hg=>by dsimp only at hg;split at hg<;>cases hg
      eM:=eM,os:=rfl,tape:=rfl,output:=rfl,size:=aj _,frame:=λ_ _ _=>rfl,cell:=λ_ _ _ _=>rfl,mono:=λ_ _=>aj _,hold:=λ_ _ _=>rfl,eV:=λ_ h=>h }
     have i1:Inv (MZ h (Fs.flatten.map bG)) h (Fs.flatten.map bG) w ⟨[(1,.d (.int .i64 q))],[],[]⟩ (λi=>#[v,.int .i64 q].getD i undef) w:=i0.Ve 1 _ (gj hq);have Um:fn.results=#[.tmp r]/\fh r fn.ntmps=true:=by
      obtain⟨rs⟩:∃rs,rs=fn.results.toList:=⟨_,rfl⟩
      match hl:fn.results.toList,wI with
      |[],h=>rw[hl]at wI;simp[FG]at wI
      |_::_::_,h=>rw[hl]at wI;simp[FG]at wI
      |[x],h=>
       rw[hl]at wI;simp only[FG,fj]at wI;cases x with
       |cell a T=>simp[Ix]at wI
       |tmp a=>
        simp only[Ix,ab,beq_iff_eq]at wI;obtain⟨rfl,h2⟩:=wI;exact⟨by rw[<- Array.toArray_toList (xs:=fn.results),hl],h2⟩
     split at he
     ·rename_i sQ;subst sQ;have hva:=ago rfl
      split at he
      ·rename_i b is kp xM
       split at he
       ·rename_i m1 agt
        split at he
        ·rename_i qc q1 yy;simp only[aa,ao]at he;obtain⟨rfl,rfl⟩:=he;obtain⟨ex,m',XM,hex,QM,vQ⟩:=By yy;cases c with
         |seq ca cb=>
          simp only[mT,ab]at HI;obtain⟨Nz,agG⟩:=HI;cases ca with
          |region id ops draw=>
           cases draw with
           |true=>simp[mT]at Nz
           |false=>
            simp only[mT]at Nz;refine iq ?_;obtain⟨l⟩:=ops;refine dP (l:=l) ?_;cases l with
            |nil=>simp[yC]at Nz
            |cons o1 os=>
             obtain⟨dst,op,ty,pos,aft,gd⟩:=o1;simp only[yC,ab,WM,beq_iff_eq]at Nz;obtain⟨⟨⟨⟨rfl,hd⟩,hg⟩,jb⟩,nb⟩:=Nz;cases gd with
             |some x=>simp[Iv]at hg
             |none=>
              simp only[KO.jg,au,if_false]at jb;cases op<;>first|(exfalso;simp[RJ]at jb;done)|skip
              rename_i T0 x0;simp only[RJ]at jb;have hx0:(fr (λi=>#[v,.int .i64 q].getD i undef) fn.ntmps).eval x0=v:=by
               cases x0<;>simp only[jl,ab,beq_iff_eq,au]at jb
               obtain⟨rfl,hN⟩:=jb;rw[yT _ (by simpa using hN)];rfl
              refine eP wn ?_;have lQ:(execOp (fr (λi=>#[v,.int .i64 q].getD i undef) fn.ntmps).eval ⟨some b,.box T0 x0,ty,pos,aft,none⟩).run P w=.ok (.value (.pointer (some ⟨w.heap.size,0,none⟩))) (w.alloc (.cells vs.toArray T0)):=by
               have h0:(execOp (fr (λi=>#[v,.int .i64 q].getD i undef) fn.ntmps).eval ⟨some b,.box T0 x0,ty,pos,aft,none⟩).run P w=.ok (.value (.pointer (some ⟨w.heap.size,0,none⟩))) (w.alloc (.cells ((fr (λi=>#[v,.int .i64 q].getD i undef) fn.ntmps).eval x0).cells.toList.toArray T0)):=by
                simp[execOp,Instr.box,newVar,newRow,newObj,Sem.run]
               rw[hx0]at h0;have h3:v.cells.toList.toArray=vs.toArray:=by rw[hva];simp[Value.cells]
               rw[h3]at h0;exact h0
              refine DH lQ λw1 X3 Ny hB=>?_;obtain⟨l1,l2⟩:=fO.length _ hr;have Uo:Tok ⟨w.heap.size,0,ds.length,1,Fs,vs,ds.map D.plain,true⟩ false h (Fs.flatten.map bG) w:=⟨λG hG be hb=>by
                have JY:be.1∈Fs.flatten.map bG:=cR (dX.2 ⟨G,hG,hb⟩);have:=ic _ JY;exact⟨JY,λe=>by simp only at e;omega⟩,jk,hzero,λh=>by cases h⟩
              have hkr:fO w1 ds vs Fs:=fO.cG _ hr (λG hG be hb=>Ny.block _ (ic _ (cR (dX.2 ⟨G,hG,hb⟩))));have iw:Inv (MZ h (Fs.flatten.map bG)) h (Fs.flatten.map bG) w ⟨[(1,.d (.int .i64 q))],[],[]⟩ (λi=>#[v,.int .i64 q].getD i undef) w1:=i1.GP Ny;have agA:jP ⟨w.heap.size,0,ds.length,1,Fs,vs,ds.map D.plain,true⟩ h (Fs.flatten.map bG) w ⟨⟨[(1,.d (.int .i64 q))],[],[]⟩,[],[ds]⟩ (λi=>#[v,.int .i64 q].getD i undef) w1:=
               ⟨iw,⟨rfl,λe he=>(by simp at he;simp[he]),by simp,vs,by simpa using hkr,hB.J9,λ_ _=>rfl,λ_=>rfl⟩,λd c hl=>by simp[look]at hl,.inr (by simp only;omega)⟩
              have agB:=agA.vA (d:=b) (c:=.ep 0 0) (v:=.pointer (some ⟨w.heap.size,0,none⟩)) (by simp[Jm]);refine vr (λg a r o he=>(kN g a r o he).at_ Ns) (λg ag ds q ga q' he=>(lh g ag ds q ga q' he).at_ Ns) Uo os is nb agt agB λf2 w2 Tt=>?_;have QH:=fM (P:=P) (N:=fn.ntmps) (num:=num) (λg a r o he=>(kN g a r o he).at_ Ns) (λg ag ds q ga q' he=>(lh g ag ds q ga q' he).at_ Ns) Uo n xM cb agG XM (Tt.cG kp);have done:∀f' w',jP ⟨w.heap.size,0,ds.length,1,Fs,vs,ds.map D.plain,true⟩ h (Fs.flatten.map bG) w m' f' w'->∃u,(results fn (fr f' fn.ntmps).tmps).run P w'=.ok u w'/\Ending.returned u=.returned (.int .i64 q1)/\IntKind.i64.wrap q1=q1/\fO w' qc vs Fs/\qc.map D.plain=ds.map D.plain/\xL h (Fs.flatten.map bG) w w' h:=by
               intro f' w' oX;have hg:=oX.inv.get r;rw[QM]at hg;obtain⟨g1,g2⟩:=gT hg;obtain⟨m1',m2',m3',Gq,m4',m5',m6',m7'⟩:=oX.mt;rw[vQ]at m3' m4';have e1:=m7' rfl;simp only at e1
               subst e1;refine⟨_,DM Um.1 g1 Um.2,rfl,g2,by simpa using m4',by simpa using m3',oX.inv.chg⟩
              refine kb QH (λf' w' gf=>done f' w' gf.2) (λi f' w' gf=>?_) (λf' w' gf=>done f' w' gf.2);rcases hex with rfl|rfl<;>cases gf.1
          |_=>simp[mT]at Nz
         |_=>simp[mT]at HI
        ·cases he
       ·cases he
      ·cases he
     ·rename_i sQ;have sQ:ag=false:=by simpa using sQ
      subst sQ
      split at he
      ·rename_i k fl es
       split at he
       ·rename_i iY q1 yy;simp only[aa,ao]at he;obtain⟨rfl,rfl⟩:=he;obtain⟨ex,m',XM,hex,QM,rfl⟩:=By yy;have hv:=agp rfl;subst hv;simp only[fO]at hr;obtain⟨v',_,F1,_,hvv,rfl,uK,rfl,rfl⟩:=hr;simp only[bq,and_true]at hvv;subst hvv;simp only[dh,List.flatten_nil,aD]at *;have X2:=uK;simp only[Rp]at uK;obtain⟨A,n0,cc,hvA,As,Jc,Ua,sR,hkp,Dg,abf⟩:=uK;have fin:∀(t:Tree),Tok t true h (F1.map bG) w->t.k=k->jP t h (F1.map bG) w ⟨⟨[(1,.d (.int .i64 q))],[],[]⟩,[(0,.lst)],es⟩ (λi=>#[v,.int .i64 q].getD i undef) w->
          (∀f' w',jP t h (F1.map bG) w m' f' w'->Rp w' (.list k fl m'.es) v F1)->W P fn.ntmps c (λf w'=>∃u,(results fn (fr f fn.ntmps).tmps).run P w'=.ok u w'/\Ending.returned u=.returned (.int .i64 q1)/\IntKind.i64.wrap q1=q1/\fO w' [.list k fl m'.es] [v] [F1]/\[D.list k fl m'.es].map D.plain=[D.list k fl es].map D.plain/\xL h (F1.map bG) w w' h) (λ_ _ _=>False) (λf w'=>∃u,(results fn (fr f fn.ntmps).tmps).run P w'=.ok u w'/\Ending.returned u=.returned (.int .i64 q1)/\IntKind.i64.wrap q1=q1/\fO w' [.list k fl m'.es] [v] [F1]/\[D.list k fl m'.es].map D.plain=[D.list k fl es].map D.plain/\xL h (F1.map bG) w w' h) (λi=>#[v,.int .i64 q].getD i undef) w:=by
         intro t Uo Wq hmi abe;subst Wq;have QH:=fM (P:=P) (N:=fn.ntmps) (num:=num) (λg a r o he=>(kN g a r o he).at_ Ns) (λg ag ds q ga q' he=>(lh g ag ds q ga q' he).at_ Ns) Uo n body c HI XM hmi;have done:∀f' w',jP t h (F1.map bG) w m' f' w'->∃u,(results fn (fr f' fn.ntmps).tmps).run P w'=.ok u w'/\Ending.returned u=.returned (.int .i64 q1)/\IntKind.i64.wrap q1=q1/\fO w' [.list t.k fl m'.es] [v] [F1]/\[D.list t.k fl m'.es].map D.plain=[D.list t.k fl es].map D.plain/\xL h (F1.map bG) w w' h:=by
          intro f' w' oX;have hg:=oX.inv.get r;rw[QM]at hg;obtain⟨g1,g2⟩:=gT hg;refine⟨_,DM Um.1 g1 Um.2,rfl,g2,?_,rfl,oX.inv.chg⟩;simp only[fO];exact⟨v,[],F1,[],rfl,rfl,abe f' w' oX,rfl,rfl⟩
         refine kb QH (λf' w' gf=>done f' w' gf.2) (λi f' w' gf=>?_) (λf' w' gf=>done f' w' gf.2);rcases hex with rfl|rfl<;>cases gf.1
        rcases abf with ⟨abq,hF0⟩|⟨QS,b,o,xs,G,hA,hF1,hE,hL⟩
        ·subst hF0;have vQ:es=[]:=cn.1 (by omega);subst vQ;refine fin ⟨0,0,k,0,[],[],[],false⟩ ⟨λG hG=>by simp at hG,by simp,λg hg=>by simp at hg,λ_=>⟨.inl rfl,rfl⟩⟩ rfl ⟨i1,⟨rfl,λe he=>by simp at he,rfl,[],by simp[fO],λj u hu=>by simp at hu,λj hj=>by simp at hj,λh=>by cases h⟩,λd c hl=>?_,.inl rfl⟩ (λf' w' oX=>?_)
         ·simp only[look]at hl
          split at hl
          ·rename_i hd;subst hd;simp only[aa]at hl;subst hl;simp only[Jm];exact⟨A,cc,by simpa [abq] using hvA,.inl trivial,qL _⟩
          ·cases hl
         ·have:m'.es=[]:=cn.1 oX.mt.1;rw[this];simp only[Rp];exact⟨A,n0,cc,hvA,by simpa using As,Jc,Ua,λ_=>ja,hkp,λe he=>by simp at he,.inl ⟨abq,trivial⟩⟩
        ·subst hF1;obtain⟨Gs,rfl,hGs⟩:=fO.ofC _ (eD.toFlat _ hE);simp only[aN]at jk hzero i1 fin;obtain⟨yv,Ap⟩:=bZ.1 jk;refine fin ⟨b,o,k,n0,Gs,xs,es.flatten.map D.plain,false⟩ ⟨λG hG be hb=>?_,Ap,hzero,λ_=>⟨.inr (by simp),rfl⟩⟩ rfl ⟨i1,⟨As.symm,Dg,rfl,xs,hGs,hL,λ_ _=>rfl,λh=>by cases h⟩,λd c hl=>?_,.inr (ic b (by simp))⟩ (λf' w' oX=>?_)
         ·have JY:be.1∈Gs.flatten.map bG:=cR (dX.2 ⟨G,hG,hb⟩);exact⟨cp _ JY,λe=>yv ((show be.1=b from e)▸JY)⟩
         ·simp only[look]at hl
          split at hl
          ·rename_i hd;subst hd;simp only[aa]at hl;subst hl;simp only[Jm];exact⟨A,cc,by simpa using hvA,.inr hA,by omega⟩
          ·cases hl
         ·obtain⟨m1,m2,m3,Gq,m4,m5,m6⟩:=oX.mt;simp only[Rp];refine⟨A,n0,cc,hvA,m1.symm,Jc,Ua,λhf=>?_,hkp,m2,.inr ⟨QS,b,o,Gq,Gs.flatten,hA,rfl,eD.RG _ (fO.toC _ m4),m5⟩⟩;refine TZ λx hx=>?_;simp only at m3
          rw[m3]at hx;obtain⟨y,hy,rfl⟩:=bQ.1 hx;obtain⟨e,he,hy⟩:=dX.1 hy;exact sR hf e he y hy
       ·cases he
      ·cases he
    ·cases bY
   ·cases bY
  ·cases he
end
section
abbrev Cf:=Nat->List A->Option (List A×List A)
abbrev Mf:=Nat->Bool->List D->Int->Option (List D×Int)
inductive Qu where
 |c (f:Nat) (a:List A) (r:List A×List A)
 |m (f:Nat) (g:Bool) (ds:List D) (q:Int) (r:List D×Int)
def Qu.ok(cf:Cf)(mf:Mf):Qu->Prop
 | .c f a r=>cf f a=some r
 | .m f g ds q r=>mf f g ds q=some r
abbrev xK:=List Qu
def Told(cf:Cf)(mf:Mf)(L:xK):Prop:=∀t∈L,t.ok cf mf
theorem Told.nil{cf:Cf}{mf:Mf}:Told cf mf []:=λ_ h=>by simp at h
theorem Told.left{cf:Cf}{mf:Mf}{L M:xK}(h:Told cf mf (L++M)):Told cf mf L:=λt ht=>h t (by simp[ht])
theorem Told.right{cf:Cf}{mf:Mf}{L M:xK}(h:Told cf mf (L++M)):Told cf mf M:=λt ht=>h t (by simp[ht])
theorem Told.append{cf:Cf}{mf:Mf}{L M:xK}(h:Told cf mf L)(h':Told cf mf M):Told cf mf (L++M):=λt ht=>by
 rcases aL.1 ht with ht|ht
 ·exact h t ht
 ·exact h' t ht
section
variable {cf:Cf} {mf:Mf}
theorem TS{s s':St}{d:Option Nat}{o:KO}(he:kc cf mf s d o=some s'):∃L,Told cf mf L/\∀(dT:Cf) (dN:Mf),Told dT dN L->kc dT dN s d o=some s':=by
 cases o with
 |call f xs=>
  simp only[kc,tR]at he
  split at he
  ·cases he
  ·rename_i as has
   split at he
   ·rename_i hc
    split at he
    ·cases he
    ·rename_i rs outs kN;refine⟨[.c f as (rs,outs)],λt ht=>by simp at ht;subst ht;exact kN,λdT dN h=>?_⟩;have h1:dT f as=some (rs,outs):=h (.c f as (rs,outs)) (by simp);simp only[kc,tR,has,hc,if_true,h1];exact he
   ·cases he
 |Mp f x y=>
  simp only[kc]at he
  split at he
  ·rename_i d0 q hq
   split at he
   ·rename_i ds LO
    split at he
    ·rename_i jk
     split at he
     ·rename_i ga q' hm;refine⟨[.m f (eU s x).isAgg ds q (ga,q')],λt ht=>by simp at ht;subst ht;exact hm,λdT dN h=>?_⟩;have h1:dN f (eU s x).isAgg ds q=some (ga,q'):=h (.m f (eU s x).isAgg ds q (ga,q')) (by simp);simp only[kc,hq,LO,jk,if_true,h1];exact he
     ·cases he
    ·cases he
   ·cases he
  ·cases he
 |_=>exact⟨[],Told.nil,λdT dN _=>he⟩
theorem Lt{s s':St}{d:Option Nat}{o:KO}(he:yu cf mf s d o=some s'):∃L,Told cf mf L/\∀(dT:Cf) (dN:Mf),Told dT dN L->yu dT dN s d o=some s':=by
 unfold yu at he
 split at he
 ·rename_i hp;exact⟨[],Told.nil,λdT dN _=>by simp only[yu,hp,if_true];exact he⟩
 ·rename_i hp;obtain⟨L,h1,h2⟩:=TS he;exact⟨L,h1,λdT dN h=>by simp only[yu,hp];exact h2 dT dN h⟩
theorem Ep{s s':St}{i:KI}(he:rj cf mf s i=some s'):∃L,Told cf mf L/\∀(dT:Cf) (dN:Mf),Told dT dN L->rj dT dN s i=some s':=by
 unfold rj at he ⊢
 split at he
 ·exact Lt he
 ·split at he
  ·split at he
   ·obtain⟨L,h1,h2⟩:=Lt he;exact⟨L,h1,λdT dN h=>by simp_all⟩
   ·exact⟨[],Told.nil,λdT dN _=>by simp_all⟩
  ·exact⟨[],Told.nil,λdT dN _=>by simp_all⟩
  ·cases he
theorem C6:∀(is:List KI) {s s':St},k9 cf mf is s=some s'->∃L,Told cf mf L/\∀(dT:Cf) (dN:Mf),Told dT dN L->k9 dT dN is s=some s'
 |[],s,s',he=>⟨[],Told.nil,λdT dN _=>he⟩
 |i::is,s,s',he=>by
  simp only[k9]at he
  split at he
  ·rename_i s1 h1;obtain⟨L,a1,a2⟩:=Ep h1;obtain⟨M,b1,b2⟩:=C6 is he;exact⟨L++M,a1.append b1,λdT dN h=>by simp only[k9,a2 dT dN h.left,b2 dT dN h.right]⟩
  ·cases he
theorem mq:∀(is:KT) {kp:j7} {tk:List (List Nat×Nat)} {s s':St},eH cf mf kp is tk s=some s'->∃L,Told cf mf L/\∀(dT:Cf) (dN:Mf),Told dT dN L->eH dT dN kp is tk s=some s'
 | .nil,kp,tk,s,s',he=>⟨[],Told.nil,λdT dN _=>he⟩
 | .op ⟨j,q,al,dn,i⟩ is,kp,tk,s,s',he=>by
  simp only[eH]at he;cases q with
  |true=>
   simp only[if_true]at he
   split at he
   ·rename_i hg
    split at he
    ·rename_i c b hc hb;obtain⟨L,a1,a2⟩:=mq is he;exact⟨L,a1,λdT dN h=>by simp only[eH,if_true,hg,hc,hb];exact a2 dT dN h⟩
    ·cases he
   ·rename_i g want hg
    split at he
    ·rename_i b uJ
     split at he
     ·rename_i Ey
      split at he
      ·rename_i c b' hc hb;obtain⟨L,a1,a2⟩:=mq is he;exact⟨L,a1,λdT dN h=>by simp only[eH,if_true,hg,uJ,Ey,hc,hb];exact a2 dT dN h⟩
      ·cases he
     ·rename_i Ey;obtain⟨L,a1,a2⟩:=mq is he;exact⟨L,a1,λdT dN h=>by simp only[eH,if_true,hg,uJ,Ey,if_false];exact a2 dT dN h⟩
    ·rename_i Uc;obtain⟨L,a1,a2⟩:=mq is he;exact⟨L,a1,λdT dN h=>by simp only[eH,if_true,hg,Uc];exact a2 dT dN h⟩
    ·cases he
  |false=>
   simp only[j6,au,if_false]at he
   split at he
   ·rename_i s1 h1
    split at he
    ·rename_i jU;obtain⟨L,a1,a2⟩:=Ep h1;obtain⟨M,b1,b2⟩:=mq is he;exact⟨L++M,a1.append b1,λdT dN h=>by simp only[eH,j6,au,if_false,a2 dT dN h.left,jU,if_true];exact b2 dT dN h.right⟩
    ·cases he
   ·cases he
 | .alt x is r,kp,tk,s,s',he=>by
  have hee:j6 cf mf x tk s (eH cf mf kp is)=some s'/\eH cf mf kp r tk s=some s':=by
   simp only[eH,both]at he
   split at he
   ·rename_i a b ha kU
    split at he
    ·rename_i hab;subst hab;cases he;exact⟨ha,kU⟩
    ·cases he
   ·cases he
  obtain⟨he,her⟩:=hee;obtain⟨R,r1,r2⟩:=mq r her;simp only[j6]at he
  split at he
  ·rename_i s1 h1
   split at he
   ·rename_i jU;obtain⟨L,a1,a2⟩:=Ep h1;obtain⟨M,b1,b2⟩:=mq is he;refine⟨(L++M)++R,(a1.append b1).append r1,λdT dN h=>?_⟩;simp only[eH,j6,a2 dT dN h.left.left,jU,if_true,b2 dT dN h.left.right,r2 dT dN h.right,both]
   ·cases he
  ·cases he
theorem gZ:∀(k:K) {n:Nat} {s:St} {r:Ex×St},gx cf mf n k s=some r->∃L,Told cf mf L/\∀(dT:Cf) (dN:Mf) (n':Nat),Told dT dN L->n<=n'->gx dT dN n' k s=some r
 | .skip,n,s,r,he=>⟨[],Told.nil,λdT dN n' _ _=>by simpa [gx] using he⟩
 | .cz is kp,n,s,r,he=>by
  simp only[gx]at he
  split at he
  ·rename_i s1 h1;obtain⟨L,a1,a2⟩:=C6 is h1;exact⟨L,a1,λdT dN n' h _=>by simp only[gx,a2 dT dN h];exact he⟩
  ·cases he
 | .Lp is kp,n,s,r,he=>by
  simp only[gx]at he
  split at he
  ·rename_i s1 h1;obtain⟨L,a1,a2⟩:=mq is h1;exact⟨L,a1,λdT dN n' h _=>by simp only[gx,a2 dT dN h];exact he⟩
  ·cases he
 | .seq a b,n,s,r,he=>by
  simp only[gx]at he
  split at he
  ·rename_i s1 h1;obtain⟨L,a1,a2⟩:=gZ a h1;obtain⟨M,b1,b2⟩:=gZ b he;exact⟨L++M,a1.append b1,λdT dN n' h hn=>by simp only[gx,a2 dT dN n' h.left hn];exact b2 dT dN n' h.right hn⟩
  ·rename_i iO;obtain⟨L,a1,a2⟩:=gZ a he;refine⟨L,a1,λdT dN n' h hn=>?_⟩;simp only[gx,a2 dT dN n' h hn];obtain⟨e,s2⟩:=r;cases e with
   |norm=>exact absurd he (iO s2)
   |_=>rfl
 | .cond x a b,n,s,r,he=>by
  simp only[gx]at he
  split at he
  ·rename_i t ht;cases t with
   |true=>
    simp only[if_true]at he;obtain⟨L,a1,a2⟩:=gZ a he;exact⟨L,a1,λdT dN n' h hn=>by simp only[gx,ht,if_true];exact a2 dT dN n' h hn⟩
   |false=>
    simp only[au,if_false]at he;obtain⟨L,a1,a2⟩:=gZ b he;exact⟨L,a1,λdT dN n' h hn=>by simp only[gx,ht,au,if_false];exact a2 dT dN n' h hn⟩
  ·cases he
 | .block i a,n,s,r,he=>by
  simp only[gx]at he
  split at he
  ·rename_i i' s1 h1;obtain⟨L,a1,a2⟩:=gZ a h1;exact⟨L,a1,λdT dN n' h hn=>by simp only[gx,a2 dT dN n' h hn];exact he⟩
  ·rename_i iO;obtain⟨L,a1,a2⟩:=gZ a he;refine⟨L,a1,λdT dN n' h hn=>?_⟩;simp only[gx,a2 dT dN n' h hn];obtain⟨e,s2⟩:=r;cases e with
   |exit i=>exact absurd he (iO i s2)
   |_=>rfl
 | .loop a,n,s,r,he=>by
  simp only[gx]at he;have go:∀(m:Nat) (s:St),iter (gx cf mf n a) m s=some r->∃L,Told cf mf L/\∀(dT:Cf) (dN:Mf) (n' m':Nat),Told dT dN L->n<=n'->m<=m'->iter (gx dT dN n' a) m' s=some r:=by
   intro m
   induction m with
   |zero=>intro s h;simp[iter]at h
   |succ m ih=>
    intro s h;simp only[iter]at h
    split at h
    ·rename_i s1 h1;obtain⟨L,a1,a2⟩:=gZ a h1;obtain⟨M,b1,b2⟩:=ih s1 h;refine⟨L++M,a1.append b1,λdT dN n' m' hT hn hm=>?_⟩;obtain⟨m'',rfl⟩:∃z,m'=z+1:=⟨m' - 1,by omega⟩
     simp only[iter,a2 dT dN n' hT.left hn];exact b2 dT dN n' m'' hT.right hn (by omega)
    ·rename_i iO;obtain⟨L,a1,a2⟩:=gZ a h;refine⟨L,a1,λdT dN n' m' hT hn hm=>?_⟩;obtain⟨m'',rfl⟩:∃z,m'=z+1:=⟨m' - 1,by omega⟩
     simp only[iter,a2 dT dN n' hT hn];obtain⟨e,s2⟩:=r;cases e with
     |norm=>exact absurd h (iO s2)
     |_=>rfl
  obtain⟨L,a1,a2⟩:=go n s he;exact⟨L,a1,λdT dN n' h hn=>by simp only[gx];exact a2 dT dN n' n' h hn hn⟩
 | .exit i,n,s,r,he=>⟨[],Told.nil,λdT dN n' _ _=>by simpa [gx] using he⟩
 | .ret,n,s,r,he=>⟨[],Told.nil,λdT dN n' _ _=>by simpa [gx] using he⟩
 | .share r0 a,n,s,r,he=>by
  simp only[gx]at he;obtain⟨L,a1,a2⟩:=gZ a he;exact⟨L,a1,λdT dN n' h hn=>by simp only[gx];exact a2 dT dN n' h hn⟩
 | .I9 d a,n,s,r,he=>by
  simp only[gx]at he
  split at he
  ·rename_i s' hd;obtain⟨L,a1,a2⟩:=gZ a he;exact⟨L,a1,λdT dN n' h hn=>by simp only[gx,hd];exact a2 dT dN n' h hn⟩
  ·cases he
theorem R9{n:Nat}{kf:KF}{args:List A}{r:List A×List A}(he:BF cf mf n kf args=some r):∃L,Told cf mf L/\∀(dT:Cf) (dN:Mf) (n':Nat),Told dT dN L->n<=n'->BF dT dN n' kf args=some r:=by
 unfold BF at he
 split at he
 ·rename_i hl
  split at he
  ·rename_i s h1;obtain⟨L,a1,a2⟩:=gZ kf.body h1;exact⟨L,a1,λdT dN n' h hn=>by simp only[BF,hl,if_true,a2 dT dN n' h hn];exact he⟩
  ·rename_i s h1;obtain⟨L,a1,a2⟩:=gZ kf.body h1;exact⟨L,a1,λdT dN n' h hn=>by simp only[BF,hl,if_true,a2 dT dN n' h hn];exact he⟩
  ·cases he
 ·cases he
end
section
variable {cf:Cf} {mf:Mf} {own:Bool} {k:Nat}
theorem va{m m':MS}{d f:Nat}{xs:List KX}(he:Cp cf m d f xs=some m'):∃L,Told cf mf L/\∀(dT:Cf) (dN:Mf),Told dT dN L->Cp dT m d f xs=some m':=by
 simp only[Cp]at he
 split at he
 ·rename_i as has
  split at he
  ·rename_i r hr;refine⟨[.c f as ([.val false [.d r]],[])],λt ht=>by simp at ht;subst ht;exact hr,λdT dN h=>?_⟩;have h1:dT f as=_:=h (.c f as ([.val false [.d r]],[])) (by simp);simp only[Cp,has,h1];exact he
  ·cases he
 ·cases he
theorem Qc{m m':MS}{d f:Nat}{c:MC}{y:C}(he:Eu mf m d f c y=some m'):∃L,Told cf mf L/\∀(dT:Cf) (dN:Mf),Told dT dN L->Eu dN m d f c y=some m':=by
 unfold Eu at he
 split at he
 ·rename_i i o q
  split at he
  ·rename_i k fl es vQ
   split at he
   ·rename_i x' q' hx;refine⟨[.m f false [.list k fl es] q ([x'],q')],λt ht=>by simp at ht;subst ht;exact hx,λdT dN h=>?_⟩;have h1:dN f false [.list k fl es] q=_:=h (.m f false [.list k fl es] q ([x'],q')) (by simp);simp only[Eu,vQ,h1];exact he
   ·cases he
  ·cases he
 ·rename_i i o n q
  split at he
  ·rename_i e vQ
   split at he
   ·rename_i xs q' hx;refine⟨[.m f true ((e.drop o).take n) q (xs,q')],λt ht=>by simp at ht;subst ht;exact hx,λdT dN h=>?_⟩;have h1:dN f true ((e.drop o).take n) q=_:=h (.m f true ((e.drop o).take n) q (xs,q')) (by simp);simp only[Eu,vQ,h1];exact he
   ·cases he
  ·cases he
 ·cases he
theorem Qa{m m':MS}{d:Nat}{o:KO}(he:z7 cf mf k m d o=some m'):∃L,Told cf mf L/\∀(dT:Cf) (dN:Mf),Told dT dN L->z7 dT dN k m d o=some m':=by
 cases o with
 |call f xs=>
  rcases xs with _|⟨x,_|⟨y,_|⟨z,xs⟩⟩⟩
  ·simp only[z7]at he ⊢;exact va he
  ·simp only[z7]at he ⊢;exact va he
  ·simp only[z7]at he ⊢;cases hx:m.OY x with
   |none=>rw[hx]at he;exact va he
   |some c=>rw[hx]at he;exact Qc he
  ·simp only[z7]at he ⊢;exact va he
 |_=>exact⟨[],Told.nil,λdT dN _=>he⟩
theorem Qb{m m':MS}{i:KI}(he:Es cf mf own k m i=some m'):∃L,Told cf mf L/\∀(dT:Cf) (dN:Mf),Told dT dN L->Es dT dN own k m i=some m':=by
 obtain⟨d,o,g⟩:=i;cases g with
 |some g=>simp[Es]at he
 |none=>
  cases d with
  |some d=>exact Qa he
  |none=>exact⟨[],Told.nil,λdT dN _=>he⟩
theorem Ab:∀(is:List KI) {m m':MS},pD cf mf own k is m=some m'->∃L,Told cf mf L/\∀(dT:Cf) (dN:Mf),Told dT dN L->pD dT dN own k is m=some m'
 |[],m,m',he=>⟨[],Told.nil,λdT dN _=>he⟩
 |i::is,m,m',he=>by
  simp only[pD]at he
  split at he
  ·rename_i s1 h1;obtain⟨L,a1,a2⟩:=Qb h1;obtain⟨M,b1,b2⟩:=Ab is he;exact⟨L++M,a1.append b1,λdT dN h=>by simp only[pD,a2 dT dN h.left,b2 dT dN h.right]⟩
  ·cases he
theorem iZ:∀(c:K) {n:Nat} {s:MS} {r:Ex×MS},db cf mf own k n c s=some r->∃L,Told cf mf L/\∀(dT:Cf) (dN:Mf) (n':Nat),Told dT dN L->n<=n'->db dT dN own k n' c s=some r
 | .skip,n,s,r,he=>⟨[],Told.nil,λdT dN n' _ _=>by simpa [db] using he⟩
 | .cz is kp,n,s,r,he=>by
  simp only[db]at he
  split at he
  ·rename_i s1 h1;obtain⟨L,a1,a2⟩:=Ab is h1;exact⟨L,a1,λdT dN n' h _=>by simp only[db,a2 dT dN h];exact he⟩
  ·cases he
 | .Lp is kp,n,s,r,he=>by simp[db]at he
 | .seq a b,n,s,r,he=>by
  simp only[db]at he
  split at he
  ·rename_i s1 h1;obtain⟨L,a1,a2⟩:=iZ a h1;obtain⟨M,b1,b2⟩:=iZ b he;exact⟨L++M,a1.append b1,λdT dN n' h hn=>by simp only[db,a2 dT dN n' h.left hn];exact b2 dT dN n' h.right hn⟩
  ·rename_i iO;obtain⟨L,a1,a2⟩:=iZ a he;refine⟨L,a1,λdT dN n' h hn=>?_⟩;simp only[db,a2 dT dN n' h hn];obtain⟨e,s2⟩:=r;cases e with
   |norm=>exact absurd he (iO s2)
   |_=>rfl
 | .cond x a b,n,s,r,he=>by
  simp only[db]at he
  split at he
  ·rename_i t ht;cases t with
   |true=>
    simp only[if_true]at he;obtain⟨L,a1,a2⟩:=iZ a he;exact⟨L,a1,λdT dN n' h hn=>by simp only[db,ht,if_true];exact a2 dT dN n' h hn⟩
   |false=>
    simp only[au,if_false]at he;obtain⟨L,a1,a2⟩:=iZ b he;exact⟨L,a1,λdT dN n' h hn=>by simp only[db,ht,au,if_false];exact a2 dT dN n' h hn⟩
  ·cases he
 | .block i a,n,s,r,he=>by
  simp only[db]at he
  split at he
  ·rename_i i' s1 h1;obtain⟨L,a1,a2⟩:=iZ a h1;exact⟨L,a1,λdT dN n' h hn=>by simp only[db,a2 dT dN n' h hn];exact he⟩
  ·rename_i iO;obtain⟨L,a1,a2⟩:=iZ a he;refine⟨L,a1,λdT dN n' h hn=>?_⟩;simp only[db,a2 dT dN n' h hn];obtain⟨e,s2⟩:=r;cases e with
   |exit i=>exact absurd he (iO i s2)
   |_=>rfl
 | .loop a,n,s,r,he=>by
  simp only[db]at he;have go:∀(m:Nat) (s:MS),iterM (db cf mf own k n a) m s=some r->∃L,Told cf mf L/\∀(dT:Cf) (dN:Mf) (n' m':Nat),Told dT dN L->n<=n'->m<=m'->iterM (db dT dN own k n' a) m' s=some r:=by
   intro m
   induction m with
   |zero=>intro s h;simp[iterM]at h
   |succ m ih=>
    intro s h;simp only[iterM]at h
    split at h
    ·rename_i s1 h1;obtain⟨L,a1,a2⟩:=iZ a h1;obtain⟨M,b1,b2⟩:=ih s1 h;refine⟨L++M,a1.append b1,λdT dN n' m' hT hn hm=>?_⟩;obtain⟨m'',rfl⟩:∃z,m'=z+1:=⟨m' - 1,by omega⟩
     simp only[iterM,a2 dT dN n' hT.left hn];exact b2 dT dN n' m'' hT.right hn (by omega)
    ·rename_i iO;obtain⟨L,a1,a2⟩:=iZ a h;refine⟨L,a1,λdT dN n' m' hT hn hm=>?_⟩;obtain⟨m'',rfl⟩:∃z,m'=z+1:=⟨m' - 1,by omega⟩
     simp only[iterM,a2 dT dN n' hT hn];obtain⟨e,s2⟩:=r;cases e with
     |norm=>exact absurd h (iO s2)
     |_=>rfl
  obtain⟨L,a1,a2⟩:=go n s he;exact⟨L,a1,λdT dN n' h hn=>by simp only[db];exact a2 dT dN n' n' h hn hn⟩
 | .exit i,n,s,r,he=>⟨[],Told.nil,λdT dN n' _ _=>by simpa [db] using he⟩
 | .ret,n,s,r,he=>⟨[],Told.nil,λdT dN n' _ _=>by simpa [db] using he⟩
 | .share r0 a,n,s,r,he=>by simp[db]at he
 | .I9 d a,n,s,r,he=>by simp[db]at he
end
def aao{α:Type}(g:Nat->Option α):Prop:=∀n m r,g n=some r->n<=m->g m=some r
open Classical in
noncomputable def lm{α:Type}(g:Nat->Option α):Option α:=if h:∃r n,g n=some r then some (Classical.choose h) else none
theorem Be{α:Type}{g:Nat->Option α}(hg:aao g)(r:α):lm g=some r↔∃n,g n=some r:=by
 unfold lm;split
 ·rename_i h;obtain⟨k,h1⟩:=Classical.choose_spec h
  constructor
  ·intro e;simp only[aa]at e;exact⟨k,e▸h1⟩
  ·rintro⟨n,hn⟩
   have e1:=hg _ (max n k) _ h1 (by omega);have e2:=hg _ (max n k) _ hn (by omega);rw[e1]at e2;exact e2
 ·rename_i h
  constructor
  ·intro e;cases e
  ·rintro⟨n,hn⟩;exact absurd ⟨r,n,hn⟩ h
theorem Wz{α:Type}{g:Nat->Option α}(hg:aao g){o:Option α}(h1:∀r n,g n=some r->o=some r)(h2:∀r,o=some r->∃n,g n=some r):lm g=o:=by
 apply Option.ext
 intro r;rw[Be hg];exact⟨λ⟨n,hn⟩=>h1 r n hn,h2 r⟩
section
variable (T:Nat->Option KF)
theorem u9:∀(n n' f:Nat) (a:List A) (r:List A×List A),u7 T n f a=some r->n<=n'->u7 T n' f a=some r
 |0,_,_,_,_,h,_=>by simp[u7]at h
 |n+1,n',f,a,r,h,hn=>by
  obtain⟨m,rfl⟩:∃m,n'=m+1:=⟨n' - 1,by omega⟩
  simp only[u7]at h ⊢
  split at h
  ·cases h
  ·rename_i kf XR
   split at h
   ·rename_i hx;rw[if_pos hx];exact h
   ·rename_i hx;rw[if_neg hx];obtain⟨L,a1,a2⟩:=R9 h;refine a2 (u7 T m) _ m (λt ht=>?_) (by omega);have:=a1 t ht;cases t with
    |c f a r=>exact u9 n m _ _ _ this (by omega)
    |m f g ds q r=>cases this
noncomputable def dd:Cf:=λf a=>lm λn=>u7 T n f a
theorem sU(f:Nat)(a:List A)(r:List A×List A):dd T f a=some r↔∃n,u7 T n f a=some r:=Be (λn m r h hn=>u9 T n m f a r h hn) r
def DK(cells:List D):Option (List (List D)×Int)->Option (List D×Int)
 |some ([qc],q')=>some (qc,q')
 |_=>none
def Bx(k:Nat)(fl:Bool):Option (List (List D)×Int)->Option (List D×Int)
 |some (iY,q')=>some ([.list k fl iY],q')
 |none=>none
def runM(g:Bool->Nat->List KI->MS->Option MS)(h:Bool->Nat->K->MS->Option (Ex×MS))(kf:KF)(ag:Bool)(cells:List D)(q:Int):Option (List D×Int):=
 match kf with
 |⟨2,body,[.t r]⟩=>
   if ag then (match body with
    | .seq (.cz (⟨some b,.box (.s 0),none⟩::is) kp) xM=>
     (match g false cells.length is (MS.vA ⟨⟨[(1,.d (.int .i64 q))],[],[]⟩,[],[cells]⟩ b (.ep 0 0)) with
     |some m=>DK cells (vy r (h false cells.length xM (m.cG kp)))
     |none=>none)
    |_=>none)
   else (match cells with
    |[.list k fl es]=>Bx k fl (vy r (h true k body ⟨⟨[(1,.d (.int .i64 q))],[],[]⟩,[(0,.lst)],es⟩))
    |_=>none)
 |_=>none
theorem Et(n f:Nat)(ag:Bool)(cells:List D)(q:Int):Co T (n+1) f ag cells q=match T f with
  |some kf=>runM (λown k=>pD (u7 T n) (Co T n) own k) (λown k=>db (u7 T n) (Co T n) own k n) kf ag cells q
  |none=>none:=by
 simp only[Co];cases hT:T f with
 |none=>rfl
 |some kf=>
  dsimp only;unfold runM;rcases kf with ⟨np,body,res⟩;dsimp only;split
  ·split
   ·split
    ·split
     ·rename_i m hm;simp only[DK]
      split<;>simp_all
     ·simp_all
    ·simp_all
   ·split
    ·simp only[Bx]
     split<;>simp_all
    ·simp_all
  ·simp_all
end
end
section
theorem H_{α:Type}:∀(l:List (Nat×α)) {f:Nat} {x:α},look l f=some x->(f,x)∈l
 |[],_,_,h=>by simp[look]at h
 |(k,y)::l,f,x,h=>by
  simp only[look]at h
  split at h
  ·rename_i e;cases h;simp[e]
  ·exact cp _ (H_ l h)
section
variable (T:Nat->Option KF)
theorem BH{cf:Cf}{mf:Mf}{n:Nat}{kf:KF}{ag:Bool}{cells:List D}{q:Int}{r:List D×Int}(he:runM (λown k=>pD cf mf own k) (λown k=>db cf mf own k n) kf ag cells q=some r) :
  ∃L,Told cf mf L/\∀(dT:Cf) (dN:Mf) (n':Nat),Told dT dN L->n<=n'->runM (λown k=>pD dT dN own k) (λown k=>db dT dN own k n') kf ag cells q=some r:=by
 unfold runM at he
 split at he
 ·rename_i body r0
  split at he
  ·rename_i sQ
   split at he
   ·rename_i b is kp xM
    split at he
    ·rename_i m hm;dsimp only at hm he;obtain⟨L,a1,a2⟩:=Ab is hm;cases hx:db cf mf false cells.length n xM (m.cG kp) with
     |none=>rw[hx]at he;simp[vy,DK]at he
     |some e=>
      obtain⟨M,b1,b2⟩:=iZ xM hx;refine⟨L++M,a1.append b1,λdT dN n' h hn=>?_⟩;simp only[runM,sQ,if_true,a2 dT dN h.left,b2 dT dN n' h.right hn];rw[hx]at he;exact he
    ·cases he
   ·cases he
  ·rename_i sQ
   split at he
   ·rename_i k fl es;dsimp only at he;cases hx:db cf mf true k n body ⟨⟨[(1,.d (.int .i64 q))],[],[]⟩,[(0,.lst)],es⟩ with
    |none=>rw[hx]at he;simp[vy,Bx]at he
    |some e=>
     obtain⟨M,b1,b2⟩:=iZ body hx;refine⟨M,b1,λdT dN n' h hn=>?_⟩;simp only[runM,sQ,b2 dT dN n' h hn];rw[hx]at he;simp only[au,if_false];exact he
   ·cases he
 ·cases he
theorem Aa:∀(n n' f:Nat) (ag:Bool) (ds:List D) (q:Int) (r:List D×Int),Co T n f ag ds q=some r->n<=n'->Co T n' f ag ds q=some r
 |0,_,_,_,_,_,_,h,_=>by simp[Co]at h
 |n+1,n',f,ag,ds,q,r,h,hn=>by
  obtain⟨m,rfl⟩:∃m,n'=m+1:=⟨n' - 1,by omega⟩
  rw[Et]at h ⊢
  split at h
  ·obtain⟨L,a1,a2⟩:=BH h;refine a2 (u7 T m) (Co T m) m (λt ht=>?_) (by omega);have:=a1 t ht;cases t with
   |c f a r=>exact u9 T n m _ _ _ this (by omega)
   |m f g ds q r=>exact Aa n m _ _ _ _ _ this (by omega)
  ·cases h
noncomputable def gK:Mf:=λf ag ds q=>lm λn=>Co T n f ag ds q
theorem Bd(f:Nat)(ag:Bool)(ds:List D)(q:Int)(r:List D×Int):gK T f ag ds q=some r↔∃n,Co T n f ag ds q=some r:=Be (λn m r h hn=>Aa T n m f ag ds q r h hn) r
theorem vJ:∀(L:xK),Told (dd T) (gK T) L->∃n,∀m,n<=m->Told (u7 T m) (Co T m) L
 |[],_=>⟨0,λm _ t ht=>by simp at ht⟩
 |t::L,h=>by
  obtain⟨n,hn⟩:=vJ L (λt ht=>h t (by simp[ht]));have h1:=h t (by simp);cases t with
  |c f a r=>
   obtain⟨m,hm⟩:=(sU T _ _ _).1 h1;refine⟨max n m,λz hz u hu=>?_⟩;rcases ay.1 hu with rfl|hu
   ·exact u9 T m z _ _ _ hm (by omega)
   ·exact hn z (by omega) u hu
  |m f g ds q r=>
   obtain⟨m,hm⟩:=(Bd T _ _ _ _ _).1 h1;refine⟨max n m,λz hz u hu=>?_⟩;rcases ay.1 hu with rfl|hu
   ·exact Aa T m z _ _ _ _ _ hm (by omega)
   ·exact hn z (by omega) u hu
theorem VM{n:Nat}{L:xK}(h:Told (u7 T n) (Co T n) L):Told (dd T) (gK T) L:=λt ht=>by
 have h1:=h t ht;cases t with
 |c f a r=>exact (sU T f a r).2 ⟨n,h1⟩
 |m f g ds q r=>exact (Bd T f g ds q r).2 ⟨n,h1⟩
abbrev tv:Mf:=λ_ _ _ _=>none
noncomputable def ev(mf:Mf)(k:K)(s:St):Option (Ex×St):=lm λn=>gx (dd T) mf n k s
theorem k8(mf:Mf)(k:K)(s:St):∀n m r,gx (dd T) mf n k s=some r->n<=m->gx (dd T) mf m k s=some r:=λn m r h hn=>by
 obtain⟨L,a1,a2⟩:=gZ k h;exact a2 _ _ m a1 hn
theorem ib(mf:Mf)(k:K)(s:St)(r:Ex×St):ev T mf k s=some r↔∃n,gx (dd T) mf n k s=some r:=Be (k8 T mf k s) r
section
variable (mf:Mf)
theorem Ac{k:K}{s:St}{o:Option (Ex×St)}(h1:∀r n,gx (dd T) mf n k s=some r->o=some r)(h2:∀r,o=some r->∃n,gx (dd T) mf n k s=some r):ev T mf k s=o:=Wz (k8 T mf k s) h1 h2
theorem rT{k:K}{s:St}{o:Option (Ex×St)}(h:∀n,gx (dd T) mf n k s=o):ev T mf k s=o:=
 Ac T mf (λr n e=>by rw[<- h n];exact e) (λr e=>⟨0,by rw[h 0];exact e⟩)
theorem Lv(s:St):ev T mf .skip s=some (.norm,s):=rT T mf λn=>by simp[gx]
theorem Qm(s:St):ev T mf .ret s=some (.ret,s):=rT T mf λn=>by simp[gx]
theorem Lu(i:Nat)(s:St):ev T mf (.exit i) s=some (.exit i,s):=rT T mf λn=>by simp[gx]
def Yx(kp:j7):Option St->Option (Ex×St)
 |some s=>some (.norm,s.cG kp)
 |none=>none
theorem Ql(ops:List KI)(kp:j7)(s:St):ev T mf (.cz ops kp) s=Yx kp (k9 (dd T) mf ops s):=rT T mf λn=>by simp only[gx,Yx];split<;>simp_all
def Io:Option St->Option (Ex×St)
 |some s=>some (.norm,s)
 |none=>none
theorem Qk(ops:KT)(kp:j7)(s:St):ev T mf (.Lp ops kp) s=Io (eH (dd T) mf kp ops [] s):=rT T mf λn=>by simp only[gx,Io];split<;>simp_all
def Cz(g:St->Option (Ex×St)):Option (Ex×St)->Option (Ex×St)
 |some (.norm,s)=>g s
 |some (.exit i,s)=>some (.exit i,s)
 |some (.ret,s)=>some (.ret,s)
 |none=>none
theorem yS{cf:Cf}(n:Nat)(a b:K)(s:St):gx cf mf n (.seq a b) s=Cz (gx cf mf n b) (gx cf mf n a s):=by
 simp only[gx,Cz];split
 ·rename_i h;simp only[h]
 ·rename_i h;split
  ·rename_i s' h';exact absurd h' (h s')
  ·simp_all
  ·simp_all
  ·simp_all
theorem Qn(a b:K)(s:St):ev T mf (.seq a b) s=Cz (ev T mf b) (ev T mf a s):=by
 apply Ac
 ·intro r n h;rw[yS]at h;cases ha:gx (dd T) mf n a s with
  |none=>rw[ha]at h;simp[Cz]at h
  |some x=>
   rw[(ib T mf a s x).2 ⟨n,ha⟩];rw[ha]at h;rcases x with ⟨_|i|_,s'⟩
   ·exact (ib T mf b s' r).2 ⟨n,h⟩
   ·exact h
   ·exact h
 ·intro r h;cases ha:ev T mf a s with
  |none=>rw[ha]at h;simp[Cz]at h
  |some x=>
   obtain⟨n,hn⟩:=(ib T mf a s x).1 ha;rw[ha]at h;rcases x with ⟨_|i|_,s'⟩
   ·obtain⟨m,hm⟩:=(ib T mf b s' r).1 h;refine⟨max n m,?_⟩;rw[yS,k8 T mf a s n (max n m) _ hn (by omega)];exact k8 T mf b s' m (max n m) _ hm (by omega)
   ·exact⟨n,by rw[yS,hn];exact h⟩
   ·exact⟨n,by rw[yS,hn];exact h⟩
theorem fG(a:K)(s:St):ev T mf (.loop a) s=Cz (ev T mf (.loop a)) (ev T mf a s):=by
 have one:∀(cf:Cf) n m s,iter (gx cf mf n a) (m+1) s=Cz (iter (gx cf mf n a) m) (gx cf mf n a s):=by
  intro cf n m s;simp only[iter,Cz];split
  ·rename_i h;simp only[h]
  ·rename_i h;split
   ·rename_i s' h';exact absurd h' (h s')
   ·simp_all
   ·simp_all
   ·simp_all
 apply Ac
 ·intro r n h;simp only[gx]at h;cases n with
  |zero=>simp[iter]at h
  |succ n=>
   rw[one]at h;cases ha:gx (dd T) mf (n+1) a s with
   |none=>rw[ha]at h;simp[Cz]at h
   |some x=>
    rw[(ib T mf a s x).2 ⟨n+1,ha⟩];rw[ha]at h;rcases x with ⟨_|i|_,s'⟩
    ·refine (ib T mf (.loop a) s' r).2 ⟨n+1,?_⟩;simp only[Cz]at h;have:gx (dd T) mf (n+1) (.loop a) s'=some r:=by
      simp only[gx];have go:∀(m:Nat) (s:St),iter (gx (dd T) mf (n+1) a) m s=some r->iter (gx (dd T) mf (n+1) a) (m+1) s=some r:=by
       intro m
       induction m with
       |zero=>intro s h;simp[iter]at h
       |succ m ih=>
        intro s h;rw[one]at h ⊢;cases hb:gx (dd T) mf (n+1) a s with
        |none=>rw[hb]at h;simp[Cz]at h
        |some x=>
         rw[hb]at h;rcases x with ⟨_|i|_,s'⟩
         ·exact ih s' h
         ·exact h
         ·exact h
      exact go n s' h
     exact this
    ·exact h
    ·exact h
 ·intro r h;cases ha:ev T mf a s with
  |none=>rw[ha]at h;simp[Cz]at h
  |some x=>
   obtain⟨n,hn⟩:=(ib T mf a s x).1 ha;rw[ha]at h;rcases x with ⟨_|i|_,s'⟩
   ·obtain⟨m,hm⟩:=(ib T mf (.loop a) s' r).1 h;refine⟨max n m+1,?_⟩;have h2:=k8 T mf (.loop a) s' m (max n m) _ hm (by omega);simp only[gx]at h2 ⊢;rw[one,k8 T mf a s n (max n m+1) _ hn (by omega)];simp only[Cz];have go:∀(z:Nat) (s:St),iter (gx (dd T) mf (max n m) a) z s=some r->iter (gx (dd T) mf (max n m+1) a) z s=some r:=by
     intro z
     induction z with
     |zero=>intro s h;simp[iter]at h
     |succ z ih=>
      intro s h;rw[one]at h ⊢;cases hb:gx (dd T) mf (max n m) a s with
      |none=>rw[hb]at h;simp[Cz]at h
      |some x=>
       rw[hb]at h;rw[k8 T mf a s (max n m) (max n m+1) x hb (by omega)];rcases x with ⟨_|i|_,s'⟩
       ·exact ih s' h
       ·exact h
       ·exact h
    exact go _ _ h2
   ·refine⟨n+1,?_⟩;simp only[gx];rw[one,k8 T mf a s n (n+1) _ hn (by omega)];exact h
   ·refine⟨n+1,?_⟩;simp only[gx];rw[one,k8 T mf a s n (n+1) _ hn (by omega)];exact h
def Ws(c:C)(x y:Option (Ex×St)):Option (Ex×St):=
 match c with
 | .d (.bool t)=>if t then x else y
 |_=>none
theorem z6{cf:Cf}(n:Nat)(c:KX)(a b:K)(s:St):gx cf mf n (.cond c a b) s=Ws (eU s c) (gx cf mf n a s) (gx cf mf n b s):=by
 simp only[gx,Ws];cases eU s c<;>rfl
theorem Ev(c:KX)(a b:K)(s:St):ev T mf (.cond c a b) s=Ws (eU s c) (ev T mf a s) (ev T mf b s):=by
 apply Ac
 ·intro r n h;rw[z6]at h;unfold Ws at h ⊢
  split at h
  ·split at h
   ·rename_i ht;simp only[ht,if_true];exact (ib T mf _ _ _).2 ⟨n,h⟩
   ·rename_i ht;simp only[ht];exact (ib T mf _ _ _).2 ⟨n,h⟩
  ·cases h
 ·intro r h;unfold Ws at h
  split at h
  ·rename_i t hc;cases t with
   |true=>obtain⟨n,hn⟩:=(ib T mf _ _ _).1 h;exact⟨n,by rw[z6,hc];exact hn⟩
   |false=>obtain⟨n,hn⟩:=(ib T mf _ _ _).1 h;exact⟨n,by rw[z6,hc];exact hn⟩
  ·cases h
def Ps(id:Nat):Option (Ex×St)->Option (Ex×St)
 |some (.norm,s)=>some (.norm,s)
 |some (.exit i,s)=>if i=id then some (.norm,s) else some (.exit i,s)
 |some (.ret,s)=>some (.ret,s)
 |none=>none
theorem C3{cf:Cf}(n:Nat)(i:Nat)(a:K)(s:St):gx cf mf n (.block i a) s=Ps i (gx cf mf n a s):=by
 simp only[gx,Ps];split
 ·simp_all
 ·rename_i h;split
  ·simp_all
  ·rename_i j s' h';exact absurd h' (h j s')
  ·simp_all
  ·simp_all
theorem Ho(i:Nat)(a:K)(s:St):ev T mf (.block i a) s=Ps i (ev T mf a s):=by
 apply Ac
 ·intro r n h;rw[C3]at h;cases ha:gx (dd T) mf n a s with
  |none=>rw[ha]at h;simp[Ps]at h
  |some x=>rw[(ib T mf a s x).2 ⟨n,ha⟩];rw[ha]at h;exact h
 ·intro r h;cases ha:ev T mf a s with
  |none=>rw[ha]at h;simp[Ps]at h
  |some x=>
   obtain⟨n,hn⟩:=(ib T mf a s x).1 ha;rw[ha]at h;exact⟨n,by rw[C3,hn];exact h⟩
theorem Hp(q:Nat)(a:K)(s:St):ev T mf (.share q a) s=ev T mf a (dJ s [q]):=by
 apply Ac
 ·intro r n h;simp only[gx]at h;exact (ib T mf _ _ _).2 ⟨n,h⟩
 ·intro r h;obtain⟨n,hn⟩:=(ib T mf _ _ _).1 h;exact⟨n,by simp only[gx];exact hn⟩
theorem Qj(d:Nat)(a:K)(s:St):ev T mf (.I9 d a) s=(qe s d).bind (ev T mf a):=by
 have h0:∀n,gx (dd T) mf n (.I9 d a) s=(qe s d).bind (gx (dd T) mf n a):=by
  intro n;simp only[gx];cases qe s d<;>rfl
 apply Ac
 ·intro r n h;rw[h0]at h;cases hd:qe s d with
  |none=>rw[hd]at h;simp at h
  |some s'=>rw[hd]at h;exact (ib T mf _ _ _).2 ⟨n,h⟩
 ·intro r h;cases hd:qe s d with
  |none=>rw[hd]at h;simp at h
  |some s'=>rw[hd]at h;obtain⟨n,hn⟩:=(ib T mf _ _ _).1 h;exact⟨n,by rw[h0,hd];exact hn⟩
def fin(kf:KF)(args:List A):Option (Ex×St)->Option (List A×List A)
 |some (.norm,s)=>leave kf args s
 |some (.ret,s)=>leave kf args s
 |_=>none
noncomputable def run(kf:KF)(args:List A):Option (List A×List A):=if args.length=kf.np then fin kf args (ev T mf kf.body (iB 0 args ⟨[],[],[]⟩)) else none
theorem BG(cf:Cf)(n:Nat)(kf:KF)(args:List A):BF cf mf n kf args=if args.length=kf.np then fin kf args (gx cf mf n kf.body (iB 0 args ⟨[],[],[]⟩)) else none:=by
 simp only[BF];split
 ·simp only[fin]
  split<;>simp_all
 ·rfl
theorem Zv{n:Nat}{kf:KF}{args:List A}{r:List A×List A}(h:run T (gK T) kf args=some r):∃n,∀m,n<=m->BF (u7 T m) (Co T m) m kf args=some r:=by
 unfold run at h
 split at h
 ·rename_i hl;cases hx:ev T (gK T) kf.body (iB 0 args ⟨[],[],[]⟩) with
  |none=>rw[hx]at h;simp[fin]at h
  |some x=>
   obtain⟨n,hn⟩:=(ib T (gK T) _ _ _).1 hx;obtain⟨L,a1,a2⟩:=gZ _ hn;obtain⟨m,hm⟩:=vJ T L a1;refine⟨max n m,λz hz=>?_⟩;rw[BG,if_pos hl,a2 _ _ z (hm z (by omega)) (by omega),<- hx];exact h
 ·cases h
theorem SP{cf:Cf}{dN:Mf}{L:xK}(h:Told cf tv L):Told cf dN L:=λt ht=>by
 have h1:=h t ht;cases t with
 |c f a r=>exact h1
 |m f g ds q r=>cases h1
theorem VL{cf:Cf}{mf:Mf}{L:xK}(h:Told cf tv L)(hc:∀f a r,cf f a=some r->dd T f a=some r):Told (dd T) mf L:=λt ht=>by
 have h1:=h t ht;cases t with
 |c f a r=>exact hc f a r h1
 |m f g ds q r=>cases h1
theorem Rv{f:Nat}{b:K}{r:List KR}(hT:T f=some ⟨999,b,r⟩)(args:List A):dd T f args=XT f args:=by
 apply Option.ext
 intro r;rw[sU]
 constructor
 ·rintro⟨n,hn⟩
  cases n with
  |zero=>simp[u7]at hn
  |succ n=>simpa only [u7,hT,if_true] using hn
 ·intro h;exact⟨1,by simpa only [u7,hT,if_true] using h⟩
theorem Mj{f:Nat}{kf:KF}(hT:T f=some kf)(hx9:kf.np≠999)(args:List A):dd T f args=run T tv kf args:=by
 apply Option.ext
 intro r;rw[sU]
 constructor
 ·rintro⟨n,hn⟩
  cases n with
  |zero=>simp[u7]at hn
  |succ n=>
   simp only[u7,hT,if_neg hx9]at hn;rw[BG]at hn;unfold run
   split at hn
   ·rename_i hl;rw[if_pos hl];cases hx:gx (u7 T n) tv n kf.body (iB 0 args ⟨[],[],[]⟩) with
    |none=>rw[hx]at hn;simp[fin]at hn
    |some x=>
     obtain⟨L,a1,a2⟩:=gZ _ hx;have h2:=a2 (dd T) tv n (VL T a1 (λf a r h=>(sU T f a r).2 ⟨n,h⟩)) (by omega);rw[(ib T tv _ _ _).2 ⟨n,h2⟩,<- hx];exact hn
   ·cases hn
 ·intro h;unfold run at h
  split at h
  ·rename_i hl;cases hx:ev T tv kf.body (iB 0 args ⟨[],[],[]⟩) with
   |none=>rw[hx]at h;simp[fin]at h
   |some x=>
    obtain⟨n,hn⟩:=(ib T tv _ _ _).1 hx;obtain⟨L,a1,a2⟩:=gZ _ hn;obtain⟨m,hm⟩:=vJ T L (SP a1);refine⟨max n m+1,?_⟩;simp only[u7,hT,if_neg hx9];rw[BG,if_pos hl,a2 (u7 T (max n m)) tv (max n m) (λt ht=>?_) (by omega),<- hx]
    ·exact h
    ·have h1:=a1 t ht;have h2:=hm (max n m) (by omega) t ht;cases t with
     |c f a r=>exact h2
     |m f g ds q r=>cases h1
  ·cases h
end
noncomputable def tS(own:Bool)(k:Nat)(c:K)(s:MS):Option (Ex×MS):=lm λn=>db (dd T) (gK T) own k n c s
variable (own:Bool) (k:Nat)
theorem kM(c:K)(s:MS):∀n m r,db (dd T) (gK T) own k n c s=some r->n<=m->db (dd T) (gK T) own k m c s=some r:=λn m r h hn=>by
 obtain⟨L,a1,a2⟩:=iZ c h;exact a2 _ _ m a1 hn
theorem gI(c:K)(s:MS)(r:Ex×MS):tS T own k c s=some r↔∃n,db (dd T) (gK T) own k n c s=some r:=Be (kM T own k c s) r
theorem Ad{c:K}{s:MS}{o:Option (Ex×MS)}(h1:∀r n,db (dd T) (gK T) own k n c s=some r->o=some r)(h2:∀r,o=some r->∃n,db (dd T) (gK T) own k n c s=some r):tS T own k c s=o:=Wz (kM T own k c s) h1 h2
theorem sN{c:K}{s:MS}{o:Option (Ex×MS)}(h:∀n,db (dd T) (gK T) own k n c s=o):tS T own k c s=o:=
 Ad T own k (λr n e=>by rw[<- h n];exact e) (λr e=>⟨0,by rw[h 0];exact e⟩)
theorem Qq(s:MS):tS T own k .skip s=some (.norm,s):=sN T own k λn=>by simp[db]
theorem TU(s:MS):tS T own k .ret s=some (.ret,s):=sN T own k λn=>by simp[db]
theorem Qp(i:Nat)(s:MS):tS T own k (.exit i) s=some (.exit i,s):=sN T own k λn=>by simp[db]
def Yy(kp:j7):Option MS->Option (Ex×MS)
 |some s=>some (.norm,s.cG kp)
 |none=>none
theorem TT(ops:List KI)(kp:j7)(s:MS):tS T own k (.cz ops kp) s=Yy kp (pD (dd T) (gK T) own k ops s):=sN T own k λn=>by simp only[db,Yy]<;>split<;>simp_all
def xC(g:MS->Option (Ex×MS)):Option (Ex×MS)->Option (Ex×MS)
 |some (.norm,s)=>g s
 |some (.exit i,s)=>some (.exit i,s)
 |some (.ret,s)=>some (.ret,s)
 |none=>none
theorem u_{cf:Cf}{mf:Mf}(n:Nat)(a b:K)(s:MS):db cf mf own k n (.seq a b) s=xC (db cf mf own k n b) (db cf mf own k n a s):=by
 simp only[db,xC];split
 ·rename_i h;simp only[h]
 ·rename_i h;split
  ·rename_i s' h';exact absurd h' (h s')
  ·simp_all
  ·simp_all
  ·simp_all
theorem TV(a b:K)(s:MS):tS T own k (.seq a b) s=xC (tS T own k b) (tS T own k a s):=by
 apply Ad
 ·intro r n h;rw[u_]at h;cases ha:db (dd T) (gK T) own k n a s with
  |none=>rw[ha]at h;simp[xC]at h
  |some x=>
   rw[(gI T own k a s x).2 ⟨n,ha⟩];rw[ha]at h;rcases x with ⟨_|i|_,s'⟩
   ·exact (gI T own k b s' r).2 ⟨n,h⟩
   ·exact h
   ·exact h
 ·intro r h;cases ha:tS T own k a s with
  |none=>rw[ha]at h;simp[xC]at h
  |some x=>
   obtain⟨n,hn⟩:=(gI T own k a s x).1 ha;rw[ha]at h;rcases x with ⟨_|i|_,s'⟩
   ·obtain⟨m,hm⟩:=(gI T own k b s' r).1 h;refine⟨max n m,?_⟩;rw[u_,kM T own k a s n (max n m) _ hn (by omega)];exact kM T own k b s' m (max n m) _ hm (by omega)
   ·exact⟨n,by rw[u_,hn];exact h⟩
   ·exact⟨n,by rw[u_,hn];exact h⟩
def Yd(c:C)(x y:Option (Ex×MS)):Option (Ex×MS):=
 match c with
 | .d (.bool t)=>if t then x else y
 |_=>none
theorem wq{cf:Cf}{mf:Mf}(n:Nat)(c:KX)(a b:K)(s:MS):db cf mf own k n (.cond c a b) s=Yd (eU s.s c) (db cf mf own k n a s) (db cf mf own k n b s):=by
 simp only[db,Yd]<;>cases eU s.s c<;>rfl
theorem Qo(c:KX)(a b:K)(s:MS):tS T own k (.cond c a b) s=Yd (eU s.s c) (tS T own k a s) (tS T own k b s):=by
 apply Ad
 ·intro r n h;rw[wq]at h;unfold Yd at h ⊢
  split at h
  ·split at h
   ·rename_i ht;simp only[ht,if_true];exact (gI T own k _ _ _).2 ⟨n,h⟩
   ·rename_i ht;simp only[ht];exact (gI T own k _ _ _).2 ⟨n,h⟩
  ·cases h
 ·intro r h;unfold Yd at h
  split at h
  ·rename_i t hc;cases t with
   |true=>obtain⟨n,hn⟩:=(gI T own k _ _ _).1 h;exact⟨n,by rw[wq,hc];exact hn⟩
   |false=>obtain⟨n,hn⟩:=(gI T own k _ _ _).1 h;exact⟨n,by rw[wq,hc];exact hn⟩
  ·cases h
def Jr(id:Nat):Option (Ex×MS)->Option (Ex×MS)
 |some (.norm,s)=>some (.norm,s)
 |some (.exit i,s)=>if i=id then some (.norm,s) else some (.exit i,s)
 |some (.ret,s)=>some (.ret,s)
 |none=>none
theorem z8{cf:Cf}{mf:Mf}(n:Nat)(i:Nat)(a:K)(s:MS):db cf mf own k n (.block i a) s=Jr i (db cf mf own k n a s):=by
 simp only[db,Jr];split
 ·simp_all
 ·rename_i h;split
  ·simp_all
  ·rename_i j s' h';exact absurd h' (h j s')
  ·simp_all
  ·simp_all
theorem Np(i:Nat)(a:K)(s:MS):tS T own k (.block i a) s=Jr i (tS T own k a s):=by
 apply Ad
 ·intro r n h;rw[z8]at h;cases ha:db (dd T) (gK T) own k n a s with
  |none=>rw[ha]at h;simp[Jr]at h
  |some x=>rw[(gI T own k a s x).2 ⟨n,ha⟩];rw[ha]at h;exact h
 ·intro r h;cases ha:tS T own k a s with
  |none=>rw[ha]at h;simp[Jr]at h
  |some x=>
   obtain⟨n,hn⟩:=(gI T own k a s x).1 ha;rw[ha]at h;exact⟨n,by rw[z8,hn];exact h⟩
theorem Hq(a:K)(s:MS):tS T own k (.loop a) s=xC (tS T own k (.loop a)) (tS T own k a s):=by
 have one:∀(cf:Cf) (mf:Mf) n m s,iterM (db cf mf own k n a) (m+1) s=xC (iterM (db cf mf own k n a) m) (db cf mf own k n a s):=by
  intro cf mf n m s;simp only[iterM,xC];split
  ·rename_i h;simp only[h]
  ·rename_i h;split
   ·rename_i s' h';exact absurd h' (h s')
   ·simp_all
   ·simp_all
   ·simp_all
 have up:∀(n m z z':Nat) (s:MS) (r:Ex×MS),n<=m->z<=z'->iterM (db (dd T) (gK T) own k n a) z s=some r->iterM (db (dd T) (gK T) own k m a) z' s=some r:=by
  intro n m z
  induction z with
  |zero=>intro z' s r _ _ h;simp[iterM]at h
  |succ z ih=>
   intro z' s r hn hz h;obtain⟨z',rfl⟩:∃y,z'=y+1:=⟨z' - 1,by omega⟩
   rw[one]at h ⊢;cases hb:db (dd T) (gK T) own k n a s with
   |none=>rw[hb]at h;simp[xC]at h
   |some x=>
    rw[hb]at h;rw[kM T own k a s n m x hb hn];rcases x with ⟨_|i|_,s'⟩
    ·exact ih z' s' r hn (by omega) h
    ·exact h
    ·exact h
 apply Ad
 ·intro r n h;simp only[db]at h;cases n with
  |zero=>simp[iterM]at h
  |succ n=>
   rw[one]at h;cases ha:db (dd T) (gK T) own k (n+1) a s with
   |none=>rw[ha]at h;simp[xC]at h
   |some x=>
    rw[(gI T own k a s x).2 ⟨n+1,ha⟩];rw[ha]at h;rcases x with ⟨_|i|_,s'⟩
    ·exact (gI T own k (.loop a) s' r).2 ⟨n+1,by simp only[db];exact up (n+1) (n+1) n (n+1) s' r (by omega) (by omega) h⟩
    ·exact h
    ·exact h
 ·intro r h;cases ha:tS T own k a s with
  |none=>rw[ha]at h;simp[xC]at h
  |some x=>
   obtain⟨n,hn⟩:=(gI T own k a s x).1 ha;rw[ha]at h;rcases x with ⟨_|i|_,s'⟩
   ·obtain⟨m,hm⟩:=(gI T own k (.loop a) s' r).1 h;refine⟨max n m+1,?_⟩;simp only[db]at hm ⊢;rw[one,kM T own k a s n (max n m+1) _ hn (by omega)];exact up m (max n m+1) m (max n m) s' r (by omega) (by omega) hm
   ·exact⟨n+1,by simp only[db];rw[one,kM T own k a s n (n+1) _ hn (by omega)];exact h⟩
   ·exact⟨n+1,by simp only[db];rw[one,kM T own k a s n (n+1) _ hn (by omega)];exact h⟩
theorem Ru{f:Nat}{kf:KF}(hT:T f=some kf)(ag:Bool)(ds:List D)(q:Int):gK T f ag ds q=runM (λown k=>pD (dd T) (gK T) own k) (λown k=>tS T own k) kf ag ds q:=by
 apply Option.ext
 intro r;rw[Bd]
 constructor
 ·rintro⟨n,hn⟩
  cases n with
  |zero=>simp[Co]at hn
  |succ n=>
   rw[Et,hT]at hn;obtain⟨L,a1,a2⟩:=BH hn;have h2:=a2 (dd T) (gK T) n (VM T a1) (by omega)
   revert h2
   unfold runM;split
   ·split
    ·split
     ·split
      ·rename_i m hm;dsimp only;intro h2;cases hx:db (dd T) (gK T) false ds.length n _ (m.cG _) with
       |none=>rw[hx]at h2;simp[vy,DK]at h2
       |some e=>rw[(gI T _ _ _ _ _).2 ⟨n,hx⟩,<- hx];exact h2
      ·simp
     ·simp
    ·split
     ·dsimp only;intro h2;rename_i k fl es;cases hx:db (dd T) (gK T) true k n _ ⟨⟨[(1,.d (.int .i64 q))],[],[]⟩,[(0,.lst)],es⟩ with
      |none=>rw[hx]at h2;simp[vy,Bx]at h2
      |some e=>rw[(gI T _ _ _ _ _).2 ⟨n,hx⟩,<- hx];exact h2
     ·simp
   ·simp
 ·intro h;have key:∃n,runM (λown k=>pD (dd T) (gK T) own k) (λown k=>db (dd T) (gK T) own k n) kf ag ds q=some r:=by
   revert h
   unfold runM;split
   ·split
    ·split
     ·split
      ·rename_i m hm;dsimp only;intro h2;cases hx:tS T false ds.length _ (m.cG _) with
       |none=>rw[hx]at h2;simp[vy,DK]at h2
       |some e=>obtain⟨n,hn⟩:=(gI T _ _ _ _ _).1 hx;exact⟨n,by rw[hn,<- hx];exact h2⟩
      ·simp
     ·simp
    ·split
     ·dsimp only;intro h2;rename_i k fl es;cases hx:tS T true k _ ⟨⟨[(1,.d (.int .i64 q))],[],[]⟩,[(0,.lst)],es⟩ with
      |none=>rw[hx]at h2;simp[vy,Bx]at h2
      |some e=>obtain⟨n,hn⟩:=(gI T _ _ _ _ _).1 hx;exact⟨n,by rw[hn,<- hx];exact h2⟩
     ·simp
   ·simp
  obtain⟨n,hn⟩:=key;obtain⟨L,a1,a2⟩:=BH hn;obtain⟨m,hm⟩:=vJ T L a1;refine⟨max n m+1,?_⟩;rw[Et,hT];exact a2 _ _ (max n m) (hm _ (by omega)) (by omega)
end
end
section
open Go.RowKit
inductive Ty where
 |int
 |bool
 |str
 |list (t:Nat)
def Ty.plain:Ty->Bool
 | .list _=>false
 |_=>true
def lay:Nat->List Ty
 |0=>[.str]
 |1=>[.str,.list 0,.int,.bool]
 |2=>[.str,.str,.list 2]
 |3=>[.int,.str,.str,.list 3]
 |4=>[.int,.int,.list 3]
 |5=>[.list 2,.list 4]
 |6=>[.int,.int]
 |7=>[.int,.list 6,.list 0,.str,.str]
 |8=>[.str,.str]
 |9=>[.str,.list 8]
 |10=>[.bool,.int,.list 9]
 |11=>[.int,.int,.str,.bool,.int,.list 9,.list 11]
 |12=>[.int,.str,.int,.list 6,.list 0,.str,.str,.list 0,.list 0,.str,.bool,.bool,.bool,.bool,.int,.int,.list 11,.list 11,.list 12]
 |13=>[.list 2,.int,.int]
 |14=>[.bool,.int,.int,.str,.list 2]
 |15=>[.list 12,.list 2,.list 2,.int,.list 13,.bool,.int,.int,.str,.list 2]
 |_=>[]
abbrev kw(t:Nat):Nat:=(lay t).length
abbrev flT(t:Nat):Bool:=(lay t).all Ty.plain
abbrev mm:Nat:=2147483648
mutual
def Ok(B:Nat):Ty->D->Prop
 | .int,.int k n=>k=.i64/\-9223372036854775808<=n/\n<=9223372036854775807
 | .bool,.bool _=>True
 | .str,.str s=>s.size<=maxLen
 | .list t,.list k f es=>k=kw t/\f=flT t/\es.length<=B/\eh B t es
 |_,_=>False
def eO(B:Nat):List Ty->List D->Prop
 |[],[]=>True
 |t::ts,d::ds=>Ok B t d/\eO B ts ds
 |_,_=>False
def eh(B:Nat)(t:Nat):List (List D)->Prop
 |[]=>True
 |e::es=>eO B (lay t) e/\eh B t es
end
section
variable {B:Nat}
theorem Ok.kv{d:D}(h:Ok B .int d):∃n,d=.int .i64 n/\-9223372036854775808<=n/\n<=9223372036854775807:=by
 cases d<;>simp only[Ok]at h
 obtain⟨rfl,h⟩:=h;exact⟨_,rfl,h⟩
theorem Ok.nK{d:D}(h:Ok B .bool d):∃b,d=.bool b:=by
 cases d<;>simp only[Ok]at h
 exact⟨_,rfl⟩
theorem Ok.jw{d:D}(h:Ok B .str d):∃s,d=.str s/\s.size<=maxLen:=by
 cases d<;>simp only[Ok]at h
 exact⟨_,rfl,h⟩
theorem Ok.fL{t:Nat}{d:D}(h:Ok B (.list t) d):∃es,d=.list (kw t) (flT t) es/\es.length<=B/\eh B t es:=by
 cases d<;>simp only[Ok]at h
 obtain⟨rfl,rfl,h⟩:=h;exact⟨_,rfl,h⟩
theorem eO.jX{ds:List D}(h:eO B [] ds):ds=[]:=by
 cases ds with
 |nil=>rfl
 |cons d ds=>simp[eO]at h
theorem eO.cons_inv{t:Ty}{ts:List Ty}{ds:List D}(h:eO B (t::ts) ds):∃x xs,ds=x::xs/\Ok B t x/\eO B ts xs:=by
 cases ds with
 |nil=>simp[eO]at h
 |cons d ds=>simp only[eO]at h;exact⟨d,ds,rfl,h⟩
theorem eh.mem{t:Nat}:∀{es:List (List D)},eh B t es->∀e∈es,eO B (lay t) e
 |[],_,e,h=>by simp at h
 |x::es,ho,e,h=>by
  simp only[eh]at ho;rcases ay.1 h with rfl|h
  ·exact ho.1
  ·exact eh.mem ho.2 e h
theorem dF{α:Type}{l:List α}{i:Nat}(h:i < l.length):nth l i=some l[i]:=by rw[cV];simp[h]
theorem vv{α:Type}{l:List α}{i:Nat}{x:α}(h:nth l i=some x):x∈l:=by rw[cV]at h;exact cK h
theorem eh.Ip{t:Nat}{es:List (List D)}{i:Nat}{e:List D}(ho:eh B t es)(h:nth es i=some e):eO B (lay t) e:=ho.mem e (vv h)
theorem eO.length{ts:List Ty}:∀{ds:List D},eO B ts ds->ds.length=ts.length:=by
 induction ts with
 |nil=>intro ds h;rw[h.jX];rfl
 |cons t ts ih=>intro ds h;obtain⟨x,xs,rfl,_,h2⟩:=h.cons_inv;simp[ih h2]
mutual
theorem Ok.mono{B B':Nat}(hb:B<=B'):∀(t:Ty) (d:D),Ok B t d->Ok B' t d
 | .int,.int _ _,h=>by simpa only [Ok] using h
 | .bool,.bool _,_=>by simp only[Ok]
 | .str,.str _,h=>by simpa only [Ok] using h
 | .list t,.list k f es,h=>by
  simp only[Ok]at h ⊢;exact⟨h.1,h.2.1,az h.2.2.1 hb,eh.mono hb t es h.2.2.2⟩
 | .int,.bool _,h | .int,.str _,h | .int,.list _ _ _,h | .bool,.int _ _,h | .bool,.str _,h | .bool,.list _ _ _,h | .str,.int _ _,h | .str,.bool _,h | .str,.list _ _ _,h | .list _,.int _ _,h | .list _,.bool _,h | .list _,.str _,h=>by simp only[Ok]at h
theorem eO.mono{B B':Nat}(hb:B<=B'):∀(ts:List Ty) (ds:List D),eO B ts ds->eO B' ts ds
 |[],[],_=>by simp only[eO]
 |t::ts,d::ds,h=>by
  simp only[eO]at h ⊢;exact⟨Ok.mono hb t d h.1,eO.mono hb ts ds h.2⟩
 |[],_::_,h|_::_,[],h=>by simp only[eO]at h
theorem eh.mono{B B':Nat}(hb:B<=B')(t:Nat):∀(es:List (List D)),eh B t es->eh B' t es
 |[],h=>by simp only[eh]
 |e::es,h=>by
  simp only[eh]at h ⊢;exact⟨eO.mono hb (lay t) e h.1,eh.mono hb t es h.2⟩
end
end
mutual
def D.sz:D->Nat
 | .str s=>s.size
 | .list _ _ es=>es.length+n7 es
 |_=>0
def fc:List D->Nat
 |[]=>0
 |d::ds=>d.sz+fc ds
def n7:List (List D)->Nat
 |[]=>0
 |e::es=>fc e+n7 es
end
mutual
theorem Ok.small{B B':Nat}:∀(t:Ty) (d:D),Ok B t d->d.sz<=B'->Ok B' t d
 | .int,.int _ _,h,_=>by simpa only [Ok] using h
 | .bool,.bool _,_,_=>by simp only[Ok]
 | .str,.str _,h,_=>by simpa only [Ok] using h
 | .list t,.list k f es,h,hs=>by
  simp only[Ok]at h ⊢;simp only[D.sz]at hs;exact⟨h.1,h.2.1,by omega,eh.small t es h.2.2.2 (by omega)⟩
 | .int,.bool _,h,_ | .int,.str _,h,_ | .int,.list _ _ _,h,_ | .bool,.int _ _,h,_ | .bool,.str _,h,_ | .bool,.list _ _ _,h,_ | .str,.int _ _,h,_ | .str,.bool _,h,_ | .str,.list _ _ _,h,_ | .list _,.int _ _,h,_ | .list _,.bool _,h,_ | .list _,.str _,h,_=>by simp only[Ok]at h
theorem eO.small{B B':Nat}:∀(ts:List Ty) (ds:List D),eO B ts ds->fc ds<=B'->eO B' ts ds
 |[],[],_,_=>by simp only[eO]
 |t::ts,d::ds,h,hs=>by
  simp only[eO]at h ⊢;simp only[fc]at hs;exact⟨Ok.small t d h.1 (by omega),eO.small ts ds h.2 (by omega)⟩
 |[],_::_,h,_|_::_,[],h,_=>by simp only[eO]at h
theorem eh.small{B B':Nat}(t:Nat):∀(es:List (List D)),eh B t es->n7 es<=B'->eh B' t es
 |[],h,_=>by simp only[eh]
 |e::es,h,hs=>by
  simp only[eh]at h ⊢;simp only[n7]at hs;exact⟨eO.small (lay t) e h.1 (by omega),eh.small t es h.2 (by omega)⟩
end
abbrev Om(k:Nat)(fl:Bool)(es:List (List D)):Row:=⟨es,k,fl,true,true,false⟩
def own:D->RV
 | .list k fl es=>.row (Om k fl es)
 |d=>.d d
def yt:Nat->Nat->ByteArray->ByteArray
 |0,_,out=>out
 |f+1,n,out=>if n=0 then out else yt f (n / 10) (⟨#[cL (48+n % 10)]⟩++out)
def DB(k:Int):ByteArray:=if k<=0 then ⟨#[109,48]⟩ else ⟨#[109]⟩++yt 20 k.toNat ⟨#[]⟩
def WD(q:Int):Bool:=decide (q % 3=0)
mutual
def D.mn:D->Nat
 | .list _ _ es=>bz es
 |_=>1
def Bj:List D->Nat
 |[]=>0
 |d::ds=>d.mn+Bj ds
def bz:List (List D)->Nat
 |[]=>0
 |e::es=>Bj e+bz es
end
mutual
def D.mk:D->Int->D
 | .int k _,q=>.int k q
 | .bool _,q=>.bool (WD q)
 | .str _,q=>.str (DB q)
 | .list k fl es,q=>.list k fl (lr es q)
def OW:List D->Int->List D
 |[],_=>[]
 |d::ds,q=>d.mk q::OW ds (q+d.mn)
def lr:List (List D)->Int->List (List D)
 |[],_=>[]
 |e::es,q=>OW e q::lr es (q+Bj e)
end
theorem dz:∀(es:List (List D)) (q:Int),(lr es q).length=es.length
 |[],_=>by simp[lr]
 |e::es,q=>by simp[lr,dz es]
theorem Bi:∀(a b:List (List D)) (q:Int),lr (a++b) q=lr a q++lr b (q+bz a)
 |[],b,q=>by simp[lr,bz]
 |e::a,b,q=>by simp[lr,bz,Bi a b,Int.add_assoc]
theorem uu:∀(a b:List (List D)),bz (a++b)=bz a+bz b
 |[],b=>by simp[bz]
 |e::a,b=>by simp[bz,uu a b,dv]
theorem BW:∀(a b:List (List D)),n7 (a++b)=n7 a+n7 b
 |[],b=>by simp[n7]
 |e::a,b=>by simp[n7,BW a b,dv]
theorem My:∀(es:List (List D)) (q:Int) (i:Nat) (e:List D),nth es i=some e->nth (lr es q) i=some (OW e (q+bz (es.take i)))
 |[],_,_,_,h=>by simp[nth]at h
 |x::es,q,0,e,h=>by simp only[nth,aa]at h;subst h;simp[lr,nth,bz]
 |x::es,q,i+1,e,h=>by
  simp only[nth]at h;simp only[lr,nth,cD,bz];rw[My es _ i e h]
  congr 2
  omega
theorem cu{α:Type}:∀(es:List α) (i:Nat) (e:α),nth es i=some e->es.take (i+1)=es.take i++[e]
 |[],_,_,h=>by simp[nth]at h
 |x::es,0,e,h=>by simp only[nth,aa]at h;simp[h]
 |x::es,i+1,e,h=>by simp only[nth]at h;simp[cu es i e h]
theorem gm{es:List (List D)}{i:Nat}{e:List D}(h:nth es i=some e):bz (es.take (i+1))=bz (es.take i)+Bj e:=by
 rw[cu es i e h,uu];simp[bz]
theorem iQ(es:List (List D))(i:Nat):bz (es.take i)<=bz es:=by
 have:=uu (es.take i) (es.drop i);rw[a_]at this;omega
theorem Ht{α:Type}:∀(es:List α) (z:α) (zs:List α) (i:Nat) (e:α),nth es i=some e->(es.take i++z::zs).set i e=es.take (i+1)++zs
 |[],_,_,_,_,h=>by simp[nth]at h
 |x::es,z,zs,0,e,h=>by
  simp only[nth,aa]at h;subst h;simp
 |x::es,z,zs,i+1,e,h=>by
  simp only[nth]at h;simp[Ht es z zs i e h]
theorem Qs{α:Type}{es:List α}{z:α}{i:Nat}{e:α}(h:nth es i=some e):(es.take i++aC (es.length - i) z).set i e=es.take (i+1)++aC (es.length - (i+1)) z:=by
 have hl:i < es.length:=by rw[cV]at h;exact (aI.1 h).1
 rw[show es.length - i=(es.length - (i+1))+1 by omega,fp,Ht es z _ i e h]
end
section
section
variable {cf:Cf} {mf:Mf}
@[go_sem] theorem afV (g:St->Option (Ex×St)) (s:St):Cz g (some (.norm,s))=g s:=rfl
@[go_sem] theorem afU (g:St->Option (Ex×St)) (i:Nat) (s:St):Cz g (some (.exit i,s))=some (.exit i,s):=rfl
@[go_sem] theorem af9 (g:St->Option (Ex×St)) (s:St):Cz g (some (.ret,s))=some (.ret,s):=rfl
@[go_sem] theorem aaA (i:Nat) (s:St):Ps i (some (.norm,s))=some (.norm,s):=rfl
@[go_sem] theorem aaz (i j:Nat) (s:St):Ps i (some (.exit j,s))=if j=i then some (.norm,s) else some (.exit j,s):=rfl
@[go_sem] theorem ab_ (kp:j7) (s:St):Yx kp (some s)=some (.norm,s.cG kp):=rfl
@[go_sem] theorem ab9 (s:St):Io (some s)=some (.norm,s):=rfl
def Ft(res:List KR)(args:List A)(s:St):Option (List A×List A):=
 match vB s res,sq s 0 args with
 |some (rs,l),some (outs,l')=>if iR (l++l') then some (rs,outs) else none
 |_,_=>none
def Qt(res:List KR)(args:List A):Option (Ex×St)->Option (List A×List A)
 |some (.norm,s)=>Ft res args s
 |some (.ret,s)=>Ft res args s
 |_=>none
@[go_sem] theorem af6 (res:List KR) (as:List A) (s:St):Qt res as (some (.ret,s))=Ft res as s:=rfl
theorem sc{T:Nat->Option KF}{f np:Nat}{body:K}{res:List KR}(hT:T f=some ⟨np,body,res⟩){args:List A}(rq:(args.length ==np && fh np 999)=true) :
  dd T f args=Qt res args (ev T tv body (iB 0 args ⟨[],[],[]⟩)):=by
 rw[ab,beq_iff_eq,lH]at rq;have hl:=rq.1;rw[Mj T hT (by simp only;omega)];simp only[run,hl,if_true];generalize ev T tv body (iB 0 args ⟨[],[],[]⟩)=x;rcases x with _|⟨_|_|_,s⟩<;>rfl
theorem Zu{T:Nat->Option KF}{np:Nat}{body:K}{res:List KR}{args:List A}(hl:args.length=np) :
  run T mf ⟨np,body,res⟩ args=Qt res args (ev T mf body (iB 0 args ⟨[],[],[]⟩)):=by
 simp only[run,hl,if_true];generalize ev T mf body (iB 0 args ⟨[],[],[]⟩)=x;rcases x with _|⟨_|_|_,s⟩<;>rfl
theorem Ml{T:Nat->Option KF}{body:K}(st:Nat->St){n:Nat}{e:Ex}{s:St}(he:e≠.norm)(fy:ev T mf body (st n)=some (e,s))(vg:∀i,i < n->ev T mf body (st i)=some (.norm,st (i+1))) :
  ∀m i,i+m=n->ev T mf (.loop body) (st i)=some (e,s)
 |0,i,h=>by
  rw[fG,show i=n by omega,fy];cases e with
  |norm=>exact absurd rfl he
  |exit j=>rfl
  |ret=>rfl
 |m+1,i,h=>by
  rw[fG,vg i (by omega)];exact Ml st he fy vg m (i+1) (by omega)
theorem WA{T:Nat->Option KF}{body:K}(st:Nat->St)(n:Nat){e:Ex}{s:St}(he:e≠.norm)(fy:ev T mf body (st n)=some (e,s))(vg:∀i,i < n->ev T mf body (st i)=some (.norm,st (i+1))):ev T mf (.loop body) (st 0)=some (e,s):=
 Ml st he fy vg n 0 (by omega)
@[go_sem] theorem aak (ag:Bool) (cs:List RV):A.short (.val ag cs)=decide (cs.length<=30):=by
 simp only[A.short];by_cases h:cs.length<=30
 ·simp only[h,decide_true];exact Nat.ble_eq_true_of_le h
 ·simp only[h,decide_false];cases hb:ny cs.length 30 with
  |false=>rfl
  |true=>exact absurd (Nat.le_of_ble_eq_true hb) h
@[go_sem] theorem aag (s:St):k9 cf mf [] s=some s:=rfl
@[go_sem] theorem Xr (i:KI) (is:List KI) (s:St):k9 cf mf (i::is) s=(rj cf mf s i).bind (k9 cf mf is):=by
 simp only[k9];cases rj cf mf s i<;>rfl
@[go_sem] theorem aaY (s:St) (d:Option Nat) (o:KO):rj cf mf s ⟨d,o,none⟩=yu cf mf s d o:=rfl
def V6(cf:Cf)(mf:Mf)(s:St)(d:Option Nat)(o:KO)(w:Bool):C->Option St
 | .d (.bool b)=>if b=w then yu cf mf s d o else some (s.put d .rf)
 | .rf=>some (s.put d .rf)
 |_=>none
@[go_sem] theorem aaZ (s:St) (d:Option Nat) (o:KO) (g:Nat) (w:Bool):rj cf mf s ⟨d,o,some (g,w)⟩=V6 cf mf s d o w (s.get g):=by
 simp only[rj,V6];cases s.get g<;>rfl
@[go_sem] theorem agh (s:St) (d:Option Nat) (o:KO):V6 cf mf s d o false (.d (.bool false))=yu cf mf s d o:=rfl
@[go_sem] theorem aaX (kp:j7) (tk:List (List Nat×Nat)) (s:St):eH cf mf kp .nil tk s=some (s.cG kp):=by simp only[eH]
def lod(s:St)(d:Option Nat)(dn:List Nat)(tk:List (List Nat×Nat))(k:List (List Nat×Nat)->St->Option St):Option C->Option (Option Nat)->Option St
 |some c,some b=>k (mF dn tk b) (s.put d c)
 |_,_=>none
@[go_sem] theorem Xp (kp:j7) (j:Nat) (al dn:List Nat) (d:Option Nat) (o:KO) (is:KT) (tk:List (List Nat×Nat)) (s:St) :
  eH cf mf kp (.op ⟨j,true,al,dn,⟨d,o,none⟩⟩ is) tk s=lod s d dn tk (eH cf mf kp is) (gH s o) (nc s o):=by
 simp only[eH,if_true,lod];cases gH s o<;>cases nc s o<;>rfl
@[go_sem] theorem abV (s:St) (d:Option Nat) (dn:List Nat) (tk:List (List Nat×Nat)) (k:List (List Nat×Nat)->St->Option St) (c:C) (b:Option Nat):lod s d dn tk k (some c) (some b)=k (mF dn tk b) (s.put d c):=rfl
@[go_sem] theorem Xo (kp:j7) (j:Nat) (al dn:List Nat) (i:KI) (is:KT) (tk:List (List Nat×Nat)) (s:St) :
  eH cf mf kp (.op ⟨j,false,al,dn,i⟩ is) tk s=j6 cf mf ⟨j,false,al,dn,i⟩ tk s (eH cf mf kp is):=by simp only[eH,au,if_false]
def stp(x:KD)(s:St)(tk:List (List Nat×Nat))(k:List (List Nat×Nat)->St->Option St):Option St->Option St
 |some s'=>if tk.all (λp=>!(dW s x.i.dst x.i.op).contains p.2 && (look s'.bx p.2).isSome && !(x.i.dst ==some p.2)) then k tk s' else none
 |none=>none
@[go_sem] theorem afe (x:KD) (tk:List (List Nat×Nat)) (s:St) (k:List (List Nat×Nat)->St->Option St):j6 cf mf x tk s k=stp x s (il x.j tk) k (rj cf mf s x.i):=by
 simp only[j6,stp];cases rj cf mf s x.i<;>rfl
@[go_sem] theorem af8 (x:KD) (s s':St) (k:List (List Nat×Nat)->St->Option St):stp x s [] k (some s')=k [] s':=rfl
def rsl (s : St) (d : Option Nat) (cs : List C) : Option (List A × List A) -> Option St
  | none => none
  | some (rs, outs) => if rs.all A.short then
        let s0 := if rs.all A.closed && outs.all A.closed then s else dJ s (hH cs)
        let s1 := ek (eu s0 (cH s cs)) (cd cs)
        let s2 := jM s1 cs outs
        let (l, s4) := ft (d.getD 0) 0 rs s2
        some (s4.put d (match l with | [c] => c | l => .oK l))
        else none
def TR(cf:Cf)(s:St)(d:Option Nat)(f:Nat)(cs:List C):Option (List A)->Option St
 |some as=>if iR (cH s cs) && iR (cd cs) && (cH s cs).all (λr=>!(hH cs).contains r) then rsl s d cs (cf f as) else none
 |none=>none
@[go_sem] theorem aac (s:St) (d:Option Nat) (f:Nat) (cs:List C):tR cf s d f cs=TR cf s d f cs (vI s cs):=by
 simp only[tR,TR];cases vI s cs with
 |none=>rfl
 |some as=>
  dsimp only;split
  ·cases cf f as with
   |none=>rfl
   |some r=>rfl
  ·rfl
@[go_sem] theorem aab (s:St) (d:Option Nat) (f:Nat) (cs:List C) (as:List A):TR cf s d f cs (some as)=if iR (cH s cs) && iR (cd cs) && (cH s cs).all (λr=>!(hH cs).contains r) then rsl s d cs (cf f as) else none:=rfl
@[go_sem] theorem adq (s : St) (d : Option Nat) (cs : List C) (rs outs : List A) : rsl s d cs (some (rs, outs)) = if rs.all A.short then
        let s0 := if rs.all A.closed && outs.all A.closed then s else dJ s (hH cs)
        let s1 := ek (eu s0 (cH s cs)) (cd cs)
        let s2 := jM s1 cs outs
        let (l, s4) := ft (d.getD 0) 0 rs s2
        some (s4.put d (match l with | [c] => c | l => .oK l))
        else none := rfl
end
theorem ag0{α:Type}(x:α)(l:List α):nth (x::l) 0=some x:=rfl
theorem ag2{α:Type}(x:α)(l:List α)(i:Nat):nth (x::l) (i+1)=nth l i:=rfl
theorem ag1{α:Type}(i:Nat):nth ([]:List α) i=none:=by cases i<;>rfl
attribute [go_sem] Qn Ev Ho Ql Qk Qm Lu Lv Hp Qj
attribute [go_sem] qe Ft vB FQ sq On
attribute [go_sem] pO yu gH kc eU KO.jg KO.J6 nc dW mF il
attribute [go_sem] St.get St.put St.eN St.setRow St.cM St.jK St.newRow St.kill St.cG gl look po L0 LZ tw ag0 ag2 ag1
attribute [go_sem] C.fY C.xq R4 R3 St.fY jq Dj C.kill C.jd C.cells C.const C.cell C.isAgg Ca zW cQ D.plain Po Pp Pn M9 kJ iK fk OF vI rowsOf pM cH hH cd RV.closed A.closed Row.share dJ dV jM ft iR eu fP ek xT vD yL iP rJ ou wo iB mN
attribute [go_sem] aE aQ aN dD bW List.all_nil List.filter_cons List.filter_nil aD ak ai cD bg gu aX List.drop_nil List.take_nil List.contains_cons List.contains_nil List.headD_cons
attribute [go_sem] aB Option.map_none mK Option.getD_none gR Option.toList_some cO
attribute [go_sem] Option.some_beq_some Option.none_beq_some
attribute [go_sem] if_true if_false fj bU iU df jB fX jo l6 iM fQ and_true true_and and_false false_and
attribute [go_sem] bo eA au ite_true ite_false decide_true decide_false cB Bool.true_eq_false beq_self_eq_true bne_self_eq_false imp_self false_imp_iff true_imp_iff
theorem wi{i n:Nat}(h:i < n)(hn:n<=maxLen):IntKind.i64.wrap ((i:Int)+1)=((i+1:Nat):Int):=by
 rw[bN (by simp[maxLen]at hn;omega)];omega
theorem Wt{i n:Nat}(h:i < n):((i:Int) < (n:Int))=True:=by simp;omega
theorem WJ(n:Nat):((n:Int) < (n:Int))=False:=by simp
theorem eO.drop{B:Nat}:∀(o:Nat) (ts:List Ty) (ds:List D),eO B ts ds->eO B (ts.drop o) (ds.drop o)
 |0,_,_,h=>by simpa using h
 |o+1,[],[],h=>by simpa using h
 |o+1,t::ts,d::ds,h=>by simp only[eO]at h;simpa using eO.drop o ts ds h.2
 |_,[],_::_,h|_,_::_,[],h=>by simp only[eO]at h
theorem eO.take{B:Nat}:∀(o:Nat) (ts:List Ty) (ds:List D),eO B ts ds->eO B (ts.take o) (ds.take o)
 |0,_,_,_=>by simp[eO]
 |o+1,[],[],h=>by simpa using h
 |o+1,t::ts,d::ds,h=>by simp only[eO]at h;simp only[cD,eO];exact⟨h.1,eO.take o ts ds h.2⟩
 |_,[],_::_,h|_,_::_,[],h=>by simp only[eO]at h
theorem eO.sub{B:Nat}(o m:Nat){ts:List Ty}{ds:List D}(h:eO B ts ds):eO B ((ts.drop o).take m) ((ds.drop o).take m):=eO.take m _ _ (eO.drop o _ _ h)
theorem gY{α:Type}:∀(es:List α) (i:Nat) (e:α),nth es i=some e->es.drop i=e::es.drop (i+1)
 |[],_,_,h=>by simp[nth]at h
 |x::es,0,e,h=>by simp only[nth,aa]at h;simp[h]
 |x::es,i+1,e,h=>by simp only[nth]at h;simp[gY es i e h]
theorem vF{k:Nat}{fl:Bool}{x es:List (List D)}{e:List D}(h:D.list k fl x∈e)(he:e∈es):ah x < ah es:=by
 have h1:=aU h;have h2:=aU he;simp only[D.list.sizeOf_spec]at h1;omega
end
section
section
variable {cf:Cf} {mf:Mf} {own:Bool} {k:Nat}
@[go_sem] theorem aam (g:MS->Option (Ex×MS)) (s:MS):xC g (some (.norm,s))=g s:=rfl
@[go_sem] theorem aal (g:MS->Option (Ex×MS)) (i:Nat) (s:MS):xC g (some (.exit i,s))=some (.exit i,s):=rfl
@[go_sem] theorem abB (x y:Option (Ex×MS)):Yd (.d (.bool true)) x y=x:=rfl
@[go_sem] theorem aah (x y:Option (Ex×MS)):Yd (.d (.bool false)) x y=y:=rfl
@[go_sem] theorem aaa (i:Nat) (s:MS):Jr i (some (.norm,s))=some (.norm,s):=rfl
@[go_sem] theorem Z9 (i j:Nat) (s:MS):Jr i (some (.exit j,s))=if j=i then some (.norm,s) else some (.exit j,s):=rfl
@[go_sem] theorem aaj (kp:j7) (s:MS):Yy kp (some s)=some (.norm,s.cG kp):=rfl
@[go_sem] theorem aa0 (s:MS):pD cf mf own k [] s=some s:=rfl
@[go_sem] theorem aaf (i:KI) (is:List KI) (s:MS):pD cf mf own k (i::is) s=(Es cf mf own k s i).bind (pD cf mf own k is):=by
 simp only[pD];cases Es cf mf own k s i<;>rfl
@[go_sem] theorem aae (s:MS) (d:Nat) (o:KO):Es cf mf own k s ⟨some d,o,none⟩=z7 cf mf k s d o:=rfl
@[go_sem] theorem aad (s:MS) (o:KO):Es cf mf own k s ⟨none,o,none⟩=P_ own s o:=rfl
def mpc(m:MS)(d:Nat):Option (List A×List A)->Option MS
 |some ([.val false [.d r]],[])=>if D.plain r then some (m.put d (.d r)) else none
 |_=>none
def mpa(cf:Cf)(m:MS)(d f:Nat):Option (List A)->Option MS
 |some as=>mpc m d (cf f as)
 |none=>none
@[go_sem] theorem af5 (m:MS) (d f:Nat) (xs:List KX):Cp cf m d f xs=mpa cf m d f (uy (xs.map (eU m.s))):=by
 unfold Cp mpa mpc;rfl
@[go_sem] theorem ab3 (m:MS) (d f:Nat) (as:List A):mpa cf m d f (some as)=mpc m d (cf f as):=rfl
@[go_sem] theorem ab4 (m:MS) (d:Nat) (r:D):mpc m d (some ([.val false [.d r]],[]))=if D.plain r then some (m.put d (.d r)) else none:=rfl
def mmh(m:MS)(d i o:Nat):Option (List D×Int)->Option MS
 |some ([x'],q')=>some ((m.set i o [x']).put d (.d (.int .i64 q')))
 |_=>none
def mml(mf:Mf)(m:MS)(d f i o:Nat)(q:Int):Option D->Option MS
 |some (.list k fl es)=>mmh m d i o (mf f false [.list k fl es] q)
 |_=>none
@[go_sem] theorem af4 (m:MS) (d f i o:Nat) (q:Int):Eu mf m d f (.hd i o) (.d (.int .i64 q))=mml mf m d f i o q (m.at_ i o):=by
 unfold Eu mml mmh;rfl
@[go_sem] theorem ab1 (m:MS) (d f i o:Nat) (q:Int) (k:Nat) (fl:Bool) (es:List (List D)):mml mf m d f i o q (some (.list k fl es))=mmh m d i o (mf f false [.list k fl es] q):=rfl
@[go_sem] theorem ab0 (m:MS) (d i o:Nat) (x':D) (q':Int):mmh m d i o (some ([x'],q'))=some ((m.set i o [x']).put d (.d (.int .i64 q'))):=rfl
end
attribute [go_sem] TV Qo Np TT TU Qp Qq
attribute [go_sem] MC.tG MS.OY MS.put MS.vA MS.set MS.tG MS.cG MS.at_ uy z7 P_ vy DK Bx
theorem lU{T:Nat->Option KF}{f r:Nat}{body:K}(hT:T f=some ⟨2,body,[.t r]⟩){k:Nat}{fl:Bool}{es:List (List D)}{q:Int} :
  gK T f false [.list k fl es] q=Bx k fl (vy r (tS T true k body ⟨⟨[(1,.d (.int .i64 q))],[],[]⟩,[(0,.lst)],es⟩)):=by
 rw[Ru T hT];rfl
theorem WB{T:Nat->Option KF}{own:Bool}{k:Nat}{body:K}(st:Nat->MS){n:Nat}{s:MS}(fy:tS T own k body (st n)=some (.exit 0,s))(vg:∀i,i < n->tS T own k body (st i)=some (.norm,st (i+1))) :
  ∀m i,i+m=n->tS T own k (.loop body) (st i)=some (.exit 0,s)
 |0,i,h=>by rw[Hq,show i=n by omega,fy];rfl
 |m+1,i,h=>by
  rw[Hq,vg i (by omega)];exact WB st fy vg m (i+1) (by omega)
theorem uj{T:Nat->Option KF}{own:Bool}{k:Nat}{body:K}(st:Nat->MS)(n:Nat){s:MS}(fy:tS T own k body (st n)=some (.exit 0,s))(vg:∀i,i < n->tS T own k body (st i)=some (.norm,st (i+1))):tS T own k (.loop body) (st 0)=some (.exit 0,s):=
 WB st fy vg n 0 (by omega)
theorem uq{es:List (List D)}{i:Nat}{e:List D}(q:Int)(h:nth es i=some e):nth (lr (es.take i) q++es.drop i) i=some e:=by
 have hl:i < es.length:=by rw[cV]at h;exact (aI.1 h).1
 rw[cV,cr (by rw[dz];simp;omega),dz,aY,dU (by omega),oP,gY es i e h];rfl
theorem uo{es:List (List D)}{i:Nat}(q:Int)(hl:i<=es.length):(lr (es.take i) q++es.drop i).length=es.length:=by
 rw[aO,dz];simp;omega
theorem ur{es:List (List D)}{i:Nat}{e:List D}(q:Int)(h:nth es i=some e)(x:List D):(lr (es.take i) q++es.drop i).set i x=lr (es.take i) q++x::es.drop (i+1):=by
 have hl:i < es.length:=by rw[cV]at h;exact (aI.1 h).1
 rw[List.set_append_right _ _ (by rw[dz];simp;omega),dz,aY,dU (by omega),oP,gY es i e h];rfl
theorem sY{es:List (List D)}{i:Nat}(q:Int)(hl:i < es.length)(x:List D)(t:List (List D)):nth (lr (es.take i) q++x::t) i=some x:=by
 rw[cV,cr (by rw[dz];simp;omega),dz,aY,dU (by omega),oP];rfl
theorem sW{es:List (List D)}{i:Nat}(q:Int)(hl:i < es.length)(x:List D):(lr (es.take i) q++x::es.drop (i+1)).length=es.length:=by
 rw[aO,dz];simp;omega
theorem sZ{es:List (List D)}{i:Nat}(q:Int)(hl:i < es.length)(x y:List D)(t:List (List D)):(lr (es.take i) q++x::t).set i y=lr (es.take i) q++y::t:=by
 rw[List.set_append_right _ _ (by rw[dz];simp;omega),dz,aY,dU (by omega),oP];rfl
theorem um{es:List (List D)}{i:Nat}{e:List D}(q:Int)(h:nth es i=some e):lr (es.take i) q++OW e (q+bz (es.take i))::es.drop (i+1)=lr (es.take (i+1)) q++es.drop (i+1):=by
 rw[cu es i e h,Bi];simp[lr]
theorem MO(b:UInt8):(⟨#[b]⟩:ByteArray).size=1:=rfl
theorem CX:∀(f n:Nat) (out:ByteArray),(yt f n out).size<=out.size+f
 |0,n,out=>by simp[yt]
 |f+1,n,out=>by
  simp only[yt];split
  ·omega
  ·have:=CX f (n / 10) (⟨#[cL (48+n % 10)]⟩++out);rw[gL,MO]at this;omega
theorem Ic(k:Int):(DB k).size<=30:=by
 unfold DB;split
 ·exact (by decide:(2:Nat)<=30)
 ·rw[gL,MO];have:=CX 20 k.toNat ⟨#[]⟩;have h0:(⟨#[]⟩:ByteArray).size=0:=rfl;omega
@[go_sem] theorem abX (q:Int):decide (q % 3=0)=WD q:=rfl
theorem N_(t:Nat):(lay t).length<=32:=by unfold lay;split<;>simp
mutual
theorem Yt{B:Nat}:∀(t:Ty) (d:D),Ok B t d->d.mn<=1+32 * d.sz
 | .int,.int _ _,_=>by simp[D.mn]
 | .bool,.bool _,_=>by simp[D.mn]
 | .str,.str _,_=>by simp[D.mn]
 | .list t,.list k f es,h=>by
  simp only[Ok]at h;have:=xg t es h.2.2.2;simp only[D.mn,D.sz];omega
 | .int,.bool _,h | .int,.str _,h | .int,.list _ _ _,h | .bool,.int _ _,h | .bool,.str _,h | .bool,.list _ _ _,h | .str,.int _ _,h | .str,.bool _,h | .str,.list _ _ _,h | .list _,.int _ _,h | .list _,.bool _,h | .list _,.str _,h=>by simp only[Ok]at h
theorem RD{B:Nat}:∀(ts:List Ty) (ds:List D),eO B ts ds->Bj ds<=ts.length+32 * fc ds
 |[],[],_=>by simp[Bj]
 |t::ts,d::ds,h=>by
  simp only[eO]at h;have h1:=Yt t d h.1;have h2:=RD ts ds h.2;simp only[Bj,fc,aE];omega
 |[],_::_,h|_::_,[],h=>by simp only[eO]at h
theorem xg{B:Nat}(t:Nat):∀(es:List (List D)),eh B t es->bz es<=32 * es.length+32 * n7 es
 |[],_=>by simp[bz]
 |e::es,h=>by
  simp only[eh]at h;have h1:=RD (lay t) e h.1;have h2:=xg t es h.2;have h3:=N_ t;simp only[bz,n7,aE];omega
end
end
section
inductive SK where
 |int (k:IntKind) (n:Int)
 |bool (b:Bool)
 |str (s:ByteArray)
 |nil (k:Nat) (fl:Bool)
 deriving DecidableEq
def SK.d:SK->D
 | .int k n=>.int k n
 | .bool b=>.bool b
 | .str s=>.str s
 | .nil k fl=>.list k fl []
inductive SE where
 |v (i:Nat)
 |k (x:SK)
 |c (i j:Nat)
 deriving DecidableEq
def Xn:D->Option (List D)
 | .list _ _ [cs]=>some cs
 |_=>none
def SE.d(ρ:List D):SE->Option D
 | .v i=>nth ρ i
 | .k x=>some x.d
 | .c i j=>match nth ρ i with
  |some x=>match Xn x with
   |some cs=>nth cs j
   |none=>none
  |none=>none
abbrev Gs:=List (SE×Bool)
def gQ(ρ:List D):Gs->Option Bool
 |[]=>some true
 |(g,w)::gs=>match g.d ρ with
  |some (.bool b)=>if b=w then gQ ρ gs else some false
  |_=>none
inductive SB where
 |d (e:SE)
 |nil (k:Nat) (fl:Bool)
 |ref (r:Nat)
 |any
 deriving DecidableEq
inductive SC where
 |b (x:SB)
 |agg (xs:List SB)
 |oK (xs:List (SB ⊕ List SB))
 |ptr (b o:Nat)
 |na (r k:Nat) (i:SE) (o:Nat)
 |qN (i o:Nat)
 |any
 deriving DecidableEq
structure SG where
 gs:Gs
 c:SC
 deriving DecidableEq
structure SR where
 e:SE
 k:Nat
 fl:Bool
 deep:Bool
 app:Bool
 fz:Bool
 deriving DecidableEq
structure SS where
 sl:List (Nat×SG)
 bx:List (Nat×List SB)
 rw:List (Nat×SR)
 deriving DecidableEq
section
variable (ρ:List D)
def iV:SB->C->Prop
 | .d e,c=>∃x,e.d ρ=some x/\c=.d x
 | .nil k fl,c=>c=.nil k fl
 | .ref r,c=>c=.ref r
 | .any,_=>True
def dw:List SB->List C->Prop
 |[],cs=>cs=[]
 |x::xs,cs=>∃c iA,cs=c::iA/\iV ρ x c/\dw xs iA
def rB:List (SB ⊕ List SB)->List C->Prop
 |[],cs=>cs=[]
 | .inl x::xs,cs=>∃c iA,cs=c::iA/\iV ρ x c/\rB xs iA
 | .inr l::xs,cs=>∃ds iA,cs=.agg ds::iA/\dw ρ l ds/\rB xs iA
def jQ:SC->C->Prop
 | .b x,c=>iV ρ x c
 | .agg xs,c=>∃cs,c=.agg cs/\dw ρ xs cs
 | .oK xs,c=>∃cs,c=.oK cs/\rB ρ xs cs
 | .ptr b o,c=>c=.ptr b o
 | .na r k i o,c=>∃n,i.d ρ=some (.int .i64 n)/\c=.na r k n.toNat o
 | .qN i o,c=>∃x cs,nth ρ i=some x/\Xn x=some cs/\c=.qN (cs.drop o)
 | .any,_=>True
def pU(g:SG)(c:C):Prop:=∃b,gQ ρ g.gs=some b/\(b=true->jQ ρ g.c c)/\(b=false->c=.rf)
def Tl(x:SR)(y:Row):Prop:=∃es,x.e.d ρ=some (.list x.k x.fl es)/\y=⟨es,x.k,x.fl,x.deep,x.app,x.fz⟩
structure Rel (S:SS) (s:St):Prop where
 sl:∀d g,look S.sl d=some g->pU ρ g (s.get d)
 bx:∀b xs,look S.bx b=some xs->∃cs,look s.bx b=some cs/\dw ρ xs cs
 rw:∀r x,look S.rw r=some x->∃y,look s.rw r=some y/\Tl ρ x y
end
theorem zi{α:Type}:∀{l m:List α} {i:Nat} {x:α},nth l i=some x->nth (l++m) i=some x
 |_::_,_,0,_,h=>by simpa [nth] using h
 |_::l,m,i+1,x,h=>by simp only[ai,nth]at h ⊢;exact zi h
 |[],_,_,_,h=>by simp[nth]at h
theorem iD{α:Type}:∀(l:List α) (x:α) (m:List α),nth (l++x::m) l.length=some x
 |[],_,_=>rfl
 |_::l,x,m=>iD l x m
section
variable {ρ:List D} (τ:List D)
theorem SE.mono{e:SE}{x:D}(h:e.d ρ=some x):e.d (ρ++τ)=some x:=by
 cases e with
 |v i=>exact zi h
 |k y=>exact h
 |c i j=>
  simp only[SE.d]at h ⊢
  split at h
  ·rename_i y hy;rw[zi hy];exact h
  ·cases h
theorem jI:∀{gs:Gs} {b:Bool},gQ ρ gs=some b->gQ (ρ++τ) gs=some b
 |[],_,h=>h
 |(g,w)::gs,b,h=>by
  simp only[gQ]at h ⊢
  split at h
  ·rename_i t ht;rw[SE.mono τ ht];simp only
   split at h
   ·rename_i hw;rw[if_pos hw];exact jI h
   ·rename_i hw;rw[if_neg hw];exact h
  ·cases h
theorem iV.mono:∀{x:SB} {c:C},iV ρ x c->iV (ρ++τ) x c
 | .d e,_,⟨x,h1,h2⟩=>⟨x,SE.mono τ h1,h2⟩
 | .nil _ _,_,h=>h
 | .ref _,_,h=>h
 | .any,_,_=>trivial
theorem dw.mono:∀{xs:List SB} {cs:List C},dw ρ xs cs->dw (ρ++τ) xs cs
 |[],_,h=>h
 |_::_,_,⟨c,iA,h1,h2,h3⟩=>⟨c,iA,h1,iV.mono τ h2,dw.mono h3⟩
theorem rB.mono:∀{xs:List (SB ⊕ List SB)} {cs:List C},rB ρ xs cs->rB (ρ++τ) xs cs
 |[],_,h=>h
 | .inl _::_,_,⟨c,iA,h1,h2,h3⟩=>⟨c,iA,h1,iV.mono τ h2,rB.mono h3⟩
 | .inr _::_,_,⟨c,iA,h1,h2,h3⟩=>⟨c,iA,h1,dw.mono τ h2,rB.mono h3⟩
theorem jQ.mono:∀{x:SC} {c:C},jQ ρ x c->jQ (ρ++τ) x c
 | .b _,_,h=>iV.mono τ h
 | .agg _,_,⟨cs,h1,h2⟩=>⟨cs,h1,dw.mono τ h2⟩
 | .oK _,_,⟨cs,h1,h2⟩=>⟨cs,h1,rB.mono τ h2⟩
 | .ptr _ _,_,h=>h
 | .na _ _ _ _,_,⟨n,h1,h2⟩=>⟨n,SE.mono τ h1,h2⟩
 | .qN _ _,_,⟨x,cs,h1,h2,h3⟩=>⟨x,cs,zi h1,h2,h3⟩
 | .any,_,_=>trivial
theorem pU.mono{g:SG}{c:C}:pU ρ g c->pU (ρ++τ) g c
 |⟨b,h1,h2,h3⟩=>⟨b,jI τ h1,λh=>(h2 h).mono τ,h3⟩
theorem Tl.mono{x:SR}{y:Row}:Tl ρ x y->Tl (ρ++τ) x y
 |⟨es,h1,h2⟩=>⟨es,SE.mono τ h1,h2⟩
theorem Rel.mono{S:SS}{s:St}(h:Rel ρ S s):Rel (ρ++τ) S s:=
 ⟨λd g hl=>(h.sl d g hl).mono τ,λb xs hl=>(h.bx b xs hl).imp λ_ hc=>⟨hc.1,hc.2.mono τ⟩,λr x hl=>(h.rw r x hl).imp λ_ hy=>⟨hy.1,hy.2.mono τ⟩⟩
end
def SB.kill(i:Nat):SB->SB
 | .ref r=>if r=i then .any else .ref r
 |x=>x
def SC.kill(i:Nat):SC->SC
 | .b x=>.b (x.kill i)
 | .agg xs=>.agg (xs.map (SB.kill i))
 | .oK xs=>.oK (xs.map λ| .inl x=>.inl (x.kill i) | .inr l=>.inr (l.map (SB.kill i)))
 | .ptr q o=>if q=i then .any else .ptr q o
 | .na r k a o=>if r=i then .any else .na r k a o
 |x=>x
def SS.kill(S:SS)(i:Nat):SS:=⟨S.sl.map λp=>(p.1,⟨p.2.gs,p.2.c.kill i⟩),S.bx.map λp=>(p.1,p.2.map (SB.kill i)),S.rw⟩
def SS.put(S:SS)(dst:Option Nat)(g:SG):SS:=
 match dst with
 |some d=>{S with sl:=(d,g)::S.sl }
 |none=>S
def SS.eN(S:SS)(b:Nat)(xs:List SB):SS:={S with bx:=(b,xs)::po S.bx b }
def SS.setRow(S:SS)(r:Nat)(x:SR):SS:={S with rw:=(r,x)::po S.rw r }
def SS.cM(S:SS)(r:Nat):SS:={S with rw:=po S.rw r }
def SS.jK(S:SS)(b:Nat)(xs:List SB):SS:=(S.kill b).eN b xs
def SS.newRow(S:SS)(r:Nat)(x:SR):SS:=(S.kill r).setRow r x
def SS.cG(S:SS)(kp:j7):SS:=⟨gl S.sl kp.s,gl S.bx kp.b,gl S.rw kp.r⟩
section
variable {ρ:List D}
theorem iV.kill(i:Nat):∀{x:SB} {c:C},iV ρ x c->iV ρ (x.kill i) (c.kill i)
 | .d e,_,⟨x,h1,h2⟩=>by subst h2;exact⟨x,h1,rfl⟩
 | .nil _ _,_,h=>by simp only[iV]at h;subst h;rfl
 | .ref r,_,h=>by
  simp only[iV]at h;subst h;simp only[SB.kill,C.kill];split
  ·trivial
  ·rfl
 | .any,_,_=>trivial
theorem dw.kill(i:Nat):∀{xs:List SB} {cs:List C},dw ρ xs cs->dw ρ (xs.map (SB.kill i)) (C.jd i cs)
 |[],_,h=>by simp only[dw]at h;subst h;rfl
 |_::_,_,⟨c,iA,h1,h2,h3⟩=>by subst h1;exact⟨_,_,rfl,h2.kill i,dw.kill i h3⟩
theorem rB.kill(i:Nat):∀{xs:List (SB ⊕ List SB)} {cs:List C},rB ρ xs cs->rB ρ (xs.map λ| .inl x=>.inl (x.kill i) | .inr l=>.inr (l.map (SB.kill i))) (C.jd i cs)
 |[],_,h=>by simp only[rB]at h;subst h;rfl
 | .inl _::_,_,⟨c,iA,h1,h2,h3⟩=>by subst h1;exact⟨_,_,rfl,h2.kill i,rB.kill i h3⟩
 | .inr _::_,_,⟨ds,iA,h1,h2,h3⟩=>by subst h1;exact⟨_,_,rfl,h2.kill i,rB.kill i h3⟩
theorem jQ.kill(i:Nat):∀{x:SC} {c:C},jQ ρ x c->jQ ρ (x.kill i) (c.kill i)
 | .b _,_,h=>iV.kill i h
 | .agg _,_,⟨cs,h1,h2⟩=>by subst h1;exact⟨_,rfl,h2.kill i⟩
 | .oK _,_,⟨cs,h1,h2⟩=>by subst h1;exact⟨_,rfl,h2.kill i⟩
 | .ptr b o,_,h=>by
  simp only[jQ]at h;subst h;simp only[SC.kill,C.kill];split
  ·trivial
  ·rfl
 | .na r k a o,_,⟨n,h1,h2⟩=>by
  subst h2;simp only[SC.kill,C.kill];split
  ·trivial
  ·exact⟨n,h1,rfl⟩
 | .qN _ _,_,⟨x,cs,h1,h2,h3⟩=>by subst h3;exact⟨x,cs,h1,h2,rfl⟩
 | .any,_,_=>trivial
theorem nC{α β:Type}(f:α->β)(l:List (Nat×α))(d:Nat):look (l.map λp=>(p.1,f p.2)) d=(look l d).map f:=by
 induction l with
 |nil=>rfl
 |cons p l ih=>
  obtain⟨k,x⟩:=p;simp only[aN,look,ih]
  split<;>rfl
theorem QA(s:St)(i d:Nat):(s.kill i).get d=(s.get d).kill i:=by
 simp only[St.get,St.kill,ui];cases look s.sl d<;>rfl
variable {S:SS} {s:St}
theorem Rel.kill(h:Rel ρ S s)(i:Nat):Rel ρ (S.kill i) (s.kill i) where
 sl d g hl:=by
  simp only[SS.kill]at hl;rw[nC (λg:SG=>(⟨g.gs,g.c.kill i⟩:SG)),ad]at hl;obtain⟨g',h1,rfl⟩:=hl;obtain⟨b,h2,h3,h4⟩:=h.sl d g' h1;rw[QA];exact⟨b,h2,λhb=>(h3 hb).kill i,λhb=>by rw[h4 hb];rfl⟩
 bx b xs hl:=by
  simp only[SS.kill]at hl;rw[nC (λxs:List SB=>xs.map (SB.kill i)),ad]at hl;obtain⟨Gq,h1,rfl⟩:=hl;obtain⟨cs,h2,h3⟩:=h.bx b Gq h1;exact⟨_,by simp only[St.kill,uh,h2];rfl,h3.kill i⟩
 rw r x hl:=h.rw r x hl
theorem T3(s:St)(d e:Nat)(c:C):(s.put (some d) c).get e=if d=e then c else s.get e:=by
 simp only[St.get,St.put,look]
 split<;>rfl
theorem Rel.put(h:Rel ρ S s)(dst:Option Nat){g:SG}{c:C}(hc:pU ρ g c):Rel ρ (S.put dst g) (s.put dst c):=by
 cases dst with
 |none=>exact h
 |some d=>exact {
   sl:=λe g' hl=>by
    simp only[SS.put,look]at hl;rw[T3]
    split at hl
    ·rename_i he;cases hl;rw[if_pos he];exact hc
    ·rename_i he;rw[if_neg he];exact h.sl e g' hl
   bx:=h.bx
   rw:=h.rw }
theorem pU.nil{c:SC}{x:C}(h:jQ ρ c x):pU ρ ⟨[],c⟩ x:=⟨true,rfl,λ_=>h,λh=>by cases h⟩
theorem Rel.eN(h:Rel ρ S s)(b:Nat){xs:List SB}{cs:List C}(hc:dw ρ xs cs):Rel ρ (S.eN b xs) (s.eN b cs) where
 sl d g hl:=h.sl d g hl
 bx e ys hl:=by
  simp only[SS.eN,look,St.eN,dM]at hl ⊢
  split at hl
  ·rename_i he;cases hl;exact⟨cs,by rw[if_pos he],hc⟩
  ·rename_i he;rw[if_neg he,if_neg he];exact h.bx e ys hl
 rw r x hl:=h.rw r x hl
theorem Rel.setRow(h:Rel ρ S s)(r:Nat){x:SR}{y:Row}(hy:Tl ρ x y):Rel ρ (S.setRow r x) (s.setRow r y) where
 sl d g hl:=h.sl d g hl
 bx e ys hl:=h.bx e ys hl
 rw q z hl:=by
  simp only[SS.setRow,look,St.setRow,dM]at hl ⊢
  split at hl
  ·rename_i he;cases hl;exact⟨y,by rw[if_pos he],hy⟩
  ·rename_i he;rw[if_neg he,if_neg he];exact h.rw q z hl
theorem Rel.cM(h:Rel ρ S s)(r:Nat):Rel ρ (S.cM r) (s.cM r) where
 sl d g hl:=h.sl d g hl
 bx e ys hl:=h.bx e ys hl
 rw q z hl:=by
  simp only[SS.cM,St.cM,dM]at hl ⊢
  split at hl
  ·cases hl
  ·rename_i he;rw[if_neg he];exact h.rw q z hl
theorem Rel.jK(h:Rel ρ S s)(b:Nat){xs:List SB}{cs:List C}(hc:dw ρ xs cs):Rel ρ (S.jK b xs) (s.jK b cs):=(h.kill b).eN b hc
theorem Rel.newRow(h:Rel ρ S s)(r:Nat){x:SR}{y:Row}(hy:Tl ρ x y):Rel ρ (S.newRow r x) (s.newRow r y):=(h.kill r).setRow r hy
theorem gr{α:Type}(l:List (Nat×α)):∀(ds:List Nat) {e:Nat} {x:α},look (gl l ds) e=some x->look l e=some x/\e∈ds
 |[],_,_,h=>by simp[gl,look]at h
 |d::ds,e,x,h=>by
  unfold gl at h;cases hd:look l d with
  |none=>rw[hd]at h;have:=gr l ds h;exact⟨this.1,cp _ this.2⟩
  |some y=>
   rw[hd]at h;simp only[look]at h
   split at h
   ·rename_i he;subst he;cases h;exact⟨hd,dQ⟩
   ·have:=gr l ds h;exact⟨this.1,cp _ this.2⟩
theorem pJ{α:Type}(l:List (Nat×α)):∀(ds:List Nat) {e:Nat} {x:α},look l e=some x->e∈ds->look (gl l ds) e=some x
 |[],_,_,_,h=>by cases h
 |d::ds,e,x,h,hm=>by
  unfold gl;by_cases hd:d=e
  ·subst hd;rw[h];simp[look]
  ·have hm':e∈ds:=by
    rcases ay.1 hm with h1|h1
    ·exact absurd h1.symm hd
    ·exact h1
   cases look l d with
   |none=>exact pJ l ds h hm'
   |some y=>simp only[look,if_neg hd];exact pJ l ds h hm'
theorem Ay(s:St)(kp:j7){d:Nat}(h:d∈kp.s):(s.cG kp).get d=s.get d:=by
 simp only[St.get,St.cG];cases hl:look s.sl d with
 |some x=>rw[pJ _ _ hl h]
 |none=>
  cases hk:look (gl s.sl kp.s) d with
  |none=>rfl
  |some x=>rw[(gr _ _ hk).1]at hl;cases hl
theorem Rel.cG(h:Rel ρ S s)(kp:j7):Rel ρ (S.cG kp) (s.cG kp) where
 sl d g hl:=by
  obtain⟨h1,h2⟩:=gr _ _ hl;rw[Ay s kp h2];exact h.sl d g h1
 bx b xs hl:=by
  obtain⟨h1,h2⟩:=gr _ _ hl;obtain⟨cs,h3,h4⟩:=h.bx b xs h1;exact⟨cs,pJ _ _ h3 h2,h4⟩
 rw r x hl:=by
  obtain⟨h1,h2⟩:=gr _ _ hl;obtain⟨y,h3,h4⟩:=h.rw r x h1;exact⟨y,pJ _ _ h3 h2,h4⟩
end
end
section
inductive PO where
 |eK (o:Nat)
 |has (n:Nat)
 |bin (op:BinOp)
 |uS (op:BinOp)
 |not
 |neg
 |conv (k:IntKind)
 |len
 |kQ
 |min
 |max
 |kW
 |el (k:Nat)
 |lF
 |nN (k o n:Nat) (deep:Bool)
 |ite
 |Ji (hi:Bool)
 |yi (k:Nat) (hi:Bool)
 |yq
 |eg (k:Nat) (fl:Bool)
 |make (k by_:Nat) (fl:Bool) (zs:List SK)
 |app (k by_:Nat)
 |set (o:Nat)
 |cut (hi:Bool)
 |xP
 |Q8
 |Q7
 |lst (k:Nat) (fl:Bool)
 |tru
 |pl
 |yb
 deriving DecidableEq
def dI:D->Option Nat
 | .int .i64 n=>if 0<=n then some n.toNat else none
 |_=>none
def chunk(k:Nat):Nat->List D->Option (List (List D))
 |0,[]=>some []
 |0,_=>none
 |m+1,xs=>if k<=xs.length then (chunk k m (xs.drop k)).map (xs.take k::·) else none
def asD:Option C->Option D
 |some (.d x)=>some x
 |_=>none
def aK:PO->List D->Option D
 | .eK o,[x]=>match Xn x with
  |some cs=>nth cs o
  |none=>none
 | .has n,[x]=>match Xn x with
  |some cs=>if n<=cs.length then some (.bool false) else none
  |none=>none
 | .bin op,[x,y]=>asD (M9 op (.d x) (.d y))
 | .uS op,[.bool a,.bool b]=>Pn op a b
 | .not,[.bool b]=>some (.bool (!b))
 | .neg,[.int k a]=>some (.int k (k.wrap (-a)))
 | .conv k,[.int _ a]=>some (.int k (k.wrap a))
 | .len,[.list _ _ es]=>some (.int .i64 es.length)
 | .kQ,[.str t]=>some (.int .i64 t.size)
 | .min,[.int .i64 a,.int .i64 b]=>some (.int .i64 (if b < a then b else a))
 | .max,[.int .i64 a,.int .i64 b]=>some (.int .i64 (if a < b then b else a))
 | .kW,[.str t,.int .i64 n]=>if 0<=n/\n.toNat < t.size then some (.int .u8 (da t n.toNat)) else none
 | .el k,[.list k' _ es,.int .i64 n]=>if 0<=n/\k'=k then (nth es n.toNat).map λe=>.list 0 false [e] else none
 | .lF,[.list _ _ es,.int .i64 n]=>if 0<=n/\n.toNat < es.length then some (.bool false) else none
 | .nN k o n deep,[.list k' _ es,.int .i64 i]=>match nth es i.toNat with
  |some e=>if k'=k/\o+n<=k/\o+n<=e.length/\(cQ ((e.drop o).take n) ||!deep)=true then some (.list 0 false [e]) else none
  |none=>none
 | .ite,[.bool b,x,y]=>some (if b then x else y)
 | .Ji false,[.str t,lo]=>match dI lo with
  |some a=>if a<=t.size then some (.str (t.extract a t.size)) else none
  |none=>none
 | .Ji true,[.str t,lo,hi]=>match dI lo,dI hi with
  |some a,some b=>if a<=b/\b<=t.size then some (.str (t.extract a b)) else none
  |_,_=>none
 | .yi k false,[.list k' fl es,lo]=>match dI lo with
  |some a=>if k'=k/\a<=es.length then some (.list k' fl (es.drop a)) else none
  |none=>none
 | .yi k true,[.list k' fl es,lo,hi]=>match dI lo,dI hi with
  |some a,some b=>if k'=k/\a<=b/\b<=es.length then some (.list k' fl ((es.take b).drop a)) else none
  |_,_=>none
 | .yq,[.list 1 _ es]=>(bytesOf es).map λxs=>.str ⟨(xs.map λn=>cL n.toNat).toArray⟩
 | .eg k fl,xs=>if xs.length % k=0 then match chunk k (xs.length / k) xs with
   |some es=>if fl=true->es.all cQ=true then some (.list k fl es) else none
   |none=>none
  else none
 | .make k by_ fl zs,[.int .i64 n]=>if 0<=n/\n.toNat * by_<=room/\n<=4611686018427387904 then some (.list k fl (aC n.toNat (zs.map SK.d))) else none
 | .app k by_,[.list k1 f1 es,.list k2 f2 iY]=>if k1=k/\k2=k/\f1=f2/\(es.length+iY.length) * by_<=room/\es.length+iY.length<=maxLen then some (.list k f1 (es++iY)) else none
 | .set o,.list k fl es::.int .i64 i::ds=>match nth es i.toNat with
  |some e=>if o+ds.length<=k/\(fl=true->cQ ds=true) then some (.list k fl (es.set i.toNat (fP e o ds))) else none
  |none=>none
 | .cut false,[.list k fl es,lo]=>match dI lo with
  |some a=>if a<=es.length then some (.list k fl (es.drop a)) else none
  |none=>none
 | .cut true,[.list k fl es,lo,hi]=>match dI lo,dI hi with
  |some a,some b=>if a<=b/\b<=es.length then some (.list k fl ((es.take b).drop a)) else none
  |_,_=>none
 | .xP,[.list k fl es,.list k' sO iY]=>if k'=k/\sO=true/\fl=true/\iY.length=es.length then some (.list k fl iY) else none
 | .Q8,[.list k fl es,.list k' _ iY]=>if k=1/\k'=1/\fl=true/\iY.length=es.length/\iY≠[] then (match jq es,jq iY with
   |some bs,some cs=>some (.list 1 true ((cF bs cs).map λb=>[D.bool b]))
   |_,_=>none) else none
 | .Q7,[.list _ _ es,.list _ _ iY]=>match jq es,jq iY with
   |some bs,some cs=>some (.bool (lg bs cs))
   |_,_=>none
 | .lst k fl,[.list k' sO es]=>if k'=k/\sO=fl then some (.list k fl es) else none
 | .tru,[.bool b]=>some (.bool b)
 | .pl,xs=>if cQ xs=true then some (.bool false) else none
 | .yb,xs=>if cQ xs=true then none else some (.bool false)
 |_,_=>none
def gU(ρ:List D):List SE->Option (List D)
 |[]=>some []
 |e::es=>match e.d ρ with
  |some x=>(gU ρ es).map (x::·)
  |none=>none
abbrev Bs:=List (PO×List SE)
def jm(ρ:List D):Bs->Option (List D)
 |[]=>some ρ
 |(o,es)::bs=>match gU ρ es with
  |some xs=>match aK o xs with
   |some x=>jm (ρ++[x]) bs
   |none=>none
  |none=>none
def eQ(S:SS)(gs:Gs):KX->Option SC
 | .s d=>match look S.sl d with
  |some g=>if g.gs.all (λp=>decide (p∈gs)) then some g.c else none
  |none=>none
 | .k (.d (.int k n))=>some (.b (.d (.k (.int k n))))
 | .k (.d (.bool b))=>some (.b (.d (.k (.bool b))))
 | .k (.d (.str t))=>some (.b (.d (.k (.str t))))
 | .k (.nil k fl)=>some (.b (.nil k fl))
 |_=>none
def sD:Option SC->Option SE
 |some (.b (.d e))=>some e
 |_=>none
section
variable {ρ:List D} {S:SS} {s:St} {gs:Gs}
theorem lP:∀{gs:Gs},gQ ρ gs=some true->∀p∈gs,p.1.d ρ=some (.bool p.2)
 |[],_,_,hp=>by cases hp
 |(g,w)::gs,h,p,hp=>by
  simp only[gQ]at h
  split at h
  ·rename_i b hb
   split at h
   ·rename_i hw;subst hw;rcases ay.1 hp with rfl|hp
    ·exact hb
    ·exact lP h p hp
   ·cases h
  ·cases h
theorem Dc:∀{gs:Gs},(∀p∈gs,p.1.d ρ=some (.bool p.2))->gQ ρ gs=some true
 |[],_=>rfl
 |(g,w)::gs,h=>by
  have h1:=h (g,w) (by simp);simp only at h1
  simp only[gQ,h1,if_true];exact Dc λp hp=>h p (by simp[hp])
theorem JQ{gs gs':Gs}(h:gQ ρ gs=some true)(hs:gs'.all (λp=>decide (p∈gs))=true):gQ ρ gs'=some true:=
 Dc λp hp=>lP h p (by simpa using aS.1 hs p hp)
theorem ch(h:Rel ρ S s)(hg:gQ ρ gs=some true){x:KX}{c:SC}(hx:eQ S gs x=some c):jQ ρ c (eU s x):=by
 unfold eQ at hx
 split at hx
 ·rename_i d
  split at hx
  ·rename_i g hl
   split at hx
   ·rename_i hs;cases hx;obtain⟨b,h1,h2,_⟩:=h.sl d g hl;rw[JQ hg hs]at h1;cases h1;exact h2 rfl
   ·cases hx
  ·cases hx
 ·cases hx;exact⟨_,rfl,rfl⟩
 ·cases hx;exact⟨_,rfl,rfl⟩
 ·cases hx;exact⟨_,rfl,rfl⟩
 ·cases hx;rfl
 ·cases hx
theorem j9(h:Rel ρ S s)(hg:gQ ρ gs=some true){x:KX}{e:SE}(hx:sD (eQ S gs x)=some e):∃y,e.d ρ=some y/\eU s x=.d y:=by
 unfold sD at hx
 split at hx
 ·rename_i e' he;cases hx;exact ch h hg he
 ·cases hx
theorem ef{e:SE}{xs:List D}(h:gU ρ [e]=some xs):∃x,e.d ρ=some x/\xs=[x]:=by
 simp only[gU]at h
 split at h
 ·rename_i x hx;simp only[aB,aa]at h;exact⟨x,hx,h.symm⟩
 ·cases h
theorem cS{e:SE}{es:List SE}{xs:List D}(h:gU ρ (e::es)=some xs):∃x ys,e.d ρ=some x/\gU ρ es=some ys/\xs=x::ys:=by
 simp only[gU]at h
 split at h
 ·rename_i x hx;simp only[ad]at h;obtain⟨ys,h1,h2⟩:=h;exact⟨x,ys,hx,h1,h2.symm⟩
 ·cases h
theorem dH{o:PO}{es:List SE}{gy:List D}(h:jm ρ [(o,es)]=some gy):∃xs x,gU ρ es=some xs/\aK o xs=some x/\gy=ρ++[x]:=by
 simp only[jm]at h
 split at h
 ·rename_i xs HO
  split at h
  ·rename_i x hx;cases h;exact⟨xs,x,HO,hx,rfl⟩
  ·cases h
 ·cases h
theorem nV:∀{bs:Bs} {ρ gy:List D},jm ρ bs=some gy->∃τ,gy=ρ++τ
 |[],ρ,gy,h=>by cases h;exact⟨[],by simp⟩
 |(o,es)::bs,ρ,gy,h=>by
  simp only[jm]at h
  split at h
  ·split at h
   ·rename_i x hx;obtain⟨τ,h1⟩:=nV h;exact⟨x::τ,by rw[h1];simp⟩
   ·cases h
  ·cases h
end
end
end Go.Proofs.YtcdjbelccndadaaGreatDoor
