/- Part of the proof: a machine over plain data, its proof, the functions of the program run on symbols, what they answer. Condition: none. -/
import Derived.Attr
import Derived.Test.YtcdjbelccndadaaGreatDoorZy01
set_option linter.unusedVariables false
set_option linter.unusedSimpArgs false
open Array renaming getElem?_modify->mF,toList_map->mT,replicate->nW,getElem?_eq_some_iff->pd,getElem?_eq_none->sH
open Bool renaming and_eq_true->ab,false_eq_true->av,not_eq_true'->cq,true_and->cB,or_eq_true->dD,false_and->er,and_true->fo,false_or->iM,or_false->iN,and_false->iW,or_true->jr,not_false->kb,not_true->nb,true_or->sI
open ByteArray renaming size_append->gJ
open Go renaming sizeOf->kA
open Int renaming toNat_natCast->cE
open List renaming cons_append->ai,nil_append->ao,length_map->au,mem_cons->ay,length_cons->az,replicate->aE,append_nil->aG,getElem?_eq_some_iff->aI,length_nil->aK,length_append->aL,mem_append->aM,map_cons->aQ,all_eq_true->aS,drop_zero->aV,sizeOf_lt_of_mem->aW,length_take->a_,take_zero->ba,take_append_drop->bc,append_assoc->bh,nodup_append->bj,mem_of_mem_take->bN,mem_map->bQ,all_cons->bT,eq_nil_of_length_eq_zero->bU,nodup_cons->cd,getElem?_append_left->cl,length_eq_zero_iff->cm,getElem?_append_right->cr,mem_singleton->ct,take_succ_cons->cx,mem_cons_of_mem->cz,length_eq_one_iff->cJ,mem_of_getElem?->cK,mem_map_of_mem->cR,map_append->dd,flatten_cons->dh,getElem?_take->dt,map_nil->dB,mem_flatten->dX,ext_getElem?->ed,mem_cons_self->eu,replicate_succ->fu,drop_succ_cons->gr,length_drop->gL,getElem?_drop->gV,mem_of_mem_drop->iB,getElem?_eq_none->jN,mem_or_eq_of_mem_set->kB,filter_filter->lD,length_singleton->mG,map_take->nc,take_one->nf,head?_drop->nX,drop_drop->pe,size_toArray->pV
open List.cons renaming injEq->bw
open Nat renaming le_refl->aj,le_trans->aA,zero_add->bm,lt_of_lt_of_le->bp,lt_or_ge->cY,add_assoc->du,min_eq_left->dT,mul_le_mul_right->ew,add_zero->eD,blt->fk,succ_mul->iG,beq->jA,blt_eq->lE,eq_of_beq_eq_true->mU,ble->nz,sub_self->oM,zero_mul->oN,zero_le->qH
open Ne renaming symm->kD
open Option renaming map_eq_some_iff->ad,map_some->aD,isSome_iff_exists->bF,bind_some->cO,isSome_some->gP,getD_some->mH,toList->mV,isNone_iff_eq_none->po
open Option.some renaming injEq->aa,inj->eM
open Prod renaming fst->bG
open Prod.mk renaming injEq->ak
open SizeOf renaming sizeOf->ah
open UInt8 renaming ofNat->cL
namespace Go.Proofs.YtcdjbelccndadaaGreatDoor
section
open Go.RowKit
theorem kt:∀(rs:List Nat) (s:St) (q:Nat),look (ey s rs).rw q=if q∈rs then none else look s.rw q
 |[],s,q=>by simp[ey]
 |r::rs,s,q=>by
  simp only[ey,kt rs,St.cM,dN,ay];by_cases h:q∈rs
  ·simp[h]
  ·by_cases h2:r=q
   ·simp[h2]
   ·simp[h,h2,kD h2]
theorem ml:∀(rs:List Nat) (s:St),(ey s rs).sl=s.sl/\(ey s rs).bx=s.bx
 |[],s=>⟨rfl,rfl⟩
 |r::rs,s=>by simp only[ey];exact ml rs (s.cM r)
theorem nR:∀(rs:List Nat) (s:St) (q:Nat),look (ei s rs).bx q=if q∈rs then none else look s.bx q
 |[],s,q=>by simp[ei]
 |r::rs,s,q=>by
  simp only[ei,nR rs,dN,ay];by_cases h:q∈rs
  ·simp[h]
  ·by_cases h2:r=q
   ·simp[h2]
   ·simp[h,h2,kD h2]
theorem nj:∀(rs:List Nat) (s:St),(ei s rs).sl=s.sl/\(ei s rs).rw=s.rw
 |[],s=>⟨rfl,rfl⟩
 |r::rs,s=>by simp only[ei];exact nj rs _
theorem sJ.weaken{γ γ':Gh}{M M':Own->Prop}{w w':World}(h:sJ γ M w w')(hM:∀g,M (γ.ω g)->M' (γ'.ω g))(hh:∀g,γ'.h g<=γ.h g):sJ γ' M' w w':=
 ⟨h.os,h.tape,h.output,h.size,λg hg hn=>h.block g hg (λhm=>hn (hM g hm)),λg j hj=>h.cell g j (bp hj (hh g)),h.eX⟩
theorem jT{P:Program}{F:FuncId}{fn:Func}(hf:P.funcs[F]?=some fn)(hb:fn.body.isSome=true)(hn:(fn.name == "runtime.NumGoroutine")=false)(args:Array Value)(w:World):(callFunc F args).run P w=.ok (.enter F args) w:=by
 have X_:¬fn.name = "runtime.NumGoroutine":=by simpa using hn
 have kT:¬fn.body=none:=by cases h:fn.body<;>simp_all
 simp[callFunc,hf,X_,kT]
theorem tP{s:St}:∀(cs:List C) {as:List A},vK s cs=some as->∀b∈ch cs,∃OW,look s.bx b=some OW
 |[],_,_,b,hb=>by simp[ch]at hb
 |c::cs,as,h,b,hb=>by
  simp only[vK]at h
  split at h
  ·rename_i a ha;simp only[ad]at h;obtain⟨K8,h,_⟩:=h;by_cases hp:∃b',c=.ptr b' 0
   ·obtain⟨b',rfl⟩:=hp;simp only[ch,ay]at hb;rcases hb with rfl|hb
    ·simp only[OL]at ha
     split at ha
     ·rename_i OW XX;exact⟨OW,XX⟩
     ·cases ha
    ·exact tP cs h b hb
   ·have Wq:ch (c::cs)=ch cs:=by
     unfold OL at ha
     split at ha
     ·rename_i b';exact absurd ⟨b',rfl⟩ hp
     ·simp only[ad]at ha;obtain⟨rs,qW,_⟩:=ha;have qL:=zg qW;cases c<;>simp_all[ch,C.cells,C.cell]
    rw[Wq]at hb;exact tP cs h b hb
  ·cases h
section
variable {P:Program} {γ:Gh} {h0:Nat->Nat} {io:List Nat} {w0:World} {s s':St} {f:Fm} {w:World} {N:Nat} {ty:TypeId} {pos:String} {aft:Array Edge} {gd:Option (Nat×Bool)} {K:Fm->World->Prop}
 {cf:Nat->List A->Option (List A×List A)} {mf:Nat->Bool->List D->Int->Option (List D×Int)}
theorem YJ(hi:Inv γ h0 io w0 s f w){F0:FuncId}{fn:Func}(Et:P.funcs[F0]?=some fn)(TL:fn.body.isSome=true)(Q4:(fn.name == "runtime.NumGoroutine")=false){as:Array Operand}{xs:List KX}{ts:Array TypeId}{gn:Nat}(hx:yx N as.toList xs=true)
  (kN:∀a r o,cf gn a=some (r,o)->tL w0 io P F0 a r o) {dst:Option Nat} (he:kc cf mf s dst (.call gn xs)=some s') (h:∀γ' f' w',Inv γ' h0 io w0 s' f' w'->Tr dst (dW s dst (.call gn xs)) γ w γ' w' f f'->K f' w') :
  rf P N ⟨dst,.call {callee:=.value (.func F0),args:=as,argTypes:=ts },ty,pos,aft,gd⟩ f w K:=by
 simp only[kc,tT]at he
 split at he
 ·cases he
 ·rename_i cas QV
  split at he
  ·rename_i jm;simp only[ab]at jm;obtain⟨⟨abA,Hz⟩,agQ⟩:=jm;rw[qv]at abA Hz
   split at he
   ·cases he
   ·rename_i rs outs X0
    split at he
    ·rename_i Yh;simp only[aa]at he;generalize C5:xs.map (eW s)=cs at *;have hcr:dR γ w cs (as.toList.map (fr f N).eval):=by rw[<- C5];exact Bj hi _ _ hx
     generalize yt:as.toList.map (fr f N).eval=vs at *;obtain⟨BW,iS,bS,slS,mS,gS,wS,e1,e2,e3⟩:=hi.xq (gZ cs);have Wz:∀r∈cI s cs,r∉gZ cs:=by
      intro r hr hl;have:=aS.1 agQ r hr;simp[hl]at this
     obtain⟨F,rA,dA,lA,pA⟩:=GI iS bS slS mS e2 gS e3 cs hcr QV (λr hr=>hr) Wz abA Hz;have ltF:∀g∈F,g < w.heap.size:=λg hg=>by
      rcases lA g hg with ⟨r,_,h1⟩|⟨b,_,h1,_⟩<;>exact (iS.own g (by rw[h1];simp)).1
     have ioF:∀g∈F,w0.heap.size<=g\/g∈io:=λg hg=>by
      rcases lA g hg with ⟨r,_,h1⟩|⟨b,_,h1,_⟩<;>exact (iS.own g (by rw[h1];simp)).2
     have pD:=kN _ _ _ X0 w BW.h vs F hi.size hi.frame ioF rA dA ltF iS.eN;have agZ:as.map (fr f N).eval=vs.toArray:=by rw[<- yt];apply Array.ext';rw[mT]
     have hr:=xD (ρ:=(fr f N).eval) (dst:=dst) (ty:=ty) (pos:=pos) (aft:=aft) (gd:=gd) (w:=w) (ts:=ts) (jT Et TL Q4) rfl agZ;unfold rf Oper.wp;rw[hr,Oper.upon_enter];refine Calls.mono pD λe w' hp=>?_;obtain⟨v,us,F1,F2,h',rfl,Q7,qW,HB,WA,abl,oT⟩:=hp;have key:∀(O4:Gh) (sX:St),Inv O4 h0 io w0 sX f w->O4.β=γ.β->(∀g,γ.h g<=O4.h g)->(∀g,O4.h g<=BW.h g)->(∀g∈F,(∃r∈cI s cs,O4.ω g=.row r)\/∃b∈ch cs,O4.ω g=.box b/\g=O4.β b)->(∀g,(∃r∈cI s cs,O4.ω g=.row r)->∃r∈cI s cs,γ.ω g=.row r)->(∀g,(∃b∈ch cs,O4.ω g=.box b)->∃b∈ch cs,γ.ω g=.box b)->sX.bx=s.bx->
       ((rs.all A.closed=true/\outs.all A.closed=true)\/∀g,g < w.heap.size->g∉F->BW.h g<=O4.h g)->
       ∃f',(fr f N).put dst v=fr f' N/\K f' w'\/(fw (dst.getD 0) 0 rs (jM (ei (ey sX (cI s cs)) (ch cs)) cs outs)).2.put dst (match (fw (dst.getD 0) 0 rs (jM (ei (ey sX (cI s cs)) (ch cs)) cs outs)).1 with|[c]=>c|l=>.oH l)≠s':=by
      intro O4 sX iX bX mX mX2 lX aho ahn ebx ri;by_cases hse:(fw (dst.getD 0) 0 rs (jM (ei (ey sX (cI s cs)) (ch cs)) cs outs)).2.put dst (match (fw (dst.getD 0) 0 rs (jM (ei (ey sX (cI s cs)) (ch cs)) cs outs)).1 with|[c]=>c|l=>.oH l)=s'
      ·have i1:Inv O4 h0 io w0 (ei (ey sX (cI s cs)) (ch cs)) f w:=iX.sub
        (λd c hl=>by rw[(nj _ _).1,(ml _ _).1]at hl;exact hl)
        (λd c hl=>by
         rw[nR,(ml _ _).2]at hl
         split at hl
         ·cases hl
         ·exact hl)
        (λd c hl=>by
         rw[(nj _ _).2,kt]at hl
         split at hl
         ·cases hl
         ·exact hl)
       obtain⟨mM,pc,i2,b2,yc,m2,k2,n2,o2,x2,f2⟩:=i1.after (mv:=cI s cs) (bs:=ch cs) oT mX2 (λg hg=>by
         rcases lX g hg with h1|⟨b,hb,h1,_⟩
         ·exact .inl h1
         ·exact .inr ⟨b,hb,h1⟩) (λr hr=>by rw[(nj _ _).2,kt,if_pos hr]) (λb hb=>by rw[nR,if_pos hb]) (λg hg b hb=>by
         rcases lX g hg with ⟨r,_,h1⟩|⟨b',kT,h1,h2⟩
         ·rw[h1]at hb;cases hb
         ·have h3:=pA b' kT;rw[bS,<- bX,<- h2]at h3;exact (HB.ptr g h3).1)
       have heq:∀g∈F1++F2,pc.h g=h' g:=λg hg=>n2 g (abl g hg).1;have hle:(rs.all A.closed=true/\outs.all A.closed=true)\/∀g,h' g<=pc.h g:=by
        rcases ri with ri|ri
        ·exact .inl ri
        ·refine .inr λg=>?_;rcases cY g w.heap.size with h1|h1
         ·by_cases h2:g∈F
          ·rw[n2 g (.inr h2)];exact aj _
          ·rw[k2 g h1 h2,oT.hold g h1 h2];exact ri g h1 h2
         ·rw[n2 g (.inl h1)];exact aj _
       have Q6:kF pc.h w' outs (fU cas vs) F2:=HB.re (λg hg=>heq g (by simp[hg])) (hle.imp (λh=>h.2) id);have agW:kF pc.h w' rs us F1:=qW.re (λg hg=>heq g (by simp[hg])) (hle.imp (λh=>h.1) id);have Wm:∀g∈F1++F2,(pc.ω g=.free\/pc.ω g=.db\/Value.pointer (some ⟨g,0,none⟩)∈fU cas vs)/\g < w'.heap.size/\(w0.heap.size<=g\/g∈io):=by
        intro g hg;obtain⟨h1,h2⟩:=abl g hg;rcases h1 with h1|h1
        ·exact⟨.inl (f2 g h1),h2,.inl (aA hi.size h1)⟩
        ·rcases lX g h1 with h3|⟨b,hb,h3,h4⟩
         ·have ho:=o2 g h1 h3;exact⟨.inr (.inl ho),h2,(i2.own g (by rw[ho];simp)).2⟩
         ·have ho:=x2 g b h3;refine⟨.inr (.inr ?_),h2,(i2.own g (by rw[ho];simp)).2⟩;have h5:=pA b hb;rw[bS,<- bX,<- h4]at h5;exact h5
       rw[bj]at WA;obtain⟨vU,JR,qV⟩:=WA;obtain⟨lN,i3,b3,h3,o3⟩:=xB cs (s':=s) i2 (by rw[b2,bX];exact hcr.Oz) QV Q6 JR (λg hg=>Wm g (by simp[hg])) (λb hb=>by
         obtain⟨OW,XX⟩:=tP cs QV b hb;obtain⟨T,us',_,_,k3⟩:=iX.bx b OW (by rw[ebx];exact XX);rw[b2];exact x2 _ b k3)
       obtain⟨MZ,i4,c4,b4,h4,_⟩:=vD (d:=dst.getD 0) rs 0 i3 (by rw[h3];exact agW) vU (λg hg=>by
         obtain⟨k1,k2',k3⟩:=Wm g (by simp[hg]);have iQ:g∉F2:=λh=>qV g hg g h rfl;refine⟨?_,k2',k3⟩;rw[o3 g iQ];rcases k1 with k1|k1|k1
         ·exact .inl k1
         ·exact .inr k1
         ·exact absurd (Q6.ptr g k1).2 iQ) (λa ha=>by
         have hs:=aS.1 Yh a ha;cases a with
         |val ag vs=>exact⟨ag,vs,rfl,by simpa [A.short] using hs⟩
         |box vs=>simp[A.short]at hs)
       have LH:CR MZ w' (match (fw (dst.getD 0) 0 rs (jM (ei (ey sX (cI s cs)) (ch cs)) cs outs)).1 with|[c]=>c|l=>.oH l) v:=by
        generalize (fw (dst.getD 0) 0 rs (jM (ei (ey sX (cI s cs)) (ch cs)) cs outs)).1=l at c4;have hl:=c4.length;rcases Q7 with rfl|⟨iQ,rfl⟩
        ·cases l with
         |nil=>simp at hl
         |cons c l=>
          cases l with
          |nil=>exact wF c4
          |cons c' l=>simp at hl
        ·split
         ·rename_i c;simp at hl;exact absurd hl iQ
         ·simp only[CR];exact⟨us,rfl,c4⟩
       have htr:∀f':Fm,FOk dst f f'->Tr dst (dW s dst (.call gn xs)) γ w MZ w' f f':=λf' hfo=>by
        refine⟨mM.weaken (λg hg=>?_) mX,λb _=>by rw[b4,b3,b2,bX],λg=>by rw[h4,h3];exact aA (mX g) (m2 g),hfo⟩;simp only[dW,C5,yG];rcases hg with ⟨r,hr,h5⟩|⟨b,hb,h5⟩
        ·obtain⟨r',yQ,h6⟩:=aho g ⟨r,hr,h5⟩;exact⟨r',by simp[yQ],.inr h6⟩
        ·obtain⟨b',kT,h6⟩:=ahn g ⟨b,hb,h5⟩;exact⟨b',by simp[kT],.inl h6⟩
       cases dst with
       |none=>
        refine⟨f,.inl ⟨rfl,h MZ f w' ?_ (htr _ .skip)⟩⟩;rw[<- hse];exact i4
       |some d=>
        refine⟨yi f d v,.inl ⟨qg f N d v,h MZ _ w' ?_ (htr _ .put)⟩⟩;rw[<- hse];exact i4.put d _ v LH
      ·exact⟨f,.inr hse⟩
     have lG:∀g∈F,(∃r∈cI s cs,γ.ω g=.row r)\/∃b∈ch cs,γ.ω g=.box b/\g=γ.β b:=by
      intro g hg;rcases lA g hg with ⟨r,hr,h1⟩|⟨b,hb,h1,h2⟩
      ·rcases wS g with h3|h3|h3|⟨q,hq,h3⟩
       ·exact .inl ⟨r,hr,h3.symm.trans h1⟩
       ·rw[h1]at h3;cases h3
       ·rw[h1]at h3;cases h3
       ·rw[h1]at h3;cases h3;exact absurd hq (Wz r hr)
      ·rcases wS g with h3|h3|h3|⟨q,hq,h3⟩
       ·exact .inr ⟨b,hb,h3.symm.trans h1,by rw[<- bS];exact h2⟩
       ·rw[h1]at h3;cases h3
       ·rw[h1]at h3;cases h3
       ·rw[h1]at h3;cases h3
     have fin:∃f',(fr f N).put dst v=fr f' N/\K f' w':=by
      by_cases ri:(rs.all A.closed && outs.all A.closed)=true
      ·rw[if_pos ri]at he;rw[ab]at ri;obtain⟨f',h1|h1⟩:=key γ s hi rfl (λ_=>aj _) mS lG (λ_ h=>h) (λ_ h=>h) rfl (.inl ri)
       ·exact⟨f',h1⟩
       ·exact absurd he h1
      ·rw[if_neg ri]at he;obtain⟨f',h1|h1⟩:=key BW (dH s (gZ cs)) iS bS mS (λ_=>aj _) lA (λg ⟨r,hr,h1⟩=>by
         rcases wS g with h3|h3|h3|⟨q,hq,h3⟩
         ·exact⟨r,hr,h3.symm.trans h1⟩
         ·rw[h1]at h3;cases h3
         ·rw[h1]at h3;cases h3
         ·rw[h1]at h3;cases h3;exact absurd hq (Wz r hr)) (λg ⟨b,hb,h1⟩=>by
         rcases wS g with h3|h3|h3|⟨q,hq,h3⟩
         ·exact⟨b,hb,h3.symm.trans h1⟩
         ·rw[h1]at h3;cases h3
         ·rw[h1]at h3;cases h3
         ·rw[h1]at h3;cases h3) e2 (.inr λ_ _ _=>aj _)
       ·exact⟨f',h1⟩
       ·exact absurd he h1
     exact fin
    ·cases he
  ·cases he
end
end
section
open Go.RowKit
section
variable {P:Program} {γ:Gh} {h0:Nat->Nat} {io:List Nat} {w0:World} {s s':St} {f:Fm} {w w':World} {N:Nat} {num:Nat->FuncId} {K':Fm->World->Prop}
 {cf:Nat->List A->Option (List A×List A)} {mf:Nat->Bool->List D->Int->Option (List D×Int)}
theorem Nc (hi : Inv γ h0 io w0 s f w) {c : C} {v : Value} {x : D} (hc : CR γ w c v) (hx : iR s c = some x) :
    ∃ G, Rp w x v G /\ (G.map bG).Nodup /\ (∀ be ∈ G, ∃ r ∈ rowsOf [c], γ.ω be.1 = .row r /\ γ.h be.1 = 0 /\ mJ w be.1) /\
      ∀ r row, c = .ref r -> look s.rw r = some row -> ∀ w' ja, Rp w' (.list row.k row.fl ja) v G -> (∀ g, mJ w g -> mJ w' g) -> w.heap.size <= w'.heap.size -> (x.plain = false) ->
        ∃ F, nh γ.h w' ⟨ja, row.k, row.fl, true, false, false⟩ (γ.sl r) F /\ F.Nodup /\ ∀ g ∈ F, γ.ω g = .row r := by
  cases c with
  | d y =>
    simp only [CR] at hc
    obtain ⟨F, hF, hS⟩ := hc
    refine ⟨F, ?_⟩
    cases y with
    | list k fl es =>
      cases es with
      | nil =>
        simp only [iR, aa] at hx
        subst hx
        have hF0 : F = [] := by
          simp only [Rp] at hF
          obtain ⟨A, n, cc, _, hn, _, _, _, _, _, h | ⟨hp, _⟩⟩ := hF
          · exact h.2
          · simp at hn; omega
        subst hF0
        exact ⟨hF, by simp, λbe hb => by simp at hb, λr row e => by cases e⟩
      | cons e es => simp [iR] at hx
    | int k n => simp only [iR, aa] at hx; subst hx; have : F = [] := by (simp only [Rp] at hF; exact hF.2.1)
                 subst this; exact ⟨hF, by simp, λbe hb => by simp at hb, λr row e => by cases e⟩
    | bool b => simp only [iR, aa] at hx; subst hx; have : F = [] := by (simp only [Rp] at hF; exact hF.2)
                subst this; exact ⟨hF, by simp, λbe hb => by simp at hb, λr row e => by cases e⟩
    | str b => simp only [iR, aa] at hx; subst hx; have : F = [] := by (simp only [Rp] at hF; exact hF.2.1)
               subst this; exact ⟨hF, by simp, λbe hb => by simp at hb, λr row e => by cases e⟩
  | nil k fl =>
    simp only [iR, aa] at hx
    subst hx
    simp only [CR] at hc
    refine ⟨[], ?_, by simp, λbe hb => by simp at hb, λr row e => by cases e⟩
    simp only [Rp]
    exact ⟨none, 0, 0, hc.1, rfl, aj _, by simp [maxLen], λ_ => jc, hc.2, λe he => by simp at he, .inl ⟨rfl, trivial⟩⟩
  | ref r =>
    simp only [CR] at hc
    obtain ⟨hv, _⟩ := hc
    simp only [iR] at hx
    split at hx
    · rename_i row hl
      split at hx
      · rename_i Ny
        simp only [aa] at hx
        subst hx
        obtain ⟨F, hR, jm, qM⟩ := hi.rw r row hl
        obtain ⟨A, n, c, q1, q2, q3, q4, q5, q6, q7, q8⟩ := hR
        rcases q8 with ⟨rfl, rfl, rfl⟩ | ⟨g, o, xs, G, rfl, a2, a3, a4, a5, a6, a7, a8, a9, sL⟩
        · have Ai : n = 0 := by omega
          refine ⟨[], ?_, by simp, λbe hb => by simp at hb, λr' Iw e pE w' ja Wp _ _ _ => ?_⟩
          · simp only [Rp]
            exact ⟨none, n, 0, hv.trans q1, q2, q3, q4, q7, q5, q6, .inl ⟨Ai, trivial⟩⟩
          · cases e
            rw [hl] at pE
            cases pE
            simp only [Rp] at Wp
            obtain ⟨A', n', c', e1, e2, e3, e4, e5, e6, e7, _⟩ := Wp
            rw [hv, q1] at e1
            cases e1
            exact ⟨[], ⟨none, n, 0, q1, e2, q3, q4, e6, e7, e5, .inl ⟨rfl, rfl, rfl⟩⟩, by simp, λg hg => by simp at hg⟩
        · obtain ⟨eF, hz⟩ := a9 Ny.1
          have Cj : γ.ω g = .row r := qM g (by rw [eF]; simp)
          by_cases Ai : n = 0
          · refine ⟨[], ?_, by simp, λbe hb => by simp at hb, λr' Iw e pE w' ja Wp JU mE _ => ?_⟩
            · simp only [Rp]
              exact ⟨_, n, c, hv.trans q1, q2, q3, q4, q7, q5, q6, .inl ⟨Ai, trivial⟩⟩
            · cases e
              rw [hl] at pE
              cases pE
              simp only [Rp] at Wp
              obtain ⟨A', n', c', e1, e2, e3, e4, e5, e6, e7, _⟩ := Wp
              rw [hv, q1] at e1
              cases e1
              have vT : ja = [] := cm.1 (by omega)
              subst vT
              exact ⟨[g], ⟨_, n, c, q1, e2, q3, q4, e6, e7, e5, .inr ⟨g, o, [], [], rfl, by omega, JU g a3, by simp [eH], λj u hu => by simp at hu, by rw [a7 Ny.2]; omega, λ_ => a7 Ny.2, (λh => by cases h), λ_ => ⟨rfl, λbe hb => by simp at hb⟩, (λh => by cases h)⟩⟩, by simp, λy hy => by simp at hy; rw [hy]; exact Cj⟩
          · refine ⟨(g, o + n * row.k) :: G, ?_, by simpa [eF] using jm, λbe hb => ?_, λr' Iw e pE w' ja Wp JU mE _ => ?_⟩
            · simp only [Rp]
              exact ⟨_, n, c, hv.trans q1, q2, q3, q4, q7, q5, q6, .inr ⟨by omega, g, o, xs, G, rfl, rfl, a4, a5⟩⟩
            · rcases ay.1 hb with rfl | hb
              · exact ⟨r, by simp [rowsOf], Cj, a7 Ny.2, a3⟩
              · exact ⟨r, by simp [rowsOf], qM _ (by rw [eF]; exact cz _ (cR hb)), (hz be hb).1, (hz be hb).2⟩
            · cases e
              rw [hl] at pE
              cases pE
              simp only [Rp] at Wp
              obtain ⟨A', n', c', e1, e2, e3, e4, e5, e6, e7, e8⟩ := Wp
              rw [hv, q1] at e1
              cases e1
              rcases e8 with ⟨e8, _⟩ | ⟨_, b', o', Gg, G', e9, e10, e11, e12⟩
              · omega
              · cases e9
                simp only [bw, true_and] at e10
                subst e10
                refine ⟨g :: G.map bG, ⟨_, n, c, q1, e2, q3, q4, e6, e7, e5, .inr ⟨g, o, Gg, G, rfl, by omega, JU g a3, e11, e12, by rw [a7 Ny.2]; omega, λ_ => a7 Ny.2, (λh => by cases h), λ_ => ⟨rfl, λbe hb => ⟨(hz be hb).1, JU _ (hz be hb).2⟩⟩, (λh => by cases h)⟩⟩, by rw [<- eF]; exact jm, λy hy => qM y (by rw [eF]; exact hy)⟩
      · cases hx
    · cases hx
  | ptr b o => simp [iR] at hx
  | mY r k i o => simp [iR] at hx
  | qJ cs => simp [iR] at hx
  | agg cs => simp [iR] at hx
  | oH cs => simp [iR] at hx
  | qZ => simp [iR] at hx
  | any => simp [iR] at hx
theorem zE(hi:Inv γ h0 io w0 s f w):∀(cs:List C) {vs:List Value} {ds:List D},dR γ w cs vs->rG s cs=some ds->
  ∃Fs,fQ w ds vs Fs/\(∀G∈Fs,∀be∈G,∃r∈rowsOf cs,γ.ω be.1=.row r/\γ.h be.1=0/\mJ w be.1)/\((rowsOf cs).Nodup->(Fs.flatten.map bG).Nodup)/\
   ∀w' ga acc jR,fQ w' ga vs Fs->(∀g,mJ w g->mJ w' g)->w.heap.size<=w'.heap.size->om s cs ga acc=some jR->jR.sl=acc.sl/\jR.bx=acc.bx/\
    ∀q x,look jR.rw q=some x->look acc.rw q=some x\/(q∈rowsOf cs/\∃F,nh γ.h w' x (γ.sl q) F/\F.Nodup/\∀g∈F,γ.ω g=.row q)
 |[],vs,ds,hc,hd=>by
  simp only[rG,aa]at hd;subst hd;simp only[dR]at hc;subst hc;refine⟨[],by simp[fQ],λG hG=>by simp at hG,λ_=>by simp,λw' ga acc jR hr _ _ hb=>?_⟩;cases ga with
  |nil=>simp only[om,aa]at hb;subst hb;exact⟨rfl,rfl,λq x h=>.inl h⟩
  |cons d ds=>simp[om]at hb
 |c::cs,vs,ds,hc,hd=>by
  simp only[rG]at hd
  split at hd
  ·rename_i x hx;simp only[ad]at hd;obtain⟨ds0,hd,rfl⟩:=hd;simp only[dR]at hc;obtain⟨v,dZ,rfl,hv,yt⟩:=hc;obtain⟨G0,k1,k2,k3,k4⟩:=Nc hi hv hx;obtain⟨Fs,l1,l2,l3,l4⟩:=zE hi cs yt hd;have UE:∀r∈rowsOf [c],rowsOf (c::cs)=r::rowsOf cs:=λr hr=>by
    cases c<;>simp[rowsOf]at hr ⊢
    exact hr.symm
   have ub:∀r∈rowsOf cs,r∈rowsOf (c::cs):=λr hr=>by
    cases c<;>simp[rowsOf,hr]
   refine⟨G0::Fs,by simp only[fQ];exact⟨v,dZ,G0,Fs,rfl,rfl,k1,l1⟩,λG hG be hb=>?_,λhn=>?_,λw' ga acc jR hr JU mE hb=>?_⟩
   ·rcases ay.1 hG with rfl|hG
    ·obtain⟨r,hr,h1⟩:=k3 be hb;exact⟨r,by rw[UE r hr];simp,h1⟩
    ·obtain⟨r,hr,h1⟩:=l2 G hG be hb;exact⟨r,ub r hr,h1⟩
   ·have X_:(rowsOf cs).Nodup:=by
     cases c<;>simp[rowsOf]at hn<;>first|exact hn|exact hn.2
    rw[dh,dd,bj];refine⟨k2,l3 X_,?_⟩;intro a ha b hb e;subst e;obtain⟨be,nZ,rfl⟩:=bQ.1 ha;obtain⟨be',XV,e⟩:=bQ.1 hb;obtain⟨G,hG,XV⟩:=dX.1 XV;obtain⟨r,hr,h1,_⟩:=k3 be nZ;obtain⟨q,hq,h2,_⟩:=l2 G hG be' XV;rw[e,h1]at h2;cases h2;rw[UE r hr]at hn;exact (cd.1 hn).1 hq
   ·cases ga with
    |nil=>simp only[fQ]at hr;cases hr.1
    |cons d' ga=>
     simp only[fQ]at hr;obtain⟨v',aiH,F',TC,e1,e2,Yd,Ew⟩:=hr;cases e1;cases e2;have other:(∀r,c≠.ref r)->om s cs ga acc=some jR->jR.sl=acc.sl/\jR.bx=acc.bx/\∀q x,look jR.rw q=some x->look acc.rw q=some x\/(q∈rowsOf (c::cs)/\∃F,nh γ.h w' x (γ.sl q) F/\F.Nodup/\∀g∈F,γ.ω g=.row q):=by
      intro _ hb;obtain⟨m1,m2,m3⟩:=l4 w' ga acc jR Ew JU mE hb;exact⟨m1,m2,λq x h=>(m3 q x h).imp id (λh=>⟨ub q h.1,h.2⟩)⟩
     cases c with
     |ref r=>
      cases d' with
      |list k fl es=>
       simp only[om]at hb
       split at hb
       ·rename_i row hl
        split at hb
        ·rename_i X6;obtain⟨rfl,rfl⟩:=X6;have qh:x.plain=false:=by
          simp only[iR,hl]at hx
          split at hx
          ·simp only[aa]at hx;rw[<- hx];rfl
          ·cases hx
         obtain⟨m1,m2,m3⟩:=l4 w' ga _ jR Ew JU mE hb;obtain⟨F,n1,n2,n3⟩:=k4 r row rfl hl w' es Yd JU mE qh;refine⟨m1,m2,λq y h=>?_⟩;rcases m3 q y h with h5|h
         ·rw[r9]at h5;clear h
          split at h5
          ·rename_i hq;subst hq;cases h5;exact .inr ⟨by simp[rowsOf],F,n1,n2,n3⟩
          ·exact .inl h5
         ·exact .inr ⟨ub q h.1,h.2⟩
        ·cases hb
       ·cases hb
      |int _ _=>simp[om]at hb
      |bool _=>simp[om]at hb
      |str _=>simp[om]at hb
     |d y=>exact other (λr h=>by cases h) (by simpa [om] using hb)
     |nil k fl=>exact other (λr h=>by cases h) (by simpa [om] using hb)
     |ptr b o=>simp[iR]at hx
     |mY r k i o=>simp[iR]at hx
     |qJ cs=>simp[iR]at hx
     |agg cs=>simp[iR]at hx
     |oH cs=>simp[iR]at hx
     |qZ=>simp[iR]at hx
     |any=>simp[iR]at hx
  ·cases hd
variable {ty:TypeId} {pos:String} {aft:Array Edge} {gd:Option (Nat×Bool)}
theorem YL(hi:Inv γ h0 io w0 s f w){g:Nat}{fn:Func}(Et:P.funcs[num g]?=some fn)(TL:fn.body.isSome=true)(Q4:(fn.name == "runtime.NumGoroutine")=false){x x2:Operand}{y y2:KX}{ts:Array TypeId}(hx:jo N x y=true)(hx2:jo N x2 y2=true)
  (lg:∀ag ds q ga q',mf g ag ds q=some (ga,q')->oO w0 io P (num g) ag ds q ga q') {d:Nat} (he:kc cf mf s (some d) (.J7 g y y2)=some s') (hK:∀γ' f' w',Inv γ' h0 io w0 s' f' w'->Tr (some d) (dW s (some d) (.J7 g y y2)) γ w γ' w' f f'->K' f' w') :
  rf P N ⟨some d,.call {callee:=.value (.func (num g)),args:=#[x,x2],argTypes:=ts },ty,pos,aft,gd⟩ f w K':=by
 simp only[kc]at he
 split at he
 ·rename_i d0 q OZ hq;cases OZ
  split at he
  ·rename_i ds LI
   split at he
   ·rename_i jm;rw[qv]at jm
    split at he
    ·rename_i ga q' agL;simp only[ad]at he;obtain⟨acc,hb,rfl⟩:=he;have Ew:=bH hi hx2;rw[hq]at Ew;obtain⟨hqv,hqw⟩:=gQ Ew;have qL:(eW s y).cells.all C.cell=true:=by
      have:∀(cs:List C) {ds:List D},rG s cs=some ds->cs.all C.cell=true:=by
       intro cs
       induction cs with
       |nil=>intro ds _;rfl
       |cons c cs ih=>
        intro ds h;simp only[rG]at h
        split at h
        ·rename_i z hz;simp only[ad]at h;obtain⟨ds1,h1,_⟩:=h;simp only[bT,ih h1,fo];cases c<;>simp[iR]at hz<;>rfl
        ·cases h
      exact this _ LI
     obtain⟨c1,c2,c3⟩:=(bH hi hx).cells qL;obtain⟨Fs,l1,l2,l3,l4⟩:=zE hi _ c1 LI;have hFb:∀z∈Fs.flatten.map bG,∃r∈rowsOf (eW s y).cells,γ.ω z=.row r:=λz hz=>by
      obtain⟨be,nZ,rfl⟩:=bQ.1 hz;obtain⟨G,hG,nZ⟩:=dX.1 nZ;obtain⟨r,hr,h1,_⟩:=l2 G hG be nZ;exact⟨r,hr,h1⟩
     have pD:=lg _ _ _ _ _ agL w γ.h ((fr f N).eval x) _ Fs hi.size hi.frame (λz hz=>by
       obtain⟨r,_,h1⟩:=hFb z hz;exact (hi.own z (by rw[h1];simp)).2) l1 (λsU=>by
       obtain⟨vs,e⟩:=c3 sU;rw[e];simp[Value.cells]) (λsU=>by rw[c2 sU]) hqw (l3 jm) (λG hG be nZ=>by
       obtain⟨r,_,_,h1,h2⟩:=l2 G hG be nZ;exact⟨h1,h2⟩) hi.eN
     refine xd (xD (jT Et TL Q4) rfl (a2 rfl hqv)) pD λe w' hp=>?_;obtain⟨rfl,agU,yQ,_,oT⟩:=hp;refine⟨_,rfl,?_⟩;have mM:sJ γ (λo=>∃i∈rowsOf (eW s y).cells,o=.row i) w w':={
      os:=oT.os,tape:=oT.tape,output:=oT.output,size:=oT.size
      block:=λz hz hn=>oT.block z hz (λhF=>by
       obtain⟨r,hr,h1⟩:=hFb z hF;exact hn ⟨r,hr,h1⟩)
      cell:=λz j hj=>by
       rcases cY z w.heap.size with hl|hl
       ·exact oT.cell z j hl hj
       ·have:=hi.eN z hl;omega
      eX:=oT.eX }
     have hlk:∀r∈rowsOf (eW s y).cells,look (ey s (rowsOf (eW s y).cells)).rw r=none:=λr hr=>by rw[kt,if_pos hr]
     have i0:Inv γ h0 io w0 (ey s (rowsOf (eW s y).cells)) f w:=hi.sub (λe c hl=>by rw[(ml _ _).1]at hl;exact hl) (λe c hl=>by rw[(ml _ _).2]at hl;exact hl) (λe c hl=>by
      rw[kt]at hl
      split at hl
      ·cases hl
      ·exact hl)
     have i1:=i0.M7 mM (by rintro⟨r,_,h⟩;cases h) (λb h=>by obtain⟨r,_,h⟩:=h;cases h) (λr h=>by obtain⟨r',yQ,h⟩:=h;cases h;exact hlk r yQ);obtain⟨m1,m2,m3⟩:=l4 w' ga _ acc yQ oT.eX oT.size hb;have i2:Inv γ h0 io w0 acc f w':={i1 with
      sl:=λe c hl=>i1.sl e c (by rw[<- m1];exact hl)
      bx:=λe c hl=>i1.bx e c (by rw[<- m2];exact hl)
      rw:=λr z hl=>by
       rcases m3 r z hl with h|⟨_,h⟩
       ·exact i1.rw r z h
       ·exact h }
     refine hK γ _ w' (i2.put d _ _ (gj agU)) ⟨⟨mM.os,mM.tape,mM.output,mM.size,λz hz hn=>mM.block z hz (λh=>hn ?_),mM.cell,mM.eX⟩,λ_ _=>rfl,λ_=>aj _,.put⟩;obtain⟨r,hr,h⟩:=h;exact⟨r,hr,.inr h⟩
    ·cases he
   ·cases he
  ·cases he
 ·cases he
end
end
section
open Go.RowKit
section
variable {P:Program} {γ:Gh} {h0:Nat->Nat} {io:List Nat} {w0:World} {s s':St} {f:Fm} {w:World} {N:Nat} {ty:TypeId} {pos:String} {aft:Array Edge} {gd:Option (Nat×Bool)} {K:Fm->World->Prop}
 {cf:Nat->List A->Option (List A×List A)} {mf:Nat->Bool->List D->Int->Option (List D×Int)}
theorem acf(hi:Inv γ h0 io w0 s f w){T T' E:TypeId}{k:Nat}{x y:Operand}{a b:KX}{d:Nat}(hU:P.underlying T=some (.slice E))(hS:mB P E=some k)(hx:jo N x a=true)(hy:jo N y b=true)(he:kc cf mf s (some d) (.xL k a b)=some s')
  (h:∀γ' f' w',Inv γ' h0 io w0 s' f' w'->Tr (some d) (dW s (some d) (.xL k a b)) γ w γ' w' f f'->K f' w') :
  rf P N ⟨some d,.call {callee:=.builtin .copy,args:=#[x,y],argTypes:=#[T,T'] },ty,pos,aft,gd⟩ f w K:=by
 have qh:=bH hi hx;have Yb:=bH hi hy;simp only[kc]at he
 split at he
 ·rename_i d0 r k' sR es OZ I5 hyb;cases OZ;rw[I5]at qh;rw[hyb]at Yb;simp only[CR,Rp]at qh Yb;obtain⟨F,⟨A2,m,c2,y1,y2,y3,y4,y5,y6,y7,y8⟩,jV⟩:=Yb
  split at he
  ·rename_i row hl
   split at he
   ·rename_i hc;obtain⟨rfl,rfl,rfl,hrf,Gn,qU,hle⟩:=hc;simp only[aa]at he;subst he;obtain⟨lN,A,n,c,i2,b2,yc,n4,o2,l2,q1,q2,q3,q4,q5,q6,q7,q8⟩:=hi.th hl;have n6:(fr f N).eval x=.slice A n c:=qh.1.trans q1;have hrX:r∈dW s (some d) (.xL row.k a b):=by simp[dW,I5,rowsOf]
    have Q4:n=m:=by omega
    subst Q4;have TL:IntKind.i64.wrap (n:Int)=(n:Int):=bJ (by simp only[maxLen]at q4;omega);have lQ:∀{w':World},(Builtin.copy_ #[T,T'] ty #[(fr f N).eval x,(fr f N).eval y]).run P w=.ok (.int .i64 n) w'->(execOp (fr f N).eval ⟨some d,.call {callee:=.builtin .copy,args:=#[x,y],argTypes:=#[T,T'] },ty,pos,aft,gd⟩).run P w=.ok (.value (.int .i64 n)) w':=by
     intro w' hr;simp[execOp,resolve,invoke,builtin,hr]
    have nB:goInt n=.int .i64 (n:Int):=rfl;rcases y8 with ⟨y8,rfl⟩|⟨NF,bb,oo,IT,G2,rfl,rfl,a2',a3'⟩
    ·
     have vT:es=[]:=bU (by omega);have hre:row.es=[]:=bU (by omega);subst y8;refine so (lQ (w':=w) ?_) ?_
     ·rw[n6,y1];cases A<;>cases A2<;>simp[Builtin.copy_,run_underlying hU,run_sizeOf hS,Builtin.lenOf,Builtin.firstCells,loadCells,loadCellsFrom,storeCells,goInt]
     ·have e1:s.setRow r {row with es:=es }=s.setRow r row:=by rw[vT,<- hre]
      have i3:Inv γ h0 io w0 (s.setRow r row) f w:={hi with
       rw:=λq z hz=>by
        simp only[St.setRow,look]at hz;by_cases hq:r=q
        ·subst hq;simp at hz;subst hz;exact hi.rw r row hl
        ·rw[if_neg hq,dN]at hz
         split at hz
         ·cases hz
         ·exact hi.rw q z hz }
      have e2:es.length=0:=by rw[vT];rfl
      refine h γ _ w ?_ ⟨sJ.refl _ _ _,λ_ _=>rfl,λ_=>aj _,.put⟩;rw[e1,e2];exact i3.put d _ _ (gj rfl)
    ·have hG2:G2=[]:=a2'.plain (y5 rfl);subst hG2;rcases q8 with ⟨rfl,rfl⟩|⟨g,o,xs,G,rfl,a2,a3,a4,a5,a6,a7,a8,a9,sL,B9,a12⟩
     ·omega
     obtain⟨rfl,GC,vs,hB,HF⟩:=sL qU;have hG:G=[]:=a6.plain (q7 hrf);subst hG;have yP:γ.h g=0:=a9 Gn;have Q1:IT.length=n * row.k:=by rw[eH.length es a2' y7,y2]
     have hck:n * row.k<=c * row.k:=ew _ q3;have agT:=a2'.qN;have hf:=run_firstCells_some (P:=P) w row.k n ⟨bb,oo,none⟩ n c2 IT Q1 (λj v hv=>by rw[nI];exact a3' j v hv);have Cm:=ly (P:=P) (o:=0) IT 0 w vs hB (by omega) agT;simp only[eD]at Cm;refine so (lQ (w':=gk w g (.cells (cZ vs 0 IT).toArray GC (0,0))) ?_) ?_
     ·rw[n6,y1];simp[Builtin.copy_,run_underlying hU,run_sizeOf hS,Builtin.lenOf,hf,Cm,goInt]
     have lh:=TD.gk w g (cZ vs 0 IT).toArray GC;have mM:sJ γ (λo=>∃i∈dW s (some d) (.xL row.k a b),o=.box i\/o=.row i) w _:=l6 hi lh ⟨r,hrX,.inr a3⟩ (λj hj=>by rw[yP]at hj;omega);have h5:=i2.M7 (l6 i2 lh (M:=λo=>o=.db) a4 (λj hj=>by rw[n4,yP]at hj;omega)) (by simp) (λb hb=>by cases hb) (λr hr=>by cases hr);have Yi:cZ vs 0 IT=IT++vs.drop IT.length:=by simp[cZ]
     have gD:gy (gk w g (.cells (cZ vs 0 IT).toArray GC (0,0))) g 0 IT:=by
      have h7:=(hB.ky GC (cZ vs 0 IT)).J0;intro j u hu;refine h7 j u ?_;rw[Yi,cl (aI.1 hu).1];exact hu
     have yQ:eH (gk w g (.cells (cZ vs 0 IT).toArray GC (0,0))) es IT []:=a2'.cH _ (λbe hb=>by simp at hb);obtain⟨MZ,h6,h7,h8,h9,_,_⟩:=h5.sM (r:=r) (x:={row with es:=es }) (n:=n) (c:=c) (g:=g) (o:=0) y2 q3 q4 q5 y7 (λ_=>y5 rfl)
      (by rw[fG];exact a2) (.inl a4) (i2.own g (by rw[a4];simp)).2 ⟨by rw[fG];omega,lh.fz⟩ yQ gD (by rw[n4,yP];omega) (λ_=>by rw[n4,yP]) (λ_=>⟨rfl,GC,_,hB.ky GC _,by rw[uA (by omega)];exact HF⟩)
      (λbe hb=>by simp at hb) (λ_=>⟨by simp,λbe hb=>by simp at hb⟩) (by rw[yc];exact q1)
     have e6:(s.cM r).setRow r {row with es:=es }=s.setRow r {row with es:=es }:=by
      have:pg (pg s.rw r) r=pg s.rw r:=by simp[pg,lD]
      simp[St.setRow,St.cM,this]
     rw[e6]at h6;refine h MZ _ _ ?_ ⟨mM,λ_ _=>by rw[h8,b2],λz=>by have:=h9 z;rw[n4]at this;exact this,.put⟩;rw[<- y2];exact h6.put d _ _ (gj TL)
   ·cases he
  ·cases he
 ·cases he
end
end
section
open Go.RowKit
def rn(P:Program)(F:FuncId):Prop:=
 ∀(w:World) (g:Nat) (T:TypeId) (bs es:List Bool) (c:Nat) (b o m cc:Nat) (rest:List Value),kW w g T (bs.map Value.bool++rest)->gy w b o (es.map Value.bool)->b≠g->es.length=bs.length->bs.length<=maxLen->
  Calls P F #[.slice (some ⟨g,0,none⟩) bs.length c,.slice (some ⟨b,o,none⟩) es.length cc] w λe w'=>e=.returned (.bool (lb bs es))/\w'=gk w g (.cells ((cG bs es).map Value.bool++rest).toArray T (0,0))
def Cts(w0:World)(io:List Nat)(P:Program)(num:Nat->FuncId)(cf:Nat->List A->Option (List A×List A)):Prop:=
 (∀g a r o,cf g a=some (r,o)->tL w0 io P (num g) a r o)/\(num 9004≠1000000->rn P (num 9004))
section
variable {P:Program} {γ:Gh} {h0:Nat->Nat} {io:List Nat} {w0:World} {s s':St} {f:Fm} {w:World} {N:Nat} {ty:TypeId} {pos:String} {aft:Array Edge} {gd:Option (Nat×Bool)} {K:Fm->World->Prop}
 {cf:Nat->List A->Option (List A×List A)} {mf:Nat->Bool->List D->Int->Option (List D×Int)}
def Gh.fY(γ:Gh)(q i:Nat):Gh:=⟨γ.h,γ.β,λr=>if r=i then γ.sl q else γ.sl r,λg=>if γ.ω g=.row q then .row i else γ.ω g⟩
mutual
theorem CR.fY(γ:Gh)(w:World)(q i:Nat):∀(c:C) {v:Value},CR γ w c v->CR (γ.fY q i) w (c.fY q i) v
 | .d x,v,h=>by simp only[CR,C.fY,Gh.fY]at h ⊢;exact h
 | .nil k fl,v,h=>by simp only[CR,C.fY]at h ⊢;exact h
 | .ref r,v,h=>by
  simp only[CR]at h;simp only[C.fY];split
  ·rename_i e;subst e;simp only[CR,Gh.fY,if_true];exact h
  ·split
   ·simp only[CR]
   ·rename_i e1 e2;simp only[CR,Gh.fY,if_neg e2];exact h
 | .ptr b o,v,h=>by simp only[CR,C.fY,Gh.fY]at h ⊢;exact h
 | .mY r k a o,v,h=>by
  simp only[CR]at h;simp only[C.fY];split
  ·rename_i e;subst e;simp only[CR,Gh.fY,if_true];exact h
  ·split
   ·simp only[CR]
   ·rename_i e1 e2;simp only[CR,Gh.fY,if_neg e2];exact h
 | .qJ cs,v,h=>by simp only[CR,C.fY,Gh.fY]at h ⊢;exact h
 | .agg cs,v,h=>by
  simp only[CR,C.fY]at h ⊢;obtain⟨vs,h1,h2⟩:=h;exact⟨vs,h1,dR.fY γ w q i cs h2⟩
 | .oH cs,v,h=>by
  simp only[CR,C.fY]at h ⊢;obtain⟨vs,h1,h2⟩:=h;exact⟨vs,h1,dR.fY γ w q i cs h2⟩
 | .qZ,v,h=>by simp only[CR,C.fY]at h ⊢;exact h
 | .any,v,h=>by simp only[CR,C.fY]
theorem dR.fY(γ:Gh)(w:World)(q i:Nat):∀(cs:List C) {vs:List Value},dR γ w cs vs->dR (γ.fY q i) w (C.xl q i cs) vs
 |[],vs,h=>by simp only[dR,C.xl]at h ⊢;exact h
 |c::cs,vs,h=>by
  simp only[dR,C.xl]at h ⊢;obtain⟨v,dZ,h1,h2,h3⟩:=h;exact⟨v,dZ,h1,CR.fY γ w q i c h2,dR.fY γ w q i cs h3⟩
end
theorem Oj(q i:Nat)(l:List (Nat×C))(d:Nat):look (Se q i l) d=(look l d).map (C.fY q i):=by
 induction l with
 |nil=>rfl
 |cons p l ih=>
  obtain⟨k,x⟩:=p;unfold Se at ih ⊢;simp only[aQ,look,ih]
  split<;>rfl
theorem Oi(q i:Nat)(l:List (Nat×List C))(d:Nat):look (Sd q i l) d=(look l d).map (C.xl q i):=by
 induction l with
 |nil=>rfl
 |cons p l ih=>
  obtain⟨k,x⟩:=p;unfold Sd at ih ⊢;simp only[aQ,look,ih]
  split<;>rfl
theorem Inv.fY(hi:Inv γ h0 io w0 s f w){q i:Nat}{row:Row}(hl:look s.rw q=some row):Inv (γ.fY q i) h0 io w0 (s.fY q i row) f w:={hi with
 sl:=λd c h=>by
  simp only[St.fY,Oj,ad]at h;obtain⟨c',h1,rfl⟩:=h;exact CR.fY γ w q i c' (hi.sl d c' h1)
 bx:=λb cs h=>by
  simp only[St.fY,Oi,ad]at h;obtain⟨iC,h1,rfl⟩:=h;obtain⟨T,vs,h2,h3,h4⟩:=hi.bx b iC h1;exact⟨T,vs,h2,dR.fY γ w q i iC h3,by simp[Gh.fY,h4]⟩
 rw:=λr x h=>by
  simp only[St.fY,look]at h;by_cases hr:i=r
  ·subst hr;simp only[if_true,aa]at h;subst h;obtain⟨F,h1,h2,h3⟩:=hi.rw q row hl;exact⟨F,by simp only[Gh.fY,if_true];exact h1,h2,λg hg=>by simp[Gh.fY,h3 g hg]⟩
  ·rw[if_neg hr,dN,if_neg hr,dN]at h
   split at h
   ·cases h
   ·rename_i hq;obtain⟨F,h1,h2,h3⟩:=hi.rw r x h;exact⟨F,by simp only[Gh.fY,if_neg (kD hr)];exact h1,h2,λg hg=>by simp[Gh.fY,h3 g hg,kD hq]⟩
 own:=λg hg=>hi.own g (λe=>hg (by simp[Gh.fY,e]))
 lI:=λg b hg=>hi.lI g b (by
  simp only[Gh.fY]at hg
  split at hg
  ·cases hg
  ·exact hg) }
theorem WV(hi:Inv γ h0 io w0 s f w){op:Op}{x:Operand}{y:KX}{d:Nat}(jd:op=.assign x\/op=.move x)(hx:jo N x y=true)(he:kc cf mf s (some d) (.Mq y)=some s')
  (h:∀γ' f' w',Inv γ' h0 io w0 s' f' w'->Tr (some d) (dW s (some d) (.Mq y)) γ w γ' w' f f'->K f' w'):rf P N ⟨some d,op,ty,pos,aft,gd⟩ f w K:=by
 have qh:=bH hi hx;have lQ:(execOp (fr f N).eval ⟨some d,op,ty,pos,aft,gd⟩).run P w=.ok (.value ((fr f N).eval x)) w:=by
  rcases jd with rfl|rfl
  ·exact hZ rfl
  ·exact fP rfl
 refine cX lQ ?_;simp only[kc]at he
 split at he
 ·rename_i q hq;rw[hq]at qh
  split at he
  ·rename_i row hl;simp only[aa]at he;subst he;have i1:=hi.fY (i:=tB d 0) hl;exact h _ _ _ (i1.put d (.ref (tB d 0)) _ (by
    simp only[CR]at qh ⊢
    simpa [Gh.fY] using qh)) ⟨sJ.refl _ _ _,λ_ _=>rfl,λ_=>aj _,.put⟩
  ·cases he
 ·rename_i hq;simp only[aa]at he;subst he;exact h _ _ _ (hi.put d _ _ qh) ⟨sJ.refl _ _ _,λ_ _=>rfl,λ_=>aj _,.put⟩
theorem vZ:∀(es:List (List D)) {bs:List Bool} {xs:List Value} {G:Fp},jt es=some bs->eH w es xs G->xs=bs.map Value.bool/\G=[]/\bs.length=es.length
 |[],bs,xs,G,h,hr=>by
  simp only[jt,aa]at h;subst h;simp only[eH]at hr;simp[hr.1,hr.2]
 |e::es,bs,xs,G,h,hr=>by
  match e,h with
  |[.bool b],h=>
   simp only[jt,ad]at h;obtain⟨cs,h1,rfl⟩:=h;simp only[eH,eb,Rp]at hr;obtain⟨v1,v2,F1,F2,rfl,rfl,⟨v,dZ,G1,G2,rfl,rfl,⟨rfl,rfl⟩,rfl,rfl⟩,h2⟩:=hr;obtain⟨rfl,rfl,h3⟩:=vZ es h1 h2;simp[h3]
  |[],h=>simp[jt]at h
  |[.int _ _],h=>simp[jt]at h
  |[.str _],h=>simp[jt]at h
  |[.list _ _ _],h=>simp[jt]at h
  |_::_::_,h=>simp[jt]at h
theorem DK:∀(bs:List Bool),eH w (bs.map λb=>[D.bool b]) (bs.map Value.bool) []
 |[]=>by simp[eH]
 |b::bs=>by
  simp only[aQ,eH,eb,Rp];exact⟨[.bool b],_,[],[],rfl,rfl,⟨.bool b,[],[],[],rfl,rfl,⟨rfl,rfl⟩,rfl,rfl⟩,DK bs⟩
theorem iI:∀(bs es:List Bool),(cG bs es).length=bs.length
 |[],es=>by cases es<;>simp[cG]
 |b::bs,[]=>by simp[cG]
 |b::bs,e::es=>by simp[cG,iI bs es]
theorem Yx(hi:Inv γ h0 io w0 s f w){r:Nat}{c:C}{v:Value}{es:List (List D)}(hc:CR γ w c v)(he:C_ s r c=some es)(iQ:es≠[]) :
  ∃b o n cc xs G,v=.slice (some ⟨b,o,none⟩) n cc/\n=es.length/\eH w es xs G/\gy w b o xs/\∀g,γ.ω g=.row r->γ.h g=0->b≠g:=by
 have hl:0 < es.length:=List.length_pos_iff.2 iQ;unfold C_ at he
 split at he
 ·rename_i fl ja;simp only[aa]at he;subst he;simp only[CR,Rp]at hc;obtain⟨F,⟨A,n,cc,q1,q2,q3,q4,q5,q6,q7,q8⟩,jV⟩:=hc;rcases q8 with ⟨q8,_⟩|⟨_,b,o,xs,G,rfl,rfl,a2,a3⟩
  ·omega
  ·refine⟨b,o,n,cc,xs,G,q1,q2,a2,a3,λg _ hg e=>?_⟩;have:=jV (b,o+n * 1) (by simp);simp only at this
   rw[e,hg]at this;omega
 ·rename_i q
  split at he
  ·rename_i row UE
   split at he
   ·rename_i hq;simp only[aa]at he;subst he;simp only[CR]at hc;obtain⟨F,hR,_,qM⟩:=hi.rw q row UE;obtain⟨A,n,cc,q1,q2,q3,q4,q5,q6,q7,q8⟩:=hR;rcases q8 with ⟨_,q8,_⟩|⟨b,o,xs,G,rfl,a2,a3,a4,a5,a6,a7,a8,a9,sL⟩
    ·omega
    ·have hb:γ.ω b=.row q:=qM b (by
      cases hd:row.deep with
      |true=>rw[(a9 hd).1];simp
      |false=>rw[(sL hd).1];simp)
     refine⟨b,o,n,cc,xs,G,hc.1.trans q1,q2,a4,a5,λg hg _ e=>?_⟩;rw[e,hg]at hb;simp only[Own.row.injEq]at hb;exact hq.2 hb.symm
   ·cases he
  ·cases he
 ·cases he
theorem ag9(hi:Inv γ h0 io w0 s f w){F0:FuncId}{fn:Func}(Et:P.funcs[F0]?=some fn)(TL:fn.body.isSome=true)(Q4:(fn.name == "runtime.NumGoroutine")=false)(hj:rn P F0){ts:Array TypeId}{x y:Operand}{a b:KX}{d:Nat}(hx:jo N x a=true)(hy:jo N y b=true)(he:kc cf mf s (some d) (.jn a b)=some s')
  (h:∀γ' f' w',Inv γ' h0 io w0 s' f' w'->Tr (some d) (dW s (some d) (.jn a b)) γ w γ' w' f f'->K f' w') :
  rf P N ⟨some d,.call {callee:=.value (.func F0),args:=#[x,y],argTypes:=ts },ty,pos,aft,gd⟩ f w K:=by
 have qh:=bH hi hx;have Yb:=bH hi hy;simp only[kc]at he
 split at he
 ·rename_i d0 r OZ I5;cases OZ;rw[I5]at qh;simp only[CR]at qh
  split at he
  ·rename_i row es hl vT
   split at he
   ·rename_i hc;obtain⟨hk,hrf,Gn,qU,hle⟩:=hc
    split at he
    ·rename_i bs cs hbs C5
     split at he
     ·rename_i iQ;simp only[aa]at he;subst he;obtain⟨lN,A,n,c,i2,b2,yc,n4,o2,l2,q1,q2,q3,q4,q5,q6,q7,q8⟩:=hi.th hl;have n6:(fr f N).eval x=.slice A n c:=qh.1.trans q1;have hrX:r∈dW s (some d) (.jn a b):=by simp[dW,I5,rowsOf]
      have Ai:0 < es.length:=List.length_pos_iff.2 iQ;rcases q8 with ⟨rfl,rfl⟩|⟨g,o,xs,G,rfl,a2,a3,a4,a5,a6,a7,a8,a9,sL,B9,a12⟩
      ·omega
      obtain⟨rfl,T,vs,hB,HF⟩:=sL qU;have yP:γ.h g=0:=a9 Gn;obtain⟨rfl,rfl,XX⟩:=vZ _ hbs a6;obtain⟨bb,oo,n2,cc,IT,G2,y1,y2,y3,y4,y5⟩:=Yx hi Yb vT iQ;obtain⟨rfl,rfl,ri⟩:=vZ _ C5 y3;have hlc:cs.length=bs.length:=by omega
      have hnb:n=bs.length:=by omega
      have UB:vs=bs.map Value.bool++vs.drop bs.length:=by
       have:vs.take bs.length=bs.map Value.bool:=by
        apply ed
        intro j;rw[dt];by_cases hj:j < bs.length
        ·rw[if_pos hj];have h7:=a7 j (Value.bool bs[j]) (by simp[hj]);rw[bm,hB.cell]at h7;rw[h7];simp[hj]
        ·rw[if_neg hj,jN (by simp;omega)]
       conv=>lhs;rw[<- bc bs.length vs,this]
      have Wo:=hB;rw[UB]at Wo;have pD:=hj w g T bs cs c bb oo n2 cc (vs.drop bs.length) Wo y4 (y5 g a3 yP) hlc (by omega);have ag1:(fr f N).eval x=.slice (some ⟨g,0,none⟩) bs.length c:=by rw[n6,hnb]
      have ag2:(fr f N).eval y=.slice (some ⟨bb,oo,none⟩) cs.length cc:=by rw[y1,y2,ri]
      refine xd (xD (jT Et TL Q4) rfl (by simp[ag1,ag2])) pD λe w' hp=>?_;obtain⟨rfl,rfl⟩:=hp;refine⟨_,rfl,?_⟩;have lh:=TD.gk w g ((cG bs cs).map Value.bool++vs.drop bs.length).toArray T;have mM:sJ γ (λo=>∃i∈dW s (some d) (.jn a b),o=.box i\/o=.row i) w _:=l6 hi lh ⟨r,hrX,.inr a3⟩ (λj hj=>by rw[yP]at hj;omega);have h5:=i2.M7 (l6 i2 lh (M:=λo=>o=.db) a4 (λj hj=>by rw[n4,yP]at hj;omega)) (by simp) (λb hb=>by cases hb) (λr hr=>by cases hr);have hB2:=hB.ky T ((cG bs cs).map Value.bool++vs.drop bs.length);have gD:gy (gk w g (.cells ((cG bs cs).map Value.bool++vs.drop bs.length).toArray T (0,0))) g 0 ((cG bs cs).map Value.bool):=by
       intro j u hu;refine hB2.J0 j u ?_;rw[cl (aI.1 hu).1];exact hu
      have Ux:=iI bs cs;have agY:((cG bs cs).map Value.bool++vs.drop bs.length).length=c * row.k:=by
       simp only[aL,au,Ux,gL];rw[hk]at HF ⊢;omega
      obtain⟨MZ,h6,h7,h8,h9,_,_⟩:=h5.sM (r:=r) (x:={row with es:=(cG bs cs).map λb=>[D.bool b] }) (n:=n) (c:=c) (g:=g) (o:=0) (by simp only[au,Ux];exact hnb) q3 q4 q5
       (λy hy=>by obtain⟨z,_,rfl⟩:=bQ.1 hy;simp[hk]) (λ_ y hy z hz=>by obtain⟨u,_,rfl⟩:=bQ.1 hy;simp at hz;subst hz;rfl)
       (by rw[fG];exact a2) (.inl a4) (i2.own g (by rw[a4];simp)).2 ⟨by rw[fG];omega,lh.fz⟩ (DK _) gD (by rw[n4,yP];omega) (λ_=>by rw[n4,yP]) (λ_=>⟨rfl,T,_,hB2,agY⟩)
       (λbe hb=>by simp at hb) (λ_=>⟨by simp,λbe hb=>by simp at hb⟩) (by rw[yc];exact q1)
      have e6:(s.cM r).setRow r {row with es:=(cG bs cs).map λb=>[D.bool b] }=s.setRow r {row with es:=(cG bs cs).map λb=>[D.bool b] }:=by
       have:pg (pg s.rw r) r=pg s.rw r:=by simp[pg,lD]
       simp[St.setRow,St.cM,this]
      rw[e6]at h6;exact h MZ _ _ (h6.put d _ _ gI) ⟨mM,λ_ _=>by rw[h8,b2],λz=>by have:=h9 z;rw[n4]at this;exact this,.put⟩
     ·cases he
    ·cases he
   ·cases he
  ·cases he
 ·cases he
end
end
section
open Go.RowKit
def Vd(Ds:List Nat)(l:Array Bool):Prop:=∀m∈Ds,l.getD m false=false
def Cons(Cl:List (List Nat×(World->Prop)))(l:Array Bool)(w:World):Prop:=∀p∈Cl,Vd p.1 l->p.2 w
theorem QL{l:Array Bool}{i m:Nat}(h:(l.setIfInBounds i true).getD m false=false):l.getD m false=false:=by
 cases h2:l.getD m false with
 |false=>rfl
 |true=>rw[getD_set_true h2]at h;cases h
theorem Ve{Ds:List Nat}{l:Array Bool}{i:Nat}(h:Vd Ds (l.setIfInBounds i true)):Vd Ds l:=λm hm=>QL (h m hm)
theorem vu{Ds:List Nat}{l:Array Bool}{i:Nat}(h:Vd Ds l)(hi:i∉Ds):Vd Ds (l.setIfInBounds i true):=λm hm=>by
 rw[getD_set_ne false (by intro e;subst e;exact hi hm)];exact h m hm
theorem Cons.set{Cl:List (List Nat×(World->Prop))}{l:Array Bool}{w:World}(h:Cons Cl l w)(i:Nat):Cons Cl (l.setIfInBounds i true) w:=λp hp hn=>h p hp (Ve hn)
theorem Cons.af8{Cl:List (List Nat×(World->Prop))}{l:Array Bool}{w:World}{i:Nat}(h:Cons Cl (l.setIfInBounds i true) w)(hi:∀p∈Cl,i∉p.1):Cons Cl l w:=λp hp hn=>h p hp (vu hn (hi p hp))
section
variable {P:Program} {ops:Array Oper} {Q:Exit->Act->World->Prop} {md:Region.Mode}
def pa(P:Program)(md:Region.Mode)(ops:Array Oper)(Q:Exit->Act->World->Prop)(Cl:List (List Nat×(World->Prop))):Nat->Array Bool->Act->World->Prop
 |0,listed,a,w=>Region.ready md ops listed=[]/\Q .normal a w
 |fuel+1,listed,a,w=>
  (Region.ready md ops listed=[]->Q .normal a w)/\
  ∀i∈Region.ready md ops listed,wpOp P ops Q i (λa' w'=>Cons Cl (listed.setIfInBounds i true) w'/\pa P md ops Q Cl fuel (listed.setIfInBounds i true) a' w') a w
theorem BR{Cl:List (List Nat×(World->Prop))}:∀(fuel:Nat) (listed:Array Bool) (a:Act) (w:World),pa P md ops Q Cl fuel listed a w->wpAny P md ops Q fuel listed a w
 |0,_,_,_,h=>h
 |fuel+1,_,_,_,h=>⟨h.1,λi hi=>wpOp_mono (λa' w' h'=>BR fuel _ a' w' h'.2) (h.2 i hi)⟩
def okD(md:Region.Mode)(ops:Array Oper)(i:Nat)(al:List Nat):Bool:=al.all λj=>match ops[j]? with
 |some o=>o.after.any λe=>Region.binds md e && (e.on ==i ||al.contains e.on)
 |none=>false
theorem RY{i:Nat}{al:List Nat}(h:okD md ops i al=true){listed:Array Bool}(hi:listed.getD i false=false)(hn:Vd al listed){j:Nat}(hj:j∈Region.ready md ops listed):j∉al:=by
 intro hm;have h1:=aS.1 h j hm;obtain⟨_,o,ho,jU⟩:=mem_ready.1 hj;rw[ho]at h1;obtain⟨e,he,hb⟩:=Array.any_eq_true'.1 h1;simp only[ab,dD,beq_iff_eq,List.contains_iff_mem]at hb;have h2:=jU e he hb.1;rcases hb.2 with h3|h3
 ·rw[h3,hi]at h2;cases h2
 ·rw[hn _ h3]at h2;cases h2
theorem af5{Cl:List (List Nat×(World->Prop))}{i:Nat}{oi:Oper}{v:Value}{V:World->Prop}{al dn:List Nat}(hi:ops[i]?=some oi)(abH:∀(j:Nat) (o:Oper) cs b,ops[j]?=some o->o.op≠.select cs b)
  (hQ:∀c a w,Q (.panic c) (a.put oi.dst v) w->Q (.panic c) a w) (hD:okD md ops i al=true) (Ht:∀m∈dn,m∈al) (hid:i∉dn) (hCi:∀p∈Cl,i∉p.1) :
  ∀(fuel:Nat) (listed:Array Bool) (a:Act) (w:World),
   (∀j oj,ops[j]?=some oj->j≠i->listed.getD j true=false->(∀e∈oj.after,Region.binds md e=true->e.on≠i)->oi.apart ops oj=true)->
   i∈Region.ready md ops listed->Vd al listed->YieldsIf P ops V oi v a->V w->Cons Cl listed w->
   pa P md ops Q ((dn,V)::Cl) fuel (listed.setIfInBounds i true) (a.put oi.dst v) w->pa P md ops Q Cl (fuel+1) listed a w:=by
 intro fuel;have down:∀(fuel:Nat) (listed:Array Bool) (a:Act) (w:World),pa P md ops Q ((dn,V)::Cl) fuel listed a w->pa P md ops Q Cl fuel listed a w:=by
  intro fuel
  induction fuel with
  |zero=>intro listed a w h;exact h
  |succ fuel ih=>intro listed a w h;exact⟨h.1,λj hj=>wpOp_mono (λa' w' h'=>⟨λp hp=>h'.1 p (by simp[hp]),ih _ a' w' h'.2⟩) (h.2 j hj)⟩
 induction fuel with
 |zero=>
  intro listed a w _ hr hn hy hV hC H;refine⟨λh=>(by rw[h]at hr;cases hr),λj hj=>?_⟩;by_cases Uw:j=i
  ·subst Uw;exact hy.wpOp hi hV ⟨hC.set j,down _ _ _ _ H⟩
  ·have:=ready_mono hj Uw;rw[H.1]at this;cases this
 |succ fuel ih=>
  intro listed a w Hx hr hn hy hV hC H;refine⟨λh=>(by rw[h]at hr;cases hr),λj hj=>?_⟩;by_cases Uw:j=i
  ·subst Uw;exact hy.wpOp hi hV ⟨hC.set j,down _ _ _ _ H⟩
  ·have h1:=H.2 j (ready_mono hj Uw);obtain⟨abu,oj,hoj,jU⟩:=mem_ready.1 hj;have abt:listed.getD i false=false:=by
    have h0:=(mem_ready.1 hr).1;rcases cY i listed.size with h'|h'
    ·simp[h']at h0 ⊢;exact h0
    ·simp[sH h']at h0
   have hja:=RY hD abt hn hj;have agR:∀e∈oj.after,Region.binds md e=true->e.on≠i:=λe he hb heq=>by
    have h1:=jU e he hb;rw[heq,abt]at h1;cases h1
   have h2:=wpOp_putIf (S:=V) hoj (Hx j oj hoj Uw abu agR) (λcs b=>abH i oi cs b hi) (λcs b=>abH j oj cs b hoj) hQ hy h1;have X2:∀k ok,ops[k]?=some ok->k≠i->(listed.setIfInBounds j true).getD k true=false->
     (∀e∈ok.after,Region.binds md e=true->e.on≠i)->oi.apart ops ok=true:=λk ok hk hki hun hno=>by
    refine Hx k ok hk hki ?_ hno;by_cases hjk:j=k
    ·subst hjk;exact abu
    ·rw[getD_set_ne true hjk]at hun;exact hun
   refine wpOp_mono (λa' w' h3=>?_) h2;obtain⟨h3,h4,h5⟩:=h3;have Up:Cons Cl (listed.setIfInBounds j true) w':=by
    rw[Array.setIfInBounds_comm _ _ (kD Uw)]at h4;exact Cons.af8 (i:=i) (λp hp=>h4 p (by simp[hp])) hCi
   have hnj:Vd al (listed.setIfInBounds j true):=vu hn hja;have hV':V w':=h4 (dn,V) (by simp) (vu (vu (λm hm=>hn m (Ht m hm)) hid) (λhm=>hja (Ht j hm)));refine⟨Up,ih (listed.setIfInBounds j true) a' w' X2 (ready_mono hr (kD Uw)) hnj h3 hV' Up ?_⟩;rw[Array.setIfInBounds_comm _ _ Uw];exact h5
end
section
variable {P:Program} {N:Nat} {Kn:Fm->World->Prop} {Ke:Nat->Fm->World->Prop} {Kr:Fm->World->Prop} {f:Fm} {w:World} {ops:Array Oper}
structure Ent where
 i:Nat
 q:Bool
 al:List Nat
 dn:List Nat
inductive ET where
 |nil
 |op (e:Ent) (t:ET)
 |alt (e:Ent) (t r:ET)
def ET.len:ET->Nat
 | .nil=>0
 | .op _ t=>t.len+1
 | .alt _ t _=>t.len+1
def ET.Ca(p:Ent->Bool):ET->Bool
 | .nil=>true
 | .op e t=>p e && t.Ca p
 | .alt e t r=>p e && t.Ca p && r.Ca p
def ET.Hu:ET->List Nat
 | .nil=>[]
 | .op e _=>[e.i]
 | .alt e _ r=>e.i::r.Hu
def D7(ops:Array Oper):Bool->ET->Array Bool->Bool
 |top,.nil,listed=>top && (Region.ready .any ops listed).isEmpty
 |top,.op e s,listed=>(if e.q then top && (Region.ready .any ops listed).contains e.i && Region.free .any ops listed e.i && okD .any ops e.i e.al && e.al.all (λm=>!listed.getD m false) && e.dn.all e.al.contains && !e.dn.contains e.i && s.Ca (λe'=>!e'.q ||!e.dn.contains e'.i) else !top ||Region.ready .any ops listed ==[e.i]) && D7 ops true s (listed.setIfInBounds e.i true)
 |top,.alt e s r,listed=>(!top ||Region.ready .any ops listed ==e.i::r.Hu) && !e.q && s.len+1 ==r.len && D7 ops true s (listed.setIfInBounds e.i true) && D7 ops false r listed
def Dv(P:Program)(N:Nat)(ops:Array Oper)(Kn:Fm->World->Prop):List (List Nat×(World->Prop))->ET->Array Bool->Fm->World->Prop
 |_,.nil,_,f,w=>Kn f w
 |Cl,.op e s,l,f,w=>if e.q then
   ∃o v f' V,ops[e.i]?=some o/\YieldsIf P ops V o v (fr f N)/\(fr f N).put o.dst v=fr f' N/\V w/\Dv P N ops Kn ((e.dn,V)::Cl) s (l.setIfInBounds e.i true) f' w
  else wpOp P ops (Oy N Kn (λ_ _ _=>False) (λ_ _=>False)) e.i (λa' w'=>Cons Cl (l.setIfInBounds e.i true) w'/\∃f',a'=fr f' N/\Dv P N ops Kn Cl s (l.setIfInBounds e.i true) f' w') (fr f N) w
 |Cl,.alt e s r,l,f,w=>wpOp P ops (Oy N Kn (λ_ _ _=>False) (λ_ _=>False)) e.i (λa' w'=>Cons Cl (l.setIfInBounds e.i true) w'/\∃f',a'=fr f' N/\Dv P N ops Kn Cl s (l.setIfInBounds e.i true) f' w') (fr f N) w/\Dv P N ops Kn Cl r l f w
theorem uZ(hs:Region.noSelect ops=true):∀(s:ET) (Cl:List (List Nat×(World->Prop))) (listed:Array Bool) (f:Fm) (w:World) (top:Bool),D7 ops top s listed=true->(∀p∈Cl,s.Ca (λe=>!e.q ||!p.1.contains e.i)=true)->Cons Cl listed w->Dv P N ops Kn Cl s listed f w->
  (top=true->pa P .any ops (Oy N Kn (λ_ _ _=>False) (λ_ _=>False)) Cl s.len listed (fr f N) w)/\
  (top=false->∀j∈s.Hu,∃n,s.len=n+1/\wpOp P ops (Oy N Kn (λ_ _ _=>False) (λ_ _=>False)) j (λa' w'=>Cons Cl (listed.setIfInBounds j true) w'/\pa P .any ops (Oy N Kn (λ_ _ _=>False) (λ_ _=>False)) Cl n (listed.setIfInBounds j true) a' w') (fr f N) w)
 | .nil,Cl,listed,f,w,top,hc,_,_,h=>by
  simp only[D7,ab]at hc;refine⟨λ_=>?_,λht=>(by rw[ht]at hc;cases hc.1)⟩;have hr:Region.ready .any ops listed=[]:=by simpa using hc.2
  exact⟨hr,f,rfl,h⟩
 | .op e s,Cl,listed,f,w,top,hc,hq,hC,h=>by
  simp only[D7,ab]at hc;obtain⟨km,nO⟩:=hc;have hq1:∀p∈Cl,(!e.q ||!p.1.contains e.i)=true/\s.Ca (λe=>!e.q ||!p.1.contains e.i)=true:=λp hp=>by
   have:=hq p hp
   simpa only [ET.Ca,ab] using this
  simp only[Dv]at h;cases heq:e.q with
  |true=>
   rw[heq]at h km;simp only[if_true,ab,cq]at h km;obtain⟨⟨⟨⟨⟨⟨⟨ht,hr⟩,k1⟩,k2⟩,k3⟩,k4⟩,k5⟩,k6⟩:=km;refine⟨λ_=>?_,λWG=>(by rw[ht]at WG;cases WG)⟩;obtain⟨o,v,f',V,ho,hy,hp,hV,hd⟩:=h;have Ht:∀m∈e.dn,m∈e.al:=λm hm=>by simpa using aS.1 k4 m hm
   have agO:Vd e.al listed:=λm hm=>by simpa using aS.1 k3 m hm
   refine af5 ho (Region.noSelect_spec hs) (λc a w hq=>hq.elim) k2 Ht (by simpa using k5) (λp Gq=>by have:=(hq1 p Gq).1;simpa [heq] using this) s.len listed (fr f N) w (Region.free_spec ho k1) (by simpa using hr) agO hy hV hC ?_;rw[hp];refine (uZ hs s _ _ f' w true nO (λp Gq=>?_) (λp Gq hn=>?_) hd).1 rfl
   ·rcases ay.1 Gq with rfl|Gq
    ·exact k6
    ·exact (hq1 p Gq).2
   ·rcases ay.1 Gq with rfl|Gq
    ·exact hV
    ·exact (hC.set e.i) p Gq hn
  |false=>
   rw[heq]at h km;simp only[av,if_false,dD,cq,beq_iff_eq]at h km;have step:wpOp P ops (Oy N Kn (λ_ _ _=>False) (λ_ _=>False)) e.i (λa' w'=>Cons Cl (listed.setIfInBounds e.i true) w'/\pa P .any ops (Oy N Kn (λ_ _ _=>False) (λ_ _=>False)) Cl s.len (listed.setIfInBounds e.i true) a' w') (fr f N) w:=by
    refine wpOp_mono ?_ h
    rintro a' w' ⟨Up,f',rfl,hd⟩
    exact⟨Up,(uZ hs s Cl _ f' w' true nO (λp hp=>(hq1 p hp).2) Up hd).1 rfl⟩
   refine⟨λht=>⟨λh0=>?_,λj hj=>?_⟩,λ_ j hj=>?_⟩
   ·rcases km with h1|h1
    ·rw[ht]at h1;cases h1
    ·rw[h1]at h0;cases h0
   ·rcases km with h1|h1
    ·rw[ht]at h1;cases h1
    ·rw[h1]at hj;simp only[ct]at hj;subst hj;exact step
   ·simp only[ET.Hu,ct]at hj;subst hj;exact⟨s.len,rfl,step⟩
 | .alt e s r,Cl,listed,f,w,top,hc,hq,hC,h=>by
  simp only[D7,ab,dD,cq,beq_iff_eq]at hc;obtain⟨⟨⟨⟨km,nO⟩,Ci⟩,hc4⟩,hc5⟩:=hc;have hq1:∀p∈Cl,s.Ca (λe=>!e.q ||!p.1.contains e.i)=true/\r.Ca (λe=>!e.q ||!p.1.contains e.i)=true:=λp hp=>by
   have:=hq p hp;simp only[ET.Ca,ab]at this;exact⟨this.1.2,this.2⟩
  simp only[Dv]at h;have all:∀j∈e.i::r.Hu,wpOp P ops (Oy N Kn (λ_ _ _=>False) (λ_ _=>False)) j (λa' w'=>Cons Cl (listed.setIfInBounds j true) w'/\pa P .any ops (Oy N Kn (λ_ _ _=>False) (λ_ _=>False)) Cl s.len (listed.setIfInBounds j true) a' w') (fr f N) w:=by
   intro j hj;rcases ay.1 hj with rfl|hj
   ·refine wpOp_mono ?_ h.1
    rintro a' w' ⟨Up,f',rfl,hd⟩
    exact⟨Up,(uZ hs s Cl _ f' w' true hc4 (λp hp=>(hq1 p hp).1) Up hd).1 rfl⟩
   ·obtain⟨n,hn,hw⟩:=(uZ hs r Cl listed f w false hc5 (λp hp=>(hq1 p hp).2) hC h.2).2 rfl j hj;have:n=s.len:=by omega
    subst this;exact hw
  refine⟨λht=>⟨λh0=>?_,λj hj=>?_⟩,λ_ j hj=>⟨s.len,rfl,all j hj⟩⟩
  ·rcases km with h1|h1
   ·rw[ht]at h1;cases h1
   ·rw[h1]at h0;cases h0
  ·rcases km with h1|h1
   ·rw[ht]at h1;cases h1
   ·rw[h1]at hj;exact all j hj
theorem V3{id:Nat}{l:List Oper}(s:ET)(hm:P.follows .mixedOrders=true)(hs:Region.noSelect l.toArray=true)(hn:s.len=l.toArray.size)
  (hc:D7 l.toArray true s (nW l.toArray.size false)=true) (h:Dv P N l.toArray Kn [] s (nW l.toArray.size false) f w.drew):W P N (.region id l.toArray true) Kn Ke Kr f w:=by
 have h1:=(uZ hs s [] _ f w.drew true hc (λp hp=>by simp at hp) (λp hp=>by simp at hp) h).1 rfl;rw[hn]at h1;unfold W;refine wp_mono (wp_region_any hm (BR _ _ _ _ h1)) ?_;intro e a w hq;cases e with
 |normal=>exact hq
 |exit id=>obtain⟨_,_,h⟩:=hq;exact h.elim
 |ret=>obtain⟨_,_,h⟩:=hq;exact h.elim
 |goto l=>exact hq.elim
 |panic c=>exact hq.elim
 |outgrown=>exact hq.elim
variable {Cl:List (List Nat×(World->Prop))} {s:ET} {e:Ent} {lst:Array Bool} {o:Oper}
theorem af_(h:Kn f w):Dv P N ops Kn Cl .nil lst f w:=h
theorem aiy(hq:e.q=false)(hi:ops[e.i]?=some o)(hg:og N ops f o.guard)(h:rf P N o f w (λf' w'=>Cons Cl (lst.setIfInBounds e.i true) w'/\Dv P N ops Kn Cl s (lst.setIfInBounds e.i true) f' w')):Dv P N ops Kn Cl (.op e s) lst f w:=by
 simp only[Dv,hq,av,if_false,wpOp,hi];rw[if_pos (show Region.wanted o _=true from hg)];exact .inl (h.Z4 λf' w' hk=>⟨hk.1,f',rfl,hk.2⟩)
theorem af9{t:ET}(hi:ops[e.i]?=some o)(hg:og N ops f o.guard)(h:rf P N o f w (λf' w'=>Cons Cl (lst.setIfInBounds e.i true) w'/\Dv P N ops Kn Cl s (lst.setIfInBounds e.i true) f' w'))(h2:Dv P N ops Kn Cl t lst f w):Dv P N ops Kn Cl (.alt e s t) lst f w:=by
 refine⟨?_,h2⟩;simp only[wpOp,hi];rw[if_pos (show Region.wanted o _=true from hg)];exact .inl (h.Z4 λf' w' hk=>⟨hk.1,f',rfl,hk.2⟩)
theorem v_q(hq:e.q=true)(hi:ops[e.i]?=some o){d:Nat}(hd:o.dst=some d)(hg:og N ops f o.guard){v:Value}(V:World->Prop)(hr:∀w,V w->(execOp (fr f N).eval o).run P w=.ok (.value v) w)(hV:V w)
  (h:Dv P N ops Kn ((e.dn,V)::Cl) s (lst.setIfInBounds e.i true) (yi f d v) w):Dv P N ops Kn Cl (.op e s) lst f w:=by
 simp only[Dv,hq,if_true];refine⟨_,v,_,V,hi,.inl ⟨hg,hr⟩,?_,hV,h⟩;rw[hd];exact qg f N d v
variable {d:Nat} {op:Op} {ty:TypeId} {pos:String} {aft:Array Edge} {gd:Option (Nat×Bool)}
theorem Z8(hq:e.q=true)(hi:ops[e.i]?=some ⟨some d,op,ty,pos,aft,gd⟩)(hg:gW N ops f gd)
  (h:Dv P N ops Kn ((e.dn,λ_=>True)::Cl) s (lst.setIfInBounds e.i true) (yi f d undef) w):Dv P N ops Kn Cl (.op e s) lst f w:=by
 simp only[Dv,hq,if_true];exact⟨_,undef,_,λ_=>True,hi,.inr ⟨hg,rfl⟩,qg f N d _,trivial,h⟩
theorem V0(hq:e.q=false)(hi:ops[e.i]?=some ⟨some d,op,ty,pos,aft,gd⟩)(hg:gW N ops f gd)(hC:Cons Cl (lst.setIfInBounds e.i true) w)
  (h:Dv P N ops Kn Cl s (lst.setIfInBounds e.i true) (yi f d undef) w):Dv P N ops Kn Cl (.op e s) lst f w:=by
 simp only[Dv,hq,av,if_false,wpOp,hi];rw[if_neg (hg.to _ _ _ _ _)];exact⟨hC,_,qg f N d _,h⟩
theorem Z7{t:ET}(hi:ops[e.i]?=some ⟨some d,op,ty,pos,aft,gd⟩)(hg:gW N ops f gd)(hC:Cons Cl (lst.setIfInBounds e.i true) w)
  (h:Dv P N ops Kn Cl s (lst.setIfInBounds e.i true) (yi f d undef) w) (h2:Dv P N ops Kn Cl t lst f w):Dv P N ops Kn Cl (.alt e s t) lst f w:=by
 refine⟨?_,h2⟩;simp only[wpOp,hi];rw[if_neg (hg.to _ _ _ _ _)];exact⟨hC,_,qg f N d _,h⟩
end
end
section
open Go.RowKit
section
variable (P:Program) (N:Nat) (num:Nat->FuncId)
def Ll(T:TypeId):Option (TypeId×TypeInfo×Value):=
 match P.underlying T with
 |some (.slice E)=>match P.info? E with
  |some i=>match i.zero with
   |some z=>some (E,i,z)
   |none=>none
  |none=>none
 |_=>none
def ku(F:FuncId):Bool:=
 match P.funcs[F]? with
 |some fn=>fn.body.isSome && !(fn.name == "runtime.NumGoroutine")
 |none=>false
def RZ:Op->Option Tmp->KO->Bool
 | .alloc T,some _,.alloc zs=>(match qS P T with
   |some z=>FC z zs
   |none=>false)
 | .box _ x,some _,.box y=>jo N x y
 | .buildSlice T n ps,some _,.na k _ ys=>(match P.underlying T with
   |some (.slice E)=>mB P E ==some k && (n ==0 ||(qS P E).isSome) && Bi N 0 ps.toList ys && n ==ps.size && nz (n * k) 16777216
   |_=>false)
 | .makeSlice T a b,some _,.make k by_ fl zs y=>jo N a y && jo N b y && (match Ll P T with
   |some (_,i,z)=>i.size ==k && i.bytes ==by_ && fk 0 k && Bk z.cells.toList zs && zs.length ==k && (!fl ||cQ zs)
   |none=>false)
 | .store T x v,none,.st n a b=>mB P T ==some n && jo N x a && jo N v b
 | .call c,some _,.app k by_ _ a b=>(match c.callee,c.args.toList,c.argTypes.toList with
   | .builtin .append,[x,y],[T,T']=>T ==T' && jo N x a && jo N y b && (match Ll P T with
    |some (_,i,z)=>i.size ==k && i.bytes ==by_ && z.cells.size ==k && fk 0 k
    |none=>false)
   |_,_,_=>false)
 | .call c,_,.call g xs=>(match c.callee with
   | .value (.func F)=>F ==num g && ku P F && yx N c.args.toList xs
   |_=>false)
 | .call c,some _,.J7 g y y2=>(match c.callee,c.args.toList with
   | .value (.func F),[x,x2]=>F ==num g && ku P F && jo N x y && jo N x2 y2
   |_,_=>false)
 | .assign x,some _,.Mq y=>jo N x y
 | .move x,some _,.Mq y=>jo N x y
 | .call c,some _,.jn a b=>(match c.callee,c.args.toList with
   | .value (.func F),[x,y]=>F ==num 9004 && !(num 9004 ==1000000) && ku P F && jo N x a && jo N y b
   |_,_=>false)
 | .call c,some _,.xL k a b=>(match c.callee,c.args.toList,c.argTypes.toList with
   | .builtin .copy,[x,y],[T,_]=>jo N x a && jo N y b && (match P.underlying T with
    |some (.slice E)=>mB P E ==some k
    |_=>false)
   |_,_,_=>false)
 | .slice T x lo hi none,some _,.cut k y b c=>(match P.underlying T with
   |some (.slice E)=>mB P E ==some k && jo N x y && yv N lo b && yv N hi c
   |_=>false)
 |_,_,_=>false
def Im(ops:Array Oper):Option (Nat×Bool)->Option (Nat×Bool)->Bool
 |none,none=>true
 |some (j,want),some (g,vP)=>want ==vP && (match ops[j]? with
   |some o=>o.dst ==some g && fk g N
   |none=>false)
 |_,_=>false
def W2(ops:Array Oper)(o:Oper)(i:KI):Bool:=
 o.dst ==i.dst && (match i.dst with
  |some d=>fk d N && fk d 900
  |none=>true) && Im N ops o.guard i.gd && (if i.op.ji then i.dst.isSome && qx P N o.op i.op else RZ P N num o.op i.dst i.op)
def yw(ops:Array Oper):List Oper->List KI->Bool
 |[],[]=>true
 |o::os,i::is=>W2 P N num ops o i && yw ops os is
 |_,_=>false
def KD.vR(x:KD):Ent:=⟨x.j,x.q,x.al,x.dn⟩
def KT.vR:KT->ET
 | .nil=>.nil
 | .op x t=>.op x.vR t.vR
 | .alt x t r=>.alt x.vR t.vR r.vR
def Ka(ops:Array Oper):KT->Bool
 | .nil=>true
 | .op ⟨j,q,_,_,i⟩ is=>(match ops[j]? with
   |some o=>W2 P N num ops o i && (!q ||i.op.ji) && (i.gd.isNone ||i.dst.isSome)
   |none=>false) && Ka ops is
 | .alt ⟨j,q,_,_,i⟩ is r=>(match ops[j]? with
   |some o=>W2 P N num ops o i && !q && (i.gd.isNone ||i.dst.isSome)
   |none=>false) && Ka ops is && Ka ops r
def mP:K->Code->Bool
 | .skip,.skip=>true
 | .cp is _,.region _ ops false=>yw P N num ops ops.toList is
 | .Lk is _,.region _ ops true=>Ka P N num ops is && Region.noSelect ops && is.vR.len ==ops.size && D7 ops true is.vR (nW ops.size false)
 | .seq a b,.seq c d=>mP a c && mP b d
 | .cond x a b,.cond y c d=>jo N y x && mP a c && mP b d
 | .block i a,.block j c=>i ==j && mP a c
 | .loop a,.loop c=>mP a c
 | .exit i,.exit j=>i ==j
 | .ret,.ret=>true
 | .share _ a,c=>mP a c
 | .I0 _ a,c=>mP a c
 |_,_=>false
end
theorem G8{P:Program}{T:TypeId}{E:TypeId}{i:TypeInfo}{z:Value}(h:Ll P T=some (E,i,z)):P.underlying T=some (.slice E)/\P.info? E=some i/\i.zero=some z:=by
 unfold Ll at h
 split at h
 ·rename_i E' hu
  split at h
  ·rename_i i' hi
   split at h
   ·rename_i z' hz;simp only[aa,ak]at h;obtain⟨rfl,rfl,rfl⟩:=h;exact⟨hu,hi,hz⟩
   ·cases h
  ·cases h
 ·cases h
section
variable {P:Program} {γ:Gh} {h0:Nat->Nat} {io:List Nat} {w0:World} {s s':St} {f:Fm} {w:World} {N:Nat} {num:Nat->FuncId} {K':Fm->World->Prop}
 {cf:Nat->List A->Option (List A×List A)} {mf:Nat->Bool->List D->Int->Option (List D×Int)}
theorem sn(kN:Cts w0 io P num cf)(lg:∀g ag ds q ga q',mf g ag ds q=some (ga,q')->oO w0 io P (num g) ag ds q ga q')(hi:Inv γ h0 io w0 s f w){op:Op}{dst:Option Tmp}{nC:KO}{ty:TypeId}{pos:String}{aft:Array Edge}{gd:Option (Nat×Bool)}(bZ:RZ P N num op dst nC=true)(he:kc cf mf s dst nC=some s')
  (h:∀γ' f' w',Inv γ' h0 io w0 s' f' w'->Tr dst (dW s dst nC) γ w γ' w' f f'->K' f' w'):rf P N ⟨dst,op,ty,pos,aft,gd⟩ f w K':=by
 unfold RZ at bZ
 split at bZ
 ·split at bZ
  ·rename_i z hz;exact Va hi hz bZ he (by simpa only [dW,mV] using h)
  ·cases bZ
 ·exact ace hi bZ he (by simpa only [dW,mV] using h)
 ·split at bZ
  ·rename_i E hU;simp only[ab,dD,beq_iff_eq]at bZ;obtain⟨⟨⟨⟨h1,h2⟩,h3⟩,h4⟩,h5⟩:=bZ;exact Vb hi hU h1 h2 h3 h4 h5 he (by simpa only [dW,mV,List.singleton_append] using h)
  ·cases bZ
 ·simp only[ab]at bZ;obtain⟨⟨h1,h2⟩,h3⟩:=bZ
  split at h3
  ·rename_i E i z yp;obtain⟨hU,hI,hz⟩:=G8 yp;simp only[ab,beq_iff_eq,lE,dD,cq]at h3;obtain⟨⟨⟨⟨⟨k1,k2⟩,k3⟩,k4⟩,k5⟩,k6⟩:=h3;exact YK hi hU hI hz k1 k2 k3 k4 k5 (λhf=>by rcases k6 with h|h<;>simp_all) h1 h2 he (by simpa only [dW,mV] using h)
  ·cases h3
 ·simp only[ab,beq_iff_eq]at bZ;obtain⟨⟨h1,h2⟩,h3⟩:=bZ;exact ag_ hi h1 h2 h3 he h
 ·rename_i c d k by_ fl a b
  split at bZ
  ·rename_i x y T T' km nO Ci;simp only[ab,beq_iff_eq]at bZ;obtain⟨⟨⟨rfl,h1⟩,h2⟩,h3⟩:=bZ;obtain⟨TJ,args,Jh⟩:=c;simp only at km nO Ci
   subst km;have ea:args=#[x,y]:=by rw[<- nO]
   have et:Jh=#[T,T]:=by rw[<- Ci]
   subst ea et
   split at h3
   ·rename_i E i z yp;obtain⟨hU,hI,hz⟩:=G8 yp;simp only[ab,beq_iff_eq,lE]at h3;obtain⟨⟨⟨k1,k2⟩,k3⟩,k4⟩:=h3;exact acd hi hU hI hz k1 k2 k3 k4 h1 h2 he h
   ·cases h3
  ·cases bZ
 ·rename_i c g xs
  split at bZ
  ·rename_i F km;simp only[ab,beq_iff_eq]at bZ;obtain⟨⟨rfl,h1⟩,h2⟩:=bZ;obtain⟨TJ,args,Jh⟩:=c;simp only at km
   subst km;unfold ku at h1
   split at h1
   ·rename_i fn Et;simp only[ab,cq]at h1;exact YJ hi Et h1.1 h1.2 h2 (kN.1 g) he h
   ·cases h1
  ·cases bZ
 ·rename_i c d g y y2
  split at bZ
  ·rename_i F x x2 km nO;simp only[ab,beq_iff_eq]at bZ;obtain⟨⟨⟨rfl,h1⟩,h2⟩,h3⟩:=bZ;obtain⟨TJ,args,Jh⟩:=c;simp only at km nO
   subst km;have ea:args=#[x,x2]:=by rw[<- nO]
   subst ea;unfold ku at h1
   split at h1
   ·rename_i fn Et;simp only[ab,cq]at h1;exact YL hi Et h1.1 h1.2 h2 h3 (lg g) he h
   ·cases h1
  ·cases bZ
 ·exact WV hi (.inl rfl) bZ he h
 ·exact WV hi (.inr rfl) bZ he h
 ·rename_i c d a b
  split at bZ
  ·rename_i F x y km nO;simp only[ab,beq_iff_eq,cq,beq_eq_false_iff_ne]at bZ;obtain⟨⟨⟨⟨rfl,hn⟩,h1⟩,h2⟩,h3⟩:=bZ;obtain⟨TJ,args,Jh⟩:=c;simp only at km nO
   subst km;have ea:args=#[x,y]:=by rw[<- nO]
   subst ea;unfold ku at h1
   split at h1
   ·rename_i fn Et;simp only[ab,cq]at h1;exact ag9 hi Et h1.1 h1.2 (kN.2 hn) h2 h3 he h
   ·cases h1
  ·cases bZ
 ·rename_i c d k a b
  split at bZ
  ·rename_i x y T T' km nO Ci;simp only[ab]at bZ;obtain⟨⟨h1,h2⟩,h3⟩:=bZ;obtain⟨TJ,args,Jh⟩:=c;simp only at km nO Ci
   subst km;have ea:args=#[x,y]:=by rw[<- nO]
   have et:Jh=#[T,T']:=by rw[<- Ci]
   subst ea et
   split at h3
   ·rename_i E hU;simp only[beq_iff_eq]at h3;exact acf hi hU h3 h1 h2 he h
   ·cases h3
  ·cases bZ
 ·split at bZ
  ·rename_i E hU;simp only[ab,beq_iff_eq]at bZ;obtain⟨⟨⟨h1,h2⟩,h3⟩,h4⟩:=bZ;exact acg hi hU h1 h2 h3 h4 he h
  ·cases bZ
 ·cases bZ
theorem oz{ops:Array Oper}(hi:Inv γ h0 io w0 s f w){j g:Nat}{want:Bool}(bZ:Im N ops (some (j,want)) (some (g,want))=true):(∀b,s.get g=.d (.bool b)->b=want->og N ops f (some (j,want)))/\(∀b,s.get g=.d (.bool b)->b≠want->gW N ops f (some (j,want)))/\(s.get g=.qZ->gW N ops f (some (j,want))):=by
 simp only[Im,ab]at bZ;obtain⟨_,bZ⟩:=bZ
 split at bZ
 ·rename_i o ho;simp only[ab,beq_iff_eq]at bZ;have hj:(ops[j]?).bind (·.dst)=some g:=by rw[ho];exact bZ.1
  have hg:=hi.get g;refine⟨λb hb hw=>?_,λb hb hw=>?_,λhu=>?_⟩
  ·rw[hb]at hg;have hv:=ot hg;subst hw;exact wy hv hj bZ.2
  ·rw[hb]at hg;have hv:=ot hg;have:b=!want:=by cases b<;>cases want<;>simp_all
   rw[this]at hv;exact wx hv hj bZ.2
  ·rw[hu]at hg;simp only[CR]at hg;exact wu hg hj bZ.2
 ·cases bZ
def uL(β0:Nat->Nat)(h0:Nat->Nat)(io:List Nat)(w0:World)(s:St)(f:Fm)(w:World):Prop:=∃γ,Inv γ h0 io w0 s f w/\∀b,900<=b->γ.β b=β0 b
variable {β0:Nat->Nat}
theorem uL.cH(h:uL β0 h0 io w0 s f w)(kp:j6):uL β0 h0 io w0 (s.cH kp) f w:=by
 obtain⟨γ,hi,hb⟩:=h;exact⟨γ,hi.sub (λd c hl=>jX _ _ d c hl) (λd c hl=>jX _ _ d c hl) (λd c hl=>jX _ _ d c hl),hb⟩
theorem wq{d:Option Nat}{o:KO}(he:yn cf mf s d o=some s'):(o.ji=true/\∃c,gG s o=some c/\s'=s.put d c)\/(o.ji=false/\kc cf mf s d o=some s'):=by
 unfold yn at he
 split at he
 ·rename_i hp;simp only[ad]at he;obtain⟨c,h1,h2⟩:=he;exact .inl ⟨hp,c,h1,h2.symm⟩
 ·rename_i hp;exact .inr ⟨by simpa using hp,he⟩
theorem pL(kN:Cts w0 io P num cf)(lg:∀g ag ds q ga q',mf g ag ds q=some (ga,q')->oO w0 io P (num g) ag ds q ga q'){ops:Array Oper}{Kn:Fm->World->Prop}:∀(os:List Oper) (is:List KI) {s s':St} {f:Fm} {w:World},yw P N num ops os is=true->la cf mf is s=some s'->uL β0 h0 io w0 s f w->(∀f' w',uL β0 h0 io w0 s' f' w'->Kn f' w')->Ls P N ops Kn os f w
 |[],[],s,s',f,w,_,he,hi,hk=>by
  simp only[la,aa]at he;subst he;exact iJ (hk f w hi)
 |[],_::_,_,_,_,_,h,_,_,_=>by simp[yw]at h
 |_::_,[],_,_,_,_,h,_,_,_=>by simp[yw]at h
 |⟨dst,op,ty,pos,aft,gd⟩::os,⟨d,nC,HK⟩::is,s,s',f,w,h,he,⟨γ,hi,hb⟩,hk=>by
  simp only[yw,ab,W2,beq_iff_eq]at h;obtain⟨⟨⟨⟨rfl,hd⟩,hg⟩,jd⟩,mZ⟩:=h;simp only[la]at he
  split at he
  ·rename_i s1 h1;have go:og N ops f gd->yn cf mf s dst nC=some s1->Ls P N ops Kn (⟨dst,op,ty,pos,aft,gd⟩::os) f w:=by
    intro hw h1;refine eQ hw ?_;rcases wq h1 with ⟨hp,c,hc,rfl⟩|⟨hp,hn⟩
    ·simp only[hp,if_true,ab]at jd;obtain⟨d,rfl⟩:=bF.1 jd.1;obtain⟨v,k1,k2⟩:=lU (dst:=some d) (ty:=ty) (pos:=pos) (aft:=aft) (gd:=gd) hi jd.2 hc;exact cX (k2 w (λ_=>od.refl _ _ _)) (pL kN lg os is mZ he ⟨γ,hi.put d c v k1,hb⟩ hk)
    ·simp only[hp,av,if_false]at jd;refine sn kN lg hi jd hn λγ' f' w' i' tr=>pL kN lg os is mZ he ⟨γ',i',λb kT=>?_⟩ hk;rw[tr.β b (λe=>by
      rw[e]at hd;simp at hd;omega)]
     exact hb b kT
   have skip:gW N ops f gd->s1=s.put dst .qZ->Ls P N ops Kn (⟨dst,op,ty,pos,aft,gd⟩::os) f w:=by
    intro hw e;subst e;cases dst with
    |none=>exact U5 hw (pL kN lg os is mZ he ⟨γ,hi,hb⟩ hk)
    |some d=>exact wZ hw (pL kN lg os is mZ he ⟨γ,hi.put d .qZ undef (by simp only[CR]),hb⟩ hk)
   simp only[rh]at h1;cases HK with
   |none=>
    cases gd with
    |none=>exact go wn h1
    |some x=>simp[Im]at hg
   |some x=>
    obtain⟨g,want⟩:=x;cases gd with
    |none=>simp[Im]at hg
    |some y=>
     obtain⟨j,vP⟩:=y;have Yn:vP=want:=by simp[Im]at hg;exact hg.1
     subst Yn;obtain⟨g1,g2,g3⟩:=oz hi hg;simp only at h1
     split at h1
     ·rename_i b uI
      split at h1
      ·rename_i Eo;exact go (g1 b uI Eo) h1
      ·rename_i Eo;simp only[aa]at h1;exact skip (g2 b uI Eo) h1.symm
     ·rename_i Uv;simp only[aa]at h1;exact skip (g3 Uv) h1.symm
     ·cases h1
  ·cases he
theorem Inv.drew(hi:Inv γ h0 io w0 s f w):Inv γ h0 io w0 s f w.drew:=
 hi.M7 (M:=λ_=>False) ⟨rfl,rfl,rfl,aj _,λ_ _ _=>rfl,λ_ _ _=>rfl,λ_ h=>h⟩ (λh=>h) (λ_ h=>h.elim) (λ_ h=>h.elim)
def Sq(γ0:Gh)(qb:Option Nat)(TO w':World):Prop:=(∀g j,j < γ0.h g->w'.cell? ⟨g,j,none⟩=TO.cell? ⟨g,j,none⟩)/\∀b,qb=some b->w'.heap[γ0.β b]?=TO.heap[γ0.β b]?
def St.only(s:St)(qb:Option Nat):St:=⟨s.sl,gl s.bx qb.toList,[]⟩
theorem Qv{nC:KO}{c:C}{qb:Option Nat}(hld:nC.JX=true)(hb:m_ s nC=some qb)(hc:gG s nC=some c):gG (s.only qb) nC=some c:=by
 cases nC<;>simp[KO.JX]at hld
 rotate_left
 ·simp[m_]at hb
 rename_i n x;have hx:eW (s.only qb) x=eW s x:=by cases x<;>rfl
 simp only[m_]at hb;simp only[gG,hx]at hc ⊢
 split at hb
 ·rename_i b o he;cases hb;rw[he]at hc ⊢;simp only at hc ⊢
  have:look (s.only (some b)).bx b=look s.bx b:=by
   simp only[St.only,mV,gl];cases h:look s.bx b<;>simp[look]
  rw[this];exact hc
 ·rename_i cs he;rw[he]at hc ⊢;exact hc
 ·cases hb
theorem Dn{qb:Option Nat}{b:Nat}{cs:List C}(h:look (s.only qb).bx b=some cs):qb=some b/\look s.bx b=some cs:=by
 cases qb with
 |none=>simp[St.only,gl,look]at h
 |some b'=>
  simp only[St.only,mV,gl]at h;cases h':look s.bx b' with
  |none=>rw[h']at h;simp[look]at h
  |some iC=>
   rw[h']at h;simp only[look]at h
   split at h
   ·rename_i he;subst he;exact⟨rfl,by rw[h'];exact h⟩
   ·cases h
def Tk(Cl:List (List Nat×(World->Prop)))(tk:List (List Nat×Nat))(lst:Array Bool)(γ:Gh)(s:St)(w:World):Prop:=
 ∀p∈Cl,(∃m∈p.1,lst.getD m false=true)\/∃γ0 TO qb,(∀w',Sq γ0 qb TO w'->p.2 w')/\Sq γ0 qb TO w/\(∀g,γ0.h g<=γ.h g)/\∀b,qb=some b->γ.β b=γ0.β b/\(look s.bx b).isSome=true/\(p.1,b)∈tk
theorem Tk.cons{Cl:List (List Nat×(World->Prop))}{tk:List (List Nat×Nat)}{lst:Array Bool}(h:Tk Cl tk lst γ s w):Cons Cl lst w:=by
 intro p hp hn;rcases h p hp with ⟨m,hm,e⟩|⟨γ0,TO,qb,h1,h2,_⟩
 ·rw[hn m hm]at e;cases e
 ·exact h1 w h2
theorem Tk.quiet{Cl:List (List Nat×(World->Prop))}{tk:List (List Nat×Nat)}{lst:Array Bool}(h:Tk Cl tk lst γ s w)(i:Nat)(dn:List Nat)(qb:Option Nat)(d:Option Nat)(c:C)(V:World->Prop)(hV:∀w',Sq γ qb w w'->V w')(hl:∀b,qb=some b->(look s.bx b).isSome=true) :
  Tk ((dn,V)::Cl) (mC dn tk qb) (lst.setIfInBounds i true) γ (s.put d c) w:=by
 have ebx:(s.put d c).bx=s.bx:=by cases d<;>rfl
 intro p hp;rw[ebx];rcases ay.1 hp with rfl|hp
 ·refine .inr ⟨γ,w,qb,hV,⟨λ_ _ _=>rfl,λ_ _=>rfl⟩,λ_=>aj _,λb hb=>⟨rfl,hl b hb,?_⟩⟩;subst hb;simp[mC]
 ·rcases h p hp with ⟨m,hm,e⟩|⟨γ0,TO,qb',h1,h2,h3,h4⟩
  ·exact .inl ⟨m,hm,getD_set_true e⟩
  ·refine .inr ⟨γ0,TO,qb',h1,h2,h3,λb hb=>⟨(h4 b hb).1,(h4 b hb).2.1,?_⟩⟩;have:=(h4 b hb).2.2;cases qb<;>simp[mC,this]
theorem Tk.Ig{Cl:List (List Nat×(World->Prop))}{tk:List (List Nat×Nat)}{lst:Array Bool}(h:Tk Cl tk lst γ s w){j:Nat}(hj:j < lst.size)(hi:Inv γ h0 io w0 s f w){γ':Gh}{w':World}{f':Fm}{s1:St}{dst:Option Nat}{X:List Nat}(tr:Tr dst X γ w γ' w' f f')
  (jU:∀p∈iq j tk,(p.2∉X/\(look s1.bx p.2).isSome=true)/\¬dst=some p.2):Tk Cl (iq j tk) (lst.setIfInBounds j true) γ' s1 w':=by
 intro p hp;rcases h p hp with ⟨m,hm,e⟩|⟨γ0,TO,qb,h1,h2,h3,h4⟩
 ·exact .inl ⟨m,hm,getD_set_true e⟩
 ·by_cases hjp:j∈p.1
  ·refine .inl ⟨j,hjp,?_⟩;simp[Array.getD,hj]
  ·have JO:∀b,qb=some b->(p.1,b)∈iq j tk:=λb hb=>by
    simp only[iq,List.mem_filter];exact⟨(h4 b hb).2.2,by simpa using hjp⟩
   refine .inr ⟨γ0,TO,qb,h1,⟨λg j' LK=>(tr.M7.cell g j' (bp LK (h3 g))).trans (h2.1 g j' LK),λb hb=>?_⟩,λg=>aA (h3 g) (tr.h g),λb hb=>⟨?_,(jU _ (JO b hb)).1.2,JO b hb⟩⟩
   ·obtain⟨cs,C5⟩:=bF.1 (h4 b hb).2.1;obtain⟨T,vs,k1,k2,k3⟩:=hi.bx b cs C5;rw[<- h2.2 b hb,<- (h4 b hb).1];refine tr.M7.block _ k1.lt ?_;rw[k3]
    rintro⟨i,oU,e|e⟩
    ·cases e;exact (jU _ (JO b hb)).1.1 oU
    ·cases e
   ·rw[tr.β b (jU _ (JO b hb)).2];exact (h4 b hb).1
theorem nK(kN:Cts w0 io P num cf)(lg:∀g ag ds q ga q',mf g ag ds q=some (ga,q')->oO w0 io P (num g) ag ds q ga q'){ops:Array Oper}{Kn:Fm->World->Prop} :
  ∀(is:KT) {kp:j6} {Cl:List (List Nat×(World->Prop))} {lst:Array Bool} {tk:List (List Nat×Nat)} {γ:Gh} {s s':St} {f:Fm} {w:World},Ka P N num ops is=true->eJ cf mf kp is tk s=some s'->lst.size=ops.size->Tk Cl tk lst γ s w->Inv γ h0 io w0 s f w->(∀b,900<=b->γ.β b=β0 b)->
   (∀s1 f' w',s'=s1.cH kp->uL β0 h0 io w0 s1 f' w'->Kn f' w')->Dv P N ops Kn Cl is.vR lst f w
 | .nil,kp,Cl,lst,tk,γ,s,s',f,w,_,he,_,_,hi,hb,hk=>by
  simp only[eJ,aa]at he;exact af_ (hk s f w he.symm ⟨γ,hi,hb⟩)
 | .op ⟨j,qt,al,dn,⟨d,nC,HK⟩⟩ is,kp,Cl,lst,tk,γ,s,s',f,w,h,he,mE,ht,hi,hb,hk=>by
  simp only[Ka,ab]at h;obtain⟨h,mZ⟩:=h;have NJ:(lst.setIfInBounds j true).size=ops.size:=by simpa using mE
  split at h
  ·rename_i o ho;have Ux:j < lst.size:=by rw[mE];exact (pd.1 ho).1
   obtain⟨dst,op,ty,pos,aft,gd⟩:=o;simp only[ab,W2,beq_iff_eq,dD,cq,po]at h;obtain⟨⟨⟨⟨⟨hdd,hd⟩,hg⟩,jd⟩,hqp⟩,hgd⟩:=h;subst hdd;cases qt with
   |true=>
    have hpu:nC.ji=true:=by simpa using hqp
    simp only[hpu,if_true,ab]at jd;obtain⟨d,rfl⟩:=bF.1 jd.1;simp only[eJ,if_true]at he;have go:∀c qb,gG s nC=some c->m_ s nC=some qb->eJ cf mf kp is (mC dn tk qb) (s.put (some d) c)=some s'->og N ops f gd->Dv P N ops Kn Cl (.op (KD.vR ⟨j,true,al,dn,⟨some d,nC,HK⟩⟩) is.vR) lst f w:=by
     intro c qb hc O0 he hw;cases hld:nC.JX with
     |true=>
      have Ww:Inv γ h0 io w0 (s.only qb) f w:=hi.sub (λ_ _ h=>h) (λd c hl=>(Dn hl).2) (λd c hl=>by simp[St.only,look]at hl);obtain⟨v,k1,k2⟩:=lU (dst:=some d) (ty:=ty) (pos:=pos) (aft:=aft) (gd:=gd) Ww jd.2 (Qv hld O0 hc);have abv:∀b,qb=some b->(look s.bx b).isSome=true:=λb hb=>by
       subst hb;cases nC<;>simp[KO.JX]at hld
       rotate_left
       ·simp[m_]at O0
       rename_i n x;simp only[m_]at O0
       split at O0
       ·rename_i b' o hx;cases O0;simp only[gG,hx]at hc;cases hl:look s.bx b with
        |none=>rw[hl]at hc;cases hc
        |some cs=>rfl
       ·cases O0
       ·cases O0
      exact v_q rfl ho rfl hw (Sq γ qb w) (λw' hs=>k2 w' (λ_=>⟨hs.1,λb cs hl=>hs.2 b (Dn hl).1,λr x hl=>by simp[St.only,look]at hl⟩)) ⟨λ_ _ _=>rfl,λ_ _=>rfl⟩
       (nK kN lg is mZ he NJ (ht.quiet j dn qb (some d) c _ (λ_ h=>h) abv) (hi.put d c v k1) hb hk)
     |false=>
      have eqb:qb=none:=by
       cases nC<;>simp[KO.JX]at hld<;>simpa [m_] using O0.symm
      subst eqb;obtain⟨v,k1,k2⟩:=lU (dst:=some d) (ty:=ty) (pos:=pos) (aft:=aft) (gd:=gd) hi jd.2 hc;exact v_q rfl ho rfl hw (λ_=>True) (λw' _=>k2 w' (λh=>by rw[hld]at h;cases h)) trivial
       (nK kN lg is mZ he NJ (ht.quiet j dn none (some d) c _ (λ_ _=>trivial) (λb hb=>by cases hb)) (hi.put d c v k1) hb hk)
    have skip:eJ cf mf kp is tk (s.put (some d) .qZ)=some s'->gW N ops f gd->Dv P N ops Kn Cl (.op (KD.vR ⟨j,true,al,dn,⟨some d,nC,HK⟩⟩) is.vR) lst f w:=by
     intro he hw;exact Z8 rfl ho hw (nK kN lg is mZ he NJ (ht.quiet j dn none (some d) .qZ _ (λ_ _=>trivial) (λb hb=>by cases hb)) (hi.put d .qZ undef (by simp only[CR])) hb hk)
    cases HK with
    |none=>
     cases gd with
     |some x=>simp[Im]at hg
     |none=>
      simp only at he
      split at he
      ·rename_i c b hc O0;exact go c b hc O0 he wn
      ·cases he
    |some x=>
     obtain⟨g,want⟩:=x;cases gd with
     |none=>simp[Im]at hg
     |some y=>
      obtain⟨j',vP⟩:=y;have Yn:vP=want:=by simp[Im]at hg;exact hg.1
      subst Yn;obtain⟨g1,g2,g3⟩:=oz hi hg;simp only at he
      split at he
      ·rename_i b uI
       split at he
       ·rename_i Eo
        split at he
        ·rename_i c b' hc O0;exact go c b' hc O0 he (g1 b uI Eo)
        ·cases he
       ·rename_i Eo;exact skip he (g2 b uI Eo)
      ·rename_i Uv;exact skip he (g3 Uv)
      ·cases he
   |false=>
    simp only[eJ,j5,av,if_false]at he
    split at he
    ·rename_i s1 h1
     split at he
     ·rename_i jU;have JV:∀p∈iq j tk,(p.2∉dW s dst nC/\(look s1.bx p.2).isSome=true)/\¬dst=some p.2:=λp hp=>by
       have:=aS.1 jU p hp
       simpa using this
      have next:∀γ' f' w',Inv γ' h0 io w0 s1 f' w'->Tr dst (dW s dst nC) γ w γ' w' f f'->Cons Cl (lst.setIfInBounds j true) w'/\Dv P N ops Kn Cl is.vR (lst.setIfInBounds j true) f' w':=by
       intro γ' f' w' i' tr;have WG:=ht.Ig Ux hi tr JV;refine⟨WG.cons,nK kN lg is mZ he NJ WG i' (λb kT=>?_) hk⟩;rw[tr.β b (λe=>by
         rw[e]at hd;simp at hd;omega)]
       exact hb b kT
      have go:og N ops f gd->yn cf mf s dst nC=some s1->Dv P N ops Kn Cl (.op (KD.vR ⟨j,false,al,dn,⟨dst,nC,HK⟩⟩) is.vR) lst f w:=by
       intro hw h1;refine aiy rfl ho hw ?_;rcases wq h1 with ⟨hp,c,hc,rfl⟩|⟨hp,hn⟩
       ·simp only[hp,if_true,ab]at jd;obtain⟨d,rfl⟩:=bF.1 jd.1;obtain⟨v,k1,k2⟩:=lU (dst:=some d) (ty:=ty) (pos:=pos) (aft:=aft) (gd:=gd) hi jd.2 hc;exact cX (k2 w (λ_=>od.refl _ _ _)) (next γ _ w (hi.put d c v k1) ⟨sJ.refl _ _ _,λ_ _=>rfl,λ_=>aj _,.put⟩)
       ·simp only[hp,av,if_false]at jd;exact sn kN lg hi jd hn next
      have skip:gW N ops f gd->dst.isSome=true->s1=s.put dst .qZ->Dv P N ops Kn Cl (.op (KD.vR ⟨j,false,al,dn,⟨dst,nC,HK⟩⟩) is.vR) lst f w:=by
       intro hw LI e;subst e;obtain⟨d,rfl⟩:=bF.1 LI;have nx:=next γ _ w (hi.put d .qZ undef (by simp only[CR])) ⟨sJ.refl _ _ _,λ_ _=>rfl,λ_=>aj _,.put⟩
       exact V0 rfl ho hw nx.1 nx.2
      simp only[rh]at h1;cases HK with
      |none=>
       cases gd with
       |none=>exact go wn h1
       |some x=>simp[Im]at hg
      |some x=>
       obtain⟨g,want⟩:=x;have LI:dst.isSome=true:=by rcases hgd with h|h;cases h;exact h
       cases gd with
       |none=>simp[Im]at hg
       |some y=>
        obtain⟨j',vP⟩:=y;have Yn:vP=want:=by simp[Im]at hg;exact hg.1
        subst Yn;obtain⟨g1,g2,g3⟩:=oz hi hg;simp only at h1
        split at h1
        ·rename_i b uI
         split at h1
         ·rename_i Eo;exact go (g1 b uI Eo) h1
         ·rename_i Eo;simp only[aa]at h1;exact skip (g2 b uI Eo) LI h1.symm
        ·rename_i Uv;simp only[aa]at h1;exact skip (g3 Uv) LI h1.symm
        ·cases h1
     ·cases he
    ·cases he
  ·cases h
 | .alt ⟨j,qt,al,dn,⟨d,nC,HK⟩⟩ is r,kp,Cl,lst,tk,γ,s,s',f,w,h,he,mE,ht,hi,hb,hk=>by
  simp only[Ka,ab]at h;obtain⟨⟨h,mZ⟩,hr⟩:=h;have NJ:(lst.setIfInBounds j true).size=ops.size:=by simpa using mE
  have hee:j5 cf mf ⟨j,qt,al,dn,⟨d,nC,HK⟩⟩ tk s (eJ cf mf kp is)=some s'/\eJ cf mf kp r tk s=some s':=by
   simp only[eJ,both]at he
   split at he
   ·rename_i a b ha kT
    split at he
    ·rename_i hab;subst hab;cases he;exact⟨ha,kT⟩
    ·cases he
   ·cases he
  obtain⟨he,her⟩:=hee
  split at h
  ·rename_i o ho;have Ux:j < lst.size:=by rw[mE];exact (pd.1 ho).1
   obtain⟨dst,op,ty,pos,aft,gd⟩:=o;simp only[ab,W2,beq_iff_eq,cq,po,dD]at h;obtain⟨⟨⟨⟨⟨hdd,hd⟩,hg⟩,jd⟩,hqp⟩,hgd⟩:=h;subst hdd;simp only[j5]at he
   split at he
   ·rename_i s1 h1
    split at he
    ·rename_i jU;have JV:∀p∈iq j tk,(p.2∉dW s dst nC/\(look s1.bx p.2).isSome=true)/\¬dst=some p.2:=λp hp=>by
      have:=aS.1 jU p hp
      simpa using this
     have next:∀γ' f' w',Inv γ' h0 io w0 s1 f' w'->Tr dst (dW s dst nC) γ w γ' w' f f'->Cons Cl (lst.setIfInBounds j true) w'/\Dv P N ops Kn Cl is.vR (lst.setIfInBounds j true) f' w':=by
      intro γ' f' w' i' tr;have WG:=ht.Ig Ux hi tr JV;refine⟨WG.cons,nK kN lg is mZ he NJ WG i' (λb kT=>?_) hk⟩;rw[tr.β b (λe=>by
        rw[e]at hd;simp at hd;omega)]
      exact hb b kT
     have rest:=nK kN lg r hr her mE ht hi hb hk;have go:og N ops f gd->yn cf mf s dst nC=some s1->Dv P N ops Kn Cl (.alt (KD.vR ⟨j,qt,al,dn,⟨dst,nC,HK⟩⟩) is.vR r.vR) lst f w:=by
      intro hw h1;refine af9 (e:=KD.vR ⟨j,qt,al,dn,⟨dst,nC,HK⟩⟩) ho hw ?_ rest;rcases wq h1 with ⟨hp,c,hc,rfl⟩|⟨hp,hn⟩
      ·simp only[hp,if_true,ab]at jd;obtain⟨d,rfl⟩:=bF.1 jd.1;obtain⟨v,k1,k2⟩:=lU (dst:=some d) (ty:=ty) (pos:=pos) (aft:=aft) (gd:=gd) hi jd.2 hc;exact cX (k2 w (λ_=>od.refl _ _ _)) (next γ _ w (hi.put d c v k1) ⟨sJ.refl _ _ _,λ_ _=>rfl,λ_=>aj _,.put⟩)
      ·simp only[hp,av,if_false]at jd;exact sn kN lg hi jd hn next
     have skip:gW N ops f gd->dst.isSome=true->s1=s.put dst .qZ->Dv P N ops Kn Cl (.alt (KD.vR ⟨j,qt,al,dn,⟨dst,nC,HK⟩⟩) is.vR r.vR) lst f w:=by
      intro hw LI e;subst e;obtain⟨d,rfl⟩:=bF.1 LI;have nx:=next γ _ w (hi.put d .qZ undef (by simp only[CR])) ⟨sJ.refl _ _ _,λ_ _=>rfl,λ_=>aj _,.put⟩
      exact Z7 (e:=KD.vR ⟨j,qt,al,dn,⟨some d,nC,HK⟩⟩) ho hw nx.1 nx.2 rest
     simp only[rh]at h1;cases HK with
     |none=>
      cases gd with
      |none=>exact go wn h1
      |some x=>simp[Im]at hg
     |some x=>
      obtain⟨g,want⟩:=x;have LI:dst.isSome=true:=by rcases hgd with h|h;cases h;exact h
      cases gd with
      |none=>simp[Im]at hg
      |some y=>
       obtain⟨j',vP⟩:=y;have Yn:vP=want:=by simp[Im]at hg;exact hg.1
       subst Yn;obtain⟨g1,g2,g3⟩:=oz hi hg;simp only at h1
       split at h1
       ·rename_i b uI
        split at h1
        ·rename_i Eo;exact go (g1 b uI Eo) h1
        ·rename_i Eo;simp only[aa]at h1;exact skip (g2 b uI Eo) LI h1.symm
       ·rename_i Uv;simp only[aa]at h1;exact skip (g3 Uv) LI h1.symm
       ·cases h1
    ·cases he
   ·cases he
  ·cases h
theorem fD(hm:P.follows .mixedOrders=true)(kN:Cts w0 io P num cf)(lg:∀g ag ds q ga q',mf g ag ds q=some (ga,q')->oO w0 io P (num g) ag ds q ga q')(n:Nat):∀(k:K) (c:Code) {s:St} {f:Fm} {w:World} {e:Ex} {s':St},mP P N num k c=true->gu cf mf n k s=some (e,s')->uL β0 h0 io w0 s f w->
  W P N c (λf w=>e=.norm/\uL β0 h0 io w0 s' f w) (λi f w=>e=.exit i/\uL β0 h0 io w0 s' f w) (λf w=>e=.ret/\uL β0 h0 io w0 s' f w) f w
 | .skip,c,s,f,w,e,s',bZ,he,hi=>by
  cases c<;>simp[mP]at bZ
  simp only[gu,aa,ak]at he;obtain⟨rfl,rfl⟩:=he;exact uC ⟨rfl,hi⟩
 | .cp is kp,c,s,f,w,e,s',bZ,he,hi=>by
  cases c with
  |region id ops draw=>
   cases draw with
   |true=>simp[mP]at bZ
   |false=>
    simp only[mP]at bZ;simp only[gu]at he
    split at he
    ·rename_i s1 h1;simp only[aa,ak]at he;obtain⟨rfl,rfl⟩:=he;have hl:=pL (Kn:=λf w=>Ex.norm=.norm/\uL β0 h0 io w0 (s1.cH kp) f w) kN lg ops.toList is bZ h1 hi (λf' w' oU=>⟨rfl,oU.cH kp⟩);obtain⟨l⟩:=ops;exact dQ (l:=l) hl
    ·cases he
  |_=>simp[mP]at bZ
 | .Lk is kp,c,s,f,w,e,s',bZ,he,⟨γ,hi,hb⟩=>by
  cases c with
  |region id ops draw=>
   cases draw with
   |false=>simp[mP]at bZ
   |true=>
    simp only[mP,ab,beq_iff_eq]at bZ;obtain⟨⟨⟨h1,h2⟩,h3⟩,h4⟩:=bZ;simp only[gu]at he
    split at he
    ·rename_i s1 h5;simp only[aa,ak]at he;obtain⟨rfl,rfl⟩:=he;have hd:=nK (P:=P) (N:=N) (num:=num) (ops:=ops) (β0:=β0) (Kn:=λf w=>Ex.norm=.norm/\uL β0 h0 io w0 s1 f w) (Cl:=[]) (lst:=nW ops.size false) (tk:=[]) kN lg is h1 h5 (by simp) (λp hp=>by simp at hp) hi.drew hb (λs2 f' w' e oU=>⟨rfl,by rw[e];exact oU.cH kp⟩);obtain⟨l⟩:=ops;exact V3 (l:=l) is.vR hm h2 h3 h4 hd
    ·cases he
  |_=>simp[mP]at bZ
 | .seq a b,c,s,f,w,e,s',bZ,he,hi=>by
  cases c with
  |seq ca cb=>
   simp only[mP,ab]at bZ;simp only[gu]at he;refine ir ?_
   split at he
   ·rename_i s1 h1;refine j_ (fD hm kN lg n a ca bZ.1 h1 hi) (λf w hk=>fD hm kN lg n b cb bZ.2 he hk.2) (λi f w hk=>?_) (λf w hk=>?_)
    ·cases hk.1
    ·cases hk.1
   ·rename_i iQ;refine j_ (fD hm kN lg n a ca bZ.1 he hi) (λf w hk=>?_) (λi f w hk=>hk) (λf w hk=>hk);obtain⟨rfl,_⟩:=hk;exact absurd he (iQ s')
  |_=>simp[mP]at bZ
 | .cond x a b,c,s,f,w,e,s',bZ,he,hi=>by
  cases c with
  |cond y ca cb=>
   simp only[mP,ab]at bZ;obtain⟨⟨h1,h2⟩,h3⟩:=bZ;simp only[gu]at he;obtain⟨γ,oU,hb⟩:=hi;have hv:=bH oU h1
   split at he
   ·rename_i t ht;rw[ht]at hv;have hv:=ot hv;cases t with
    |true=>exact xz hv (fD hm kN lg n a ca h2 (by simpa using he) ⟨γ,oU,hb⟩)
    |false=>exact uB hv (fD hm kN lg n b cb h3 (by simpa using he) ⟨γ,oU,hb⟩)
   ·cases he
  |_=>simp[mP]at bZ
 | .block i a,c,s,f,w,e,s',bZ,he,hi=>by
  cases c with
  |block j ca=>
   simp only[mP,ab,beq_iff_eq]at bZ;obtain⟨rfl,bZ⟩:=bZ;simp only[gu]at he;refine tn ?_
   split at he
   ·rename_i i' s1 h1;refine j_ (fD hm kN lg n a ca bZ h1 hi) (λf w hk=>by cases hk.1) (λq f w hk=>?_) (λf w hk=>by cases hk.1);obtain⟨e1,hk⟩:=hk;cases e1
    split at he
    ·rename_i X4;simp only[aa,ak]at he;obtain⟨rfl,rfl⟩:=he;rw[if_pos X4];exact⟨rfl,hk⟩
    ·rename_i X4;simp only[aa,ak]at he;obtain⟨rfl,rfl⟩:=he;rw[if_neg X4];exact⟨rfl,hk⟩
   ·rename_i iQ;refine j_ (fD hm kN lg n a ca bZ he hi) (λf w hk=>hk) (λq f w hk=>?_) (λf w hk=>hk);obtain⟨rfl,_⟩:=hk;exact absurd he (iQ q s')
  |_=>simp[mP]at bZ
 | .loop a,c,s,f,w,e,s',bZ,he,hi=>by
  cases c with
  |loop ca=>
   simp only[mP]at bZ;simp only[gu]at he;refine F8 (λm f w=>∃s,uL β0 h0 io w0 s f w/\iter (gu cf mf n a) m s=some (e,s')) n ⟨s,hi,he⟩ ?_
   rintro m f w ⟨s,hi,he⟩
   cases m with
   |zero=>simp[iter]at he
   |succ m=>
    simp only[iter]at he
    split at he
    ·rename_i s1 h1;refine j_ (fD hm kN lg n a ca bZ h1 hi) (λf w hk=>⟨m,by omega,s1,hk.2,he⟩) (λi f w hk=>by cases hk.1) (λf w hk=>by cases hk.1)
    ·rename_i iQ;refine j_ (fD hm kN lg n a ca bZ he hi) (λf w hk=>?_) (λi f w hk=>hk) (λf w hk=>hk);obtain⟨rfl,_⟩:=hk;exact absurd he (iQ s')
  |_=>simp[mP]at bZ
 | .exit i,c,s,f,w,e,s',bZ,he,hi=>by
  cases c<;>simp[mP]at bZ
  subst bZ;simp only[gu,aa,ak]at he;obtain⟨rfl,rfl⟩:=he;exact F7 ⟨rfl,hi⟩
 | .ret,c,s,f,w,e,s',bZ,he,hi=>by
  cases c<;>simp[mP]at bZ
  simp only[gu,aa,ak]at he;obtain⟨rfl,rfl⟩:=he;exact DS ⟨rfl,hi⟩
 | .share r a,c,s,f,w,e,s',bZ,he,⟨γ,hi,hb⟩=>by
  have rT:mP P N num a c=true:=by
   cases c<;>simpa [mP] using bZ
  simp only[gu]at he;obtain⟨γ',i',b',_⟩:=hi.xq [r];exact fD hm kN lg n a c rT he ⟨γ',i',λb kT=>by rw[b'];exact hb b kT⟩
 | .I0 d a,c,s,f,w,e,s',bZ,he,⟨γ,hi,hb⟩=>by
  have rT:mP P N num a c=true:=by
   cases c<;>simpa [mP] using bZ
  simp only[gu]at he
  split at he
  ·rename_i s1 Yg;obtain⟨γ',i',b'⟩:=hi.qc Yg;exact fD hm kN lg n a c rT he ⟨γ',i',λb kT=>by rw[b'];exact hb b kT⟩
  ·cases he
end
end
section
open Go.RowKit
def Ip(P:Program)(N:Nat):ResultVar->KR->Bool
 | .tmp t,.t d=>t ==d && fk t N
 | .cell a T,.c d n=>a ==d && fk a N && (if n=0 then GD P T ==some false else GD P T ==some true && mB P T ==some n)
 |_,_=>false
def FB(P:Program)(N:Nat):List ResultVar->List KR->Bool
 |[],[]=>true
 |r::rs,k::ks=>Ip P N r k && FB P N rs ks
 |_,_=>false
def okF(P:Program)(num:Nat->FuncId)(f:Nat)(kf:KF):Bool:=
 match P.funcs[num f]? with
 |some fn=>match fn.body with
  |some c=>mP P fn.ntmps num kf.body c && nz kf.np fn.ntmps && FB P fn.ntmps fn.results.toList kf.res
  |none=>false
 |none=>false
def sy(tmps:Array Value):ResultVar->Sem Value
 | .tmp t=>pure (tmps.getD t undef)
 | .cell a t=>do loadVar t (<- asAddr (tmps.getD a undef))
section
variable {P:Program} {γ:Gh} {h0:Nat->Nat} {io:List Nat} {w0:World} {s s':St} {f:Fm} {w:World} {N:Nat} {num:Nat->FuncId}
theorem Sf(hi:Inv γ h0 io w0 s f w){rv:ResultVar}{kr:KR}{a:A}{l:List Nat}(bZ:Ip P N rv kr=true)(he:FM s kr=some (a,l)) :
  ∃u F,(sy (fr f N).tmps rv).run P w=.ok u w/\AR γ.h w a u F/\(∀g∈F,∃r∈l,γ.ω g=.row r)/\(l.Nodup->F.Nodup):=by
 cases rv with
 |tmp t=>
  cases kr with
  |c d n=>simp[Ip]at bZ
  |t d=>
   simp only[Ip,ab,beq_iff_eq]at bZ;obtain⟨rfl,ht⟩:=bZ;have ig:t < N:=by simpa using ht
   simp only[FM,ad,ak]at he;obtain⟨vs,yt,rfl,rfl⟩:=he;obtain⟨k1,k2,k3⟩:=(hi.get t).cells (MU yt);obtain⟨F,x1,x2,x3⟩:=xC hi _ k1 yt;refine⟨f t,F,by simp[sy,fr,ig],?_,x2,x3⟩;simp only[AR];refine⟨_,x1,λsU=>?_,λsU=>by rw[k2 sU]⟩;obtain⟨us,e⟩:=k3 sU;rw[e];simp[Value.cells]
 |cell a0 T=>
  cases kr with
  |t d=>simp[Ip]at bZ
  |c d n=>
   simp only[Ip,ab,beq_iff_eq]at bZ;obtain⟨⟨rfl,ht⟩,jO⟩:=bZ;have ig:a0 < N:=by simpa using ht
   simp only[FM]at he
   split at he
   ·rename_i b hb;have hg:=hi.get a0;rw[hb]at hg;simp only[CR]at hg
    split at he
    ·rename_i cs hl;obtain⟨T',vs,h1,h2,h3⟩:=hi.bx b cs hl;have gD:gy w (γ.β b) 0 vs:=h1.J0
     split at he
     ·rename_i hn;subst hn;simp only[if_true,beq_iff_eq]at jO
      split at he
      ·rename_i c;simp only[ad,ak]at he;obtain⟨rs,qW,rfl,rfl⟩:=he;obtain⟨F,x1,x2,x3⟩:=xC hi _ h2 qW;have HF:=h2.length;obtain⟨v,rfl⟩:=cJ.1 HF;have hc:=gD 0 v rfl;simp only[bm]at hc;refine⟨v,F,?_,?_,x2,x3⟩
       ·simp[sy,fr,ig,hg,asAddr,loadVar,nE jO,load,Sem.run,hc]
       ·simp only[AR];exact⟨[v],x1,λh=>by simp at h,λ_=>rfl⟩
      ·cases he
     ·rename_i hn;simp only[if_neg hn,ab,beq_iff_eq]at jO
      split at he
      ·rename_i ri;simp only[ad,ak]at he;obtain⟨rs,qW,rfl,rfl⟩:=he;obtain⟨F,x1,x2,x3⟩:=xC hi _ h2 qW;have HF:=h2.length;have OY:=run_loadCellsFrom (P:=P) (w:=w) (b:=γ.β b) (o:=0) vs 0 #[] (by simpa using gD);have hvn:vs.length=n:=by omega
       rw[hvn]at OY;refine⟨.agg vs.toArray,F,?_,?_,x2,x3⟩
       ·simp[sy,fr,ig,hg,asAddr,loadVar,nE jO.1,run_sizeOf jO.2,loadCells,OY]
       ·simp only[AR];exact⟨vs,x1,λ_=>rfl,λh=>by simp at h⟩
      ·cases he
    ·cases he
   ·cases he
theorem DH(hi:Inv γ h0 io w0 s f w):∀(rvs:List ResultVar) (krs:List KR) {as:List A} {l:List Nat},FB P N rvs krs=true->vC s krs=some (as,l)->
  ∃us F,(rvs.mapM (sy (fr f N).tmps)).run P w=.ok us w/\kF γ.h w as us F/\(∀g∈F,∃r∈l,γ.ω g=.row r)/\(l.Nodup->F.Nodup)
 |[],[],as,l,_,he=>by
  simp only[vC,aa,ak]at he;obtain⟨rfl,rfl⟩:=he;exact⟨[],[],by simp,by simp[kF],λ_ h=>by simp at h,λ_=>by simp⟩
 |[],_::_,_,_,h,_=>by simp[FB]at h
 |_::_,[],_,_,h,_=>by simp[FB]at h
 |rv::rvs,kr::krs,as,l,h,he=>by
  simp only[FB,ab]at h;simp only[vC]at he
  split at he
  ·rename_i a l1 h1;simp only[ad]at he;obtain⟨⟨K8,l2⟩,h2,h3⟩:=he;simp only[ak]at h3;obtain⟨rfl,rfl⟩:=h3;obtain⟨u,F1,r1,x1,y1,z1⟩:=Sf hi h.1 h1;obtain⟨us,F2,r2,x2,y2,z2⟩:=DH hi rvs krs h.2 h2;refine⟨u::us,F1++F2,by simp[r1,r2],?_,λg hg=>?_,λhn=>?_⟩
   ·simp only[kF];exact⟨u,us,F1,F2,rfl,rfl,x1,x2⟩
   ·rcases aM.1 hg with hg|hg
    ·obtain⟨r,hr,h4⟩:=y1 g hg;exact⟨r,by simp[hr],h4⟩
    ·obtain⟨r,hr,h4⟩:=y2 g hg;exact⟨r,by simp[hr],h4⟩
   ·rw[bj]at hn;rw[bj];refine⟨z1 hn.1,z2 hn.2.1,?_⟩;intro a ha b hb e;subst e;obtain⟨r,hr,h4⟩:=y1 a ha;obtain⟨q,hq,h5⟩:=y2 a hb;rw[h4]at h5;cases h5;exact hn.2.2 r hr r hq rfl
  ·cases he
theorem xh(hi:Inv γ h0 io w0 s f w){w1:World}{h1:Nat->Nat}:∀(as:List A) {vs:List Value} {F0:List Nat} (p:Nat) {outs:List A} {l:List Nat},sr s p as=some (outs,l)->kF h1 w1 as vs F0->(∀i cs g,as[i]?=some (.box cs)->vs[i]?=some (.pointer (some ⟨g,0,none⟩))->γ.β (900+(p+i))=g)->
  ∃F,kF γ.h w outs (fU as vs) F/\(∀g∈F,(∃r∈l,γ.ω g=.row r)\/∃i,p<=i/\γ.ω g=.box (900+i))/\(l.Nodup->F.Nodup)
 |[],vs,F0,p,outs,l,he,ha,_=>by
  simp only[sr,aa,ak]at he;obtain⟨rfl,rfl⟩:=he;exact⟨[],by simp[kF,fU],λ_ h=>by simp at h,λ_=>by simp⟩
 | .val ag cs::as,vs,F0,p,outs,l,he,ha,Gt=>by
  simp only[kF]at ha;obtain⟨v,dZ,F1,F2,rfl,rfl,_,ha⟩:=ha;simp only[sr,Ov,ad]at he;obtain⟨⟨l',r'⟩,h2,h3⟩:=he;simp only[ao,ak]at h3;obtain⟨rfl,rfl⟩:=h3;obtain⟨F,x1,x2,x3⟩:=xh hi as (p+1) h2 ha (λi iC g h4 h5=>by
   rw[show p+1+i=p+(i+1) from by omega];exact Gt (i+1) iC g (by simpa using h4) (by simpa using h5))
  refine⟨F,by simpa only [fU] using x1,λg hg=>?_,x3⟩;rcases x2 g hg with h|⟨i,h4,h5⟩
  ·exact .inl h
  ·exact .inr ⟨i,by omega,h5⟩
 | .box cs::as,vs,F0,p,outs,l,he,ha,Gt=>by
  simp only[kF,AR]at ha;obtain⟨v,dZ,F1,F2,rfl,rfl,⟨g0,T0,us0,F0',rfl,_⟩,ha⟩:=ha;simp only[sr,Ov]at he
  split at he
  ·rename_i l1 r1 hh
   split at hh
   ·rename_i OW hl;simp only[ad,ak]at hh;obtain⟨rs,qW,rfl,rfl⟩:=hh;simp only[ad]at he;obtain⟨⟨l',r'⟩,h2,h3⟩:=he;simp only[ak]at h3;obtain⟨rfl,rfl⟩:=h3;have hb0:=Gt 0 cs g0 rfl rfl;rw[eD]at hb0;obtain⟨T,us,k1,k2,k3⟩:=hi.bx (900+p) OW hl;obtain⟨Fr,y1,y2,y3⟩:=xC hi _ k2 qW;obtain⟨F,x1,x2,x3⟩:=xh hi as (p+1) h2 ha (λi iC g h4 h5=>by
     rw[show p+1+i=p+(i+1) from by omega];exact Gt (i+1) iC g (by simpa using h4) (by simpa using h5))
    rw[hb0]at k1 k3;refine⟨(g0::Fr)++F,?_,λg hg=>?_,λhn=>?_⟩
    ·simp only[fU,ai,ao,kF];refine⟨_,_,g0::Fr,F,rfl,rfl,?_,x1⟩;simp only[AR];exact⟨g0,T,us,Fr,rfl,k1,hi.lI _ _ k3,rfl,y1⟩
    ·rcases aM.1 hg with hg|hg
     ·rcases ay.1 hg with rfl|hg
      ·exact .inr ⟨p,aj _,k3⟩
      ·obtain⟨r,hr,h4⟩:=y2 g hg;exact .inl ⟨r,by simp[hr],h4⟩
     ·rcases x2 g hg with ⟨r,hr,h4⟩|⟨i,h4,h5⟩
      ·exact .inl ⟨r,by simp[hr],h4⟩
      ·exact .inr ⟨i,by omega,h5⟩
    ·rw[bj]at hn;rw[bj];refine⟨cd.2 ⟨λhm=>?_,y3 hn.1⟩,x3 hn.2.1,?_⟩
     ·obtain⟨r,_,h4⟩:=y2 _ hm;rw[k3]at h4;cases h4
     ·intro a LF b hb e;subst e;rcases ay.1 LF with rfl|LF
      ·rcases x2 _ hb with ⟨r,_,h4⟩|⟨i,h4,h5⟩
       ·rw[k3]at h4;cases h4
       ·rw[k3]at h5;simp only[Own.box.injEq]at h5;omega
      ·obtain⟨r,hr,h4⟩:=y2 a LF;rcases x2 a hb with ⟨q,hq,h5⟩|⟨i,_,h5⟩
       ·rw[h4]at h5;cases h5;exact hn.2.2 r hr r hq rfl
       ·rw[h4]at h5;cases h5
   ·cases hh
  ·cases he
theorem Iv{fn:Func}{us:List Value}(h:(fn.results.toList.mapM (sy (fr f N).tmps)).run P w=.ok us w):∃v,(results fn (fr f N).tmps).run P w=.ok v w/\TW us v:=by
 have h':(fn.results.mapM (sy (fr f N).tmps)).run P w=.ok us.toArray w:=by
  rw[Array.mapM_eq_mapM_toList];simp[h]
 have e:results fn (fr f N).tmps=(do
   let vs <- fn.results.mapM (sy (fr f N).tmps)
   pure (if h:vs.size=1 then vs[0] else .tuple vs)):=by
  unfold results
  congr 1
 rw[e];simp only[Sem.run_bind,h',Result.andThen_ok,Sem.run_pure];by_cases hl:us.length=1
 ·obtain⟨v,rfl⟩:=cJ.1 hl;exact⟨v,by simp,.inl rfl⟩
 ·exact⟨.tuple us.toArray,by simp[hl],.inr ⟨hl,rfl⟩⟩
end
theorem C1 {P : Program} {num : Nat -> FuncId} {cf : Nat -> List A -> Option (List A × List A)} {mf : Nat -> Bool -> List D -> Int -> Option (List D × Int)} (hm : P.follows .mixedOrders = true) (hj : num 9004 ≠ 1000000 -> rn P (num 9004)) (kN : ∀ g a r o, cf g a = some (r, o) -> mI P (num g) a r o) (lg : ∀ g ag ds q ga q', mf g ag ds q = some (ga, q') -> zr P (num g) ag ds q ga q') {n f : Nat} {kf : KF} (bZ : okF P num f kf = true) {args rs outs : List A} (he : Bx cf mf n kf args = some (rs, outs)) : mI P (num f) args rs outs := by
      unfold Bx at he
      split at he
      · rename_i Q5
        unfold okF at bZ
        split at bZ
        · rename_i fn Et
          split at bZ
          · rename_i c hc
            simp only [ab] at bZ
            obtain ⟨⟨HA, UA⟩, wH⟩ := bZ
            intro w h vs F hL hA jm ig eN
            have HF : vs.length = args.length := by
              clear HA UA wH he Q5 jm ig hL
              induction args generalizing vs F with
              | nil => simp only [kF] at hA; simp [hA.1]
              | cons a as ih =>
                simp only [kF] at hA
                obtain ⟨v, dZ, F1, F2, rfl, rfl, _, hA⟩ := hA
                simp [ih _ _ hA]
            refine enter (N := fn.ntmps) Et hc rfl (by simp only [pV, HF, Q5]; exact UA) ?_
            have i0 : Inv ⟨h, λ_ => 0, λ_ => undef, λg => if g ∈ F then .db else .free⟩ h F w ⟨[], [], []⟩ (λi => vs.toArray.getD i undef) w := {
              sl := λd c hl => by simp [look] at hl
              bx := λd c hl => by simp [look] at hl
              rw := λd c hl => by simp [look] at hl
              own := λg hg => by
                by_cases hF : g ∈ F
                · exact ⟨ig g hF, .inr hF⟩
                · simp [hF] at hg
              lI := λg b hg => by dsimp only at hg; split at hg <;> cases hg
              eN := eN, os := rfl, tape := rfl, output := rfl, size := aj _, frame := λ_ _ _ => rfl, cell := λ_ _ _ _ => rfl, mono := λ_ _ => aj _, hold := λ_ _ _ => rfl, eX := λ_ h => h }
            obtain ⟨pc, i1, e1, p1, x1⟩ := rN args 0 i0 hA jm (λg hg => ⟨.inr (by simp [hg]), ig g hg, .inr hg⟩) (λi v hv => by
              rw [bm]
              have := (aI.1 hv)
              obtain ⟨hil, hiv⟩ := this
              simp [hil, hiv])
            have fin : ∀ (s : St) f' w', leave kf args s = some (rs, outs) -> uL pc.β h F w s f' w' -> ∃ v, (results fn (fr f' fn.ntmps).tmps).run P w' = .ok v w' /\ ∃ v' us F1 F2 h', Ending.returned v = .returned v' /\ TW us v' /\ kF h' w' rs us F1 /\ kF h' w' outs (fU args vs) F2 /\ (F1 ++ F2).Nodup /\ (∀ g ∈ F1 ++ F2, (w.heap.size <= g \/ g ∈ F) /\ g < w'.heap.size) /\ xH h F w w' h' := by
              intro s f' w' X8 ⟨γ, hi, hb⟩
              unfold leave at X8
              split at X8
              · rename_i Cq l outs' l' Yd Ew
                split at X8
                · rename_i hn
                  rw [qv] at hn
                  simp only [aa, ak] at X8
                  obtain ⟨rfl, rfl⟩ := X8
                  obtain ⟨us, F1, k1, k2, k3, k4⟩ := DH hi fn.results.toList kf.res wH Yd
                  obtain ⟨F2, y1, y2, y3⟩ := xh hi args 0 Ew hA (λi cs g h4 h5 => by
                    rw [hb _ (by omega)]
                    exact x1 i cs g h4 h5)
                  obtain ⟨v, z1, z2⟩ := Iv k1
                  rw [bj] at hn
                  refine ⟨v, z1, v, us, F1, F2, γ.h, rfl, z2, k2, y1, ?_, λg hg => ?_, ⟨hi.os, hi.tape, hi.output, hi.size, hi.frame, hi.cell, hi.mono, hi.hold, hi.eN, hi.eX⟩⟩
                  · rw [bj]
                    refine ⟨k4 hn.1, y3 hn.2.1, ?_⟩
                    intro a ha b kT e
                    subst e
                    obtain ⟨r, hr, h4⟩ := k3 a ha
                    rcases y2 a kT with ⟨q, hq, h5⟩ | ⟨i, _, h5⟩
                    · rw [h4] at h5; cases h5; exact hn.2.2 r hr r hq rfl
                    · rw [h4] at h5; cases h5
                  · have iQ : γ.ω g ≠ .free := by
                      rcases aM.1 hg with hg | hg
                      · obtain ⟨r, _, h4⟩ := k3 g hg
                        rw [h4]; simp
                      · rcases y2 g hg with ⟨r, _, h4⟩ | ⟨i, _, h4⟩ <;> rw [h4] <;> simp
                    exact ⟨(hi.own g iQ).2, (hi.own g iQ).1⟩
                · cases X8
              · cases X8
            split at he
            · rename_i s X1
              refine j_ (fD (β0 := pc.β) hm ⟨λg a r o he => (kN g a r o he).at_ hL, hj⟩ (λg ag ds q ga q' he => (lg g ag ds q ga q' he).at_ hL) n kf.body c HA X1 ⟨pc, i1, λ_ _ => rfl⟩) (λf' w' hk => fin s f' w' he hk.2) (λi f' w' hk => by cases hk.1) (λf' w' hk => by cases hk.1)
            · rename_i s X1
              refine j_ (fD (β0 := pc.β) hm ⟨λg a r o he => (kN g a r o he).at_ hL, hj⟩ (λg ag ds q ga q' he => (lg g ag ds q ga q' he).at_ hL) n kf.body c HA X1 ⟨pc, i1, λ_ _ => rfl⟩) (λf' w' hk => by cases hk.1) (λi f' w' hk => by cases hk.1) (λf' w' hk => fin s f' w' he hk.2)
            · cases he
          · cases bZ
        · cases bZ
      · cases he
def Pe(P:Program)(num:Nat->FuncId)(f:Nat)(kf:KF):Prop:=
 (kf.np≠999->okF P num f kf=true)/\(kf.np=999->∀args rs outs,XT f args=some (rs,outs)->mI P (num f) args rs outs)
theorem Pe.of{P:Program}{num:Nat->FuncId}{f:Nat}{kf:KF}(h:okF P num f kf=true)(hn:fk kf.np 999=true):Pe P num f kf:=
 ⟨λ_=>h,λe=>by rw[e]at hn;cases hn⟩
theorem Pe.ext{P:Program}{num:Nat->FuncId}{f:Nat}{b:K}{r:List KR}(h:∀args rs outs,XT f args=some (rs,outs)->mI P (num f) args rs outs):Pe P num f ⟨999,b,r⟩:=
 ⟨λe=>absurd rfl e,λ_=>h⟩
theorem sP{P:Program}{num:Nat->FuncId}{T:Nat->Option KF}(hm:P.follows .mixedOrders=true)(hj:num 9004≠1000000->rn P (num 9004))(hT:∀f kf,T f=some kf->Pe P num f kf) :
  ∀(n f:Nat) (args rs outs:List A),u9 T n f args=some (rs,outs)->mI P (num f) args rs outs
 |0,f,args,rs,outs,he=>by simp[u9]at he
 |n+1,f,args,rs,outs,he=>by
  simp only[u9]at he
  split at he
  ·cases he
  ·rename_i kf X6
   split at he
   ·rename_i hx;exact (hT f kf X6).2 hx args rs outs he
   ·rename_i hx;exact C1 hm hj (λg a r o=>sP hm hj hT n g a r o) (λg ag ds q ga q' h=>by cases h) ((hT f kf X6).1 hx) he
end
section
open Go.RowKit
inductive MC where
 |lst
 |ep (i o:Nat)
 |hd (i o:Nat)
 |sub (i o n:Nat)
 |non
def MC.tJ:MC->MC
 | .sub _ _ _=>.non
 |c=>c
def MC.LS:MC->Bool
 | .sub _ _ _=>true
 |_=>false
structure MS where
 s:St
 sp:List (Nat×MC)
 es:List (List D)
def MS.O3(m:MS):KX->Option MC
 | .s d=>look m.sp d
 | .k _=>none
def MS.put(m:MS)(d:Nat)(c:C):MS:=⟨m.s.put (some d) c,pg m.sp d,m.es⟩
def MS.vB(m:MS)(d:Nat)(c:MC):MS:=⟨m.s.put (some d) .any,(d,c)::pg m.sp d,m.es⟩
def MS.set(m:MS)(i o:Nat)(ds:List D):MS:=⟨m.s,m.sp,match nth m.es i with
 |some e=>m.es.set i (fR e o ds)
 |none=>m.es⟩
def MS.tJ(m:MS):MS:=⟨m.s,m.sp.map λp=>(p.1,p.2.tJ),m.es⟩
def MS.cH(m:MS)(kp:j6):MS:=⟨m.s.cH kp,gl m.sp kp.s,m.es⟩
def MS.at_(m:MS)(i o:Nat):Option D:=match nth m.es i with
 |some e=>nth e o
 |none=>none
def ux:List C->Option (List A)
 |[]=>some []
 | .d x::cs=>if D.plain x then (ux cs).map (.val false [.d x]::·) else none
 |_=>none
section
variable (cf:Nat->List A->Option (List A×List A)) (mf:Nat->Bool->List D->Int->Option (List D×Int)) (own:Bool) (k:Nat)
def Ch(m:MS)(d f:Nat)(xs:List KX):Option MS:=
 match ux (xs.map (eW m.s)) with
 |some as=>match cf f as with
  |some ([.val false [.d r]],[])=>if D.plain r then some (m.put d (.d r)) else none
  |_=>none
 |none=>none
def Ek(m:MS)(d f:Nat)(c:MC)(y:C):Option MS:=
 match c,y with
 | .hd i o,.d (.int .i64 q)=>match m.at_ i o with
  |some (.list k fl es)=>match mf f false [.list k fl es] q with
   |some ([x'],q')=>some ((m.set i o [x']).put d (.d (.int .i64 q')))
   |_=>none
  |_=>none
 | .sub i o n,.d (.int .i64 q)=>match nth m.es i with
  |some e=>match mf f true ((e.drop o).take n) q with
   |some (xs,q')=>if o+n<=e.length/\xs.length=n then some ((m.set i o xs).put d (.d (.int .i64 q'))) else none
   |none=>none
  |none=>none
 |_,_=>none
def zQ(m:MS)(d:Nat):KO->Option MS
 | .mv x=>match m.O3 x with
  |some c=>some (m.vB d c)
  |none=>some (m.put d (eW m.s x))
 | .len x=>match m.O3 x with
  |some .lst=>some (m.put d (.d (.int .i64 m.es.length)))
  |_=>none
 | .ia k' x y=>match m.O3 x,eW m.s y with
  |some .lst,.d (.int .i64 n)=>if k'=k/\0<=n/\n.toNat < m.es.length then some (m.vB d (.ep n.toNat 0)) else none
  |_,_=>none
 | .fa o x=>match m.O3 x with
  |some (.ep i p)=>some (m.vB d (.ep i (p+o)))
  |_=>none
 | .ld n x=>match m.O3 x with
  |some (.ep i o)=>if n=0 then (match m.at_ i o with
    |some (.list _ _ _)=>some (m.vB d (.hd i o))
    |_=>none) else (match nth m.es i with
    |some e=>if o+n<=e.length then some (m.vB d (.sub i o n)) else none
    |none=>none)
  |_=>none
 | .call f xs=>match xs with
  |[x,y]=>(match m.O3 x with
   |some c=>Ek mf m d f c (eW m.s y)
   |none=>Ch cf m d f xs)
  |_=>Ch cf m d f xs
 |op=>if op.ji then (gG m.s op).map (m.put d) else none
def Ql(m:MS):KO->Option MS
 | .st n x y=>match m.O3 x,eW m.s y with
  |some (.ep i o),.d v=>match m.at_ i o with
   |some c=>if n=1/\own=true/\D.plain c=true/\D.plain v=true then some (m.set i o [v]).tJ else none
   |none=>none
  |_,_=>none
 |_=>none
def Ei(m:MS)(i:KI):Option MS:=
 match i.gd with
 |some _=>none
 |none=>match i.dst with
  |some d=>zQ cf mf k m d i.op
  |none=>Ql own m i.op
def py:List KI->MS->Option MS
 |[],m=>some m
 |i::is,m=>match Ei cf mf own k m i with
  |some m'=>py is m'
  |none=>none
def iterM(f:MS->Option (Ex×MS)):Nat->MS->Option (Ex×MS)
 |0,_=>none
 |n+1,s=>match f s with
  |some (.norm,s')=>iterM f n s'
  |r=>r
def dc(n:Nat):K->MS->Option (Ex×MS)
 | .skip,m=>some (.norm,m)
 | .cp ops kp,m=>match py cf mf own k ops m with
  |some m'=>some (.norm,m'.cH kp)
  |none=>none
 | .seq a b,m=>match dc n a m with
  |some (.norm,m')=>dc n b m'
  |r=>r
 | .cond c a b,m=>match eW m.s c with
  | .d (.bool t)=>if t then dc n a m else dc n b m
  |_=>none
 | .block id a,m=>match dc n a m with
  |some (.exit i,m')=>if i=id then some (.norm,m') else some (.exit i,m')
  |r=>r
 | .loop a,m=>iterM (dc n a) n m
 | .exit id,m=>some (.exit id,m)
 | .ret,m=>some (.ret,m)
 |_,_=>none
end
def vz(r:Nat):Option (Ex×MS)->Option (List (List D)×Int)
 |some (.norm,m)=>(match m.s.get r with
  | .d (.int .i64 q)=>some (m.es,q)
  |_=>none)
 |some (.ret,m)=>(match m.s.get r with
  | .d (.int .i64 q)=>some (m.es,q)
  |_=>none)
 |_=>none
noncomputable def Cg(T:Nat->Option KF):Nat->Nat->Bool->List D->Int->Option (List D×Int)
 |0,_,_,_,_=>none
 |n+1,f,ag,cells,q=>match T f with
  |some ⟨2,body,[.t r]⟩=>
   if ag then (match body with
    | .seq (.cp (⟨some b,.box (.s 0),none⟩::is) kp) xI=>
     (match py (u9 T n) (Cg T n) false cells.length is (MS.vB ⟨⟨[(1,.d (.int .i64 q))],[],[]⟩,[],[cells]⟩ b (.ep 0 0)) with
     |some m=>(match vz r (dc (u9 T n) (Cg T n) false cells.length n xI (m.cH kp)) with
      |some ([qa],q')=>some (qa,q')
      |_=>none)
     |none=>none)
    |_=>none)
   else (match cells with
    |[.list k fl es]=>(match vz r (dc (u9 T n) (Cg T n) true k n body ⟨⟨[(1,.d (.int .i64 q))],[],[]⟩,[(0,.lst)],es⟩) with
     |some (ja,q')=>some ([.list k fl ja],q')
     |none=>none)
    |_=>none)
  |_=>none
theorem fQ.ofC{w:World}:∀(ds:List D) {vs:List Value} {G:Fp},eb w ds vs G->∃Fs,Fs.flatten=G/\fQ w ds vs Fs
 |[],_,_,h=>by
  simp only[eb]at h;exact⟨[],by simp[h.2],by simp[fQ,h.1]⟩
 |d::ds,_,_,h=>by
  simp only[eb]at h;obtain⟨v,dZ,F1,F2,rfl,rfl,h1,h2⟩:=h;obtain⟨Fs,rfl,h3⟩:=fQ.ofC ds h2;exact⟨F1::Fs,by simp,by simp only[fQ];exact⟨v,dZ,F1,Fs,rfl,rfl,h1,h3⟩⟩
theorem fQ.toC{w:World}:∀(ds:List D) {vs:List Value} {Fs:List Fp},fQ w ds vs Fs->eb w ds vs Fs.flatten
 |[],_,_,h=>by
  simp only[fQ]at h;simp[eb,h.1,h.2]
 |d::ds,_,_,h=>by
  simp only[fQ]at h;obtain⟨v,dZ,F,TC,rfl,rfl,h1,h2⟩:=h;simp only[eb,dh];exact⟨v,dZ,F,_,rfl,rfl,h1,fQ.toC ds h2⟩
theorem eH.toFlat{w:World}:∀(es:List (List D)) {vs:List Value} {G:Fp},eH w es vs G->eb w es.flatten vs G
 |[],_,_,h=>by simpa [eH,eb] using h
 |e::es,_,_,h=>by
  simp only[eH]at h;obtain⟨v1,v2,F1,F2,rfl,rfl,h1,h2⟩:=h;rw[dh];exact eb.append e h1 (eH.toFlat es h2)
theorem eH.RW{w:World}:∀(es:List (List D)) {vs:List Value} {G:Fp},eb w es.flatten vs G->eH w es vs G
 |[],_,_,h=>by simpa [eH,eb] using h
 |e::es,_,_,h=>by
  rw[dh]at h;obtain⟨v1,v2,F1,F2,rfl,rfl,h1,h2⟩:=eb.fy e h;simp only[eH];exact⟨v1,v2,F1,F2,rfl,rfl,h1,eH.RW es h2⟩
theorem fQ.length{w:World}:∀(ds:List D) {vs:List Value} {Fs:List Fp},fQ w ds vs Fs->vs.length=ds.length/\Fs.length=ds.length
 |[],_,_,h=>by simp only[fQ]at h;simp[h.1,h.2]
 |d::ds,_,_,h=>by
  simp only[fQ]at h;obtain⟨v,dZ,F,TC,rfl,rfl,h1,h2⟩:=h;simp[fQ.length ds h2]
theorem fQ.append{w:World}:∀(ds:List D) {es:List D} {vs us:List Value} {Fs Gs:List Fp},fQ w ds vs Fs->fQ w es us Gs->fQ w (ds++es) (vs++us) (Fs++Gs)
 |[],_,_,_,_,_,h,h'=>by simp only[fQ]at h;obtain⟨rfl,rfl⟩:=h;simpa using h'
 |d::ds,_,_,_,_,_,h,h'=>by
  simp only[fQ]at h;obtain⟨v,dZ,F,TC,rfl,rfl,h1,h2⟩:=h;simp only[ai,fQ];exact⟨v,_,F,_,rfl,rfl,h1,fQ.append ds h2 h'⟩
theorem fQ.drop{w:World}:∀(ds:List D) {vs:List Value} {Fs:List Fp} (n:Nat),fQ w ds vs Fs->fQ w (ds.drop n) (vs.drop n) (Fs.drop n)
 |_,_,_,0,h=>by simpa using h
 |[],_,_,n+1,h=>by simp only[fQ]at h;simp[fQ,h.1,h.2]
 |d::ds,_,_,n+1,h=>by
  simp only[fQ]at h;obtain⟨v,dZ,F,TC,rfl,rfl,h1,h2⟩:=h
  simpa using fQ.drop ds n h2
theorem fQ.take{w:World}:∀(ds:List D) {vs:List Value} {Fs:List Fp} (n:Nat),fQ w ds vs Fs->fQ w (ds.take n) (vs.take n) (Fs.take n)
 |_,_,_,0,h=>by simp[fQ]
 |[],_,_,n+1,h=>by simp only[fQ]at h;simp[fQ,h.1,h.2]
 |d::ds,_,_,n+1,h=>by
  simp only[fQ]at h;obtain⟨v,dZ,F,TC,rfl,rfl,h1,h2⟩:=h;simp only[cx,fQ];exact⟨v,_,F,_,rfl,rfl,h1,fQ.take ds n h2⟩
theorem fQ.ZX{w:World}{ds ns:List D}{vs us:List Value}{Fs Gs:List Fp}(o:Nat)(h:fQ w ds vs Fs)(h':fQ w ns us Gs):fQ w (fR ds o ns) (fR vs o us) (fR Fs o Gs):=by
 obtain⟨e1,e2⟩:=fQ.length ns h';unfold fR;rw[e1,e2];exact fQ.append _ (fQ.append _ (fQ.take ds o h) h') (fQ.drop ds _ h)
theorem xt{α:Type}(l:List α)(o n:Nat)(h:o+n<=l.length):fR l o ((l.drop o).take n)=l:=by
 unfold fR;have e:((l.drop o).take n).length=n:=by simp;omega
 rw[e,bh,show l.drop (o+n)=(l.drop o).drop n by rw[pe],bc,bc]
theorem yd{α:Type}(l ns:List α)(o:Nat)(h:o+ns.length<=l.length):(fR l o ns).length=l.length:=by
 unfold fR;simp;omega
theorem fQ.cH{w w':World}:∀(ds:List D) {vs:List Value} {Fs:List Fp},fQ w ds vs Fs->(∀F∈Fs,∀be∈F,w'.heap[be.1]?=w.heap[be.1]?)->fQ w' ds vs Fs
 |[],_,_,h,_=>by simpa only [fQ] using h
 |d::ds,_,_,h,hk=>by
  simp only[fQ]at h ⊢;obtain⟨v,dZ,F,TC,rfl,rfl,h1,h2⟩:=h;exact⟨v,dZ,F,TC,rfl,rfl,h1.cH d (λbe hb j _=>World.cell?_of_block (w:=w) (hk F (by simp) be hb)),fQ.cH ds h2 (λG hG=>hk G (by simp[hG]))⟩
theorem Aa{k:Nat}:∀(es:List (List D)) (i o:Nat) (e ds:List D),(∀e∈es,e.length=k)->nth es i=some e->o+ds.length<=k->(es.set i (fR e o ds)).flatten=fR es.flatten (i * k+o) ds
 |[],i,o,e,ds,_,h,_=>by simp[nth]at h
 |x::es,0,o,e,ds,hk,h,ho=>by
  simp only[nth,aa]at h;subst h;have hx:=hk x (by simp);simp only[List.set_cons_zero,dh,oN,bm,fR];rw[List.take_append_of_le_length (by omega),List.drop_append_of_le_length (by omega)];simp
 |x::es,i+1,o,e,ds,hk,h,ho=>by
  simp only[nth]at h;have hx:=hk x (by simp);have ih:=Aa es i o e ds (λy hy=>hk y (by simp[hy])) h ho;have e1:(i+1) * k+o=x.length+(i * k+o):=by rw[iG];omega
  rw[List.set_cons_succ,dh,ih,dh,e1];unfold fR;rw[List.take_length_add_append,show x.length+(i * k+o)+ds.length=x.length+(i * k+o+ds.length) by omega,List.drop_length_add_append];simp
theorem z8{k:Nat}:∀(es:List (List D)),(∀e∈es,e.length=k)->es.flatten.length=es.length * k
 |[],_=>by simp
 |e::es,h=>by
  rw[dh,aL,z8 es (λx hx=>h x (by simp[hx])),h e (by simp),az,iG];omega
theorem nM{k:Nat}:∀(es:List (List D)) (i o n:Nat) (e:List D),(∀e∈es,e.length=k)->nth es i=some e->o+n<=k->(es.flatten.drop (i * k+o)).take n=(e.drop o).take n/\i * k+o+n<=es.flatten.length
 |[],i,o,n,e,_,h,_=>by simp[nth]at h
 |x::es,0,o,n,e,hk,h,ho=>by
  simp only[nth,aa]at h;subst h;have hx:=hk x (by simp);refine⟨?_,by simp;omega⟩;rw[dh,oN,bm,List.drop_append_of_le_length (by omega),List.take_append_of_le_length (by simp;omega)]
 |x::es,i+1,o,n,e,hk,h,ho=>by
  simp only[nth]at h;have hx:=hk x (by simp);obtain⟨h1,h2⟩:=nM es i o n e (λy hy=>hk y (by simp[hy])) h ho;have e1:(i+1) * k+o=x.length+(i * k+o):=by rw[iG];omega
  rw[dh,e1];refine⟨by rw[List.drop_length_add_append];exact h1,by rw[aL];omega⟩
end
section
open Go.RowKit
section
variable {P:Program} {ρ:Operand->Value} {w:World} {dst:Option Tmp} {ty:TypeId} {pos:String} {aft:Array Edge} {gd:Option (Nat×Bool)}
theorem Kk{g i:Nat}{v u:Value}{α:Type}(k:Sem α)(hc:w.cell? ⟨g,i,none⟩=some u)(hf:w.frozen? ⟨g,i,none⟩=false)(h1:one v=true) :
  (Sem.store .plain ⟨g,i,none⟩ v k).run P w=k.run P (w.setCell ⟨g,i,none⟩ v):=by
 cases v<;>simp_all[Sem.run,one]
theorem Ts{x y:Operand}{g o:Nat}{T:TypeId}{v u:Value}(hS:∀w,(kA T).run P w=.ok 1 w)(hx:ρ x=.pointer (some ⟨g,o,none⟩))(hy:ρ y=v)(h1:one v=true)(hc:w.cell? ⟨g,o,none⟩=some u)(hf:w.frozen? ⟨g,o,none⟩=false) :
  (execOp ρ ⟨dst,.store T x y,ty,pos,aft,gd⟩).run P w=.ok .skip (w.setCell ⟨g,o,none⟩ v):=by
 have LG:v.cells=#[v]:=by cases v<;>simp_all[Value.cells,one]
 simp[execOp,Instr.storeAt,hx,hy,Instr.sureAddr,storeVar,hS,LG,storeCells,store,Addr.add,Kk _ hc hf h1]
end
section
variable (w:World) (g i:Nat) (v:Value)
theorem nt{b:Nat}(h:b≠g):(w.setCell ⟨g,i,none⟩ v).heap[b]?=w.heap[b]?:=by
 simp[World.setCell,mF,kD h]
theorem vF:(w.setCell ⟨g,i,none⟩ v).heap.size=w.heap.size:=by simp[World.setCell]
theorem FP{j:Nat}(h:j≠i):(w.setCell ⟨g,i,none⟩ v).cell? ⟨g,j,none⟩=w.cell? ⟨g,j,none⟩:=by
 simp only[World.cell?,World.setCell,mF,if_true];cases w.heap[g]? with
 |none=>rfl
 |some o=>cases o<;>simp[Array.getElem?_setIfInBounds_ne (kD h)]
theorem FQ{u:Value}(h:w.cell? ⟨g,i,none⟩=some u):(w.setCell ⟨g,i,none⟩ v).cell? ⟨g,i,none⟩=some v:=by
 simp only[World.cell?,World.setCell,mF,if_true]at h ⊢;cases hg:w.heap[g]? with
 |none=>rw[hg]at h;cases h
 |some o=>
  rw[hg]at h;cases o<;>simp at h
  rename_i c e fz;simp[(pd.1 h).1]
theorem BC(b j:Nat):(w.setCell ⟨g,i,none⟩ v).frozen? ⟨b,j,none⟩=w.frozen? ⟨b,j,none⟩:=by
 by_cases hb:b=g
 ·subst hb;simp only[World.frozen?,World.setCell,mF,if_true];cases w.heap[b]? with
  |none=>rfl
  |some o=>cases o<;>simp
 ·simp only[World.frozen?,nt w g i v hb]
end
structure Tree where
 g:Nat
 p:Nat
 k:Nat
 n:Nat
 Fs:List Fp
 hv:List Value
 pl:List Bool
 ro:Bool
def MT(t:Tree)(w:World)(es:List (List D)):Prop:=
 es.length=t.n/\(∀e∈es,e.length=t.k)/\es.flatten.map D.plain=t.pl/\
  ∃xs:List Value,fQ w es.flatten xs t.Fs/\gy w t.g t.p xs/\(∀j:Nat,t.pl[j]?=some false->xs[j]?=t.hv[j]?)/\(t.ro=true->xs=t.hv)
def Jd(t:Tree)(w:World):MC->Value->Prop
 | .lst,v=>∃A c,v=.slice A t.n c/\(t.n=0\/A=some ⟨t.g,t.p,none⟩)/\t.n<=maxLen
 | .ep i o,v=>v=.pointer (some ⟨t.g,t.p+(i * t.k+o),none⟩)
 | .hd i o,v=>t.hv[i * t.k+o]?=some v
 | .non,_=>True
 | .sub i o n,v=>0 < t.n/\∃vs,v=.agg vs.toArray/\vs.length=n/\gy w t.g (t.p+(i * t.k+o)) vs
structure Tok (t:Tree) (own:Bool) (h:Nat->Nat) (F:List Nat) (w0:World):Prop where
 fs:∀G∈t.Fs,∀be∈G,be.1∈F/\be.1≠t.g
 nd:(t.Fs.flatten.map bG).Nodup
 zero:∀g∈F,h g=0/\mJ w0 g/\g < w0.heap.size
 own:own=true->(t.n=0\/t.g∈F)/\t.ro=false
abbrev M0(h:Nat->Nat)(F:List Nat):Gh:=⟨h,λ_=>0,λ_=>undef,λg=>if g∈F then .db else .free⟩
structure jP (t:Tree) (h:Nat->Nat) (F:List Nat) (w0:World) (m:MS) (f:Fm) (w:World):Prop where
 inv:Inv (M0 h F) h F w0 m.s f w
 mt:MT t w m.es
 sp:∀d c,look m.sp d=some c->Jd t w c (f d)
 lt:t.n=0\/t.g < w.heap.size
section
variable {t:Tree} {own:Bool} {h:Nat->Nat} {F:List Nat} {w0:World} {m:MS} {f:Fm} {w w':World}
theorem Tg{f:Fm}{d e:Nat}{v:Value}(h:d≠e):yi f d v e=f e:=by
 unfold yi;cases hb:jA e d
 ·rfl
 ·exact absurd (mU hb).symm h
theorem Th{f:Fm}{d:Nat}{v:Value}:yi f d v d=v:=by simp[yi]
theorem jP.put(hi:jP t h F w0 m f w){d:Nat}{c:C}{v:Value}(hc:CR (M0 h F) w c v):jP t h F w0 (m.put d c) (yi f d v) w:=
 ⟨hi.inv.put d c v hc,hi.mt,λe c' hl=>by
  simp only[MS.put,dN]at hl
  split at hl
  ·cases hl
  ·rename_i iQ;rw[Tg iQ];exact hi.sp e c' hl,hi.lt⟩
theorem jP.vB(hi:jP t h F w0 m f w){d:Nat}{c:MC}{v:Value}(hc:Jd t w c v):jP t h F w0 (m.vB d c) (yi f d v) w:=
 ⟨hi.inv.put d .any v (by simp only[CR]),hi.mt,λe c' hl=>by
  simp only[MS.vB,look,dN]at hl
  split at hl
  ·rename_i he;subst he;simp only[aa]at hl;subst hl;rw[Th];exact hc
  ·rename_i iQ;rw[Tg iQ];exact hi.sp e c' hl,hi.lt⟩
theorem jP.go(hi:jP t h F w0 m f w)(ha:sJ (M0 h F) (λo=>o=.db) w w'){sp':List (Nat×MC)}{ja:List (List D)}(hm:MT t w' ja)(hs:∀d c,look sp' d=some c->c=.non\/(look m.sp d=some c/\(c.LS=true->w'.heap[t.g]?=w.heap[t.g]?))) :
  jP t h F w0 ⟨m.s,sp',ja⟩ f w':=
 ⟨hi.inv.M7 ha (λh=>by cases h) (λb h=>by cases h) (λr h=>by cases h),hm,λd c hl=>by
  rcases hs d c hl with rfl|⟨h1,h2⟩
  ·trivial
  have h3:=hi.sp d c h1;cases c with
  |non=>trivial
  |lst=>exact h3
  |ep i o=>exact h3
  |hd i o=>exact h3
  |sub i o n=>
   obtain⟨h4,vs,h5,h6,h7⟩:=h3;exact⟨h4,vs,h5,h6,h7.cH (h2 rfl)⟩,by
  rcases hi.lt with h|h
  ·exact .inl h
  ·exact .inr (bp h ha.size)⟩
theorem MT.cH(hm:MT t w m.es)(hF:∀G∈t.Fs,∀be∈G,w'.heap[be.1]?=w.heap[be.1]?)(hg:t.n=0\/w'.heap[t.g]?=w.heap[t.g]?):MT t w' m.es:=by
 obtain⟨h1,h2,h3,xs,h4,h5,h6⟩:=hm;refine⟨h1,h2,h3,xs,fQ.cH _ h4 hF,?_,h6⟩;rcases hg with hg|hg
 ·have hl:=(fQ.length _ h4).1;rw[z8 _ h2,h1,hg,oN]at hl;have:xs=[]:=cm.1 hl;subst this;intro j u hu;simp at hu
 ·exact h5.cH hg
theorem Inv.WO(hi:Inv (M0 h F) h F w0 m.s f w){g:Nat}(hg:g∈F):g < w.heap.size:=(hi.own g (by simp[hg])).1
theorem qB{N:Nat}(hi:jP t h F w0 m f w){x:Operand}{y:KX}(bZ:jo N x y=true){c:MC}(hc:m.O3 y=some c):Jd t w c ((fr f N).eval x):=by
 cases y with
 |k c'=>simp[MS.O3]at hc
 |s d=>
  simp only[MS.O3]at hc;cases x<;>simp only[jo,ab,beq_iff_eq,av]at bZ
  obtain⟨rfl,hN⟩:=bZ;rw[yO f (by simpa using hN)];exact hi.sp _ c hc
end
end
section
open Go.RowKit
section
variable {P:Program} {N:Nat} {t:Tree} {own:Bool} {h:Nat->Nat} {F:List Nat} {w0:World} {m:MS} {f:Fm} {w w':World}
theorem K7(hi:Inv (M0 h F) h F w0 m.s f w){Fb:List Nat}{h':Nat->Nat}(hc:xH h Fb w w' h')(hs:∀g∈Fb,g∈F):sJ (M0 h F) (λo=>o=.db) w w' where
 os:=hc.os
 tape:=hc.tape
 output:=hc.output
 size:=hc.size
 block g hg hn:=hc.block g hg (λhm=>hn (by simp[hs g hm]))
 cell g j hj:=by
  rcases cY g w.heap.size with hl|hl
  ·exact hc.cell g j hl hj
  ·have:=hi.eN g hl;simp only at this hj
   omega
 eX:=hc.eX
theorem H_{α β:Type}(f:α->β)(l ns:List α)(o:Nat):(fR l o ns).map f=fR (l.map f) o (ns.map f):=by
 simp[fR,dd,nc,List.map_drop]
theorem l8{α:Type}(l:List α)(j n:Nat):l=l.take j++((l.drop j).take n++l.drop (j+n)):=by
 rw[show l.drop (j+n)=(l.drop j).drop n by rw[pe],bc,bc]
theorem MT.mark(hm:MT t w m.es)(hk:Tok t own h F w0){i o n:Nat}{e:List D}(he:nth m.es i=some e)(hn:o+n<=t.k){ga:List D}{h':Nat->Nat}{xs:List Value}(hx:fQ w m.es.flatten xs t.Fs)(hL:gy w t.g t.p xs)(hV:(∀j:Nat,t.pl[j]?=some false->xs[j]?=t.hv[j]?)/\(t.ro=true->xs=t.hv))
  (hg:t.n=0\/t.g < w.heap.size) (hF:∀g∈F,g < w.heap.size)
  (hr:fQ w' ga ((xs.drop (i * t.k+o)).take n) ((t.Fs.drop (i * t.k+o)).take n)) (hp:ga.map D.plain=((e.drop o).take n).map D.plain) (hc:xH h (((t.Fs.drop (i * t.k+o)).take n).flatten.map bG) w w' h'):MT t w' (m.es.set i (fR e o ga))/\(t.n=0\/w'.heap[t.g]?=w.heap[t.g]?):=by
 obtain⟨h1,h2,h3,_⟩:=hm;obtain⟨f1,f2⟩:=nM m.es i o n e h2 he hn;have yp:e.length=t.k:=h2 e (cK (by rw[<- cU];exact he));have xU:ga.length=n:=by
  have:=congrArg List.length hp;simp only[au,a_,gL]at this;omega
 obtain⟨l1,l2⟩:=fQ.length _ hx;generalize hj:i * t.k+o=j at *;have Uz:∀G∈(t.Fs.drop j).take n,G∈t.Fs:=λG hG=>iB (bN hG);have uI:t.n=0\/w'.heap[t.g]?=w.heap[t.g]?:=by
  rcases hg with hg|hg
  ·exact .inl hg
  ·refine .inr (hc.block _ hg ?_);intro hm;obtain⟨be,hb,e⟩:=bQ.1 hm;obtain⟨G,hG,hb⟩:=dX.1 hb;exact (hk.fs G (Uz G hG) be hb).2 e
 have jm:=hk.nd;rw[l8 t.Fs j n]at jm;simp only[List.flatten_append,dd]at jm;have yr:∀G,(G∈t.Fs.take j\/G∈t.Fs.drop (j+n))->∀be∈G,w'.heap[be.1]?=w.heap[be.1]?:=by
  intro G hG be hb;have hGF:G∈t.Fs:=by
   rcases hG with hG|hG
   ·exact bN hG
   ·exact iB hG
  refine hc.block _ (hF _ (hk.fs G hGF be hb).1) ?_;intro hm;rw[bj]at jm;obtain⟨_,Hz,qV⟩:=jm;rw[bj]at Hz;rcases hG with hG|hG
  ·exact qV be.1 (cR (dX.2 ⟨G,hG,hb⟩)) be.1 (aM.2 (.inl hm)) rfl
  ·exact Hz.2.2 be.1 hm be.1 (cR (dX.2 ⟨G,hG,hb⟩)) rfl
 have Hw:(m.es.set i (fR e o ga)).flatten=fR m.es.flatten j ga:=by
  rw[Aa m.es i o e ga h2 he (by omega),hj]
 have jU:fQ w' (fR m.es.flatten j ga) xs t.Fs:=by
  have a1:=fQ.cH _ (fQ.take _ j hx) (λG hG=>yr G (.inl hG));have a2:=fQ.cH _ (fQ.drop _ (j+n) hx) (λG hG=>yr G (.inr hG));have a3:=fQ.append _ (fQ.append _ a1 hr) a2;have e1:xs.take j++(xs.drop j).take n++xs.drop (j+n)=xs:=by rw[bh];exact (l8 xs j n).symm
  have e2:t.Fs.take j++(t.Fs.drop j).take n++t.Fs.drop (j+n)=t.Fs:=by rw[bh];exact (l8 t.Fs j n).symm
  rw[e1,e2]at a3;unfold fR;rw[xU];exact a3
 refine⟨⟨by simp[h1],λy hy=>?_,?_,xs,by rw[Hw];exact jU,?_,hV⟩,uI⟩
 ·rcases kB hy with hy|rfl
  ·exact h2 y hy
  ·rw[yd _ _ _ (by omega)];exact yp
 ·rw[Hw,H_,hp,<- f1,nc,List.map_drop,xt _ _ _ (by rw[au];exact f2)];exact h3
 ·rcases uI with yP|uI
  ·rw[z8 _ h2,h1,yP,oN]at l1;have:xs=[]:=cm.1 l1;subst this;intro j u hu;simp at hu
  ·exact hL.cH uI
theorem Bu(hi:Inv (M0 h F) h F w0 m.s f w):∀(cs:List C) {as:List A} {vs:List Value},ux cs=some as->dR (M0 h F) w cs vs->kF h w as vs []
 |[],as,vs,hp,hc=>by
  simp only[ux,aa]at hp;subst hp;simp only[dR]at hc;simp[kF,hc]
 |c::cs,as,vs,hp,hc=>by
  unfold ux at hp
  split at hp
  ·rename_i e;cases e
  ·rename_i x iC heq;simp only[bw]at heq;obtain⟨rfl,rfl⟩:=heq
   split at hp
   ·simp only[ad]at hp;obtain⟨K8,hp,rfl⟩:=hp;simp only[dR,CR]at hc;obtain⟨v,dZ,rfl,⟨G,h1,h2⟩,h3⟩:=hc;simp only[kF];refine⟨v,dZ,[],[],rfl,rfl,?_,Bu hi cs hp h3⟩;simp only[AR,gz,Cy];exact⟨[v],⟨v,[],[],[],rfl,rfl,⟨rfl,G,h1,h2⟩,rfl,rfl⟩,(λh=>by cases h),λ_=>rfl⟩
   ·cases hp
  ·cases hp
theorem Rp.Kg{d:D}{v:Value}{G:Fp}(h:Rp w d v G)(hp:D.plain d=true)(w':World):Rp w' d v []/\G=[]:=by
 cases d with
 |list k fl es=>simp[D.plain]at hp
 |int k n=>simp only[Rp]at h ⊢;exact⟨⟨h.1,trivial,h.2.2⟩,h.2.1⟩
 |bool b=>simp only[Rp]at h ⊢;exact⟨⟨h.1,trivial⟩,h.2⟩
 |str s=>simp only[Rp]at h ⊢;exact⟨⟨h.1,trivial,h.2.2⟩,h.2.1⟩
variable {num:Nat->FuncId} {cf:Nat->List A->Option (List A×List A)} {mf:Nat->Bool->List D->Int->Option (List D×Int)} {K':Fm->World->Prop} {d:Nat} {ty:TypeId} {pos:String} {aft:Array Edge} {gd:Option (Nat×Bool)} {m':MS}
theorem zA{F0:FuncId}(hc:ku P F0=true)(args:Array Value)(w:World):(callFunc F0 args).run P w=.ok (.enter F0 args) w:=by
 unfold ku at hc
 split at hc
 ·rename_i fn Et;simp only[ab,cq]at hc;exact jT Et hc.1 hc.2 args w
 ·cases hc
theorem Mn(kN:∀g a r o,cf g a=some (r,o)->tL w0 F P (num g) a r o)(hi:jP t h F w0 m f w)(hk:Tok t own h F w0){g:Nat}{as:Array Operand}{ts:Array TypeId}{xs:List KX}(hc:ku P (num g)=true)(hx:yx N as.toList xs=true)(he:Ch cf m d g xs=some m')
  (hK:∀f' w',jP t h F w0 m' f' w'->K' f' w'):rf P N ⟨some d,.call {callee:=.value (.func (num g)),args:=as,argTypes:=ts },ty,pos,aft,gd⟩ f w K':=by
 unfold Ch at he
 split at he
 ·rename_i cas QV
  split at he
  ·rename_i r X0
   split at he
   ·rename_i hpl;simp only[aa]at he;subst he;have hcr:=Bj hi.inv _ _ hx;have hA:=Bu hi.inv _ QV hcr;have pD:=kN _ _ _ _ X0 w h _ [] hi.inv.size hi.inv.frame (λg hg=>by simp at hg) hA (by simp) (λg hg=>by simp at hg) hi.inv.eN;have yt:as.map (fr f N).eval=(as.toList.map (fr f N).eval).toArray:=by apply Array.ext';rw[mT]
    refine xd (xD (zA hc) rfl yt) pD λe w' hp=>?_;obtain⟨v,us,F1,F2,h',rfl,Q7,qW,_,_,_,oT⟩:=hp;refine⟨v,rfl,hK _ _ ?_⟩;simp only[kF,AR,gz,Cy]at qW;obtain⟨u,us',G1,G2,rfl,_,⟨vs,⟨v1,vs1,H1,H2,rfl,_,⟨_,G,hG,_⟩,rfl,_⟩,_,hv⟩,rfl,_⟩:=qW;have e1:=hv trivial;simp only[bw,and_true]at e1;subst e1;have e2:v=v1:=by
     rcases Q7 with h|⟨h,_⟩
     ·simp only[bw,and_true]at h;exact h.symm
     ·exact absurd rfl h
    subst e2;have ha:=K7 hi.inv oT (λg hg=>by simp at hg);have WD:∀g,g < w.heap.size->w'.heap[g]?=w.heap[g]?:=λg hg=>oT.block g hg (by simp);have uI:t.n=0\/w'.heap[t.g]?=w.heap[t.g]?:=hi.lt.imp id (WD _);have i1:=hi.go (sp':=m.sp) ha (hi.mt.cH (λG hG be hb=>WD _ (hi.inv.WO (hk.fs G hG be hb).1)) uI) (λd c hl=>.inr ⟨hl,λhs=>by
     cases c with
     |sub i o n=>
      have:=(hi.sp d _ hl).1;rcases uI with h|h
      ·omega
      ·exact h
     |_=>simp[MC.LS]at hs⟩)
    refine i1.put ?_;simp only[CR];exact⟨[],(hG.Kg hpl w').1,λbe hb=>by simp at hb⟩
   ·cases he
  ·cases he
 ·cases he
theorem Mo{ag:Bool}{q q':Int}{ga:List D}{g i o n:Nat}{e:List D}{v:Value}(hi:jP t h F w0 m f w)(hk:Tok t own h F w0)(he:nth m.es i=some e)(hn:o+n<=t.k)(hM:oO w0 F P (num g) ag ((e.drop o).take n) q ga q')
  {as:Array Operand} {ts:Array TypeId} (hc:ku P (num g)=true) (yt:as.map (fr f N).eval=#[v,.int .i64 q]) (hq:IntKind.i64.wrap q=q)
  (hv:∀xs:List Value,fQ w m.es.flatten xs t.Fs->gy w t.g t.p xs->(∀j:Nat,t.pl[j]?=some false->xs[j]?=t.hv[j]?)/\(t.ro=true->xs=t.hv)->(ag=true->v=.agg ((xs.drop (i * t.k+o)).take n).toArray)/\(ag=false->(xs.drop (i * t.k+o)).take n=[v]))
  (hK:∀f' w',jP t h F w0 ((m.set i o ga).put d (.d (.int .i64 q'))) f' w'->K' f' w'):rf P N ⟨some d,.call {callee:=.value (.func (num g)),args:=as,argTypes:=ts },ty,pos,aft,gd⟩ f w K':=by
 obtain⟨h1,h2,h3,xs,hx,hL,hV⟩:=hi.mt;obtain⟨f1,f2⟩:=nM m.es i o n e h2 he hn;obtain⟨v1,v2⟩:=hv xs hx hL hV;have hr:=fQ.take _ n (fQ.drop _ (i * t.k+o) hx);rw[f1]at hr;have Uz:∀G∈(t.Fs.drop (i * t.k+o)).take n,G∈t.Fs:=λG hG=>iB (bN hG);have jm:=hk.nd;rw[l8 t.Fs (i * t.k+o) n]at jm;simp only[List.flatten_append,dd]at jm;rw[bj]at jm;have Hz:=jm.2.1;rw[bj]at Hz;have ub:∀g∈((t.Fs.drop (i * t.k+o)).take n).flatten.map bG,g∈F:=λg hg=>by
  obtain⟨be,hb,rfl⟩:=bQ.1 hg;obtain⟨G,hG,hb⟩:=dX.1 hb;exact (hk.fs G (Uz G hG) be hb).1
 have pD:=hM w h v _ _ hi.inv.size hi.inv.frame (λg hg=>.inr (ub g hg)) hr v1 v2 hq Hz.1 (λG hG be hb=>by
  have:=hk.zero _ (hk.fs G (Uz G hG) be hb).1;exact⟨this.1,hi.inv.eX _ this.2.1⟩) hi.inv.eN
 refine xd (xD (zA hc) rfl yt) pD λe' w' hp=>?_;obtain⟨rfl,hq',yQ,Gq,oT⟩:=hp;refine⟨_,rfl,hK _ _ ?_⟩;have ha:=K7 hi.inv oT ub;obtain⟨hmt,uI⟩:=hi.mt.mark hk he hn hx hL hV hi.lt (λg hg=>hi.inv.WO hg) yQ Gq oT;have i1:=hi.go (sp':=m.sp) ha hmt (λd c hl=>.inr ⟨hl,λhs=>by
  cases c with
  |sub i o n=>
   have:=(hi.sp d _ hl).1;rcases uI with h|h
   ·omega
   ·exact h
  |_=>simp[MC.LS]at hs⟩)
 have i2:=i1.put (d:=d) (gj hq');simp only[MS.set,he];exact i2
end
end
section
open Go.RowKit
section
variable {P:Program} {N:Nat} {t:Tree} {own:Bool} {h:Nat->Nat} {F:List Nat} {w0:World} {m m':MS} {f:Fm} {w w':World} {num:Nat->FuncId} {cf:Nat->List A->Option (List A×List A)} {mf:Nat->Bool->List D->Int->Option (List D×Int)} {K':Fm->World->Prop} {d:Nat} {ty:TypeId} {pos:String} {aft:Array Edge} {gd:Option (Nat×Bool)}
theorem MT.at_(hm:MT t w m.es){i o:Nat}{x:D}(hx:m.at_ i o=some x){xs:List Value}(hr:fQ w m.es.flatten xs t.Fs):∃e v,nth m.es i=some e/\o+1<=t.k/\(e.drop o).take 1=[x]/\xs[i * t.k+o]?=some v/\(xs.drop (i * t.k+o)).take 1=[v]/\t.pl[i * t.k+o]?=some (D.plain x)/\0 < t.n:=by
 obtain⟨h1,h2,h3,_⟩:=hm;unfold MS.at_ at hx
 split at hx
 ·rename_i e he;have yp:e.length=t.k:=h2 e (cK (by rw[<- cU];exact he));rw[cU]at hx;have ho:=(aI.1 hx).1;have e1:(e.drop o).take 1=[x]:=by rw[nf,nX,hx];rfl
  obtain⟨f1,f2⟩:=nM m.es i o 1 e h2 he (by omega);rw[e1]at f1;have hl:=(fQ.length _ hr).1;have ig:i * t.k+o < xs.length:=by omega
  have NF:0 < t.n:=by
   rw[<- h1];have:=(aI.1 (by rw[<- cU];exact he:m.es[i]?=some e)).1;omega
  refine⟨e,xs[i * t.k+o],he,by omega,e1,by simp[ig],?_,?_,NF⟩
  ·rw[nf,nX];simp[ig]
  ·rw[<- h3,List.getElem?_map];have:m.es.flatten[i * t.k+o]?=some x:=by
    rw[nf,nX]at f1;cases hh:m.es.flatten[i * t.k+o]? with
    |none=>rw[hh]at f1;cases f1
    |some y=>rw[hh]at f1;simp at f1;rw[f1]
   rw[this];rfl
 ·cases hx
theorem RN(kN:∀g a r o,cf g a=some (r,o)->tL w0 F P (num g) a r o)(lg:∀g ag ds q ga q',mf g ag ds q=some (ga,q')->oO w0 F P (num g) ag ds q ga q')(hi:jP t h F w0 m f w)(hk:Tok t own h F w0){op:Op}{nC:KO}(jd:(if nC.ji then qx P N op nC else RZ P N num op (some d) nC)=true)(he:zQ cf mf t.k m d nC=some m')
  (hK:∀f' w',jP t h F w0 m' f' w'->K' f' w'):rf P N ⟨some d,op,ty,pos,aft,gd⟩ f w K':=by
 have Ti:∀{c:MC} {v:Value},m'=m.vB d c->Jd t w c v->(execOp (fr f N).eval ⟨some d,op,ty,pos,aft,gd⟩).run P w=.ok (.value v) w->rf P N ⟨some d,op,ty,pos,aft,gd⟩ f w K':=by
  intro c v e hv hr;exact cX hr (hK _ _ (by rw[e];exact hi.vB hv))
 have Z9:∀{c:C} {v:Value},m'=m.put d c->CR (M0 h F) w c v->(execOp (fr f N).eval ⟨some d,op,ty,pos,aft,gd⟩).run P w=.ok (.value v) w->rf P N ⟨some d,op,ty,pos,aft,gd⟩ f w K':=by
  intro c v e hv hr;exact cX hr (hK _ _ (by rw[e];exact hi.put hv))
 unfold zQ at he
 split at he
 ·rename_i y;simp only[KO.ji,if_true]at jd;have key:∃x,jo N x y=true/\(execOp (fr f N).eval ⟨some d,op,ty,pos,aft,gd⟩).run P w=.ok (.value ((fr f N).eval x)) w:=by
   unfold qx at jd
   split at jd<;>first|(cases jd;done)|skip
   all_goals first
    |(rename_i x y' heq;cases heq;exact⟨x,jd,fP rfl⟩)
    |(rename_i x y' heq;cases heq;exact⟨x,jd,hZ rfl⟩)
    |(rename_i heq;cases heq)
    |skip
  obtain⟨x,hx,hr⟩:=key
  split at he
  ·rename_i c hc;simp only[aa]at he;exact Ti he.symm (qB hi hx hc) hr
  ·simp only[aa]at he;exact Z9 he.symm (bH hi.inv hx) hr
 ·rename_i y;simp only[KO.ji,if_true]at jd
  split at he
  ·rename_i hc;simp only[aa]at he;cases op<;>first|(exfalso;simp[qx]at jd;done)|skip
   rename_i c0;simp only[qx]at jd
   split at jd
   ·rename_i x T km nO Ci;simp only[ab]at jd;obtain⟨h1,h2⟩:=jd;obtain⟨TJ,args,Jh⟩:=c0;simp only at km nO Ci
    subst km;have ea:args=#[x]:=by rw[<- nO]
    have et:Jh=#[T]:=by rw[<- Ci]
    subst ea et;obtain⟨A,c,hv,_,hmx⟩:=qB hi h1 hc;unfold HI at h2
    split at h2
    ·rename_i E hu;refine Z9 he.symm ?_ (DT hu hv);rw[hi.mt.1];exact gj (bJ (by simp[maxLen]at hmx;omega))
    ·cases h2
   ·cases jd
  ·cases he
 ·rename_i k' y j;simp only[KO.ji,if_true]at jd
  split at he
  ·rename_i n hc hn
   split at he
   ·rename_i hcc;obtain⟨rfl,Ai,NC⟩:=hcc;simp only[aa]at he;cases op<;>first|(exfalso;simp[qx]at jd;done)|skip
    rename_i T x ix;simp only[qx,ab]at jd;obtain⟨⟨hx,hj⟩,jO⟩:=jd;have yR:=bH hi.inv hj;rw[hn]at yR;obtain⟨rj,_⟩:=gQ yR;obtain⟨A,c,hv,hA,_⟩:=qB hi hx hc;unfold sliceB at jO
    split at jO
    ·rename_i E hu;simp only[beq_iff_eq]at jO;have XO:A=some ⟨t.g,t.p,none⟩:=by
      rcases hA with h|h
      ·have:=hi.mt.1;omega
      ·exact h
     refine Ti he.symm ?_ (To hu (λw=>run_sizeOf jO w) hv XO rj (i:=n.toNat) (by omega) (by rw[<- hi.mt.1];exact NC));simp only[Jd,eD]
    ·cases jO
   ·cases he
  ·cases he
 ·rename_i o y;simp only[KO.ji,if_true]at jd
  split at he
  ·rename_i i p hc;simp only[aa]at he;cases op<;>first|(exfalso;simp[qx]at jd;done)|skip
   rename_i T x fi;simp only[qx,ab]at jd;obtain⟨hx,jO⟩:=jd;have hv:=qB hi hx hc;simp only[Jd]at hv;unfold JF at jO
   split at jO
   ·rename_i fs hu
    split at jO
    ·rename_i fd hfd;simp only[ab,beq_iff_eq]at jO;obtain⟨ho,mE⟩:=jO
     split at mE
     ·rename_i n hn;simp only[lE]at mE;obtain⟨q,rfl⟩:∃q,n=q+1:=⟨n - 1,by omega⟩
      refine Ti he.symm ?_ (MX hu hfd (λw=>run_sizeOf hn w) ho hv);simp only[Jd];rw[du,du]
     ·cases mE
    ·cases jO
   ·cases jO
  ·cases he
 ·rename_i n y;simp only[KO.ji,if_true]at jd
  split at he
  ·rename_i i o hc;cases op<;>first|(exfalso;simp[qx]at jd;done)|skip
   rename_i T x;simp only[qx,ab]at jd;obtain⟨hx,jO⟩:=jd;have hv:=qB hi hx hc;simp only[Jd]at hv;obtain⟨h1,h2,h3,xs,hr,hL,hV⟩:=hi.mt
   split at he
   ·rename_i hn;subst hn;simp only[if_true,beq_iff_eq]at jO
    split at he
    ·rename_i lk lf les JL;simp only[aa]at he;obtain⟨e,v,q1,q2,q3,q4,q5,q6,q7⟩:=hi.mt.at_ JL hr;refine Ti he.symm ?_ (F_ (v:=v) (λw=>nE jO w) hv (hL _ v q4));simp only[Jd];rw[<- hV.1 _ q6];exact q4
    ·cases he
   ·rename_i hn;simp only[if_neg hn,ab,beq_iff_eq]at jO
    split at he
    ·rename_i e iQ
     split at he
     ·rename_i hle;simp only[aa]at he;have yp:e.length=t.k:=h2 e (cK (by rw[<- cU];exact iQ));obtain⟨f1,f2⟩:=nM m.es i o n e h2 iQ (by omega);have hl:=(fQ.length _ hr).1;have gD:gy w t.g (t.p+(i * t.k+o)) ((xs.drop (i * t.k+o)).take n):=hL.sub _ _;have hlen:((xs.drop (i * t.k+o)).take n).length=n:=by simp;omega
      refine Ti he.symm ?_ (Gd (λw=>nE jO.1 w) (λw=>run_sizeOf jO.2 w) hv hlen gD);have NF:0 < t.n:=by
       rw[<- h1];have:=(aI.1 (by rw[<- cU];exact iQ:m.es[i]?=some e)).1;omega
      exact⟨NF,_,rfl,hlen,gD⟩
     ·cases he
    ·cases he
  ·cases he
 ·rename_i g xs;simp only[KO.ji,av,if_false]at jd;cases op<;>first|(exfalso;simp[RZ]at jd;done)|skip
  rename_i c0;simp only[RZ]at jd
  split at jd
  ·rename_i F0 km;simp only[ab,beq_iff_eq]at jd;obtain⟨⟨rfl,Us⟩,HG⟩:=jd;obtain⟨TJ,args,Jh⟩:=c0;simp only at km HG
   subst km
   split at he
   ·rename_i y y2
    split at he
    ·rename_i c hc;obtain⟨l,hl⟩:∃l,args.toList=l:=⟨_,rfl⟩
     rw[hl]at HG
     match l,HG with
     |[],h=>simp[yx]at h
     |[_],h=>simp[yx]at h
     |_::_::_::_,h=>simp[yx]at h
     |[x,x2],HG=>
      simp only[yx,ab]at HG;have ea:args=#[x,x2]:=by rw[<- hl]
      subst ea;have hsp:=qB hi HG.1 hc;unfold Ek at he
      split at he
      ·rename_i i o q hq;have Ew:=bH hi.inv HG.2.1;rw[hq]at Ew;obtain⟨hqv,hqw⟩:=gQ Ew
       split at he
       ·rename_i lk lf les JL
        split at he
        ·rename_i x1 q1 JQ;simp only[aa]at he;subst he;obtain⟨_,_,_,xs0,hr0,_,_⟩:=hi.mt;obtain⟨e,v0,p1,p2,p3,p4,p5,p6,p7⟩:=hi.mt.at_ JL hr0;have hMk:=lg _ _ _ _ _ _ JQ;rw[<- p3]at hMk;refine Mo hi hk p1 p2 hMk Us (a2 rfl hqv) hqw (λxs hx hL hV=>⟨λh=>by (cases h),λ_=>?_⟩) hK;obtain⟨e',v',r1,r2,r3,r4,r5,r6,r7⟩:=hi.mt.at_ JL hx;rw[r5];simp only[Jd]at hsp;have:=hV.1 _ r6;rw[r4,hsp]at this;rw[eM this]
        ·cases he
       ·cases he
      ·rename_i i o n q hq;have Ew:=bH hi.inv HG.2.1;rw[hq]at Ew;obtain⟨hqv,hqw⟩:=gQ Ew
       split at he
       ·rename_i e iQ
        split at he
        ·rename_i ga q1 JQ
         split at he
         ·rename_i hle;simp only[aa]at he;subst he;obtain⟨h1,h2,_⟩:=hi.mt;have yp:e.length=t.k:=h2 e (cK (by rw[<- cU];exact iQ));refine Mo hi hk iQ (by omega) (lg _ _ _ _ _ _ JQ) Us (a2 rfl hqv) hqw (λxs hx hL hV=>⟨λ_=>?_,λh=>by (cases h)⟩) hK;simp only[Jd]at hsp;obtain⟨_,vs,hv,HF,hvL⟩:=hsp;rw[hv];obtain⟨f1,f2⟩:=nM m.es i o n e h2 iQ (by omega);have hl:=(fQ.length _ hx).1
          congr 2
          apply ed
          intro z;by_cases hz:z < n
          ·have hz1:z < vs.length:=by omega
           have hz2:i * t.k+o+z < xs.length:=by omega
           have c1:=hvL z vs[z] (by simp[hz1]);have c2:=hL (i * t.k+o+z) xs[i * t.k+o+z] (by simp[hz2]);rw[du t.p,c2]at c1;have c3:=eM c1;simp[hz,gV,hz1,hz2,c3]
          ·rw[jN (by omega),jN (by simp;omega)]
         ·cases he
        ·cases he
       ·cases he
      ·cases he
    ·exact Mn kN hi hk Us HG he hK
   ·exact Mn kN hi hk Us HG he hK
  ·cases jd
 ·split at he
  ·rename_i hp;simp only[hp,if_true]at jd;simp only[ad]at he;obtain⟨c,hc,he⟩:=he;obtain⟨v,k1,k2⟩:=lU (dst:=some d) (ty:=ty) (pos:=pos) (aft:=aft) (gd:=gd) hi.inv jd hc;exact Z9 he.symm k1 (k2 w (λ_=>od.refl _ _ _))
  ·cases he
theorem RM(hi:jP t h F w0 m f w)(hk:Tok t own h F w0){op:Op}{nC:KO}(jd:(if nC.ji then false else RZ P N num op none nC)=true)(he:Ql own m nC=some m')
  (hK:∀f' w',jP t h F w0 m' f' w'->K' f' w'):rf P N ⟨none,op,ty,pos,aft,gd⟩ f w K':=by
 unfold Ql at he
 split at he
 ·rename_i n a b;simp only[KO.ji,av,if_false]at jd
  split at he
  ·rename_i i o x hc hb
   split at he
   ·rename_i c JL
    split at he
    ·rename_i hcc;obtain⟨rfl,abB,hpc,hpv⟩:=hcc;simp only[aa]at he;subst he;cases op<;>first|(exfalso;simp[RZ]at jd;done)|skip
     rename_i T xa xv;simp only[RZ,ab,beq_iff_eq]at jd;obtain⟨⟨hT,I5⟩,n6⟩:=jd;have hv:=qB hi I5 hc;simp only[Jd]at hv;have hr:=bH hi.inv n6;rw[hb]at hr;simp only[CR]at hr;obtain⟨G,hG,_⟩:=hr;obtain⟨h1,h2,h3,xs,hx,hL,hV⟩:=hi.mt;obtain⟨e,u,q1,q2,q3,q4,q5,q6,q7⟩:=hi.mt.at_ JL hx;have Wu:t.g∈F:=by
      rcases (hk.own abB).1 with h|h
      ·omega
      ·exact h
     have qL:=hL _ u q4;have Gn:=(hi.inv.eX _ (hk.zero _ Wu).2.1).2 (t.p+(i * t.k+o));refine FA (Ts (λw=>run_sizeOf hT w) hv rfl hG.qN qL Gn) (hK _ _ ?_);generalize HE:(fr f N).eval xv=val at *;obtain⟨hG',rfl⟩:=hG.Kg hpv (w.setCell ⟨t.g,t.p+(i * t.k+o),none⟩ val);generalize hj:i * t.k+o=j at *;have ha:sJ (M0 h F) (λo=>o=.db) w (w.setCell ⟨t.g,t.p+j,none⟩ val):={
      os:=rfl,tape:=rfl,output:=rfl
      size:=by rw[vF];exact aj _
      block:=λg hg hn=>nt _ _ _ _ (λe=>hn (by rw[e];simp[Wu]))
      cell:=λg z hz=>by
       by_cases X3:g=t.g
       ·subst X3;have:=(hk.zero _ Wu).1;simp only at hz
        omega
       ·exact World.cell?_of_block (w:=w) (nt _ _ _ _ X3)
      eX:=λg hg=>⟨by rw[vF];exact hg.1,λz=>by rw[BC];exact hg.2 z⟩ }
     have yp:e.length=t.k:=h2 e (cK (by rw[<- cU];exact q1));have Hw:(m.es.set i (fR e o [x])).flatten=fR m.es.flatten j [x]:=by
      rw[Aa m.es i o e [x] h2 q1 (by simpa using q2),hj]
     obtain⟨f1,f2⟩:=nM m.es i o 1 e h2 q1 q2;rw[hj]at f1 f2;obtain⟨l1,l2⟩:=fQ.length _ hx;have Ux:j < xs.length:=by omega
     have hmt:MT t (w.setCell ⟨t.g,t.p+j,none⟩ val) (m.es.set i (fR e o [x])):=by
      refine⟨by simp[h1],λy hy=>?_,?_,fR xs j [val],?_,?_,?_,λhro=>by rw[(hk.own abB).2]at hro;cases hro⟩
      ·rcases kB hy with hy|rfl
       ·exact h2 y hy
       ·rw[yd _ _ _ (by simpa using (by omega))];exact yp
      ·have hpe:[x].map D.plain=((m.es.flatten.map D.plain).drop j).take 1:=by
        rw[<- List.map_drop,<- nc,f1,q3];simp[hpc,hpv]
       rw[Hw,H_,hpe,xt _ _ _ (by rw[au];exact f2)];exact h3
      ·rw[Hw];have hFj:(t.Fs.drop j).take 1=[[]]:=by
        have:=fQ.take _ 1 (fQ.drop _ j hx);rw[f1,q3,q5]at this;simp only[fQ]at this;obtain⟨v1,vs1,F1,Fs1,e1,e2,hR,_,rfl⟩:=this;rw[e2,(hR.Kg hpc w).2]
       have NB:fQ (w.setCell ⟨t.g,t.p+j,none⟩ val) m.es.flatten xs t.Fs:=fQ.cH _ hx (λG hG be hb=>nt _ _ _ _ (hk.fs G hG be hb).2);have:=fQ.ZX j NB (show fQ (w.setCell ⟨t.g,t.p+j,none⟩ val) [x] [val] [[]] by simp only[fQ];exact⟨val,[],[],[],rfl,rfl,hG',rfl,rfl⟩);rw[<- hFj,xt t.Fs j 1 (by omega)]at this;exact this
      ·intro z y hz;have hz':=hz;simp only[fR,mG]at hz;by_cases hzj:z=j
       ·subst hzj;have e1:y=val:=by
         rw[bh,cr (by simp;omega)]at hz;simp[dT (by omega:z<=xs.length)]at hz;exact hz.symm
        subst e1;exact FQ _ _ _ _ qL
       ·rw[FP _ _ _ _ (by omega)];refine hL z y ?_;rw[bh]at hz;rcases cY z j with ig|yq
        ·rw[cl (by simp;omega),dt,if_pos ig]at hz;exact hz
        ·rw[cr (by simp;omega),a_,dT (by omega),cr (by simp;omega),gV]at hz;simp only[mG]at hz;rw[show j+1+(z - j - 1)=z by omega]at hz;exact hz
      ·intro z hz;have hzj:z≠j:=λe=>by
        subst e;rw[q6,hpc]at hz;cases hz
       rw[<- hV.1 z hz];simp only[fR,mG,bh];rcases cY z j with ig|yq
       ·rw[cl (by simp;omega),dt,if_pos ig]
       ·rw[cr (by simp;omega),a_,dT (by omega),cr (by simp;omega),gV];simp only[mG];rw[show j+1+(z - j - 1)=z by omega]
     have i1:=hi.go (sp':=m.sp.map λp=>(p.1,p.2.tJ)) ha hmt (λd c hl=>?_)
     ·simp only[MS.tJ,MS.set,q1];exact i1
     ·have key:∀l:List (Nat×MC),look (l.map λp=>(p.1,p.2.tJ)) d=(look l d).map MC.tJ:=by
       intro l
       induction l with
       |nil=>rfl
       |cons p l ih=>
        simp only[aQ,look,ih]
        split<;>rfl
      rw[key]at hl;simp only[ad]at hl;obtain⟨c',hl,rfl⟩:=hl;cases c' with
      |sub i o n=>exact .inl rfl
      |_=>exact .inr ⟨hl,λh=>by simp[MC.tJ,MC.LS]at h⟩
    ·cases he
   ·cases he
  ·cases he
 ·cases he
end
end
section
open Go.RowKit
section
variable {P:Program} {N:Nat} {t:Tree} {own:Bool} {h:Nat->Nat} {F:List Nat} {w0:World} {num:Nat->FuncId} {cf:Nat->List A->Option (List A×List A)} {mf:Nat->Bool->List D->Int->Option (List D×Int)}
theorem vt(kN:∀g a r o,cf g a=some (r,o)->tL w0 F P (num g) a r o)(lg:∀g ag ds q ga q',mf g ag ds q=some (ga,q')->oO w0 F P (num g) ag ds q ga q')(hk:Tok t own h F w0){ops:Array Oper}{Kn:Fm->World->Prop} :
  ∀(os:List Oper) (is:List KI) {m m':MS} {f:Fm} {w:World},yw P N num ops os is=true->py cf mf own t.k is m=some m'->jP t h F w0 m f w->(∀f' w',jP t h F w0 m' f' w'->Kn f' w')->Ls P N ops Kn os f w
 |[],[],m,m',f,w,_,he,hi,hK=>by
  simp only[py,aa]at he;subst he;exact iJ (hK f w hi)
 |[],_::_,_,_,_,_,h,_,_,_=>by simp[yw]at h
 |_::_,[],_,_,_,_,h,_,_,_=>by simp[yw]at h
 |⟨dst,op,ty,pos,aft,gd⟩::os,⟨d,nC,HK⟩::is,m,m',f,w,bZ,he,hi,hK=>by
  simp only[yw,ab,W2,beq_iff_eq]at bZ;obtain⟨⟨⟨⟨rfl,hd⟩,hg⟩,jd⟩,mZ⟩:=bZ;simp only[py]at he
  split at he
  ·rename_i m1 h1;unfold Ei at h1;cases HK with
   |some x=>cases h1
   |none=>
    cases gd with
    |some x=>simp[Im]at hg
    |none=>
     refine eQ wn ?_;simp only at h1
     cases dst with
     |some d=>
      simp only at h1
      refine RN kN lg hi hk ?_ h1 (λf' w' oU=>vt kN lg hk os is mZ he oU hK)
      split at jd
      ·rename_i hp;simp only[hp,if_true];simp only[gP,cB]at jd;exact jd
      ·rename_i hp;simp only[hp];exact jd
     |none=>
      simp only at h1
      refine RM (num:=num) hi hk ?_ h1 (λf' w' oU=>vt kN lg hk os is mZ he oU hK)
      split at jd
      ·simp at jd
      ·rename_i hp;simp only[hp];exact jd
  ·cases he
theorem jP.cH{m:MS}{f:Fm}{w:World}(hi:jP t h F w0 m f w)(kp:j6):jP t h F w0 (m.cH kp) f w:=
 ⟨hi.inv.sub (λd c hl=>jX _ _ d c hl) (λd c hl=>jX _ _ d c hl) (λd c hl=>jX _ _ d c hl),hi.mt,λd c hl=>hi.sp d c (jX _ _ d c hl),hi.lt⟩
theorem fM(kN:∀g a r o,cf g a=some (r,o)->tL w0 F P (num g) a r o)(lg:∀g ag ds q ga q',mf g ag ds q=some (ga,q')->oO w0 F P (num g) ag ds q ga q')(hk:Tok t own h F w0)(n:Nat):∀(k:K) (c:Code) {m:MS} {f:Fm} {w:World} {e:Ex} {m':MS},mP P N num k c=true->dc cf mf own t.k n k m=some (e,m')->jP t h F w0 m f w->
  W P N c (λf w=>e=.norm/\jP t h F w0 m' f w) (λi f w=>e=.exit i/\jP t h F w0 m' f w) (λf w=>e=.ret/\jP t h F w0 m' f w) f w
 | .skip,c,m,f,w,e,m',bZ,he,hi=>by
  cases c<;>simp[mP]at bZ
  simp only[dc,aa,ak]at he;obtain⟨rfl,rfl⟩:=he;exact uC ⟨rfl,hi⟩
 | .cp is kp,c,m,f,w,e,m',bZ,he,hi=>by
  cases c with
  |region id ops draw=>
   cases draw with
   |true=>simp[mP]at bZ
   |false=>
    simp only[mP]at bZ;simp only[dc]at he
    split at he
    ·rename_i m1 h1;simp only[aa,ak]at he;obtain⟨rfl,rfl⟩:=he;have hl:=vt (Kn:=λf w=>Ex.norm=.norm/\jP t h F w0 (m1.cH kp) f w) kN lg hk ops.toList is bZ h1 hi (λf' w' oU=>⟨rfl,oU.cH kp⟩);obtain⟨l⟩:=ops;exact dQ (l:=l) hl
    ·cases he
  |_=>simp[mP]at bZ
 | .Lk is kp,c,m,f,w,e,m',bZ,he,hi=>by simp[dc]at he
 | .seq a b,c,m,f,w,e,m',bZ,he,hi=>by
  cases c with
  |seq ca cb=>
   simp only[mP,ab]at bZ;simp only[dc]at he;refine ir ?_
   split at he
   ·rename_i m1 h1;refine j_ (fM kN lg hk n a ca bZ.1 h1 hi) (λf w gf=>fM kN lg hk n b cb bZ.2 he gf.2) (λi f w gf=>?_) (λf w gf=>?_)
    ·cases gf.1
    ·cases gf.1
   ·rename_i iQ;refine j_ (fM kN lg hk n a ca bZ.1 he hi) (λf w gf=>?_) (λi f w gf=>gf) (λf w gf=>gf);obtain⟨rfl,_⟩:=gf;exact absurd he (iQ m')
  |_=>simp[mP]at bZ
 | .cond x a b,c,m,f,w,e,m',bZ,he,hi=>by
  cases c with
  |cond y ca cb=>
   simp only[mP,ab]at bZ;obtain⟨⟨h1,h2⟩,h3⟩:=bZ;simp only[dc]at he;have hv:=bH hi.inv h1
   split at he
   ·rename_i b0 ht;rw[ht]at hv;have hv:=ot hv;cases b0 with
    |true=>exact xz hv (fM kN lg hk n a ca h2 (by simpa using he) hi)
    |false=>exact uB hv (fM kN lg hk n b cb h3 (by simpa using he) hi)
   ·cases he
  |_=>simp[mP]at bZ
 | .block i a,c,m,f,w,e,m',bZ,he,hi=>by
  cases c with
  |block j ca=>
   simp only[mP,ab,beq_iff_eq]at bZ;obtain⟨rfl,bZ⟩:=bZ;simp only[dc]at he;refine tn ?_
   split at he
   ·rename_i i' m1 h1;refine j_ (fM kN lg hk n a ca bZ h1 hi) (λf w gf=>by cases gf.1) (λq f w gf=>?_) (λf w gf=>by cases gf.1);obtain⟨e1,gf⟩:=gf;cases e1
    split at he
    ·rename_i X4;simp only[aa,ak]at he;obtain⟨rfl,rfl⟩:=he;rw[if_pos X4];exact⟨rfl,gf⟩
    ·rename_i X4;simp only[aa,ak]at he;obtain⟨rfl,rfl⟩:=he;rw[if_neg X4];exact⟨rfl,gf⟩
   ·rename_i iQ;refine j_ (fM kN lg hk n a ca bZ he hi) (λf w gf=>gf) (λq f w gf=>?_) (λf w gf=>gf);obtain⟨rfl,_⟩:=gf;exact absurd he (iQ q m')
  |_=>simp[mP]at bZ
 | .loop a,c,m,f,w,e,m',bZ,he,hi=>by
  cases c with
  |loop ca=>
   simp only[mP]at bZ;simp only[dc]at he;refine F8 (λz f w=>∃m,jP t h F w0 m f w/\iterM (dc cf mf own t.k n a) z m=some (e,m')) n ⟨m,hi,he⟩ ?_
   rintro z f w ⟨m,hi,he⟩
   cases z with
   |zero=>simp[iterM]at he
   |succ z=>
    simp only[iterM]at he
    split at he
    ·rename_i m1 h1;refine j_ (fM kN lg hk n a ca bZ h1 hi) (λf w gf=>⟨z,by omega,m1,gf.2,he⟩) (λi f w gf=>by cases gf.1) (λf w gf=>by cases gf.1)
    ·rename_i iQ;refine j_ (fM kN lg hk n a ca bZ he hi) (λf w gf=>?_) (λi f w gf=>gf) (λf w gf=>gf);obtain⟨rfl,_⟩:=gf;exact absurd he (iQ m')
  |_=>simp[mP]at bZ
 | .exit i,c,m,f,w,e,m',bZ,he,hi=>by
  cases c<;>simp[mP]at bZ
  subst bZ;simp only[dc,aa,ak]at he;obtain⟨rfl,rfl⟩:=he;exact F7 ⟨rfl,hi⟩
 | .ret,c,m,f,w,e,m',bZ,he,hi=>by
  cases c<;>simp[mP]at bZ
  simp only[dc,aa,ak]at he;obtain⟨rfl,rfl⟩:=he;exact DS ⟨rfl,hi⟩
 | .share r a,c,m,f,w,e,m',bZ,he,hi=>by simp[dc]at he
 | .I0 d a,c,m,f,w,e,m',bZ,he,hi=>by simp[dc]at he
end
theorem Bq{r:Nat}{x:Option (Ex×MS)}{es:List (List D)}{q:Int}(h:vz r x=some (es,q)):∃e m,x=some (e,m)/\(e=.norm\/e=.ret)/\m.s.get r=.d (.int .i64 q)/\m.es=es:=by
 unfold vz at h
 split at h
 ·rename_i m
  split at h
  ·rename_i q' hq;simp only[aa,ak]at h;obtain⟨rfl,rfl⟩:=h;exact⟨_,m,rfl,.inl rfl,hq,rfl⟩
  ·cases h
 ·rename_i m
  split at h
  ·rename_i q' hq;simp only[aa,ak]at h;obtain⟨rfl,rfl⟩:=h;exact⟨_,m,rfl,.inr rfl,hq,rfl⟩
  ·cases h
 ·cases h
theorem Inv.chg{h:Nat->Nat}{F:List Nat}{w0:World}{s:St}{f:Fm}{w:World}(hi:Inv (M0 h F) h F w0 s f w):xH h F w0 w h:=
 ⟨hi.os,hi.tape,hi.output,hi.size,hi.frame,hi.cell,hi.mono,hi.hold,hi.eN,hi.eX⟩
theorem Uk{es:List (List D)}(h:∀b∈es.flatten.map D.plain,b=true):flat es:=λe he x hx=>h _ (cR (dX.2 ⟨e,he,hx⟩))
theorem CX{P:Program}{num:Nat->FuncId}{T:Nat->Option KF}(hm:P.follows .mixedOrders=true)(hj:num 9004≠1000000->rn P (num 9004))(hT:∀f kf,T f=some kf->Pe P num f kf) :
  ∀(n f:Nat) (ag:Bool) (ds:List D) (q:Int) (ga:List D) (q':Int),Cg T n f ag ds q=some (ga,q')->zr P (num f) ag ds q ga q'
 |0,f,ag,ds,q,ga,q',he=>by simp[Cg]at he
 |n+1,f,ag,ds,q,ga,q',he=>by
  have kN:∀g a r o,u9 T n g a=some (r,o)->mI P (num g) a r o:=λg a r o=>sP hm hj hT n g a r o;have lg:∀g ag ds q ga q',Cg T n g ag ds q=some (ga,q')->zr P (num g) ag ds q ga q':=λg ag ds q ga q'=>CX hm hj hT n g ag ds q ga q';simp only[Cg]at he
  split at he
  ·rename_i body r X6;have bZ:=(hT f _ X6).1 (by simp);unfold okF at bZ
   split at bZ
   ·rename_i fn Et
    split at bZ
    ·rename_i c hc;simp only[ab]at bZ;obtain⟨⟨HA,UA⟩,wH⟩:=bZ;intro w h v vs Fs Nv hr agA agB hq jm hz eN;have ig:∀g∈Fs.flatten.map bG,g < w.heap.size:=λg hg=>by
      obtain⟨be,hb,rfl⟩:=bQ.1 hg;exact eb.lt _ (fQ.toC _ hr) be hb
     have hzero:∀g∈Fs.flatten.map bG,h g=0/\mJ w g/\g < w.heap.size:=λg hg=>by
      have hl:=ig g hg;obtain⟨be,hb,rfl⟩:=bQ.1 hg;obtain⟨G,hG,hb⟩:=dX.1 hb;exact⟨(hz G hG be hb).1,(hz G hG be hb).2,hl⟩
     refine enter (N:=fn.ntmps) Et hc rfl UA ?_;have i0:Inv (M0 h (Fs.flatten.map bG)) h (Fs.flatten.map bG) w ⟨[],[],[]⟩ (λi=>#[v,.int .i64 q].getD i undef) w:={
      sl:=λd c hl=>by simp[look]at hl
      bx:=λd c hl=>by simp[look]at hl
      rw:=λd c hl=>by simp[look]at hl
      own:=λg hg=>by
       by_cases hF:g∈Fs.flatten.map bG
       ·exact⟨ig g hF,.inr hF⟩
       ·simp only[if_neg hF]at hg;exact absurd rfl hg
      lI:=λg b hg=>by dsimp only at hg;split at hg<;>cases hg
      eN:=eN,os:=rfl,tape:=rfl,output:=rfl,size:=aj _,frame:=λ_ _ _=>rfl,cell:=λ_ _ _ _=>rfl,mono:=λ_ _=>aj _,hold:=λ_ _ _=>rfl,eX:=λ_ h=>h }
     have i1:Inv (M0 h (Fs.flatten.map bG)) h (Fs.flatten.map bG) w ⟨[(1,.d (.int .i64 q))],[],[]⟩ (λi=>#[v,.int .i64 q].getD i undef) w:=i0.Vs 1 _ (gj hq);have UD:fn.results=#[.tmp r]/\fk r fn.ntmps=true:=by
      obtain⟨rs⟩:∃rs,rs=fn.results.toList:=⟨_,rfl⟩
      match hl:fn.results.toList,wH with
      |[],h=>rw[hl]at wH;simp[FB]at wH
      |_::_::_,h=>rw[hl]at wH;simp[FB]at wH
      |[x],h=>
       rw[hl]at wH;simp only[FB,fo]at wH;cases x with
       |cell a T=>simp[Ip]at wH
       |tmp a=>
        simp only[Ip,ab,beq_iff_eq]at wH;obtain⟨rfl,h2⟩:=wH;exact⟨by rw[<- Array.toArray_toList (xs:=fn.results),hl],h2⟩
     split at he
     ·rename_i sU;subst sU;have hva:=agA rfl
      split at he
      ·rename_i b is kp xI
       split at he
       ·rename_i m1 agF
        split at he
        ·rename_i qa q1 yr;simp only[aa,ak]at he;obtain⟨rfl,rfl⟩:=he;obtain⟨ex,m',X1,hex,QY,vT⟩:=Bq yr;cases c with
         |seq ca cb=>
          simp only[mP,ab]at HA;obtain⟨ND,agS⟩:=HA;cases ca with
          |region id ops draw=>
           cases draw with
           |true=>simp[mP]at ND
           |false=>
            simp only[mP]at ND;refine ir ?_;obtain⟨l⟩:=ops;refine dQ (l:=l) ?_;cases l with
            |nil=>simp[yw]at ND
            |cons o1 os=>
             obtain⟨dst,op,ty,pos,aft,gd⟩:=o1;simp only[yw,ab,W2,beq_iff_eq]at ND;obtain⟨⟨⟨⟨rfl,hd⟩,hg⟩,jd⟩,mZ⟩:=ND;cases gd with
             |some x=>simp[Im]at hg
             |none=>
              simp only[KO.ji,av,if_false]at jd;cases op<;>first|(exfalso;simp[RZ]at jd;done)|skip
              rename_i T0 x0;simp only[RZ]at jd;have hx0:(fr (λi=>#[v,.int .i64 q].getD i undef) fn.ntmps).eval x0=v:=by
               cases x0<;>simp only[jo,ab,beq_iff_eq,av]at jd
               obtain⟨rfl,hN⟩:=jd;rw[yO _ (by simpa using hN)];rfl
              refine eQ wn ?_;have lQ:(execOp (fr (λi=>#[v,.int .i64 q].getD i undef) fn.ntmps).eval ⟨some b,.box T0 x0,ty,pos,aft,none⟩).run P w=.ok (.value (.pointer (some ⟨w.heap.size,0,none⟩))) (w.alloc (.cells vs.toArray T0)):=by
               have h0:(execOp (fr (λi=>#[v,.int .i64 q].getD i undef) fn.ntmps).eval ⟨some b,.box T0 x0,ty,pos,aft,none⟩).run P w=.ok (.value (.pointer (some ⟨w.heap.size,0,none⟩))) (w.alloc (.cells ((fr (λi=>#[v,.int .i64 q].getD i undef) fn.ntmps).eval x0).cells.toList.toArray T0)):=by
                simp[execOp,Instr.box,newVar,newRow,newObj,Sem.run]
               rw[hx0]at h0;have h3:v.cells.toList.toArray=vs.toArray:=by rw[hva];simp[Value.cells]
               rw[h3]at h0;exact h0
              refine Dz lQ λw1 Yg NB hB=>?_;obtain⟨l1,l2⟩:=fQ.length _ hr;have UF:Tok ⟨w.heap.size,0,ds.length,1,Fs,vs,ds.map D.plain,true⟩ false h (Fs.flatten.map bG) w:=⟨λG hG be hb=>by
                have JQ:be.1∈Fs.flatten.map bG:=cR (dX.2 ⟨G,hG,hb⟩);have:=ig _ JQ;exact⟨JQ,λe=>by simp only at e;omega⟩,jm,hzero,λh=>by cases h⟩
              have hkr:fQ w1 ds vs Fs:=fQ.cH _ hr (λG hG be hb=>NB.block _ (ig _ (cR (dX.2 ⟨G,hG,hb⟩))));have iw:Inv (M0 h (Fs.flatten.map bG)) h (Fs.flatten.map bG) w ⟨[(1,.d (.int .i64 q))],[],[]⟩ (λi=>#[v,.int .i64 q].getD i undef) w1:=i1.Gj NB;have agM:jP ⟨w.heap.size,0,ds.length,1,Fs,vs,ds.map D.plain,true⟩ h (Fs.flatten.map bG) w ⟨⟨[(1,.d (.int .i64 q))],[],[]⟩,[],[ds]⟩ (λi=>#[v,.int .i64 q].getD i undef) w1:=
               ⟨iw,⟨rfl,λe he=>(by simp at he;simp[he]),by simp,vs,by simpa using hkr,hB.J0,λ_ _=>rfl,λ_=>rfl⟩,λd c hl=>by simp[look]at hl,.inr (by simp only;omega)⟩
              have agN:=agM.vB (d:=b) (c:=.ep 0 0) (v:=.pointer (some ⟨w.heap.size,0,none⟩)) (by simp[Jd]);refine vt (λg a r o he=>(kN g a r o he).at_ Nv) (λg ag ds q ga q' he=>(lg g ag ds q ga q' he).at_ Nv) UF os is mZ agF agN λf2 w2 TM=>?_;have QT:=fM (P:=P) (N:=fn.ntmps) (num:=num) (λg a r o he=>(kN g a r o he).at_ Nv) (λg ag ds q ga q' he=>(lg g ag ds q ga q' he).at_ Nv) UF n xI cb agS X1 (TM.cH kp);have done:∀f' w',jP ⟨w.heap.size,0,ds.length,1,Fs,vs,ds.map D.plain,true⟩ h (Fs.flatten.map bG) w m' f' w'->∃u,(results fn (fr f' fn.ntmps).tmps).run P w'=.ok u w'/\Ending.returned u=.returned (.int .i64 q1)/\IntKind.i64.wrap q1=q1/\fQ w' qa vs Fs/\qa.map D.plain=ds.map D.plain/\xH h (Fs.flatten.map bG) w w' h:=by
               intro f' w' oU;have hg:=oU.inv.get r;rw[QY]at hg;obtain⟨g1,g2⟩:=gQ hg;obtain⟨m1',m2',m3',Gg,m4',m5',m6',m7'⟩:=oU.mt;rw[vT]at m3' m4';have e1:=m7' rfl;simp only at e1
               subst e1;refine⟨_,DE UD.1 g1 UD.2,rfl,g2,by simpa using m4',by simpa using m3',oU.inv.chg⟩
              refine j_ QT (λf' w' gf=>done f' w' gf.2) (λi f' w' gf=>?_) (λf' w' gf=>done f' w' gf.2);rcases hex with rfl|rfl<;>cases gf.1
          |_=>simp[mP]at ND
         |_=>simp[mP]at HA
        ·cases he
       ·cases he
      ·cases he
     ·rename_i sU;have sU:ag=false:=by simpa using sU
      subst sU
      split at he
      ·rename_i k fl es
       split at he
       ·rename_i ja q1 yr;simp only[aa,ak]at he;obtain⟨rfl,rfl⟩:=he;obtain⟨ex,m',X1,hex,QY,rfl⟩:=Bq yr;have hv:=agB rfl;subst hv;simp only[fQ]at hr;obtain⟨v',_,F1,_,hvv,rfl,uJ,rfl,rfl⟩:=hr;simp only[bw,and_true]at hvv;subst hvv;simp only[dh,List.flatten_nil,aG]at *;have Yf:=uJ;simp only[Rp]at uJ;obtain⟨A,n0,cc,hvA,Ai,I4,Ut,sV,hkp,Wx,abn⟩:=uJ;have fin:∀(t:Tree),Tok t true h (F1.map bG) w->t.k=k->jP t h (F1.map bG) w ⟨⟨[(1,.d (.int .i64 q))],[],[]⟩,[(0,.lst)],es⟩ (λi=>#[v,.int .i64 q].getD i undef) w->
          (∀f' w',jP t h (F1.map bG) w m' f' w'->Rp w' (.list k fl m'.es) v F1)->W P fn.ntmps c (λf w'=>∃u,(results fn (fr f fn.ntmps).tmps).run P w'=.ok u w'/\Ending.returned u=.returned (.int .i64 q1)/\IntKind.i64.wrap q1=q1/\fQ w' [.list k fl m'.es] [v] [F1]/\[D.list k fl m'.es].map D.plain=[D.list k fl es].map D.plain/\xH h (F1.map bG) w w' h) (λ_ _ _=>False) (λf w'=>∃u,(results fn (fr f fn.ntmps).tmps).run P w'=.ok u w'/\Ending.returned u=.returned (.int .i64 q1)/\IntKind.i64.wrap q1=q1/\fQ w' [.list k fl m'.es] [v] [F1]/\[D.list k fl m'.es].map D.plain=[D.list k fl es].map D.plain/\xH h (F1.map bG) w w' h) (λi=>#[v,.int .i64 q].getD i undef) w:=by
         intro t UF WH hmi abm;subst WH;have QT:=fM (P:=P) (N:=fn.ntmps) (num:=num) (λg a r o he=>(kN g a r o he).at_ Nv) (λg ag ds q ga q' he=>(lg g ag ds q ga q' he).at_ Nv) UF n body c HA X1 hmi;have done:∀f' w',jP t h (F1.map bG) w m' f' w'->∃u,(results fn (fr f' fn.ntmps).tmps).run P w'=.ok u w'/\Ending.returned u=.returned (.int .i64 q1)/\IntKind.i64.wrap q1=q1/\fQ w' [.list t.k fl m'.es] [v] [F1]/\[D.list t.k fl m'.es].map D.plain=[D.list t.k fl es].map D.plain/\xH h (F1.map bG) w w' h:=by
          intro f' w' oU;have hg:=oU.inv.get r;rw[QY]at hg;obtain⟨g1,g2⟩:=gQ hg;refine⟨_,DE UD.1 g1 UD.2,rfl,g2,?_,rfl,oU.inv.chg⟩;simp only[fQ];exact⟨v,[],F1,[],rfl,rfl,abm f' w' oU,rfl,rfl⟩
         refine j_ QT (λf' w' gf=>done f' w' gf.2) (λi f' w' gf=>?_) (λf' w' gf=>done f' w' gf.2);rcases hex with rfl|rfl<;>cases gf.1
        rcases abn with ⟨abz,hF0⟩|⟨Q5,b,o,xs,G,hA,hF1,hE,hL⟩
        ·subst hF0;have vT:es=[]:=cm.1 (by omega);subst vT;refine fin ⟨0,0,k,0,[],[],[],false⟩ ⟨λG hG=>by simp at hG,by simp,λg hg=>by simp at hg,λ_=>⟨.inl rfl,rfl⟩⟩ rfl ⟨i1,⟨rfl,λe he=>by simp at he,rfl,[],by simp[fQ],λj u hu=>by simp at hu,λj hj=>by simp at hj,λh=>by cases h⟩,λd c hl=>?_,.inl rfl⟩ (λf' w' oU=>?_)
         ·simp only[look]at hl
          split at hl
          ·rename_i hd;subst hd;simp only[aa]at hl;subst hl;simp only[Jd];exact⟨A,cc,by simpa [abz] using hvA,.inl trivial,qH _⟩
          ·cases hl
         ·have:m'.es=[]:=cm.1 oU.mt.1;rw[this];simp only[Rp];exact⟨A,n0,cc,hvA,by simpa using Ai,I4,Ut,λ_=>jc,hkp,λe he=>by simp at he,.inl ⟨abz,trivial⟩⟩
        ·subst hF1;obtain⟨Gs,rfl,hGs⟩:=fQ.ofC _ (eH.toFlat _ hE);simp only[aQ]at jm hzero i1 fin;obtain⟨yo,Af⟩:=cd.1 jm;refine fin ⟨b,o,k,n0,Gs,xs,es.flatten.map D.plain,false⟩ ⟨λG hG be hb=>?_,Af,hzero,λ_=>⟨.inr (by simp),rfl⟩⟩ rfl ⟨i1,⟨Ai.symm,Wx,rfl,xs,hGs,hL,λ_ _=>rfl,λh=>by cases h⟩,λd c hl=>?_,.inr (ig b (by simp))⟩ (λf' w' oU=>?_)
         ·have JQ:be.1∈Gs.flatten.map bG:=cR (dX.2 ⟨G,hG,hb⟩);exact⟨cz _ JQ,λe=>yo ((show be.1=b from e)▸JQ)⟩
         ·simp only[look]at hl
          split at hl
          ·rename_i hd;subst hd;simp only[aa]at hl;subst hl;simp only[Jd];exact⟨A,cc,by simpa using hvA,.inr hA,by omega⟩
          ·cases hl
         ·obtain⟨m1,m2,m3,Gg,m4,m5,m6⟩:=oU.mt;simp only[Rp];refine⟨A,n0,cc,hvA,m1.symm,I4,Ut,λhf=>?_,hkp,m2,.inr ⟨Q5,b,o,Gg,Gs.flatten,hA,rfl,eH.RW _ (fQ.toC _ m4),m5⟩⟩;refine Uk λx hx=>?_;simp only at m3
          rw[m3]at hx;obtain⟨y,hy,rfl⟩:=bQ.1 hx;obtain⟨e,he,hy⟩:=dX.1 hy;exact sV hf e he y hy
       ·cases he
      ·cases he
    ·cases bZ
   ·cases bZ
  ·cases he
end
section
abbrev Cf:=Nat->List A->Option (List A×List A)
abbrev Mf:=Nat->Bool->List D->Int->Option (List D×Int)
inductive Qu where
 |c (f:Nat) (a:List A) (r:List A×List A)
 |m (f:Nat) (g:Bool) (ds:List D) (q:Int) (r:List D×Int)
def Qu.ok(cf:Cf)(mf:Mf):Qu->Prop
 | .c f a r=>cf f a=some r
 | .m f g ds q r=>mf f g ds q=some r
abbrev xG:=List Qu
def Told(cf:Cf)(mf:Mf)(L:xG):Prop:=∀t∈L,t.ok cf mf
theorem Told.nil{cf:Cf}{mf:Mf}:Told cf mf []:=λ_ h=>by simp at h
theorem Told.left{cf:Cf}{mf:Mf}{L M:xG}(h:Told cf mf (L++M)):Told cf mf L:=λt ht=>h t (by simp[ht])
theorem Told.right{cf:Cf}{mf:Mf}{L M:xG}(h:Told cf mf (L++M)):Told cf mf M:=λt ht=>h t (by simp[ht])
theorem Told.append{cf:Cf}{mf:Mf}{L M:xG}(h:Told cf mf L)(h':Told cf mf M):Told cf mf (L++M):=λt ht=>by
 rcases aM.1 ht with ht|ht
 ·exact h t ht
 ·exact h' t ht
section
variable {cf:Cf} {mf:Mf}
theorem Ud{s s':St}{d:Option Nat}{o:KO}(he:kc cf mf s d o=some s'):∃L,Told cf mf L/\∀(dS:Cf) (dO:Mf),Told dS dO L->kc dS dO s d o=some s':=by
 cases o with
 |call f xs=>
  simp only[kc,tT]at he
  split at he
  ·cases he
  ·rename_i as has
   split at he
   ·rename_i hc
    split at he
    ·cases he
    ·rename_i rs outs kN;refine⟨[.c f as (rs,outs)],λt ht=>by simp at ht;subst ht;exact kN,λdS dO h=>?_⟩;have h1:dS f as=some (rs,outs):=h (.c f as (rs,outs)) (by simp);simp only[kc,tT,has,hc,if_true,h1];exact he
   ·cases he
 |J7 f x y=>
  simp only[kc]at he
  split at he
  ·rename_i d0 q hq
   split at he
   ·rename_i ds LI
    split at he
    ·rename_i jm
     split at he
     ·rename_i ga q' hm;refine⟨[.m f (eW s x).isAgg ds q (ga,q')],λt ht=>by simp at ht;subst ht;exact hm,λdS dO h=>?_⟩;have h1:dO f (eW s x).isAgg ds q=some (ga,q'):=h (.m f (eW s x).isAgg ds q (ga,q')) (by simp);simp only[kc,hq,LI,jm,if_true,h1];exact he
     ·cases he
    ·cases he
   ·cases he
  ·cases he
 |_=>exact⟨[],Told.nil,λdS dO _=>he⟩
theorem Ln{s s':St}{d:Option Nat}{o:KO}(he:yn cf mf s d o=some s'):∃L,Told cf mf L/\∀(dS:Cf) (dO:Mf),Told dS dO L->yn dS dO s d o=some s':=by
 unfold yn at he
 split at he
 ·rename_i hp;exact⟨[],Told.nil,λdS dO _=>by simp only[yn,hp,if_true];exact he⟩
 ·rename_i hp;obtain⟨L,h1,h2⟩:=Ud he;exact⟨L,h1,λdS dO h=>by simp only[yn,hp];exact h2 dS dO h⟩
theorem Eg{s s':St}{i:KI}(he:rh cf mf s i=some s'):∃L,Told cf mf L/\∀(dS:Cf) (dO:Mf),Told dS dO L->rh dS dO s i=some s':=by
 unfold rh at he ⊢
 split at he
 ·exact Ln he
 ·split at he
  ·split at he
   ·obtain⟨L,h1,h2⟩:=Ln he;exact⟨L,h1,λdS dO h=>by simp_all⟩
   ·exact⟨[],Told.nil,λdS dO _=>by simp_all⟩
  ·exact⟨[],Told.nil,λdS dO _=>by simp_all⟩
  ·cases he
theorem CY:∀(is:List KI) {s s':St},la cf mf is s=some s'->∃L,Told cf mf L/\∀(dS:Cf) (dO:Mf),Told dS dO L->la dS dO is s=some s'
 |[],s,s',he=>⟨[],Told.nil,λdS dO _=>he⟩
 |i::is,s,s',he=>by
  simp only[la]at he
  split at he
  ·rename_i s1 h1;obtain⟨L,a1,a2⟩:=Eg h1;obtain⟨M,b1,b2⟩:=CY is he;exact⟨L++M,a1.append b1,λdS dO h=>by simp only[la,a2 dS dO h.left,b2 dS dO h.right]⟩
  ·cases he
theorem mm:∀(is:KT) {kp:j6} {tk:List (List Nat×Nat)} {s s':St},eJ cf mf kp is tk s=some s'->∃L,Told cf mf L/\∀(dS:Cf) (dO:Mf),Told dS dO L->eJ dS dO kp is tk s=some s'
 | .nil,kp,tk,s,s',he=>⟨[],Told.nil,λdS dO _=>he⟩
 | .op ⟨j,q,al,dn,i⟩ is,kp,tk,s,s',he=>by
  simp only[eJ]at he;cases q with
  |true=>
   simp only[if_true]at he
   split at he
   ·rename_i hg
    split at he
    ·rename_i c b hc hb;obtain⟨L,a1,a2⟩:=mm is he;exact⟨L,a1,λdS dO h=>by simp only[eJ,if_true,hg,hc,hb];exact a2 dS dO h⟩
    ·cases he
   ·rename_i g want hg
    split at he
    ·rename_i b uI
     split at he
     ·rename_i Eo
      split at he
      ·rename_i c b' hc hb;obtain⟨L,a1,a2⟩:=mm is he;exact⟨L,a1,λdS dO h=>by simp only[eJ,if_true,hg,uI,Eo,hc,hb];exact a2 dS dO h⟩
      ·cases he
     ·rename_i Eo;obtain⟨L,a1,a2⟩:=mm is he;exact⟨L,a1,λdS dO h=>by simp only[eJ,if_true,hg,uI,Eo,if_false];exact a2 dS dO h⟩
    ·rename_i Uv;obtain⟨L,a1,a2⟩:=mm is he;exact⟨L,a1,λdS dO h=>by simp only[eJ,if_true,hg,Uv];exact a2 dS dO h⟩
    ·cases he
  |false=>
   simp only[j5,av,if_false]at he
   split at he
   ·rename_i s1 h1
    split at he
    ·rename_i jU;obtain⟨L,a1,a2⟩:=Eg h1;obtain⟨M,b1,b2⟩:=mm is he;exact⟨L++M,a1.append b1,λdS dO h=>by simp only[eJ,j5,av,if_false,a2 dS dO h.left,jU,if_true];exact b2 dS dO h.right⟩
    ·cases he
   ·cases he
 | .alt x is r,kp,tk,s,s',he=>by
  have hee:j5 cf mf x tk s (eJ cf mf kp is)=some s'/\eJ cf mf kp r tk s=some s':=by
   simp only[eJ,both]at he
   split at he
   ·rename_i a b ha kT
    split at he
    ·rename_i hab;subst hab;cases he;exact⟨ha,kT⟩
    ·cases he
   ·cases he
  obtain⟨he,her⟩:=hee;obtain⟨R,r1,r2⟩:=mm r her;simp only[j5]at he
  split at he
  ·rename_i s1 h1
   split at he
   ·rename_i jU;obtain⟨L,a1,a2⟩:=Eg h1;obtain⟨M,b1,b2⟩:=mm is he;refine⟨(L++M)++R,(a1.append b1).append r1,λdS dO h=>?_⟩;simp only[eJ,j5,a2 dS dO h.left.left,jU,if_true,b2 dS dO h.left.right,r2 dS dO h.right,both]
   ·cases he
  ·cases he
theorem gY:∀(k:K) {n:Nat} {s:St} {r:Ex×St},gu cf mf n k s=some r->∃L,Told cf mf L/\∀(dS:Cf) (dO:Mf) (n':Nat),Told dS dO L->n<=n'->gu dS dO n' k s=some r
 | .skip,n,s,r,he=>⟨[],Told.nil,λdS dO n' _ _=>by simpa [gu] using he⟩
 | .cp is kp,n,s,r,he=>by
  simp only[gu]at he
  split at he
  ·rename_i s1 h1;obtain⟨L,a1,a2⟩:=CY is h1;exact⟨L,a1,λdS dO n' h _=>by simp only[gu,a2 dS dO h];exact he⟩
  ·cases he
 | .Lk is kp,n,s,r,he=>by
  simp only[gu]at he
  split at he
  ·rename_i s1 h1;obtain⟨L,a1,a2⟩:=mm is h1;exact⟨L,a1,λdS dO n' h _=>by simp only[gu,a2 dS dO h];exact he⟩
  ·cases he
 | .seq a b,n,s,r,he=>by
  simp only[gu]at he
  split at he
  ·rename_i s1 h1;obtain⟨L,a1,a2⟩:=gY a h1;obtain⟨M,b1,b2⟩:=gY b he;exact⟨L++M,a1.append b1,λdS dO n' h hn=>by simp only[gu,a2 dS dO n' h.left hn];exact b2 dS dO n' h.right hn⟩
  ·rename_i iQ;obtain⟨L,a1,a2⟩:=gY a he;refine⟨L,a1,λdS dO n' h hn=>?_⟩;simp only[gu,a2 dS dO n' h hn];obtain⟨e,s2⟩:=r;cases e with
   |norm=>exact absurd he (iQ s2)
   |_=>rfl
 | .cond x a b,n,s,r,he=>by
  simp only[gu]at he
  split at he
  ·rename_i t ht;cases t with
   |true=>
    simp only[if_true]at he;obtain⟨L,a1,a2⟩:=gY a he;exact⟨L,a1,λdS dO n' h hn=>by simp only[gu,ht,if_true];exact a2 dS dO n' h hn⟩
   |false=>
    simp only[av,if_false]at he;obtain⟨L,a1,a2⟩:=gY b he;exact⟨L,a1,λdS dO n' h hn=>by simp only[gu,ht,av,if_false];exact a2 dS dO n' h hn⟩
  ·cases he
 | .block i a,n,s,r,he=>by
  simp only[gu]at he
  split at he
  ·rename_i i' s1 h1;obtain⟨L,a1,a2⟩:=gY a h1;exact⟨L,a1,λdS dO n' h hn=>by simp only[gu,a2 dS dO n' h hn];exact he⟩
  ·rename_i iQ;obtain⟨L,a1,a2⟩:=gY a he;refine⟨L,a1,λdS dO n' h hn=>?_⟩;simp only[gu,a2 dS dO n' h hn];obtain⟨e,s2⟩:=r;cases e with
   |exit i=>exact absurd he (iQ i s2)
   |_=>rfl
 | .loop a,n,s,r,he=>by
  simp only[gu]at he;have go:∀(m:Nat) (s:St),iter (gu cf mf n a) m s=some r->∃L,Told cf mf L/\∀(dS:Cf) (dO:Mf) (n' m':Nat),Told dS dO L->n<=n'->m<=m'->iter (gu dS dO n' a) m' s=some r:=by
   intro m
   induction m with
   |zero=>intro s h;simp[iter]at h
   |succ m ih=>
    intro s h;simp only[iter]at h
    split at h
    ·rename_i s1 h1;obtain⟨L,a1,a2⟩:=gY a h1;obtain⟨M,b1,b2⟩:=ih s1 h;refine⟨L++M,a1.append b1,λdS dO n' m' hT hn hm=>?_⟩;obtain⟨m'',rfl⟩:∃z,m'=z+1:=⟨m' - 1,by omega⟩
     simp only[iter,a2 dS dO n' hT.left hn];exact b2 dS dO n' m'' hT.right hn (by omega)
    ·rename_i iQ;obtain⟨L,a1,a2⟩:=gY a h;refine⟨L,a1,λdS dO n' m' hT hn hm=>?_⟩;obtain⟨m'',rfl⟩:∃z,m'=z+1:=⟨m' - 1,by omega⟩
     simp only[iter,a2 dS dO n' hT hn];obtain⟨e,s2⟩:=r;cases e with
     |norm=>exact absurd h (iQ s2)
     |_=>rfl
  obtain⟨L,a1,a2⟩:=go n s he;exact⟨L,a1,λdS dO n' h hn=>by simp only[gu];exact a2 dS dO n' n' h hn hn⟩
 | .exit i,n,s,r,he=>⟨[],Told.nil,λdS dO n' _ _=>by simpa [gu] using he⟩
 | .ret,n,s,r,he=>⟨[],Told.nil,λdS dO n' _ _=>by simpa [gu] using he⟩
 | .share r0 a,n,s,r,he=>by
  simp only[gu]at he;obtain⟨L,a1,a2⟩:=gY a he;exact⟨L,a1,λdS dO n' h hn=>by simp only[gu];exact a2 dS dO n' h hn⟩
 | .I0 d a,n,s,r,he=>by
  simp only[gu]at he
  split at he
  ·rename_i s' hd;obtain⟨L,a1,a2⟩:=gY a he;exact⟨L,a1,λdS dO n' h hn=>by simp only[gu,hd];exact a2 dS dO n' h hn⟩
  ·cases he
theorem Sk{n:Nat}{kf:KF}{args:List A}{r:List A×List A}(he:Bx cf mf n kf args=some r):∃L,Told cf mf L/\∀(dS:Cf) (dO:Mf) (n':Nat),Told dS dO L->n<=n'->Bx dS dO n' kf args=some r:=by
 unfold Bx at he
 split at he
 ·rename_i hl
  split at he
  ·rename_i s h1;obtain⟨L,a1,a2⟩:=gY kf.body h1;exact⟨L,a1,λdS dO n' h hn=>by simp only[Bx,hl,if_true,a2 dS dO n' h hn];exact he⟩
  ·rename_i s h1;obtain⟨L,a1,a2⟩:=gY kf.body h1;exact⟨L,a1,λdS dO n' h hn=>by simp only[Bx,hl,if_true,a2 dS dO n' h hn];exact he⟩
  ·cases he
 ·cases he
end
section
variable {cf:Cf} {mf:Mf} {own:Bool} {k:Nat}
theorem vb{m m':MS}{d f:Nat}{xs:List KX}(he:Ch cf m d f xs=some m'):∃L,Told cf mf L/\∀(dS:Cf) (dO:Mf),Told dS dO L->Ch dS m d f xs=some m':=by
 simp only[Ch]at he
 split at he
 ·rename_i as has
  split at he
  ·rename_i r hr;refine⟨[.c f as ([.val false [.d r]],[])],λt ht=>by simp at ht;subst ht;exact hr,λdS dO h=>?_⟩;have h1:dS f as=_:=h (.c f as ([.val false [.d r]],[])) (by simp);simp only[Ch,has,h1];exact he
  ·cases he
 ·cases he
theorem Qo{m m':MS}{d f:Nat}{c:MC}{y:C}(he:Ek mf m d f c y=some m'):∃L,Told cf mf L/\∀(dS:Cf) (dO:Mf),Told dS dO L->Ek dO m d f c y=some m':=by
 unfold Ek at he
 split at he
 ·rename_i i o q
  split at he
  ·rename_i k fl es vT
   split at he
   ·rename_i x' q' hx;refine⟨[.m f false [.list k fl es] q ([x'],q')],λt ht=>by simp at ht;subst ht;exact hx,λdS dO h=>?_⟩;have h1:dO f false [.list k fl es] q=_:=h (.m f false [.list k fl es] q ([x'],q')) (by simp);simp only[Ek,vT,h1];exact he
   ·cases he
  ·cases he
 ·rename_i i o n q
  split at he
  ·rename_i e vT
   split at he
   ·rename_i xs q' hx;refine⟨[.m f true ((e.drop o).take n) q (xs,q')],λt ht=>by simp at ht;subst ht;exact hx,λdS dO h=>?_⟩;have h1:dO f true ((e.drop o).take n) q=_:=h (.m f true ((e.drop o).take n) q (xs,q')) (by simp);simp only[Ek,vT,h1];exact he
   ·cases he
  ·cases he
 ·cases he
theorem Qm{m m':MS}{d:Nat}{o:KO}(he:zQ cf mf k m d o=some m'):∃L,Told cf mf L/\∀(dS:Cf) (dO:Mf),Told dS dO L->zQ dS dO k m d o=some m':=by
 cases o with
 |call f xs=>
  rcases xs with _|⟨x,_|⟨y,_|⟨z,xs⟩⟩⟩
  ·simp only[zQ]at he ⊢;exact vb he
  ·simp only[zQ]at he ⊢;exact vb he
  ·simp only[zQ]at he ⊢;cases hx:m.O3 x with
   |none=>rw[hx]at he;exact vb he
   |some c=>rw[hx]at he;exact Qo he
  ·simp only[zQ]at he ⊢;exact vb he
 |_=>exact⟨[],Told.nil,λdS dO _=>he⟩
theorem Qn{m m':MS}{i:KI}(he:Ei cf mf own k m i=some m'):∃L,Told cf mf L/\∀(dS:Cf) (dO:Mf),Told dS dO L->Ei dS dO own k m i=some m':=by
 obtain⟨d,o,g⟩:=i;cases g with
 |some g=>simp[Ei]at he
 |none=>
  cases d with
  |some d=>exact Qm he
  |none=>exact⟨[],Told.nil,λdS dO _=>he⟩
theorem zV:∀(is:List KI) {m m':MS},py cf mf own k is m=some m'->∃L,Told cf mf L/\∀(dS:Cf) (dO:Mf),Told dS dO L->py dS dO own k is m=some m'
 |[],m,m',he=>⟨[],Told.nil,λdS dO _=>he⟩
 |i::is,m,m',he=>by
  simp only[py]at he
  split at he
  ·rename_i s1 h1;obtain⟨L,a1,a2⟩:=Qn h1;obtain⟨M,b1,b2⟩:=zV is he;exact⟨L++M,a1.append b1,λdS dO h=>by simp only[py,a2 dS dO h.left,b2 dS dO h.right]⟩
  ·cases he
theorem jb:∀(c:K) {n:Nat} {s:MS} {r:Ex×MS},dc cf mf own k n c s=some r->∃L,Told cf mf L/\∀(dS:Cf) (dO:Mf) (n':Nat),Told dS dO L->n<=n'->dc dS dO own k n' c s=some r
 | .skip,n,s,r,he=>⟨[],Told.nil,λdS dO n' _ _=>by simpa [dc] using he⟩
 | .cp is kp,n,s,r,he=>by
  simp only[dc]at he
  split at he
  ·rename_i s1 h1;obtain⟨L,a1,a2⟩:=zV is h1;exact⟨L,a1,λdS dO n' h _=>by simp only[dc,a2 dS dO h];exact he⟩
  ·cases he
 | .Lk is kp,n,s,r,he=>by simp[dc]at he
 | .seq a b,n,s,r,he=>by
  simp only[dc]at he
  split at he
  ·rename_i s1 h1;obtain⟨L,a1,a2⟩:=jb a h1;obtain⟨M,b1,b2⟩:=jb b he;exact⟨L++M,a1.append b1,λdS dO n' h hn=>by simp only[dc,a2 dS dO n' h.left hn];exact b2 dS dO n' h.right hn⟩
  ·rename_i iQ;obtain⟨L,a1,a2⟩:=jb a he;refine⟨L,a1,λdS dO n' h hn=>?_⟩;simp only[dc,a2 dS dO n' h hn];obtain⟨e,s2⟩:=r;cases e with
   |norm=>exact absurd he (iQ s2)
   |_=>rfl
 | .cond x a b,n,s,r,he=>by
  simp only[dc]at he
  split at he
  ·rename_i t ht;cases t with
   |true=>
    simp only[if_true]at he;obtain⟨L,a1,a2⟩:=jb a he;exact⟨L,a1,λdS dO n' h hn=>by simp only[dc,ht,if_true];exact a2 dS dO n' h hn⟩
   |false=>
    simp only[av,if_false]at he;obtain⟨L,a1,a2⟩:=jb b he;exact⟨L,a1,λdS dO n' h hn=>by simp only[dc,ht,av,if_false];exact a2 dS dO n' h hn⟩
  ·cases he
 | .block i a,n,s,r,he=>by
  simp only[dc]at he
  split at he
  ·rename_i i' s1 h1;obtain⟨L,a1,a2⟩:=jb a h1;exact⟨L,a1,λdS dO n' h hn=>by simp only[dc,a2 dS dO n' h hn];exact he⟩
  ·rename_i iQ;obtain⟨L,a1,a2⟩:=jb a he;refine⟨L,a1,λdS dO n' h hn=>?_⟩;simp only[dc,a2 dS dO n' h hn];obtain⟨e,s2⟩:=r;cases e with
   |exit i=>exact absurd he (iQ i s2)
   |_=>rfl
 | .loop a,n,s,r,he=>by
  simp only[dc]at he;have go:∀(m:Nat) (s:MS),iterM (dc cf mf own k n a) m s=some r->∃L,Told cf mf L/\∀(dS:Cf) (dO:Mf) (n' m':Nat),Told dS dO L->n<=n'->m<=m'->iterM (dc dS dO own k n' a) m' s=some r:=by
   intro m
   induction m with
   |zero=>intro s h;simp[iterM]at h
   |succ m ih=>
    intro s h;simp only[iterM]at h
    split at h
    ·rename_i s1 h1;obtain⟨L,a1,a2⟩:=jb a h1;obtain⟨M,b1,b2⟩:=ih s1 h;refine⟨L++M,a1.append b1,λdS dO n' m' hT hn hm=>?_⟩;obtain⟨m'',rfl⟩:∃z,m'=z+1:=⟨m' - 1,by omega⟩
     simp only[iterM,a2 dS dO n' hT.left hn];exact b2 dS dO n' m'' hT.right hn (by omega)
    ·rename_i iQ;obtain⟨L,a1,a2⟩:=jb a h;refine⟨L,a1,λdS dO n' m' hT hn hm=>?_⟩;obtain⟨m'',rfl⟩:∃z,m'=z+1:=⟨m' - 1,by omega⟩
     simp only[iterM,a2 dS dO n' hT hn];obtain⟨e,s2⟩:=r;cases e with
     |norm=>exact absurd h (iQ s2)
     |_=>rfl
  obtain⟨L,a1,a2⟩:=go n s he;exact⟨L,a1,λdS dO n' h hn=>by simp only[dc];exact a2 dS dO n' n' h hn hn⟩
 | .exit i,n,s,r,he=>⟨[],Told.nil,λdS dO n' _ _=>by simpa [dc] using he⟩
 | .ret,n,s,r,he=>⟨[],Told.nil,λdS dO n' _ _=>by simpa [dc] using he⟩
 | .share r0 a,n,s,r,he=>by simp[dc]at he
 | .I0 d a,n,s,r,he=>by simp[dc]at he
end
def aaw{α:Type}(g:Nat->Option α):Prop:=∀n m r,g n=some r->n<=m->g m=some r
open Classical in
noncomputable def lm{α:Type}(g:Nat->Option α):Option α:=if h:∃r n,g n=some r then some (Classical.choose h) else none
theorem A7{α:Type}{g:Nat->Option α}(hg:aaw g)(r:α):lm g=some r↔∃n,g n=some r:=by
 unfold lm;split
 ·rename_i h;obtain⟨k,h1⟩:=Classical.choose_spec h
  constructor
  ·intro e;simp only[aa]at e;exact⟨k,e▸h1⟩
  ·rintro⟨n,hn⟩
   have e1:=hg _ (max n k) _ h1 (by omega);have e2:=hg _ (max n k) _ hn (by omega);rw[e1]at e2;exact e2
 ·rename_i h
  constructor
  ·intro e;cases e
  ·rintro⟨n,hn⟩;exact absurd ⟨r,n,hn⟩ h
theorem WQ{α:Type}{g:Nat->Option α}(hg:aaw g){o:Option α}(h1:∀r n,g n=some r->o=some r)(h2:∀r,o=some r->∃n,g n=some r):lm g=o:=by
 apply Option.ext
 intro r;rw[A7 hg];exact⟨λ⟨n,hn⟩=>h1 r n hn,h2 r⟩
section
variable (T:Nat->Option KF)
theorem u_:∀(n n' f:Nat) (a:List A) (r:List A×List A),u9 T n f a=some r->n<=n'->u9 T n' f a=some r
 |0,_,_,_,_,h,_=>by simp[u9]at h
 |n+1,n',f,a,r,h,hn=>by
  obtain⟨m,rfl⟩:∃m,n'=m+1:=⟨n' - 1,by omega⟩
  simp only[u9]at h ⊢
  split at h
  ·cases h
  ·rename_i kf X6
   split at h
   ·rename_i hx;rw[if_pos hx];exact h
   ·rename_i hx;rw[if_neg hx];obtain⟨L,a1,a2⟩:=Sk h;refine a2 (u9 T m) _ m (λt ht=>?_) (by omega);have:=a1 t ht;cases t with
    |c f a r=>exact u_ n m _ _ _ this (by omega)
    |m f g ds q r=>cases this
noncomputable def db:Cf:=λf a=>lm λn=>u9 T n f a
theorem s_(f:Nat)(a:List A)(r:List A×List A):db T f a=some r↔∃n,u9 T n f a=some r:=A7 (λn m r h hn=>u_ T n m f a r h hn) r
def DD(cells:List D):Option (List (List D)×Int)->Option (List D×Int)
 |some ([qa],q')=>some (qa,q')
 |_=>none
def Bp(k:Nat)(fl:Bool):Option (List (List D)×Int)->Option (List D×Int)
 |some (ja,q')=>some ([.list k fl ja],q')
 |none=>none
def runM(g:Bool->Nat->List KI->MS->Option MS)(h:Bool->Nat->K->MS->Option (Ex×MS))(kf:KF)(ag:Bool)(cells:List D)(q:Int):Option (List D×Int):=
 match kf with
 |⟨2,body,[.t r]⟩=>
   if ag then (match body with
    | .seq (.cp (⟨some b,.box (.s 0),none⟩::is) kp) xI=>
     (match g false cells.length is (MS.vB ⟨⟨[(1,.d (.int .i64 q))],[],[]⟩,[],[cells]⟩ b (.ep 0 0)) with
     |some m=>DD cells (vz r (h false cells.length xI (m.cH kp)))
     |none=>none)
    |_=>none)
   else (match cells with
    |[.list k fl es]=>Bp k fl (vz r (h true k body ⟨⟨[(1,.d (.int .i64 q))],[],[]⟩,[(0,.lst)],es⟩))
    |_=>none)
 |_=>none
theorem Ej(n f:Nat)(ag:Bool)(cells:List D)(q:Int):Cg T (n+1) f ag cells q=match T f with
  |some kf=>runM (λown k=>py (u9 T n) (Cg T n) own k) (λown k=>dc (u9 T n) (Cg T n) own k n) kf ag cells q
  |none=>none:=by
 simp only[Cg];cases hT:T f with
 |none=>rfl
 |some kf=>
  dsimp only;unfold runM;rcases kf with ⟨np,body,res⟩;dsimp only;split
  ·split
   ·split
    ·split
     ·rename_i m hm;simp only[DD]
      split<;>simp_all
     ·simp_all
    ·simp_all
   ·split
    ·simp only[Bp]
     split<;>simp_all
    ·simp_all
  ·simp_all
end
end
section
theorem HW{α:Type}:∀(l:List (Nat×α)) {f:Nat} {x:α},look l f=some x->(f,x)∈l
 |[],_,_,h=>by simp[look]at h
 |(k,y)::l,f,x,h=>by
  simp only[look]at h
  split at h
  ·rename_i e;cases h;simp[e]
  ·exact cz _ (HW l h)
section
variable (T:Nat->Option KF)
theorem Bz{cf:Cf}{mf:Mf}{n:Nat}{kf:KF}{ag:Bool}{cells:List D}{q:Int}{r:List D×Int}(he:runM (λown k=>py cf mf own k) (λown k=>dc cf mf own k n) kf ag cells q=some r) :
  ∃L,Told cf mf L/\∀(dS:Cf) (dO:Mf) (n':Nat),Told dS dO L->n<=n'->runM (λown k=>py dS dO own k) (λown k=>dc dS dO own k n') kf ag cells q=some r:=by
 unfold runM at he
 split at he
 ·rename_i body r0
  split at he
  ·rename_i sU
   split at he
   ·rename_i b is kp xI
    split at he
    ·rename_i m hm;dsimp only at hm he;obtain⟨L,a1,a2⟩:=zV is hm;cases hx:dc cf mf false cells.length n xI (m.cH kp) with
     |none=>rw[hx]at he;simp[vz,DD]at he
     |some e=>
      obtain⟨M,b1,b2⟩:=jb xI hx;refine⟨L++M,a1.append b1,λdS dO n' h hn=>?_⟩;simp only[runM,sU,if_true,a2 dS dO h.left,b2 dS dO n' h.right hn];rw[hx]at he;exact he
    ·cases he
   ·cases he
  ·rename_i sU
   split at he
   ·rename_i k fl es;dsimp only at he;cases hx:dc cf mf true k n body ⟨⟨[(1,.d (.int .i64 q))],[],[]⟩,[(0,.lst)],es⟩ with
    |none=>rw[hx]at he;simp[vz,Bp]at he
    |some e=>
     obtain⟨M,b1,b2⟩:=jb body hx;refine⟨M,b1,λdS dO n' h hn=>?_⟩;simp only[runM,sU,b2 dS dO n' h hn];rw[hx]at he;simp only[av,if_false];exact he
   ·cases he
 ·cases he
theorem zU:∀(n n' f:Nat) (ag:Bool) (ds:List D) (q:Int) (r:List D×Int),Cg T n f ag ds q=some r->n<=n'->Cg T n' f ag ds q=some r
 |0,_,_,_,_,_,_,h,_=>by simp[Cg]at h
 |n+1,n',f,ag,ds,q,r,h,hn=>by
  obtain⟨m,rfl⟩:∃m,n'=m+1:=⟨n' - 1,by omega⟩
  rw[Ej]at h ⊢
  split at h
  ·obtain⟨L,a1,a2⟩:=Bz h;refine a2 (u9 T m) (Cg T m) m (λt ht=>?_) (by omega);have:=a1 t ht;cases t with
   |c f a r=>exact u_ T n m _ _ _ this (by omega)
   |m f g ds q r=>exact zU n m _ _ _ _ _ this (by omega)
  ·cases h
noncomputable def gF:Mf:=λf ag ds q=>lm λn=>Cg T n f ag ds q
theorem A6(f:Nat)(ag:Bool)(ds:List D)(q:Int)(r:List D×Int):gF T f ag ds q=some r↔∃n,Cg T n f ag ds q=some r:=A7 (λn m r h hn=>zU T n m f ag ds q r h hn) r
theorem vM:∀(L:xG),Told (db T) (gF T) L->∃n,∀m,n<=m->Told (u9 T m) (Cg T m) L
 |[],_=>⟨0,λm _ t ht=>by simp at ht⟩
 |t::L,h=>by
  obtain⟨n,hn⟩:=vM L (λt ht=>h t (by simp[ht]));have h1:=h t (by simp);cases t with
  |c f a r=>
   obtain⟨m,hm⟩:=(s_ T _ _ _).1 h1;refine⟨max n m,λz hz u hu=>?_⟩;rcases ay.1 hu with rfl|hu
   ·exact u_ T m z _ _ _ hm (by omega)
   ·exact hn z (by omega) u hu
  |m f g ds q r=>
   obtain⟨m,hm⟩:=(A6 T _ _ _ _ _).1 h1;refine⟨max n m,λz hz u hu=>?_⟩;rcases ay.1 hu with rfl|hu
   ·exact zU T m z _ _ _ _ _ hm (by omega)
   ·exact hn z (by omega) u hu
theorem VZ{n:Nat}{L:xG}(h:Told (u9 T n) (Cg T n) L):Told (db T) (gF T) L:=λt ht=>by
 have h1:=h t ht;cases t with
 |c f a r=>exact (s_ T f a r).2 ⟨n,h1⟩
 |m f g ds q r=>exact (A6 T f g ds q r).2 ⟨n,h1⟩
abbrev tA:Mf:=λ_ _ _ _=>none
noncomputable def ev(mf:Mf)(k:K)(s:St):Option (Ex×St):=lm λn=>gu (db T) mf n k s
theorem k9(mf:Mf)(k:K)(s:St):∀n m r,gu (db T) mf n k s=some r->n<=m->gu (db T) mf m k s=some r:=λn m r h hn=>by
 obtain⟨L,a1,a2⟩:=gY k h;exact a2 _ _ m a1 hn
theorem ic(mf:Mf)(k:K)(s:St)(r:Ex×St):ev T mf k s=some r↔∃n,gu (db T) mf n k s=some r:=A7 (k9 T mf k s) r
section
variable (mf:Mf)
theorem zW{k:K}{s:St}{o:Option (Ex×St)}(h1:∀r n,gu (db T) mf n k s=some r->o=some r)(h2:∀r,o=some r->∃n,gu (db T) mf n k s=some r):ev T mf k s=o:=WQ (k9 T mf k s) h1 h2
theorem rO{k:K}{s:St}{o:Option (Ex×St)}(h:∀n,gu (db T) mf n k s=o):ev T mf k s=o:=
 zW T mf (λr n e=>by rw[<- h n];exact e) (λr e=>⟨0,by rw[h 0];exact e⟩)
theorem Lp(s:St):ev T mf .skip s=some (.norm,s):=rO T mf λn=>by simp[gu]
theorem Qz(s:St):ev T mf .ret s=some (.ret,s):=rO T mf λn=>by simp[gu]
theorem Lo(i:Nat)(s:St):ev T mf (.exit i) s=some (.exit i,s):=rO T mf λn=>by simp[gu]
def YM(kp:j6):Option St->Option (Ex×St)
 |some s=>some (.norm,s.cH kp)
 |none=>none
theorem Qy(ops:List KI)(kp:j6)(s:St):ev T mf (.cp ops kp) s=YM kp (la (db T) mf ops s):=rO T mf λn=>by simp only[gu,YM];split<;>simp_all
def Ih:Option St->Option (Ex×St)
 |some s=>some (.norm,s)
 |none=>none
theorem Qx(ops:KT)(kp:j6)(s:St):ev T mf (.Lk ops kp) s=Ih (eJ (db T) mf kp ops [] s):=rO T mf λn=>by simp only[gu,Ih];split<;>simp_all
def Cs(g:St->Option (Ex×St)):Option (Ex×St)->Option (Ex×St)
 |some (.norm,s)=>g s
 |some (.exit i,s)=>some (.exit i,s)
 |some (.ret,s)=>some (.ret,s)
 |none=>none
theorem yN{cf:Cf}(n:Nat)(a b:K)(s:St):gu cf mf n (.seq a b) s=Cs (gu cf mf n b) (gu cf mf n a s):=by
 simp only[gu,Cs];split
 ·rename_i h;simp only[h]
 ·rename_i h;split
  ·rename_i s' h';exact absurd h' (h s')
  ·simp_all
  ·simp_all
  ·simp_all
theorem QA(a b:K)(s:St):ev T mf (.seq a b) s=Cs (ev T mf b) (ev T mf a s):=by
 apply zW
 ·intro r n h;rw[yN]at h;cases ha:gu (db T) mf n a s with
  |none=>rw[ha]at h;simp[Cs]at h
  |some x=>
   rw[(ic T mf a s x).2 ⟨n,ha⟩];rw[ha]at h;rcases x with ⟨_|i|_,s'⟩
   ·exact (ic T mf b s' r).2 ⟨n,h⟩
   ·exact h
   ·exact h
 ·intro r h;cases ha:ev T mf a s with
  |none=>rw[ha]at h;simp[Cs]at h
  |some x=>
   obtain⟨n,hn⟩:=(ic T mf a s x).1 ha;rw[ha]at h;rcases x with ⟨_|i|_,s'⟩
   ·obtain⟨m,hm⟩:=(ic T mf b s' r).1 h;refine⟨max n m,?_⟩;rw[yN,k9 T mf a s n (max n m) _ hn (by omega)];exact k9 T mf b s' m (max n m) _ hm (by omega)
   ·exact⟨n,by rw[yN,hn];exact h⟩
   ·exact⟨n,by rw[yN,hn];exact h⟩
theorem fI(a:K)(s:St):ev T mf (.loop a) s=Cs (ev T mf (.loop a)) (ev T mf a s):=by
 have one:∀(cf:Cf) n m s,iter (gu cf mf n a) (m+1) s=Cs (iter (gu cf mf n a) m) (gu cf mf n a s):=by
  intro cf n m s;simp only[iter,Cs];split
  ·rename_i h;simp only[h]
  ·rename_i h;split
   ·rename_i s' h';exact absurd h' (h s')
   ·simp_all
   ·simp_all
   ·simp_all
 apply zW
 ·intro r n h;simp only[gu]at h;cases n with
  |zero=>simp[iter]at h
  |succ n=>
   rw[one]at h;cases ha:gu (db T) mf (n+1) a s with
   |none=>rw[ha]at h;simp[Cs]at h
   |some x=>
    rw[(ic T mf a s x).2 ⟨n+1,ha⟩];rw[ha]at h;rcases x with ⟨_|i|_,s'⟩
    ·refine (ic T mf (.loop a) s' r).2 ⟨n+1,?_⟩;simp only[Cs]at h;have:gu (db T) mf (n+1) (.loop a) s'=some r:=by
      simp only[gu];have go:∀(m:Nat) (s:St),iter (gu (db T) mf (n+1) a) m s=some r->iter (gu (db T) mf (n+1) a) (m+1) s=some r:=by
       intro m
       induction m with
       |zero=>intro s h;simp[iter]at h
       |succ m ih=>
        intro s h;rw[one]at h ⊢;cases hb:gu (db T) mf (n+1) a s with
        |none=>rw[hb]at h;simp[Cs]at h
        |some x=>
         rw[hb]at h;rcases x with ⟨_|i|_,s'⟩
         ·exact ih s' h
         ·exact h
         ·exact h
      exact go n s' h
     exact this
    ·exact h
    ·exact h
 ·intro r h;cases ha:ev T mf a s with
  |none=>rw[ha]at h;simp[Cs]at h
  |some x=>
   obtain⟨n,hn⟩:=(ic T mf a s x).1 ha;rw[ha]at h;rcases x with ⟨_|i|_,s'⟩
   ·obtain⟨m,hm⟩:=(ic T mf (.loop a) s' r).1 h;refine⟨max n m+1,?_⟩;have h2:=k9 T mf (.loop a) s' m (max n m) _ hm (by omega);simp only[gu]at h2 ⊢;rw[one,k9 T mf a s n (max n m+1) _ hn (by omega)];simp only[Cs];have go:∀(z:Nat) (s:St),iter (gu (db T) mf (max n m) a) z s=some r->iter (gu (db T) mf (max n m+1) a) z s=some r:=by
     intro z
     induction z with
     |zero=>intro s h;simp[iter]at h
     |succ z ih=>
      intro s h;rw[one]at h ⊢;cases hb:gu (db T) mf (max n m) a s with
      |none=>rw[hb]at h;simp[Cs]at h
      |some x=>
       rw[hb]at h;rw[k9 T mf a s (max n m) (max n m+1) x hb (by omega)];rcases x with ⟨_|i|_,s'⟩
       ·exact ih s' h
       ·exact h
       ·exact h
    exact go _ _ h2
   ·refine⟨n+1,?_⟩;simp only[gu];rw[one,k9 T mf a s n (n+1) _ hn (by omega)];exact h
   ·refine⟨n+1,?_⟩;simp only[gu];rw[one,k9 T mf a s n (n+1) _ hn (by omega)];exact h
def WJ(c:C)(x y:Option (Ex×St)):Option (Ex×St):=
 match c with
 | .d (.bool t)=>if t then x else y
 |_=>none
theorem zP{cf:Cf}(n:Nat)(c:KX)(a b:K)(s:St):gu cf mf n (.cond c a b) s=WJ (eW s c) (gu cf mf n a s) (gu cf mf n b s):=by
 simp only[gu,WJ];cases eW s c<;>rfl
theorem El(c:KX)(a b:K)(s:St):ev T mf (.cond c a b) s=WJ (eW s c) (ev T mf a s) (ev T mf b s):=by
 apply zW
 ·intro r n h;rw[zP]at h;unfold WJ at h ⊢
  split at h
  ·split at h
   ·rename_i ht;simp only[ht,if_true];exact (ic T mf _ _ _).2 ⟨n,h⟩
   ·rename_i ht;simp only[ht];exact (ic T mf _ _ _).2 ⟨n,h⟩
  ·cases h
 ·intro r h;unfold WJ at h
  split at h
  ·rename_i t hc;cases t with
   |true=>obtain⟨n,hn⟩:=(ic T mf _ _ _).1 h;exact⟨n,by rw[zP,hc];exact hn⟩
   |false=>obtain⟨n,hn⟩:=(ic T mf _ _ _).1 h;exact⟨n,by rw[zP,hc];exact hn⟩
  ·cases h
def Pz(id:Nat):Option (Ex×St)->Option (Ex×St)
 |some (.norm,s)=>some (.norm,s)
 |some (.exit i,s)=>if i=id then some (.norm,s) else some (.exit i,s)
 |some (.ret,s)=>some (.ret,s)
 |none=>none
theorem CV{cf:Cf}(n:Nat)(i:Nat)(a:K)(s:St):gu cf mf n (.block i a) s=Pz i (gu cf mf n a s):=by
 simp only[gu,Pz];split
 ·simp_all
 ·rename_i h;split
  ·simp_all
  ·rename_i j s' h';exact absurd h' (h j s')
  ·simp_all
  ·simp_all
theorem Hf(i:Nat)(a:K)(s:St):ev T mf (.block i a) s=Pz i (ev T mf a s):=by
 apply zW
 ·intro r n h;rw[CV]at h;cases ha:gu (db T) mf n a s with
  |none=>rw[ha]at h;simp[Pz]at h
  |some x=>rw[(ic T mf a s x).2 ⟨n,ha⟩];rw[ha]at h;exact h
 ·intro r h;cases ha:ev T mf a s with
  |none=>rw[ha]at h;simp[Pz]at h
  |some x=>
   obtain⟨n,hn⟩:=(ic T mf a s x).1 ha;rw[ha]at h;exact⟨n,by rw[CV,hn];exact h⟩
theorem Hg(q:Nat)(a:K)(s:St):ev T mf (.share q a) s=ev T mf a (dH s [q]):=by
 apply zW
 ·intro r n h;simp only[gu]at h;exact (ic T mf _ _ _).2 ⟨n,h⟩
 ·intro r h;obtain⟨n,hn⟩:=(ic T mf _ _ _).1 h;exact⟨n,by simp only[gu];exact hn⟩
theorem Qw(d:Nat)(a:K)(s:St):ev T mf (.I0 d a) s=(qc s d).bind (ev T mf a):=by
 have h0:∀n,gu (db T) mf n (.I0 d a) s=(qc s d).bind (gu (db T) mf n a):=by
  intro n;simp only[gu];cases qc s d<;>rfl
 apply zW
 ·intro r n h;rw[h0]at h;cases hd:qc s d with
  |none=>rw[hd]at h;simp at h
  |some s'=>rw[hd]at h;exact (ic T mf _ _ _).2 ⟨n,h⟩
 ·intro r h;cases hd:qc s d with
  |none=>rw[hd]at h;simp at h
  |some s'=>rw[hd]at h;obtain⟨n,hn⟩:=(ic T mf _ _ _).1 h;exact⟨n,by rw[h0,hd];exact hn⟩
def fin(kf:KF)(args:List A):Option (Ex×St)->Option (List A×List A)
 |some (.norm,s)=>leave kf args s
 |some (.ret,s)=>leave kf args s
 |_=>none
noncomputable def run(kf:KF)(args:List A):Option (List A×List A):=if args.length=kf.np then fin kf args (ev T mf kf.body (iD 0 args ⟨[],[],[]⟩)) else none
theorem By(cf:Cf)(n:Nat)(kf:KF)(args:List A):Bx cf mf n kf args=if args.length=kf.np then fin kf args (gu cf mf n kf.body (iD 0 args ⟨[],[],[]⟩)) else none:=by
 simp only[Bx];split
 ·simp only[fin]
  split<;>simp_all
 ·rfl
theorem ZM{n:Nat}{kf:KF}{args:List A}{r:List A×List A}(h:run T (gF T) kf args=some r):∃n,∀m,n<=m->Bx (u9 T m) (Cg T m) m kf args=some r:=by
 unfold run at h
 split at h
 ·rename_i hl;cases hx:ev T (gF T) kf.body (iD 0 args ⟨[],[],[]⟩) with
  |none=>rw[hx]at h;simp[fin]at h
  |some x=>
   obtain⟨n,hn⟩:=(ic T (gF T) _ _ _).1 hx;obtain⟨L,a1,a2⟩:=gY _ hn;obtain⟨m,hm⟩:=vM T L a1;refine⟨max n m,λz hz=>?_⟩;rw[By,if_pos hl,a2 _ _ z (hm z (by omega)) (by omega),<- hx];exact h
 ·cases h
theorem Td{cf:Cf}{dO:Mf}{L:xG}(h:Told cf tA L):Told cf dO L:=λt ht=>by
 have h1:=h t ht;cases t with
 |c f a r=>exact h1
 |m f g ds q r=>cases h1
theorem VY{cf:Cf}{mf:Mf}{L:xG}(h:Told cf tA L)(hc:∀f a r,cf f a=some r->db T f a=some r):Told (db T) mf L:=λt ht=>by
 have h1:=h t ht;cases t with
 |c f a r=>exact hc f a r h1
 |m f g ds q r=>cases h1
theorem RJ{f:Nat}{b:K}{r:List KR}(hT:T f=some ⟨999,b,r⟩)(args:List A):db T f args=XT f args:=by
 apply Option.ext
 intro r;rw[s_]
 constructor
 ·rintro⟨n,hn⟩
  cases n with
  |zero=>simp[u9]at hn
  |succ n=>simpa only [u9,hT,if_true] using hn
 ·intro h;exact⟨1,by simpa only [u9,hT,if_true] using h⟩
theorem Mk{f:Nat}{kf:KF}(hT:T f=some kf)(hx9:kf.np≠999)(args:List A):db T f args=run T tA kf args:=by
 apply Option.ext
 intro r;rw[s_]
 constructor
 ·rintro⟨n,hn⟩
  cases n with
  |zero=>simp[u9]at hn
  |succ n=>
   simp only[u9,hT,if_neg hx9]at hn;rw[By]at hn;unfold run
   split at hn
   ·rename_i hl;rw[if_pos hl];cases hx:gu (u9 T n) tA n kf.body (iD 0 args ⟨[],[],[]⟩) with
    |none=>rw[hx]at hn;simp[fin]at hn
    |some x=>
     obtain⟨L,a1,a2⟩:=gY _ hx;have h2:=a2 (db T) tA n (VY T a1 (λf a r h=>(s_ T f a r).2 ⟨n,h⟩)) (by omega);rw[(ic T tA _ _ _).2 ⟨n,h2⟩,<- hx];exact hn
   ·cases hn
 ·intro h;unfold run at h
  split at h
  ·rename_i hl;cases hx:ev T tA kf.body (iD 0 args ⟨[],[],[]⟩) with
   |none=>rw[hx]at h;simp[fin]at h
   |some x=>
    obtain⟨n,hn⟩:=(ic T tA _ _ _).1 hx;obtain⟨L,a1,a2⟩:=gY _ hn;obtain⟨m,hm⟩:=vM T L (Td a1);refine⟨max n m+1,?_⟩;simp only[u9,hT,if_neg hx9];rw[By,if_pos hl,a2 (u9 T (max n m)) tA (max n m) (λt ht=>?_) (by omega),<- hx]
    ·exact h
    ·have h1:=a1 t ht;have h2:=hm (max n m) (by omega) t ht;cases t with
     |c f a r=>exact h2
     |m f g ds q r=>cases h1
  ·cases h
end
noncomputable def tU(own:Bool)(k:Nat)(c:K)(s:MS):Option (Ex×MS):=lm λn=>dc (db T) (gF T) own k n c s
variable (own:Bool) (k:Nat)
theorem kM(c:K)(s:MS):∀n m r,dc (db T) (gF T) own k n c s=some r->n<=m->dc (db T) (gF T) own k m c s=some r:=λn m r h hn=>by
 obtain⟨L,a1,a2⟩:=jb c h;exact a2 _ _ m a1 hn
theorem gH(c:K)(s:MS)(r:Ex×MS):tU T own k c s=some r↔∃n,dc (db T) (gF T) own k n c s=some r:=A7 (kM T own k c s) r
theorem zX{c:K}{s:MS}{o:Option (Ex×MS)}(h1:∀r n,dc (db T) (gF T) own k n c s=some r->o=some r)(h2:∀r,o=some r->∃n,dc (db T) (gF T) own k n c s=some r):tU T own k c s=o:=WQ (kM T own k c s) h1 h2
theorem sQ{c:K}{s:MS}{o:Option (Ex×MS)}(h:∀n,dc (db T) (gF T) own k n c s=o):tU T own k c s=o:=
 zX T own k (λr n e=>by rw[<- h n];exact e) (λr e=>⟨0,by rw[h 0];exact e⟩)
theorem QD(s:MS):tU T own k .skip s=some (.norm,s):=sQ T own k λn=>by simp[dc]
theorem Uf(s:MS):tU T own k .ret s=some (.ret,s):=sQ T own k λn=>by simp[dc]
theorem QC(i:Nat)(s:MS):tU T own k (.exit i) s=some (.exit i,s):=sQ T own k λn=>by simp[dc]
def YN(kp:j6):Option MS->Option (Ex×MS)
 |some s=>some (.norm,s.cH kp)
 |none=>none
theorem Ue(ops:List KI)(kp:j6)(s:MS):tU T own k (.cp ops kp) s=YN kp (py (db T) (gF T) own k ops s):=sQ T own k λn=>by simp only[dc,YN]<;>split<;>simp_all
def xy(g:MS->Option (Ex×MS)):Option (Ex×MS)->Option (Ex×MS)
 |some (.norm,s)=>g s
 |some (.exit i,s)=>some (.exit i,s)
 |some (.ret,s)=>some (.ret,s)
 |none=>none
theorem va{cf:Cf}{mf:Mf}(n:Nat)(a b:K)(s:MS):dc cf mf own k n (.seq a b) s=xy (dc cf mf own k n b) (dc cf mf own k n a s):=by
 simp only[dc,xy];split
 ·rename_i h;simp only[h]
 ·rename_i h;split
  ·rename_i s' h';exact absurd h' (h s')
  ·simp_all
  ·simp_all
  ·simp_all
theorem Ug(a b:K)(s:MS):tU T own k (.seq a b) s=xy (tU T own k b) (tU T own k a s):=by
 apply zX
 ·intro r n h;rw[va]at h;cases ha:dc (db T) (gF T) own k n a s with
  |none=>rw[ha]at h;simp[xy]at h
  |some x=>
   rw[(gH T own k a s x).2 ⟨n,ha⟩];rw[ha]at h;rcases x with ⟨_|i|_,s'⟩
   ·exact (gH T own k b s' r).2 ⟨n,h⟩
   ·exact h
   ·exact h
 ·intro r h;cases ha:tU T own k a s with
  |none=>rw[ha]at h;simp[xy]at h
  |some x=>
   obtain⟨n,hn⟩:=(gH T own k a s x).1 ha;rw[ha]at h;rcases x with ⟨_|i|_,s'⟩
   ·obtain⟨m,hm⟩:=(gH T own k b s' r).1 h;refine⟨max n m,?_⟩;rw[va,kM T own k a s n (max n m) _ hn (by omega)];exact kM T own k b s' m (max n m) _ hm (by omega)
   ·exact⟨n,by rw[va,hn];exact h⟩
   ·exact⟨n,by rw[va,hn];exact h⟩
def Yr(c:C)(x y:Option (Ex×MS)):Option (Ex×MS):=
 match c with
 | .d (.bool t)=>if t then x else y
 |_=>none
theorem wo{cf:Cf}{mf:Mf}(n:Nat)(c:KX)(a b:K)(s:MS):dc cf mf own k n (.cond c a b) s=Yr (eW s.s c) (dc cf mf own k n a s) (dc cf mf own k n b s):=by
 simp only[dc,Yr]<;>cases eW s.s c<;>rfl
theorem QB(c:KX)(a b:K)(s:MS):tU T own k (.cond c a b) s=Yr (eW s.s c) (tU T own k a s) (tU T own k b s):=by
 apply zX
 ·intro r n h;rw[wo]at h;unfold Yr at h ⊢
  split at h
  ·split at h
   ·rename_i ht;simp only[ht,if_true];exact (gH T own k _ _ _).2 ⟨n,h⟩
   ·rename_i ht;simp only[ht];exact (gH T own k _ _ _).2 ⟨n,h⟩
  ·cases h
 ·intro r h;unfold Yr at h
  split at h
  ·rename_i t hc;cases t with
   |true=>obtain⟨n,hn⟩:=(gH T own k _ _ _).1 h;exact⟨n,by rw[wo,hc];exact hn⟩
   |false=>obtain⟨n,hn⟩:=(gH T own k _ _ _).1 h;exact⟨n,by rw[wo,hc];exact hn⟩
  ·cases h
def Ji(id:Nat):Option (Ex×MS)->Option (Ex×MS)
 |some (.norm,s)=>some (.norm,s)
 |some (.exit i,s)=>if i=id then some (.norm,s) else some (.exit i,s)
 |some (.ret,s)=>some (.ret,s)
 |none=>none
theorem zR{cf:Cf}{mf:Mf}(n:Nat)(i:Nat)(a:K)(s:MS):dc cf mf own k n (.block i a) s=Ji i (dc cf mf own k n a s):=by
 simp only[dc,Ji];split
 ·simp_all
 ·rename_i h;split
  ·simp_all
  ·rename_i j s' h';exact absurd h' (h j s')
  ·simp_all
  ·simp_all
theorem Ns(i:Nat)(a:K)(s:MS):tU T own k (.block i a) s=Ji i (tU T own k a s):=by
 apply zX
 ·intro r n h;rw[zR]at h;cases ha:dc (db T) (gF T) own k n a s with
  |none=>rw[ha]at h;simp[Ji]at h
  |some x=>rw[(gH T own k a s x).2 ⟨n,ha⟩];rw[ha]at h;exact h
 ·intro r h;cases ha:tU T own k a s with
  |none=>rw[ha]at h;simp[Ji]at h
  |some x=>
   obtain⟨n,hn⟩:=(gH T own k a s x).1 ha;rw[ha]at h;exact⟨n,by rw[zR,hn];exact h⟩
theorem Hh(a:K)(s:MS):tU T own k (.loop a) s=xy (tU T own k (.loop a)) (tU T own k a s):=by
 have one:∀(cf:Cf) (mf:Mf) n m s,iterM (dc cf mf own k n a) (m+1) s=xy (iterM (dc cf mf own k n a) m) (dc cf mf own k n a s):=by
  intro cf mf n m s;simp only[iterM,xy];split
  ·rename_i h;simp only[h]
  ·rename_i h;split
   ·rename_i s' h';exact absurd h' (h s')
   ·simp_all
   ·simp_all
   ·simp_all
 have up:∀(n m z z':Nat) (s:MS) (r:Ex×MS),n<=m->z<=z'->iterM (dc (db T) (gF T) own k n a) z s=some r->iterM (dc (db T) (gF T) own k m a) z' s=some r:=by
  intro n m z
  induction z with
  |zero=>intro z' s r _ _ h;simp[iterM]at h
  |succ z ih=>
   intro z' s r hn hz h;obtain⟨z',rfl⟩:∃y,z'=y+1:=⟨z' - 1,by omega⟩
   rw[one]at h ⊢;cases hb:dc (db T) (gF T) own k n a s with
   |none=>rw[hb]at h;simp[xy]at h
   |some x=>
    rw[hb]at h;rw[kM T own k a s n m x hb hn];rcases x with ⟨_|i|_,s'⟩
    ·exact ih z' s' r hn (by omega) h
    ·exact h
    ·exact h
 apply zX
 ·intro r n h;simp only[dc]at h;cases n with
  |zero=>simp[iterM]at h
  |succ n=>
   rw[one]at h;cases ha:dc (db T) (gF T) own k (n+1) a s with
   |none=>rw[ha]at h;simp[xy]at h
   |some x=>
    rw[(gH T own k a s x).2 ⟨n+1,ha⟩];rw[ha]at h;rcases x with ⟨_|i|_,s'⟩
    ·exact (gH T own k (.loop a) s' r).2 ⟨n+1,by simp only[dc];exact up (n+1) (n+1) n (n+1) s' r (by omega) (by omega) h⟩
    ·exact h
    ·exact h
 ·intro r h;cases ha:tU T own k a s with
  |none=>rw[ha]at h;simp[xy]at h
  |some x=>
   obtain⟨n,hn⟩:=(gH T own k a s x).1 ha;rw[ha]at h;rcases x with ⟨_|i|_,s'⟩
   ·obtain⟨m,hm⟩:=(gH T own k (.loop a) s' r).1 h;refine⟨max n m+1,?_⟩;simp only[dc]at hm ⊢;rw[one,kM T own k a s n (max n m+1) _ hn (by omega)];exact up m (max n m+1) m (max n m) s' r (by omega) (by omega) hm
   ·exact⟨n+1,by simp only[dc];rw[one,kM T own k a s n (n+1) _ hn (by omega)];exact h⟩
   ·exact⟨n+1,by simp only[dc];rw[one,kM T own k a s n (n+1) _ hn (by omega)];exact h⟩
theorem RI{f:Nat}{kf:KF}(hT:T f=some kf)(ag:Bool)(ds:List D)(q:Int):gF T f ag ds q=runM (λown k=>py (db T) (gF T) own k) (λown k=>tU T own k) kf ag ds q:=by
 apply Option.ext
 intro r;rw[A6]
 constructor
 ·rintro⟨n,hn⟩
  cases n with
  |zero=>simp[Cg]at hn
  |succ n=>
   rw[Ej,hT]at hn;obtain⟨L,a1,a2⟩:=Bz hn;have h2:=a2 (db T) (gF T) n (VZ T a1) (by omega)
   revert h2
   unfold runM;split
   ·split
    ·split
     ·split
      ·rename_i m hm;dsimp only;intro h2;cases hx:dc (db T) (gF T) false ds.length n _ (m.cH _) with
       |none=>rw[hx]at h2;simp[vz,DD]at h2
       |some e=>rw[(gH T _ _ _ _ _).2 ⟨n,hx⟩,<- hx];exact h2
      ·simp
     ·simp
    ·split
     ·dsimp only;intro h2;rename_i k fl es;cases hx:dc (db T) (gF T) true k n _ ⟨⟨[(1,.d (.int .i64 q))],[],[]⟩,[(0,.lst)],es⟩ with
      |none=>rw[hx]at h2;simp[vz,Bp]at h2
      |some e=>rw[(gH T _ _ _ _ _).2 ⟨n,hx⟩,<- hx];exact h2
     ·simp
   ·simp
 ·intro h;have key:∃n,runM (λown k=>py (db T) (gF T) own k) (λown k=>dc (db T) (gF T) own k n) kf ag ds q=some r:=by
   revert h
   unfold runM;split
   ·split
    ·split
     ·split
      ·rename_i m hm;dsimp only;intro h2;cases hx:tU T false ds.length _ (m.cH _) with
       |none=>rw[hx]at h2;simp[vz,DD]at h2
       |some e=>obtain⟨n,hn⟩:=(gH T _ _ _ _ _).1 hx;exact⟨n,by rw[hn,<- hx];exact h2⟩
      ·simp
     ·simp
    ·split
     ·dsimp only;intro h2;rename_i k fl es;cases hx:tU T true k _ ⟨⟨[(1,.d (.int .i64 q))],[],[]⟩,[(0,.lst)],es⟩ with
      |none=>rw[hx]at h2;simp[vz,Bp]at h2
      |some e=>obtain⟨n,hn⟩:=(gH T _ _ _ _ _).1 hx;exact⟨n,by rw[hn,<- hx];exact h2⟩
     ·simp
   ·simp
  obtain⟨n,hn⟩:=key;obtain⟨L,a1,a2⟩:=Bz hn;obtain⟨m,hm⟩:=vM T L a1;refine⟨max n m+1,?_⟩;rw[Ej,hT];exact a2 _ _ (max n m) (hm _ (by omega)) (by omega)
end
end
section
open Go.RowKit
inductive Ty where
 |int
 |bool
 |str
 |list (t:Nat)
def Ty.plain:Ty->Bool
 | .list _=>false
 |_=>true
def lay:Nat->List Ty
 |0=>[.str]
 |1=>[.str,.list 0,.int,.bool]
 |2=>[.str,.str,.list 2]
 |3=>[.int,.str,.str,.list 3]
 |4=>[.int,.int,.list 3]
 |5=>[.list 2,.list 4]
 |6=>[.int,.int]
 |7=>[.int,.list 6,.list 0,.str,.str]
 |8=>[.str,.str]
 |9=>[.str,.list 8]
 |10=>[.bool,.int,.list 9]
 |11=>[.int,.int,.str,.bool,.int,.list 9,.list 11]
 |12=>[.int,.str,.int,.list 6,.list 0,.str,.str,.list 0,.list 0,.str,.bool,.bool,.bool,.bool,.int,.int,.list 11,.list 11,.list 12]
 |13=>[.list 2,.int,.int]
 |14=>[.bool,.int,.int,.str,.list 2]
 |15=>[.list 12,.list 2,.list 2,.int,.list 13,.bool,.int,.int,.str,.list 2]
 |_=>[]
abbrev kw(t:Nat):Nat:=(lay t).length
abbrev flT(t:Nat):Bool:=(lay t).all Ty.plain
abbrev kZ:Nat:=2147483648
mutual
def Ok(B:Nat):Ty->D->Prop
 | .int,.int k n=>k=.i64/\-9223372036854775808<=n/\n<=9223372036854775807
 | .bool,.bool _=>True
 | .str,.str s=>s.size<=maxLen
 | .list t,.list k f es=>k=kw t/\f=flT t/\es.length<=B/\dL B t es
 |_,_=>False
def eE(B:Nat):List Ty->List D->Prop
 |[],[]=>True
 |t::ts,d::ds=>Ok B t d/\eE B ts ds
 |_,_=>False
def dL(B:Nat)(t:Nat):List (List D)->Prop
 |[]=>True
 |e::es=>eE B (lay t) e/\dL B t es
end
section
variable {B:Nat}
theorem Ok.jW{d:D}(h:Ok B .int d):∃n,d=.int .i64 n/\-9223372036854775808<=n/\n<=9223372036854775807:=by
 cases d<;>simp only[Ok]at h
 obtain⟨rfl,h⟩:=h;exact⟨_,rfl,h⟩
theorem Ok.mj{d:D}(h:Ok B .bool d):∃b,d=.bool b:=by
 cases d<;>simp only[Ok]at h
 exact⟨_,rfl⟩
theorem Ok.iV{d:D}(h:Ok B .str d):∃s,d=.str s/\s.size<=maxLen:=by
 cases d<;>simp only[Ok]at h
 exact⟨_,rfl,h⟩
theorem Ok.fh{t:Nat}{d:D}(h:Ok B (.list t) d):∃es,d=.list (kw t) (flT t) es/\es.length<=B/\dL B t es:=by
 cases d<;>simp only[Ok]at h
 obtain⟨rfl,rfl,h⟩:=h;exact⟨_,rfl,h⟩
theorem eE.iT{ds:List D}(h:eE B [] ds):ds=[]:=by
 cases ds with
 |nil=>rfl
 |cons d ds=>simp[eE]at h
theorem eE.cons_inv{t:Ty}{ts:List Ty}{ds:List D}(h:eE B (t::ts) ds):∃x xs,ds=x::xs/\Ok B t x/\eE B ts xs:=by
 cases ds with
 |nil=>simp[eE]at h
 |cons d ds=>simp only[eE]at h;exact⟨d,ds,rfl,h⟩
theorem dL.mem{t:Nat}:∀{es:List (List D)},dL B t es->∀e∈es,eE B (lay t) e
 |[],_,e,h=>by simp at h
 |x::es,ho,e,h=>by
  simp only[dL]at ho;rcases ay.1 h with rfl|h
  ·exact ho.1
  ·exact dL.mem ho.2 e h
theorem dr{α:Type}{l:List α}{i:Nat}(h:i < l.length):nth l i=some l[i]:=by rw[cU];simp[h]
theorem vw{α:Type}{l:List α}{i:Nat}{x:α}(h:nth l i=some x):x∈l:=by rw[cU]at h;exact cK h
theorem dL.Fy{t:Nat}{es:List (List D)}{i:Nat}{e:List D}(ho:dL B t es)(h:nth es i=some e):eE B (lay t) e:=ho.mem e (vw h)
theorem eE.length{ts:List Ty}:∀{ds:List D},eE B ts ds->ds.length=ts.length:=by
 induction ts with
 |nil=>intro ds h;rw[h.iT];rfl
 |cons t ts ih=>intro ds h;obtain⟨x,xs,rfl,_,h2⟩:=h.cons_inv;simp[ih h2]
mutual
theorem Ok.mono{B B':Nat}(hb:B<=B'):∀(t:Ty) (d:D),Ok B t d->Ok B' t d
 | .int,.int _ _,h=>by simpa only [Ok] using h
 | .bool,.bool _,_=>by simp only[Ok]
 | .str,.str _,h=>by simpa only [Ok] using h
 | .list t,.list k f es,h=>by
  simp only[Ok]at h ⊢;exact⟨h.1,h.2.1,aA h.2.2.1 hb,dL.mono hb t es h.2.2.2⟩
 | .int,.bool _,h | .int,.str _,h | .int,.list _ _ _,h | .bool,.int _ _,h | .bool,.str _,h | .bool,.list _ _ _,h | .str,.int _ _,h | .str,.bool _,h | .str,.list _ _ _,h | .list _,.int _ _,h | .list _,.bool _,h | .list _,.str _,h=>by simp only[Ok]at h
theorem eE.mono{B B':Nat}(hb:B<=B'):∀(ts:List Ty) (ds:List D),eE B ts ds->eE B' ts ds
 |[],[],_=>by simp only[eE]
 |t::ts,d::ds,h=>by
  simp only[eE]at h ⊢;exact⟨Ok.mono hb t d h.1,eE.mono hb ts ds h.2⟩
 |[],_::_,h|_::_,[],h=>by simp only[eE]at h
theorem dL.mono{B B':Nat}(hb:B<=B')(t:Nat):∀(es:List (List D)),dL B t es->dL B' t es
 |[],h=>by simp only[dL]
 |e::es,h=>by
  simp only[dL]at h ⊢;exact⟨eE.mono hb (lay t) e h.1,dL.mono hb t es h.2⟩
end
end
mutual
def D.sz:D->Nat
 | .str s=>s.size
 | .list _ _ es=>es.length+nw es
 |_=>0
def eV:List D->Nat
 |[]=>0
 |d::ds=>d.sz+eV ds
def nw:List (List D)->Nat
 |[]=>0
 |e::es=>eV e+nw es
end
mutual
theorem Ok.small{B B':Nat}:∀(t:Ty) (d:D),Ok B t d->d.sz<=B'->Ok B' t d
 | .int,.int _ _,h,_=>by simpa only [Ok] using h
 | .bool,.bool _,_,_=>by simp only[Ok]
 | .str,.str _,h,_=>by simpa only [Ok] using h
 | .list t,.list k f es,h,hs=>by
  simp only[Ok]at h ⊢;simp only[D.sz]at hs;exact⟨h.1,h.2.1,by omega,dL.small t es h.2.2.2 (by omega)⟩
 | .int,.bool _,h,_ | .int,.str _,h,_ | .int,.list _ _ _,h,_ | .bool,.int _ _,h,_ | .bool,.str _,h,_ | .bool,.list _ _ _,h,_ | .str,.int _ _,h,_ | .str,.bool _,h,_ | .str,.list _ _ _,h,_ | .list _,.int _ _,h,_ | .list _,.bool _,h,_ | .list _,.str _,h,_=>by simp only[Ok]at h
theorem eE.small{B B':Nat}:∀(ts:List Ty) (ds:List D),eE B ts ds->eV ds<=B'->eE B' ts ds
 |[],[],_,_=>by simp only[eE]
 |t::ts,d::ds,h,hs=>by
  simp only[eE]at h ⊢;simp only[eV]at hs;exact⟨Ok.small t d h.1 (by omega),eE.small ts ds h.2 (by omega)⟩
 |[],_::_,h,_|_::_,[],h,_=>by simp only[eE]at h
theorem dL.small{B B':Nat}(t:Nat):∀(es:List (List D)),dL B t es->nw es<=B'->dL B' t es
 |[],h,_=>by simp only[dL]
 |e::es,h,hs=>by
  simp only[dL]at h ⊢;simp only[nw]at hs;exact⟨eE.small (lay t) e h.1 (by omega),dL.small t es h.2 (by omega)⟩
end
abbrev Kf(k:Nat)(fl:Bool)(es:List (List D)):Row:=⟨es,k,fl,true,true,false⟩
def own:D->RV
 | .list k fl es=>.row (Kf k fl es)
 |d=>.d d
def ym:Nat->Nat->ByteArray->ByteArray
 |0,_,out=>out
 |f+1,n,out=>if n=0 then out else ym f (n / 10) (⟨#[cL (48+n % 10)]⟩++out)
def Dq(k:Int):ByteArray:=if k<=0 then ⟨#[109,48]⟩ else ⟨#[109]⟩++ym 20 k.toNat ⟨#[]⟩
def WU(q:Int):Bool:=decide (q % 3=0)
mutual
def D.mn:D->Nat
 | .list _ _ es=>bq es
 |_=>1
def yu:List D->Nat
 |[]=>0
 |d::ds=>d.mn+yu ds
def bq:List (List D)->Nat
 |[]=>0
 |e::es=>yu e+bq es
end
mutual
def D.mk:D->Int->D
 | .int k _,q=>.int k q
 | .bool _,q=>.bool (WU q)
 | .str _,q=>.str (Dq q)
 | .list k fl es,q=>.list k fl (kP es q)
def Om:List D->Int->List D
 |[],_=>[]
 |d::ds,q=>d.mk q::Om ds (q+d.mn)
def kP:List (List D)->Int->List (List D)
 |[],_=>[]
 |e::es,q=>Om e q::kP es (q+yu e)
end
theorem df:∀(es:List (List D)) (q:Int),(kP es q).length=es.length
 |[],_=>by simp[kP]
 |e::es,q=>by simp[kP,df es]
theorem Bb:∀(a b:List (List D)) (q:Int),kP (a++b) q=kP a q++kP b (q+bq a)
 |[],b,q=>by simp[kP,bq]
 |e::a,b,q=>by simp[kP,bq,Bb a b,Int.add_assoc]
theorem uq:∀(a b:List (List D)),bq (a++b)=bq a+bq b
 |[],b=>by simp[bq]
 |e::a,b=>by simp[bq,uq a b,du]
theorem BO:∀(a b:List (List D)),nw (a++b)=nw a+nw b
 |[],b=>by simp[nw]
 |e::a,b=>by simp[nw,BO a b,du]
theorem My:∀(es:List (List D)) (q:Int) (i:Nat) (e:List D),nth es i=some e->nth (kP es q) i=some (Om e (q+bq (es.take i)))
 |[],_,_,_,h=>by simp[nth]at h
 |x::es,q,0,e,h=>by simp only[nth,aa]at h;subst h;simp[kP,nth,bq]
 |x::es,q,i+1,e,h=>by
  simp only[nth]at h;simp only[kP,nth,cx,bq];rw[My es _ i e h]
  congr 2
  omega
theorem cn{α:Type}:∀(es:List α) (i:Nat) (e:α),nth es i=some e->es.take (i+1)=es.take i++[e]
 |[],_,_,h=>by simp[nth]at h
 |x::es,0,e,h=>by simp only[nth,aa]at h;simp[h]
 |x::es,i+1,e,h=>by simp only[nth]at h;simp[cn es i e h]
theorem fK{es:List (List D)}{i:Nat}{e:List D}(h:nth es i=some e):bq (es.take (i+1))=bq (es.take i)+yu e:=by
 rw[cn es i e h,uq];simp[bq]
theorem hO(es:List (List D))(i:Nat):bq (es.take i)<=bq es:=by
 have:=uq (es.take i) (es.drop i);rw[bc]at this;omega
theorem Hk{α:Type}:∀(es:List α) (z:α) (zs:List α) (i:Nat) (e:α),nth es i=some e->(es.take i++z::zs).set i e=es.take (i+1)++zs
 |[],_,_,_,_,h=>by simp[nth]at h
 |x::es,z,zs,0,e,h=>by
  simp only[nth,aa]at h;subst h;simp
 |x::es,z,zs,i+1,e,h=>by
  simp only[nth]at h;simp[Hk es z zs i e h]
theorem QF{α:Type}{es:List α}{z:α}{i:Nat}{e:α}(h:nth es i=some e):(es.take i++aE (es.length - i) z).set i e=es.take (i+1)++aE (es.length - (i+1)) z:=by
 have hl:i < es.length:=by rw[cU]at h;exact (aI.1 h).1
 rw[show es.length - i=(es.length - (i+1))+1 by omega,fu,Hk es z _ i e h]
end
section
section
variable {cf:Cf} {mf:Mf}
@[go_sem] theorem af7 (g:St->Option (Ex×St)) (s:St):Cs g (some (.norm,s))=g s:=rfl
@[go_sem] theorem af6 (g:St->Option (Ex×St)) (i:Nat) (s:St):Cs g (some (.exit i,s))=some (.exit i,s):=rfl
@[go_sem] theorem agl (g:St->Option (Ex×St)) (s:St):Cs g (some (.ret,s))=some (.ret,s):=rfl
@[go_sem] theorem aaI (i:Nat) (s:St):Pz i (some (.norm,s))=some (.norm,s):=rfl
@[go_sem] theorem aaH (i j:Nat) (s:St):Pz i (some (.exit j,s))=if j=i then some (.norm,s) else some (.exit j,s):=rfl
@[go_sem] theorem aci (kp:j6) (s:St):YM kp (some s)=some (.norm,s.cH kp):=rfl
@[go_sem] theorem ach (s:St):Ih (some s)=some (.norm,s):=rfl
def Fh(res:List KR)(args:List A)(s:St):Option (List A×List A):=
 match vC s res,sr s 0 args with
 |some (rs,l),some (outs,l')=>if iU (l++l') then some (rs,outs) else none
 |_,_=>none
def QG(res:List KR)(args:List A):Option (Ex×St)->Option (List A×List A)
 |some (.norm,s)=>Fh res args s
 |some (.ret,s)=>Fh res args s
 |_=>none
@[go_sem] theorem agi (res:List KR) (as:List A) (s:St):QG res as (some (.ret,s))=Fh res as s:=rfl
theorem rZ{T:Nat->Option KF}{f np:Nat}{body:K}{res:List KR}(hT:T f=some ⟨np,body,res⟩){args:List A}(pE:(args.length ==np && fk np 999)=true) :
  db T f args=QG res args (ev T tA body (iD 0 args ⟨[],[],[]⟩)):=by
 rw[ab,beq_iff_eq,lE]at pE;have hl:=pE.1;rw[Mk T hT (by simp only;omega)];simp only[run,hl,if_true];generalize ev T tA body (iD 0 args ⟨[],[],[]⟩)=x;rcases x with _|⟨_|_|_,s⟩<;>rfl
theorem ZL{T:Nat->Option KF}{np:Nat}{body:K}{res:List KR}{args:List A}(hl:args.length=np) :
  run T mf ⟨np,body,res⟩ args=QG res args (ev T mf body (iD 0 args ⟨[],[],[]⟩)):=by
 simp only[run,hl,if_true];generalize ev T mf body (iD 0 args ⟨[],[],[]⟩)=x;rcases x with _|⟨_|_|_,s⟩<;>rfl
theorem Mm{T:Nat->Option KF}{body:K}(st:Nat->St){n:Nat}{e:Ex}{s:St}(he:e≠.norm)(fE:ev T mf body (st n)=some (e,s))(vh:∀i,i < n->ev T mf body (st i)=some (.norm,st (i+1))) :
  ∀m i,i+m=n->ev T mf (.loop body) (st i)=some (e,s)
 |0,i,h=>by
  rw[fI,show i=n by omega,fE];cases e with
  |norm=>exact absurd rfl he
  |exit j=>rfl
  |ret=>rfl
 |m+1,i,h=>by
  rw[fI,vh i (by omega)];exact Mm st he fE vh m (i+1) (by omega)
theorem WR{T:Nat->Option KF}{body:K}(st:Nat->St)(n:Nat){e:Ex}{s:St}(he:e≠.norm)(fE:ev T mf body (st n)=some (e,s))(vh:∀i,i < n->ev T mf body (st i)=some (.norm,st (i+1))):ev T mf (.loop body) (st 0)=some (e,s):=
 Mm st he fE vh n 0 (by omega)
@[go_sem] theorem aas (ag:Bool) (cs:List RV):A.short (.val ag cs)=decide (cs.length<=30):=by
 simp only[A.short];by_cases h:cs.length<=30
 ·simp only[h,decide_true];exact Nat.ble_eq_true_of_le h
 ·simp only[h,decide_false];cases hb:nz cs.length 30 with
  |false=>rfl
  |true=>exact absurd (Nat.le_of_ble_eq_true hb) h
@[go_sem] theorem aao (s:St):la cf mf [] s=some s:=rfl
@[go_sem] theorem XE (i:KI) (is:List KI) (s:St):la cf mf (i::is) s=(rh cf mf s i).bind (la cf mf is):=by
 simp only[la];cases rh cf mf s i<;>rfl
@[go_sem] theorem aa6 (s:St) (d:Option Nat) (o:KO):rh cf mf s ⟨d,o,none⟩=yn cf mf s d o:=rfl
def Wl(cf:Cf)(mf:Mf)(s:St)(d:Option Nat)(o:KO)(w:Bool):C->Option St
 | .d (.bool b)=>if b=w then yn cf mf s d o else some (s.put d .qZ)
 | .qZ=>some (s.put d .qZ)
 |_=>none
@[go_sem] theorem aa7 (s:St) (d:Option Nat) (o:KO) (g:Nat) (w:Bool):rh cf mf s ⟨d,o,some (g,w)⟩=Wl cf mf s d o w (s.get g):=by
 simp only[rh,Wl];cases s.get g<;>rfl
@[go_sem] theorem agt (s:St) (d:Option Nat) (o:KO):Wl cf mf s d o false (.d (.bool false))=yn cf mf s d o:=rfl
@[go_sem] theorem aa5 (kp:j6) (tk:List (List Nat×Nat)) (s:St):eJ cf mf kp .nil tk s=some (s.cH kp):=by simp only[eJ]
def lod(s:St)(d:Option Nat)(dn:List Nat)(tk:List (List Nat×Nat))(k:List (List Nat×Nat)->St->Option St):Option C->Option (Option Nat)->Option St
 |some c,some b=>k (mC dn tk b) (s.put d c)
 |_,_=>none
@[go_sem] theorem XC (kp:j6) (j:Nat) (al dn:List Nat) (d:Option Nat) (o:KO) (is:KT) (tk:List (List Nat×Nat)) (s:St) :
  eJ cf mf kp (.op ⟨j,true,al,dn,⟨d,o,none⟩⟩ is) tk s=lod s d dn tk (eJ cf mf kp is) (gG s o) (m_ s o):=by
 simp only[eJ,if_true,lod];cases gG s o<;>cases m_ s o<;>rfl
@[go_sem] theorem ab2 (s:St) (d:Option Nat) (dn:List Nat) (tk:List (List Nat×Nat)) (k:List (List Nat×Nat)->St->Option St) (c:C) (b:Option Nat):lod s d dn tk k (some c) (some b)=k (mC dn tk b) (s.put d c):=rfl
@[go_sem] theorem XB (kp:j6) (j:Nat) (al dn:List Nat) (i:KI) (is:KT) (tk:List (List Nat×Nat)) (s:St) :
  eJ cf mf kp (.op ⟨j,false,al,dn,i⟩ is) tk s=j5 cf mf ⟨j,false,al,dn,i⟩ tk s (eJ cf mf kp is):=by simp only[eJ,av,if_false]
def stp(x:KD)(s:St)(tk:List (List Nat×Nat))(k:List (List Nat×Nat)->St->Option St):Option St->Option St
 |some s'=>if tk.all (λp=>!(dW s x.i.dst x.i.op).contains p.2 && (look s'.bx p.2).isSome && !(x.i.dst ==some p.2)) then k tk s' else none
 |none=>none
@[go_sem] theorem afr (x:KD) (tk:List (List Nat×Nat)) (s:St) (k:List (List Nat×Nat)->St->Option St):j5 cf mf x tk s k=stp x s (iq x.j tk) k (rh cf mf s x.i):=by
 simp only[j5,stp];cases rh cf mf s x.i<;>rfl
@[go_sem] theorem agk (x:KD) (s s':St) (k:List (List Nat×Nat)->St->Option St):stp x s [] k (some s')=k [] s':=rfl
def rsl (s : St) (d : Option Nat) (cs : List C) : Option (List A × List A) -> Option St
  | none => none
  | some (rs, outs) => if rs.all A.short then
        let s0 := if rs.all A.closed && outs.all A.closed then s else dH s (gZ cs)
        let s1 := ei (ey s0 (cI s cs)) (ch cs)
        let s2 := jM s1 cs outs
        let (l, s4) := fw (d.getD 0) 0 rs s2
        some (s4.put d (match l with | [c] => c | l => .oH l))
        else none
def Uc(cf:Cf)(s:St)(d:Option Nat)(f:Nat)(cs:List C):Option (List A)->Option St
 |some as=>if iU (cI s cs) && iU (ch cs) && (cI s cs).all (λr=>!(gZ cs).contains r) then rsl s d cs (cf f as) else none
 |none=>none
@[go_sem] theorem aak (s:St) (d:Option Nat) (f:Nat) (cs:List C):tT cf s d f cs=Uc cf s d f cs (vK s cs):=by
 simp only[tT,Uc];cases vK s cs with
 |none=>rfl
 |some as=>
  dsimp only;split
  ·cases cf f as with
   |none=>rfl
   |some r=>rfl
  ·rfl
@[go_sem] theorem aaj (s:St) (d:Option Nat) (f:Nat) (cs:List C) (as:List A):Uc cf s d f cs (some as)=if iU (cI s cs) && iU (ch cs) && (cI s cs).all (λr=>!(gZ cs).contains r) then rsl s d cs (cf f as) else none:=rfl
@[go_sem] theorem adD (s : St) (d : Option Nat) (cs : List C) (rs outs : List A) : rsl s d cs (some (rs, outs)) = if rs.all A.short then
        let s0 := if rs.all A.closed && outs.all A.closed then s else dH s (gZ cs)
        let s1 := ei (ey s0 (cI s cs)) (ch cs)
        let s2 := jM s1 cs outs
        let (l, s4) := fw (d.getD 0) 0 rs s2
        some (s4.put d (match l with | [c] => c | l => .oH l))
        else none := rfl
end
theorem ahb{α:Type}(x:α)(l:List α):nth (x::l) 0=some x:=rfl
theorem ahd{α:Type}(x:α)(l:List α)(i:Nat):nth (x::l) (i+1)=nth l i:=rfl
theorem ahc{α:Type}(i:Nat):nth ([]:List α) i=none:=by cases i<;>rfl
attribute [go_sem] QA El Hf Qy Qx Qz Lo Lp Hg Qw
attribute [go_sem] qc Fh vC FM sr Ov
attribute [go_sem] pM yn gG kc eW KO.ji KO.JX m_ dW mC iq
attribute [go_sem] St.get St.put St.eO St.setRow St.cM St.jK St.newRow St.kill St.cH gl look pg LY LX tB ahb ahd ahc
attribute [go_sem] C.fY C.xl Se Sd St.fY jt C_ C.kill C.jf C.cells C.const C.cell C.isAgg B3 zM cQ D.plain Pw Px Pv M_ kI iK fp OL vK rowsOf pK cI gZ ch RV.closed A.closed Row.share dH dU jM fw iU ey fR ei xP vE yG iR rG om wm iD mK
attribute [go_sem] az aK aQ dB bT List.all_nil List.filter_cons List.filter_nil aG ao ai cx ba gr aV List.drop_nil List.take_nil List.contains_cons List.contains_nil List.headD_cons
attribute [go_sem] aD Option.map_none mH Option.getD_none gP Option.toList_some cO
attribute [go_sem] Option.some_beq_some Option.none_beq_some
attribute [go_sem] if_true if_false fo cB iW er nb kb jr sI iN iM and_true true_and and_false false_and
attribute [go_sem] bm eD av ite_true ite_false decide_true decide_false cE Bool.true_eq_false beq_self_eq_true bne_self_eq_false imp_self false_imp_iff true_imp_iff
theorem wi{i n:Nat}(h:i < n)(hn:n<=maxLen):IntKind.i64.wrap ((i:Int)+1)=((i+1:Nat):Int):=by
 rw[bJ (by simp[maxLen]at hn;omega)];omega
theorem UK{i n:Nat}(h:i < n):((i:Int) < (n:Int))=True:=by simp;omega
theorem Vc(n:Nat):((n:Int) < (n:Int))=False:=by simp
theorem eE.drop{B:Nat}:∀(o:Nat) (ts:List Ty) (ds:List D),eE B ts ds->eE B (ts.drop o) (ds.drop o)
 |0,_,_,h=>by simpa using h
 |o+1,[],[],h=>by simpa using h
 |o+1,t::ts,d::ds,h=>by simp only[eE]at h;simpa using eE.drop o ts ds h.2
 |_,[],_::_,h|_,_::_,[],h=>by simp only[eE]at h
theorem eE.take{B:Nat}:∀(o:Nat) (ts:List Ty) (ds:List D),eE B ts ds->eE B (ts.take o) (ds.take o)
 |0,_,_,_=>by simp[eE]
 |o+1,[],[],h=>by simpa using h
 |o+1,t::ts,d::ds,h=>by simp only[eE]at h;simp only[cx,eE];exact⟨h.1,eE.take o ts ds h.2⟩
 |_,[],_::_,h|_,_::_,[],h=>by simp only[eE]at h
theorem eE.sub{B:Nat}(o m:Nat){ts:List Ty}{ds:List D}(h:eE B ts ds):eE B ((ts.drop o).take m) ((ds.drop o).take m):=eE.take m _ _ (eE.drop o _ _ h)
theorem gX{α:Type}:∀(es:List α) (i:Nat) (e:α),nth es i=some e->es.drop i=e::es.drop (i+1)
 |[],_,_,h=>by simp[nth]at h
 |x::es,0,e,h=>by simp only[nth,aa]at h;simp[h]
 |x::es,i+1,e,h=>by simp only[nth]at h;simp[gX es i e h]
theorem vG{k:Nat}{fl:Bool}{x es:List (List D)}{e:List D}(h:D.list k fl x∈e)(he:e∈es):ah x < ah es:=by
 have h1:=aW h;have h2:=aW he;simp only[D.list.sizeOf_spec]at h1;omega
end
section
section
variable {cf:Cf} {mf:Mf} {own:Bool} {k:Nat}
@[go_sem] theorem aau (g:MS->Option (Ex×MS)) (s:MS):xy g (some (.norm,s))=g s:=rfl
@[go_sem] theorem aat (g:MS->Option (Ex×MS)) (i:Nat) (s:MS):xy g (some (.exit i,s))=some (.exit i,s):=rfl
@[go_sem] theorem abJ (x y:Option (Ex×MS)):Yr (.d (.bool true)) x y=x:=rfl
@[go_sem] theorem aap (x y:Option (Ex×MS)):Yr (.d (.bool false)) x y=y:=rfl
@[go_sem] theorem aai (i:Nat) (s:MS):Ji i (some (.norm,s))=some (.norm,s):=rfl
@[go_sem] theorem aah (i j:Nat) (s:MS):Ji i (some (.exit j,s))=if j=i then some (.norm,s) else some (.exit j,s):=rfl
@[go_sem] theorem aar (kp:j6) (s:MS):YN kp (some s)=some (.norm,s.cH kp):=rfl
@[go_sem] theorem aa8 (s:MS):py cf mf own k [] s=some s:=rfl
@[go_sem] theorem aan (i:KI) (is:List KI) (s:MS):py cf mf own k (i::is) s=(Ei cf mf own k s i).bind (py cf mf own k is):=by
 simp only[py];cases Ei cf mf own k s i<;>rfl
@[go_sem] theorem aam (s:MS) (d:Nat) (o:KO):Ei cf mf own k s ⟨some d,o,none⟩=zQ cf mf k s d o:=rfl
@[go_sem] theorem aal (s:MS) (o:KO):Ei cf mf own k s ⟨none,o,none⟩=Ql own s o:=rfl
def mpc(m:MS)(d:Nat):Option (List A×List A)->Option MS
 |some ([.val false [.d r]],[])=>if D.plain r then some (m.put d (.d r)) else none
 |_=>none
def mpa(cf:Cf)(m:MS)(d f:Nat):Option (List A)->Option MS
 |some as=>mpc m d (cf f as)
 |none=>none
@[go_sem] theorem agh (m:MS) (d f:Nat) (xs:List KX):Ch cf m d f xs=mpa cf m d f (ux (xs.map (eW m.s))):=by
 unfold Ch mpa mpc;rfl
@[go_sem] theorem aca (m:MS) (d f:Nat) (as:List A):mpa cf m d f (some as)=mpc m d (cf f as):=rfl
@[go_sem] theorem acb (m:MS) (d:Nat) (r:D):mpc m d (some ([.val false [.d r]],[]))=if D.plain r then some (m.put d (.d r)) else none:=rfl
def mmh(m:MS)(d i o:Nat):Option (List D×Int)->Option MS
 |some ([x'],q')=>some ((m.set i o [x']).put d (.d (.int .i64 q')))
 |_=>none
def mml(mf:Mf)(m:MS)(d f i o:Nat)(q:Int):Option D->Option MS
 |some (.list k fl es)=>mmh m d i o (mf f false [.list k fl es] q)
 |_=>none
@[go_sem] theorem agf (m:MS) (d f i o:Nat) (q:Int):Ek mf m d f (.hd i o) (.d (.int .i64 q))=mml mf m d f i o q (m.at_ i o):=by
 unfold Ek mml mmh;rfl
@[go_sem] theorem ab9 (m:MS) (d f i o:Nat) (q:Int) (k:Nat) (fl:Bool) (es:List (List D)):mml mf m d f i o q (some (.list k fl es))=mmh m d i o (mf f false [.list k fl es] q):=rfl
@[go_sem] theorem ab8 (m:MS) (d i o:Nat) (x':D) (q':Int):mmh m d i o (some ([x'],q'))=some ((m.set i o [x']).put d (.d (.int .i64 q'))):=rfl
end
attribute [go_sem] Ug QB Ns Ue Uf QC QD
attribute [go_sem] MC.tJ MS.O3 MS.put MS.vB MS.set MS.tJ MS.cH MS.at_ ux zQ Ql vz DD Bp
theorem kO{T:Nat->Option KF}{f r:Nat}{body:K}(hT:T f=some ⟨2,body,[.t r]⟩){k:Nat}{fl:Bool}{es:List (List D)}{q:Int} :
  gF T f false [.list k fl es] q=Bp k fl (vz r (tU T true k body ⟨⟨[(1,.d (.int .i64 q))],[],[]⟩,[(0,.lst)],es⟩)):=by
 rw[RI T hT];rfl
theorem WS{T:Nat->Option KF}{own:Bool}{k:Nat}{body:K}(st:Nat->MS){n:Nat}{s:MS}(fE:tU T own k body (st n)=some (.exit 0,s))(vh:∀i,i < n->tU T own k body (st i)=some (.norm,st (i+1))) :
  ∀m i,i+m=n->tU T own k (.loop body) (st i)=some (.exit 0,s)
 |0,i,h=>by rw[Hh,show i=n by omega,fE];rfl
 |m+1,i,h=>by
  rw[Hh,vh i (by omega)];exact WS st fE vh m (i+1) (by omega)
theorem sa{T:Nat->Option KF}{own:Bool}{k:Nat}{body:K}(st:Nat->MS)(n:Nat){s:MS}(fE:tU T own k body (st n)=some (.exit 0,s))(vh:∀i,i < n->tU T own k body (st i)=some (.norm,st (i+1))):tU T own k (.loop body) (st 0)=some (.exit 0,s):=
 WS st fE vh n 0 (by omega)
theorem sh{es:List (List D)}{i:Nat}{e:List D}(q:Int)(h:nth es i=some e):nth (kP (es.take i) q++es.drop i) i=some e:=by
 have hl:i < es.length:=by rw[cU]at h;exact (aI.1 h).1
 rw[cU,cr (by rw[df];simp;omega),df,a_,dT (by omega),oM,gX es i e h];rfl
theorem sf{es:List (List D)}{i:Nat}(q:Int)(hl:i<=es.length):(kP (es.take i) q++es.drop i).length=es.length:=by
 rw[aL,df];simp;omega
theorem sj{es:List (List D)}{i:Nat}{e:List D}(q:Int)(h:nth es i=some e)(x:List D):(kP (es.take i) q++es.drop i).set i x=kP (es.take i) q++x::es.drop (i+1):=by
 have hl:i < es.length:=by rw[cU]at h;exact (aI.1 h).1
 rw[List.set_append_right _ _ (by rw[df];simp;omega),df,a_,dT (by omega),oM,gX es i e h];rfl
theorem qo{es:List (List D)}{i:Nat}(q:Int)(hl:i < es.length)(x:List D)(t:List (List D)):nth (kP (es.take i) q++x::t) i=some x:=by
 rw[cU,cr (by rw[df];simp;omega),df,a_,dT (by omega),oM];rfl
theorem qn{es:List (List D)}{i:Nat}(q:Int)(hl:i < es.length)(x:List D):(kP (es.take i) q++x::es.drop (i+1)).length=es.length:=by
 rw[aL,df];simp;omega
theorem qp{es:List (List D)}{i:Nat}(q:Int)(hl:i < es.length)(x y:List D)(t:List (List D)):(kP (es.take i) q++x::t).set i y=kP (es.take i) q++y::t:=by
 rw[List.set_append_right _ _ (by rw[df];simp;omega),df,a_,dT (by omega),oM];rfl
theorem se{es:List (List D)}{i:Nat}{e:List D}(q:Int)(h:nth es i=some e):kP (es.take i) q++Om e (q+bq (es.take i))::es.drop (i+1)=kP (es.take (i+1)) q++es.drop (i+1):=by
 rw[cn es i e h,Bb];simp[kP]
theorem MP(b:UInt8):(⟨#[b]⟩:ByteArray).size=1:=rfl
theorem CO:∀(f n:Nat) (out:ByteArray),(ym f n out).size<=out.size+f
 |0,n,out=>by simp[ym]
 |f+1,n,out=>by
  simp only[ym];split
  ·omega
  ·have:=CO f (n / 10) (⟨#[cL (48+n % 10)]⟩++out);rw[gJ,MP]at this;omega
theorem HZ(k:Int):(Dq k).size<=30:=by
 unfold Dq;split
 ·exact (by decide:(2:Nat)<=30)
 ·rw[gJ,MP];have:=CO 20 k.toNat ⟨#[]⟩;have h0:(⟨#[]⟩:ByteArray).size=0:=rfl;omega
@[go_sem] theorem ab4 (q:Int):decide (q % 3=0)=WU q:=rfl
theorem Oe(t:Nat):(lay t).length<=32:=by unfold lay;split<;>simp
mutual
theorem YI{B:Nat}:∀(t:Ty) (d:D),Ok B t d->d.mn<=1+32 * d.sz
 | .int,.int _ _,_=>by simp[D.mn]
 | .bool,.bool _,_=>by simp[D.mn]
 | .str,.str _,_=>by simp[D.mn]
 | .list t,.list k f es,h=>by
  simp only[Ok]at h;have:=ur t es h.2.2.2;simp only[D.mn,D.sz];omega
 | .int,.bool _,h | .int,.str _,h | .int,.list _ _ _,h | .bool,.int _ _,h | .bool,.str _,h | .bool,.list _ _ _,h | .str,.int _ _,h | .str,.bool _,h | .str,.list _ _ _,h | .list _,.int _ _,h | .list _,.bool _,h | .list _,.str _,h=>by simp only[Ok]at h
theorem RR{B:Nat}:∀(ts:List Ty) (ds:List D),eE B ts ds->yu ds<=ts.length+32 * eV ds
 |[],[],_=>by simp[yu]
 |t::ts,d::ds,h=>by
  simp only[eE]at h;have h1:=YI t d h.1;have h2:=RR ts ds h.2;simp only[yu,eV,az];omega
 |[],_::_,h|_::_,[],h=>by simp only[eE]at h
theorem ur{B:Nat}(t:Nat):∀(es:List (List D)),dL B t es->bq es<=32 * es.length+32 * nw es
 |[],_=>by simp[bq]
 |e::es,h=>by
  simp only[dL]at h;have h1:=RR (lay t) e h.1;have h2:=ur t es h.2;have h3:=Oe t;simp only[bq,nw,az];omega
end
end
section
inductive SK where
 |int (k:IntKind) (n:Int)
 |bool (b:Bool)
 |str (s:ByteArray)
 |nil (k:Nat) (fl:Bool)
 deriving DecidableEq
def SK.d:SK->D
 | .int k n=>.int k n
 | .bool b=>.bool b
 | .str s=>.str s
 | .nil k fl=>.list k fl []
inductive SE where
 |v (i:Nat)
 |k (x:SK)
 |c (i j:Nat)
 deriving DecidableEq
def XA:D->Option (List D)
 | .list _ _ [cs]=>some cs
 |_=>none
def SE.d(ρ:List D):SE->Option D
 | .v i=>nth ρ i
 | .k x=>some x.d
 | .c i j=>match nth ρ i with
  |some x=>match XA x with
   |some cs=>nth cs j
   |none=>none
  |none=>none
abbrev Gs:=List (SE×Bool)
def gN(ρ:List D):Gs->Option Bool
 |[]=>some true
 |(g,w)::gs=>match g.d ρ with
  |some (.bool b)=>if b=w then gN ρ gs else some false
  |_=>none
inductive SB where
 |d (e:SE)
 |nil (k:Nat) (fl:Bool)
 |ref (r:Nat)
 |any
 deriving DecidableEq
inductive SC where
 |b (x:SB)
 |agg (xs:List SB)
 |oH (xs:List (SB ⊕ List SB))
 |ptr (b o:Nat)
 |mY (r k:Nat) (i:SE) (o:Nat)
 |qJ (i o:Nat)
 |any
 deriving DecidableEq
structure SG where
 gs:Gs
 c:SC
 deriving DecidableEq
structure SR where
 e:SE
 k:Nat
 fl:Bool
 deep:Bool
 app:Bool
 fz:Bool
 deriving DecidableEq
structure SS where
 sl:List (Nat×SG)
 bx:List (Nat×List SB)
 rw:List (Nat×SR)
 deriving DecidableEq
section
variable (ρ:List D)
def iY:SB->C->Prop
 | .d e,c=>∃x,e.d ρ=some x/\c=.d x
 | .nil k fl,c=>c=.nil k fl
 | .ref r,c=>c=.ref r
 | .any,_=>True
def dv:List SB->List C->Prop
 |[],cs=>cs=[]
 |x::xs,cs=>∃c iC,cs=c::iC/\iY ρ x c/\dv xs iC
def ru:List (SB ⊕ List SB)->List C->Prop
 |[],cs=>cs=[]
 | .inl x::xs,cs=>∃c iC,cs=c::iC/\iY ρ x c/\ru xs iC
 | .inr l::xs,cs=>∃ds iC,cs=.agg ds::iC/\dv ρ l ds/\ru xs iC
def jQ:SC->C->Prop
 | .b x,c=>iY ρ x c
 | .agg xs,c=>∃cs,c=.agg cs/\dv ρ xs cs
 | .oH xs,c=>∃cs,c=.oH cs/\ru ρ xs cs
 | .ptr b o,c=>c=.ptr b o
 | .mY r k i o,c=>∃n,i.d ρ=some (.int .i64 n)/\c=.mY r k n.toNat o
 | .qJ i o,c=>∃x cs,nth ρ i=some x/\XA x=some cs/\c=.qJ (cs.drop o)
 | .any,_=>True
def pT(g:SG)(c:C):Prop:=∃b,gN ρ g.gs=some b/\(b=true->jQ ρ g.c c)/\(b=false->c=.qZ)
def TE(x:SR)(y:Row):Prop:=∃es,x.e.d ρ=some (.list x.k x.fl es)/\y=⟨es,x.k,x.fl,x.deep,x.app,x.fz⟩
structure Rel (S:SS) (s:St):Prop where
 sl:∀d g,look S.sl d=some g->pT ρ g (s.get d)
 bx:∀b xs,look S.bx b=some xs->∃cs,look s.bx b=some cs/\dv ρ xs cs
 rw:∀r x,look S.rw r=some x->∃y,look s.rw r=some y/\TE ρ x y
end
theorem za{α:Type}:∀{l m:List α} {i:Nat} {x:α},nth l i=some x->nth (l++m) i=some x
 |_::_,_,0,_,h=>by simpa [nth] using h
 |_::l,m,i+1,x,h=>by simp only[ai,nth]at h ⊢;exact za h
 |[],_,_,_,h=>by simp[nth]at h
theorem iF{α:Type}:∀(l:List α) (x:α) (m:List α),nth (l++x::m) l.length=some x
 |[],_,_=>rfl
 |_::l,x,m=>iF l x m
section
variable {ρ:List D} (τ:List D)
theorem SE.mono{e:SE}{x:D}(h:e.d ρ=some x):e.d (ρ++τ)=some x:=by
 cases e with
 |v i=>exact za h
 |k y=>exact h
 |c i j=>
  simp only[SE.d]at h ⊢
  split at h
  ·rename_i y hy;rw[za hy];exact h
  ·cases h
theorem jI:∀{gs:Gs} {b:Bool},gN ρ gs=some b->gN (ρ++τ) gs=some b
 |[],_,h=>h
 |(g,w)::gs,b,h=>by
  simp only[gN]at h ⊢
  split at h
  ·rename_i t ht;rw[SE.mono τ ht];simp only
   split at h
   ·rename_i hw;rw[if_pos hw];exact jI h
   ·rename_i hw;rw[if_neg hw];exact h
  ·cases h
theorem iY.mono:∀{x:SB} {c:C},iY ρ x c->iY (ρ++τ) x c
 | .d e,_,⟨x,h1,h2⟩=>⟨x,SE.mono τ h1,h2⟩
 | .nil _ _,_,h=>h
 | .ref _,_,h=>h
 | .any,_,_=>trivial
theorem dv.mono:∀{xs:List SB} {cs:List C},dv ρ xs cs->dv (ρ++τ) xs cs
 |[],_,h=>h
 |_::_,_,⟨c,iC,h1,h2,h3⟩=>⟨c,iC,h1,iY.mono τ h2,dv.mono h3⟩
theorem ru.mono:∀{xs:List (SB ⊕ List SB)} {cs:List C},ru ρ xs cs->ru (ρ++τ) xs cs
 |[],_,h=>h
 | .inl _::_,_,⟨c,iC,h1,h2,h3⟩=>⟨c,iC,h1,iY.mono τ h2,ru.mono h3⟩
 | .inr _::_,_,⟨c,iC,h1,h2,h3⟩=>⟨c,iC,h1,dv.mono τ h2,ru.mono h3⟩
theorem jQ.mono:∀{x:SC} {c:C},jQ ρ x c->jQ (ρ++τ) x c
 | .b _,_,h=>iY.mono τ h
 | .agg _,_,⟨cs,h1,h2⟩=>⟨cs,h1,dv.mono τ h2⟩
 | .oH _,_,⟨cs,h1,h2⟩=>⟨cs,h1,ru.mono τ h2⟩
 | .ptr _ _,_,h=>h
 | .mY _ _ _ _,_,⟨n,h1,h2⟩=>⟨n,SE.mono τ h1,h2⟩
 | .qJ _ _,_,⟨x,cs,h1,h2,h3⟩=>⟨x,cs,za h1,h2,h3⟩
 | .any,_,_=>trivial
theorem pT.mono{g:SG}{c:C}:pT ρ g c->pT (ρ++τ) g c
 |⟨b,h1,h2,h3⟩=>⟨b,jI τ h1,λh=>(h2 h).mono τ,h3⟩
theorem TE.mono{x:SR}{y:Row}:TE ρ x y->TE (ρ++τ) x y
 |⟨es,h1,h2⟩=>⟨es,SE.mono τ h1,h2⟩
theorem Rel.mono{S:SS}{s:St}(h:Rel ρ S s):Rel (ρ++τ) S s:=
 ⟨λd g hl=>(h.sl d g hl).mono τ,λb xs hl=>(h.bx b xs hl).imp λ_ hc=>⟨hc.1,hc.2.mono τ⟩,λr x hl=>(h.rw r x hl).imp λ_ hy=>⟨hy.1,hy.2.mono τ⟩⟩
end
def SB.kill(i:Nat):SB->SB
 | .ref r=>if r=i then .any else .ref r
 |x=>x
def SC.kill(i:Nat):SC->SC
 | .b x=>.b (x.kill i)
 | .agg xs=>.agg (xs.map (SB.kill i))
 | .oH xs=>.oH (xs.map λ| .inl x=>.inl (x.kill i) | .inr l=>.inr (l.map (SB.kill i)))
 | .ptr q o=>if q=i then .any else .ptr q o
 | .mY r k a o=>if r=i then .any else .mY r k a o
 |x=>x
def SS.kill(S:SS)(i:Nat):SS:=⟨S.sl.map λp=>(p.1,⟨p.2.gs,p.2.c.kill i⟩),S.bx.map λp=>(p.1,p.2.map (SB.kill i)),S.rw⟩
def SS.put(S:SS)(dst:Option Nat)(g:SG):SS:=
 match dst with
 |some d=>{S with sl:=(d,g)::S.sl }
 |none=>S
def SS.eO(S:SS)(b:Nat)(xs:List SB):SS:={S with bx:=(b,xs)::pg S.bx b }
def SS.setRow(S:SS)(r:Nat)(x:SR):SS:={S with rw:=(r,x)::pg S.rw r }
def SS.cM(S:SS)(r:Nat):SS:={S with rw:=pg S.rw r }
def SS.jK(S:SS)(b:Nat)(xs:List SB):SS:=(S.kill b).eO b xs
def SS.newRow(S:SS)(r:Nat)(x:SR):SS:=(S.kill r).setRow r x
def SS.cH(S:SS)(kp:j6):SS:=⟨gl S.sl kp.s,gl S.bx kp.b,gl S.rw kp.r⟩
section
variable {ρ:List D}
theorem iY.kill(i:Nat):∀{x:SB} {c:C},iY ρ x c->iY ρ (x.kill i) (c.kill i)
 | .d e,_,⟨x,h1,h2⟩=>by subst h2;exact⟨x,h1,rfl⟩
 | .nil _ _,_,h=>by simp only[iY]at h;subst h;rfl
 | .ref r,_,h=>by
  simp only[iY]at h;subst h;simp only[SB.kill,C.kill];split
  ·trivial
  ·rfl
 | .any,_,_=>trivial
theorem dv.kill(i:Nat):∀{xs:List SB} {cs:List C},dv ρ xs cs->dv ρ (xs.map (SB.kill i)) (C.jf i cs)
 |[],_,h=>by simp only[dv]at h;subst h;rfl
 |_::_,_,⟨c,iC,h1,h2,h3⟩=>by subst h1;exact⟨_,_,rfl,h2.kill i,dv.kill i h3⟩
theorem ru.kill(i:Nat):∀{xs:List (SB ⊕ List SB)} {cs:List C},ru ρ xs cs->ru ρ (xs.map λ| .inl x=>.inl (x.kill i) | .inr l=>.inr (l.map (SB.kill i))) (C.jf i cs)
 |[],_,h=>by simp only[ru]at h;subst h;rfl
 | .inl _::_,_,⟨c,iC,h1,h2,h3⟩=>by subst h1;exact⟨_,_,rfl,h2.kill i,ru.kill i h3⟩
 | .inr _::_,_,⟨ds,iC,h1,h2,h3⟩=>by subst h1;exact⟨_,_,rfl,h2.kill i,ru.kill i h3⟩
theorem jQ.kill(i:Nat):∀{x:SC} {c:C},jQ ρ x c->jQ ρ (x.kill i) (c.kill i)
 | .b _,_,h=>iY.kill i h
 | .agg _,_,⟨cs,h1,h2⟩=>by subst h1;exact⟨_,rfl,h2.kill i⟩
 | .oH _,_,⟨cs,h1,h2⟩=>by subst h1;exact⟨_,rfl,h2.kill i⟩
 | .ptr b o,_,h=>by
  simp only[jQ]at h;subst h;simp only[SC.kill,C.kill];split
  ·trivial
  ·rfl
 | .mY r k a o,_,⟨n,h1,h2⟩=>by
  subst h2;simp only[SC.kill,C.kill];split
  ·trivial
  ·exact⟨n,h1,rfl⟩
 | .qJ _ _,_,⟨x,cs,h1,h2,h3⟩=>by subst h3;exact⟨x,cs,h1,h2,rfl⟩
 | .any,_,_=>trivial
theorem nD{α β:Type}(f:α->β)(l:List (Nat×α))(d:Nat):look (l.map λp=>(p.1,f p.2)) d=(look l d).map f:=by
 induction l with
 |nil=>rfl
 |cons p l ih=>
  obtain⟨k,x⟩:=p;simp only[aQ,look,ih]
  split<;>rfl
theorem QM(s:St)(i d:Nat):(s.kill i).get d=(s.get d).kill i:=by
 simp only[St.get,St.kill,uo];cases look s.sl d<;>rfl
variable {S:SS} {s:St}
theorem Rel.kill(h:Rel ρ S s)(i:Nat):Rel ρ (S.kill i) (s.kill i) where
 sl d g hl:=by
  simp only[SS.kill]at hl;rw[nD (λg:SG=>(⟨g.gs,g.c.kill i⟩:SG)),ad]at hl;obtain⟨g',h1,rfl⟩:=hl;obtain⟨b,h2,h3,h4⟩:=h.sl d g' h1;rw[QM];exact⟨b,h2,λhb=>(h3 hb).kill i,λhb=>by rw[h4 hb];rfl⟩
 bx b xs hl:=by
  simp only[SS.kill]at hl;rw[nD (λxs:List SB=>xs.map (SB.kill i)),ad]at hl;obtain⟨Gg,h1,rfl⟩:=hl;obtain⟨cs,h2,h3⟩:=h.bx b Gg h1;exact⟨_,by simp only[St.kill,um,h2];rfl,h3.kill i⟩
 rw r x hl:=h.rw r x hl
theorem Ul(s:St)(d e:Nat)(c:C):(s.put (some d) c).get e=if d=e then c else s.get e:=by
 simp only[St.get,St.put,look]
 split<;>rfl
theorem Rel.put(h:Rel ρ S s)(dst:Option Nat){g:SG}{c:C}(hc:pT ρ g c):Rel ρ (S.put dst g) (s.put dst c):=by
 cases dst with
 |none=>exact h
 |some d=>exact {
   sl:=λe g' hl=>by
    simp only[SS.put,look]at hl;rw[Ul]
    split at hl
    ·rename_i he;cases hl;rw[if_pos he];exact hc
    ·rename_i he;rw[if_neg he];exact h.sl e g' hl
   bx:=h.bx
   rw:=h.rw }
theorem pT.nil{c:SC}{x:C}(h:jQ ρ c x):pT ρ ⟨[],c⟩ x:=⟨true,rfl,λ_=>h,λh=>by cases h⟩
theorem Rel.eO(h:Rel ρ S s)(b:Nat){xs:List SB}{cs:List C}(hc:dv ρ xs cs):Rel ρ (S.eO b xs) (s.eO b cs) where
 sl d g hl:=h.sl d g hl
 bx e ys hl:=by
  simp only[SS.eO,look,St.eO,dN]at hl ⊢
  split at hl
  ·rename_i he;cases hl;exact⟨cs,by rw[if_pos he],hc⟩
  ·rename_i he;rw[if_neg he,if_neg he];exact h.bx e ys hl
 rw r x hl:=h.rw r x hl
theorem Rel.setRow(h:Rel ρ S s)(r:Nat){x:SR}{y:Row}(hy:TE ρ x y):Rel ρ (S.setRow r x) (s.setRow r y) where
 sl d g hl:=h.sl d g hl
 bx e ys hl:=h.bx e ys hl
 rw q z hl:=by
  simp only[SS.setRow,look,St.setRow,dN]at hl ⊢
  split at hl
  ·rename_i he;cases hl;exact⟨y,by rw[if_pos he],hy⟩
  ·rename_i he;rw[if_neg he,if_neg he];exact h.rw q z hl
theorem Rel.cM(h:Rel ρ S s)(r:Nat):Rel ρ (S.cM r) (s.cM r) where
 sl d g hl:=h.sl d g hl
 bx e ys hl:=h.bx e ys hl
 rw q z hl:=by
  simp only[SS.cM,St.cM,dN]at hl ⊢
  split at hl
  ·cases hl
  ·rename_i he;rw[if_neg he];exact h.rw q z hl
theorem Rel.jK(h:Rel ρ S s)(b:Nat){xs:List SB}{cs:List C}(hc:dv ρ xs cs):Rel ρ (S.jK b xs) (s.jK b cs):=(h.kill b).eO b hc
theorem Rel.newRow(h:Rel ρ S s)(r:Nat){x:SR}{y:Row}(hy:TE ρ x y):Rel ρ (S.newRow r x) (s.newRow r y):=(h.kill r).setRow r hy
theorem gq{α:Type}(l:List (Nat×α)):∀(ds:List Nat) {e:Nat} {x:α},look (gl l ds) e=some x->look l e=some x/\e∈ds
 |[],_,_,h=>by simp[gl,look]at h
 |d::ds,e,x,h=>by
  unfold gl at h;cases hd:look l d with
  |none=>rw[hd]at h;have:=gq l ds h;exact⟨this.1,cz _ this.2⟩
  |some y=>
   rw[hd]at h;simp only[look]at h
   split at h
   ·rename_i he;subst he;cases h;exact⟨hd,eu⟩
   ·have:=gq l ds h;exact⟨this.1,cz _ this.2⟩
theorem pG{α:Type}(l:List (Nat×α)):∀(ds:List Nat) {e:Nat} {x:α},look l e=some x->e∈ds->look (gl l ds) e=some x
 |[],_,_,_,h=>by cases h
 |d::ds,e,x,h,hm=>by
  unfold gl;by_cases hd:d=e
  ·subst hd;rw[h];simp[look]
  ·have hm':e∈ds:=by
    rcases ay.1 hm with h1|h1
    ·exact absurd h1.symm hd
    ·exact h1
   cases look l d with
   |none=>exact pG l ds h hm'
   |some y=>simp only[look,if_neg hd];exact pG l ds h hm'
theorem Ao(s:St)(kp:j6){d:Nat}(h:d∈kp.s):(s.cH kp).get d=s.get d:=by
 simp only[St.get,St.cH];cases hl:look s.sl d with
 |some x=>rw[pG _ _ hl h]
 |none=>
  cases hk:look (gl s.sl kp.s) d with
  |none=>rfl
  |some x=>rw[(gq _ _ hk).1]at hl;cases hl
theorem Rel.cH(h:Rel ρ S s)(kp:j6):Rel ρ (S.cH kp) (s.cH kp) where
 sl d g hl:=by
  obtain⟨h1,h2⟩:=gq _ _ hl;rw[Ao s kp h2];exact h.sl d g h1
 bx b xs hl:=by
  obtain⟨h1,h2⟩:=gq _ _ hl;obtain⟨cs,h3,h4⟩:=h.bx b xs h1;exact⟨cs,pG _ _ h3 h2,h4⟩
 rw r x hl:=by
  obtain⟨h1,h2⟩:=gq _ _ hl;obtain⟨y,h3,h4⟩:=h.rw r x h1;exact⟨y,pG _ _ h3 h2,h4⟩
end
end
section
inductive PO where
 |eP (o:Nat)
 |has (n:Nat)
 |bin (op:BinOp)
 |uG (op:BinOp)
 |not
 |neg
 |conv (k:IntKind)
 |len
 |kJ
 |min
 |max
 |kV
 |el (k:Nat)
 |kQ
 |nk (k o n:Nat) (deep:Bool)
 |ite
 |I_ (hi:Bool)
 |yc (k:Nat) (hi:Bool)
 |yk
 |dV (k:Nat) (fl:Bool)
 |make (k by_:Nat) (fl:Bool) (zs:List SK)
 |app (k by_:Nat)
 |set (o:Nat)
 |cut (hi:Bool)
 |xL
 |Rk
 |Rj
 |lst (k:Nat) (fl:Bool)
 |tru
 |pl
 |vV
 deriving DecidableEq
def dI:D->Option Nat
 | .int .i64 n=>if 0<=n then some n.toNat else none
 |_=>none
def chunk(k:Nat):Nat->List D->Option (List (List D))
 |0,[]=>some []
 |0,_=>none
 |m+1,xs=>if k<=xs.length then (chunk k m (xs.drop k)).map (xs.take k::·) else none
def asD:Option C->Option D
 |some (.d x)=>some x
 |_=>none
def aJ:PO->List D->Option D
 | .eP o,[x]=>match XA x with
  |some cs=>nth cs o
  |none=>none
 | .has n,[x]=>match XA x with
  |some cs=>if n<=cs.length then some (.bool false) else none
  |none=>none
 | .bin op,[x,y]=>asD (M_ op (.d x) (.d y))
 | .uG op,[.bool a,.bool b]=>Pv op a b
 | .not,[.bool b]=>some (.bool (!b))
 | .neg,[.int k a]=>some (.int k (k.wrap (-a)))
 | .conv k,[.int _ a]=>some (.int k (k.wrap a))
 | .len,[.list _ _ es]=>some (.int .i64 es.length)
 | .kJ,[.str t]=>some (.int .i64 t.size)
 | .min,[.int .i64 a,.int .i64 b]=>some (.int .i64 (if b < a then b else a))
 | .max,[.int .i64 a,.int .i64 b]=>some (.int .i64 (if a < b then b else a))
 | .kV,[.str t,.int .i64 n]=>if 0<=n/\n.toNat < t.size then some (.int .u8 (da t n.toNat)) else none
 | .el k,[.list k' _ es,.int .i64 n]=>if 0<=n/\k'=k then (nth es n.toNat).map λe=>.list 0 false [e] else none
 | .kQ,[.list _ _ es,.int .i64 n]=>if 0<=n/\n.toNat < es.length then some (.bool false) else none
 | .nk k o n deep,[.list k' _ es,.int .i64 i]=>match nth es i.toNat with
  |some e=>if k'=k/\o+n<=k/\o+n<=e.length/\(cQ ((e.drop o).take n) ||!deep)=true then some (.list 0 false [e]) else none
  |none=>none
 | .ite,[.bool b,x,y]=>some (if b then x else y)
 | .I_ false,[.str t,lo]=>match dI lo with
  |some a=>if a<=t.size then some (.str (t.extract a t.size)) else none
  |none=>none
 | .I_ true,[.str t,lo,hi]=>match dI lo,dI hi with
  |some a,some b=>if a<=b/\b<=t.size then some (.str (t.extract a b)) else none
  |_,_=>none
 | .yc k false,[.list k' fl es,lo]=>match dI lo with
  |some a=>if k'=k/\a<=es.length then some (.list k' fl (es.drop a)) else none
  |none=>none
 | .yc k true,[.list k' fl es,lo,hi]=>match dI lo,dI hi with
  |some a,some b=>if k'=k/\a<=b/\b<=es.length then some (.list k' fl ((es.take b).drop a)) else none
  |_,_=>none
 | .yk,[.list 1 _ es]=>(bytesOf es).map λxs=>.str ⟨(xs.map λn=>cL n.toNat).toArray⟩
 | .dV k fl,xs=>if xs.length % k=0 then match chunk k (xs.length / k) xs with
   |some es=>if fl=true->es.all cQ=true then some (.list k fl es) else none
   |none=>none
  else none
 | .make k by_ fl zs,[.int .i64 n]=>if 0<=n/\n.toNat * by_<=room/\n<=4611686018427387904 then some (.list k fl (aE n.toNat (zs.map SK.d))) else none
 | .app k by_,[.list k1 f1 es,.list k2 f2 ja]=>if k1=k/\k2=k/\f1=f2/\(es.length+ja.length) * by_<=room/\es.length+ja.length<=maxLen then some (.list k f1 (es++ja)) else none
 | .set o,.list k fl es::.int .i64 i::ds=>match nth es i.toNat with
  |some e=>if o+ds.length<=k/\(fl=true->cQ ds=true) then some (.list k fl (es.set i.toNat (fR e o ds))) else none
  |none=>none
 | .cut false,[.list k fl es,lo]=>match dI lo with
  |some a=>if a<=es.length then some (.list k fl (es.drop a)) else none
  |none=>none
 | .cut true,[.list k fl es,lo,hi]=>match dI lo,dI hi with
  |some a,some b=>if a<=b/\b<=es.length then some (.list k fl ((es.take b).drop a)) else none
  |_,_=>none
 | .xL,[.list k fl es,.list k' sR ja]=>if k'=k/\sR=true/\fl=true/\ja.length=es.length then some (.list k fl ja) else none
 | .Rk,[.list k fl es,.list k' _ ja]=>if k=1/\k'=1/\fl=true/\ja.length=es.length/\ja≠[] then (match jt es,jt ja with
   |some bs,some cs=>some (.list 1 true ((cG bs cs).map λb=>[D.bool b]))
   |_,_=>none) else none
 | .Rj,[.list _ _ es,.list _ _ ja]=>match jt es,jt ja with
   |some bs,some cs=>some (.bool (lb bs cs))
   |_,_=>none
 | .lst k fl,[.list k' sR es]=>if k'=k/\sR=fl then some (.list k fl es) else none
 | .tru,[.bool b]=>some (.bool b)
 | .pl,xs=>if cQ xs=true then some (.bool false) else none
 | .vV,xs=>if cQ xs=true then none else some (.bool false)
 |_,_=>none
def gR(ρ:List D):List SE->Option (List D)
 |[]=>some []
 |e::es=>match e.d ρ with
  |some x=>(gR ρ es).map (x::·)
  |none=>none
abbrev Bs:=List (PO×List SE)
def jq(ρ:List D):Bs->Option (List D)
 |[]=>some ρ
 |(o,es)::bs=>match gR ρ es with
  |some xs=>match aJ o xs with
   |some x=>jq (ρ++[x]) bs
   |none=>none
  |none=>none
def eR(S:SS)(gs:Gs):KX->Option SC
 | .s d=>match look S.sl d with
  |some g=>if g.gs.all (λp=>decide (p∈gs)) then some g.c else none
  |none=>none
 | .k (.d (.int k n))=>some (.b (.d (.k (.int k n))))
 | .k (.d (.bool b))=>some (.b (.d (.k (.bool b))))
 | .k (.d (.str t))=>some (.b (.d (.k (.str t))))
 | .k (.nil k fl)=>some (.b (.nil k fl))
 |_=>none
def sD:Option SC->Option SE
 |some (.b (.d e))=>some e
 |_=>none
section
variable {ρ:List D} {S:SS} {s:St} {gs:Gs}
theorem lP:∀{gs:Gs},gN ρ gs=some true->∀p∈gs,p.1.d ρ=some (.bool p.2)
 |[],_,_,hp=>by cases hp
 |(g,w)::gs,h,p,hp=>by
  simp only[gN]at h
  split at h
  ·rename_i b hb
   split at h
   ·rename_i hw;subst hw;rcases ay.1 hp with rfl|hp
    ·exact hb
    ·exact lP h p hp
   ·cases h
  ·cases h
theorem C4:∀{gs:Gs},(∀p∈gs,p.1.d ρ=some (.bool p.2))->gN ρ gs=some true
 |[],_=>rfl
 |(g,w)::gs,h=>by
  have h1:=h (g,w) (by simp);simp only at h1
  simp only[gN,h1,if_true];exact C4 λp hp=>h p (by simp[hp])
theorem JI{gs gs':Gs}(h:gN ρ gs=some true)(hs:gs'.all (λp=>decide (p∈gs))=true):gN ρ gs'=some true:=
 C4 λp hp=>lP h p (by simpa using aS.1 hs p hp)
theorem cj(h:Rel ρ S s)(hg:gN ρ gs=some true){x:KX}{c:SC}(hx:eR S gs x=some c):jQ ρ c (eW s x):=by
 unfold eR at hx
 split at hx
 ·rename_i d
  split at hx
  ·rename_i g hl
   split at hx
   ·rename_i hs;cases hx;obtain⟨b,h1,h2,_⟩:=h.sl d g hl;rw[JI hg hs]at h1;cases h1;exact h2 rfl
   ·cases hx
  ·cases hx
 ·cases hx;exact⟨_,rfl,rfl⟩
 ·cases hx;exact⟨_,rfl,rfl⟩
 ·cases hx;exact⟨_,rfl,rfl⟩
 ·cases hx;rfl
 ·cases hx
theorem j8(h:Rel ρ S s)(hg:gN ρ gs=some true){x:KX}{e:SE}(hx:sD (eR S gs x)=some e):∃y,e.d ρ=some y/\eW s x=.d y:=by
 unfold sD at hx
 split at hx
 ·rename_i e' he;cases hx;exact cj h hg he
 ·cases hx
theorem ee{e:SE}{xs:List D}(h:gR ρ [e]=some xs):∃x,e.d ρ=some x/\xs=[x]:=by
 simp only[gR]at h
 split at h
 ·rename_i x hx;simp only[aD,aa]at h;exact⟨x,hx,h.symm⟩
 ·cases h
theorem cS{e:SE}{es:List SE}{xs:List D}(h:gR ρ (e::es)=some xs):∃x ys,e.d ρ=some x/\gR ρ es=some ys/\xs=x::ys:=by
 simp only[gR]at h
 split at h
 ·rename_i x hx;simp only[ad]at h;obtain⟨ys,h1,h2⟩:=h;exact⟨x,ys,hx,h1,h2.symm⟩
 ·cases h
theorem dG{o:PO}{es:List SE}{gx:List D}(h:jq ρ [(o,es)]=some gx):∃xs x,gR ρ es=some xs/\aJ o xs=some x/\gx=ρ++[x]:=by
 simp only[jq]at h
 split at h
 ·rename_i xs HG
  split at h
  ·rename_i x hx;cases h;exact⟨xs,x,HG,hx,rfl⟩
  ·cases h
 ·cases h
theorem nS:∀{bs:Bs} {ρ gx:List D},jq ρ bs=some gx->∃τ,gx=ρ++τ
 |[],ρ,gx,h=>by cases h;exact⟨[],by simp⟩
 |(o,es)::bs,ρ,gx,h=>by
  simp only[jq]at h
  split at h
  ·split at h
   ·rename_i x hx;obtain⟨τ,h1⟩:=nS h;exact⟨x::τ,by rw[h1];simp⟩
   ·cases h
  ·cases h
end
end
end Go.Proofs.YtcdjbelccndadaaGreatDoor
